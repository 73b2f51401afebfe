/- Part of the proof of FieldFlat and FieldMarshals. -/
import Derived.Test.YtmkjeaacgibnoaaGreatY32
import Derived.Deep.DeepMust
import Derived.Maps.RangeWalk
set_option linter.all false
open Go.Proofs renaming getElem?_lt'->aa
open Go.Lib renaming hid->ab
open Go.RowKit.Below renaming refl->ac
open Nat renaming le_refl->ad,zero_le->ae,lt_of_lt_of_le->ag,le_trans->ai,le_of_lt->ao
open Go.Act renaming put->ap
open List renaming setIfInBounds_toArray->aq,set_cons_zero->ar,set_cons_succ->aw,find?_cons->aB,range->aF,mem_mapIdx->aI
open Go.World renaming cell?->aJ,size_alloc->aL
open And renaming intro->aP,symm->aT
open Go renaming Operand->a5,execOp->a6,MapEntry->a7,underlying->a8,wpList->a9,wpList_plain->ba
open Go.Instr renaming findNow->bc,lookup->bd,mapUpdate->bg
open Go.MapKept renaming run_getObj_map->bi
open Array renaming getElem?_setIfInBounds_ne->bj,mem_filter->bm
namespace Go.Proofs
open Go.RowKit Go.Shelf
attribute [local go_sem] Oper.semAt_some
set_option maxRecDepth 100000
set_option maxHeartbeats 4000000
structure KT(C:CD)(w W:World):Prop where
 box:W.heap[w.heap.size]?=some (.cells C.val 121)
 low:Below w.heap.size w W
def KT.on{C:CD}{w W a:World}(h:KT C w W)(b:Below W.heap.size W a):KT C w a:=
 ⟨(b.block _ (aa h.box)).trans h.box,Below.on h.low b⟩
def qP(C:CD)(p:Nat):Bool:=decide (∀g,g<p->(nU C g).2<=C.l)
def IF{C:CD}{p:Nat}(h:qP C p=true)(k:(nU C p).2<=C.l):qP C (p+1)=true:=by
 simp only[qP,decide_eq_true_eq]at *;intro g hg
 rcases Nat.lt_succ_iff_lt_or_eq.1 hg with a|rfl
 ·exact h g a
 ·exact k
def Sk{C:CD}{p n:Nat}(a:p<n)(k:¬(nU C p).2<=C.l):qP C n=false:=by
 simp only[qP,decide_eq_false_iff_not];exact λh=>k (h p a)
def ag1(a b:Int)(W:World):Sem.run PL (Instr.field 35 (.agg #[.int .i64 a,.int .i64 b]) 1) W=.ok (.int .i64 b) W:=by kernel_rfl
def VY(C:CD)(n:Nat)(w:World)(h:C.At w)(hc:C.cx=0)(m5:C.n5<=3)
 (q:∀W,C.At W->Calls PL 111 #[.agg C.val] W λe w'=>∃b c,e=.returned (.slice b n c)/\Below W.heap.size W w') :
 Calls PL 114 #[.agg C.val] w (aO (.bool (qP C C.n5&&decide (n=0))) w):=by
 have r:=ab h;have j:=ab q;have v:=ab hc;have x:Hid (KT C w (w.alloc (.cells C.val 121))):=ab ⟨au _ _,(ac _ _).alloc (ad _) _⟩;clear h q hc
 go_enter (fx (by decide) Tryz.func114),Tryz.ntmps114
 go_wp2
 go_loopw [8] (λk wr=>∃p:Nat,p<=C.n5/\k=.int .i64 p/\qP C p=true/\KT C w wr) (λk _=>C.n5-(intOf k).toNat)
 case atStart=>exact⟨0,ae _,rfl,by simp[qP],x.out⟩
 case round=>
  obtain⟨p,K,rfl,hs,s⟩:=hrel;have f:=ab s;have t:=ab hs;clear s hs;by_cases i:p<C.n5
  ·have y:(p:Int)<C.n5:=by omega
   have z:=ab (Sa C v.out i)
   go_upto_region 4 with fail
   refine ig (KT C w) (λ_ _=>True) (λ_=>true) (λ_ _ _=>True) rfl (by kernel_rfl) (λ_ _ _ _ _ _=>trivial) (λ_ _ _ _ _ _ _ _ _=>trivial) ⟨f.out.box,f.out.low.drew⟩ ?_
   iterate 8 (
    apply aY
    case hE=>rfl
    case h=>
     intro vs W d hd;obtain⟨A,B,D,E,f4,F⟩:=bf d.box;have q1:=ag1
     go_simp
     first
     |(go_at_call 118;refine(Lm C p z.out _ (r.out.below d.low)).mono ?_;rintro e L⟨rfl,H⟩;exact⟨_,rfl,rfl,d.on H⟩)
     |exact rfl
    case hb=>intro vs;simp only[ap,aq,ar,aw];rfl)
   refine cP λvs W d hd=>?_;have g:=ab d;clear hd d;by_cases a:(nU C p).2<=C.l
   ·have m:=ab a;have I:¬(C.l<(nU C p).2):=by omega
    clear a
    go_wp2
    exact⟨⟨p+1,i,by go_num,IF t.out m.out,g.out⟩,by simp only[intOf];omega⟩
   ·have m:=ab a;have I:C.l<(nU C p).2:=by omega
    clear a
    go_wp2
    go_ret
    have hs:=Sk i (Int.not_le.2 m.out);refine⟨?_,g.out.low⟩;rw[hs,Bool.false_and];rfl
  ·have o:p=C.n5:=by omega
   have y:¬((p:Int)<C.n5):=by omega
   clear i;obtain⟨A,B,D,E,f4,F⟩:=bf f.out.box
   go_wp2_with (go_at_call 111;refine(j.out _ (r.out.below f.out.low)).mono ?_;rintro e w2⟨b,c,rfl,u⟩;have J:=ab (f.out.on u);clear u)
   go_ret
   have hs:qP C C.n5=true:=by have h:=t.out;first|(rw[o]at h;exact h)|exact h
   have e:((n:Int)==0)=decide (n=0):=by by_cases h:n=0<;>simp[h]
   refine⟨?_,J.out.low⟩;rw[hs,e,Bool.true_and];rfl
def ag2:PL.underlying 57=some (.slice 64):=by kernel_rfl
def aaX:(PL.info? 64).map (λi=>(i.zero,i.size,i.bytes))=some (some (.agg #[.int .i64 0,.int .i64 0,.int .i64 0,.int .i64 0,.int .i64 0]),5,40):=by kernel_rfl
def kV(W:World)(base:Nat)(v:Value)(l:List nR):Prop:=W.ownsRow base 64 5 v l.length (l.flatMap vV)
def kV.alloc{W:World}{base:Nat}{v:Value}{l:List nR}(h:kV W base v l)(o:Obj):kV (W.alloc o) base v l:=World.ownsRow.alloc h o
def kV.on{W b:World}{base:Nat}{v:Value}{l:List nR}(h:kV W base v l)(d:Below W.heap.size W b):kV b base v l:=by
 obtain⟨c,h⟩:=h
 rcases h with h|⟨g,cap,a,e1,hb,hg,e⟩
 ·exact⟨c,.inl h⟩
 ·exact⟨c,.inr ⟨g,cap,a,e1,hb,(d.block _ (aa hg)).trans hg,e⟩⟩
def Cv(d:Int)(p:Nat):List nR:=if d=1/\p=3 then[(0,1,2,0,13)] else[]
def z61:Array Value:=#[.int .i64 0,.int .i64 0,.int .i64 0,.int .i64 0,.int .i64 0]
def IG(n0:Nat)(A:Array Value)(j:Nat)(vs:Nat->Value)(W:World):Prop:=
 (j=14->∃k,vs 14=.pointer (some ⟨k,0,none⟩)/\n0<=k/\k<W.heap.size/\∃x0 x1 x2 x3 x4,W.heap[k]?=some (.cells #[x0,x1,x2,x3,x4] 61))/\
 (j=15->∃k,vs 15=.pointer (some ⟨k,0,none⟩)/\n0<=k/\k<W.heap.size/\W.heap[k]?=some (.cells z61 61))/\
 (j=16->∃k,vs 14=.pointer (some ⟨k,0,none⟩)/\W.heap[k]?=some (.cells A 61))
def ExT(t:Nat):Bool:=t != 14&&t != 15&&t != 16
def neT(i j:Nat)(u v:Value):Prop:=(i=14/\j=15\/i=15/\j=14)->u≠v
def IG.le{n0:Nat}{A:Array Value}{j:Nat}{vs:Nat->Value}{W g:World}(h:IG n0 A j vs W)(b:Below W.heap.size W g):IG n0 A j vs g:=
 ⟨λe=>(h.1 e).imp λq⟨c,f,d,x0,x1,x2,x3,x4,a⟩=>⟨c,f,ag d b.size,x0,x1,x2,x3,x4,(b.block _ d).trans a⟩,
  λe=>(h.2.1 e).imp λq⟨c,f,d,a⟩=>⟨c,f,ag d b.size,(b.block _ d).trans a⟩,
  λe=>(h.2.2 e).imp λq⟨c,a⟩=>⟨c,(b.block _ (aa a)).trans a⟩⟩
def Sl{n0:Nat}{A:Array Value}{W:World}{vs:Nat->Value}{D:List Nat}{i:Nat}(f:n0<=W.heap.size)(hi:i=14\/i=15)(hd:∀j∈D,ExT j=false->IG n0 A j vs W) :
 (∀j∈D,ExT j=false->IG n0 A j vs (W.alloc (.cells z61 61)))/\IG n0 A i (upd vs i (.pointer (some ⟨W.heap.size,0,none⟩))) (W.alloc (.cells z61 61))/\∀j∈D,ExT j=false->neT j i (vs j) (.pointer (some ⟨W.heap.size,0,none⟩)):=by
 have g:=(ac W.heap.size W).alloc (ad _) (.cells z61 61);refine⟨λj c d=>(hd j c d).le g,⟨λe=>⟨W.heap.size,by simp[upd,e],f,by simp,_,_,_,_,_,au _ _⟩,λe=>⟨W.heap.size,by simp[upd,e],f,by simp,au _ _⟩,λe=>by omega⟩,λj c d e1 e=>?_⟩;obtain⟨q,a,b⟩:∃q,vs j=.pointer (some ⟨q,0,none⟩)/\q<W.heap.size:=by
  rcases e1 with⟨rfl,_⟩|⟨rfl,_⟩
  ·obtain⟨q,a,_,b,_⟩:=(hd _ c d).1 rfl;exact⟨q,a,b⟩
  ·obtain⟨q,a,_,b,_⟩:=(hd _ c d).2.1 rfl;exact⟨q,a,b⟩
 rw[a]at e;cases e;exact Nat.lt_irrefl _ b
structure KR(C:CD)(w:World)(k:Nat)(L:List Int)(B:Nat)(W:World):Prop where
 pK:B<=W.heap.size
 kl:k<B
 bl:w.heap.size<B
 box:W.heap[w.heap.size]?=some (.cells C.val 121)
 row:Row W k (L.map bh)
 low:Below w.heap.size w W
def KR.on{C:CD}{w W b:World}{k:Nat}{L:List Int}{B:Nat}(h:KR C w k L B W)(a:Below W.heap.size W b):KR C w k L B b:=
 ⟨ai h.pK a.size,h.kl,h.bl,(a.block _ (aa h.box)).trans h.box,h.row.on a,Below.on h.low a⟩
def Below.ag3{B:Nat}{a w:World}(h:Below B a w){k:Nat}(b:B<=k)(u0 u1 u2 u3 u4:Value):Below B a (((((w.setCell ⟨k,0,none⟩ u0).setCell ⟨k,1,none⟩ u1).setCell ⟨k,2,none⟩ u2).setCell ⟨k,3,none⟩ u3).setCell ⟨k,4,none⟩ u4):=
 ((((h.setCell (p:=⟨k,0,none⟩) b _).setCell (p:=⟨k,1,none⟩) b _).setCell (p:=⟨k,2,none⟩) b _).setCell (p:=⟨k,3,none⟩) b _).setCell (p:=⟨k,4,none⟩) b _
def vB{W:World}{base e size n:Nat}{v:Value}{xs:List Value}(h:W.ownsRow base e size v n xs):∃b c,v=.slice b n c:=by
 rcases h.2 with⟨rfl,a⟩|⟨g,cap,d,rfl,_⟩
 ·exact⟨none,0,by rw[a]⟩
 ·exact⟨_,_,rfl⟩
def Sm{W:World}{b:Nat}{x:nR}{t:TypeId}(h:W.heap[b]?=some (.cells #[.int .i64 x.1,.int .i64 x.2.1,.int .i64 x.2.2.1,.int .i64 x.2.2.2.1,.int .i64 x.2.2.2.2] t)):∀(j:Nat)(u:Value),(vV x)[j]?=some u->W.cell? ((⟨b,0,none⟩:Addr).add j)=some u:=by
 intro j u e
 match j,e with
 |0,e=>cases e;simp[aJ,Addr.add,h]
 |1,e=>cases e;simp[aJ,Addr.add,h]
 |2,e=>cases e;simp[aJ,Addr.add,h]
 |3,e=>cases e;simp[aJ,Addr.add,h]
 |4,e=>cases e;simp[aJ,Addr.add,h]
 |j+5,e=>simp[vV]at e
def KR.alloc{C:CD}{w W:World}{k:Nat}{L:List Int}{B:Nat}(h:KR C w k L B W)(o:Obj):KR C w k L B (W.alloc o):=h.on ((ac _ _).alloc (ad _) o)
def vC(C:CD)(d:Int)(hd:d=0\/d=1)(h4:C.n4=3)(h5:C.n5=2)(w:World)(h:C.At w)
 (HT:∀W,C.At W->Calls PL 98 #[.agg C.val] W λe w'=>∃k,e=.returned (.pointer (some ⟨k,0,none⟩))/\Row w' k ((mC d).map bh)/\Below W.heap.size W w') :
 Calls PL 111 #[.agg C.val] w λe w'=>∃v,e=.returned v/\kV w' w.heap.size v (Cv d 3)/\Below w.heap.size w w':=by
 have HA:=ab h;have HTT:=ab HT;have K0:Hid (KT C w (w.alloc (.cells C.val 121))):=ab ⟨au _ _,(ac _ _).alloc (ad _) _⟩;have H4:=ab h4;have H5:=ab h5;clear h HT h4 h5
 go_enter (fx (by decide) Tryz.func111),Tryz.ntmps111
 go_upto_region 1 with fail
 obtain⟨W0,kS⟩:∃W0:World,W0=w.alloc (.cells C.val 121):=⟨_,rfl⟩
 rw[<-kS]at K0 ⊢;clear kS;obtain⟨H,I,J,K,f4,L⟩:=bf K0.out.box
 go_wp2_with (go_at_call 98;refine(HTT.out _ (HA.out.below K0.out.low)).mono ?_;rintro e w2⟨k,rfl,hR,qA⟩;have k2:=K0.out.on qA;clear qA H I J K f4 L;have y:Hid (KR C w k (mC d) w2.heap.size w2):=ab (KR.mk (ad _) hR.1 (aa k2.box) k2.box hR k2.low);clear k2 hR;obtain⟨H,I,J,K,f4,L⟩:=bf y.out.box)
 go_loopw [4,19] (λU V wr=>∃a:Nat,a<=2/\V=.int .i64 a/\kV wr w2.heap.size U (if a=0 then[] else Cv d 3)/\KR C w k (mC d) w2.heap.size wr) (λ_ V _=>2-(intOf V).toNat)
 case atStart=>exact⟨0,ae _,rfl,⟨rfl,.inl ⟨rfl,rfl⟩⟩,y.out⟩
 case round=>
  obtain⟨a,ha,rfl,O,P⟩:=hrel;clear H I J K f4 L;have HO:=ab O;have HK:=ab P;have N5:Hid ((C.n5:Int)=2):=ab (by rw[H5.out];rfl);have N4:Hid ((C.n4:Int)=3):=ab (by rw[H4.out];rfl);clear O P y;obtain⟨H,I,J,K,f4,L⟩:=bf HK.out.box
  match a,ha with
  |2,_=>
   have i1:¬((2:Int)<C.n5):=by rw[N5.out];decide
   obtain⟨b,c,rfl⟩:=vB HO.out;have hm:(Cv d 3).length<=1:=by unfold Cv;split<;>simp
   go_wp2_with (go_at_call 146;refine(Iz _ _ _ _ _ hm).mono ?_;rintro e w3⟨rfl,rfl⟩)
   go_ret
   exact⟨_,rfl,dJ HO.out (ao HK.out.bl),HK.out.low⟩
  |1,_=>
   have i1:((1:Int)<C.n5):=by rw[N5.out];decide
   have i2:¬((2:Int)<C.n5):=by rw[N5.out];decide
   go_wp2
   go_loopw [4,6] (λU v6 wq=>U=u4/\v6=.int .i64 2/\wq=wr) (λ_ _ _=>0)
   case atStart=>exact⟨rfl,rfl,rfl⟩
   case round=>
    obtain⟨rfl,rfl,rfl⟩:=hrel
    go_wp2
    exact⟨⟨2,by omega,rfl,HO.out,HK.out⟩,by simp[intOf]⟩
  |0,_=>
   have i1:((0:Int)<C.n5):=by rw[N5.out];decide
   have i2:((1:Int)<C.n5):=by rw[N5.out];decide
   have i3:¬((2:Int)<C.n5):=by rw[N5.out];decide
   clear H I J K f4 L
   go_wp2
   go_loopw [4,6] (λU v6 wq=>∃b:Nat,1<=b/\b<=2/\v6=.int .i64 b/\kV wq w2.heap.size U (if b=1 then[] else Cv d 3)/\KR C w k (mC d) w2.heap.size wq) (λ_ v6 _=>2-(intOf v6).toNat)
   case atStart=>exact⟨1,by omega,by omega,rfl,HO.out,HK.out⟩
   case round=>
    obtain⟨b,lq,eP,rfl,O,P⟩:=hrel;have X:=ab O;have M:=ab P;clear O P HO HK;obtain⟨H,I,J,K,f4,L⟩:=bf M.out.box
    match b,lq,eP with
    |2,_,_=>
     go_wp2
     exact⟨⟨1,by omega,rfl,X.out,M.out⟩,by simp[intOf]⟩
    |1,_,_=>
     go_wp2
     go_loopw [4,36] (λU Y wp=>∃p:Nat,p<=3/\Y=.int .i64 p/\kV wp w2.heap.size U (Cv d p)/\KR C w k (mC d) w2.heap.size wp) (λ_ Y _=>3-(intOf Y).toNat)
     case atStart=>exact⟨0,by omega,rfl,by simpa[Cv]using X.out,M.out⟩
     case round=>
      obtain⟨p,hp,rfl,O,P⟩:=hrel;have HO3:=ab O;have B:=ab P;clear O P X M H I J K f4 L
      rcases Nat.lt_or_ge p 3 with aH|ve
      case inr=>
       obtain rfl:p=3:=by omega
       have i4:¬((3:Int)<C.n4):=by rw[N4.out];decide
       go_wp2
       exact⟨⟨2,by omega,by omega,rfl,HO3.out,B.out⟩,by simp[intOf]⟩
      have i4:((p:Int)<C.n4):=by rw[N4.out];omega
      have i5:((p:Int)<5):=by omega
      have tl:(mC d).length=75:=by rcases hd with rfl|rfl<;>rfl
      have cell:∀j,j<75->wr.cell? ⟨k,j,none⟩=some (.int .i64 ((mC d).getD j 0)):=λj hj=>B.out.row.getD (by omega);obtain⟨a0,ea0⟩:∃x,x=(mC d).getD (p*5) 0:=⟨_,rfl⟩
      obtain⟨a1,f⟩:∃x,x=(mC d).getD (p*5+1) 0:=⟨_,rfl⟩
      obtain⟨a2,g⟩:∃x,x=(mC d).getD (p*5+2) 0:=⟨_,rfl⟩
      obtain⟨a3,l⟩:∃x,x=(mC d).getD (p*5+3) 0:=⟨_,rfl⟩
      obtain⟨a4,m⟩:∃x,x=(mC d).getD (p*5+4) 0:=⟨_,rfl⟩
      obtain⟨b0,eb0⟩:∃x,x=(mC d).getD (25+p*5) 0:=⟨_,rfl⟩
      obtain⟨b1,n⟩:∃x,x=(mC d).getD (25+p*5+1) 0:=⟨_,rfl⟩
      obtain⟨b2,r⟩:∃x,x=(mC d).getD (25+p*5+2) 0:=⟨_,rfl⟩
      obtain⟨b3,s⟩:∃x,x=(mC d).getD (25+p*5+3) 0:=⟨_,rfl⟩
      obtain⟨b4,t⟩:∃x,x=(mC d).getD (25+p*5+4) 0:=⟨_,rfl⟩
      have T:Hid (wr.cell? ⟨k,p*5,none⟩=some (.int .i64 a0)/\wr.cell? ⟨k,p*5+1,none⟩=some (.int .i64 a1)/\wr.cell? ⟨k,p*5+2,none⟩=some (.int .i64 a2)/\wr.cell? ⟨k,p*5+3,none⟩=some (.int .i64 a3)/\wr.cell? ⟨k,p*5+4,none⟩=some (.int .i64 a4)/\
       wr.cell? ⟨k,25+p*5,none⟩=some (.int .i64 b0)/\wr.cell? ⟨k,25+p*5+1,none⟩=some (.int .i64 b1)/\wr.cell? ⟨k,25+p*5+2,none⟩=some (.int .i64 b2)/\wr.cell? ⟨k,25+p*5+3,none⟩=some (.int .i64 b3)/\wr.cell? ⟨k,25+p*5+4,none⟩=some (.int .i64 b4)):=ab
       ⟨by rw[ea0];exact cell _ (by omega),by rw[f];exact cell _ (by omega),by rw[g];exact cell _ (by omega),by rw[l];exact cell _ (by omega),by rw[m];exact cell _ (by omega),by rw[eb0];exact cell _ (by omega),by rw[n];exact cell _ (by omega),by rw[r];exact cell _ (by omega),by rw[s];exact cell _ (by omega),by rw[t];exact cell _ (by omega)⟩
      have EA:=ab (aP f (aP g (aP l (aP m (aP n (aP r (aP s t)))))));have Ll:=B.out.row.1;clear cell tl ea0 f g l m eb0 n r s t;obtain⟨H,I,J,K,f4,L⟩:=bf B.out.box
      go_upto_region 12 with fail
      clear H I J K f4 L;refine iL 17 14 (λ_ W=>Below wr.heap.size wr W) (λW W'=>Below W.heap.size W W') ExT (λ_=>IG wr.heap.size #[.int .i64 a0,.int .i64 a1,.int .i64 a2,.int .i64 a3,.int .i64 a4]) neT (λ_ _ _ _ h e=>(h (e.symm.imp aT aT)).symm) rfl (by kernel_rfl) (by kernel_rfl) rfl
       (λ_ i vs W W' hle h=>h.le hle) (λi o ho vs eX W he aaZ _ h=>⟨λe=>by subst e;rw[<-he];exact h.1 rfl,λe=>by subst e;rw[<-he];exact h.2.1 rfl,λe=>?_⟩) (ac _ _).drew ?_
      ·subst e;have e14:vs 14=eX 14:=by
        simp only[List.getElem?_toArray,List.getElem?_cons_succ,List.getElem?_cons_zero,Option.some.injEq]at ho;subst ho;exact aaZ ⟨14,.data⟩ (cH.2 ⟨by simp,rfl⟩)
       rw[<-e14];exact h.2.2 rfl
      iterate 14 (
       apply iK
       case hE=>rfl
       case h=>
        intro vs W _ E hd;obtain⟨t0,t1,t2,t3,t4,t5,t6,t7,t8,t9⟩:=T.out;rw[<-E.cell (p:=⟨k,_,none⟩) Ll]at t0 t1 t2 t3 t4 t5 t6 t7 t8 t9
        go_simp
        exact⟨rfl,ac _ _⟩
       case hb=>intro vs;simp only[ap,aq,ar,aw];rfl)
      iterate 2 (
       apply ey
       case hE=>rfl
       case hb=>intro vs;simp only[ap,aq,ar,aw];rfl
       case h=>
        intro vs W D _ _ E _ hi _ hd hP
        go_simp
        exact⟨E.alloc E.size _,Sl E.size (by simp) hd⟩)
      apply ey
      case hE=>rfl
      case hb=>intro vs;simp only[ap];rfl
      case h=>
       intro vs W D _ _ E jw hi _ hd hP;have m14:14∈D:=jw ⟨14,.data⟩ (cH.2 ⟨by simp,rfl⟩);have m15:15∈D:=jw ⟨15,.phase⟩ (cH.2 ⟨by simp,rfl⟩);obtain⟨Z,N,hla,alY,x0,x1,x2,x3,x4,Q⟩:=(hd 14 m14 rfl).1 rfl;obtain⟨F,NZ,Tg,ab0,iC⟩:=(hd 15 m15 rfl).2.1 rfl;have bu:F≠Z:=λe=>hP 14 m14 15 m15 (by decide) rfl rfl (.inl ⟨rfl,rfl⟩) (by rw[N,NZ,e]);have fz:=tO Q;rw[N];obtain⟨y0,y1,y2,y3,y4⟩:=qO Q
       go_simp
       refine⟨Below.ag3 E hla _ _ _ _ _,λj hj hE=>?_,⟨λe=>absurd e (by decide),λe=>absurd e (by decide),λ_=>⟨Z,by simp[upd,N],tD Q⟩⟩,λj _ _ e=>by omega⟩;refine⟨λe=>⟨Z,N,hla,by simpa using alY,_,_,_,_,_,tD Q⟩,λe=>⟨F,NZ,Tg,by simpa using ab0,(gh bu).trans iC⟩,λe=>⟨Z,N,tD Q⟩⟩
      refine nv λvs W _ _ E hd hX=>?_;obtain⟨Z,N,Q⟩:=(hd 16 (by omega) rfl).2.2 rfl;obtain⟨F,NZ,Tg,ab0,iC⟩:=(hd 15 (by omega) rfl).2.1 rfl;have bu:Z≠F:=λe=>hX 14 15 (by omega) (by omega) (by omega) rfl rfl (.inl ⟨rfl,rfl⟩) (by rw[N,NZ,e]);have NE:=ab bu;have HBA:=ab Q;have wC:=ab iC;have HC:=ab E;have HLB:=ab Tg;obtain⟨y0,y1,y2,y3,y4⟩:=qO iC;have fz:=tO iC;rw[N,NZ];clear Q iC E hd hX N NZ bu Tg
      go_upto_region 13 with fail
      obtain⟨z,vp⟩:∃z:World,z=((((W.setCell ⟨F,0,none⟩ (.int .i64 b0)).setCell ⟨F,1,none⟩ (.int .i64 b1)).setCell ⟨F,2,none⟩ (.int .i64 b2)).setCell ⟨F,3,none⟩ (.int .i64 b3)).setCell ⟨F,4,none⟩ (.int .i64 b4):=⟨_,rfl⟩
      have BA:Hid (z.heap[Z]?=some (.cells #[.int .i64 a0,.int .i64 a1,.int .i64 a2,.int .i64 a3,.int .i64 a4] 61)):=ab (by rw[vp];exact(gh NE.out).trans HBA.out);have BB:Hid (z.heap[F]?=some (.cells #[.int .i64 b0,.int .i64 b1,.int .i64 b2,.int .i64 b3,.int .i64 b4] 61)):=ab (by rw[vp];exact tD wC.out);have HB:Hid (Below wr.heap.size wr z):=ab (by rw[vp];exact Below.ag3 HC.out HLB.out _ _ _ _ _);rw[<-vp];clear vp y0 y1 y2 y3 y4 fz HBA wC HC HLB NE;obtain⟨f,g,l,m,n,r,s,t⟩:=EA.out;clear EA T i4 i5 ab0 Ll;have q1:=Rw;have q2:=Kv;have q3:=yM;have q4:=Co;have s1:Ej false true=2:=rfl;have s2:Ej true true=0:=rfl
      rcases hd with rfl|rfl<;>(obtain rfl|rfl|rfl:p=0\/p=1\/p=2:=by omega)
      all_goals (
       simp[mC,je,RJ]at f g l m n r s t;subst f g l m n r s t;obtain⟨z0,z1,z2,z3,z4⟩:=qO BA.out;obtain⟨y0,y1,y2,y3,y4⟩:=qO BB.out;have la:=aa BA.out;have lb:=aa BB.out
       go_upto_region 16 with(go_at_call 96;refine(yH _ _ _).mono ?_;rintro e w'⟨rfl,rfl⟩)
       clear z0 z1 z2 z3 z4 y0 y1 y2 y3 y4 la lb;have R:kV z w2.heap.size u4 []:=by simpa[Cv]using HO3.out.on HB.out
       have y:=B.out.on HB.out;have R:=ab R
       have y:=ab y)
      ·go_wp2
       exact⟨⟨1,by omega,rfl,by simpa[Cv]using(R.out.alloc _).alloc _,(y.out.alloc _).alloc _⟩,by simp[intOf]⟩
      ·go_wp2
       exact⟨⟨2,by omega,rfl,by simpa[Cv]using(R.out.alloc _).alloc _,(y.out.alloc _).alloc _⟩,by simp[intOf]⟩
      ·go_wp2
       exact⟨⟨3,by omega,rfl,by simpa[Cv]using(R.out.alloc _).alloc _,(y.out.alloc _).alloc _⟩,by simp[intOf]⟩
      ·go_wp2
       exact⟨⟨1,by omega,rfl,by simpa[Cv]using(R.out.alloc _).alloc _,(y.out.alloc _).alloc _⟩,by simp[intOf]⟩
      ·go_wp2
       exact⟨⟨2,by omega,rfl,by simpa[Cv]using(R.out.alloc _).alloc _,(y.out.alloc _).alloc _⟩,by simp[intOf]⟩
      obtain⟨S,Sn⟩:∃S:World,S=(z.alloc (.cells #[.int .i64 0,.int .i64 1,.int .i64 2,.int .i64 0,.int .i64 13] 64)).alloc (.cells #[.int .i64 0,.int .i64 1,.int .i64 2,.int .i64 2,.int .i64 13] 64):=⟨_,rfl⟩
      have r1:S.heap[z.heap.size]?=some (.cells #[.int .i64 0,.int .i64 1,.int .i64 2,.int .i64 0,.int .i64 13] 64):=by rw[Sn];exact(((ac _ (z.alloc _)).alloc (ad _) _).block _ (by simp)).trans (au z _)
      have r2:S.heap[z.heap.size+1]?=some (.cells #[.int .i64 0,.int .i64 1,.int .i64 2,.int .i64 2,.int .i64 13] 64):=by
       have h:=au (z.alloc (.cells #[.int .i64 0,.int .i64 1,.int .i64 2,.int .i64 0,.int .i64 13] 64)) (.cells #[.int .i64 0,.int .i64 1,.int .i64 2,.int .i64 2,.int .i64 13] 64);rw[aL]at h;rw[Sn];exact h
      have O4:Hid (kV S w2.heap.size u4 []):=ab (by rw[Sn];exact(R.out.alloc _).alloc _);have K4:Hid (KR C w k (mC 1) w2.heap.size S):=ab (by rw[Sn];exact(y.out.alloc _).alloc _);rw[<-Sn];have R1:=ab r1;clear Sn;have z1:=aa r1;have z2:=aa r2;obtain⟨c0,c1,c2,c3,c4⟩:=qO r1;obtain⟨d0,d1,d2,d3,d4⟩:=qO r2;clear r1 r2;obtain⟨i0,hi,mF,dx,wD⟩:=info_parts aaX;have NB:=ab K4.out.pK
      go_wp2_with (at_builtin;refine wpList_append_own _ rfl _ _ _ rfl w2.heap.size 64 i0 _ 5 40 ag2 hi mF dx wD rfl (by decide) u4 0 [] rfl (O4.out.alloc _) ⟨S.heap.size,0,none⟩ 1 1 (vV (0,1,2,0,13)) rfl rfl (Sm (x:=(0,1,2,0,13)) (au S _)) (by simp[vV,Value.oneCell']) (by simp only[maxLen];omega) (by omega) (by have:=NB.out;simp;omega) ?_;intro v' w4 h1 h2 _;have H1:=ab h1;have H2:=ab h2;clear h1 h2)
      have bu:=cZ O4.out;have A:=K4.out.alloc (.cells #[.int .i64 0,.int .i64 1,.int .i64 2,.int .i64 0,.int .i64 13] 64);have hg:=(ac w2.heap.size _).grown H2.out A.pK bu;exact⟨⟨3,by omega,rfl,by simpa[kV,Cv,vV]using H1.out,ai A.pK H2.out.size,A.kl,A.bl,(hg.block _ A.bl).trans A.box,⟨ag A.row.1 H2.out.size,λj u e=>(hg.cell (p:=⟨k,j,none⟩) A.kl).trans (A.row.2 j u e)⟩,A.low.grown H2.out A.low.size λq e=>ai (ao A.bl) (bu q e)⟩,by simp[intOf]⟩
abbrev So(a b c:Nat):Value:=.func (.func 115) #[] #[.pointer (some ⟨a,0,none⟩),.pointer (some ⟨b,0,none⟩),.pointer (some ⟨c,0,none⟩)]
structure DE(V:Array Value)(k2 k3 k4 k5 la ca lb cb Bc Bd Bt B1:Nat)(W:World):Prop where
 lo:k2<B1/\k3<B1/\k4<B1/\k5<B1/\la<B1/\lb<B1/\Bc<B1/\Bd<B1/\Bt<B1
 hi:B1<=W.heap.size
 c:W.heap[Bc]?=some (.cells V 27)
 d:∃v,W.heap[Bd]?=some (.cells #[v] 42)
 t:W.heap[Bt]?=some (.cells #[So Bc Bd Bt] 80)
 ex:CJ W k2 k3 k4 k5 la ca lb cb 1
def Row.XM{W a:World}{k B:Nat}{l:List Value}(h:Row W k l)(c:k<B)(b:Below B W a):Row a k l:=
 ⟨ag h.1 b.size,λj v e=>(b.cell (p:=⟨k,j,none⟩) c).trans (h.2 j v e)⟩
def DE.XM{V:Array Value}{k2 k3 f g i ca lb j k l m b:Nat}{W n:World}(h:DE V k2 k3 f g i ca lb j k l m b W)(a:Below b W n):DE V k2 k3 f g i ca lb j k l m b n:=by
 obtain⟨a1,a2,a3,a4,o,p,q,r,s⟩:=h.lo;exact⟨h.lo,ai h.hi a.size,(a.block _ q).trans h.c,h.d.imp λ_ e=>(a.block _ r).trans e,(a.block _ s).trans h.t,⟨h.ex.r2.XM a1 a,h.ex.r3.XM a2 a,h.ex.r4.XM a3 a,h.ex.r5.XM a4 a,h.ex.ra.XM o a,h.ex.rb.XM p a⟩⟩
def DE.on{V:Array Value}{k2 k3 b f g ca lb i j k l m:Nat}{W n:World}(h:DE V k2 k3 b f g ca lb i j k l m W)(a:Below W.heap.size W n):DE V k2 k3 b f g ca lb i j k l m n:=
 ⟨h.lo,ai h.hi a.size,(a.block _ (aa h.c)).trans h.c,h.d.imp λ_ e=>(a.block _ (aa e)).trans e,(a.block _ (aa h.t)).trans h.t,h.ex.on a⟩
def DP(a b:Nat)(w:World)(e:Ending)(w':World):Prop:=e=.returned (.bool true)/\(∃v,w'.heap[b]?=some (.cells #[v] 42)/\bB w' v [0,0])/\Below a w w'
def Sr{k2 a k3 c3 b c d e f ca lb g:Nat}:qP (ir k2 a k3 c3 b c d e f ca lb g 0) (ir k2 a k3 c3 b c d e f ca lb g 0).n5=true:=by kernel_rfl
def Ss{k2 a k3 c3 d f g i j ca lb k:Nat}(w:World)(h:(ir k2 a k3 c3 d f g i j ca lb k 0).At w):Calls PL 114 #[.agg (ir k2 a k3 c3 d f g i j ca lb k 0).val] w (aO (.bool true) w):=by
 have m:=VY (ir k2 a k3 c3 d f g i j ca lb k 0) 0 w h (yQ (.inl rfl)) (by simp[ir]) λW n=>(vC _ 0 (.inl rfl) rfl rfl W n λq l=>tA (.inl rfl) ⟨k2,a,k3,c3,d,f,g,i,j,ca,lb,k,rfl⟩ l).mono ?_
 ·rw[Sr]at m;exact m
 ·rintro e w'⟨v,rfl,o,p⟩;obtain⟨b,c,rfl⟩:=vB o;exact⟨b,c,rfl,p⟩
def VZ{W:World}{base e size n B:Nat}{v u:Value}{xs:List Value}(h:W.ownsRow base e size v n xs)(d:B<base):(W.setCell ⟨B,0,none⟩ u).ownsRow base e size v n xs:=by
 obtain⟨b,h⟩:=h
 rcases h with h|⟨g,cap,a,e1,hb,hg,c⟩
 ·exact⟨b,.inl h⟩
 ·exact⟨b,.inr ⟨g,cap,a,e1,hb,(aZ (by omega)).trans hg,c⟩⟩
def Su{k2 I k3 c3 o J q K r ca lb s L k M X N:Nat}{l:Value}(w:World)(h:DE (ir k2 I k3 c3 o J q K r ca lb s 1).val k2 k3 o q r ca lb s L k M X w)(hl:bB w l [0,0])(O:N<=k) :
 Calls PL 115 #[l,.int .i64 0,.pointer (some ⟨L,0,none⟩),.pointer (some ⟨k,0,none⟩),.pointer (some ⟨M,0,none⟩)] w (DP N k w):=by
 have P:=ab hl;obtain⟨b,c,rfl,Q⟩:=hl;obtain⟨g,m,rfl,t,x⟩:=Q (by simp);have y:=ab h;have Y:=ab (x 0 (by simp));have Z:=ab (x 1 (by simp));simp only[List.length_cons,List.length_nil,Nat.reduceAdd]at P ⊢;have R:Hid (∀W,CJ W k2 k3 o q r ca lb s 1->bB W (.slice (some ⟨g,m,none⟩) 2 c) [0,0]->Calls PL 113 #[.agg (ir k2 I k3 c3 o J q K r ca lb s 1).val,.slice (some ⟨g,m,none⟩) 2 c] W _):=ab λW hW hR=>yP W hW hR;have z:=h.c;clear h Q x;simp only[ir,CD.val]at R z y;obtain⟨f0,f1,f2,f3,f4,f5⟩:=bf z;clear z
 go_enter (fx (by decide) Tryz.func115),Tryz.ntmps115
 go_upto_region 4 with(first
  |(go_at_call 113;go_must (refine(R.out _ y.out.ex P.out).mono ?_);rintro e w1⟨q2,p2,q3,p3,q4,p4,q5,p5,xa,ya,xb,yb,rfl,S⟩;have i:=ab S;clear S)
  |(go_at_call 114;go_must (refine(Ss _ (Rx i.out.rows.r2 i.out.rows.r3 i.out.rows.r4 i.out.rows.r5 i.out.rows.ra i.out.rows.rb)).mono ?_);rintro e w2⟨rfl,T⟩;have B2:=ab T;clear T))
 have T2:=ab (Below.on i.out.low B2.out);have U:∀j u,[bh 0,bh 0][j]?=some u->w2.cell? ⟨g,m+j,none⟩=some u:=λj u e=>by
  match j,e with
  |0,e=>cases e;exact(T2.out.cell (p:=⟨g,m,none⟩) t).trans Y.out
  |1,e=>cases e;exact(T2.out.cell (p:=⟨g,m+1,none⟩) t).trans Z.out
 have CL:=ab U;obtain⟨v0,a⟩:=y.out.d;have A:=ab a;have n:=(T2.out.block _ (aa a)).trans a;have B:=ab n;have V:g<w2.heap.size:=ag t T2.out.size;have C:=ab V;clear U a n V
 go_wp2_with (go_at_call 101;go_must (refine(tC g m 2 c [bh 0,bh 0] _ rfl CL.out (by simp[Value.oneCell']) (by omega) C.out).mono ?_);rintro e w3⟨v,rfl,hv,D,E⟩;have f:=(E.block _ (aa B.out)).trans B.out;have fz:=tO f;have y0:w3.cell? ⟨k,0,none⟩=some v0:=(by simp[aJ,f]);obtain⟨bb,cc,rfl⟩:=vB D;have F:=ab f;have HO:=ab D;have B3:=ab E;clear f D E hv)
 go_ret
 have H:k<w2.heap.size:=aa B.out;refine⟨rfl,⟨_,yV F.out,eO.reads (e:=3) (base:=w2.heap.size) (VZ HO.out H)⟩,((Below.on T2.out B3.out).mono (ai O (ao (aa A.out)))).setCell O _⟩
def yX{T e:TypeId}(a:PL.underlying T=some (.slice e))(c:(PL.info? e).map (λi=>(i.zero,i.size,i.bytes))=some (some (.int .i64 0),1,8)){ops:Array Oper}{o:Oper}{b:Act}{K:Value->World->Prop}{W:World}(d:o.guard=none)(s x:a5)
 (f:o.op=.call { callee:=.builtin .append,args:=#[s,x],argTypes:=#[T,T] }) (base:Nat) (v:Value) (l:List Int) (j:Int) (k:Nat) (hs:b.eval s=v) (g:eO e W base v l)
 (m:b.eval x=.slice (some ⟨k,0,none⟩) 1 1) (hc:W.cell? ⟨k,0,none⟩=some (.int .i64 j)) (hl:l.length<=1000) (n:base<=W.heap.size)
 (h:∀v' w',eO e w' base v' (l++[j])->W.grownBy w' v.ownBlock->K v' w'):fC PL ops K o b W:=by
 obtain⟨p,hi,r,t,y⟩:=info_parts c
 obtain⟨v',w',z,A,B,_⟩:=run_append_own (P:=PL) (w:=W) base T o.type e p (.int .i64 0) 1 8 a hi r t y rfl (by decide) v l.length _ g ⟨k,0,none⟩ 1 1 [.int .i64 j] rfl (λq u e=>by
  match q,e with
  |0,e=>cases e;exact hc) (by simp[Value.oneCell']) (by simp only[maxLen];omega) (by omega) n
 unfold fC;rw[if_pos (by simp[Region.wanted,d])];unfold a6;simp only[f,resolve,invoke,builtin,Sem.run_bind,Sem.run_pure,Result.andThen_ok,List.map_toArray,List.map_cons,List.map_nil,hs,m,z];refine h v' w' ?_ B;unfold eO;rw[List.length_append,List.map_append];exact A
structure CT(V:Array Value)(k2 k3 k4 k5 la ca lb cb Bc Bd Bt B1:Nat)(w1:World)(b:Bool)(W:World):Prop where
 de:DE V k2 k3 k4 k5 la ca lb cb Bc Bd Bt B1 W
 low:Below B1 w1 W
 old:b=false->Below w1.heap.size w1 W
def V1(n0 a:Nat)(xs:List Int)(j:Nat)(vs:Nat->Value)(W:World):Prop:=
 (j=3->∃k,vs 3=.slice (some ⟨k,0,none⟩) 1 1/\n0<=k/\W.heap[k]?=some (.cells #[.int .i64 0] 3))/\
 (j=4->eO 3 W a (vs 4) (xs++[0]))
def V1.le{n0 b:Nat}{xs:List Int}{j:Nat}{vs:Nat->Value}{W c:World}(h:V1 n0 b xs j vs W)(d:Below W.heap.size W c):V1 n0 b xs j vs c:=
 ⟨λe=>(h.1 e).imp λ_ a=>⟨a.1,a.2.1,(d.block _ (aa a.2.2)).trans a.2.2⟩,λe=>(h.2 e).on d⟩
def ExD(t:Nat):Bool:=t != 3&&t != 4
def Fq{k2 x k3 c3 f y g z m ca lb p v r s d F:Nat}{l:Value}(xs:List Int)(L:xs.length<2)(w:World)(h:DE (ir k2 x k3 c3 f y g z m ca lb p 1).val k2 k3 f g m ca lb p v r s d w)(hl:eO 3 w d l xs)(cB:F<=d)
 (M:∀W l',DE (ir k2 x k3 c3 f y g z m ca lb p 1).val k2 k3 f g m ca lb p v r s d W->eO 3 W d l' (xs++[0])->Calls PL 115 #[l',.int .i64 0,.pointer (some ⟨v,0,none⟩),.pointer (some ⟨r,0,none⟩),.pointer (some ⟨s,0,none⟩)] W (DP F r W)) :
 Calls PL 115 #[l,.int .i64 0,.pointer (some ⟨v,0,none⟩),.pointer (some ⟨r,0,none⟩),.pointer (some ⟨s,0,none⟩)] w (DP F r w):=by
 obtain⟨b,c,rfl⟩:=vB hl;have HX:=ab h;have N:=ab hl;have IH:=ab M;have O:=h.c;have i1:¬((xs.length:Int)=2):=by omega
 have H:=ab L;clear h hl M L;obtain⟨P,Q,R,S,f4,T⟩:=bf O;clear O;simp only[ir]at P Q R S f4 T
 go_enter (fx (by decide) Tryz.func115),Tryz.ntmps115
 go_wp2
 go_loopw [8] (λv8 wr=>v8=.int .i64 0/\wr=w) (λ_ _=>0)
 case atStart=>exact⟨rfl,rfl⟩
 case round=>
  obtain⟨rfl,hw⟩:=hrel;subst hw
  go_upto_region 9 with(go_at_call 112;refine(uK (n:=0) rfl _).mono ?_;rintro e w'⟨rfl,rfl⟩)
  have C0:Hid (CT (ir k2 x k3 c3 f y g z m ca lb p 1).val k2 k3 f g m ca lb p v r s d wr false wr.drew):=ab ⟨HX.out.on (ac _ _).drew,(ac _ _).drew,λ_=>(ac _ _).drew⟩;clear P Q R S f4 T i1;refine iL 8 4 (CT (ir k2 x k3 c3 f y g z m ca lb p 1).val k2 k3 f g m ca lb p v r s d wr) (λW U=>Below W.heap.size W U) ExD (λ_=>V1 wr.heap.size d xs) (λ_ _ _ _=>True) (λ_ _ _ _ _=>trivial) rfl (by kernel_rfl) (by kernel_rfl) rfl
   (λ_ i vs W U I h=>h.le I) (λi o ho vs eX W V _ _ h=>⟨λe=>by subst e;rw[<-V];exact h.1 rfl,λe=>by subst e;rw[<-V];exact h.2 rfl⟩) C0.out ?_
  iterate 3 (
   apply iK
   case hE=>rfl
   case h=>
    intro vs W b a hd;have A:=a.de.t;have t0:W.cell? ⟨s,0,none⟩=some (So v r s):=by simp[aJ,A]
    clear A
    go_simp
    first
    |exact⟨rfl,ac _ _⟩
    |exact⟨rfl,a,ac _ _⟩
   case hb=>intro vs;simp only[ap,aq,ar,aw];rfl)
  apply ey
  case hE=>rfl
  case hb=>intro vs;simp only[ap,aq,ar,aw];rfl
  case h=>
   intro vs W D b hb a X hi _ hd hP;have u:=(ac W.heap.size W).alloc (ad _) (.cells #[.int .i64 0] 3);have B:Hid (CT (ir k2 x k3 c3 f y g z m ca lb p 1).val k2 k3 f g m ca lb p v r s d wr b (W.alloc (.cells #[.int .i64 0] 3))):=ab ⟨a.de.on u,a.low.trans (u.mono a.de.hi),λe=>Below.on (a.old e) u⟩;have HW:=ab (a.low.size);clear a
   go_simp
   exact⟨B.out,λj C J=>(hd j C J).le u,⟨λ_=>⟨W.heap.size,by simp[upd],HW.out,au _ _⟩,λe=>absurd e (by decide)⟩⟩
  apply ey
  case hE=>rfl
  case hb=>intro vs;simp only[ap,aq,ar,aw];rfl
  case h=>
   intro vs W D bb iC a X hi _ hd hP;have m3:3∈D:=X ⟨3,.data⟩ (cH.2 ⟨by simp,rfl⟩);obtain⟨q,hq,hql,K⟩:=(hd 3 m3 rfl).1 rfl;have hold:=a.old (iC rfl);have Y:=N.out.on hold;have bu:=cZ Y;have aH:∀j,Value.ownBlock (.slice b xs.length c)=some j->j<wr.heap.size:=λj e=>by
    obtain⟨cur,hc⟩:=qm N.out j e;exact aa hc
   refine yX Rz RE rfl _ _ rfl d (.slice b xs.length c) xs 0 q rfl Y hq (by simp[aJ,K]) (by have:=H.out;omega) a.de.hi λv' w' h1 Z=>?_;have u:Below d W w':=(ac d W).grown Z a.de.hi bu;refine⟨⟨a.de.XM u,a.low.trans u,λe=>by simp at e⟩,λj C J=>⟨λe=>?_,λe=>absurd C (by rw[e];exact hi)⟩,⟨λe=>absurd e (by decide),λ_=>by simpa[upd]using h1⟩,λ_ _ _=>trivial⟩;refine((hd j C J).1 e).imp λk E=>⟨E.1,E.2.1,(Z.block k (aa E.2.2) λe=>?_).trans E.2.2⟩
   have:=aH _ e.symm;omega
  iterate 3 (
   apply iK
   case hE=>rfl
   case h=>
    intro vs W b a hd
    go_simp
    exact⟨rfl,ac _ _⟩
   case hb=>intro vs;simp only[ap,aq,ar,aw];rfl)
  refine nv λvs W bb _ a hd _=>?_;have hO:=(hd 4 (by omega) rfl).2 rfl;have HO:=ab hO;have B:=ab a;clear hd hO a
  go_wp2_with (go_at_call 115;go_must (refine(IH.out _ _ B.out.de HO.out).mono ?_);rintro e w2⟨rfl,hp,u⟩)
  go_ret
  exact⟨rfl,hp,(B.out.low.mono cB).trans u⟩
def ab1{k2 m k3 c3 d n e o f ca lb g i a j k b:Nat}(w:World)(h:DE (ir k2 m k3 c3 d n e o f ca lb g 1).val k2 k3 d e f ca lb g i a j k w)(p:b<=a)(l:b<=k) :
 Calls PL 115 #[.slice none 0 0,.int .i64 0,.pointer (some ⟨i,0,none⟩),.pointer (some ⟨a,0,none⟩),.pointer (some ⟨j,0,none⟩)] w (DP b a w):=
 Fq [] (by decide) w h ⟨rfl,.inl ⟨rfl,rfl⟩⟩ l λW s q hl=>Fq [0] (by decide) W q hl l λr t vp c=>Su r vp (eO.reads c) p
end Go.Proofs
namespace Go.Proofs
open Go.RowKit Go.Shelf
set_option maxRecDepth 100000
set_option maxHeartbeats 4000000
def Cw{P:Program}{w:World}{a:Addr}{m:Mode}(f:Fn)(ts b:Array Value):(store a (.func f ts b) m).run P w=stored P w a (.func f ts b) m:=run_store P w a _ m rfl
attribute [local go_sem] Cw
def V2{w:World}{B:Nat}{v:Value}{t:TypeId}(h:w.heap[B]?=some (.cells #[v] t)):Below w.heap.size w (w.setCell ⟨B,0,none⟩ v):=
 ⟨rfl,rfl,rfl,by simp,λk _=>by
   by_cases e:k=B
   ·subst e;rw[yV h,h]
   ·exact aZ (Ne.symm e)⟩
structure KDl(V:Array Value)(w:World)(W:World):Prop where
 c:W.heap[w.heap.size]?=some (.cells V 27)
 d:W.heap[w.heap.size+1]?=some (.cells #[.slice none 0 0] 42)
 low:Below w.heap.size w W
def KDl.on{V:Array Value}{w W b:World}(h:KDl V w W)(a:Below W.heap.size W b):KDl V w b:=
 ⟨(a.block _ (aa h.c)).trans h.c,(a.block _ (aa h.d)).trans h.d,Below.on h.low a⟩
def II{k2 i k3 c3 a j b k f ca lb g:Nat}(w:World)(h:CJ w k2 k3 a b f ca lb g 1) :
 Calls PL 52 #[.agg (ir k2 i k3 c3 a j b k f ca lb g 1).val] w λe w'=>∃v,e=.returned (.tuple #[v,.bool true,.int .i64 0])/\bB w' v [0,0]/\Below w.heap.size w w':=by
 have l:=ab h
 have q:Hid (KDl (ir k2 i k3 c3 a j b k f ca lb g 1).val w ((w.alloc (.cells (ir k2 i k3 c3 a j b k f ca lb g 1).val 27)).alloc (.cells #[.slice none 0 0] 42))):=ab (by
  refine⟨(((ac (w.alloc _).heap.size _).alloc (ad _) _).block _ (by simp)).trans (au w _),?_,((ac _ _).alloc (ad _) _).alloc (by simp) _⟩;have h:=au (w.alloc (.cells (ir k2 i k3 c3 a j b k f ca lb g 1).val 27)) (.cells #[.slice none 0 0] 42);rw[aL]at h
  exact h)
 have L:Hid (∀W,CJ W k2 k3 a b f ca lb g 1->Calls PL 22 #[.agg (ir k2 i k3 c3 a j b k f ca lb g 1).val] W (aO (.int .i64 0) W)):=ab λW X=>sY (yQ (.inr rfl)) X.at;clear h;simp only[ir,CD.val]at q L ⊢
 go_enter (fx (by decide) Tryz.func52),Tryz.ntmps52
 go_upto_region 1 with fail
 obtain⟨M,N⟩:∃M:World,M=((w.alloc (.cells #[.int .i64 60,.int .i64 4,.slice (some ⟨k2,0,none⟩) 2 i,.slice (some ⟨k3,0,none⟩) 4 c3,.slice (some ⟨a,0,none⟩) 3 j,.slice (some ⟨b,0,none⟩) 2 k] 27)).alloc (.cells #[.slice none 0 0] 42)):=⟨_,rfl⟩
 rw[<-N]at q ⊢;clear N;obtain⟨z,A,B,C,f4,D⟩:=bf q.out.c
 go_upto_region 4 with(go_at_call 22;go_must (refine(L.out _ (l.out.on q.out.low)).mono ?_);rintro e w1⟨rfl,r⟩;have H:=ab (q.out.on r);clear r z A B C f4 D;obtain⟨z,A,B,C,f4,D⟩:=bf H.out.c)
 go_upto_region 5 with fail
 obtain⟨n,E⟩:∃n:World,n=w1.alloc (.cells #[.nilFunc] 80):=⟨_,rfl⟩
 have r:Below w1.heap.size w1 n:=by rw[E];exact(ac _ _).alloc (ad _) _
 have F:n.heap[w1.heap.size]?=some (.cells #[.nilFunc] 80):=by rw[E];exact au _ _
 rw[<-E];clear E z A B C f4 D;have I:=ab (H.out.on r);have Y:=ab F;have Z:n.cell? ⟨w1.heap.size,0,none⟩=some .nilFunc:=by simp[aJ,F]
 have O:=tO F;clear F r
 go_upto_region 6 with fail
 obtain⟨m,vp⟩:∃m:World,m=n.setCell ⟨w1.heap.size,0,none⟩ (So w.heap.size (w.heap.size+1) w1.heap.size):=⟨_,rfl⟩
 rw[<-vp];have s:=aa H.out.d
 have o:Hid (KDl #[.int .i64 60,.int .i64 4,.slice (some ⟨k2,0,none⟩) 2 i,.slice (some ⟨k3,0,none⟩) 4 c3,.slice (some ⟨a,0,none⟩) 3 j,.slice (some ⟨b,0,none⟩) 2 k] w m):=ab (by
  rw[vp]
  exact⟨(aZ (by omega)).trans I.out.c,(aZ (by omega)).trans I.out.d,I.out.low.setCell (p:=⟨w1.heap.size,0,none⟩) (by simp only;omega) _⟩)
 have P:Hid (DE (ir k2 i k3 c3 a j b k f ca lb g 1).val k2 k3 a b f ca lb g w.heap.size (w.heap.size+1) w1.heap.size (w1.heap.size+1) m):=ab (by
  have e:=l.out.on o.out.low;have l2:=l.out.r2.1;have l3:=l.out.r3.1;have l4:=l.out.r4.1;have l5:=l.out.r5.1;have f:=l.out.ra.1;have lb:=l.out.rb.1;have Q:m.heap[w1.heap.size]?=some (.cells #[So w.heap.size (w.heap.size+1) w1.heap.size] 80):=by rw[vp];exact yV Y.out
  exact⟨⟨by omega,by omega,by omega,by omega,by omega,by omega,by omega,by omega,by omega⟩,aa Q,o.out.c,⟨_,o.out.d⟩,Q,e⟩)
 have R:=P.out.t;have t1:m.cell? ⟨w1.heap.size,0,none⟩=some (So w.heap.size (w.heap.size+1) w1.heap.size):=by simp[aJ,R]
 obtain⟨z,A,B,C,f4,D⟩:=bf o.out.c;clear vp Z O R;have J:=ab s;clear s
 go_wp2
 go_loopw [19] (λK wr=>K=.int .i64 0/\wr=m) (λ_ _=>0)
 case atStart=>exact⟨rfl,rfl⟩
 case round=>
  obtain⟨rfl,hw⟩:=hrel;subst hw
  go_wp2_with (go_at_call 115;go_must (refine(ab1 _ P.out (Nat.le_succ _) (by have:=J.out;omega)).mono ?_);rintro e w3⟨rfl,⟨v,hv,S⟩,T⟩;have HR:=ab S;obtain⟨x,y,rfl,Yc⟩:=S;clear Yc;have y0:w3.cell? ⟨w.heap.size+1,0,none⟩=some (.slice x 2 y):=(by simp[aJ,hv]);have O:=tO hv;have U:=ab hv;have V:=ab T;clear hv T)
  have hs:=V2 U.out;have hy:=yV (u:=.slice x 2 y) U.out;refine bodyPost_ret (v:=.tuple #[.slice x 2 y,.bool true,.int .i64 0]) ?_ rfl ⟨_,rfl,HR.out.on hs,(o.out.low.trans V.out).trans (hs.mono (ai o.out.low.size V.out.size))⟩;have hz:=aa hy;have sB:(w3.setCell ⟨w.heap.size+1,0,none⟩ (.slice x 2 y)).cell? ⟨w.heap.size+1,0,none⟩=some (.slice x 2 y):=by simp[aJ,hy]
  clear hs;simp[results,Tryz.results52,go_sem,sB]
end Go.Proofs
namespace Go.Proofs
open Go.RowKit Go.Instr
open Go.ChangeMaps (setBlock)
set_option maxRecDepth 100000
abbrev WE:=Int×Value×List Int×Int
def nD(x:WE):Value:=.agg #[x.2.1,.int .i64 x.2.2.2]
def Cx(i:Nat)(x:WE):a7:={ key:=.int .i64 x.1,val:=nD x,born:=i }
def gi(R:List WE):Array a7:=(R.mapIdx Cx).toArray
structure jy(W:World)(b:Nat)(R:List WE):Prop where
 map:W.heap[b]?=some (.map (gi R) R.length)
 reads:∀x∈R,bB W x.2.1 x.2.2.1
 ne:∀x∈R,x.2.2.1≠[]
def jy.on{W a:World}{b:Nat}{R:List WE}(h:jy W b R)(c:Below W.heap.size W a):jy a b R:=
 ⟨(c.block _ (aa h.map)).trans h.map,λx d=>(h.reads x d).on c,h.ne⟩
def jy.made(w:World):jy (w.alloc (.map #[] 0)) w.heap.size []:=⟨au _ _,λ_ h=>(by cases h),λ_ h=>(by cases h)⟩
def yY:PL.underlying 140=some (.map 3 139):=by kernel_rfl
def V3(w:World):(zeroValue 139).run PL w=.ok (.agg #[.slice none 0 0,.int .i64 0]) w:=by kernel_rfl
def Sv(k:Int):∀(R:List WE)(f:Nat->WE->a7)(a:Nat),(∀i x,(f i x).key=.int .i64 x.1)->(∀i x,(f i x).val=nD x)->
 ∃r,bc (.int .i64) (.int .i64 k) (R.mapIdx f) a=some r/\(∀x,R.find? (λx=>x.1==k)=some x->∃j,r=some (j,nD x))/\(R.find? (λx=>x.1==k)=none->r=none)
 |[],f,a,_,_=>⟨none,rfl,λx h=>by simp at h,λ_=>rfl⟩
 |y::R,f,a,b,hv=>by
  rw[List.mapIdx_cons];by_cases e:y.1=k
  ·refine⟨some (a,nD y),by simp[bc,b,hv,sameNow,e],λx h=>?_,λh=>?_⟩
   ·simp[e]at h;subst h;exact⟨a,rfl⟩
   ·simp[e]at h
  ·obtain⟨r,c,d,g⟩:=Sv k R (λi=>f (i+1)) (a+1) (λi x=>b _ x) (λi x=>hv _ x);refine⟨r,?_,λx h=>d x ?_,λh=>g ?_⟩
   ·have l:(k==y.1)=false:=by simpa using λh=>e h.symm
    simp only[bc,b,sameNow,l,if_true];simpa using c
   ·simpa[aB,e]using h
   ·simpa[aB,e]using h
def qn(k:Int)(R:List WE)(w:World):∃r,(findKey 3 (.int .i64 k) (gi R).toList).run PL w=.ok r w/\(∀x,R.find? (λx=>x.1==k)=some x->∃j,r=some (j,nD x))/\(R.find? (λx=>x.1==k)=none->r=none):=by
 obtain⟨r,a,b,c⟩:=Sv k R Cx 0 (λ_ _=>rfl) (λ_ _=>rfl);exact⟨r,by simp[findKey,a8,aaj,gi,a],b,c⟩
def IJ{W:World}{b:Nat}{R:List WE}{k:Int}{x:WE}(h:W.heap[b]?=some (.map (gi R) R.length))(a:R.find? (λx=>x.1==k)=some x):(bd 140 (.map (some b)) (.int .i64 k) false).run PL W=.ok (nD x) W:=by
 obtain⟨r,c,d,_⟩:=qn k R W;obtain⟨j,rfl⟩:=d x a;simp[bd,a8,yY,bi h,qz.check,c]
def Sw{W:World}{b:Nat}{R:List WE}{k:Int}{x:WE}(h:W.heap[b]?=some (.map (gi R) R.length))(a:R.find? (λx=>x.1==k)=some x):(bd 140 (.map (some b)) (.int .i64 k) true).run PL W=.ok (.tuple #[nD x,.bool true]) W:=by
 obtain⟨r,c,d,_⟩:=qn k R W;obtain⟨j,rfl⟩:=d x a;simp[bd,a8,yY,bi h,qz.check,c]
def Sx{W:World}{b:Nat}{R:List WE}{k:Int}(h:W.heap[b]?=some (.map (gi R) R.length))(c:R.find? (λx=>x.1==k)=none):(bd 140 (.map (some b)) (.int .i64 k) true).run PL W=.ok (.tuple #[.agg #[.slice none 0 0,.int .i64 0],.bool false]) W:=by
 obtain⟨r,a,_,d⟩:=qn k R W;rw[d c]at a;simp[bd,a8,yY,bi h,qz.check,a,V3]
def jN{W d:World}{b:Nat}{o:Obj}{v:Value}{l:List Int}(hv:bB W v l)(hl:l≠[])(h:gv W d b)(hb:W.heap[b]?=some o)(e:∀c t f,o≠.cells c t f):bB d v l:=by
 obtain⟨p,c,rfl,g⟩:=hv;refine⟨p,c,rfl,λi=>?_⟩;obtain⟨k,q,rfl,m,hc⟩:=g i;have n:k≠b:=by
  rintro rfl;have:=hc 0 (by omega);simp only[aJ,hb]at this
  cases o with
  |cells c t f=>exact e c t f rfl
  |_=>simp at this
 exact⟨k,q,rfl,by rw[h.size];exact m,λj r=>(h.cell (a:=⟨k,q+j,none⟩) n).trans (hc j r)⟩
def jy.put{W:World}{b:Nat}{R:List WE}(h:jy W b R){x:WE}(f:R.find? (λy=>y.1==x.1)=none)(g:bB W x.2.1 x.2.2.1)(c:x.2.2.1≠[]) :
 ∃w',(bg 140 (.map (some b)) (.int .i64 x.1) (nD x)).run PL W=.ok () w'/\jy w' b (R++[x])/\gv W w' b:=by
 obtain⟨r,d,_,i⟩:=qn x.1 R W;rw[i f]at d;have hb:=aa h.map
 have a:gv W { W with heap:=W.heap.setIfInBounds b (.map ((gi R).push { key:=.int .i64 x.1,val:=nD x,born:=R.length }) (R.length+1)) } b:=⟨rfl,rfl,rfl,by simp,λk j=>by
  show(W.heap.setIfInBounds b _)[k]?=_
  rw[bj (Ne.symm j)]⟩
 have l:gi (R++[x])=(gi R).push { key:=.int .i64 x.1,val:=nD x,born:=R.length }:=by
  simp[gi,Cx,List.mapIdx_append]
 refine⟨_,?_,⟨?_,λy hy=>?_,λy hy=>?_⟩,a⟩
 ·simp[bg,a8,yY,bi h.map,qz.check,d,MapKept.run_setObj_map _ h.map]
 ·rw[l];simp[hb]
 ·rcases List.mem_append.1 hy with hy|hy
  ·exact jN (h.reads y hy) (h.ne y hy) a h.map (λ_ _ _ e=>by cases e)
  ·rw[List.mem_singleton.1 hy];exact jN g c a h.map (λ_ _ _ e=>by cases e)
 ·rcases List.mem_append.1 hy with hy|hy
  ·exact h.ne y hy
  ·rw[List.mem_singleton.1 hy];exact c
def ag6(R:List WE):(gi R).toList.map (·.born)=aF R.length:=by
 apply List.ext_getElem
 ·simp[gi]
 ·intro i a b;simp[gi,Cx]
def A5{R:List WE}{e:a7}(h:e∈(gi R).toList):∃j x,R[j]?=some x/\e=Cx j x:=by
 simp only[gi,aI]at h;obtain⟨j,a,rfl⟩:=h;exact⟨j,R[j],by simp[a],rfl⟩
def tE(W:World)(r b n:Nat)(seen:Array Nat):Prop:=W.heap[r]?=some (.mapIter (some b) n seen n)
def V4{W:World}{b:Nat}{R:List WE}(h:jy W b R):(Instr.range 140 (.map (some b))).run PL W=.ok (.pointer (some ⟨W.heap.size,0,none⟩)) (W.alloc (.mapIter (some b) R.length #[] R.length)):=
 run_range_map W 140 3 139 b _ _ yY h.map
def Fs(n:Nat)(seen:Array Nat):Nat:=((aF n).filter λj=>!seen.contains j).length
def IK{n j:Nat}{seen:Array Nat}(a:j<n)(hs:seen.contains j=false):Fs n (seen.push j)<Fs n seen:=by
 unfold Fs;have b:(aF n).filter (λq=>!(seen.push j).contains q)=((aF n).filter λq=>!seen.contains q).filter λq=>decide (¬q=j):=by
  rw[List.filter_filter];refine List.filter_congr λq _=>?_;by_cases e:q=j<;>simp[e]
 rw[b];refine List.length_filter_lt_length_iff_exists.2 ⟨j,?_,by simp⟩;have c:j∉seen:=by simpa using hs
 simp[a,c]
def zX{ops:Array Oper}{rest:List Oper}{o:Oper}{a:Act}{Q:Exit->Act->World->Prop}(w:World)(hg:o.guard=none)(it:a5)(t:o.op=Op.next it false)(r b:Nat)(R:List WE)(seen:Array Nat)
 (u:a.eval it=.pointer (some ⟨r,0,none⟩)) (g:tE w r b R.length seen) (c:jy w b R)
 (A:(∀j,j<R.length->seen.contains j=true)->a9 PL ops Q rest (a.put o.dst (.tuple #[.bool false])) w)
 (i:∀j x w',R[j]?=some x->seen.contains j=false->tE w' r b R.length (seen.push j)->gv w w' r->jy w' b R->(Instr.entry (.pointer (some ⟨r,0,none⟩))).run PL w'=.ok (.tuple #[.int .i64 x.1,nD x]) w'->
   a9 PL ops Q rest (a.put o.dst (.tuple #[.bool true,.int .i64 x.1,nD x])) w'):a9 PL ops Q (o::rest) a w:=by
 refine ba hg λF hK'=>?_;unfold Oper.wp
 rcases run_next_at (P:=PL) w o.type r b R.length R.length seen (gi R) R.length g c.map (λx B=>by
  obtain⟨j,y,d,rfl⟩:=A5 B
  exact(List.getElem?_eq_some_iff.1 d).1) (ad _) with⟨hl,l⟩|⟨e,m,w1,h,l⟩
 ·simp[a6,t,u,l,Result.andThen];refine hK' _ _ (A λj d=>?_);have f:Cx j R[j]∉leftOf (gi R) seen:=by rw[Array.eq_empty_of_size_eq_zero hl];simp
  have C:Cx j R[j]∈gi R:=by
   simp only[gi,List.mem_toArray,aI];exact⟨j,d,rfl⟩
  simp only[leftOf,bm,not_and]at f;have:=f C;simpa[Cx]using this
 ·have n:e∈(gi R).toList/\seen.contains e.born=false:=by
   simp only[leftOf,Array.mem_toList_iff,bm]at m;exact⟨Array.mem_toList_iff.2 m.1,by simpa using m.2⟩
  obtain⟨j,x,d,rfl⟩:=A5 n.1;have hs:seen.contains j=false:=n.2;simp[a6,t,u,l,Result.andThen];have p:=aa g
  have q:w1.heap=w.heap:=by rcases h with rfl|rfl<;>rfl
  have D:b≠r:=by rintro rfl;have i:=c.map;have f:w.heap[b]?=_:=g;rw[i]at f;cases f
  have s:gv w (setBlock w1 r (.mapIter (some b) R.length (seen.push j) R.length)) r:=by
   refine⟨by rcases h with rfl|rfl<;>rfl,by rcases h with rfl|rfl<;>rfl,by rcases h with rfl|rfl<;>rfl,by simp[setBlock,q],λk E=>?_⟩;show(w1.heap.setIfInBounds r _)[k]?=_;rw[q,bj (Ne.symm E)]
  have v:tE (setBlock w1 r (.mapIter (some b) R.length (seen.push j) R.length)) r b R.length (seen.push j):=by
   show(w1.heap.setIfInBounds r _)[r]?=_;rw[q];simp[p]
  have z:jy (setBlock w1 r (.mapIter (some b) R.length (seen.push j) R.length)) b R:=⟨(s.block _ D).trans c.map,λy hy=>jN (c.reads y hy) (c.ne y hy) s g (λ_ _ _ e=>by cases e),c.ne⟩
  refine hK' _ _ (i j x _ d hs v s z ?_);exact run_entry_at _ r b R.length seen (gi R) R.length (Cx j x) v z.map n.1 (by rw[ag6];exact List.nodup_range)
def tF{ops:Array Oper}{rest:List Oper}{o:Oper}{a:Act}{Q:Exit->Act->World->Prop}(w:World)(hg:o.guard=none)(m x v:a5)(c:o.op=Op.mapUpdate 140 m x v\/o.op=Op.insert 140 m x v)(b:Nat)(R:List WE)(y:WE)
 (d:a.eval m=.map (some b)) (e:a.eval x=.int .i64 y.1) (hv:a.eval v=nD y) (h:jy w b R) (hy:R.find? (λz=>z.1==y.1)=none) (f:bB w y.2.1 y.2.2.1) (g:y.2.2.1≠[])
 (i:∀w',jy w' b (R++[y])->gv w w' b->a9 PL ops Q rest (a.put o.dst undef) w'):a9 PL ops Q (o::rest) a w:=by
 refine ba hg λn hK'=>?_;obtain⟨w',j,k,l⟩:=h.put hy f g;unfold Oper.wp
 rcases c with c|c<;>
 ·simp[a6,c,d,e,hv,j,Result.andThen];exact hK' _ _ (i w' k l)
abbrev SW:=List (Int×List Int×Int)
def V6(b:List Int)(a:Int)(q:Nat):Bool:=decide ((q:Int)∈b)||(decide ((zU q).1≠a)&&decide ((zU q).2.1≠a))
def XN(a:Int)(q:Nat):Int:=(zU q).1+(zU q).2.1-a
def stepW(b c:List Int)(a:Int)(S:SW)(q:Nat):SW:=if V6 b a q then S else if XN a q∈c then S else match S.find? (λx=>x.1==a) with
 |none=>S
 |some x=>S++[(XN a q,x.2.1++[XN a q],x.2.2+(zU q).2.2)]
def N0(a b:List Int)(c:Int)(S:SW):Nat->SW
 |0=>S
 |q+1=>stepW a b c (N0 a b c S q) q
def okQ(b c:List Int)(a:Int)(S:SW):Bool:=(aF 4).all λq=>match(N0 b c a S q).find? (λx=>x.1==a) with
 |none=>false
 |some x=>decide (x.2.1.length<=10)&&decide (0<=x.2.2)&&decide (x.2.2<=1000)&&(V6 b a q||decide (XN a q∈c)||((N0 b c a S q).find? λx=>x.1==XN a q).isNone)
def strip(x:WE):Int×List Int×Int:=(x.1,x.2.2)
def nE{R:List WE}{S:SW}(h:R.map strip=S)(k:Int):S.find? (λx=>x.1==k)=(R.find? λx=>x.1==k).map strip:=by
 rw[<-h,List.find?_map];rfl
end Go.Proofs
