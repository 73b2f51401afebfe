/- Part of the proof of FieldLevels: see X45. -/
import Derived.Test.YtmkjeaacgibnoaaGreatX40
import Derived.Deep.DeepMust
set_option linter.all false
open Go.Proofs renaming getElem?_lt'->aa
open Nat renaming lt_of_lt_of_le->ab,le_refl->ac,le_trans->ad,le_of_lt->ae
open Go.RowKit.Below renaming refl->ag
open Go.World renaming cell?->ai,size_alloc->ao
open Go.Lib renaming hid->ap
open And renaming intro->aq,symm->ar
open Go.Act renaming put->aw
open List renaming setIfInBounds_toArray->aB,set_cons_zero->aF,set_cons_succ->aI
namespace Go.Proofs
open Go.RowKit Go.Shelf
attribute [local go_sem] Oper.semAt_some
set_option maxRecDepth 100000
set_option maxHeartbeats 4000000
def ag2:PL.underlying 57=some (.slice 64):=by kernel_rfl
def aaX:(PL.info? 64).map (λi=>(i.zero,i.size,i.bytes))=some (some (.agg #[.int .i64 0,.int .i64 0,.int .i64 0,.int .i64 0,.int .i64 0]),5,40):=by kernel_rfl
def kV(W:World)(base:Nat)(v:Value)(l:List nR):Prop:=W.ownsRow base 64 5 v l.length (l.flatMap vV)
def kV.alloc{W:World}{base:Nat}{v:Value}{l:List nR}(h:kV W base v l)(o:Obj):kV (W.alloc o) base v l:=World.ownsRow.alloc h o
def kV.on{W b:World}{base:Nat}{v:Value}{l:List nR}(h:kV W base v l)(d:Below W.heap.size W b):kV b base v l:=by
 obtain⟨c,h⟩:=h
 rcases h with h|⟨g,cap,a,e1,hb,hg,e⟩
 ·exact⟨c,.inl h⟩
 ·exact⟨c,.inr ⟨g,cap,a,e1,hb,(d.block _ (aa hg)).trans hg,e⟩⟩
def Cv(d:Int)(p:Nat):List nR:=if d=1/\p=3 then[(0,1,2,0,13)] else[]
def z61:Array Value:=#[.int .i64 0,.int .i64 0,.int .i64 0,.int .i64 0,.int .i64 0]
def IG(n0:Nat)(A:Array Value)(j:Nat)(vs:Nat->Value)(W:World):Prop:=
 (j=14->∃k,vs 14=.pointer (some ⟨k,0,none⟩)/\n0<=k/\k<W.heap.size/\∃x0 x1 x2 x3 x4,W.heap[k]?=some (.cells #[x0,x1,x2,x3,x4] 61))/\
 (j=15->∃k,vs 15=.pointer (some ⟨k,0,none⟩)/\n0<=k/\k<W.heap.size/\W.heap[k]?=some (.cells z61 61))/\
 (j=16->∃k,vs 14=.pointer (some ⟨k,0,none⟩)/\W.heap[k]?=some (.cells A 61))
def ExT(t:Nat):Bool:=t != 14&&t != 15&&t != 16
def neT(i j:Nat)(u v:Value):Prop:=(i=14/\j=15\/i=15/\j=14)->u≠v
def IG.le{n0:Nat}{A:Array Value}{j:Nat}{vs:Nat->Value}{W g:World}(h:IG n0 A j vs W)(b:Below W.heap.size W g):IG n0 A j vs g:=
 ⟨λe=>(h.1 e).imp λq⟨c,f,d,x0,x1,x2,x3,x4,a⟩=>⟨c,f,ab d b.size,x0,x1,x2,x3,x4,(b.block _ d).trans a⟩,
  λe=>(h.2.1 e).imp λq⟨c,f,d,a⟩=>⟨c,f,ab d b.size,(b.block _ d).trans a⟩,
  λe=>(h.2.2 e).imp λq⟨c,a⟩=>⟨c,(b.block _ (aa a)).trans a⟩⟩
def Sl{n0:Nat}{A:Array Value}{W:World}{vs:Nat->Value}{D:List Nat}{i:Nat}(f:n0<=W.heap.size)(hi:i=14\/i=15)(hd:∀j∈D,ExT j=false->IG n0 A j vs W) :
 (∀j∈D,ExT j=false->IG n0 A j vs (W.alloc (.cells z61 61)))/\IG n0 A i (upd vs i (.pointer (some ⟨W.heap.size,0,none⟩))) (W.alloc (.cells z61 61))/\∀j∈D,ExT j=false->neT j i (vs j) (.pointer (some ⟨W.heap.size,0,none⟩)):=by
 have g:=(ag W.heap.size W).alloc (ac _) (.cells z61 61);refine⟨λj c d=>(hd j c d).le g,⟨λe=>⟨W.heap.size,by simp[upd,e],f,by simp,_,_,_,_,_,au _ _⟩,λe=>⟨W.heap.size,by simp[upd,e],f,by simp,au _ _⟩,λe=>by omega⟩,λj c d e1 e=>?_⟩;obtain⟨q,a,b⟩:∃q,vs j=.pointer (some ⟨q,0,none⟩)/\q<W.heap.size:=by
  rcases e1 with⟨rfl,_⟩|⟨rfl,_⟩
  ·obtain⟨q,a,_,b,_⟩:=(hd _ c d).1 rfl;exact⟨q,a,b⟩
  ·obtain⟨q,a,_,b,_⟩:=(hd _ c d).2.1 rfl;exact⟨q,a,b⟩
 rw[a]at e;cases e;exact Nat.lt_irrefl _ b
structure KR(C:CD)(w:World)(k:Nat)(L:List Int)(B:Nat)(W:World):Prop where
 pK:B<=W.heap.size
 kl:k<B
 bl:w.heap.size<B
 box:W.heap[w.heap.size]?=some (.cells C.val 121)
 row:Row W k (L.map bh)
 low:Below w.heap.size w W
def KR.on{C:CD}{w W b:World}{k:Nat}{L:List Int}{B:Nat}(h:KR C w k L B W)(a:Below W.heap.size W b):KR C w k L B b:=
 ⟨ad h.pK a.size,h.kl,h.bl,(a.block _ (aa h.box)).trans h.box,h.row.on a,Below.on h.low a⟩
def Below.ag3{B:Nat}{a w:World}(h:Below B a w){k:Nat}(b:B<=k)(u0 u1 u2 u3 u4:Value):Below B a (((((w.setCell ⟨k,0,none⟩ u0).setCell ⟨k,1,none⟩ u1).setCell ⟨k,2,none⟩ u2).setCell ⟨k,3,none⟩ u3).setCell ⟨k,4,none⟩ u4):=
 ((((h.setCell (p:=⟨k,0,none⟩) b _).setCell (p:=⟨k,1,none⟩) b _).setCell (p:=⟨k,2,none⟩) b _).setCell (p:=⟨k,3,none⟩) b _).setCell (p:=⟨k,4,none⟩) b _
def vB{W:World}{base e size n:Nat}{v:Value}{xs:List Value}(h:W.ownsRow base e size v n xs):∃b c,v=.slice b n c:=by
 rcases h.2 with⟨rfl,a⟩|⟨g,cap,d,rfl,_⟩
 ·exact⟨none,0,by rw[a]⟩
 ·exact⟨_,_,rfl⟩
def Sm{W:World}{b:Nat}{x:nR}{t:TypeId}(h:W.heap[b]?=some (.cells #[.int .i64 x.1,.int .i64 x.2.1,.int .i64 x.2.2.1,.int .i64 x.2.2.2.1,.int .i64 x.2.2.2.2] t)):∀(j:Nat)(u:Value),(vV x)[j]?=some u->W.cell? ((⟨b,0,none⟩:Addr).add j)=some u:=by
 intro j u e
 match j,e with
 |0,e=>cases e;simp[ai,Addr.add,h]
 |1,e=>cases e;simp[ai,Addr.add,h]
 |2,e=>cases e;simp[ai,Addr.add,h]
 |3,e=>cases e;simp[ai,Addr.add,h]
 |4,e=>cases e;simp[ai,Addr.add,h]
 |j+5,e=>simp[vV]at e
def KR.alloc{C:CD}{w W:World}{k:Nat}{L:List Int}{B:Nat}(h:KR C w k L B W)(o:Obj):KR C w k L B (W.alloc o):=h.on ((ag _ _).alloc (ac _) o)
def vC(C:CD)(d:Int)(hd:d=0\/d=1)(h4:C.n4=3)(h5:C.n5=2)(w:World)(h:C.At w)
 (HT:∀W,C.At W->Calls PL 98 #[.agg C.val] W λe w'=>∃k,e=.returned (.pointer (some ⟨k,0,none⟩))/\Row w' k ((mC d).map bh)/\Below W.heap.size W w') :
 Calls PL 111 #[.agg C.val] w λe w'=>∃v,e=.returned v/\kV w' w.heap.size v (Cv d 3)/\Below w.heap.size w w':=by
 have HA:=ap h;have HTT:=ap HT;have K0:Hid (KT C w (w.alloc (.cells C.val 121))):=ap ⟨au _ _,(ag _ _).alloc (ac _) _⟩;have H4:=ap h4;have H5:=ap h5;clear h HT h4 h5
 go_enter (fx (by decide) Tryz.func111),Tryz.ntmps111
 go_upto_region 1 with fail
 obtain⟨W0,kS⟩:∃W0:World,W0=w.alloc (.cells C.val 121):=⟨_,rfl⟩
 rw[<-kS]at K0 ⊢;clear kS;obtain⟨H,I,J,K,f4,L⟩:=bf K0.out.box
 go_wp2_with (go_at_call 98;refine(HTT.out _ (HA.out.below K0.out.low)).mono ?_;rintro e w2⟨k,rfl,hR,qA⟩;have k2:=K0.out.on qA;clear qA H I J K f4 L;have y:Hid (KR C w k (mC d) w2.heap.size w2):=ap (KR.mk (ac _) hR.1 (aa k2.box) k2.box hR k2.low);clear k2 hR;obtain⟨H,I,J,K,f4,L⟩:=bf y.out.box)
 go_loopw [4,19] (λU V wr=>∃a:Nat,a<=2/\V=.int .i64 a/\kV wr w2.heap.size U (if a=0 then[] else Cv d 3)/\KR C w k (mC d) w2.heap.size wr) (λ_ V _=>2-(intOf V).toNat)
 case atStart=>exact⟨0,Nat.zero_le _,rfl,⟨rfl,.inl ⟨rfl,rfl⟩⟩,y.out⟩
 case round=>
  obtain⟨a,ha,rfl,O,P⟩:=hrel;clear H I J K f4 L;have HO:=ap O;have HK:=ap P;have N5:Hid ((C.n5:Int)=2):=ap (by rw[H5.out];rfl);have N4:Hid ((C.n4:Int)=3):=ap (by rw[H4.out];rfl);clear O P y;obtain⟨H,I,J,K,f4,L⟩:=bf HK.out.box
  match a,ha with
  |2,_=>
   have i1:¬((2:Int)<C.n5):=by rw[N5.out];decide
   obtain⟨b,c,rfl⟩:=vB HO.out;have hm:(Cv d 3).length<=1:=by unfold Cv;split<;>simp
   go_wp2_with (go_at_call 146;refine(Iz _ _ _ _ _ hm).mono ?_;rintro e w3⟨rfl,rfl⟩)
   go_ret
   exact⟨_,rfl,dJ HO.out (ae HK.out.bl),HK.out.low⟩
  |1,_=>
   have i1:((1:Int)<C.n5):=by rw[N5.out];decide
   have i2:¬((2:Int)<C.n5):=by rw[N5.out];decide
   go_wp2
   go_loopw [4,6] (λU v6 wq=>U=u4/\v6=.int .i64 2/\wq=wr) (λ_ _ _=>0)
   case atStart=>exact⟨rfl,rfl,rfl⟩
   case round=>
    obtain⟨rfl,rfl,rfl⟩:=hrel
    go_wp2
    exact⟨⟨2,by omega,rfl,HO.out,HK.out⟩,by simp[intOf]⟩
  |0,_=>
   have i1:((0:Int)<C.n5):=by rw[N5.out];decide
   have i2:((1:Int)<C.n5):=by rw[N5.out];decide
   have i3:¬((2:Int)<C.n5):=by rw[N5.out];decide
   clear H I J K f4 L
   go_wp2
   go_loopw [4,6] (λU v6 wq=>∃b:Nat,1<=b/\b<=2/\v6=.int .i64 b/\kV wq w2.heap.size U (if b=1 then[] else Cv d 3)/\KR C w k (mC d) w2.heap.size wq) (λ_ v6 _=>2-(intOf v6).toNat)
   case atStart=>exact⟨1,by omega,by omega,rfl,HO.out,HK.out⟩
   case round=>
    obtain⟨b,lq,eP,rfl,O,P⟩:=hrel;have X:=ap O;have M:=ap P;clear O P HO HK;obtain⟨H,I,J,K,f4,L⟩:=bf M.out.box
    match b,lq,eP with
    |2,_,_=>
     go_wp2
     exact⟨⟨1,by omega,rfl,X.out,M.out⟩,by simp[intOf]⟩
    |1,_,_=>
     go_wp2
     go_loopw [4,36] (λU Y wp=>∃p:Nat,p<=3/\Y=.int .i64 p/\kV wp w2.heap.size U (Cv d p)/\KR C w k (mC d) w2.heap.size wp) (λ_ Y _=>3-(intOf Y).toNat)
     case atStart=>exact⟨0,by omega,rfl,by simpa[Cv]using X.out,M.out⟩
     case round=>
      obtain⟨p,hp,rfl,O,P⟩:=hrel;have HO3:=ap O;have B:=ap P;clear O P X M H I J K f4 L
      rcases Nat.lt_or_ge p 3 with aH|ve
      case inr=>
       obtain rfl:p=3:=by omega
       have i4:¬((3:Int)<C.n4):=by rw[N4.out];decide
       go_wp2
       exact⟨⟨2,by omega,by omega,rfl,HO3.out,B.out⟩,by simp[intOf]⟩
      have i4:((p:Int)<C.n4):=by rw[N4.out];omega
      have i5:((p:Int)<5):=by omega
      have tl:(mC d).length=75:=by rcases hd with rfl|rfl<;>rfl
      have cell:∀j,j<75->wr.cell? ⟨k,j,none⟩=some (.int .i64 ((mC d).getD j 0)):=λj hj=>B.out.row.getD (by omega);obtain⟨a0,ea0⟩:∃x,x=(mC d).getD (p*5) 0:=⟨_,rfl⟩
      obtain⟨a1,f⟩:∃x,x=(mC d).getD (p*5+1) 0:=⟨_,rfl⟩
      obtain⟨a2,g⟩:∃x,x=(mC d).getD (p*5+2) 0:=⟨_,rfl⟩
      obtain⟨a3,l⟩:∃x,x=(mC d).getD (p*5+3) 0:=⟨_,rfl⟩
      obtain⟨a4,m⟩:∃x,x=(mC d).getD (p*5+4) 0:=⟨_,rfl⟩
      obtain⟨b0,eb0⟩:∃x,x=(mC d).getD (25+p*5) 0:=⟨_,rfl⟩
      obtain⟨b1,n⟩:∃x,x=(mC d).getD (25+p*5+1) 0:=⟨_,rfl⟩
      obtain⟨b2,r⟩:∃x,x=(mC d).getD (25+p*5+2) 0:=⟨_,rfl⟩
      obtain⟨b3,s⟩:∃x,x=(mC d).getD (25+p*5+3) 0:=⟨_,rfl⟩
      obtain⟨b4,t⟩:∃x,x=(mC d).getD (25+p*5+4) 0:=⟨_,rfl⟩
      have T:Hid (wr.cell? ⟨k,p*5,none⟩=some (.int .i64 a0)/\wr.cell? ⟨k,p*5+1,none⟩=some (.int .i64 a1)/\wr.cell? ⟨k,p*5+2,none⟩=some (.int .i64 a2)/\wr.cell? ⟨k,p*5+3,none⟩=some (.int .i64 a3)/\wr.cell? ⟨k,p*5+4,none⟩=some (.int .i64 a4)/\
       wr.cell? ⟨k,25+p*5,none⟩=some (.int .i64 b0)/\wr.cell? ⟨k,25+p*5+1,none⟩=some (.int .i64 b1)/\wr.cell? ⟨k,25+p*5+2,none⟩=some (.int .i64 b2)/\wr.cell? ⟨k,25+p*5+3,none⟩=some (.int .i64 b3)/\wr.cell? ⟨k,25+p*5+4,none⟩=some (.int .i64 b4)):=ap
       ⟨by rw[ea0];exact cell _ (by omega),by rw[f];exact cell _ (by omega),by rw[g];exact cell _ (by omega),by rw[l];exact cell _ (by omega),by rw[m];exact cell _ (by omega),by rw[eb0];exact cell _ (by omega),by rw[n];exact cell _ (by omega),by rw[r];exact cell _ (by omega),by rw[s];exact cell _ (by omega),by rw[t];exact cell _ (by omega)⟩
      have EA:=ap (aq f (aq g (aq l (aq m (aq n (aq r (aq s t)))))));have Ll:=B.out.row.1;clear cell tl ea0 f g l m eb0 n r s t;obtain⟨H,I,J,K,f4,L⟩:=bf B.out.box
      go_upto_region 12 with fail
      clear H I J K f4 L;refine iL 17 14 (λ_ W=>Below wr.heap.size wr W) (λW W'=>Below W.heap.size W W') ExT (λ_=>IG wr.heap.size #[.int .i64 a0,.int .i64 a1,.int .i64 a2,.int .i64 a3,.int .i64 a4]) neT (λ_ _ _ _ h e=>(h (e.symm.imp ar ar)).symm) rfl (by kernel_rfl) (by kernel_rfl) rfl
       (λ_ i vs W W' hle h=>h.le hle) (λi o ho vs eX W he aaZ _ h=>⟨λe=>by subst e;rw[<-he];exact h.1 rfl,λe=>by subst e;rw[<-he];exact h.2.1 rfl,λe=>?_⟩) (ag _ _).drew ?_
      ·subst e;have e14:vs 14=eX 14:=by
        simp only[List.getElem?_toArray,List.getElem?_cons_succ,List.getElem?_cons_zero,Option.some.injEq]at ho;subst ho;exact aaZ ⟨14,.data⟩ (cH.2 ⟨by simp,rfl⟩)
       rw[<-e14];exact h.2.2 rfl
      iterate 14 (
       apply iK
       case hE=>rfl
       case h=>
        intro vs W _ E hd;obtain⟨t0,t1,t2,t3,t4,t5,t6,t7,t8,t9⟩:=T.out;rw[<-E.cell (p:=⟨k,_,none⟩) Ll]at t0 t1 t2 t3 t4 t5 t6 t7 t8 t9
        go_simp
        exact⟨rfl,ag _ _⟩
       case hb=>intro vs;simp only[aw,aB,aF,aI];rfl)
      iterate 2 (
       apply ey
       case hE=>rfl
       case hb=>intro vs;simp only[aw,aB,aF,aI];rfl
       case h=>
        intro vs W D _ _ E _ hi _ hd hP
        go_simp
        exact⟨E.alloc E.size _,Sl E.size (by simp) hd⟩)
      apply ey
      case hE=>rfl
      case hb=>intro vs;simp only[aw];rfl
      case h=>
       intro vs W D _ _ E jw hi _ hd hP;have m14:14∈D:=jw ⟨14,.data⟩ (cH.2 ⟨by simp,rfl⟩);have m15:15∈D:=jw ⟨15,.phase⟩ (cH.2 ⟨by simp,rfl⟩);obtain⟨Z,N,hla,alY,x0,x1,x2,x3,x4,Q⟩:=(hd 14 m14 rfl).1 rfl;obtain⟨F,NZ,Tg,ab0,iC⟩:=(hd 15 m15 rfl).2.1 rfl;have bu:F≠Z:=λe=>hP 14 m14 15 m15 (by decide) rfl rfl (.inl ⟨rfl,rfl⟩) (by rw[N,NZ,e]);have fz:=tO Q;rw[N];obtain⟨y0,y1,y2,y3,y4⟩:=qO Q
       go_simp
       refine⟨Below.ag3 E hla _ _ _ _ _,λj hj hE=>?_,⟨λe=>absurd e (by decide),λe=>absurd e (by decide),λ_=>⟨Z,by simp[upd,N],tD Q⟩⟩,λj _ _ e=>by omega⟩;refine⟨λe=>⟨Z,N,hla,by simpa using alY,_,_,_,_,_,tD Q⟩,λe=>⟨F,NZ,Tg,by simpa using ab0,(gh bu).trans iC⟩,λe=>⟨Z,N,tD Q⟩⟩
      refine nv λvs W _ _ E hd hX=>?_;obtain⟨Z,N,Q⟩:=(hd 16 (by omega) rfl).2.2 rfl;obtain⟨F,NZ,Tg,ab0,iC⟩:=(hd 15 (by omega) rfl).2.1 rfl;have bu:Z≠F:=λe=>hX 14 15 (by omega) (by omega) (by omega) rfl rfl (.inl ⟨rfl,rfl⟩) (by rw[N,NZ,e]);have NE:=ap bu;have HBA:=ap Q;have wC:=ap iC;have HC:=ap E;have HLB:=ap Tg;obtain⟨y0,y1,y2,y3,y4⟩:=qO iC;have fz:=tO iC;rw[N,NZ];clear Q iC E hd hX N NZ bu Tg
      go_upto_region 13 with fail
      obtain⟨z,vp⟩:∃z:World,z=((((W.setCell ⟨F,0,none⟩ (.int .i64 b0)).setCell ⟨F,1,none⟩ (.int .i64 b1)).setCell ⟨F,2,none⟩ (.int .i64 b2)).setCell ⟨F,3,none⟩ (.int .i64 b3)).setCell ⟨F,4,none⟩ (.int .i64 b4):=⟨_,rfl⟩
      have BA:Hid (z.heap[Z]?=some (.cells #[.int .i64 a0,.int .i64 a1,.int .i64 a2,.int .i64 a3,.int .i64 a4] 61)):=ap (by rw[vp];exact(gh NE.out).trans HBA.out);have BB:Hid (z.heap[F]?=some (.cells #[.int .i64 b0,.int .i64 b1,.int .i64 b2,.int .i64 b3,.int .i64 b4] 61)):=ap (by rw[vp];exact tD wC.out);have HB:Hid (Below wr.heap.size wr z):=ap (by rw[vp];exact Below.ag3 HC.out HLB.out _ _ _ _ _);rw[<-vp];clear vp y0 y1 y2 y3 y4 fz HBA wC HC HLB NE;obtain⟨f,g,l,m,n,r,s,t⟩:=EA.out;clear EA T i4 i5 ab0 Ll;have q1:=Rw;have q2:=Kv;have q3:=yM;have q4:=Co;have s1:Ej false true=2:=rfl;have s2:Ej true true=0:=rfl
      rcases hd with rfl|rfl<;>(obtain rfl|rfl|rfl:p=0\/p=1\/p=2:=by omega)
      all_goals (
       simp[mC,je,RJ]at f g l m n r s t;subst f g l m n r s t;obtain⟨z0,z1,z2,z3,z4⟩:=qO BA.out;obtain⟨y0,y1,y2,y3,y4⟩:=qO BB.out;have la:=aa BA.out;have lb:=aa BB.out
       go_upto_region 16 with(go_at_call 96;refine(yH _ _ _).mono ?_;rintro e w'⟨rfl,rfl⟩)
       clear z0 z1 z2 z3 z4 y0 y1 y2 y3 y4 la lb;have R:kV z w2.heap.size u4 []:=by simpa[Cv]using HO3.out.on HB.out
       have y:=B.out.on HB.out;have R:=ap R
       have y:=ap y)
      ·go_wp2
       exact⟨⟨1,by omega,rfl,by simpa[Cv]using(R.out.alloc _).alloc _,(y.out.alloc _).alloc _⟩,by simp[intOf]⟩
      ·go_wp2
       exact⟨⟨2,by omega,rfl,by simpa[Cv]using(R.out.alloc _).alloc _,(y.out.alloc _).alloc _⟩,by simp[intOf]⟩
      ·go_wp2
       exact⟨⟨3,by omega,rfl,by simpa[Cv]using(R.out.alloc _).alloc _,(y.out.alloc _).alloc _⟩,by simp[intOf]⟩
      ·go_wp2
       exact⟨⟨1,by omega,rfl,by simpa[Cv]using(R.out.alloc _).alloc _,(y.out.alloc _).alloc _⟩,by simp[intOf]⟩
      ·go_wp2
       exact⟨⟨2,by omega,rfl,by simpa[Cv]using(R.out.alloc _).alloc _,(y.out.alloc _).alloc _⟩,by simp[intOf]⟩
      obtain⟨S,Sn⟩:∃S:World,S=(z.alloc (.cells #[.int .i64 0,.int .i64 1,.int .i64 2,.int .i64 0,.int .i64 13] 64)).alloc (.cells #[.int .i64 0,.int .i64 1,.int .i64 2,.int .i64 2,.int .i64 13] 64):=⟨_,rfl⟩
      have r1:S.heap[z.heap.size]?=some (.cells #[.int .i64 0,.int .i64 1,.int .i64 2,.int .i64 0,.int .i64 13] 64):=by rw[Sn];exact(((ag _ (z.alloc _)).alloc (ac _) _).block _ (by simp)).trans (au z _)
      have r2:S.heap[z.heap.size+1]?=some (.cells #[.int .i64 0,.int .i64 1,.int .i64 2,.int .i64 2,.int .i64 13] 64):=by
       have h:=au (z.alloc (.cells #[.int .i64 0,.int .i64 1,.int .i64 2,.int .i64 0,.int .i64 13] 64)) (.cells #[.int .i64 0,.int .i64 1,.int .i64 2,.int .i64 2,.int .i64 13] 64);rw[ao]at h;rw[Sn];exact h
      have O4:Hid (kV S w2.heap.size u4 []):=ap (by rw[Sn];exact(R.out.alloc _).alloc _);have K4:Hid (KR C w k (mC 1) w2.heap.size S):=ap (by rw[Sn];exact(y.out.alloc _).alloc _);rw[<-Sn];have R1:=ap r1;clear Sn;have z1:=aa r1;have z2:=aa r2;obtain⟨c0,c1,c2,c3,c4⟩:=qO r1;obtain⟨d0,d1,d2,d3,d4⟩:=qO r2;clear r1 r2;obtain⟨i0,hi,mF,dx,wD⟩:=info_parts aaX;have NB:=ap K4.out.pK
      go_wp2_with (at_builtin;refine wpList_append_own _ rfl _ _ _ rfl w2.heap.size 64 i0 _ 5 40 ag2 hi mF dx wD rfl (by decide) u4 0 [] rfl (O4.out.alloc _) ⟨S.heap.size,0,none⟩ 1 1 (vV (0,1,2,0,13)) rfl rfl (Sm (x:=(0,1,2,0,13)) (au S _)) (by simp[vV,Value.oneCell']) (by simp only[maxLen];omega) (by omega) (by have:=NB.out;simp;omega) ?_;intro v' w4 h1 h2 _;have H1:=ap h1;have H2:=ap h2;clear h1 h2)
      have bu:=cZ O4.out;have A:=K4.out.alloc (.cells #[.int .i64 0,.int .i64 1,.int .i64 2,.int .i64 0,.int .i64 13] 64);have hg:=(ag w2.heap.size _).grown H2.out A.pK bu;exact⟨⟨3,by omega,rfl,by simpa[kV,Cv,vV]using H1.out,ad A.pK H2.out.size,A.kl,A.bl,(hg.block _ A.bl).trans A.box,⟨ab A.row.1 H2.out.size,λj u e=>(hg.cell (p:=⟨k,j,none⟩) A.kl).trans (A.row.2 j u e)⟩,A.low.grown H2.out A.low.size λq e=>ad (ae A.bl) (bu q e)⟩,by simp[intOf]⟩
abbrev So(a b c:Nat):Value:=.func (.func 115) #[] #[.pointer (some ⟨a,0,none⟩),.pointer (some ⟨b,0,none⟩),.pointer (some ⟨c,0,none⟩)]
structure DE(V:Array Value)(k2 k3 k4 k5 la ca lb cb Bc Bd Bt B1:Nat)(W:World):Prop where
 lo:k2<B1/\k3<B1/\k4<B1/\k5<B1/\la<B1/\lb<B1/\Bc<B1/\Bd<B1/\Bt<B1
 hi:B1<=W.heap.size
 c:W.heap[Bc]?=some (.cells V 27)
 d:∃v,W.heap[Bd]?=some (.cells #[v] 42)
 t:W.heap[Bt]?=some (.cells #[So Bc Bd Bt] 80)
 ex:CJ W k2 k3 k4 k5 la ca lb cb 1
def Row.XM{W a:World}{k B:Nat}{l:List Value}(h:Row W k l)(c:k<B)(b:Below B W a):Row a k l:=
 ⟨ab h.1 b.size,λj v e=>(b.cell (p:=⟨k,j,none⟩) c).trans (h.2 j v e)⟩
def DE.XM{V:Array Value}{k2 k3 f g i ca lb j k l m b:Nat}{W n:World}(h:DE V k2 k3 f g i ca lb j k l m b W)(a:Below b W n):DE V k2 k3 f g i ca lb j k l m b n:=by
 obtain⟨a1,a2,a3,a4,o,p,q,r,s⟩:=h.lo;exact⟨h.lo,ad h.hi a.size,(a.block _ q).trans h.c,h.d.imp λ_ e=>(a.block _ r).trans e,(a.block _ s).trans h.t,⟨h.ex.r2.XM a1 a,h.ex.r3.XM a2 a,h.ex.r4.XM a3 a,h.ex.r5.XM a4 a,h.ex.ra.XM o a,h.ex.rb.XM p a⟩⟩
def DE.on{V:Array Value}{k2 k3 b f g ca lb i j k l m:Nat}{W n:World}(h:DE V k2 k3 b f g ca lb i j k l m W)(a:Below W.heap.size W n):DE V k2 k3 b f g ca lb i j k l m n:=
 ⟨h.lo,ad h.hi a.size,(a.block _ (aa h.c)).trans h.c,h.d.imp λ_ e=>(a.block _ (aa e)).trans e,(a.block _ (aa h.t)).trans h.t,h.ex.on a⟩
def DP(a b:Nat)(w:World)(e:Ending)(w':World):Prop:=e=.returned (.bool true)/\(∃v,w'.heap[b]?=some (.cells #[v] 42)/\bB w' v [0,0])/\Below a w w'
def Sr{k2 a k3 c3 b c d e f ca lb g:Nat}:qP (ir k2 a k3 c3 b c d e f ca lb g 0) (ir k2 a k3 c3 b c d e f ca lb g 0).n5=true:=by kernel_rfl
def Ss{k2 a k3 c3 d f g i j ca lb k:Nat}(w:World)(h:(ir k2 a k3 c3 d f g i j ca lb k 0).At w):Calls PL 114 #[.agg (ir k2 a k3 c3 d f g i j ca lb k 0).val] w (aO (.bool true) w):=by
 have m:=VY (ir k2 a k3 c3 d f g i j ca lb k 0) 0 w h (yQ (.inl rfl)) (by simp[ir]) λW n=>(vC _ 0 (.inl rfl) rfl rfl W n λq l=>tA (.inl rfl) ⟨k2,a,k3,c3,d,f,g,i,j,ca,lb,k,rfl⟩ l).mono ?_
 ·rw[Sr]at m;exact m
 ·rintro e w'⟨v,rfl,o,p⟩;obtain⟨b,c,rfl⟩:=vB o;exact⟨b,c,rfl,p⟩
def VZ{W:World}{base e size n B:Nat}{v u:Value}{xs:List Value}(h:W.ownsRow base e size v n xs)(d:B<base):(W.setCell ⟨B,0,none⟩ u).ownsRow base e size v n xs:=by
 obtain⟨b,h⟩:=h
 rcases h with h|⟨g,cap,a,e1,hb,hg,c⟩
 ·exact⟨b,.inl h⟩
 ·exact⟨b,.inr ⟨g,cap,a,e1,hb,(aZ (by omega)).trans hg,c⟩⟩
def Su{k2 I k3 c3 o J q K r ca lb s L k M X N:Nat}{l:Value}(w:World)(h:DE (ir k2 I k3 c3 o J q K r ca lb s 1).val k2 k3 o q r ca lb s L k M X w)(hl:bB w l [0,0])(O:N<=k) :
 Calls PL 115 #[l,.int .i64 0,.pointer (some ⟨L,0,none⟩),.pointer (some ⟨k,0,none⟩),.pointer (some ⟨M,0,none⟩)] w (DP N k w):=by
 have P:=ap hl;obtain⟨b,c,rfl,Q⟩:=hl;obtain⟨g,m,rfl,t,x⟩:=Q (by simp);have y:=ap h;have Y:=ap (x 0 (by simp));have Z:=ap (x 1 (by simp));simp only[List.length_cons,List.length_nil,Nat.reduceAdd]at P ⊢;have R:Hid (∀W,CJ W k2 k3 o q r ca lb s 1->bB W (.slice (some ⟨g,m,none⟩) 2 c) [0,0]->Calls PL 113 #[.agg (ir k2 I k3 c3 o J q K r ca lb s 1).val,.slice (some ⟨g,m,none⟩) 2 c] W _):=ap λW hW hR=>yP W hW hR;have z:=h.c;clear h Q x;simp only[ir,CD.val]at R z y;obtain⟨f0,f1,f2,f3,f4,f5⟩:=bf z;clear z
 go_enter (fx (by decide) Tryz.func115),Tryz.ntmps115
 go_upto_region 4 with(first
  |(go_at_call 113;go_must (refine(R.out _ y.out.ex P.out).mono ?_);rintro e w1⟨q2,p2,q3,p3,q4,p4,q5,p5,xa,ya,xb,yb,rfl,S⟩;have i:=ap S;clear S)
  |(go_at_call 114;go_must (refine(Ss _ (Rx i.out.rows.r2 i.out.rows.r3 i.out.rows.r4 i.out.rows.r5 i.out.rows.ra i.out.rows.rb)).mono ?_);rintro e w2⟨rfl,T⟩;have B2:=ap T;clear T))
 have T2:=ap (Below.on i.out.low B2.out);have U:∀j u,[bh 0,bh 0][j]?=some u->w2.cell? ⟨g,m+j,none⟩=some u:=λj u e=>by
  match j,e with
  |0,e=>cases e;exact(T2.out.cell (p:=⟨g,m,none⟩) t).trans Y.out
  |1,e=>cases e;exact(T2.out.cell (p:=⟨g,m+1,none⟩) t).trans Z.out
 have CL:=ap U;obtain⟨v0,a⟩:=y.out.d;have A:=ap a;have n:=(T2.out.block _ (aa a)).trans a;have B:=ap n;have V:g<w2.heap.size:=ab t T2.out.size;have C:=ap V;clear U a n V
 go_wp2_with (go_at_call 101;go_must (refine(tC g m 2 c [bh 0,bh 0] _ rfl CL.out (by simp[Value.oneCell']) (by omega) C.out).mono ?_);rintro e w3⟨v,rfl,hv,D,E⟩;have f:=(E.block _ (aa B.out)).trans B.out;have fz:=tO f;have y0:w3.cell? ⟨k,0,none⟩=some v0:=(by simp[ai,f]);obtain⟨bb,cc,rfl⟩:=vB D;have F:=ap f;have HO:=ap D;have B3:=ap E;clear f D E hv)
 go_ret
 have H:k<w2.heap.size:=aa B.out;refine⟨rfl,⟨_,yV F.out,eO.reads (e:=3) (base:=w2.heap.size) (VZ HO.out H)⟩,((Below.on T2.out B3.out).mono (ad O (ae (aa A.out)))).setCell O _⟩
def yX{T e:TypeId}(a:PL.underlying T=some (.slice e))(c:(PL.info? e).map (λi=>(i.zero,i.size,i.bytes))=some (some (.int .i64 0),1,8)){ops:Array Oper}{o:Oper}{b:Act}{K:Value->World->Prop}{W:World}(d:o.guard=none)(s x:Operand)
 (f:o.op=.call { callee:=.builtin .append,args:=#[s,x],argTypes:=#[T,T] }) (base:Nat) (v:Value) (l:List Int) (j:Int) (k:Nat) (hs:b.eval s=v) (g:eO e W base v l)
 (m:b.eval x=.slice (some ⟨k,0,none⟩) 1 1) (hc:W.cell? ⟨k,0,none⟩=some (.int .i64 j)) (hl:l.length<=1000) (n:base<=W.heap.size)
 (h:∀v' w',eO e w' base v' (l++[j])->W.grownBy w' v.ownBlock->K v' w'):fC PL ops K o b W:=by
 obtain⟨p,hi,r,t,y⟩:=info_parts c
 obtain⟨v',w',z,A,B,_⟩:=run_append_own (P:=PL) (w:=W) base T o.type e p (.int .i64 0) 1 8 a hi r t y rfl (by decide) v l.length _ g ⟨k,0,none⟩ 1 1 [.int .i64 j] rfl (λq u e=>by
  match q,e with
  |0,e=>cases e;exact hc) (by simp[Value.oneCell']) (by simp only[maxLen];omega) (by omega) n
 unfold fC;rw[if_pos (by simp[Region.wanted,d])];unfold execOp;simp only[f,resolve,invoke,builtin,Sem.run_bind,Sem.run_pure,Result.andThen_ok,List.map_toArray,List.map_cons,List.map_nil,hs,m,z];refine h v' w' ?_ B;unfold eO;rw[List.length_append,List.map_append];exact A
structure CT(V:Array Value)(k2 k3 k4 k5 la ca lb cb Bc Bd Bt B1:Nat)(w1:World)(b:Bool)(W:World):Prop where
 de:DE V k2 k3 k4 k5 la ca lb cb Bc Bd Bt B1 W
 low:Below B1 w1 W
 old:b=false->Below w1.heap.size w1 W
def V1(n0 a:Nat)(xs:List Int)(j:Nat)(vs:Nat->Value)(W:World):Prop:=
 (j=3->∃k,vs 3=.slice (some ⟨k,0,none⟩) 1 1/\n0<=k/\W.heap[k]?=some (.cells #[.int .i64 0] 3))/\
 (j=4->eO 3 W a (vs 4) (xs++[0]))
def V1.le{n0 b:Nat}{xs:List Int}{j:Nat}{vs:Nat->Value}{W c:World}(h:V1 n0 b xs j vs W)(d:Below W.heap.size W c):V1 n0 b xs j vs c:=
 ⟨λe=>(h.1 e).imp λ_ a=>⟨a.1,a.2.1,(d.block _ (aa a.2.2)).trans a.2.2⟩,λe=>(h.2 e).on d⟩
def ExD(t:Nat):Bool:=t != 3&&t != 4
def Fq{k2 x k3 c3 f y g z m ca lb p v r s d F:Nat}{l:Value}(xs:List Int)(L:xs.length<2)(w:World)(h:DE (ir k2 x k3 c3 f y g z m ca lb p 1).val k2 k3 f g m ca lb p v r s d w)(hl:eO 3 w d l xs)(cB:F<=d)
 (M:∀W l',DE (ir k2 x k3 c3 f y g z m ca lb p 1).val k2 k3 f g m ca lb p v r s d W->eO 3 W d l' (xs++[0])->Calls PL 115 #[l',.int .i64 0,.pointer (some ⟨v,0,none⟩),.pointer (some ⟨r,0,none⟩),.pointer (some ⟨s,0,none⟩)] W (DP F r W)) :
 Calls PL 115 #[l,.int .i64 0,.pointer (some ⟨v,0,none⟩),.pointer (some ⟨r,0,none⟩),.pointer (some ⟨s,0,none⟩)] w (DP F r w):=by
 obtain⟨b,c,rfl⟩:=vB hl;have HX:=ap h;have N:=ap hl;have IH:=ap M;have O:=h.c;have i1:¬((xs.length:Int)=2):=by omega
 have H:=ap L;clear h hl M L;obtain⟨P,Q,R,S,f4,T⟩:=bf O;clear O;simp only[ir]at P Q R S f4 T
 go_enter (fx (by decide) Tryz.func115),Tryz.ntmps115
 go_wp2
 go_loopw [8] (λv8 wr=>v8=.int .i64 0/\wr=w) (λ_ _=>0)
 case atStart=>exact⟨rfl,rfl⟩
 case round=>
  obtain⟨rfl,hw⟩:=hrel;subst hw
  go_upto_region 9 with(go_at_call 112;refine(uK (n:=0) rfl _).mono ?_;rintro e w'⟨rfl,rfl⟩)
  have C0:Hid (CT (ir k2 x k3 c3 f y g z m ca lb p 1).val k2 k3 f g m ca lb p v r s d wr false wr.drew):=ap ⟨HX.out.on (ag _ _).drew,(ag _ _).drew,λ_=>(ag _ _).drew⟩;clear P Q R S f4 T i1;refine iL 8 4 (CT (ir k2 x k3 c3 f y g z m ca lb p 1).val k2 k3 f g m ca lb p v r s d wr) (λW U=>Below W.heap.size W U) ExD (λ_=>V1 wr.heap.size d xs) (λ_ _ _ _=>True) (λ_ _ _ _ _=>trivial) rfl (by kernel_rfl) (by kernel_rfl) rfl
   (λ_ i vs W U I h=>h.le I) (λi o ho vs eX W V _ _ h=>⟨λe=>by subst e;rw[<-V];exact h.1 rfl,λe=>by subst e;rw[<-V];exact h.2 rfl⟩) C0.out ?_
  iterate 3 (
   apply iK
   case hE=>rfl
   case h=>
    intro vs W b a hd;have A:=a.de.t;have t0:W.cell? ⟨s,0,none⟩=some (So v r s):=by simp[ai,A]
    clear A
    go_simp
    first
    |exact⟨rfl,ag _ _⟩
    |exact⟨rfl,a,ag _ _⟩
   case hb=>intro vs;simp only[aw,aB,aF,aI];rfl)
  apply ey
  case hE=>rfl
  case hb=>intro vs;simp only[aw,aB,aF,aI];rfl
  case h=>
   intro vs W D b hb a X hi _ hd hP;have u:=(ag W.heap.size W).alloc (ac _) (.cells #[.int .i64 0] 3);have B:Hid (CT (ir k2 x k3 c3 f y g z m ca lb p 1).val k2 k3 f g m ca lb p v r s d wr b (W.alloc (.cells #[.int .i64 0] 3))):=ap ⟨a.de.on u,a.low.trans (u.mono a.de.hi),λe=>Below.on (a.old e) u⟩;have HW:=ap (a.low.size);clear a
   go_simp
   exact⟨B.out,λj C J=>(hd j C J).le u,⟨λ_=>⟨W.heap.size,by simp[upd],HW.out,au _ _⟩,λe=>absurd e (by decide)⟩⟩
  apply ey
  case hE=>rfl
  case hb=>intro vs;simp only[aw,aB,aF,aI];rfl
  case h=>
   intro vs W D bb iC a X hi _ hd hP;have m3:3∈D:=X ⟨3,.data⟩ (cH.2 ⟨by simp,rfl⟩);obtain⟨q,hq,hql,K⟩:=(hd 3 m3 rfl).1 rfl;have hold:=a.old (iC rfl);have Y:=N.out.on hold;have bu:=cZ Y;have aH:∀j,Value.ownBlock (.slice b xs.length c)=some j->j<wr.heap.size:=λj e=>by
    obtain⟨cur,hc⟩:=qm N.out j e;exact aa hc
   refine yX Rz RE rfl _ _ rfl d (.slice b xs.length c) xs 0 q rfl Y hq (by simp[ai,K]) (by have:=H.out;omega) a.de.hi λv' w' h1 Z=>?_;have u:Below d W w':=(ag d W).grown Z a.de.hi bu;refine⟨⟨a.de.XM u,a.low.trans u,λe=>by simp at e⟩,λj C J=>⟨λe=>?_,λe=>absurd C (by rw[e];exact hi)⟩,⟨λe=>absurd e (by decide),λ_=>by simpa[upd]using h1⟩,λ_ _ _=>trivial⟩;refine((hd j C J).1 e).imp λk E=>⟨E.1,E.2.1,(Z.block k (aa E.2.2) λe=>?_).trans E.2.2⟩
   have:=aH _ e.symm;omega
  iterate 3 (
   apply iK
   case hE=>rfl
   case h=>
    intro vs W b a hd
    go_simp
    exact⟨rfl,ag _ _⟩
   case hb=>intro vs;simp only[aw,aB,aF,aI];rfl)
  refine nv λvs W bb _ a hd _=>?_;have hO:=(hd 4 (by omega) rfl).2 rfl;have HO:=ap hO;have B:=ap a;clear hd hO a
  go_wp2_with (go_at_call 115;go_must (refine(IH.out _ _ B.out.de HO.out).mono ?_);rintro e w2⟨rfl,hp,u⟩)
  go_ret
  exact⟨rfl,hp,(B.out.low.mono cB).trans u⟩
def ab1{k2 m k3 c3 d n e o f ca lb g i a j k b:Nat}(w:World)(h:DE (ir k2 m k3 c3 d n e o f ca lb g 1).val k2 k3 d e f ca lb g i a j k w)(p:b<=a)(l:b<=k) :
 Calls PL 115 #[.slice none 0 0,.int .i64 0,.pointer (some ⟨i,0,none⟩),.pointer (some ⟨a,0,none⟩),.pointer (some ⟨j,0,none⟩)] w (DP b a w):=
 Fq [] (by decide) w h ⟨rfl,.inl ⟨rfl,rfl⟩⟩ l λW s q hl=>Fq [0] (by decide) W q hl l λr t vp c=>Su r vp (eO.reads c) p
end Go.Proofs
namespace Go.Proofs
open Go.RowKit Go.Shelf
set_option maxRecDepth 100000
set_option maxHeartbeats 4000000
def Cw{P:Program}{w:World}{a:Addr}{m:Mode}(f:Fn)(ts b:Array Value):(store a (.func f ts b) m).run P w=stored P w a (.func f ts b) m:=run_store P w a _ m rfl
attribute [local go_sem] Cw
def V2{w:World}{B:Nat}{v:Value}{t:TypeId}(h:w.heap[B]?=some (.cells #[v] t)):Below w.heap.size w (w.setCell ⟨B,0,none⟩ v):=
 ⟨rfl,rfl,rfl,by simp,λk _=>by
   by_cases e:k=B
   ·subst e;rw[yV h,h]
   ·exact aZ (Ne.symm e)⟩
structure KDl(V:Array Value)(w:World)(W:World):Prop where
 c:W.heap[w.heap.size]?=some (.cells V 27)
 d:W.heap[w.heap.size+1]?=some (.cells #[.slice none 0 0] 42)
 low:Below w.heap.size w W
def KDl.on{V:Array Value}{w W b:World}(h:KDl V w W)(a:Below W.heap.size W b):KDl V w b:=
 ⟨(a.block _ (aa h.c)).trans h.c,(a.block _ (aa h.d)).trans h.d,Below.on h.low a⟩
def II{k2 i k3 c3 a j b k f ca lb g:Nat}(w:World)(h:CJ w k2 k3 a b f ca lb g 1) :
 Calls PL 52 #[.agg (ir k2 i k3 c3 a j b k f ca lb g 1).val] w λe w'=>∃v,e=.returned (.tuple #[v,.bool true,.int .i64 0])/\bB w' v [0,0]/\Below w.heap.size w w':=by
 have l:=ap h
 have q:Hid (KDl (ir k2 i k3 c3 a j b k f ca lb g 1).val w ((w.alloc (.cells (ir k2 i k3 c3 a j b k f ca lb g 1).val 27)).alloc (.cells #[.slice none 0 0] 42))):=ap (by
  refine⟨(((ag (w.alloc _).heap.size _).alloc (ac _) _).block _ (by simp)).trans (au w _),?_,((ag _ _).alloc (ac _) _).alloc (by simp) _⟩;have h:=au (w.alloc (.cells (ir k2 i k3 c3 a j b k f ca lb g 1).val 27)) (.cells #[.slice none 0 0] 42);rw[ao]at h
  exact h)
 have L:Hid (∀W,CJ W k2 k3 a b f ca lb g 1->Calls PL 22 #[.agg (ir k2 i k3 c3 a j b k f ca lb g 1).val] W (aO (.int .i64 0) W)):=ap λW X=>sY (yQ (.inr rfl)) X.at;clear h;simp only[ir,CD.val]at q L ⊢
 go_enter (fx (by decide) Tryz.func52),Tryz.ntmps52
 go_upto_region 1 with fail
 obtain⟨M,N⟩:∃M:World,M=((w.alloc (.cells #[.int .i64 60,.int .i64 4,.slice (some ⟨k2,0,none⟩) 2 i,.slice (some ⟨k3,0,none⟩) 4 c3,.slice (some ⟨a,0,none⟩) 3 j,.slice (some ⟨b,0,none⟩) 2 k] 27)).alloc (.cells #[.slice none 0 0] 42)):=⟨_,rfl⟩
 rw[<-N]at q ⊢;clear N;obtain⟨z,A,B,C,f4,D⟩:=bf q.out.c
 go_upto_region 4 with(go_at_call 22;go_must (refine(L.out _ (l.out.on q.out.low)).mono ?_);rintro e w1⟨rfl,r⟩;have H:=ap (q.out.on r);clear r z A B C f4 D;obtain⟨z,A,B,C,f4,D⟩:=bf H.out.c)
 go_upto_region 5 with fail
 obtain⟨n,E⟩:∃n:World,n=w1.alloc (.cells #[.nilFunc] 80):=⟨_,rfl⟩
 have r:Below w1.heap.size w1 n:=by rw[E];exact(ag _ _).alloc (ac _) _
 have F:n.heap[w1.heap.size]?=some (.cells #[.nilFunc] 80):=by rw[E];exact au _ _
 rw[<-E];clear E z A B C f4 D;have I:=ap (H.out.on r);have Y:=ap F;have Z:n.cell? ⟨w1.heap.size,0,none⟩=some .nilFunc:=by simp[ai,F]
 have O:=tO F;clear F r
 go_upto_region 6 with fail
 obtain⟨m,vp⟩:∃m:World,m=n.setCell ⟨w1.heap.size,0,none⟩ (So w.heap.size (w.heap.size+1) w1.heap.size):=⟨_,rfl⟩
 rw[<-vp];have s:=aa H.out.d
 have o:Hid (KDl #[.int .i64 60,.int .i64 4,.slice (some ⟨k2,0,none⟩) 2 i,.slice (some ⟨k3,0,none⟩) 4 c3,.slice (some ⟨a,0,none⟩) 3 j,.slice (some ⟨b,0,none⟩) 2 k] w m):=ap (by
  rw[vp]
  exact⟨(aZ (by omega)).trans I.out.c,(aZ (by omega)).trans I.out.d,I.out.low.setCell (p:=⟨w1.heap.size,0,none⟩) (by simp only;omega) _⟩)
 have P:Hid (DE (ir k2 i k3 c3 a j b k f ca lb g 1).val k2 k3 a b f ca lb g w.heap.size (w.heap.size+1) w1.heap.size (w1.heap.size+1) m):=ap (by
  have e:=l.out.on o.out.low;have l2:=l.out.r2.1;have l3:=l.out.r3.1;have l4:=l.out.r4.1;have l5:=l.out.r5.1;have f:=l.out.ra.1;have lb:=l.out.rb.1;have Q:m.heap[w1.heap.size]?=some (.cells #[So w.heap.size (w.heap.size+1) w1.heap.size] 80):=by rw[vp];exact yV Y.out
  exact⟨⟨by omega,by omega,by omega,by omega,by omega,by omega,by omega,by omega,by omega⟩,aa Q,o.out.c,⟨_,o.out.d⟩,Q,e⟩)
 have R:=P.out.t;have t1:m.cell? ⟨w1.heap.size,0,none⟩=some (So w.heap.size (w.heap.size+1) w1.heap.size):=by simp[ai,R]
 obtain⟨z,A,B,C,f4,D⟩:=bf o.out.c;clear vp Z O R;have J:=ap s;clear s
 go_wp2
 go_loopw [19] (λK wr=>K=.int .i64 0/\wr=m) (λ_ _=>0)
 case atStart=>exact⟨rfl,rfl⟩
 case round=>
  obtain⟨rfl,hw⟩:=hrel;subst hw
  go_wp2_with (go_at_call 115;go_must (refine(ab1 _ P.out (Nat.le_succ _) (by have:=J.out;omega)).mono ?_);rintro e w3⟨rfl,⟨v,hv,S⟩,T⟩;have HR:=ap S;obtain⟨x,y,rfl,Yc⟩:=S;clear Yc;have y0:w3.cell? ⟨w.heap.size+1,0,none⟩=some (.slice x 2 y):=(by simp[ai,hv]);have O:=tO hv;have U:=ap hv;have V:=ap T;clear hv T)
  have hs:=V2 U.out;have hy:=yV (u:=.slice x 2 y) U.out;refine bodyPost_ret (v:=.tuple #[.slice x 2 y,.bool true,.int .i64 0]) ?_ rfl ⟨_,rfl,HR.out.on hs,(o.out.low.trans V.out).trans (hs.mono (ad o.out.low.size V.out.size))⟩;have hz:=aa hy;have sB:(w3.setCell ⟨w.heap.size+1,0,none⟩ (.slice x 2 y)).cell? ⟨w.heap.size+1,0,none⟩=some (.slice x 2 y):=by simp[ai,hy]
  clear hs;simp[results,Tryz.results52,go_sem,sB]
end Go.Proofs
