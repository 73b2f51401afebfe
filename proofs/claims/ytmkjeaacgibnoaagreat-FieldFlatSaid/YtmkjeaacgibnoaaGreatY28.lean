/- Part of the proof of FieldFlat and FieldMarshals. -/
import Derived.Test.YtmkjeaacgibnoaaGreatY26
import Derived.Test.YtmkjeaacgibnoaaGreatY27
import Derived.Deep.CutRange
import Derived.Deep.RegionWith
import Derived.LoopIn
import Derived.LoopNIn
import Derived.OwnWalkIn
import Derived.RangeFuncBound
import Derived.RangeFuncCalls
import Derived.RangeFuncFrom
import Derived.RangeFuncLeaves
import Derived.RangeFuncNested
import Derived.Shelf.Abstract
import Derived.Shelf.RegionOpen
import Derived.TacticsInMore
set_option linter.all false
open List renaming range->aa,range_succ->ab,length_append->ac,append_assoc->ad,size_toArray->ae,length_cons->ag,length_nil->ai,push_toArray->ao,append_toArray->ap,nil_append->aq,cons_append->ar,foldl_append->aw,foldl_cons->aB,foldl_nil->aF
open Nat renaming succ_mul->aI,reduceAdd->aJ,reduceSub->aL,zero_le->aP,le_refl->aT,lt_of_lt_of_le->a8,le_succ->a9
open Int renaming eq_ofNat_of_zero_le->ba
open Go.Proofs.Tryz renaming func135->bb,results24->bc,results26->bd
open Array renaming replicate_succ->bg,replicate_zero->bi,getElem?_modify->bj
open Go.World renaming cell?->bl,frozen?->bm,cell?_setCell_other->bo,cell?_setCell_same'->bp,frozen?_setCell->bq,size_alloc->br,setCell->bs
open Go.Addr renaming block->bt
open Go.KeepsOthers renaming setCell->bv
open Go.Lib renaming hid->bw
open Go renaming callsIn_wide->bx,callsIn_of_wp_marks->bA,wp_region_noPanic->bC,wpIn_rangeFunc_ownF->bL,cell_kept->bM,frozen_kept->bR,ownFrom_below->bT,grownBy_putObj'->bX,run_takeDeferred->b1,results->b7
open Go.RowKit.Below renaming refl->b8
open Go.Proofs renaming getElem?_lt'->b9
open Go.Proofs.Below renaming on->ca,zQ->cb
namespace Go.Proofs
open Go.RowKit Go.Shelf
attribute [local go_sem] Oper.semAt_some
set_option maxRecDepth 100000
set_option maxHeartbeats 4000000
def lv(s r:Int):Int:=lvl s r s.toNat
def fD(s a:Int)(b:Nat):List Int:=(aa b).map λj=>lv s (a+(j:Nat))
def cJ(a b:Int)(c d:Nat):List Int:=(aa c).flatMap fun(k:Nat)=>fD (a+k) b d
def AP(s b:Int)(a:Nat):(fD s b a).length=a:=by simp[fD]
def AQ(c d:Int)(b:Nat):∀a:Nat,(cJ c d a b).length=a*b
 |0=>by simp[cJ]
 |a+1=>by
  have:=AQ c d b a;unfold cJ at this⊢;rw[ab,List.flatMap_append,ac,this];simp[AP,aI]
def nA(s a:Int)(j:Nat):fD s a (j+1)=fD s a j++[lv s (a+(j:Nat))]:=by
 simp[fD,ab]
def kE(a b:Int)(c d:Nat):cJ a b (c+1) d=cJ a b c d++fD (a+(c:Nat)) b d:=by
 simp[cJ,ab]
def Nl(s a:Int)(b:Nat):∀j:Nat,j<=b->fD s a j <+: fD s a b:=by
 intro j c;unfold fD;exact(List.map_take ..▸List.take_range ..▸by rw[Nat.min_eq_left c]:(List.take j ((aa b).map λj=>lv s (a+(j:Nat))))=(aa j).map λj=>lv s (a+(j:Nat)))▸List.take_prefix _ _
def AU(a b:Int)(c:Nat)(k:Nat):∀d:Nat,cJ a b k c <+: cJ a b (k+d) c
 |0=>List.prefix_rfl
 |d+1=>by rw[<-Nat.add_assoc,kE];exact(AU a b c k d).trans (List.prefix_append _ _)
def Nm(a b:Int)(c d k j:Nat)(g:k<c)(h:j<d):cJ a b k d++fD (a+(k:Nat)) b j++[lv (a+(k:Nat)) (b+(j:Nat))] <+: cJ a b c d:=by
 rw[ad,<-nA];obtain⟨t,f⟩:=Nl (a+(k:Nat)) b d (j+1) (by omega);obtain⟨u,e⟩:=AU a b d (k+1) (c-(k+1));rw[show k+1+(c-(k+1))=c by omega,kE,<-f]at e;exact⟨t++u,by rw[<-e];simp⟩
def Rr(s r:Int)(w:World)(f:1<=s)(g:s<=90)(c : -s<=r)(d:r<=s):Calls PL 79 #[.int .i64 s,.int .i64 r] w λe w'=>e=.returned (.int .i64 (lv s r))/\w=w':=by
 obtain⟨n,rfl⟩:=ba (a:=s) (by omega);exact(AG n r w (by omega) (by omega) c d).mono λ_ _⟨a,b⟩=>⟨a,b.symm⟩
def yC(B:Nat)(W a:World):Prop:=∀o:Nat,a.cell? ⟨B,o,none⟩=W.cell? ⟨B,o,none⟩
def Ii(n:Nat)(C:1<=n)(l g:Nat)(a b:Int)(d c:Nat)(D:1<=a)(E:a+d<=91)(F:1<=d)(H : -a<=b)(I:b+c<=a+1)(K:1<=c)(J r:List Int->World->Prop)
 (s:∀f x W,J f W->f.length<d*c->YieldAt Fence.wide (n-1) PL l #[.int .i64 x] W λe h=>
   (e=.returned (.bool true)/\J (f++[x]) h/\yC g W h)\/(e=.returned (.bool false)/\r (f++[x]) h))
 (W:World) (c1:W.cell? ⟨g,1,none⟩=some (.int .i64 a)) (t:W.cell? ⟨g,2,none⟩=some (.int .i64 (a+d-1))) (c3:W.cell? ⟨g,3,none⟩=some (.int .i64 b)) (u:W.cell? ⟨g,4,none⟩=some (.int .i64 (b+c-1))) (w:J [] W) :
 CallsIn Fence.wide n PL 135 #[.func (.yield l) #[] #[],.pointer (some ⟨g,0,none⟩)] W λe h=>(∃v,e=.returned v)/\
  ((∃ys,ys=cJ a b d c/\J ys h)\/(∃f,f <+: cJ a b d c/\r f h)):=by
 refine callsIn_of_wp (fx (by decide) bb) rfl trivial ?_ rfl;simp only[Tryz.ntmps135,ae,ag,ai,aJ,aL,bg,bi,ao,ap,aq,ar]
 gi_wp2
 gi_loopw [3] (λv wr=>∃k:Nat,k<=d/\v=.int .i64 (a+k)/\J (cJ a b k c) wr/\(wr.cell? ⟨g,1,none⟩=some (.int .i64 a)/\wr.cell? ⟨g,2,none⟩=some (.int .i64 (a+d-1))/\wr.cell? ⟨g,3,none⟩=some (.int .i64 b)/\wr.cell? ⟨g,4,none⟩=some (.int .i64 (b+c-1)))) (λv _=>(a+d-intOf v).toNat)
 case atStart=>exact⟨0,aP _,by simp,w,c1,t,c3,u⟩
 case round=>
  obtain⟨k,i,rfl,m,d1,d2,d3,d4⟩:=hrel;by_cases y:k<d
  ·have z:a+(k:Int)<=a+d-1:=by omega
   gi_wp2
   gi_loopw [4] (λv wr=>∃j:Nat,j<=c/\v=.int .i64 (b+j)/\J (cJ a b k c++fD (a+(k:Nat)) b j) wr/\(wr.cell? ⟨g,1,none⟩=some (.int .i64 a)/\wr.cell? ⟨g,2,none⟩=some (.int .i64 (a+d-1))/\wr.cell? ⟨g,3,none⟩=some (.int .i64 b)/\wr.cell? ⟨g,4,none⟩=some (.int .i64 (b+c-1)))) (λv _=>(b+c-intOf v).toNat)
   case atStart=>exact⟨0,aP _,by simp,by simpa[fD]using m,d1,d2,d3,d4⟩
   case round=>
    obtain⟨j,L,rfl,m,d1,d2,d3,d4⟩:=hrel;by_cases o:j<c
    ·have A:b+(j:Int)<=b+c-1:=by omega
     have hlen:(cJ a b k c++fD (a+(k:Nat)) b j).length<d*c:=by
      rw[ac,AQ,AP];have:=Nat.mul_le_mul_right c (show k+1<=d by omega);rw[aI]at this;omega
     obtain⟨fn,tmps,assign,body,hy,B⟩:=s _ (lv (a+(k:Nat)) (b+(j:Nat))) wr m hlen
     gi_wp2_with (refine⟨trivial,?_⟩;refine(callsIn_wide.2 (Rr _ _ _ (by omega) (by omega) (by omega) (by omega))).mono ?_;rintro e w'⟨rfl,rfl⟩)
     refine B.mono ?_;rintro e h(⟨rfl,p,i⟩|⟨rfl,q⟩)
     ·gi_wp2
      refine⟨⟨j+1,by omega,by congr 1;push_cast;omega,by rw[nA,<-ad];exact p,(i 1).trans d1,(i 2).trans d2,(i 3).trans d3,(i 4).trans d4⟩,?_⟩;simp only[intOf];omega
     ·gi_wp2
      refine bodyPost_ret (results_none rfl _ _ _) rfl ⟨⟨_,rfl⟩,.inr ⟨_,Nm a b d c k j y o,q⟩⟩
    ·have A:b+(c:Int)-1<b+j:=by omega
     obtain rfl:j=c:=by omega
     gi_wp2
     refine⟨⟨k+1,by omega,by congr 1;push_cast;omega,by rw[kE];exact m,d1,d2,d3,d4⟩,?_⟩;simp only[intOf];omega
  ·have z:a+(d:Int)-1<a+k:=by omega
   obtain rfl:k=d:=by omega
   gi_wp2
   go_end0
   exact⟨⟨_,rfl⟩,.inl ⟨_,rfl,m⟩⟩
def Km{B:Nat}{X Y Z:World}(h:yC B X Y)(k:yC B Y Z):yC B X Z:=λo=>(k o).trans (h o)
def Ko{B s:Nat}(a:B<s)(W:World)(l:Nat)(o o':Obj)(hl:s<=l)(_:W.heap[l]?=some o)(_:o.isCells=false)(_:o.isWalk=false):yC B W (W.putObj l o'):=λq=>by
 have:(W.putObj l o').heap[B]?=W.heap[B]?:=by
  simp only[World.putObj];rw[Array.getElem?_setIfInBounds_ne (by omega)]
 simp[bl,this]
def tg(n:Nat)(i:1<=n)(a:Nat)(b d:Int)(e f:Nat)(j:1<=b)(k:b+e<=91)(m:1<=e)(o : -b<=d)(q:d+f<=b+1)(r:1<=f)(w:World)(c:a<w.heap.size)
 (c1:w.cell? ⟨a,1,none⟩=some (.int .i64 b)) (s:w.cell? ⟨a,2,none⟩=some (.int .i64 (b+e-1))) (c3:w.cell? ⟨a,3,none⟩=some (.int .i64 d)) (t:w.cell? ⟨a,4,none⟩=some (.int .i64 (d+f-1))) :
 SeqStopsK Fence.wide n PL 135 #[.pointer (some ⟨a,0,none⟩)] (λx:Int=>#[Value.int .i64 x]) (yC a) (λys=>ys=cJ b d e f) (λh=>h <+: cJ b d e f) (e*f) w:=λl J u W g _ _ v y=>
 Ii n i l a b d e f j k m o q r J u v W ((g.cell (p:=⟨a,1,none⟩) c).trans c1) ((g.cell (p:=⟨a,2,none⟩) c).trans s) ((g.cell (p:=⟨a,3,none⟩) c).trans c3) ((g.cell (p:=⟨a,4,none⟩) c).trans t) y
def iJ.NY(q:iJ):List Int:=cJ (q.n 1) (q.n 3) (q.n 2-q.n 1+1).toNat (q.n 4-q.n 3+1).toNat
def iJ.low(q:iJ):Int:=q.NY.foldl min 90
def iJ.high(q:iJ):Int:=q.NY.foldl max 0
structure iJ.Ok(q:iJ):Prop where
 a1:1<=q.n 1
 a2:q.n 1<=q.n 2
 a3:q.n 2<=90
 a4 : -q.n 1<=q.n 3
 a5:q.n 3<=q.n 4
 a6:q.n 4<=q.n 1
def ck{n:Nat}{f:Nat->Int}(h:ia n f=0):∀j,j<n->f j=0:=by
 intro j
 induction j using Nat.strongRecOn with
 |_ j a=>
  intro b;by_cases hf:f j=0
  ·exact hf
  ·have:=eG (m:=j) (λi hi=>a i hi (by omega)) b hf;omega
def Kq{C:CD}(hc:C.cx=0){i:Nat}(hi:i<C.n4):(C.x4 i).Ok:=by
 have b:kA C.p C.n2 C.n3 C.n4 C.x4=0:=ck hc 3 (by omega);unfold kA at b
 split at b
 case isFalse=>cases b
 have a:=ck b i hi;unfold gM at a
 split at a
 case isFalse h=>exact absurd a h
 split at a
 case isFalse=>cases a
 rename_i c
 split at a
 ·cases a
 rename_i d;simp only[eK,Bool.and_eq_true,decide_eq_true_eq]at c;exact⟨by omega,by omega,by omega,by omega,by omega,by omega⟩
def Kr{C:CD}{b:Bool}{w:World}(h:C.b6 b≠0)(k:C.At w):Calls PL 90 #[.agg C.val,.bool b] w (aO (.tuple #[.agg #[.int .i64 0,.int .i64 0,.slice none 0 0,.slice none 0 0,.slice none 0 0,.slice none 0 0],.int .i64 (C.b6 b)]) w):=by
 have:=Ev C b w k;rwa[CD.sX,if_neg h]at this
def kF{C:CD}{b:Bool}{w:World}(h:C.b6 b=0)(k:C.At w):Calls PL 90 #[.agg C.val,.bool b] w (aO (.tuple #[.agg C.val,.int .i64 0]) w):=by
 have:=Ev C b w k;rwa[CD.sX,if_pos h,h]at this
structure CD.Box(C:CD)(B:Nat)(W0:World):Prop where
 Tj:W0.heap[B]?=some (.cells C.val 27)
def uJ{w:World}{k:Nat}{x0 x1:Value}{t:TypeId}(h:w.heap[k]?=some (.cells #[x0,x1] t)):w.cell? ⟨k,0,none⟩=some x0/\w.cell? ⟨k,1,none⟩=some x1/\w.frozen? ⟨k,0,none⟩=false/\w.frozen? ⟨k,1,none⟩=false:=by
 simp[bl,bm,h]
def yD{W:World}{k:Nat}{x y u v:Value}(a0:W.cell? ⟨k,0,none⟩=some x)(a1:W.cell? ⟨k,1,none⟩=some y) :
 ((W.setCell ⟨k,0,none⟩ u).setCell ⟨k,1,none⟩ v).cell? ⟨k,0,none⟩=some u/\((W.setCell ⟨k,0,none⟩ u).setCell ⟨k,1,none⟩ v).cell? ⟨k,1,none⟩=some v/\
 (∀b o,b≠k->((W.setCell ⟨k,0,none⟩ u).setCell ⟨k,1,none⟩ v).cell? ⟨b,o,none⟩=W.cell? ⟨b,o,none⟩)/\(∀p,((W.setCell ⟨k,0,none⟩ u).setCell ⟨k,1,none⟩ v).frozen? p=W.frozen? p):=by
 refine⟨?_,?_,λb o hb=>?_,λp=>?_⟩
 ·exact(bo _ _ _ _ (by simp)).trans (bp _ _ _ (by rw[a0];rfl))
 ·exact bp _ _ _ (by rw[(bo _ _ _ _ (by simp)).trans a1];rfl)
 ·exact(bo _ _ _ _ (λh=>hb (congrArg bt h).symm)).trans (bo _ _ _ _ (λh=>hb (congrArg bt h).symm))
 ·rw[bq,bq]
def Rs{w W:World}{k B r:Nat}(e:B≠k)(b:r≠k)(c:w.heap.size<=k){m M u v d v':Int}{y0 y1:Value}(a0:W.cell? ⟨k,0,none⟩=some (.int .i64 m))(a1:W.cell? ⟨k,1,none⟩=some (.int .i64 M))(a2:W.frozen? ⟨k,0,none⟩=false)(a3:W.frozen? ⟨k,1,none⟩=false)
 (a4:W.cell? ⟨r,0,none⟩=some y0) (f:W.cell? ⟨r,1,none⟩=some y1) (g:W.frozen? ⟨r,0,none⟩=false) (h:W.frozen? ⟨r,1,none⟩=false) (i:Below w.heap.size w W) (j:u=d) (hv:v=v') :
 KeepsOthers W ((W.setCell ⟨k,0,none⟩ (.int .i64 u)).setCell ⟨k,1,none⟩ (.int .i64 v))/\yC B W ((W.setCell ⟨k,0,none⟩ (.int .i64 u)).setCell ⟨k,1,none⟩ (.int .i64 v))/\
 ((((W.setCell ⟨k,0,none⟩ (.int .i64 u)).setCell ⟨k,1,none⟩ (.int .i64 v)).cell? ⟨k,0,none⟩=some (.int .i64 d)/\((W.setCell ⟨k,0,none⟩ (.int .i64 u)).setCell ⟨k,1,none⟩ (.int .i64 v)).cell? ⟨k,1,none⟩=some (.int .i64 v')/\((W.setCell ⟨k,0,none⟩ (.int .i64 u)).setCell ⟨k,1,none⟩ (.int .i64 v)).frozen? ⟨k,0,none⟩=false/\((W.setCell ⟨k,0,none⟩ (.int .i64 u)).setCell ⟨k,1,none⟩ (.int .i64 v)).frozen? ⟨k,1,none⟩=false/\
 ((W.setCell ⟨k,0,none⟩ (.int .i64 u)).setCell ⟨k,1,none⟩ (.int .i64 v)).cell? ⟨r,0,none⟩=some y0/\((W.setCell ⟨k,0,none⟩ (.int .i64 u)).setCell ⟨k,1,none⟩ (.int .i64 v)).cell? ⟨r,1,none⟩=some y1/\((W.setCell ⟨k,0,none⟩ (.int .i64 u)).setCell ⟨k,1,none⟩ (.int .i64 v)).frozen? ⟨r,0,none⟩=false/\((W.setCell ⟨k,0,none⟩ (.int .i64 u)).setCell ⟨k,1,none⟩ (.int .i64 v)).frozen? ⟨r,1,none⟩=false)/\
 Below w.heap.size w ((W.setCell ⟨k,0,none⟩ (.int .i64 u)).setCell ⟨k,1,none⟩ (.int .i64 v))):=by
 subst j hv;obtain⟨c0,c1,a,c3⟩:=yD (u:=.int .i64 u) (v:=.int .i64 v) a0 a1;exact⟨(bv _ _ _).trans (bv _ _ _),λo=>a _ _ e,⟨c0,c1,(c3 _).trans a2,(c3 _).trans a3,(a _ _ b).trans a4,(a _ _ b).trans f,(c3 _).trans g,(c3 _).trans h⟩,(i.setCell (p:=⟨k,0,none⟩) c _).setCell (p:=⟨k,1,none⟩) c _⟩
abbrev iJ.val(q:iJ):Array Value:=#[.string q.name,.int .i64 (q.n 1),.int .i64 (q.n 2),.int .i64 (q.n 3),.int .i64 (q.n 4),.int .i64 (q.n 5),.int .i64 (q.n 6),.int .i64 (q.n 7),.int .i64 (q.n 8),.int .i64 (q.n 9),.int .i64 (q.n 10),.slice q.lb q.ln q.lc]
def yF(q:iJ)(w:World):Calls PL 92 #[.agg q.val] w λe w'=>e=.returned (.func (.func 135) #[] #[.pointer (some ⟨w.heap.size,0,none⟩)])/\w'=w.alloc (.cells q.val 73):=by
 go_enter (fx (by decide) Tryz.func92),Tryz.ntmps92
 go_wp2
 go_ret
 exact⟨rfl,rfl⟩
def CD.kR(C:CD)(n:Int):Value:=if C.b6 (bO n 0 (C.n4-1))=0 then .tuple #[.agg #[.int .i64 (C.x4 n.toNat).low,.int .i64 (C.x4 n.toNat).high],.int .i64 0] else .tuple #[.agg #[.int .i64 0,.int .i64 0],.int .i64 (C.b6 (bO n 0 (C.n4-1)))]
def nB(C:CD)(n:Int)(w:World)(h:C.At w):Calls PL 24 #[.agg C.val,.int .i64 n] w (aO (C.kR n) w):=by
 have H:=bw (λw1 o=>h.below (w':=w1) o);have m4:=h.m4;obtain⟨S,T,U,V,X,Y,Z,c3,b4,n4,c4,b5,n5,c5,hO⟩:∃(S T:Int)(U:Option Addr)(V X:Nat)(Y:Option Addr)(Z c3:Nat)(b4:Option Addr)(n4 c4:Nat)(b5:Option Addr)(n5 c5:Nat),∀W,C.At W->Calls PL 90 #[.agg C.val,.bool (bO n 0 (C.n4-1))] W (aO (.tuple #[.agg #[.int .i64 S,.int .i64 T,.slice U V X,.slice Y Z c3,.slice b4 n4 c4,.slice b5 n5 c5],.int .i64 (C.b6 (bO n 0 (C.n4-1)))]) W):=by
  by_cases hf:C.b6 (bO n 0 (C.n4-1))=0
  ·exact⟨_,_,_,_,_,_,_,_,_,_,_,_,_,_,λW L=>by rw[hf];exact kF hf L⟩
  ·exact⟨_,_,_,_,_,_,_,_,_,_,_,_,_,_,λW L=>Kr hf L⟩
 have HO:=bw hO;have H1:=bw h;clear h hO;refine(bx (n:=9)).1 (bA (fx (by decide) Tryz.func24) rfl trivial ?_ rfl);simp only[Tryz.ntmps24,ae,ag,ai,aJ,aL,bg,bi,ao,ap,aq,ar];refine wpIn_wide.2 ?_
 go_wp2
 obtain⟨a,q⟩:∃a:World,a=(w.alloc (.cells C.val 27)).alloc (.cells #[.int .i64 0,.int .i64 0] 35):=⟨_,rfl⟩
 have y:Below w.heap.size w a:=by rw[q];exact((b8 _ _).alloc (aT _) _).alloc (by simp) _
 have z:Hid (C.Box w.heap.size a):=bw ⟨by rw[q];exact((((b8 (w.alloc (.cells C.val 27)).heap.size _).alloc (aT _) _)).block _ (by simp)).trans (au w _)⟩;have M:Hid (a.heap[w.heap.size+1]?=some (.cells #[.int .i64 0,.int .i64 0] 35)):=bw (by rw[q];have:=au (w.alloc (.cells C.val 27)) (.cells #[.int .i64 0,.int .i64 0] 35);rwa[br]at this);rw[<-q];clear q;obtain⟨f0,f1,f2,f3,f4,f5⟩:=bf z.out.Tj;have E:w.heap.size<a.heap.size:=b9 z.out.Tj;have XZ:w.heap.size<a.heap.size+1:=by omega
 go_cut [6,7] from 10 to 17 (fun(v6:Value)(v7:Value)(wx:World)=>v7=.int .i64 (C.b6 (bO n 0 (C.n4-1)))/\Below a.heap.size a wx)
 case first=>
  refine bC ?_
  go_region_with (first|(go_at_call 91;refine(AE C n _ m4).mono ?_;rintro e w1⟨rfl,F⟩;obtain⟨lp,lR⟩:=cW F;(first|(with_reducible have d:=ca ((b8 a.heap.size a).drew) F)|(have d:=ca ((b8 a.heap.size a).drew.alloc (b8 a.heap.size a).drew.size _) F;have aH:a.heap.size<w1.heap.size:=by have:=F.size;simp at this;omega));have dx:=d.size;obtain⟨g0,g1,g2,g3,N,g5⟩:=bf ((d.block _ E).trans z.out.Tj);have hzw:w.heap.size<w1.heap.size:=a8 E dx)|(go_at_call 90;refine(HO.out _ (H.out _ (ca y ?hb))).mono ?_;(with_reducible case hb=>first|exact d|exact d.alloc d.size _);rintro e w2⟨rfl,O⟩;obtain⟨hc2,hf2⟩:=cW O;(with_reducible first|have t:=ca d O|have t:=ca (d.alloc d.size _) O)))
  all_goals (refine NoPanic.normal ?_;go_wp2_with fail;go_meet;case rel=>refine⟨rfl,?_⟩;with_reducible first|exact cb t (aT _) _ _ _ _ _ _|exact cb t dx _ _ _ _ _ _|exact t.alloc t.size _)
 case rest=>
  obtain⟨rfl,f⟩:=hcut;have b:w.heap.size+1<a.heap.size:=b9 M.out;obtain⟨I,J,q0,q1⟩:=uJ ((f.block _ b).trans M.out);by_cases hf:C.b6 (bO n 0 (C.n4-1))=0
  ·have hA:=H.out wc (ca y f);have P:C.cx=0/\bO n 0 (C.n4-1)=true:=by
    unfold CD.b6 at hf
    split at hf
    ·split at hf
     ·exact⟨by assumption,by assumption⟩
     ·cases hf
    ·exact absurd hf (by assumption)
   obtain⟨hk,hb⟩:=P;have jH:0<=n/\n<=(C.n4:Int)-1:=by simpa[bO]using hb
   obtain⟨i,rfl⟩:=ba jH.1;have hi:i<C.n4:=by omega
   have mS:(i:Int)<C.n4:=by omega
   have OK:=bw (Kq hk hi);obtain⟨g0,g1,g2,g3,N,g5⟩:=bf ((f.block _ E).trans z.out.Tj);rw[hA.s4 (by omega)]at N;have k0:=hA.AD i hi;have k1:=hA.dB i hi 1 (by omega) (by omega);have k2:=hA.dB i hi 2 (by omega) (by omega);have k3:=hA.dB i hi 3 (by omega) (by omega);have k4:=hA.dB i hi 4 (by omega) (by omega);have k5:=hA.dB i hi 5 (by omega) (by omega);have k6:=hA.dB i hi 6 (by omega) (by omega);have k7:=hA.dB i hi 7 (by omega) (by omega);have k8:=hA.dB i hi 8 (by omega) (by omega);have k9:=hA.dB i hi 9 (by omega) (by omega);have CG:=hA.dB i hi 10 (by omega) (by omega);have CH:=hA.nj i hi;have ER:=hA.h4;have wD:w.heap.size<wc.heap.size:=a8 E f.size;rw[hf];clear hA hk hb jH f0 f1 f2 f3 f4 f5
   go_wp2_with (go_at_call 92;refine(yF (C.x4 i) _).mono ?_;rintro e w'⟨rfl,rfl⟩)
   obtain⟨j,m⟩:∃j:World,j=(wc.alloc (.cells #[.int .i64 90,.int .i64 0] 35)).alloc (.cells (C.x4 i).val 73):=⟨_,rfl⟩
   have vL:j.heap.size=wc.heap.size+2:=by rw[m];simp
   have d:Below wc.heap.size wc j:=by rw[m];exact((b8 _ _).alloc (aT _) _).alloc (by simp) _
   have hp:j.heap[wc.heap.size+1]?=some (.cells (C.x4 i).val 73):=by
    have:=au (wc.alloc (.cells #[.int .i64 90,.int .i64 0] 35)) (.cells (C.x4 i).val 73);rw[br]at this;rw[m];exact this
   have hq:j.heap[wc.heap.size]?=some (.cells #[.int .i64 90,.int .i64 0] 35):=by
    rw[m];exact((((b8 (wc.alloc (.cells #[.int .i64 90,.int .i64 0] 35)).heap.size _).alloc (aT _) _)).block _ (by simp)).trans (au wc _)
   have Yc:=(d.block _ (a8 b f.size)).trans ((f.block _ b).trans M.out);have hrw:w.heap.size+1<wc.heap.size:=a8 b f.size;have k:Below w.heap.size w j:=ca (ca y f) d;rw[<-m];clear m k0 k1 k2 k3 k4 k5 k6 k7 k8 k9 CG CH g0 g1 g2 g3 N g5 I J q0 q1;obtain⟨p0,p1,p2,p3,p4,p5,p6,p7,p8,p9,Cz,Fy⟩:=gx hp;obtain⟨I,J,q0,q1⟩:=uJ Yc;obtain⟨t0,t1,u0,u1⟩:=uJ hq;obtain⟨o1,o2,o3,o4,o5,o6⟩:=OK.out;refine(wpIn_wide (n:=9)).1 ?_;refine bL rfl (by omega) (gf:=135) (lb:=#[.pointer (some ⟨wc.heap.size+1,0,none⟩)]) rfl trivial (enters_of (fx (by decide) bb) (by kernel_rfl) rfl)
    (tg 8 (by omega) (wc.heap.size+1) ((C.x4 i).n 1) ((C.x4 i).n 3) ((C.x4 i).n 2-(C.x4 i).n 1+1).toNat ((C.x4 i).n 4-(C.x4 i).n 3+1).toNat o1 (by omega) (by omega) o4 (by omega) (by omega) j (by omega) p1 (by rw[p2];congr 2;omega) p3 (by rw[p4];congr 2;omega))
    Km (Ko (by omega)) (b8 _ _) (λ_=>rfl)
    (λg W=>(W.cell? ⟨wc.heap.size,0,none⟩=some (.int .i64 (g.foldl min 90))/\W.cell? ⟨wc.heap.size,1,none⟩=some (.int .i64 (g.foldl max 0))/\W.frozen? ⟨wc.heap.size,0,none⟩=false/\W.frozen? ⟨wc.heap.size,1,none⟩=false/\W.cell? ⟨w.heap.size+1,0,none⟩=some (.int .i64 0)/\W.cell? ⟨w.heap.size+1,1,none⟩=some (.int .i64 0)/\W.frozen? ⟨w.heap.size+1,0,none⟩=false/\W.frozen? ⟨w.heap.size+1,1,none⟩=false)/\Below w.heap.size w W)
    (λ_ _ _=>False)
    (OwnFrom.and (Own.from (λs A B row hs hg b=>⟨bM hs.1 hg b,bM hs.2.1 hg b,(bR hs.1 hg b).trans hs.2.2.1,(bR hs.2.1 hg b).trans hs.2.2.2.1,bM hs.2.2.2.2.1 hg b,bM hs.2.2.2.2.2.1 hg b,(bR hs.2.2.2.2.1 hg b).trans hs.2.2.2.2.2.2.1,(bR hs.2.2.2.2.2.1 hg b).trans hs.2.2.2.2.2.2.2⟩) _) (bT (aT _) (by have:=k.size;omega)))
    (λ_ _ _ _ _ hs _ _=>hs)
    ⟨⟨t0,t1,u0,u1,I,J,q0,q1⟩,k⟩
    (λx=>{ tmps:=#[.agg C.val,.int .i64 i,.pointer (some ⟨w.heap.size,0,none⟩),undef,.pointer (some ⟨w.heap.size+1,0,none⟩),.int .i64 0,u6,.int .i64 0,.pointer (some ⟨wc.heap.size,0,none⟩),.int .i64 x,u10,u11,u12,u13,u14,u15,u16,u17,.int .i64 0,.bool false,undef,undef,.agg #[.int .i64 90,.int .i64 0],.pointer (some ⟨w.heap.size,4,none⟩),.slice (some ⟨C.k4,C.o4,none⟩) C.n4 C.c4,.int .i64 i,.pointer (some ⟨C.k4,C.o4+i*12,none⟩),.agg (C.x4 i).val,.func (.func 135) #[] #[.pointer (some ⟨wc.heap.size+1,0,none⟩)],.int .i64 x,undef,undef,undef,undef,undef,undef,undef,undef,undef,undef,undef],defers:=[] }) ?assign ?body ?done ?stop
   case assign=>
    intro l x W K Q
    gi_wp2
    exact Q
   case body=>
    rintro l g x W⟨⟨a0,a1,a2,a3,a4,R,a6,a7⟩,o⟩_
    gi_wp2
    all_goals (
     refine Rs (by omega) (by omega) (by omega) a0 a1 a2 a3 a4 R a6 a7 o ?_ ?_
     ·rw[aw];simp only[aB,aF];omega
     ·rw[aw];simp only[aB,aF];omega)
   case done=>
    rintro D ys W hD rfl⟨⟨a0,a1,a2,a3,a4,R,a6,a7⟩,o⟩Q;replace a0:W.cell? ⟨wc.heap.size,0,none⟩=some (.int .i64 (C.x4 i).low):=a0;replace a1:W.cell? ⟨wc.heap.size,1,none⟩=some (.int .i64 (C.x4 i).high):=a1
    go_wp2
    have hK':=((bv W ⟨w.heap.size+1,0,none⟩ (.int .i64 (C.x4 i).low)).trans (bv _ ⟨w.heap.size+1,1,none⟩ (.int .i64 (C.x4 i).high))).same D _ Q rfl;obtain⟨d0,d1,_,_⟩:=yD (u:=.int .i64 (C.x4 i).low) (v:=.int .i64 (C.x4 i).high) a4 R;have e0:=bM d0 (bX _ D (.deferred none)) (λr e=>by cases e;exact⟨_,hK',rfl⟩);have e1:=bM d1 (bX _ D (.deferred none)) (λr e=>by cases e;exact⟨_,hK',rfl⟩);refine⟨by simp,.inl ⟨_,_,rfl,b1 hK',?_⟩⟩;refine⟨C.kR i,?_,rfl,(((o.setCell (p:=⟨w.heap.size+1,0,none⟩) (a9 _) _).setCell (p:=⟨w.heap.size+1,1,none⟩) (a9 _) _)).trans (belowK_b (w:=w) (aT _) _ D _ _ (by have:=k.size;omega) hK' rfl rfl)⟩;rw[CD.kR,if_pos hf];simp[b7,bc,go_sem,e0,e1]
   case stop=>
    rintro D c g W _ _ h _;exact h.elim
  ·have hn:(C.b6 (bO n 0 (C.n4-1)) != 0)=true:=by simpa using hf
   have HF:=bw hf;clear hf f0 f1 f2 f3 f4 f5
   go_wp2
   refine⟨C.kR n,?_,rfl,?_⟩
   ·rw[CD.kR,if_neg HF.out];simp[b7,bc,go_sem,I,J]
   ·exact((ca y f).setCell (p:=⟨w.heap.size+1,0,none⟩) (a9 _) _).setCell (p:=⟨w.heap.size+1,1,none⟩) (a9 _) _
def Rt{C:CD}(hc:C.cx=0){i:Nat}(hi:i<C.n4):0<=(C.x4 i).n 5/\(C.x4 i).n 5<C.n2:=by
 have b:kA C.p C.n2 C.n3 C.n4 C.x4=0:=ck hc 3 (by omega);unfold kA at b
 split at b
 case isFalse=>cases b
 have a:=ck b i hi;unfold gM at a
 split at a
 case isFalse h=>exact absurd a h
 split at a
 case isFalse=>cases a
 split at a
 ·cases a
 split at a
 case isFalse=>cases a
 rename_i c;simp only[bO,Bool.and_eq_true,decide_eq_true_eq]at c;omega
def ij(n a b:Int)(w:World):Calls PL 78 #[.int .i64 n,.int .i64 a,.int .i64 b] w λe w'=>e=.returned (.bool (bO n a b))/\w=w':=(bG n a b w).mono λ_ _⟨a,b⟩=>⟨a,b.symm⟩
def rM{n a b:Int}(h:bO n a b=true)(w:World):Calls PL 78 #[.int .i64 n,.int .i64 a,.int .i64 b] w λe w'=>e=.returned (.bool true)/\w=w':=by
 have:=ij n a b w;rwa[h]at this
def yG{n a b:Int}(h:bO n a b=false)(w:World):Calls PL 78 #[.int .i64 n,.int .i64 a,.int .i64 b] w λe w'=>e=.returned (.bool false)/\w=w':=by
 have:=ij n a b w;rwa[h]at this
def yH(a b:Bool)(w:World):Calls PL 96 #[.bool a,.bool b] w λe w'=>e=.returned (.int .i64 (Ej a b))/\w=w':=(U5 a b w).mono λ_ _⟨a,b⟩=>⟨a,b.symm⟩
def aaA{w:World}{k:Nat}{x:Value}{t:TypeId}(h:w.heap[k]?=some (.cells #[x] t)):w.cell? ⟨k,0,none⟩=some x/\w.frozen? ⟨k,0,none⟩=false:=by
 simp[bl,bm,h]
def CD.sz(C:CD)(i:Nat):Int×Int:=C.x2 ((C.x4 i).n 5).toNat
def CD.zR(C:CD)(i:Nat)(x:Int):Bool:=bO x (C.sz i).1 (C.sz i).2
def CD.Cm(C:CD)(i:Nat):Int:=Ej ((C.x4 i).NY.any (C.zR i)) ((C.x4 i).NY.any λx=>!C.zR i x)
def CD.iq(C:CD)(n:Int):Value:=if C.b6 (bO n 0 (C.n4-1))=0 then .tuple #[.int .i64 (C.Cm n.toNat),.int .i64 0] else .tuple #[.int .i64 0,.int .i64 (C.b6 (bO n 0 (C.n4-1)))]
def pH(C:CD)(n:Int)(w:World)(h:C.At w):Calls PL 26 #[.agg C.val,.int .i64 n] w (aO (C.iq n) w):=by
 have H:=bw (λw1 y=>h.below (w':=w1) y);have m4:=h.m4;obtain⟨i0,i1,b2,n2,c2,b3,n3,c3,b4,n4,c4,b5,n5,c5,hO⟩:∃(i0 i1:Int)(b2:Option Addr)(n2 c2:Nat)(b3:Option Addr)(n3 c3:Nat)(b4:Option Addr)(n4 c4:Nat)(b5:Option Addr)(n5 c5:Nat),∀W,C.At W->Calls PL 90 #[.agg C.val,.bool (bO n 0 (C.n4-1))] W (aO (.tuple #[.agg #[.int .i64 i0,.int .i64 i1,.slice b2 n2 c2,.slice b3 n3 c3,.slice b4 n4 c4,.slice b5 n5 c5],.int .i64 (C.b6 (bO n 0 (C.n4-1)))]) W):=by
  by_cases hf:C.b6 (bO n 0 (C.n4-1))=0
  ·exact⟨_,_,_,_,_,_,_,_,_,_,_,_,_,_,λW X=>by rw[hf];exact kF hf X⟩
  ·exact⟨_,_,_,_,_,_,_,_,_,_,_,_,_,_,λW X=>Kr hf X⟩
 have HO:=bw hO;have H1:=bw h;clear h hO;refine(bx (n:=9)).1 (bA (fx (by decide) Tryz.func26) rfl trivial ?_ rfl);simp only[Tryz.ntmps26,ae,ag,ai,aJ,aL,bg,bi,ao,ap,aq,ar];refine wpIn_wide.2 ?_
 go_wp2
 obtain⟨d,Q⟩:∃d:World,d=w.alloc (.cells C.val 27):=⟨_,rfl⟩
 have J:Below w.heap.size w d:=by rw[Q];exact(b8 _ _).alloc (aT _) _
 have R:Hid (C.Box w.heap.size d):=bw ⟨by rw[Q];exact au w _⟩;rw[<-Q];clear Q;obtain⟨f0,f1,f2,f3,f4,f5⟩:=bf R.out.Tj;have S:w.heap.size<d.heap.size:=b9 R.out.Tj;have XZ:w.heap.size<d.heap.size+1:=by omega
 go_cut [6,7] from 12 to 19 (fun(v6:Value)(v7:Value)(Y:World)=>v7=.int .i64 (C.b6 (bO n 0 (C.n4-1)))/\Below d.heap.size d Y)
 case first=>
  refine bC ?_
  go_region_with (first|(go_at_call 91;refine(AE C n _ m4).mono ?_;rintro e w1⟨rfl,T⟩;obtain⟨lp,lR⟩:=cW T;(first|(with_reducible have j:=ca ((b8 d.heap.size d).drew) T)|(have j:=ca ((b8 d.heap.size d).drew.alloc (b8 d.heap.size d).drew.size _) T;have aH:d.heap.size<w1.heap.size:=by have:=T.size;simp at this;omega));have dx:=j.size;obtain⟨g0,g1,Z,g3,L,g5⟩:=bf ((j.block _ S).trans R.out.Tj);have hzw:w.heap.size<w1.heap.size:=a8 S dx)|(go_at_call 90;refine(HO.out _ (H.out _ (ca J ?hb))).mono ?_;(with_reducible case hb=>first|exact j|exact j.alloc j.size _);rintro e w2⟨rfl,qA⟩;obtain⟨hc2,hf2⟩:=cW qA;(with_reducible first|have b:=ca j qA|have b:=ca (j.alloc j.size _) qA)))
  all_goals (refine NoPanic.normal ?_;go_wp2_with fail;go_meet;case rel=>refine⟨rfl,?_⟩;with_reducible first|exact cb b (aT _) _ _ _ _ _ _|exact cb b dx _ _ _ _ _ _|exact b.alloc b.size _)
 case rest=>
  obtain⟨rfl,z⟩:=hcut;by_cases hf:C.b6 (bO n 0 (C.n4-1))=0
  ·have hA:=H.out wc (ca J z);have hck:C.cx=0/\bO n 0 (C.n4-1)=true:=by
    unfold CD.b6 at hf
    split at hf
    ·split at hf
     ·exact⟨by assumption,by assumption⟩
     ·cases hf
    ·exact absurd hf (by assumption)
   obtain⟨hk,hb⟩:=hck;have jH:0<=n/\n<=(C.n4:Int)-1:=by simpa[bO]using hb
   obtain⟨i,rfl⟩:=ba jH.1;have hi:i<C.n4:=by omega
   have mS:(i:Int)<C.n4:=by omega
   have OK:=bw (Kq hk hi);obtain⟨z1,z2⟩:=Rt hk hi;have r:((C.x4 i).n 5).toNat<C.n2:=by omega
   obtain⟨g0,g1,Z,g3,L,g5⟩:=bf ((z.block _ S).trans R.out.Tj);rw[hA.s4 (by omega)]at L;rw[hA.s2 (by omega)]at Z;have k0:=hA.AD i hi;have k1:=hA.dB i hi 1 (by omega) (by omega);have k2:=hA.dB i hi 2 (by omega) (by omega);have k3:=hA.dB i hi 3 (by omega) (by omega);have k4:=hA.dB i hi 4 (by omega) (by omega);have k5:=hA.dB i hi 5 (by omega) (by omega);have k6:=hA.dB i hi 6 (by omega) (by omega);have k7:=hA.dB i hi 7 (by omega) (by omega);have k8:=hA.dB i hi 8 (by omega) (by omega);have k9:=hA.dB i hi 9 (by omega) (by omega);have CG:=hA.dB i hi 10 (by omega) (by omega);have CH:=hA.nj i hi;have y0:=hA.Ep _ r;have y1:=hA.Er _ r;have g:=hA.h4;have ND:=hA.h2;have wD:w.heap.size<wc.heap.size:=a8 S z.size;rw[hf];clear hA hk hb jH f0 f1 f2 f3 f4 f5 r
   go_upto_region 4 with fail
   go_cut [8] from 23 to 32 (fun(v8:Value)(Y:World)=>v8=.pointer (some ⟨wc.heap.size,0,none⟩)/\Y=wc.drew.alloc (.cells #[.int .i64 (C.x2 ((C.x4 i).n 5).toNat).1,.int .i64 (C.x2 ((C.x4 i).n 5).toNat).2] 35))
   case first=>
    refine bC ?_
    go_region
    all_goals (refine NoPanic.normal ?_;go_wp2_with fail;go_meet;case rel=>exact⟨rfl,rfl⟩)
   case rest=>
    obtain⟨rfl,rfl⟩:=hcut;obtain⟨a,vp⟩:∃a:World,a=wc.drew.alloc (.cells #[.int .i64 (C.x2 ((C.x4 i).n 5).toNat).1,.int .i64 (C.x2 ((C.x4 i).n 5).toNat).2] 35):=⟨_,rfl⟩
    have b:Below wc.heap.size wc a:=by rw[vp];exact(b8 wc.heap.size wc).drew.alloc (b8 wc.heap.size wc).drew.size _
    have M:a.heap[wc.heap.size]?=some (.cells #[.int .i64 (C.x2 ((C.x4 i).n 5).toNat).1,.int .i64 (C.x2 ((C.x4 i).n 5).toNat).2] 35):=by
     have:=au wc.drew (.cells #[.int .i64 (C.x2 ((C.x4 i).n 5).toNat).1,.int .i64 (C.x2 ((C.x4 i).n 5).toNat).2] 35);rw[vp];exact this
    have E:a.heap.size=wc.heap.size+1:=by rw[vp,br];rfl
    rw[<-vp];clear vp;replace L:=(b.cell (p:=⟨w.heap.size,4,none⟩) wD).trans L;replace k0:=(b.cell (p:=⟨C.k4,C.o4+i*12,none⟩) g).trans k0;replace k1:=(b.cell (p:=⟨C.k4,C.o4+i*12+1,none⟩) g).trans k1;replace k2:=(b.cell (p:=⟨C.k4,C.o4+i*12+2,none⟩) g).trans k2;replace k3:=(b.cell (p:=⟨C.k4,C.o4+i*12+3,none⟩) g).trans k3;replace k4:=(b.cell (p:=⟨C.k4,C.o4+i*12+4,none⟩) g).trans k4;replace k5:=(b.cell (p:=⟨C.k4,C.o4+i*12+5,none⟩) g).trans k5;replace k6:=(b.cell (p:=⟨C.k4,C.o4+i*12+6,none⟩) g).trans k6;replace k7:=(b.cell (p:=⟨C.k4,C.o4+i*12+7,none⟩) g).trans k7;replace k8:=(b.cell (p:=⟨C.k4,C.o4+i*12+8,none⟩) g).trans k8;replace k9:=(b.cell (p:=⟨C.k4,C.o4+i*12+9,none⟩) g).trans k9;replace CG:=(b.cell (p:=⟨C.k4,C.o4+i*12+10,none⟩) g).trans CG;replace CH:=(b.cell (p:=⟨C.k4,C.o4+i*12+11,none⟩) g).trans CH;replace g:C.k4<a.heap.size:=by omega
    replace wD:w.heap.size<a.heap.size:=by omega
    clear g0 g1 Z g3 g5 y0 y1;have k:=bw E;have HQ2:=bw M;clear E M
    go_wp2_with (go_at_call 92;refine(yF (C.x4 i) _).mono ?_;rintro e w'⟨rfl,rfl⟩)
    obtain⟨m,t⟩:∃m:World,m=((a.alloc (.cells #[.bool false] 4)).alloc (.cells #[.bool false] 4)).alloc (.cells (C.x4 i).val 73):=⟨_,rfl⟩
    have U:m.heap.size=a.heap.size+3:=by rw[t];simp
    have j:Below a.heap.size a m:=by rw[t];exact(((b8 _ _).alloc (aT _) _).alloc (by simp) _).alloc (by simp;omega) _
    have hp:m.heap[a.heap.size+1+1]?=some (.cells (C.x4 i).val 73):=by
     have:=au ((a.alloc (.cells #[.bool false] 4)).alloc (.cells #[.bool false] 4)) (.cells (C.x4 i).val 73);rw[br,br]at this;rw[t];exact this
    have YH:m.heap[a.heap.size]?=some (.cells #[.bool false] 4):=by
     rw[t];exact((((b8 (a.alloc (.cells #[.bool false] 4)).heap.size _).alloc (aT _) _).alloc (by simp) _).block _ (by simp)).trans (au a _)
    have ht1:m.heap[a.heap.size+1]?=some (.cells #[.bool false] 4):=by
     have h1:=au (a.alloc (.cells #[.bool false] 4)) (.cells #[.bool false] 4);rw[br]at h1;rw[t];exact(((b8 ((a.alloc (.cells #[.bool false] 4)).alloc (.cells #[.bool false] 4)).heap.size _).alloc (aT _) _).block _ (by simp)).trans h1
    have E:=k.out;have hqq:=(j.block _ (by omega)).trans HQ2.out;have u:Below w.heap.size w m:=ca (ca (ca J z) b) j;have N:w.heap.size<=a.heap.size:=(ca (ca J z) b).size;rw[<-t];clear t k0 k1 k2 k3 k4 k5 k6 k7 k8 k9 CG CH L;obtain⟨p0,p1,p2,p3,p4,p5,p6,p7,p8,p9,Cz,Fy⟩:=gx hp;obtain⟨t0,t1,u0,u1⟩:=uJ hqq;obtain⟨v0,x0⟩:=aaA YH;obtain⟨v1,x1⟩:=aaA ht1;obtain⟨o1,o2,o3,o4,o5,o6⟩:=OK.out;have HS1:=bw U;refine(wpIn_wide (n:=9)).1 ?_;refine bL rfl (by omega) (gf:=135) (lb:=#[.pointer (some ⟨a.heap.size+1+1,0,none⟩)]) rfl trivial (enters_of (fx (by decide) bb) (by kernel_rfl) rfl)
     (tg 8 (by omega) (a.heap.size+1+1) ((C.x4 i).n 1) ((C.x4 i).n 3) ((C.x4 i).n 2-(C.x4 i).n 1+1).toNat ((C.x4 i).n 4-(C.x4 i).n 3+1).toNat o1 (by omega) (by omega) o4 (by omega) (by omega) m (by omega) p1 (by rw[p2];congr 2;omega) p3 (by rw[p4];congr 2;omega))
     Km (Ko (by omega)) (b8 _ _) (λ_=>rfl)
     (λq W=>(W.cell? ⟨wc.heap.size,0,none⟩=some (.int .i64 (C.sz i).1)/\W.cell? ⟨wc.heap.size,1,none⟩=some (.int .i64 (C.sz i).2)/\W.cell? ⟨a.heap.size,0,none⟩=some (.bool (q.any (C.zR i)))/\W.cell? ⟨a.heap.size+1,0,none⟩=some (.bool (q.any λx=>!C.zR i x))/\W.frozen? ⟨a.heap.size,0,none⟩=false/\W.frozen? ⟨a.heap.size+1,0,none⟩=false)/\Below w.heap.size w W)
     (λ_ _ _=>False)
     (OwnFrom.and (Own.from (λs A B row hs hg F=>⟨bM hs.1 hg F,bM hs.2.1 hg F,bM hs.2.2.1 hg F,bM hs.2.2.2.1 hg F,(bR hs.2.2.1 hg F).trans hs.2.2.2.2.1,(bR hs.2.2.2.1 hg F).trans hs.2.2.2.2.2⟩) _) (bT (aT _) (by have:=u.size;omega)))
     (λ_ _ _ _ _ hs _ _=>hs)
     ⟨⟨t0,t1,v0,v1,x0,x1⟩,u⟩
     (λx=>{ tmps:=#[.agg C.val,.int .i64 i,.pointer (some ⟨w.heap.size,0,none⟩),undef,.int .i64 0,.int .i64 0,u6,.int .i64 0,.pointer (some ⟨wc.heap.size,0,none⟩),.pointer (some ⟨a.heap.size,0,none⟩),.pointer (some ⟨a.heap.size+1,0,none⟩),.int .i64 x,u12,u13,u14,u15,u16,u17,u18,u19,.int .i64 0,.bool false,undef,u23,u24,u25,u26,u27,u28,u29,u30,u31,u32,.pointer (some ⟨w.heap.size,4,none⟩),.slice (some ⟨C.k4,C.o4,none⟩) C.n4 C.c4,.int .i64 i,.pointer (some ⟨C.k4,C.o4+i*12,none⟩),.agg (C.x4 i).val,.func (.func 135) #[] #[.pointer (some ⟨a.heap.size+1+1,0,none⟩)],.int .i64 x,undef,undef,undef,undef,undef,undef,undef,undef,undef],defers:=[] }) ?assign ?body ?done ?stop
    case assign=>
     intro l x W K V;clear E U
     gi_wp2
     exact V
    case body=>
     rintro l q x W⟨⟨a0,a1,a2,a3,a4,a5⟩,y⟩_;clear E U;have bu:a.heap.size≠wc.heap.size:=by have:=k.out;omega
     by_cases I:C.zR i x=true
     ·have O:=bw I;have P:bO x (C.sz i).1 (C.sz i).2=true:=I;have v:=bw P;clear I P
      gi_wp2_with (refine⟨trivial,?_⟩;gi_at_call 78;refine(CallsIn.inRound l (callsIn_wide.2 (rM v.out _))).mono ?_;rintro e w'⟨rfl,rfl⟩)
      refine⟨bv _ _ _,λo=>bo _ _ _ _ (λh=>by have f:=congrArg bt h;have:=k.out;simp only at f;omega),⟨(bo _ _ _ _ (λh=>by have f:=congrArg bt h;have:=k.out;simp only at f;omega)).trans a0,(bo _ _ _ _ (λh=>by have f:=congrArg bt h;have:=k.out;simp only at f;omega)).trans a1,?_,(bo _ _ _ _ (λh=>by have f:=congrArg bt h;have:=k.out;simp only at f;omega)).trans (by rw[a3];simp[O.out]),by rw[bq];exact a4,by rw[bq];exact a5⟩,y.setCell (p:=⟨a.heap.size,0,none⟩) N _⟩;rw[bp _ _ _ (by rw[a2];rfl)];simp[O.out]
     ·have O:=bw (aV I);have P:bO x (C.sz i).1 (C.sz i).2=false:=aV I;have v:=bw P;clear I P
      gi_wp2_with (refine⟨trivial,?_⟩;gi_at_call 78;refine(CallsIn.inRound l (callsIn_wide.2 (yG v.out _))).mono ?_;rintro e w'⟨rfl,rfl⟩)
      refine⟨bv _ _ _,λo=>bo _ _ _ _ (λh=>by have f:=congrArg bt h;have:=k.out;simp only at f;omega),⟨(bo _ _ _ _ (λh=>by have f:=congrArg bt h;have:=k.out;simp only at f;omega)).trans a0,(bo _ _ _ _ (λh=>by have f:=congrArg bt h;have:=k.out;simp only at f;omega)).trans a1,(bo _ _ _ _ (λh=>by have f:=congrArg bt h;have:=k.out;simp only at f;omega)).trans (by rw[a2];simp[O.out]),?_,by rw[bq];exact a4,by rw[bq];exact a5⟩,y.setCell (p:=⟨a.heap.size+1,0,none⟩) (Nat.le_succ_of_le N) _⟩;rw[bp _ _ _ (by rw[a3];rfl)];simp[O.out]
    case done=>
     rintro D ys W hD rfl⟨⟨a0,a1,a2,a3,a4,a5⟩,y⟩V;replace a2:W.cell? ⟨a.heap.size,0,none⟩=some (.bool ((C.x4 i).NY.any (C.zR i))):=a2;replace a3:W.cell? ⟨a.heap.size+1,0,none⟩=some (.bool ((C.x4 i).NY.any λx=>!C.zR i x)):=a3;clear E U
     go_wp2_with (go_at_call 96;refine(yH _ _ _).mono ?_;rintro e w'⟨rfl,rfl⟩)
     refine⟨by simp,.inl ⟨_,_,rfl,b1 V,?_⟩⟩;refine⟨C.iq i,?_,rfl,y.trans (belowK_b (w:=w) (aT _) _ D _ _ (by have:=u.size;omega) V rfl rfl)⟩;rw[CD.iq,if_pos hf];simp[b7,bd,go_sem,CD.Cm]
    case stop=>
     rintro D c q W _ _ h _;exact h.elim
  ·have hn:(C.b6 (bO n 0 (C.n4-1)) != 0)=true:=by simpa using hf
   have HF:=bw hf;clear hf f0 f1 f2 f3 f4 f5
   go_wp2
   refine⟨C.iq n,?_,rfl,?_⟩
   ·rw[CD.iq,if_neg HF.out];simp[b7,bd,go_sem]
   ·exact ca J z
end Go.Proofs
namespace Go.Proofs
set_option maxHeartbeats 1000000
def yI(s r:Int)(e:0<=s*s-r*r):∀k:Nat,s*s-r*r<((k:Int)+1)*(k+1)->0<=lvl s r k/\lvl s r k<=k/\lvl s r k*lvl s r k<=s*s-r*r/\s*s-r*r<(lvl s r k+1)*(lvl s r k+1)
 |0,h=>by simp only[lvl];exact⟨by omega,by simp,by omega,by simpa using h⟩
 |k+1,h=>by
  simp only[lvl]
  split
  ·rename_i hg;obtain⟨a,b,c,d⟩:=yI s r e k hg;exact⟨a,by omega,c,d⟩
  ·rename_i hg;exact⟨by omega,by omega,by omega,by push_cast at h;exact h⟩
open Go.RowKit
set_option maxRecDepth 100000
set_option maxHeartbeats 4000000
def yK{C:CD}{w:World}{i:Nat}(h:C.At w)(hi:i<C.n4):C.b4=some ⟨C.k4,C.o4,none⟩/\w.cell? ⟨C.k4,C.o4+i*12,none⟩=some (.string (C.x4 i).name)/\w.cell? ⟨C.k4,C.o4+i*12+1,none⟩=some (.int .i64 ((C.x4 i).n 1))/\w.cell? ⟨C.k4,C.o4+i*12+2,none⟩=some (.int .i64 ((C.x4 i).n 2))/\w.cell? ⟨C.k4,C.o4+i*12+3,none⟩=some (.int .i64 ((C.x4 i).n 3))/\w.cell? ⟨C.k4,C.o4+i*12+4,none⟩=some (.int .i64 ((C.x4 i).n 4))/\w.cell? ⟨C.k4,C.o4+i*12+5,none⟩=some (.int .i64 ((C.x4 i).n 5))/\w.cell? ⟨C.k4,C.o4+i*12+6,none⟩=some (.int .i64 ((C.x4 i).n 6))/\w.cell? ⟨C.k4,C.o4+i*12+7,none⟩=some (.int .i64 ((C.x4 i).n 7))/\w.cell? ⟨C.k4,C.o4+i*12+8,none⟩=some (.int .i64 ((C.x4 i).n 8))/\w.cell? ⟨C.k4,C.o4+i*12+9,none⟩=some (.int .i64 ((C.x4 i).n 9))/\w.cell? ⟨C.k4,C.o4+i*12+10,none⟩=some (.int .i64 ((C.x4 i).n 10))/\w.cell? ⟨C.k4,C.o4+i*12+11,none⟩=some (.slice (C.x4 i).lb (C.x4 i).ln (C.x4 i).lc)/\C.k4<w.heap.size:=⟨h.s4 (by omega),h.AD i hi,h.dB i hi 1 (by omega) (by omega),h.dB i hi 2 (by omega) (by omega),h.dB i hi 3 (by omega) (by omega),h.dB i hi 4 (by omega) (by omega),h.dB i hi 5 (by omega) (by omega),h.dB i hi 6 (by omega) (by omega),h.dB i hi 7 (by omega) (by omega),h.dB i hi 8 (by omega) (by omega),h.dB i hi 9 (by omega) (by omega),h.dB i hi 10 (by omega) (by omega),h.nj i hi,h.h4⟩
def yL{W:World}{r:Nat}{x y u v:Value}{t:TypeId}(h:W.heap[r]?=some (.cells #[x,y] t)):((W.setCell ⟨r,0,none⟩ u).setCell ⟨r,1,none⟩ v).heap[r]?=some (.cells #[u,v] t):=by
 simp only[bs,bj,if_pos,h,Option.map_some];rfl
def tv{W:World}{r b:Nat}{u v:Value}(hb:b≠r):((W.setCell ⟨r,0,none⟩ u).setCell ⟨r,1,none⟩ v).heap[b]?=W.heap[b]?:=by
 simp only[bs,bj,if_neg (Ne.symm hb)]
def below_drewN{n:Nat}{w W:World}(h:Below n w W):∀k,Below n w (W.drewN k):=λk=>by
 obtain⟨a,b,c,d,e⟩:=h;exact⟨a,b,c,d,e⟩
def yM:PL.stoodInHeld 35=false:=by kernel_rfl
def Co:PL.eqGuardType PL.depth 35=false:=by kernel_rfl
structure KB(C:CD)(w W:World):Prop where
 box:W.heap[w.heap.size]?=some (.cells C.val 27)
 low:Below w.heap.size w W
def KB.on{C:CD}{w W a:World}(h:KB C w W)(b:Below W.heap.size W a):KB C w a:=
 ⟨(b.block _ (b9 h.box)).trans h.box,ca h.low b⟩
def KB.alloc{C:CD}{w W:World}(h:KB C w W)(o:Obj):KB C w (W.alloc o):=h.on ((b8 _ _).alloc (aT _) _)
def KB.lt{C:CD}{w W:World}(h:KB C w W):w.heap.size<W.heap.size:=b9 h.box
def CD.Mem.below{C:CD}{w w':World}(h:C.Mem w)(a:Below w.heap.size w w'):C.Mem w':=by
 have s:=a.size;have e:∀o,w'.cell? ⟨C.k2,o,none⟩=w.cell? ⟨C.k2,o,none⟩:=λo=>a.cell (p:=⟨C.k2,o,none⟩) h.h2;have b:∀o,w'.cell? ⟨C.k3,o,none⟩=w.cell? ⟨C.k3,o,none⟩:=λo=>a.cell (p:=⟨C.k3,o,none⟩) h.h3;have c:∀o,w'.cell? ⟨C.k4,o,none⟩=w.cell? ⟨C.k4,o,none⟩:=λo=>a.cell (p:=⟨C.k4,o,none⟩) h.h4;have d:∀o,w'.cell? ⟨C.k5,o,none⟩=w.cell? ⟨C.k5,o,none⟩:=λo=>a.cell (p:=⟨C.k5,o,none⟩) h.h5;obtain⟨h2,h3,h4,h5,s2,s3,s4,s5,Ep,Er,Es,Et,Eu,AD,dB,nj,l4,J5,FI,HU,J6⟩:=h
 exact⟨by omega,by omega,by omega,by omega,s2,s3,s4,s5,λi hi=>(e _).trans (Ep i hi),λi hi=>(e _).trans (Er i hi),λi hi=>(b _).trans (Es i hi),λi hi=>(b _).trans (Et i hi),λi hi=>(b _).trans (Eu i hi),
  λi hi=>(c _).trans (AD i hi),λi hi j f h2=>(c _).trans (dB i hi j f h2),λi hi=>(c _).trans (nj i hi),λi hi hl=>⟨(l4 i hi hl).1,a8 (l4 i hi hl).2 s⟩,
  λi hi j g=>(a.cell (p:=⟨(C.x4 i).lk,(C.x4 i).lo+j,none⟩) (l4 i hi (by omega)).2).trans (J5 i hi j g),λi hi=>(d _).trans (FI i hi),λi hi=>(d _).trans (HU i hi),λi hi=>(d _).trans (J6 i hi)⟩
end Go.Proofs
