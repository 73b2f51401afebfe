/- Part of the proof of FieldLevels: see X45. -/
import Derived.Test.YtmkjeaacgibnoaaGreatX31
import Derived.Orders
import Derived.Tactics
import Derived.Tactics2
set_option linter.all false
open Go.Lib renaming hid->aa
open Go.Proofs.Tryz renaming func23->ab,ntmps23->ac,func93->ad,ntmps93->ae,func18->ag,ntmps18->ai
open Nat renaming not_lt_zero->ao,le_refl->ap,zero_le->aq,lt_of_lt_of_le->ar,lt_or_ge->aw
open Go.RowKit.Below renaming refl->aB
open Go.Proofs.Below renaming on->aF
open List renaming range->aH,all_eq_true->aI,mem_range->aJ,mem_cons_of_mem->aL,mem_cons_self->aP,any_eq_true->aT,mem_append_left->a5
open Bool renaming and_eq_true->a6,or_eq_true->a7,not_eq_true'->a8
open Go renaming Program->a9,yielded->ba,execOp->bb,execOp_congr->bc
open Array renaming getElem?_eq_none->bd,getElem?_eq_getElem->bg,getD_eq_getD_getElem?->bi,getElem?_setIfInBounds_ne->bj,all_eq_true'->bl
open Go.Region renaming binds->bm,wanted->bo
open Option renaming bind_some->bp,map_some->bq,getD_some->br
namespace Go.Proofs
open Go.RowKit
set_option maxRecDepth 100000
set_option maxHeartbeats 4000000
def EE(C:CD)(w:World)(h:C.At w)(a:C.dP 0=0):Calls PL 87 #[.agg C.val] w (aO (.int .i64 (C.dP 2)) w):=
 Ic _ _ _ _ _ _ _ _ _ _ _ _ h.m3 (cK a).1 (cK a).2 h.h3 h.s3 h.Es h.Et h.Eu
def EF(C:CD)(w:World)(h:C.At w)(a:C.dP 0=0)(b:C.dP 2=0):Calls PL 87 #[.agg C.val] w (aO (.int .i64 0) w):=by
 have:=EE C w h a;rwa[b]at this
def aar(C:CD)(m:Nat)(w:World)(h:C.At w)(a:m<C.n4)(b:1<=C.p)(c:C.p<=6)(d:gM C.p C.n2 C.n3 C.x4 m=0):Calls PL 88 #[.agg C.val,.int .i64 (m:Int)] w (aO (.int .i64 0) w):=by
 have:=ED C m w h a b c;rwa[d]at this
def Rh(C:CD)(m:Nat)(w:World)(h:C.At w)(a:m<C.n5)(b:iI C.n4 C.x5 m=0):Calls PL 89 #[.agg C.val,.int .i64 (m:Int)] w (aO (.int .i64 0) w):=by
 have:=yx C m w h a;rwa[b]at this
def rK(C:CD)(w:World)(h:C.At w):Calls PL 23 #[.agg C.val] w (aO (.int .i64 C.cx) w):=by
 have H:=aa h;have m2:=h.m2;have m4:=h.m4;have m5:=h.m5;have S:=h.h2;have S2:=aa h.s2;clear h;by_cases hl:bO C.l 1 999=true
 case neg=>
  have L:=aa (aV hl);clear hl
  go_enter (fx (by decide) ab),ac
  go_wp2_with (first|(go_at_call 74;((with_reducible refine(vQ L.out _).mono ?_);rintro e w'⟨rfl,rfl⟩)))
  go_ret
  have v:C.dP 0=1:=by simp[CD.dP,jd,L.out]
  exact⟨aC ((cR (m:=0) (λj b=>absurd b (ao _)) (by omega) (by rw[v];decide)).trans v),(aB _ _).alloc (ap _) _⟩
 case pos=>
 have L:=aa hl;clear hl;by_cases J:bO C.p 1 6=true
 case neg=>
  have P:=aa (aV J);clear J
  go_enter (fx (by decide) ab),ac
  go_wp2_with (first|(go_at_call 74;((with_reducible refine(kH L.out _).mono ?_);rintro e w'⟨rfl,rfl⟩))|(go_at_call 74;((with_reducible refine(vQ P.out _).mono ?_);rintro e w'⟨rfl,rfl⟩)))
  go_ret
  have v:C.dP 0=1:=by simp[CD.dP,jd,L.out,P.out]
  exact⟨aC ((cR (m:=0) (λj b=>absurd b (ao _)) (by omega) (by rw[v];decide)).trans v),(aB _ _).alloc (ap _) _⟩
 case pos=>
 have P:=aa J;clear J;have z0:C.dP 0=0:=by simp[CD.dP,jd,L.out,P.out]
 have n:=aa z0;clear z0;by_cases B:bO C.n2 1 3=true
 case neg=>
  have y:=aa (aV B);clear B
  go_enter (fx (by decide) ab),ac
  go_wp2_with (first|(go_at_call 74;((with_reducible refine(kH L.out _).mono ?_);rintro e w'⟨rfl,rfl⟩))|(go_at_call 74;((with_reducible refine(kH P.out _).mono ?_);rintro e w'⟨rfl,rfl⟩))|(go_at_call 74;((with_reducible refine(vQ y.out _).mono ?_);rintro e w'⟨rfl,rfl⟩)))
  go_ret
  have v:C.dP 1=2:=by simp[CD.dP,pq,y.out]
  exact⟨aC ((cR (m:=1) (λj b=>by(obtain rfl:j=0:=by omega);exact n.out) (by omega) (by rw[v];decide)).trans v),(aB _ _).alloc (ap _) _⟩
 case pos=>
 have y:=aa B;have vI:0<C.n2:=by simp[bO]at B;omega
 clear B
 go_enter (fx (by decide) ab),ac
 go_wp2_with (first|(go_at_call 74;((with_reducible refine(kH L.out _).mono ?_);rintro e w'⟨rfl,rfl⟩))|(go_at_call 74;((with_reducible refine(kH P.out _).mono ?_);rintro e w'⟨rfl,rfl⟩))|(go_at_call 74;((with_reducible refine(kH y.out _).mono ?_);rintro e w'⟨rfl,rfl⟩)))
 have K:=S2.out vI;rw[K];have Kf:=aa K;clear K
 go_loopw [3] (λi wr=>∃q:Nat,q<=C.n2/\i=.int .i64 q/\(∀j,j<q->eK (C.x2 j).1 (C.x2 j).2 0 90=true)/\wr.heap[w.heap.size]?=some (.cells C.val 27)/\Below w.heap.size w wr) (λi _=>C.n2-(intOf i).toNat)
 case atStart=>exact⟨0,aq _,rfl,λj b=>absurd b (ao _),au _ _,(aB _ _).alloc (ap _) _⟩
 case round=>
  obtain⟨q,T,rfl,x,o,c⟩:=hrel;have U:=aa x;have d:=aa o;have f:w.heap.size<wr.heap.size:=getElem?_lt' o;clear x o;obtain⟨V,W,M,X,f4,Y⟩:=bf d.out;by_cases g:q<C.n2
  ·have k0:=(c.cell (p:=⟨C.k2,C.o2+q*2,none⟩) S).trans (H.out.Ep q g);have k1:=(c.cell (p:=⟨C.k2,C.o2+q*2+1,none⟩) S).trans (H.out.Er q g);have i2:(q:Int)<C.n2:=by omega
   rw[Kf.out]at M;by_cases hi:eK (C.x2 q).1 (C.x2 q).2 0 90=true
   ·have D:=aa hi;clear hi
    go_wp2_with (go_at_call 86;refine(Ey D.out _).mono ?_;rintro e w1⟨rfl,a⟩)
    refine⟨⟨q+1,g,by go_num,λj b=>?_,(a.block _ f).trans d.out,aF c a⟩,by simp[intOf];omega⟩
    rcases Nat.lt_succ_iff_lt_or_eq.1 b with h|h
    ·exact U.out j h
    ·rw[h];exact D.out
   ·have D:=aa (aV hi);clear hi
    go_wp2_with (go_at_call 86;refine(Ez D.out _).mono ?_;rintro e w1⟨rfl,a⟩)
    go_ret
    have e1:C.dP 1=1:=by
     have:((aH C.n2).all λi=>eK (C.x2 i).1 (C.x2 i).2 0 90)=false:=by
      rw[List.all_eq_false];exact⟨q,List.mem_range.2 g,by simp[D.out]⟩
     simp[CD.dP,pq,y.out,this]
    exact⟨aC ((cR (m:=1) (λj b=>by(obtain rfl:j=0:=by omega);exact n.out) (by omega) (by rw[e1];decide)).trans e1),aF c a⟩
  ·obtain rfl:q=C.n2:=by omega
   have z1:C.dP 1=0:=by
    have:((aH C.n2).all λi=>eK (C.x2 i).1 (C.x2 i).2 0 90)=true:=by
     rw[aI];intro j b;exact U.out j (List.mem_range.1 b)
    simp[CD.dP,pq,y.out,this]
   have z:=aa z1;clear z1;have k:=c;by_cases E:C.dP 2=0
   case neg=>
    have t:=aa E;have arE:(C.dP 2 != 0)=true:=by simpa using E
    clear E
    go_wp2_with (go_at_call 87;refine(EE C _ (H.out.below k) n.out).mono ?_;rintro e w1⟨rfl,a⟩;obtain⟨Z,lR⟩:=cW a;have k:=aF k a;have d:=aa ((a.block _ f).trans d.out);have f:=ar f a.size)
    go_ret
    exact⟨aC (cR (m:=2) (λj b=>by
     obtain rfl|rfl:j=0\/j=1:=by omega
     ·exact n.out
     ·exact z.out) (by omega) t.out),k⟩
   case pos=>
   have t:=aa E;clear E;by_cases u:bO C.n4 2 5=true
   case neg=>
    have A:=aa (aV u);clear u
    go_wp2_with (first|(go_at_call 87;refine(EF C _ (H.out.below k) n.out t.out).mono ?_;rintro e w1⟨rfl,a⟩;obtain⟨Z,lR⟩:=cW a;have k:=aF k a;have d:=aa ((a.block _ f).trans d.out);have f:=ar f a.size)|(go_at_call 74;((with_reducible refine(vQ A.out _).mono ?_);rintro e w'⟨rfl,rfl⟩)))
    go_ret
    have F:C.dP 3=2:=by simp[CD.dP,kA,A.out]
    exact⟨aC ((cR (m:=3) (λj b=>by
     obtain rfl|rfl|rfl:j=0\/j=1\/j=2:=by omega
     ·exact n.out
     ·exact z.out
     ·exact t.out) (by omega) (by rw[F];decide)).trans F),k⟩
   case pos=>
   have A:=aa u;clear u
   go_wp2_with (first|(go_at_call 87;refine(EF C _ (H.out.below k) n.out t.out).mono ?_;rintro e w1⟨rfl,a⟩;obtain⟨Z,lR⟩:=cW a;have k:=aF k a;have d:=aa ((a.block _ f).trans d.out);have f:=ar f a.size)|(go_at_call 74;((with_reducible refine(kH A.out _).mono ?_);rintro e w'⟨rfl,rfl⟩)))
   have Xi:=cK (l:=C.l) n.out;obtain⟨J0,tL⟩:=Xi;have HX1:=d;have arF:=k;obtain⟨wo,rfl⟩:∃wo:World,wo=w1:=⟨_,rfl⟩
   go_loopw [5] (λi wr=>∃q:Nat,q<=C.n4/\i=.int .i64 q/\(∀j,j<q->gM C.p C.n2 C.n3 C.x4 j=0)/\wr.heap[w.heap.size]?=some (.cells C.val 27)/\Below w.heap.size w wr) (λi _=>C.n4-(intOf i).toNat)
   case atStart=>exact⟨0,aq _,rfl,λj b=>absurd b (ao _),d.out,k⟩
   case round=>
    obtain⟨q,T,rfl,x,o,c⟩:=hrel;have N:=aa x;have d:=aa o;have f:w.heap.size<wr.heap.size:=getElem?_lt' o;clear x o;obtain⟨V,W,M,X,f4,Y⟩:=bf d.out;by_cases g:q<C.n4
    ·by_cases r:gM C.p C.n2 C.n3 C.x4 q=0
     ·have s:=aa r;clear r
      go_wp2_with (go_at_call 88;refine(aar C q _ (H.out.below c) g J0 tL s.out).mono ?_;rintro e w1⟨rfl,a⟩)
      refine⟨⟨q+1,g,by go_num,λj b=>?_,(a.block _ f).trans d.out,aF c a⟩,by simp[intOf];omega⟩
      rcases Nat.lt_succ_iff_lt_or_eq.1 b with h|h
      ·exact N.out j h
      ·rw[h];exact s.out
     ·have s:=aa r;have Yt:(gM C.p C.n2 C.n3 C.x4 q != 0)=true:=by simpa using r
      clear r
      go_wp2_with (go_at_call 88;refine(ED C q _ (H.out.below c) g J0 tL).mono ?_;rintro e w1⟨rfl,a⟩)
      go_ret
      have F:C.dP 3=gM C.p C.n2 C.n3 C.x4 q:=dI A.out N.out g rfl s.out
      exact⟨aC ((cR (m:=3) (λj b=>by
      obtain rfl|rfl|rfl:j=0\/j=1\/j=2:=by omega
      ·exact n.out
      ·exact z.out
      ·exact t.out) (by omega) (by rw[F];exact s.out)).trans F),aF c a⟩
    ·obtain rfl:q=C.n4:=by omega
     have z3:C.dP 3=0:=by
      show kA _ _ _ _ _=0;rw[kA,if_pos A.out];exact cz N.out
     have O:=aa z3;clear z3;by_cases Q:3<C.n5
     ·go_wp2
      go_ret
      have I:C.dP 4=2:=by simp[CD.dP,pE,Q]
      exact⟨aC ((cR (m:=4) (λj b=>by
      obtain rfl|rfl|rfl|rfl:j=0\/j=1\/j=2\/j=3:=by omega
      ·exact n.out
      ·exact z.out
      ·exact t.out
      ·exact O.out) (by omega) (by rw[I];decide)).trans I),c⟩
     ·obtain⟨wp,rfl⟩:∃wp:World,wp=wr:=⟨_,rfl⟩
      go_wp2
      go_loopw [7] (λi wr=>∃q:Nat,q<=C.n5/\i=.int .i64 q/\(∀j,j<q->iI C.n4 C.x5 j=0)/\wr.heap[w.heap.size]?=some (.cells C.val 27)/\Below w.heap.size w wr) (λi _=>C.n5-(intOf i).toNat)
      case atStart=>exact⟨0,aq _,rfl,λj b=>absurd b (ao _),d.out,c⟩
      case round=>
       obtain⟨q,T,rfl,x,o,c⟩:=hrel;have R:=aa x;have d:=aa o;have f:w.heap.size<wr.heap.size:=getElem?_lt' o;clear x o;obtain⟨V,W,M,X,f4,Y⟩:=bf d.out;by_cases g:q<C.n5
       ·by_cases r:iI C.n4 C.x5 q=0
        ·have s:=aa r;clear r
         go_wp2_with (go_at_call 89;refine(Rh C q _ (H.out.below c) g s.out).mono ?_;rintro e w1⟨rfl,a⟩)
         refine⟨⟨q+1,g,by go_num,λj b=>?_,(a.block _ f).trans d.out,aF c a⟩,by simp[intOf];omega⟩
         rcases Nat.lt_succ_iff_lt_or_eq.1 b with h|h
         ·exact R.out j h
         ·rw[h];exact s.out
        ·have s:=aa r;have Yt:(iI C.n4 C.x5 q != 0)=true:=by simpa using r
         clear r
         go_wp2_with (go_at_call 89;refine(yx C q _ (H.out.below c) g).mono ?_;rintro e w1⟨rfl,a⟩)
         go_ret
         have I:C.dP 4=iI C.n4 C.x5 q:=ic Q R.out g rfl s.out
         exact⟨aC ((cR (m:=4) (λj b=>by
      obtain rfl|rfl|rfl|rfl:j=0\/j=1\/j=2\/j=3:=by omega
      ·exact n.out
      ·exact z.out
      ·exact t.out
      ·exact O.out) (by omega) (by rw[I];exact s.out)).trans I),aF c a⟩
       ·obtain rfl:q=C.n5:=by omega
        go_wp2
        go_ret
        have z4:C.dP 4=0:=by
         show pE _ _ _=0;rw[pE,if_neg Q];exact cz R.out
        refine⟨aC (cz λj b=>?_),c⟩;obtain rfl|rfl|rfl|rfl|rfl:j=0\/j=1\/j=2\/j=3\/j=4:=by omega
        ·exact n.out
        ·exact z.out
        ·exact t.out
        ·exact O.out
        ·exact z4
def EH{C:CD}{w:World}(k:C.At w)(h:C.cx=0):Calls PL 23 #[.agg C.val] w (aO (.int .i64 0) w):=by
 have:=rK C w k;rwa[h]at this
def uE(C:CD)(n:Int)(w:World)(h:C.At w):Calls PL 93 #[.agg C.val,.int .i64 n] w (aO (.int .i64 (C.b6 (bO n 0 (C.n4-1)))) w):=by
 have f:=λw1 j=>h.below (w':=w1) j;have d:=aa f;have m4:=h.m4;clear f h;by_cases hc:C.cx=0
 ·have b:=aa hc;clear hc;by_cases hb:bO n 0 (C.n4-1)=true
  ·have c:=aa hb;clear hb
   go_enter (fx (by decide) ad),ae
   go_wp2_with (first|(go_at_call 23;refine(EH (d.out _ ((aB _ _).alloc (ap _) _)) b.out).mono ?_;rintro e w1⟨rfl,a⟩;obtain⟨g,i⟩:=cW a)|(go_at_call 74;refine(kH c.out _).mono ?_;rintro e w'⟨rfl,rfl⟩))
   go_ret
   exact⟨aC (by simp[CD.b6,b.out,c.out]),aF ((aB _ _).alloc (ap _) _) a⟩
  ·have c:=aa (aV hb);clear hb
   go_enter (fx (by decide) ad),ae
   go_wp2_with (first|(go_at_call 23;refine(EH (d.out _ ((aB _ _).alloc (ap _) _)) b.out).mono ?_;rintro e w1⟨rfl,a⟩;obtain⟨g,i⟩:=cW a)|(go_at_call 74;refine(vQ c.out _).mono ?_;rintro e w'⟨rfl,rfl⟩))
   go_ret
   exact⟨aC (by simp[CD.b6,b.out,c.out]),aF ((aB _ _).alloc (ap _) _) a⟩
 ·have b:=aa hc;have k:(C.cx != 0)=true:=by simpa using hc
  clear hc
  go_enter (fx (by decide) ad),ae
  go_wp2_with (go_at_call 23;refine(rK C _ (d.out _ ((aB _ _).alloc (ap _) _))).mono ?_;rintro e w1⟨rfl,a⟩;obtain⟨g,i⟩:=cW a)
  go_ret
  exact⟨aC (by simp[CD.b6,b.out]),aF ((aB _ _).alloc (ap _) _) a⟩
structure CD.Mem(C:CD)(w:World):Prop where
 h2:C.k2<w.heap.size
 h3:C.k3<w.heap.size
 h4:C.k4<w.heap.size
 h5:C.k5<w.heap.size
 s2:0<C.n2->C.b2=some ⟨C.k2,C.o2,none⟩
 s3:0<C.n3->C.b3=some ⟨C.k3,C.o3,none⟩
 s4:0<C.n4->C.b4=some ⟨C.k4,C.o4,none⟩
 s5:0<C.n5->C.b5=some ⟨C.k5,C.o5,none⟩
 Ep:∀i,i<C.n2->w.cell? ⟨C.k2,C.o2+i*2,none⟩=some (.int .i64 (C.x2 i).1)
 Er:∀i,i<C.n2->w.cell? ⟨C.k2,C.o2+i*2+1,none⟩=some (.int .i64 (C.x2 i).2)
 Es:∀i,i<C.n3->w.cell? ⟨C.k3,C.o3+i*3,none⟩=some (.int .i64 (C.x3 i).1)
 Et:∀i,i<C.n3->w.cell? ⟨C.k3,C.o3+i*3+1,none⟩=some (.int .i64 (C.x3 i).2.1)
 Eu:∀i,i<C.n3->w.cell? ⟨C.k3,C.o3+i*3+2,none⟩=some (.int .i64 (C.x3 i).2.2)
 AD:∀i,i<C.n4->w.cell? ⟨C.k4,C.o4+i*12,none⟩=some (.string (C.x4 i).name)
 dB:∀i,i<C.n4->∀j,1<=j->j<=10->w.cell? ⟨C.k4,C.o4+i*12+j,none⟩=some (.int .i64 ((C.x4 i).n j))
 nj:∀i,i<C.n4->w.cell? ⟨C.k4,C.o4+i*12+11,none⟩=some (.slice (C.x4 i).lb (C.x4 i).ln (C.x4 i).lc)
 l4:∀i,i<C.n4->0<(C.x4 i).ln->(C.x4 i).lb=some ⟨(C.x4 i).lk,(C.x4 i).lo,none⟩/\(C.x4 i).lk<w.heap.size
 J5:∀i,i<C.n4->∀j,j<(C.x4 i).ln->w.cell? ⟨(C.x4 i).lk,(C.x4 i).lo+j,none⟩=some (.int .i64 ((C.x4 i).lane j))
 FI:∀i,i<C.n5->w.cell? ⟨C.k5,C.o5+i*3,none⟩=some (.string (C.x5 i).1)
 HU:∀i,i<C.n5->w.cell? ⟨C.k5,C.o5+i*3+1,none⟩=some (.int .i64 (C.x5 i).2.1)
 J6:∀i,i<C.n5->w.cell? ⟨C.k5,C.o5+i*3+2,none⟩=some (.int .i64 (C.x5 i).2.2)
def CD.small(C:CD):Bool:=decide (C.n2<=20)&&decide (C.n3<=20)&&decide (C.n4<=20)&&decide (C.n5<=20)&&((aH C.n4).all λi=>decide ((C.x4 i).name.size<=100)&&decide ((C.x4 i).ln<=20))&&((aH C.n5).all λi=>decide ((C.x5 i).1.size<=100))
def CD.At.Ri{C:CD}{w:World}(h:C.Mem w)(hs:C.small=true):C.At w:=by
 simp only[CD.small,a6,decide_eq_true_eq,aI,aJ]at hs;obtain⟨⟨⟨⟨⟨m2,m3⟩,m4⟩,m5⟩,n4⟩,n5⟩:=hs;obtain⟨h2,h3,h4,h5,s2,s3,s4,s5,Ep,Er,Es,Et,Eu,AD,dB,nj,l4,J5,FI,HU,J6⟩:=h;exact⟨m2,m3,m4,m5,h2,h3,h4,h5,s2,s3,s4,s5,Ep,Er,Es,Et,Eu,n4,AD,dB,nj,l4,J5,n5,FI,HU,J6⟩
def AK(C:CD)(w:World)(h:C.Mem w):Calls PL 18 #[.agg C.val] w (aO (.bool (!C.small)) w):=by
 have H:=aa h;have r:=h.h4;have x:=h.h5;clear h;by_cases hc:C.n2<=20/\C.n3<=20/\C.n4<=20/\C.n5<=20
 case neg=>
  have a:C.small=false:=by
   cases c:C.small with
   |false=>rfl
   |true=>
    simp only[CD.small,a6,decide_eq_true_eq]at c;omega
  have SM:=aa a;clear a
  go_enter (fx (by decide) ag),ai
  go_wp2
  any_goals (
   go_ret
   exact⟨by rw[SM.out];rfl,(aB _ _).alloc (ap _) _⟩)
 case pos=>
 obtain⟨m2,m3,m4,m5⟩:=hc
 go_enter (fx (by decide) ag),ai
 go_wp2
 have y:=aa H.out.s4;have z:=aa H.out.s5
 go_loopw [3] (λi wr=>∃q:Nat,q<=C.n4/\i=.int .i64 q/\(∀j,j<q->(C.x4 j).name.size<=100/\(C.x4 j).ln<=20)/\wr.heap[w.heap.size]?=some (.cells C.val 27)/\Below w.heap.size w wr) (λi _=>C.n4-(intOf i).toNat)
 case atStart=>exact⟨0,aq _,rfl,λj e=>absurd e (ao _),au _ _,(aB _ _).alloc (ap _) _⟩
 case round=>
  obtain⟨q,c,rfl,k,l,b⟩:=hrel;have s:=aa k;have f:=aa l;clear k l;obtain⟨A,B,D,E,f4,t⟩:=bf f.out;by_cases d:q<C.n4
  ·rw[y.out (by omega)]at f4;have k0:=(b.cell (p:=⟨C.k4,C.o4+q*12,none⟩) r).trans (H.out.AD q d);have k1:=(b.cell (p:=⟨C.k4,C.o4+q*12+11,none⟩) r).trans (H.out.nj q d);have F:(q:Int)<C.n4:=by omega
   by_cases g:(C.x4 q).name.size<=100/\(C.x4 q).ln<=20
   ·obtain⟨m,n⟩:=g
    go_wp2
    refine⟨⟨q+1,d,by go_num,λj e=>?_,f.out,b⟩,by simp[intOf];omega⟩
    rcases Nat.lt_succ_iff_lt_or_eq.1 e with h|h
    ·exact s.out j h
    ·rw[h];exact⟨m,n⟩
   ·have a:C.small=false:=by
     cases c:C.small with
     |false=>rfl
     |true=>
      simp only[CD.small,a6,decide_eq_true_eq,aI,aJ]at c;exact absurd (c.1.2 q d) g
    have SM:=aa a;have o:100<(C.x4 q).name.size\/20<(C.x4 q).ln:=by omega
    clear a g;by_cases m:(C.x4 q).name.size<=100
    ·have n:20<(C.x4 q).ln:=by omega
     clear o
     go_wp2
     go_ret
     exact⟨by rw[SM.out];rfl,b⟩
    ·clear o
     go_wp2
     go_ret
     exact⟨by rw[SM.out];rfl,b⟩
  ·obtain rfl:q=C.n4:=by omega
   obtain⟨u,rfl⟩:∃u:World,u=wr:=⟨_,rfl⟩
   go_wp2
   go_loopw [4] (λi wr=>∃q:Nat,q<=C.n5/\i=.int .i64 q/\(∀j,j<q->(C.x5 j).1.size<=100)/\wr.heap[w.heap.size]?=some (.cells C.val 27)/\Below w.heap.size w wr) (λi _=>C.n5-(intOf i).toNat)
   case atStart=>exact⟨0,aq _,rfl,λj e=>absurd e (ao _),f.out,b⟩
   case round=>
    obtain⟨q,c,rfl,k,l,b⟩:=hrel;have v:=aa k;have f:=aa l;clear k l;obtain⟨A,B,D,E,f4,t⟩:=bf f.out;by_cases d:q<C.n5
    ·rw[z.out (by omega)]at t;have k0:=(b.cell (p:=⟨C.k5,C.o5+q*3,none⟩) x).trans (H.out.FI q d);have F:(q:Int)<C.n5:=by omega
     by_cases g:(C.x5 q).1.size<=100
     ·go_wp2
      refine⟨⟨q+1,d,by go_num,λj e=>?_,f.out,b⟩,by simp[intOf];omega⟩
      rcases Nat.lt_succ_iff_lt_or_eq.1 e with h|h
      ·exact v.out j h
      ·rw[h];exact g
     ·have a:C.small=false:=by
       cases c:C.small with
       |false=>rfl
       |true=>
        simp only[CD.small,a6,decide_eq_true_eq,aI,aJ]at c;exact absurd (c.2 q d) g
      have SM:=aa a;clear a
      go_wp2
      go_ret
      exact⟨by rw[SM.out];rfl,b⟩
    ·obtain rfl:q=C.n5:=by omega
     have a:C.small=true:=by
      simp only[CD.small,a6,decide_eq_true_eq,aI,aJ];exact⟨⟨⟨⟨⟨m2,m3⟩,m4⟩,m5⟩,s.out⟩,v.out⟩
     have SM:=aa a;clear a
     go_wp2
     go_ret
     exact⟨by rw[SM.out];rfl,b⟩
end Go.Proofs
namespace Go
section
variable {P:a9}{ops:Array Oper}
def Region.fZ(ops:Array Oper)(i:Nat):Option Tmp:=(ops[i]?).bind (·.dst)
def cS(ops:Array Oper)(vs:Nat->Value):List Nat->Act->Act
 |[],a=>a
 |i::l,a=>cS ops vs l (a.put (Region.fZ ops i) (vs i))
def EK(a:Act)(d:Option Tmp)(v:Value):(a.put d v).tmps.size=a.tmps.size:=by
 cases d<;>simp[Act.put]
def put_defers(a:Act)(d:Option Tmp)(v:Value):(a.put d v).defers=a.defers:=by
 cases d<;>rfl
def Cg(a:Act)(d:Option Tmp)(v:Value)(t:Nat):(a.put d v).tmps[t]?=if d=some t/\t<a.tmps.size then some v else a.tmps[t]?:=by
 cases d with
 |none=>simp[Act.put]
 |some d=>
  simp only[Act.put,Array.getElem?_setIfInBounds,Option.some.injEq];by_cases h:d=t
  ·subst h;by_cases hl:d<a.tmps.size<;>simp[hl]
  ·simp[h]
def uF(vs:Nat->Value):∀(l:List Nat)(a:Act),(cS ops vs l a).tmps.size=a.tmps.size
 |[],_=>rfl
 |i::l,a=>by rw[cS,uF vs l,EK]
def pG(vs:Nat->Value):∀(l:List Nat)(a:Act),(cS ops vs l a).defers=a.defers
 |[],_=>rfl
 |i::l,a=>by rw[cS,pG vs l,put_defers]
def gI(vs:Nat->Value)(t:Nat):∀(l:List Nat)(a:Act),(∀j∈l,Region.fZ ops j≠some t)->(cS ops vs l a).tmps[t]?=a.tmps[t]?
 |[],_,_=>rfl
 |i::l,a,h=>by rw[cS,gI vs t l _ λj b=>h j (aL _ b),Cg,if_neg λe=>h i (aP ..) e.1]
def gJ(vs:Nat->Value)(t j:Nat)(hd:∀k,Region.fZ ops k=some t->k=j)(c:Region.fZ ops j=some t):∀(l:List Nat)(a:Act),j∈l->(cS ops vs l a).tmps[t]?=if t<a.tmps.size then some (vs j) else none
 |i::l,a,h=>by
  rw[cS];by_cases hl:j∈l
  ·rw[gJ vs t j hd c l _ hl,EK]
  ·obtain rfl:i=j:=by rcases List.mem_cons.1 h with e|e;exact e.symm;exact absurd e hl
   rw[gI vs t l _ λk d e=>hl (hd k e▸d),Cg,c];by_cases b:t<a.tmps.size
   ·simp[b]
   ·simp[b,bd (Nat.le_of_not_lt b)]
def Oper.dz(o:Oper):Array Edge:=o.after.filter (bm .any)
def cH{o:Oper}{e:Edge}:e∈o.dz↔e∈o.after/\bm .any e=true:=by simp[Oper.dz]
def qf(P:a9)(K:Value->World->Prop):Result Next->Prop
 |.ok (.value v) w=>K v w
 |.ok .skip w=>K undef w
 |.ok (.enter f args) w=>Calls P f args w λe w'=>∃v,e=.returned v/\K v w'
 |_=>False
@[go_sem] def Tm(K:Value->World->Prop)(v:Value)(w:World):qf P K (.ok (.value v) w)=K v w:=rfl
@[go_sem] def Vt(K:Value->World->Prop)(w:World):qf P K (.ok .skip w)=K undef w:=rfl
@[go_sem] def Tn(K:Value->World->Prop)(f:FuncId)(args:Array Value)(w:World):qf P K (.ok (.enter f args) w)=Calls P f args w λe w'=>∃v,e=.returned v/\K v w':=rfl
@[go_sem] def fC(P:a9)(ops:Array Oper)(K:Value->World->Prop)(o:Oper)(b:Act)(w:World):Prop:=
 if bo o (ba ops b.tmps) then qf P K ((bb b.eval o).run P w) else K undef w
def Region.Ig(ops:Array Oper):Bool:=
 (aH ops.size).all λi=>match ops[i]? with
  |none=>true
  |some o=>(match o.op with | .select ..=>false|_=>true)&&(o.dz.toList.all λe=>decide (e.on<i)&&bm .any e) &&
   (aH ops.size).all λj=>match Region.fZ ops j with
    |none=>true
    |some d=>(j==i||o.dst != some d)&&(!(o.looksAt ops).contains d||o.dz.toList.any λe=>e.on==j)
structure tf(ops:Array Oper):Prop where
 sel:∀(i:Nat)(o:Oper),ops[i]?=some o->∀cs b,o.op≠Op.select cs b
 edge:∀(i:Nat)(o:Oper),ops[i]?=some o->∀e∈o.dz,e.on<i/\bm .any e=true
 one:∀i j t,Region.fZ ops i=some t->Region.fZ ops j=some t->i=j
 look:∀(i:Nat)(o:Oper),ops[i]?=some o->∀j t,Region.fZ ops j=some t->t∈o.looksAt ops->∃e∈o.dz,e.on=j
def yz{i t:Nat}(h:Region.fZ ops i=some t):i<ops.size:=by
 rcases aw i ops.size with b|b
 ·exact b
 ·simp[Region.fZ,bd b]at h
def Ro(h:Region.Ig ops=true):tf ops:=by
 have key:∀(i:Nat)(o:Oper),ops[i]?=some o->(match o.op with | .select ..=>false|_=>true)=true/\(∀e∈o.dz,e.on<i/\bm .any e=true)/\∀j,j<ops.size->∀d,Region.fZ ops j=some d->(j=i\/o.dst≠some d)/\(d∈o.looksAt ops->∃e∈o.dz,e.on=j):=by
  intro i o c;have hi:i<ops.size:=(Array.getElem?_eq_some_iff.1 c).1;simp only[Region.Ig,aI,aJ]at h;have:=h i hi;rw[c]at this;simp only[a6,aI,aJ,decide_eq_true_eq]at this;obtain⟨⟨k,l⟩,m⟩:=this;refine⟨k,λe g=>l e (Array.mem_toList_iff.2 g),λj f d hd=>?_⟩;have:=m j f;rw[hd]at this;simp only[a6,a7,beq_iff_eq,bne_iff_ne,a8,aT]at this;refine⟨this.1,λhc=>?_⟩
  rcases this.2 with h|⟨e,g,h⟩
  ·rw[List.contains_iff_mem.2 hc]at h;cases h
  ·exact⟨e,Array.mem_toList_iff.1 g,h⟩
 refine⟨λi o c cs b e=>?_,λi o c=>(key i o c).2.1,λi j t hi f=>?_,λi o c j t f hl=>((key i o c).2.2 j (yz f) t f).2 hl⟩
 ·have:=(key i o c).1;rw[e]at this;cases this
 ·have n:=yz hi;have c:ops[i]?=some ops[i]:=bg n;have hd:ops[i].dst=some t:=by simpa[Region.fZ,c]using hi
  rcases((key i _ c).2.2 j (yz f) t f).1 with e|e
  ·exact e.symm
  ·exact absurd hd e
section
variable {C:World->Prop}{Le:World->World->Prop}{Φ:Nat->(Nat->Value)->World->Prop}{a:Act}{Q:Exit->Act->World->Prop}
def upd(vs:Nat->Value)(i:Nat)(v:Value):Nat->Value:=λj=>if j=i then v else vs j
def cO(ops:Array Oper)(listed:Array Bool):List Nat:=(aH ops.size).filter λi=>listed.getD i true
def AL{o:Oper}{i:Nat}(c:tf ops)(f:ops[i]?=some o){l:List Nat}(hl:∀e∈o.dz,e.on∈l)(vs:Nat->Value)(t:Nat)(m:t∈o.looksAt ops) :
 (cS ops vs l a).tmps[t]?=(cS ops vs (aH i) a).tmps[t]?:=by
 by_cases h:∃j,Region.fZ ops j=some t
 ·obtain⟨j,b⟩:=h;obtain⟨e,g,rfl⟩:=c.look i o f j t b m;rw[gJ vs t e.on (λk d=>c.one _ _ _ d b) b l a (hl e g),gJ vs t e.on (λk d=>c.one _ _ _ d b) b _ a (List.mem_range.2 (c.edge i o f e g).1)]
 ·rw[gI vs t l a λj _ e=>h ⟨j,e⟩,gI vs t _ a λj _ e=>h ⟨j,e⟩]
def Nj{o:Oper}{i:Nat}(b:tf ops)(c:ops[i]?=some o){l:List Nat}(hl:∀e∈o.dz,e.on∈l)(vs:Nat->Value) :
 bb (cS ops vs l a).eval o=bb (cS ops vs (aH i) a).eval o:=by
 refine bc o (b.sel i o c) λx d=>?_
 cases x with
 |tmp t=>
  have f:t∈o.looksAt ops:=a5 _ (List.mem_filterMap.2 ⟨.tmp t,by simpa using d,rfl⟩);simp only[Act.eval,bi,AL b c hl vs t f]
 |_=>rfl
def EL{o:Oper}{i:Nat}(b:tf ops)(c:ops[i]?=some o){l:List Nat}(hl:∀e∈o.dz,e.on∈l)(vs:Nat->Value) :
 bo o (ba ops (cS ops vs l a).tmps)=bo o (ba ops (cS ops vs (aH i) a).tmps):=by
 unfold bo
 cases hg:o.guard with
 |none=>rfl
 |some d=>
  obtain⟨g,want⟩:=d;have hy:ba ops (cS ops vs l a).tmps g=ba ops (cS ops vs (aH i) a).tmps g:=by
   unfold ba
   cases f:(ops[g]?).bind (·.dst) with
   |none=>rfl
   |some t=>
    have:=AL (a:=a) b c hl vs t (by simp[Oper.looksAt,hg,f]);simp only[bp,this]
  simp only[hy]
def Rp(m:tf ops){i:Nat}{o:Oper}(r:ops[i]?=some o){listed:Array Bool}(hs:listed.size=ops.size)(w:listed.getD i true=false)(vs:Nat->Value)(v:Value) :
 (cS ops vs (cO ops listed) a).put o.dst v=cS ops (upd vs i v) (cO ops (listed.setIfInBounds i true)) a:=by
 have hi:i<ops.size:=(Array.getElem?_eq_some_iff.1 r).1;have d:Region.fZ ops i=o.dst:=by simp[Region.fZ,r]
 have n:∀j,j∈cO ops (listed.setIfInBounds i true)↔j=i\/j∈cO ops listed:=by
  intro j;simp only[cO,List.mem_filter,aJ];by_cases e:i=j
  ·subst e;simp[hi,hs]
  ·have:(listed.setIfInBounds i true).getD j true=listed.getD j true:=by simp[bj e]
   rw[this];constructor
   ·exact .inr
   ·rintro(h|h)
    ·exact absurd h.symm e
    ·exact h
 have z:i∉cO ops listed:=λh=>by
  have:=(List.mem_filter.1 h).2;rw[w]at this;cases this
 obtain⟨x,p⟩:∃x,x=(cS ops vs (cO ops listed) a).put o.dst v:=⟨_,rfl⟩
 obtain⟨y,hy⟩:∃y,y=cS ops (upd vs i v) (cO ops (listed.setIfInBounds i true)) a:=⟨_,rfl⟩
 have s:x.defers=y.defers:=by rw[p,hy,put_defers,pG,pG]
 have u:x.tmps=y.tmps:=by
  apply Array.ext_getElem?;intro t;rw[p,hy,Cg,uF];by_cases l:o.dst=some t
  ·have f:Region.fZ ops i=some t:=d.trans l;rw[gJ _ t i (λk g=>m.one _ _ _ g f) f _ a ((n i).2 (.inl rfl)),upd,if_pos rfl];by_cases q:t<a.tmps.size
   ·simp[l,q]
   ·rw[if_neg λe=>q e.2,if_neg q,bd (by rw[uF];omega)]
  ·rw[if_neg λe=>l e.1];by_cases h:∃j,Region.fZ ops j=some t/\j∈cO ops listed
   ·obtain⟨j,b,c⟩:=h;have A:j≠i:=λe=>z (e▸c);rw[gJ _ t j (λk g=>m.one _ _ _ g b) b _ a c,gJ _ t j (λk g=>m.one _ _ _ g b) b _ a ((n j).2 (.inr c)),upd,if_neg A]
   ·rw[gI _ t _ a λj b e=>h ⟨j,e,b⟩,gI _ t _ a λj b e=>?_]
    rcases(n j).1 b with rfl|b
    ·exact l (d.symm.trans e)
    ·exact h ⟨j,e,b⟩
 rw[<-p,<-hy];obtain⟨B,D⟩:=x;obtain⟨F,H⟩:=y;simp only at s u;rw[s,u]
section
variable (P:a9)(ops:Array Oper)(C:World->Prop)(Le:World->World->Prop)(E:Nat->Bool)(Φ:Nat->(Nat->Value)->World->Prop)(Q:Exit->Act->World->Prop)
def cL:Nat->List Oper->((Nat->Value)->Act)->Prop
 |i,[],b=>∀vs W,C W->(∀j,j<i->E j=false->Φ j vs W)->Q .normal (b vs) W
 |i,o::l,b=>@Bool.rec (λ_=>Prop)
  ((∀vs W,C W->(∀e∈o.dz,E e.on=false->Φ e.on vs W)->fC P ops (λu c=>C c/\Le W c/\Φ i (upd vs i u) c) o (b vs) W)/\cL (i+1) l λvs=>(b vs).put o.dst (vs i))
  (∃v,(∀vs W,C W->(∀e∈o.dz,E e.on=false->Φ e.on vs W)->fC P ops (λu c=>u=v/\C c/\Le W c) o (b vs) W)/\cL (i+1) l λvs=>(b vs).put o.dst v) (E i)
end
def cP{E:Nat->Bool}{i:Nat}{b:(Nat->Value)->Act}(h:∀vs W,C W->(∀j,j<i->E j=false->Φ j vs W)->Q .normal (b vs) W):cL P ops C Le E Φ Q i [] b:=h
def EM{E:Nat->Bool}{i:Nat}{o:Oper}{l:List Oper}{b:(Nat->Value)->Act}(v:Value)(hE:E i=true)
 (h:∀vs W,C W->(∀e∈o.dz,E e.on=false->Φ e.on vs W)->fC P ops (λu c=>u=v/\C c/\Le W c) o (b vs) W) (d:cL P ops C Le E Φ Q (i+1) l λvs=>(b vs).put o.dst v):cL P ops C Le E Φ Q i (o::l) b:=by
 rw[cL,hE];exact⟨v,h,d⟩
def EN{E:Nat->Bool}{i:Nat}{o:Oper}{l:List Oper}{b:(Nat->Value)->Act}(hE:E i=false)
 (h:∀vs W,C W->(∀e∈o.dz,E e.on=false->Φ e.on vs W)->fC P ops (λu c=>C c/\Le W c/\Φ i (upd vs i u) c) o (b vs) W) (d:cL P ops C Le E Φ Q (i+1) l λvs=>(b vs).put o.dst (vs i)):cL P ops C Le E Φ Q i (o::l) b:=by
 rw[cL,hE];exact⟨h,d⟩
def aY{E:Nat->Bool}{i:Nat}{o:Oper}{l:List Oper}{b b':(Nat->Value)->Act}(v:Value)(hE:E i=true)
 (h:∀vs W,C W->(∀e∈o.dz,E e.on=false->Φ e.on vs W)->fC P ops (λu c=>u=v/\C c/\Le W c) o (b vs) W) (hb:∀vs,(b vs).put o.dst v=b' vs) (d:cL P ops C Le E Φ Q (i+1) l b'):cL P ops C Le E Φ Q i (o::l) b:=
 EM v hE h ((funext hb:(λvs=>(b vs).put o.dst v)=b')▸d)
def eH{E:Nat->Bool}{i:Nat}{o:Oper}{l:List Oper}{b b':(Nat->Value)->Act}(hE:E i=false)
 (h:∀vs W,C W->(∀e∈o.dz,E e.on=false->Φ e.on vs W)->fC P ops (λu c=>C c/\Le W c/\Φ i (upd vs i u) c) o (b vs) W) (hb:∀vs,(b vs).put o.dst (vs i)=b' vs) (d:cL P ops C Le E Φ Q (i+1) l b'):cL P ops C Le E Φ Q i (o::l) b:=
 EN hE h ((funext hb:(λvs=>(b vs).put o.dst (vs i))=b')▸d)
def uG(vs:Nat->Value)(i:Nat):∀(l:List Nat)(a:Act),cS ops vs (l++[i]) a=(cS ops vs l a).put (Region.fZ ops i) (vs i)
 |[],_=>rfl
 |j::l,a=>by simp only[List.cons_append,cS];exact uG vs i l _
def yA{vs b:Nat->Value}:∀(l:List Nat)(a:Act),(∀j∈l,vs j=b j)->cS ops vs l a=cS ops b l a
 |[],_,_=>rfl
 |j::l,a,h=>by simp only[cS];rw[h j (aP ..)];exact yA l _ λk c=>h k (aL _ c)
def vR(E:Nat->Bool)(V vs:Nat->Value):Nat->Value:=λj=>if E j then V j else vs j
def Ch{K d:Value->World->Prop}(h:∀v W,K v W->d v W):∀{r:Result Next},qf P K r->qf P d r:=by
 intro r H
 match r,H with
 |.ok (.value v) b,H=>exact h v b H
 |.ok .skip b,H=>exact h undef b H
 |.ok (.enter f args) b,H=>exact Calls.mono H λe c⟨v,g,i⟩=>⟨v,g,h v c i⟩
def nu{K d:Value->World->Prop}(h:∀v W,K v W->d v W){o:Oper}{b:Act}{W:World}(H:fC P ops K o b W):fC P ops d o b W:=by
 unfold fC at *
 split
 ·rename_i c;rw[if_pos c]at H;exact Ch h H
 ·rename_i c;rw[if_neg c]at H;exact h _ _ H
def EO{o:Oper}{i:Nat}(c:tf ops)(g:ops[i]?=some o){vs d:Nat->Value}(hv:∀e∈o.dz,vs e.on=d e.on)(t:Nat)(n:t∈o.looksAt ops) :
 (cS ops vs (aH i) a).tmps[t]?=(cS ops d (aH i) a).tmps[t]?:=by
 by_cases h:∃j,Region.fZ ops j=some t
 ·obtain⟨j,b⟩:=h;obtain⟨e,l,rfl⟩:=c.look i o g j t b n;have m:=List.mem_range.2 (c.edge i o g e l).1;rw[gJ vs t e.on (λk f=>c.one _ _ _ f b) b _ a m,gJ d t e.on (λk f=>c.one _ _ _ f b) b _ a m,hv e l]
 ·rw[gI vs t _ a λj _ e=>h ⟨j,e⟩,gI d t _ a λj _ e=>h ⟨j,e⟩]
def Nk{o:Oper}{i:Nat}(c:tf ops)(d:ops[i]?=some o){vs b:Nat->Value}(hv:∀e∈o.dz,vs e.on=b e.on){K:Value->World->Prop}{W:World}
 (H:fC P ops K o (cS ops vs (aH i) a) W):fC P ops K o (cS ops b (aH i) a) W:=by
 have e1:bb (cS ops b (aH i) a).eval o=bb (cS ops vs (aH i) a).eval o:=by
  refine bc o (c.sel i o d) λx h=>?_
  cases x with
  |tmp t=>
   have f:t∈o.looksAt ops:=a5 _ (List.mem_filterMap.2 ⟨.tmp t,by simpa using h,rfl⟩);simp only[Act.eval,bi,EO (a:=a) c d hv t f]
  |_=>rfl
 have j:bo o (ba ops (cS ops b (aH i) a).tmps)=bo o (ba ops (cS ops vs (aH i) a).tmps):=by
  unfold bo
  cases hg:o.guard with
  |none=>rfl
  |some k=>
   obtain⟨g,want⟩:=k;have hy:ba ops (cS ops b (aH i) a).tmps g=ba ops (cS ops vs (aH i) a).tmps g:=by
    unfold ba
    cases f:(ops[g]?).bind (·.dst) with
    |none=>rfl
    |some t=>
     have:=EO (a:=a) c d hv t (by simp[Oper.looksAt,hg,f]);simp only[bp,this]
   simp only[hy]
 unfold fC at H ⊢;rw[e1,j];exact H
end
end
section
variable {P:a9}{ops:Array Oper}{C:World->Prop}{Le:World->World->Prop}{Φ:Nat->(Nat->Value)->World->Prop}{a:Act}{Q:Exit->Act->World->Prop}
def Region.Ih(ops:Array Oper)(i:Nat):List Nat:=match ops[i]? with
 |none=>[]
 |some o=>o.dz.toList.map Edge.on
def Region.Ci(ops:Array Oper):Nat->List Nat->List Nat
 |0,s=>s
 |f+1,s=>Region.Ci ops f (s++s.flatMap (Region.Ih ops)).eraseDups
def AM(p:Nat->Prop)(d:∀i,p i->∀j∈Region.Ih ops i,p j):∀(f:Nat)(s:List Nat),(∀i∈s,p i)->∀i∈Region.Ci ops f s,p i
 |0,_,h=>h
 |f+1,s,h=>AM p d f _ λi hi=>by
  rcases List.mem_append.1 (List.mem_eraseDups.1 hi) with b|b
  ·exact h i b
  ·obtain⟨x,e,c⟩:=List.mem_flatMap.1 b;exact d x (h x e) i c
structure Late(ops:Array Oper)(k:Nat):Prop where
 all:∀(i:Nat)(o:Oper),ops[i]?=some o->k<=i->∀j,j<k->j∈Region.Ci ops 4 (Region.Ih ops i)
 one:∀(i:Nat)(o:Oper),ops[i]?=some o->k<i->∃e∈o.dz,e.on+1=i
def Region.Kk(ops:Array Oper)(k:Nat):Bool:=decide (k<=ops.size)&&(aH ops.size).all λi=>match ops[i]? with
 |none=>true
 |some o=>decide (i<k)||(((aH k).all λj=>(Region.Ci ops 4 (Region.Ih ops i)).contains j)&&(i==k||o.dz.toList.any λe=>e.on+1==i))
def Kl{k:Nat}(h:Region.Kk ops k=true):k<=ops.size/\Late ops k:=by
 simp only[Region.Kk,a6,decide_eq_true_eq,aI,aJ]at h;obtain⟨f,h⟩:=h;refine⟨f,λi o b hi j c=>?_,λi o b hi=>?_⟩
 ·have:=h i (Array.getElem?_eq_some_iff.1 b).1;rw[b]at this;simp only[a7,decide_eq_true_eq,a6,aI,aJ,aT,beq_iff_eq]at this
  rcases this with this|⟨g,_⟩
  ·omega
  ·exact List.contains_iff_mem.1 (g j c)
 ·have:=h i (Array.getElem?_eq_some_iff.1 b).1;rw[b]at this;simp only[a7,decide_eq_true_eq,a6,aI,aJ,aT,beq_iff_eq]at this
  rcases this with this|⟨_,d⟩
  ·omega
  ·rcases d with d|⟨e,l,c⟩
   ·omega
   ·exact⟨e,Array.mem_toList_iff.1 l,c⟩
def yB(p:tf ops){k:Nat}(v:Late ops k):∀(fuel m:Nat)(listed:Array Bool)(b:Act)(W:World),listed.size=ops.size->k<=m->m+fuel=ops.size->(∀j,j<ops.size->listed.getD j true=decide (j<m))->
 wpList P ops Q (ops.toList.drop m) b W->wpAny P .any ops Q fuel listed b W
 |0,m,listed,b,W,hs,A,B,hl,h=>by
  have e:ops.toList.drop m=[]:=List.drop_eq_nil_of_le (by simp;omega);rw[e]at h;refine⟨List.filter_eq_nil_iff.2 λi hi=>?_,h⟩;have hi:=List.mem_range.1 hi;rw[hl i hi];simp;omega
 |fuel+1,m,listed,b,W,hs,A,B,hl,h=>by
  have f:m<ops.size:=by omega
  have q:ops[m]?=some ops[m]:=bg f;have hd:ops.toList.drop m=ops[m]::ops.toList.drop (m+1):=by
   rw[List.drop_eq_getElem_cons (by simpa using f)];simp
  have w:m∈Region.ready .any ops listed:=by
   refine List.mem_filter.2 ⟨List.mem_range.2 f,?_⟩;rw[hl m f];simp only[Nat.lt_irrefl,decide_false,Bool.not_false,Bool.true_and,q,bq,br,bl];intro e g
   cases hb:bm .any e with
   |false=>rfl
   |true=>
    have x:=(p.edge m _ q e (cH.2 ⟨g,hb⟩)).1;have r:=hl e.on (by omega);have l:e.on<listed.size:=by omega
    simp[l]at r;simp[l,r,x]
  refine⟨λD=>(by rw[D]at w;cases w),λi hi=>?_⟩;have s:i=m:=by
   obtain⟨E,t⟩:=List.mem_filter.1 hi;have d:=List.mem_range.1 E;have c:ops[i]?=some ops[i]:=bg d;rw[c,hl i d]at t;simp only[a6,a8,decide_eq_false_iff_not,bq,br,bl]at t;obtain⟨r,l⟩:=t
   rcases aw m i with x|J
   ·obtain⟨e,g,F⟩:=v.one i _ c (by omega);have n:=l e (cH.1 g).1;rw[(p.edge i _ c e g).2]at n;have y:=hl e.on (by omega);have H:e.on<listed.size:=by omega
    simp[H]at n y;rw[y]at n;simp at n;omega
   ·omega
  subst s;rw[hd]at h;unfold wpOp;simp only[q];have next:∀b' o,wpList P ops Q (ops.toList.drop (i+1)) b' o->wpAny P .any ops Q fuel (listed.setIfInBounds i true) b' o:=λb' o I=>by
   refine yB p v fuel (i+1) _ b' o (by simpa using hs) (by omega) (by omega) (λj z=>?_) I;by_cases e:i=j
   ·subst e;simp[hs,z]
   ·have:(listed.setIfInBounds i true).getD j true=listed.getD j true:=by simp[bj e]
    rw[this,hl j z];congr 1;simp only[eq_iff_iff];omega
  rw[wpList]at h
  split
  ·rename_i u;rw[if_pos u]at h;exact h.imp (Oper.wp_mono next) id
  ·rename_i u;rw[if_neg u]at h;exact next _ _ h
end
end Go
