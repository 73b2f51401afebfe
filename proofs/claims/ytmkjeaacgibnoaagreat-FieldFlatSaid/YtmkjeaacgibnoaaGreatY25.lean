/- Part of the proof of FieldFlat and FieldMarshals. -/
import Derived.Test.YtmkjeaacgibnoaaGreatY24
import Derived.BigQuiet
import Derived.Deep.QuietTactic
set_option linter.all false
open List renaming range->aa,range_succ->ab,map_append->ac
open Go.Lib renaming hid->ad
open Go.Proofs.Tryz renaming func84->ae,ntmps84->ag,func90->ai,ntmps90->ao,results90->ap,func20->aq,ntmps20->ar,func134->aw,ntmps134->aB,func87->aF,ntmps87->aH
open Nat renaming zero_le->aI,not_lt_zero->aJ,le_refl->aL,lt_trans->aP,lt_of_lt_of_le->aT,add_zero->a5,le_succ->a6
open Go.RowKit.Below renaming heap_alloc->a7,refl->a8,trans->a9
open Go.Proofs.Below renaming on->ba
open Go.Value renaming bool->bb,int->bc
open Go.Instr renaming index->bd
open Int renaming mul_nonneg->bg,mul_add->bi,le_total->bj,neg_mul_neg->bl,mul_le_mul->bm
namespace Go.Proofs
open Go.RowKit
set_option maxRecDepth 100000
set_option maxHeartbeats 4000000
structure iJ where
 name:ByteArray
 n:Nat->Int
 lb:Option Addr
 ln:Nat
 lc:Nat
 lk:Nat
 lo:Nat
 lane:Nat->Int
def fy(a:Nat)(lane:Nat->Int)(j:Nat):Int:=if bO (lane j) 0 (a-1) then(if 0<j/\lane j<=lane (j-1) then 7 else 0) else 6
def gM(p:Int)(a b:Nat)(x:Nat->iJ)(i:Nat):Int:=
 if iH (x i).name ((aa i).map λj=>(x j).name)=0 then
  (if eK ((x i).n 1) ((x i).n 2) 1 90&&eK ((x i).n 3) ((x i).n 4) (-90) 90 then
    (if(x i).n 1<(x i).n 4\/(x i).n 1 < -(x i).n 3 then 10 else
      if bO ((x i).n 5) 0 (a-1)&&bO ((x i).n 6) 0 (p-1) then
       (if eK ((x i).n 7) ((x i).n 8) 1 60&&eK ((x i).n 9) ((x i).n 10) 0 60 then ia (x i).ln (fy b (x i).lane) else 1)
      else 6)
  else 1)
 else iH (x i).name ((aa i).map λj=>(x j).name)
def kA(p:Int)(a b n:Nat)(x:Nat->iJ):Int:=if bO n 2 5 then ia n (gM p a b x) else 2
def dI{p:Int}{a b n m:Nat}{x:Nat->iJ}{v:Int}(hb:bO n 2 5=true)(c:∀j,j<m->gM p a b x j=0)(d:m<n)(hf:gM p a b x m=v)(hv:v≠0):kA p a b n x=v:=by
 rw[kA,if_pos hb,eG c d (by rw[hf];exact hv),hf]
def afi{w:World}{k:Nat}{x0 x1 x2 x3 x4 b c d e f g a:Value}{t:TypeId}(h:w.heap[k]?=some (.cells #[x0,x1,x2,x3,x4,b,c,d,e,f,g,a] t)):w.cell? ⟨k,11,none⟩=some a:=by
 simp[World.cell?,h]
def Q7(l p:Int)(Z bq b:Option Addr)(M r n cs cq c k o:Nat)(x:Nat->iJ)(v5:Value)(w:World)(hn:n<=20)(Vb:M<=20)(Hr:r<=20)(J0:1<=p)(tL:p<=6)(F:k<w.heap.size)(hs:0<n->b=some ⟨k,o,none⟩)
 (uB:∀i,i<n->(x i).name.size<=100/\(x i).ln<=20) (h0:∀i,i<n->w.cell? ⟨k,o+i*12,none⟩=some (.string (x i).name)) (z:∀i,i<n->∀j,1<=j->j<=10->w.cell? ⟨k,o+i*12+j,none⟩=some (.int .i64 ((x i).n j)))
 (P:∀i,i<n->w.cell? ⟨k,o+i*12+11,none⟩=some (.slice (x i).lb (x i).ln (x i).lc)) (hl:∀i,i<n->0<(x i).ln->(x i).lb=some ⟨(x i).lk,(x i).lo,none⟩/\(x i).lk<w.heap.size)
 (Q:∀i,i<n->∀j,j<(x i).ln->w.cell? ⟨(x i).lk,(x i).lo+j,none⟩=some (.int .i64 ((x i).lane j))) :
 Calls PL 84 #[.agg #[.int .i64 l,.int .i64 p,.slice Z M cs,.slice bq r cq,.slice b n c,v5]] w (aO (.int .i64 (kA p M r n x)) w):=by
 have H0:=ad h0;have I:=ad z;have H11:=ad P;have HL:=ad hl;have HLC:=ad Q;have HS:=ad hs;have HN:=ad uB;clear h0 z P hl Q hs uB;by_cases hb:bO (↑n) 2 5=true
 ·have y:=ad hb;clear hb;have hmm:=@run_makeMap PL
  go_enter (fx (by decide) ae),ag
  go_wp2_with (go_at_call 78;refine(fN y.out _).mono ?_;rintro e w'⟨rfl,rfl⟩)
  go_loopw [20] (λi wr=>∃m:Nat,m<=n/\i=.int .i64 m/\(∀j,j<m->gM p M r x j=0)/\aU wr yo (w.heap.size+1) ((aa m).map (λj=>(x j).name))/\wr.heap[w.heap.size]?=some (.cells #[.int .i64 l,.int .i64 p,.slice Z M cs,.slice bq r cq,.slice b n c,v5] 121)/\Below w.heap.size w wr) (λi _=>n-(intOf i).toNat)
  case atStart=>
   refine⟨0,aI _,rfl,λj z=>absurd z (aJ _),?_,?_,?_⟩
   ·have:=aU.made (enc:=yo) (w.alloc (.cells #[.int .i64 l,.int .i64 p,.slice Z M cs,.slice bq r cq,.slice b n c,v5] 121));simpa using this
   ·rw[a7 _ _ _ (by simp),au]
   ·exact((a8 _ _).alloc (aL _) _).alloc (by simp) _
  case round=>
   obtain⟨m,hm,rfl,ha,hN,sW,D⟩:=hrel;have B:=ad ha;have HX:=ad sW;clear ha sW;by_cases d:m<n
   ·obtain rfl:=HS.out (by omega);have c0:=(D.cell (p:=⟨k,o+m*12,none⟩) F).trans (H0.out m d);have c1:=(D.cell (p:=⟨k,o+m*12+1,none⟩) F).trans (I.out m d 1 (by omega) (by omega));have c2:=(D.cell (p:=⟨k,o+m*12+2,none⟩) F).trans (I.out m d 2 (by omega) (by omega));have c3:=(D.cell (p:=⟨k,o+m*12+3,none⟩) F).trans (I.out m d 3 (by omega) (by omega));have c4:=(D.cell (p:=⟨k,o+m*12+4,none⟩) F).trans (I.out m d 4 (by omega) (by omega));have c5:=(D.cell (p:=⟨k,o+m*12+5,none⟩) F).trans (I.out m d 5 (by omega) (by omega));have c6:=(D.cell (p:=⟨k,o+m*12+6,none⟩) F).trans (I.out m d 6 (by omega) (by omega));have c7:=(D.cell (p:=⟨k,o+m*12+7,none⟩) F).trans (I.out m d 7 (by omega) (by omega));have c8:=(D.cell (p:=⟨k,o+m*12+8,none⟩) F).trans (I.out m d 8 (by omega) (by omega));have c9:=(D.cell (p:=⟨k,o+m*12+9,none⟩) F).trans (I.out m d 9 (by omega) (by omega));have c10:=(D.cell (p:=⟨k,o+m*12+10,none⟩) F).trans (I.out m d 10 (by omega) (by omega));have c11:=(D.cell (p:=⟨k,o+m*12+11,none⟩) F).trans (H11.out m d);have fW:=aU.lt hN;have J:w.heap.size<wr.heap.size:=by omega
    have bu:wr.heap.size≠w.heap.size+1:=by omega
    obtain⟨d0,d1,d2,d3,d4,d5⟩:=bf HX.out;have s:aU (wr.alloc (.cells #[.string (x m).name,.int .i64 ((x m).n 1),.int .i64 ((x m).n 2),.int .i64 ((x m).n 3),.int .i64 ((x m).n 4),.int .i64 ((x m).n 5),.int .i64 ((x m).n 6),.int .i64 ((x m).n 7),.int .i64 ((x m).n 8),.int .i64 ((x m).n 9),.int .i64 ((x m).n 10),.slice (x m).lb (x m).ln (x m).lc] 73)) yo (w.heap.size+1) ((aa m).map (λj=>(x j).name)):=aU.of_heap hN (a7 _ _ _ (by omega));have g:Below w.heap.size w (wr.alloc (.cells #[.string (x m).name,.int .i64 ((x m).n 1),.int .i64 ((x m).n 2),.int .i64 ((x m).n 3),.int .i64 ((x m).n 4),.int .i64 ((x m).n 5),.int .i64 ((x m).n 6),.int .i64 ((x m).n 7),.int .i64 ((x m).n 8),.int .i64 ((x m).n 9),.int .i64 ((x m).n 10),.slice (x m).lb (x m).ln (x m).lc] 73)):=D.alloc D.size _;have f:wr.heap.size<(wr.alloc (.cells #[.string (x m).name,.int .i64 ((x m).n 1),.int .i64 ((x m).n 2),.int .i64 ((x m).n 3),.int .i64 ((x m).n 4),.int .i64 ((x m).n 5),.int .i64 ((x m).n 6),.int .i64 ((x m).n 7),.int .i64 ((x m).n 8),.int .i64 ((x m).n 9),.int .i64 ((x m).n 10),.slice (x m).lb (x m).ln (x m).lc] 73)).heap.size:=by simp
    have C:w.heap.size<(wr.alloc (.cells #[.string (x m).name,.int .i64 ((x m).n 1),.int .i64 ((x m).n 2),.int .i64 ((x m).n 3),.int .i64 ((x m).n 4),.int .i64 ((x m).n 5),.int .i64 ((x m).n 6),.int .i64 ((x m).n 7),.int .i64 ((x m).n 8),.int .i64 ((x m).n 9),.int .i64 ((x m).n 10),.slice (x m).lb (x m).ln (x m).lc] 73)).heap.size:=by simp;omega
    have u:=ad ((a7 wr (.cells #[.string (x m).name,.int .i64 ((x m).n 1),.int .i64 ((x m).n 2),.int .i64 ((x m).n 3),.int .i64 ((x m).n 4),.int .i64 ((x m).n 5),.int .i64 ((x m).n 6),.int .i64 ((x m).n 7),.int .i64 ((x m).n 8),.int .i64 ((x m).n 9),.int .i64 ((x m).n 10),.slice (x m).lb (x m).ln (x m).lc] 73) _ J).trans HX.out);have A:=ad (au wr (.cells #[.string (x m).name,.int .i64 ((x m).n 1),.int .i64 ((x m).n 2),.int .i64 ((x m).n 3),.int .i64 ((x m).n 4),.int .i64 ((x m).n 5),.int .i64 ((x m).n 6),.int .i64 ((x m).n 7),.int .i64 ((x m).n 8),.int .i64 ((x m).n 9),.int .i64 ((x m).n 10),.slice (x m).lb (x m).ln (x m).lc] 73));have Va:=(HN.out m d).1;have Tl:=(HN.out m d).2;by_cases R:eK ((x m).n 3) ((x m).n 4) (-90) 90=true
    ·have N:=ad R;have Q8 : -90<=(x m).n 3/\(x m).n 3<=90:=by
      simp only[eK,Bool.and_eq_true,decide_eq_true_eq]at R;omega
     obtain⟨Q8,hr4⟩:=Q8;clear R
     go_wp2_with (first|(go_at_call 133;refine(wB (w.heap.size+1) _ _ _ s Va).mono ?_;rintro e w1⟨rfl,E,s⟩;obtain⟨K,L⟩:=J2 E;have g:=a9 g (E.below (by omega) g.size);have u:=ad ((E.block _ (aP J f) (by omega)).trans u.out);have A:=ad ((E.block _ f (by omega)).trans A.out);have f:=aT f E.size;have C:=aT C E.size)|(go_at_call 127;((with_reducible refine(Ek N.out _).mono ?_);rintro e w1⟨rfl,a⟩;obtain⟨K,L⟩:=cW a;have s:=aG a s;have g:=ba g a;have u:=ad ((a.block _ (aP J f)).trans u.out);have A:=ad ((a.block _ f).trans A.out);have f:=aT f a.size;have C:=aT C a.size))|(go_at_call 127;refine(nh _ _ _ _ _).mono ?_;rintro e w1⟨rfl,a⟩;obtain⟨K,L⟩:=cW a;have s:=aG a s;have g:=ba g a;have u:=ad ((a.block _ (aP J f)).trans u.out);have A:=ad ((a.block _ f).trans A.out);have f:=aT f a.size;have C:=aT C a.size)|(go_at_call 78;refine(bG _ _ _ _).mono ?_;rintro e w'⟨rfl,rfl⟩)|(go_at_call 131;refine(kQ _ _ _ _ _ _ _ _ J0 tL).mono ?_;rintro e w1⟨rfl,a⟩;obtain⟨K,L⟩:=cW a;have s:=aG a s;have g:=ba g a;have u:=ad ((a.block _ (aP J f)).trans u.out);have A:=ad ((a.block _ f).trans A.out);have f:=aT f a.size;have C:=aT C a.size))
     any_goals (
      go_ret
      refine⟨?_,g⟩;have hR:=N.out
      first
       |exact aC (dI (v:=iH (x m).name ((aa m).map λj=>(x j).name)) y.out B.out d (by simp_all [gM]) (by simp_all))
       |exact aC (dI (v:=1) y.out B.out d (by simp_all [gM]) (by decide))
       |exact aC (dI (v:=10) y.out B.out d (by simp_all [gM];try omega) (by decide))
       |exact aC (dI (v:=6) y.out B.out d (by simp_all [gM];try omega) (by decide))
       |exact aC (dI (v:=1) y.out B.out d (by simp_all [gM];try omega) (by decide)))
     have e1:iH (x m).name ((aa m).map λj=>(x j).name)=0:=by simp_all
     have S:gM p M r x m=ia (x m).ln (fy r (x m).lane):=by
      have hR:=N.out;simp only[gM];rw[if_pos e1,if_pos (by simp_all),if_neg (by simp_all;try omega),if_pos (by simp_all),if_pos (by simp_all)]
     rw[if_pos e1]at s;have T:=ad S;clear S e1;have J4:∀j,j<(x m).ln->w1.cell? ⟨(x m).lk,(x m).lo+j,none⟩=some (.int .i64 ((x m).lane j)):=λj z=>(g.cell (p:=⟨(x m).lk,(x m).lo+j,none⟩) (HL.out m d (by omega)).2).trans (HLC.out m d j z);have U:=ad J4;clear J4;obtain⟨X,e1,e2,e3,e4,e5⟩:=bf u.out;have e11:=afi A.out;clear K L;generalize bb (decide ((x m).n 1<(x m).n 4)||decide ((x m).n 1 < -(x m).n 3))=s42;generalize bb (decide ((x m).n 1<(x m).n 4))=s49;generalize bb (decide ((x m).n 1 < -(x m).n 3))=s58;generalize bb (bO ((x m).n 6) 0 (p-1))=s74;generalize bb (!eK ((x m).n 9) ((x m).n 10) 0 60)=s77;generalize bb (eK ((x m).n 9) ((x m).n 10) 0 60)=s85;generalize bc .i64 (iH (x m).name ((aa m).map λj=>(x j).name))=s6;by_cases hl0:0<(x m).ln
     ·have Y:=(HL.out m d hl0).1;rw[Y]at e11;rw[Y];have HLB:=ad Y;clear Y
      go_loop [91] (λi=>∃q:Nat,q<=(x m).ln/\i=.int .i64 q/\∀j,j<q->fy r (x m).lane j=0) (λi=>(x m).ln-(intOf i).toNat)
      case atStart=>exact⟨0,aI _,rfl,λj z=>absurd z (aJ _)⟩
      case round=>
       obtain⟨q,hq,rfl,V⟩:=hrel;have H:=ad V;clear V;by_cases O:q<(x m).ln
       ·have g0:=U.out q O;by_cases hq0:0<q
        ·have g1:=U.out (q-1) (by omega)
         go_wp2_with (go_at_call 78;refine(bG _ _ _ _).mono ?_;rintro e w'⟨rfl,rfl⟩)
         ·go_ret
          have W:fy r (x m).lane q=6:=by
           have t:(!bO ((x m).lane q) 0 (↑r-1))=true:=by assumption
           simp only[fy];rw[if_neg (by simpa using t)]
          exact⟨aC (dI (v:=6) y.out B.out d (T.out.trans ((eG H.out O (by rw[W];decide)).trans W)) (by decide)),g⟩
         ·go_ret
          have e7:fy r (x m).lane q=7:=by
           have t:(!bO ((x m).lane q) 0 (↑r-1))=false:=by assumption
           have t2:(x m).lane q<=(x m).lane (q-1):=by assumption
           simp only[fy];rw[if_pos (by simpa using t),if_pos ⟨hq0,t2⟩]
          exact⟨aC (dI (v:=7) y.out B.out d (T.out.trans ((eG H.out O (by rw[e7];decide)).trans e7)) (by decide)),g⟩
         ·have X:fy r (x m).lane q=0:=by
           have t:(!bO ((x m).lane q) 0 (↑r-1))=false:=by assumption
           have t2:(x m).lane (q-1)<(x m).lane q:=by assumption
           simp only[fy];rw[if_pos (by simpa using t),if_neg (by omega)]
          refine⟨⟨q+1,O,by go_num,λj z=>?_⟩,by simp[intOf];omega⟩
          rcases Nat.lt_succ_iff_lt_or_eq.1 z with h|h
          ·exact H.out j h
          ·rw[h];exact X
        ·obtain rfl:q=0:=by omega
         rw[a5]at g0
         go_wp2_with (go_at_call 78;refine(bG _ _ _ _).mono ?_;rintro e w'⟨rfl,rfl⟩)
         ·go_ret
          have W:fy r (x m).lane 0=6:=by
           have t:(!bO ((x m).lane 0) 0 (↑r-1))=true:=by assumption
           simp only[fy];rw[if_neg (by simpa using t)]
          exact⟨aC (dI (v:=6) y.out B.out d (T.out.trans ((eG H.out O (by rw[W];decide)).trans W)) (by decide)),g⟩
         ·have X:fy r (x m).lane 0=0:=by
           have t:(!bO ((x m).lane 0) 0 (↑r-1))=false:=by assumption
           simp only[fy];rw[if_pos (by simpa using t),if_neg (by omega)]
          refine⟨⟨1,O,by go_num,λj z=>?_⟩,by simp[intOf];omega⟩;obtain rfl:j=0:=by omega
          exact X
       ·obtain rfl:q=(x m).ln:=by omega
        go_wp2
        refine⟨⟨m+1,d,by go_num,λj z=>?_,?_,u.out,g⟩,by simp[intOf];omega⟩
        ·rcases Nat.lt_succ_iff_lt_or_eq.1 z with h|h
         ·exact B.out j h
         ·rw[h,T.out];exact cz H.out
        ·rw[ab,ac];exact s
     ·go_loop [91] (λi=>i=.int .i64 0) (λi=>1)
      case atStart=>rfl
      case round=>
       obtain rfl:=hrel;have hz:((x m).ln:Int)<=0:=by omega
       go_wp2
       refine⟨⟨m+1,d,by go_num,λj z=>?_,?_,u.out,g⟩,by simp[intOf];omega⟩
       ·rcases Nat.lt_succ_iff_lt_or_eq.1 z with h|h
        ·exact B.out j h
        ·rw[h,T.out];exact cz λj z=>absurd z (by omega)
       ·rw[ab,ac];exact s
    ·have N:=ad (aV R);clear R
     go_wp2_with (first|(go_at_call 133;refine(wB (w.heap.size+1) _ _ _ s Va).mono ?_;rintro e w1⟨rfl,E,s⟩;obtain⟨K,L⟩:=J2 E;have g:=a9 g (E.below (by omega) g.size);have u:=ad ((E.block _ (aP J f) (by omega)).trans u.out);have A:=ad ((E.block _ f (by omega)).trans A.out);have f:=aT f E.size;have C:=aT C E.size)|(go_at_call 127;((with_reducible refine(El N.out _).mono ?_);rintro e w1⟨rfl,a⟩;obtain⟨K,L⟩:=cW a;have s:=aG a s;have g:=ba g a;have u:=ad ((a.block _ (aP J f)).trans u.out);have A:=ad ((a.block _ f).trans A.out);have f:=aT f a.size;have C:=aT C a.size))|(go_at_call 127;refine(nh _ _ _ _ _).mono ?_;rintro e w1⟨rfl,a⟩;obtain⟨K,L⟩:=cW a;have s:=aG a s;have g:=ba g a;have u:=ad ((a.block _ (aP J f)).trans u.out);have A:=ad ((a.block _ f).trans A.out);have f:=aT f a.size;have C:=aT C a.size)|(go_at_call 78;refine(bG _ _ _ _).mono ?_;rintro e w'⟨rfl,rfl⟩)|(go_at_call 131;refine(kQ _ _ _ _ _ _ _ _ J0 tL).mono ?_;rintro e w1⟨rfl,a⟩;obtain⟨K,L⟩:=cW a;have s:=aG a s;have g:=ba g a;have u:=ad ((a.block _ (aP J f)).trans u.out);have A:=ad ((a.block _ f).trans A.out);have f:=aT f a.size;have C:=aT C a.size))
     any_goals (
      go_ret
      refine⟨?_,g⟩;have hR:=N.out
      first
       |exact aC (dI (v:=iH (x m).name ((aa m).map λj=>(x j).name)) y.out B.out d (by simp_all [gM]) (by simp_all))
       |exact aC (dI (v:=1) y.out B.out d (by simp_all [gM]) (by decide))
       |exact aC (dI (v:=10) y.out B.out d (by simp_all [gM];try omega) (by decide))
       |exact aC (dI (v:=6) y.out B.out d (by simp_all [gM];try omega) (by decide))
       |exact aC (dI (v:=1) y.out B.out d (by simp_all [gM];try omega) (by decide)))
   ·obtain rfl:m=n:=by omega
    go_wp2
    go_ret
    exact⟨by simp[kA,y.out,cz B.out],D⟩
 ·have y:=ad (aV hb);clear hb
  go_enter (fx (by decide) ae),ag
  go_wp2_with (go_at_call 78;refine(pZ y.out _).mono ?_;rintro e w'⟨rfl,rfl⟩)
  go_ret
  exact⟨by simp[kA,y.out],(a8 _ _).alloc (aL _) _⟩
structure CD where
 l:Int
 p:Int
 b2:Option Addr
 k2:Nat
 o2:Nat
 n2:Nat
 c2:Nat
 x2:Nat->Int×Int
 b3:Option Addr
 k3:Nat
 o3:Nat
 n3:Nat
 c3:Nat
 x3:Nat->Int×Int×Int
 b4:Option Addr
 k4:Nat
 o4:Nat
 n4:Nat
 c4:Nat
 x4:Nat->iJ
 b5:Option Addr
 k5:Nat
 o5:Nat
 n5:Nat
 c5:Nat
 x5:Nat->ByteArray×Int×Int
abbrev CD.val(C:CD):Array Value:=#[.int .i64 C.l,.int .i64 C.p,.slice C.b2 C.n2 C.c2,.slice C.b3 C.n3 C.c3,.slice C.b4 C.n4 C.c4,.slice C.b5 C.n5 C.c5]
structure CD.At(C:CD)(w:World):Prop where
 m2:C.n2<=20
 m3:C.n3<=20
 m4:C.n4<=20
 m5:C.n5<=20
 h2:C.k2<w.heap.size
 h3:C.k3<w.heap.size
 h4:C.k4<w.heap.size
 h5:C.k5<w.heap.size
 s2:0<C.n2->C.b2=some ⟨C.k2,C.o2,none⟩
 s3:0<C.n3->C.b3=some ⟨C.k3,C.o3,none⟩
 s4:0<C.n4->C.b4=some ⟨C.k4,C.o4,none⟩
 s5:0<C.n5->C.b5=some ⟨C.k5,C.o5,none⟩
 Ep:∀i,i<C.n2->w.cell? ⟨C.k2,C.o2+i*2,none⟩=some (.int .i64 (C.x2 i).1)
 Er:∀i,i<C.n2->w.cell? ⟨C.k2,C.o2+i*2+1,none⟩=some (.int .i64 (C.x2 i).2)
 Es:∀i,i<C.n3->w.cell? ⟨C.k3,C.o3+i*3,none⟩=some (.int .i64 (C.x3 i).1)
 Et:∀i,i<C.n3->w.cell? ⟨C.k3,C.o3+i*3+1,none⟩=some (.int .i64 (C.x3 i).2.1)
 Eu:∀i,i<C.n3->w.cell? ⟨C.k3,C.o3+i*3+2,none⟩=some (.int .i64 (C.x3 i).2.2)
 cu:∀i,i<C.n4->(C.x4 i).name.size<=100/\(C.x4 i).ln<=20
 AD:∀i,i<C.n4->w.cell? ⟨C.k4,C.o4+i*12,none⟩=some (.string (C.x4 i).name)
 dB:∀i,i<C.n4->∀j,1<=j->j<=10->w.cell? ⟨C.k4,C.o4+i*12+j,none⟩=some (.int .i64 ((C.x4 i).n j))
 nj:∀i,i<C.n4->w.cell? ⟨C.k4,C.o4+i*12+11,none⟩=some (.slice (C.x4 i).lb (C.x4 i).ln (C.x4 i).lc)
 l4:∀i,i<C.n4->0<(C.x4 i).ln->(C.x4 i).lb=some ⟨(C.x4 i).lk,(C.x4 i).lo,none⟩/\(C.x4 i).lk<w.heap.size
 J5:∀i,i<C.n4->∀j,j<(C.x4 i).ln->w.cell? ⟨(C.x4 i).lk,(C.x4 i).lo+j,none⟩=some (.int .i64 ((C.x4 i).lane j))
 nm5:∀i,i<C.n5->(C.x5 i).1.size<=100
 FI:∀i,i<C.n5->w.cell? ⟨C.k5,C.o5+i*3,none⟩=some (.string (C.x5 i).1)
 HU:∀i,i<C.n5->w.cell? ⟨C.k5,C.o5+i*3+1,none⟩=some (.int .i64 (C.x5 i).2.1)
 J6:∀i,i<C.n5->w.cell? ⟨C.k5,C.o5+i*3+2,none⟩=some (.int .i64 (C.x5 i).2.2)
def CD.At.below{C:CD}{w w':World}(h:C.At w)(a:Below w.heap.size w w'):C.At w':=by
 have s:=a.size;have e:∀o,w'.cell? ⟨C.k2,o,none⟩=w.cell? ⟨C.k2,o,none⟩:=λo=>a.cell (p:=⟨C.k2,o,none⟩) h.h2;have b:∀o,w'.cell? ⟨C.k3,o,none⟩=w.cell? ⟨C.k3,o,none⟩:=λo=>a.cell (p:=⟨C.k3,o,none⟩) h.h3;have c:∀o,w'.cell? ⟨C.k4,o,none⟩=w.cell? ⟨C.k4,o,none⟩:=λo=>a.cell (p:=⟨C.k4,o,none⟩) h.h4;have d:∀o,w'.cell? ⟨C.k5,o,none⟩=w.cell? ⟨C.k5,o,none⟩:=λo=>a.cell (p:=⟨C.k5,o,none⟩) h.h5;have k:=h;obtain⟨m2,m3,m4,m5,h2,h3,h4,h5,s2,s3,s4,s5,Ep,Er,Es,Et,Eu,cu,AD,dB,nj,l4,J5,nm5,FI,HU,J6⟩:=h
 exact⟨m2,m3,m4,m5,by omega,by omega,by omega,by omega,s2,s3,s4,s5,λi hi=>(e _).trans (Ep i hi),λi hi=>(e _).trans (Er i hi),λi hi=>(b _).trans (Es i hi),λi hi=>(b _).trans (Et i hi),λi hi=>(b _).trans (Eu i hi),cu,
  λi hi=>(c _).trans (AD i hi),λi hi j f h2=>(c _).trans (dB i hi j f h2),λi hi=>(c _).trans (nj i hi),λi hi hl=>⟨(l4 i hi hl).1,aT (l4 i hi hl).2 s⟩,
  λi hi j g=>(a.cell (p:=⟨(C.x4 i).lk,(C.x4 i).lo+j,none⟩) (l4 i hi (by omega)).2).trans (J5 i hi j g),nm5,λi hi=>(d _).trans (FI i hi),λi hi=>(d _).trans (HU i hi),λi hi=>(d _).trans (J6 i hi)⟩
def CD.dP(C:CD):Nat->Int
 |0=>jd C.l C.p
 |1=>pq C.n2 C.x2
 |2=>kz C.p C.n3 C.x3
 |3=>kA C.p C.n2 C.n3 C.n4 C.x4
 |_=>pE C.n4 C.n5 C.x5
def CD.cx(C:CD):Int:=ia 5 C.dP
def cK{l p:Int}(h:jd l p=0):1<=p/\p<=6:=by
 unfold jd at h
 split at h
 ·rename_i a;simp[bO]at a;omega
 ·cases h
def afm(C:CD)(w:World):Calls PL 81 #[.agg C.val] w (aO (.int .i64 (C.dP 0)) w):=Em _ _ _ _ _ _ _
def afn(C:CD)(w:World)(h:C.At w):Calls PL 82 #[.agg C.val] w (aO (.int .i64 (C.dP 1)) w):=Nb _ _ _ _ _ _ _ _ _ _ _ _ h.m2 h.h2 h.s2 h.Ep h.Er
def afo(C:CD)(w:World)(h:C.At w)(a:C.dP 0=0):Calls PL 83 #[.agg C.val] w (aO (.int .i64 (C.dP 2)) w):=
 Nf _ _ _ _ _ _ _ _ _ _ _ _ h.m3 (cK a).1 (cK a).2 h.h3 h.s3 h.Es h.Et h.Eu
def afp(C:CD)(w:World)(h:C.At w)(a:C.dP 0=0):Calls PL 84 #[.agg C.val] w (aO (.int .i64 (C.dP 3)) w):=
 Q7 _ _ _ _ _ _ _ _ _ _ _ _ _ _ _ _ h.m4 h.m2 h.m3 (cK a).1 (cK a).2 h.h4 h.s4 h.cu h.AD h.dB h.nj h.l4 h.J5
def afq(C:CD)(w:World)(h:C.At w):Calls PL 85 #[.agg C.val] w (aO (.int .i64 (C.dP 4)) w):=
 HQ _ _ _ _ _ _ _ _ _ _ _ _ _ _ h.m5 h.m4 h.h5 h.s5 h.nm5 h.FI h.HU h.J6
def yq(x0 x1 x2 x3 x4:Value)(w:World):(bd 123 (.agg #[x0,x1,x2,x3,x4]) (.int .i64 0)).run PL w=.ok x0 w/\(bd 123 (.agg #[x0,x1,x2,x3,x4]) (.int .i64 1)).run PL w=.ok x1 w/\(bd 123 (.agg #[x0,x1,x2,x3,x4]) (.int .i64 2)).run PL w=.ok x2 w/\(bd 123 (.agg #[x0,x1,x2,x3,x4]) (.int .i64 3)).run PL w=.ok x3 w/\(bd 123 (.agg #[x0,x1,x2,x3,x4]) (.int .i64 4)).run PL w=.ok x4 w:=
 ⟨by kernel_rfl,by kernel_rfl,by kernel_rfl,by kernel_rfl,by kernel_rfl⟩
def iv:Nat->Value|0=>.int .i64 0|1=>.int .i64 1|2=>.int .i64 2|3=>.int .i64 3|4=>.int .i64 4|_=>.int .i64 5
def cR{C:CD}{m:Nat}(a:∀j,j<m->C.dP j=0)(b:m<5)(hf:C.dP m≠0):C.cx=C.dP m:=eG a b hf
def uC(C:CD)(w:World)(h:C.At w):Calls PL 22 #[.agg C.val] w (aO (.int .i64 C.cx) w):=by
 have H:=ad h;clear h;have o:=λw x0 x1 x2 x3 x4=>(yq x0 x1 x2 x3 x4 w).1;have p:=λw x0 x1 x2 x3 x4=>(yq x0 x1 x2 x3 x4 w).2.1;have q:=λw x0 x1 x2 x3 x4=>(yq x0 x1 x2 x3 x4 w).2.2.1;have r:=λw x0 x1 x2 x3 x4=>(yq x0 x1 x2 x3 x4 w).2.2.2.1;have s:=λw x0 x1 x2 x3 x4=>(yq x0 x1 x2 x3 x4 w).2.2.2.2
 go_enter (fx (by decide) Tryz.func22),Tryz.ntmps22
 go_wp2
 go_loopw [20] (λi wr=>∃k:Nat,k<=5/\i=iv k/\(∀j,j<k->C.dP j=0)/\Below w.heap.size w wr) (λi _=>5-(intOf i).toNat)
 case atStart=>exact⟨0,by omega,rfl,λj d=>absurd d (aJ _),((a8 _ _).alloc (aL _) _).alloc (by simp) _⟩
 case round=>
  obtain⟨k,t,hi,l,c⟩:=hrel;have b:=ad l;clear l;have n:=H.out.below c;have g:=ad n;clear n;obtain rfl|rfl|rfl|rfl|rfl|rfl:k=0\/k=1\/k=2\/k=3\/k=4\/k=5:=by omega
  ·obtain rfl:_=bc .i64 0:=hi
   go_wp2_with (go_at_call 81;refine(afm C _).mono ?_;rintro e w1⟨rfl,a⟩)
   ·go_ret
    exact⟨aC (cR (m:=0) b.out (by omega) (by simp_all)),ba c a⟩
   ·have f:C.dP 0=0:=by simp_all
    exact⟨⟨1,by omega,rfl,λj d=>by
     rcases Nat.lt_succ_iff_lt_or_eq.1 d with h|h
     ·exact b.out j h
     ·rw[h];exact f,ba c a⟩,by simp[intOf]⟩
  ·obtain rfl:_=bc .i64 1:=hi
   go_wp2_with (go_at_call 82;refine(afn C _ g.out).mono ?_;rintro e w1⟨rfl,a⟩)
   ·go_ret
    exact⟨aC (cR (m:=1) b.out (by omega) (by simp_all)),ba c a⟩
   ·have f:C.dP 1=0:=by simp_all
    exact⟨⟨2,by omega,rfl,λj d=>by
     rcases Nat.lt_succ_iff_lt_or_eq.1 d with h|h
     ·exact b.out j h
     ·rw[h];exact f,ba c a⟩,by simp[intOf]⟩
  ·obtain rfl:_=bc .i64 2:=hi
   go_wp2_with (go_at_call 83;refine(afo C _ g.out (b.out 0 (by omega))).mono ?_;rintro e w1⟨rfl,a⟩)
   ·go_ret
    exact⟨aC (cR (m:=2) b.out (by omega) (by simp_all)),ba c a⟩
   ·have f:C.dP 2=0:=by simp_all
    exact⟨⟨3,by omega,rfl,λj d=>by
     rcases Nat.lt_succ_iff_lt_or_eq.1 d with h|h
     ·exact b.out j h
     ·rw[h];exact f,ba c a⟩,by simp[intOf]⟩
  ·obtain rfl:_=bc .i64 3:=hi
   go_wp2_with (go_at_call 84;refine(afp C _ g.out (b.out 0 (by omega))).mono ?_;rintro e w1⟨rfl,a⟩)
   ·go_ret
    exact⟨aC (cR (m:=3) b.out (by omega) (by simp_all)),ba c a⟩
   ·have f:C.dP 3=0:=by simp_all
    exact⟨⟨4,by omega,rfl,λj d=>by
     rcases Nat.lt_succ_iff_lt_or_eq.1 d with h|h
     ·exact b.out j h
     ·rw[h];exact f,ba c a⟩,by simp[intOf]⟩
  ·obtain rfl:_=bc .i64 4:=hi
   go_wp2_with (go_at_call 85;refine(afq C _ g.out).mono ?_;rintro e w1⟨rfl,a⟩)
   ·go_ret
    exact⟨aC (cR (m:=4) b.out (by omega) (by simp_all)),ba c a⟩
   ·have f:C.dP 4=0:=by simp_all
    exact⟨⟨5,by omega,rfl,λj d=>by
     rcases Nat.lt_succ_iff_lt_or_eq.1 d with h|h
     ·exact b.out j h
     ·rw[h];exact f,ba c a⟩,by simp[intOf]⟩
  ·obtain rfl:_=bc .i64 5:=hi
   go_wp2
   go_ret
   exact⟨aC (cz b.out),c⟩
def CD.zero:Array Value:=#[.int .i64 0,.int .i64 0,.slice none 0 0,.slice none 0 0,.slice none 0 0,.slice none 0 0]
def CD.b6(C:CD)(b:Bool):Int:=if C.cx=0 then(if b then 0 else 6) else C.cx
def CD.sX(C:CD)(b:Bool):Value:=.tuple #[.agg (if C.b6 b=0 then C.val else CD.zero),.int .i64 (C.b6 b)]
def Below.zQ{B:Nat}{a w:World}(h:Below B a w){k:Nat}(b:B<=k)(u0 u1 u2 u3 u4 u5:Value):Below B a ((((((w.setCell ⟨k,0,none⟩ u0).setCell ⟨k,1,none⟩ u1).setCell ⟨k,2,none⟩ u2).setCell ⟨k,3,none⟩ u3).setCell ⟨k,4,none⟩ u4).setCell ⟨k,5,none⟩ u5):=
 (((((h.setCell (p:=⟨k,0,none⟩) b u0).setCell (p:=⟨k,1,none⟩) b u1).setCell (p:=⟨k,2,none⟩) b u2).setCell (p:=⟨k,3,none⟩) b u3).setCell (p:=⟨k,4,none⟩) b u4).setCell (p:=⟨k,5,none⟩) b u5
def Ra{C:CD}{b:Bool}(h:C.cx≠0):C.sX b=.tuple #[.agg #[.int .i64 0,.int .i64 0,.slice none 0 0,.slice none 0 0,.slice none 0 0,.slice none 0 0],.int .i64 C.cx]:=by
 simp[CD.sX,CD.b6,h,CD.zero]
def Vd{C:CD}(h:C.cx=0):C.sX false=.tuple #[.agg #[.int .i64 0,.int .i64 0,.slice none 0 0,.slice none 0 0,.slice none 0 0,.slice none 0 0],.int .i64 6]:=by
 simp[CD.sX,CD.b6,h,CD.zero]
def Ve{C:CD}(h:C.cx=0):C.sX true=.tuple #[.agg C.val,.int .i64 0]:=by
 simp[CD.sX,CD.b6,h]
def sY{C:CD}{w:World}(h:C.cx=0)(k:C.At w):Calls PL 22 #[.agg C.val] w (aO (.int .i64 0) w):=by
 have:=uC C w k;rwa[h]at this
def Ev(C:CD)(b:Bool)(w:World)(h:C.At w):Calls PL 90 #[.agg C.val,.bool b] w (aO (C.sX b) w):=by
 have g:=λw1 k=>h.below (w':=w1) k;have f:=ad g;clear g h;by_cases hc:C.cx=0
 ·have c:=ad hc;clear hc;cases b
  ·rw[Vd c.out]
   go_enter (fx (by decide) ai),ao
   go_wp2_with (go_at_call 22;refine(sY c.out (f.out _ (((a8 _ _).alloc (aL _) _).alloc (by simp) _))).mono ?_;rintro e w1⟨rfl,a⟩;obtain⟨d,i⟩:=cW a;have j:w.heap.size+1<w1.heap.size:=by have:=a.size;simp at this;omega)
   refine bodyPost_ret (v:=.tuple #[.agg #[.int .i64 0,.int .i64 0,.slice none 0 0,.slice none 0 0,.slice none 0 0,.slice none 0 0],.int .i64 6]) ?_ rfl ⟨rfl,(Below.zQ ((((a8 _ _).alloc (aL _) _).alloc (by simp) _).trans (a.mono (by simp;omega))) (a6 _) _ _ _ _ _ _)⟩;simp[results,ap,go_sem,d]
  ·rw[Ve c.out]
   go_enter (fx (by decide) ai),ao
   go_wp2_with (go_at_call 22;refine(sY c.out (f.out _ (((a8 _ _).alloc (aL _) _).alloc (by simp) _))).mono ?_;rintro e w1⟨rfl,a⟩;obtain⟨d,i⟩:=cW a;have j:w.heap.size+1<w1.heap.size:=by have:=a.size;simp at this;omega)
   refine bodyPost_ret (v:=.tuple #[.agg C.val,.int .i64 0]) ?_ rfl ⟨rfl,(Below.zQ ((((a8 _ _).alloc (aL _) _).alloc (by simp) _).trans (a.mono (by simp;omega))) (a6 _) _ _ _ _ _ _)⟩;simp[results,ap,go_sem,d]
 ·have c:=ad hc;have l:(C.cx != 0)=true:=by simpa using hc
  clear hc;rw[Ra c.out]
  go_enter (fx (by decide) ai),ao
  go_wp2_with (go_at_call 22;refine(uC C _ (f.out _ (((a8 _ _).alloc (aL _) _).alloc (by simp) _))).mono ?_;rintro e w1⟨rfl,a⟩;obtain⟨d,i⟩:=cW a;have j:w.heap.size+1<w1.heap.size:=by have:=a.size;simp at this;omega)
  refine bodyPost_ret (v:=.tuple #[.agg #[.int .i64 0,.int .i64 0,.slice none 0 0,.slice none 0 0,.slice none 0 0,.slice none 0 0],.int .i64 C.cx]) ?_ rfl ⟨rfl,(Below.zQ ((((a8 _ _).alloc (aL _) _).alloc (by simp) _).trans (a.mono (by simp;omega))) (a6 _) _ _ _ _ _ _)⟩;simp[results,ap,go_sem,d]
def AE(C:CD)(n:Int)(w:World)(h:C.n4<=20):Calls PL 91 #[.agg C.val,.int .i64 n] w (aO (.bool (bO n 0 (C.n4-1))) w):=by
 go_enter (fx (by decide) Tryz.func91),Tryz.ntmps91
 go_wp2_with (go_at_call 78;refine(bG _ _ _ _).mono ?_;rintro e w'⟨rfl,rfl⟩)
 go_ret
 exact⟨rfl,(a8 _ _).alloc (aL _) _⟩
def lvl(s r:Int):Nat->Int
 |0=>0
 |k+1=>if((k:Int)+1)*(k+1) > s*s-r*r then lvl s r k else k+1
def AF{a:Int}(c : -90<=a)(d:a<=90):0<=a*a/\a*a<=8100:=by
 have h:=bg (a:=90-a) (b:=90+a) (by omega) (by omega);have e:(90-a)*(90+a)=8100-a*a:=by
  rw[Int.sub_mul,bi,bi,Int.mul_comm a 90];omega
 refine⟨?_,by omega⟩
 rcases bj 0 a with h|h
 ·exact bg h h
 ·have:=bg (a:=-a) (b:=-a) (by omega) (by omega);rwa[bl]at this
def AG(s:Nat)(r:Int)(w:World)(y:1<=s)(z:s<=90)(A : -s<=r)(g:r<=s):Calls PL 79 #[.int .i64 (s:Int),.int .i64 r] w λe w'=>e=.returned (.int .i64 (lvl s r s))/\w'=w:=by
 go_enter (fx (by decide) Tryz.func79),Tryz.ntmps79
 go_wp2
 go_loop [5] (λv=>∃k:Nat,k<=s/\v=.int .i64 k/\lvl s r s=lvl s r k) (λv=>(intOf v).toNat)
 case atStart=>exact⟨s,aL _,rfl,rfl⟩
 case round=>
  obtain⟨k,B,rfl,i⟩:=hrel;have f:=ad i;clear i;have l:=AF (a:=(k:Int)) (by omega) (by omega);have m:=AF (a:=(s:Int)) (by omega) (by omega);have n:=AF (a:=r) (by omega) (by omega);obtain⟨o,C⟩:=l;obtain⟨p,q⟩:=m;obtain⟨t,u⟩:=n;have hd:(∃k':Nat,k=k'+1)\/k=0:=by
   cases k with
   |zero=>exact .inr rfl
   |succ k'=>exact .inl ⟨k',rfl⟩
  go_wp2
  ·have j:(s:Int)*s-r*r<(k:Int)*k:=by assumption
   rcases hd with⟨k',rfl⟩|rfl
   ·refine⟨⟨k',by omega,by congr 1;omega,?_⟩,by simp[intOf]⟩;rw[f.out,lvl,if_pos (by simpa using j)]
   ·exfalso;have D:r*r<=(s:Int)*s:=by
     rcases bj 0 r with h|h
     ·exact bm g g h (by omega)
     ·have e:=bm (a:=-r) (b:=-r) (c:=s) (d:=s) (by omega) (by omega) (by omega) (by omega);rwa[bl]at e
    simp at j;omega
  ·have x:(k:Int)*k<=(s:Int)*s-r*r:=by assumption
   go_ret
   refine⟨?_,rfl⟩
   rcases hd with⟨k',rfl⟩|rfl
   ·rw[f.out,lvl,if_neg (by simp at x ⊢;omega)];rfl
   ·rw[f.out];rfl
def ie(s r:Int):Value:=if bO s 1 90&&bO r (-90) 90 then(if s<r\/s < -r then .tuple #[.int .i64 0,.int .i64 10] else .tuple #[.int .i64 (lvl s r s.toNat),.int .i64 0]) else .tuple #[.int .i64 0,.int .i64 1]
def uD(s r:Int)(w:World):Calls PL 20 #[.int .i64 s,.int .i64 r] w λe w'=>e=.returned (ie s r)/\w'=w:=by
 by_cases d:bO s 1 90=true
 ·have i:1<=s/\s<=90:=by simp[bO]at d;exact d
  obtain⟨j,o⟩:=i;have b:=ad d;clear d;by_cases f:bO r (-90) 90=true
  ·have k : -90<=r/\r<=90:=by simp[bO]at f;exact f
   obtain⟨l,m⟩:=k;have c:=ad f;clear f;obtain⟨n,rfl⟩:=Int.eq_ofNat_of_zero_le (a:=s) (by omega);by_cases g:(n:Int)<r
   ·go_enter (fx (by decide) aq),ar
    go_wp2_with (first|(go_at_call 78;((with_reducible refine(fN b.out _).mono ?_);rintro e w'⟨rfl,rfl⟩))|(go_at_call 78;refine(fN c.out _).mono ?_;rintro e w'⟨rfl,rfl⟩))
    go_ret2
    exact⟨by simp[ie,b.out,c.out,g],rfl⟩
   ·by_cases h:(n:Int) < -r
    ·go_enter (fx (by decide) aq),ar
     go_wp2_with (first|(go_at_call 78;((with_reducible refine(fN b.out _).mono ?_);rintro e w'⟨rfl,rfl⟩))|(go_at_call 78;refine(fN c.out _).mono ?_;rintro e w'⟨rfl,rfl⟩))
     go_ret2
     exact⟨by simp[ie,b.out,c.out,h],rfl⟩
    ·go_enter (fx (by decide) aq),ar
     go_wp2_with (first|(go_at_call 78;((with_reducible refine(fN b.out _).mono ?_);rintro e w'⟨rfl,rfl⟩))|(go_at_call 78;refine(fN c.out _).mono ?_;rintro e w'⟨rfl,rfl⟩)|(go_at_call 79;refine(AG _ _ _ (by omega) (by omega) (by omega) (by omega)).mono ?_;rintro e w'⟨rfl,rfl⟩))
     go_ret2
     exact⟨by simp[ie,b.out,c.out,g,h],rfl⟩
  ·have c:=ad (aV f);clear f
   go_enter (fx (by decide) aq),ar
   go_wp2_with (first|(go_at_call 78;((with_reducible refine(fN b.out _).mono ?_);rintro e w'⟨rfl,rfl⟩))|(go_at_call 78;refine(pZ c.out _).mono ?_;rintro e w'⟨rfl,rfl⟩))
   go_ret2
   exact⟨by simp[ie,b.out,c.out],rfl⟩
 ·have b:=ad (aV d);clear d
  go_enter (fx (by decide) aq),ar
  go_wp2_with (go_at_call 78;refine(pZ b.out _).mono ?_;rintro e w'⟨rfl,rfl⟩)
  go_ret2
  exact⟨by simp[ie,b.out],rfl⟩
def rJ(n a b:Int)(w:World):Calls PL 74 #[.int .i64 n,.int .i64 a,.int .i64 b] w λe w'=>e=.returned (.bool (bO n a b))/\w'=w:=by
 go_enter (fx (by decide) Tryz.func74),Tryz.ntmps74
 go_wp2
 all_goals (go_ret;simp[bO];try omega)
def yu(c:Nat)(w:World):Calls PL 158 #[.int .u8 c] w λe w'=>e=.returned (.bool (bO c 97 122))/\w'=w:=by
 go_enter (fx (by decide) Tryz.func158),Tryz.ntmps158
 go_wp2
 all_goals (go_ret;simp[bO];try omega)
def AH(c:Nat)(w:World):Calls PL 159 #[.int .u8 c] w λe w'=>e=.returned (.bool (bO c 48 57))/\w'=w:=by
 go_enter (fx (by decide) Tryz.func159),Tryz.ntmps159
 go_wp2
 all_goals (go_ret;simp[bO];try omega)
def kB(a b low c:Int)(w:World):Calls PL 86 #[.agg #[.int .i64 a,.int .i64 b],.int .i64 low,.int .i64 c] w (aO (.bool (eK a b low c)) w):=by
 go_enter (fx (by decide) Tryz.func86),Tryz.ntmps86
 go_wp2_with (go_at_call 74;refine(rJ _ _ _ _).mono ?_;rintro e w'⟨rfl,rfl⟩)
 all_goals (go_ret;refine⟨?_,(a8 _ _).alloc (aL _) _⟩;simp_all [eK,bO];try omega)
def AI(a b:Int)(w:World)(c : -90<=a)(d:a<=90):Calls PL 94 #[.agg #[.int .i64 a,.int .i64 b]] w (aO (.int .i64 (max b (-a))) w):=by
 go_enter (fx (by decide) Tryz.func94),Tryz.ntmps94
 go_wp2
 all_goals (go_ret;refine⟨aC (by omega),(a8 _ _).alloc (aL _) _⟩)
def Ew{c:Nat}(h:bO c 97 122=true)(w:World):Calls PL 158 #[.int .u8 c] w λe w'=>e=.returned (.bool true)/\w=w':=by
 have:=yu c w;rw[h]at this;exact this.mono λ_ _⟨a,b⟩=>⟨a,b.symm⟩
def yw{c:Nat}(h:bO c 97 122=false)(w:World):Calls PL 158 #[.int .u8 c] w λe w'=>e=.returned (.bool false)/\w=w':=by
 have:=yu c w;rw[h]at this;exact this.mono λ_ _⟨a,b⟩=>⟨a,b.symm⟩
def Vf{c:Nat}(h:bO c 48 57=true)(w:World):Calls PL 159 #[.int .u8 c] w λe w'=>e=.returned (.bool true)/\w=w':=by
 have:=AH c w;rw[h]at this;exact this.mono λ_ _⟨a,b⟩=>⟨a,b.symm⟩
def Vg{c:Nat}(h:bO c 48 57=false)(w:World):Calls PL 159 #[.int .u8 c] w λe w'=>e=.returned (.bool false)/\w=w':=by
 have:=AH c w;rw[h]at this;exact this.mono λ_ _⟨a,b⟩=>⟨a,b.symm⟩
def kH{n a b:Int}(h:bO n a b=true)(w:World):Calls PL 74 #[.int .i64 n,.int .i64 a,.int .i64 b] w λe w'=>e=.returned (.bool true)/\w=w':=by
 have:=rJ n a b w;rw[h]at this;exact this.mono λ_ _⟨a,b⟩=>⟨a,b.symm⟩
def vQ{n a b:Int}(h:bO n a b=false)(w:World):Calls PL 74 #[.int .i64 n,.int .i64 a,.int .i64 b] w λe w'=>e=.returned (.bool false)/\w=w':=by
 have:=rJ n a b w;rw[h]at this;exact this.mono λ_ _⟨a,b⟩=>⟨a,b.symm⟩
def AJ{s:ByteArray}{k:Nat}(h:k<s.size):jv s k=(s[k]'h).toNat:=by simp[jv,h]
def vv(s:ByteArray)(w:World)(hs:s.size<=100):Calls PL 134 #[.string s] w λe w'=>e=.returned (.bool (ku s))/\w=w':=by
 by_cases g:bO (↑s.size) 1 12=true
 ·have o:0<s.size:=by simp[bO]at g;omega
  have d:=ad g;clear g;by_cases n:bO ((s[0]'o).toNat:Int) 97 122=true
  ·have l:=ad n;clear n
   go_enter (fx (by decide) aw),aB
   go_wp2_with (first|(go_at_call 74;refine(kH d.out _).mono ?_;rintro e w'⟨rfl,rfl⟩)|(go_at_call 158;refine(Ew l.out _).mono ?_;rintro e w'⟨rfl,rfl⟩))
   go_loop [3] (λv=>∃k:Nat,k<=s.size/\v=.int .i64 k/\∀j,j<k->wA (jv s j) j=true) (λv=>s.size-(intOf v).toNat)
   case atStart=>exact⟨0,aI _,rfl,λj b=>absurd b (aJ _)⟩
   case round=>
    obtain⟨k,u,rfl,r⟩:=hrel;have p:=ad r;clear r;by_cases f:k<s.size
    ·have hb:=AJ f;have q:=ad hb;clear hb;by_cases hl:bO ((s[k]'f).toNat:Int) 97 122=true
     ·have c:=ad hl;clear hl
      go_wp2_with (go_at_call 158;refine(Ew c.out _).mono ?_;rintro e w'⟨rfl,rfl⟩)
      refine⟨⟨k+1,f,by go_num,λj b=>?_⟩,by simp[intOf];omega⟩
      rcases Nat.lt_succ_iff_lt_or_eq.1 b with h|h
      ·exact p.out j h
      ·rw[h,q.out];simp[wA,c.out]
     ·have c:=ad (aV hl);clear hl;have t:k≠0:=λe=>by
       subst e;have a:=c.out;rw[l.out]at a;cases a
      by_cases hd:bO ((s[k]'f).toNat:Int) 48 57=true
      ·have m:=ad hd;clear hd
       go_wp2_with (first|(go_at_call 158;refine(yw c.out _).mono ?_;rintro e w'⟨rfl,rfl⟩)|(go_at_call 159;refine(Vf m.out _).mono ?_;rintro e w'⟨rfl,rfl⟩))
       refine⟨⟨k+1,f,by go_num,λj b=>?_⟩,by simp[intOf];omega⟩
       rcases Nat.lt_succ_iff_lt_or_eq.1 b with h|h
       ·exact p.out j h
       ·rw[h,q.out];simp[wA,m.out,t]
      ·have m:=ad (aV hd);clear hd
       go_wp2_with (first|(go_at_call 158;refine(yw c.out _).mono ?_;rintro e w'⟨rfl,rfl⟩)|(go_at_call 159;refine(Vg m.out _).mono ?_;rintro e w'⟨rfl,rfl⟩))
       go_ret
       exact⟨by rw[qd f (by rw[q.out];simp[wA,c.out,m.out])];rfl,rfl⟩
    ·obtain rfl:k=s.size:=by omega
     go_wp2
     go_ret
     refine⟨?_,rfl⟩;have:((aa s.size).all λi=>wA (jv s i) i)=true:=by
      rw[List.all_eq_true];intro j b;exact p.out j (List.mem_range.1 b)
     simp[ku,this,d.out]
  ·have l:=ad (aV n);clear n
   go_enter (fx (by decide) aw),aB
   go_wp2_with (first|(go_at_call 74;refine(kH d.out _).mono ?_;rintro e w'⟨rfl,rfl⟩)|(go_at_call 158;refine(yw l.out _).mono ?_;rintro e w'⟨rfl,rfl⟩))
   go_ret
   exact⟨by rw[qd o (by rw[AJ o];simp[wA,l.out])];rfl,rfl⟩
 ·have d:=ad (aV g);clear g
  go_enter (fx (by decide) aw),aB
  go_wp2_with (go_at_call 74;refine(vQ d.out _).mono ?_;rintro e w'⟨rfl,rfl⟩)
  go_ret
  exact⟨by simp[ku,d.out],rfl⟩
def dr{B:Nat}{a w:World}(h:Below B a w)(n:Nat):Below B a (w.drewN n):=⟨h.os,h.tape,h.output,h.size,h.block⟩
def Vh(b:Option Addr)(k o n c m:Nat)(x:Nat->Int)(w:World)(D:n<=20)(E:m<=20)(t:0<n->k<w.heap.size)(hs:0<n->b=some ⟨k,o,none⟩)(u:∀i,i<n->w.cell? ⟨k,o+i,none⟩=some (.int .i64 (x i))) :
 Calls PL 45 #[.slice b n c,.int .i64 (m:Int)] w (aO (.int .i64 (ia n (fy m x))) w):=by
 have v:=ad u;have B:=ad hs;clear u hs
 go_enter (fx (by decide) Tryz.func45),Tryz.ntmps45
 go_wp2
 go_loopw [5] (λi wr=>∃q:Nat,q<=n/\i=.int .i64 q/\(∀j,j<q->fy m x j=0)/\Below w.heap.size w wr) (λi _=>n-(intOf i).toNat)
 case atStart=>exact⟨0,aI _,rfl,λj g=>absurd g (aJ _),a8 _ _⟩
 case round=>
  obtain⟨q,F,rfl,y,d⟩:=hrel;have l:=ad y;clear y;by_cases f:q<n
  ·obtain rfl:=B.out (by omega);have C:=(d.cell (p:=⟨k,o+q,none⟩) (t (by omega))).trans (v.out q f);by_cases hi:bO (x q) 0 (m-1)=true
   ·have a:=ad hi;clear hi;by_cases r:0<q
    ·have H:=(d.cell (p:=⟨k,o+(q-1),none⟩) (t (by omega))).trans (v.out (q-1) (by omega));have I:(0:Int)<q:=by omega
     have J:(q:Int)<n:=by omega
     have K:(q:Int)-1<n:=by omega
     have L:(0:Int)<=(q:Int)-1:=by omega
     go_wp2_with (go_at_call 74;refine(kH a.out _).mono ?_;rintro e w'⟨rfl,rfl⟩)
     go_quiet (fail)
     go_wp2
     ·have z:fy m x q=7:=by
       have t2:x q<=x (q-1):=by assumption
       simp only[fy];rw[if_pos a.out,if_pos ⟨r,t2⟩]
      go_ret
      exact⟨aC ((eG l.out f (by rw[z];decide)).trans z),dr d _⟩
     ·have s:fy m x q=0:=by
       have t2:x (q-1)<x q:=by assumption
       simp only[fy];rw[if_pos a.out,if_neg (by omega)]
      refine⟨⟨q+1,f,by go_num,λj g=>?_,dr d _⟩,by simp[intOf];omega⟩
      rcases Nat.lt_succ_iff_lt_or_eq.1 g with h|h
      ·exact l.out j h
      ·rw[h];exact s
    ·obtain rfl:q=0:=by omega
     rw[a5]at C
     go_wp2_with (go_at_call 74;refine(kH a.out _).mono ?_;rintro e w'⟨rfl,rfl⟩)
     go_quiet (fail)
     go_wp2
     have s:fy m x 0=0:=by
      simp only[fy];rw[if_pos a.out,if_neg (by omega)]
     refine⟨⟨1,f,by go_num,λj g=>?_,dr d _⟩,by simp[intOf];omega⟩;obtain rfl:j=0:=by omega
     exact s
   ·have a:=ad (aV hi);clear hi
    go_wp2_with (go_at_call 74;refine(vQ a.out _).mono ?_;rintro e w'⟨rfl,rfl⟩)
    have A:fy m x q=6:=by simp only[fy];rw[a.out];rfl
    go_ret
    exact⟨aC ((eG l.out f (by rw[A];decide)).trans A),d⟩
  ·obtain rfl:q=n:=by omega
   go_wp2
   go_ret
   exact⟨aC (cz l.out),d⟩
def Ex{a b c d:Int}:eB a b=eB c d↔(a=c/\b=d)\/(a=d/\b=c):=by
 simp only[eB,Prod.mk.injEq];omega
def aao{w:World}{k:Nat}{x0 x1 x2:Value}{t:TypeId}(h:w.heap[k]?=some (.cells #[x0,x1,x2] t)):w.cell? ⟨k,0,none⟩=some x0/\w.cell? ⟨k,1,none⟩=some x1/\w.cell? ⟨k,2,none⟩=some x2:=by
 simp[World.cell?,h]
def getElem?_lt'{b:Type}{a:Array b}{i:Nat}{x:b}(h:a[i]?=some x):i<a.size:=(Array.getElem?_eq_some_iff.1 h).1
def Ic(l p:Int)(b:Option Addr)(k o n c:Nat)(x:Nat->Int×Int×Int)(v2 J v5:Value)(w:World)(hn:n<=20)(J0:1<=p)(tL:p<=6)(t:k<w.heap.size)(hs:0<n->b=some ⟨k,o,none⟩)
 (P:∀i,i<n->w.cell? ⟨k,o+i*3,none⟩=some (.int .i64 (x i).1)) (C:∀i,i<n->w.cell? ⟨k,o+i*3+1,none⟩=some (.int .i64 (x i).2.1)) (D:∀i,i<n->w.cell? ⟨k,o+i*3+2,none⟩=some (.int .i64 (x i).2.2)) :
 Calls PL 87 #[.agg #[.int .i64 l,.int .i64 p,v2,.slice b n c,J,v5]] w (aO (.int .i64 (kz p n x)) w):=by
 have Q:=ad P;have R:=ad C;have S:=ad D;have HS:=ad hs;clear P C D hs;by_cases hb:9<n
 ·go_enter (fx (by decide) aF),aH
  go_wp2
  go_ret
  exact⟨by simp[kz,hb],(a8 _ _).alloc (aL _) _⟩
 ·go_enter (fx (by decide) aF),aH
  go_wp2
  go_loopw [3] (λi wr=>∃m:Nat,m<=n/\i=.int .i64 m/\(∀j,j<m->fQ p x j=0)/\wr.heap[w.heap.size]?=some (.cells #[.int .i64 l,.int .i64 p,v2,.slice b n c,J,v5] 27)/\Below w.heap.size w wr) (λi _=>n-(intOf i).toNat)
  case atStart=>exact⟨0,aI _,rfl,λj r=>absurd r (aJ _),au _ _,(a8 _ _).alloc (aL _) _⟩
  case round=>
   obtain⟨m,T,rfl,U,V,u⟩:=hrel;have s:=ad U;have K:=ad V;clear U V;obtain⟨y,rfl⟩:∃y:World,y=wr:=⟨_,rfl⟩
   obtain⟨d0,d1,d2,d3,d4,d5⟩:=bf K.out;have mF:w.heap.size<y.heap.size:=getElem?_lt' K.out;by_cases f:m<n
   ·obtain rfl:=HS.out (by omega);have c0:=(u.cell (p:=⟨k,o+m*3,none⟩) t).trans (Q.out m f);have c1:=(u.cell (p:=⟨k,o+m*3+1,none⟩) t).trans (R.out m f);have c2:=(u.cell (p:=⟨k,o+m*3+2,none⟩) t).trans (S.out m f);have B:Below w.heap.size w (y.alloc (.cells #[.int .i64 (x m).1,.int .i64 (x m).2.1,.int .i64 (x m).2.2] 79)):=u.alloc u.size _;by_cases F:bO (x m).1 0 (p-1)=true
    ·have a:=ad F;clear F;by_cases H:bO (x m).2.1 0 (p-1)=true
     ·have d:=ad H;clear H;by_cases z:(x m).1=(x m).2.1
      ·have E:=ad z;have Xo:((x m).1==(x m).2.1)=true:=by simpa using z
       clear z
       go_wp2_with (first|(go_at_call 74;((with_reducible refine(kH a.out _).mono ?_);rintro e w'⟨rfl,rfl⟩))|(go_at_call 74;((with_reducible refine(kH d.out _).mono ?_);rintro e w'⟨rfl,rfl⟩)))
       go_ret
       exact⟨aC (dh (v:=8) hb s.out f (by simp[fQ,a.out,d.out,E.out]) (by decide)),B⟩
      ·have E:=ad z;have Xo:((x m).1==(x m).2.1)=false:=by simpa using z
       clear z;by_cases I:bO (x m).2.2 1 999=true
       ·have A:=ad I;clear I
        go_wp2_with (first|(go_at_call 74;((with_reducible refine(kH a.out _).mono ?_);rintro e w'⟨rfl,rfl⟩))|(go_at_call 74;((with_reducible refine(kH d.out _).mono ?_);rintro e w'⟨rfl,rfl⟩))|(go_at_call 74;((with_reducible refine(kH A.out _).mono ?_);rintro e w'⟨rfl,rfl⟩)))
        go_loopw [5] (λi L=>∃q:Nat,q<=m/\i=.int .i64 q/\(∀j,j<q->eB (x j).1 (x j).2.1≠eB (x m).1 (x m).2.1)/\L.heap[w.heap.size]?=some (.cells #[.int .i64 l,.int .i64 p,v2,.slice (some ⟨k,o,none⟩) n c,J,v5] 27)/\L.heap[y.heap.size]?=some (.cells #[.int .i64 (x m).1,.int .i64 (x m).2.1,.int .i64 (x m).2.2] 79)/\Below w.heap.size w L) (λi _=>m-(intOf i).toNat)
        case atStart=>exact⟨0,aI _,rfl,λj r=>absurd r (aJ _),(a7 _ _ _ mF).trans K.out,au _ _,B⟩
        case round=>
         obtain⟨q,hq,rfl,W,X,Y,g⟩:=hrel;have Z:=ad W;have M:=ad X;have N:=ad Y;clear W X Y;obtain⟨f0,f1,f2,f3,f4,f5⟩:=bf M.out;obtain⟨g0,g1,g2⟩:=aao N.out;have dx:y.heap.size<wr.heap.size:=getElem?_lt' N.out;have wD:w.heap.size<wr.heap.size:=by omega
         by_cases qN:q<m
         ·have k0:=(g.cell (p:=⟨k,o+q*3,none⟩) t).trans (Q.out q (by omega));have k1:=(g.cell (p:=⟨k,o+q*3+1,none⟩) t).trans (R.out q (by omega));have k2:=(g.cell (p:=⟨k,o+q*3+2,none⟩) t).trans (S.out q (by omega));have i2:(q:Int)<n:=by omega
          go_wp2
          any_goals (
           go_ret
           have O:eB (x q).1 (x q).2.1=eB (x m).1 (x m).2.1:=Ex.2 (by simp_all);have nt:eB (x m).1 (x m).2.1∈(aa m).map (λj=>eB (x j).1 (x j).2.1):=List.mem_map.2 ⟨q,List.mem_range.2 qN,O⟩
           exact⟨aC (dh (v:=5) hb s.out f (by simp only[fQ];rw[a.out,d.out,A.out,if_neg E.out,if_pos nt];rfl) (by decide)),g.alloc g.size _⟩)
          all_goals (
           have O:eB (x q).1 (x q).2.1≠eB (x m).1 (x m).2.1:=λe=>by
            have e2:=Ex.1 e;have e3:=E.out
            simp_all
           refine⟨⟨q+1,qN,by go_num,λj r=>?_,(a7 _ _ _ wD).trans M.out,(a7 _ _ _ dx).trans N.out,g.alloc g.size _⟩,by simp[intOf];omega⟩
           rcases Nat.lt_succ_iff_lt_or_eq.1 r with h|h
           ·exact Z.out j h
           ·rw[h];exact O)
         ·obtain rfl:q=m:=by omega
          go_wp2
          refine⟨⟨q+1,f,by go_num,λj r=>?_,M.out,g⟩,by simp[intOf];omega⟩
          rcases Nat.lt_succ_iff_lt_or_eq.1 r with h|h
          ·exact s.out j h
          ·have uB:eB (x q).1 (x q).2.1∉(aa q).map (λj=>eB (x j).1 (x j).2.1):=λT=>by
            obtain⟨j,C,D⟩:=List.mem_map.1 T;exact Z.out j (List.mem_range.1 C) D
           rw[h];simp only[fQ];rw[a.out,d.out,A.out,if_neg E.out,if_neg uB];rfl
       ·have A:=ad (aV I);clear I
        go_wp2_with (first|(go_at_call 74;((with_reducible refine(kH a.out _).mono ?_);rintro e w'⟨rfl,rfl⟩))|(go_at_call 74;((with_reducible refine(kH d.out _).mono ?_);rintro e w'⟨rfl,rfl⟩))|(go_at_call 74;((with_reducible refine(vQ A.out _).mono ?_);rintro e w'⟨rfl,rfl⟩)))
        go_ret
        exact⟨aC (dh (v:=1) hb s.out f (by simp[fQ,a.out,d.out,E.out,A.out]) (by decide)),B⟩
     ·have d:=ad (aV H);clear H
      go_wp2_with (first|(go_at_call 74;((with_reducible refine(kH a.out _).mono ?_);rintro e w'⟨rfl,rfl⟩))|(go_at_call 74;((with_reducible refine(vQ d.out _).mono ?_);rintro e w'⟨rfl,rfl⟩)))
      go_ret
      exact⟨aC (dh (v:=6) hb s.out f (by simp[fQ,a.out,d.out]) (by decide)),B⟩
    ·have a:=ad (aV F);clear F
     go_wp2_with (first|(go_at_call 74;((with_reducible refine(vQ a.out _).mono ?_);rintro e w'⟨rfl,rfl⟩)))
     go_ret
     exact⟨aC (dh (v:=6) hb s.out f (by simp[fQ,a.out]) (by decide)),B⟩
   ·obtain rfl:m=n:=by omega
    go_wp2
    go_ret
    exact⟨aC (by rw[kz,if_neg hb];exact cz s.out),u⟩
end Go.Proofs
