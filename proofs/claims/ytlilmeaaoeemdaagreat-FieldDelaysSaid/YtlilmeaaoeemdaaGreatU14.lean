/- Part of the proof of FieldDelays. -/
import Derived.Test.YtlilmeaaoeemdaaGreatU13
import Derived.Deep.CutRange
import Derived.Deep.RegionHeld3
import Derived.Deep.RegionWith
import Derived.LoopIn
import Derived.LoopNIn
import Derived.Orders
import Derived.OwnWalkIn
import Derived.RangeFuncBound
import Derived.RangeFuncCalls
import Derived.RangeFuncFrom
import Derived.RangeFuncLeaves
import Derived.RangeFuncNested
import Derived.Shelf.Abstract
import Derived.Shelf.RegionOpen
import Derived.Tactics
import Derived.Tactics2
import Derived.TacticsInMore
set_option linter.all false
open Go renaming TypeId->aa,Program->ab,yielded->ac,execOp->ad,execOp_congr->ae,wpList->ag,cell_kept->ai,frozen_kept->ao,grownBy_putObj'->ap
open Go.World renaming cell?->aq,cell?_setCell_other->ar,cell?_setCell_same'->aw,frozen?_setCell->aI,size_alloc->aJ
open Go.Proofs renaming getElem?_lt'->aL
open Go.Proofs.Below renaming on->aP,zQ->aS
open Go.Lib renaming hid->aT
open Go.Proofs.Tryz renaming func39->ba,ntmps39->bb,func13->bc,ntmps13->bd,func12->bg,ntmps12->bi,func65->bm,results16->bo
open Nat renaming zero_le->bp,not_lt_zero->bq,le_refl->br,lt_of_lt_of_le->bs,lt_or_ge->bt,strongRecOn->bu,add_assoc->bv,succ_mul->bw,reduceAdd->bx,reduceSub->bA,le_succ->bC
open Go.RowKit.Below renaming refl->bL
open List renaming range->bM,all_eq_true->bR,mem_range->bT,mem_cons_of_mem->bX,mem_cons_self->b1,any_eq_true->b8,mem_append_left->b9,cons_append->ca,range_add->cb,countP_congr->cc,countP_cons->cd,length_nil->ce,length_cons->cf,range_succ->cg,length_append->ch,append_assoc->ci,size_toArray->cl,push_toArray->cm,append_toArray->co,nil_append->cp,foldl_append->cq,foldl_cons->ct,foldl_nil->cv
open Bool renaming and_eq_true->cB,or_eq_true->cC,not_eq_true'->cQ,rec->da,not_false->db,true_and->dd
open Array renaming getElem?_eq_none->de,getElem?_eq_getElem->df,getD_eq_getD_getElem?->di,getElem?_setIfInBounds_ne->dj,all_eq_true'->dk,replicate->dl,replicate_succ->dp,replicate_zero->dq
open Go.Region renaming binds->dt,wanted->du,ready->dv
open Option renaming bind_some->dy,map_some->dC,getD_some->dK
open Go.Code renaming region->dL
open Go.KeepsOthers renaming setCell->dO
namespace Go.Proofs
open Go.RowKit
set_option maxRecDepth 100000
set_option maxHeartbeats 4000000
def Ey{a b low c:Int}(h:eK a b low c=true)(w:World):Calls PL 37 #[.agg #[.int .i64 a,.int .i64 b],.int .i64 low,.int .i64 c] w (aO (.bool true) w):=by
 have:=kB a b low c w;rwa[h]at this
def Ez{a b low c:Int}(h:eK a b low c=false)(w:World):Calls PL 37 #[.agg #[.int .i64 a,.int .i64 b],.int .i64 low,.int .i64 c] w (aO (.bool false) w):=by
 have:=kB a b low c w;rwa[h]at this
def Vi(n a b:Int)(w:World):Calls PL 36 #[.int .i64 n,.int .i64 a,.int .i64 b] w λe w'=>e=.returned (.bool (bO n a b))/\w=w':=(rJ n a b w).mono λ_ _⟨a,b⟩=>⟨a,b.symm⟩
def gx{w:World}{k:Nat}{x0 x1 x2 x3 x4 a b c d e f g:Value}{t:aa}(h:w.heap[k]?=some (.cells #[x0,x1,x2,x3,x4,a,b,c,d,e,f,g] t)) :
 w.cell? ⟨k,0,none⟩=some x0/\w.cell? ⟨k,1,none⟩=some x1/\w.cell? ⟨k,2,none⟩=some x2/\w.cell? ⟨k,3,none⟩=some x3/\w.cell? ⟨k,4,none⟩=some x4/\w.cell? ⟨k,5,none⟩=some a/\w.cell? ⟨k,6,none⟩=some b/\w.cell? ⟨k,7,none⟩=some c/\w.cell? ⟨k,8,none⟩=some d/\w.cell? ⟨k,9,none⟩=some e/\w.cell? ⟨k,10,none⟩=some f/\w.cell? ⟨k,11,none⟩=some g:=by
 simp[aq,h]
def aap{w:World}{k:Nat}{x0 x1 x2 x3 x4 a b c d e f g:Value}{t:aa}(h:w.heap[k]?=some (.cells #[x0,x1,x2,x3,x4,a,b,c,d,e,f,g] t)):w.cell? ⟨k,0,none⟩=some x0:=(gx h).1
def Xq{w W:World}{x0 x1 x2 x3 x4 a c d e f g i:Value}{B:Array Value}{t u:aa}(h:W.heap[w.heap.size+1]?=some (.cells #[x0,x1,x2,x3,x4,a,c,d,e,f,g,i] t))(k:W.heap[w.heap.size]?=some (.cells B u))(b:Below w.heap.size w W) :
 W.cell? ⟨w.heap.size+1,1,none⟩=some x1/\W.cell? ⟨w.heap.size+1,3,none⟩=some x3/\W.cell? ⟨w.heap.size+1,4,none⟩=some x4/\(W.heap[w.heap.size]?=some (.cells B u)/\W.heap[w.heap.size+1]?=some (.cells #[x0,x1,x2,x3,x4,a,c,d,e,f,g,i] t)/\Below w.heap.size w W):=
 ⟨(gx h).2.1,(gx h).2.2.2.1,(gx h).2.2.2.2.1,k,h,b⟩
def aaq{w W a:World}{x0 x1 x2 x3 x4 d e f g i j l:Value}{B:Array Value}{t u:aa}(m:W.cell? ⟨w.heap.size+1,1,none⟩=some x1)(n:W.cell? ⟨w.heap.size+1,3,none⟩=some x3)(o:W.cell? ⟨w.heap.size+1,4,none⟩=some x4)(k:W.heap[w.heap.size]?=some (.cells B u))(h:W.heap[w.heap.size+1]?=some (.cells #[x0,x1,x2,x3,x4,d,e,f,g,i,j,l] t))(b:Below w.heap.size w W)(c:Below W.heap.size W a) :
 a.cell? ⟨w.heap.size+1,1,none⟩=some x1/\a.cell? ⟨w.heap.size+1,3,none⟩=some x3/\a.cell? ⟨w.heap.size+1,4,none⟩=some x4/\(a.heap[w.heap.size]?=some (.cells B u)/\a.heap[w.heap.size+1]?=some (.cells #[x0,x1,x2,x3,x4,d,e,f,g,i,j,l] t)/\Below w.heap.size w a):=
 Xq ((c.block _ (aL h)).trans h) ((c.block _ (aL k)).trans k) (aP b c)
def ED(C:CD)(m:Nat)(w:World)(h:C.At w)(b:m<C.n4)(J0:1<=C.p)(u:C.p<=6):Calls PL 39 #[.agg C.val,.int .i64 (m:Int)] w (aO (.int .i64 (gM C.p C.n2 C.n3 C.x4 m)) w):=by
 have H:=aT h;have c0:=h.AD m b;have c1:=h.dB m b 1 (by omega) (by omega);have c2:=h.dB m b 2 (by omega) (by omega);have c3:=h.dB m b 3 (by omega) (by omega);have c4:=h.dB m b 4 (by omega) (by omega);have c5:=h.dB m b 5 (by omega) (by omega);have c6:=h.dB m b 6 (by omega) (by omega);have c7:=h.dB m b 7 (by omega) (by omega);have c8:=h.dB m b 8 (by omega) (by omega);have c9:=h.dB m b 9 (by omega) (by omega);have V:=h.dB m b 10 (by omega) (by omega);have X:=h.nj m b;have s4:=h.s4 (by omega);have h4:=h.h4;have Y:=(h.cu m b).1;have Tl:=(h.cu m b).2;have m4:=h.m4;have m2:=h.m2;have m3:=h.m3;clear h;obtain⟨l,p,J,k2,o2,v,K,x2,L,k3,o3,M,N,x3,b4,z,A,o,O,x4,P,k5,o5,Q,R,x5⟩:=C;simp only at c0 c1 c2 c3 c4 c5 c6 c7 c8 c9 V X s4 h4 Y Tl m4 m2 m3 b J0 u ⊢;subst s4;have hmi:(m:Int)<o:=by omega
 by_cases x:ku (x4 m).name=true
 ·have y:=aT x;clear x
  go_enter (fx (by decide) ba),bb
  go_wp2_with (go_at_call 62;refine(J9 y.out _ Y).mono ?_;rintro e w'⟨rfl,rfl⟩)
  go_loopw [6] (λi wr=>∃q:Nat,q<=m/\i=.int .i64 q/\(∀j,j<q->(x4 j).name≠(x4 m).name)/\wr.heap[w.heap.size]?=some (.cells #[.int .i64 l,.int .i64 p,.slice J v K,.slice L M N,.slice (some ⟨z,A,none⟩) o O,.slice P Q R] 27)/\wr.heap[w.heap.size+1]?=some (.cells #[.string (x4 m).name,.int .i64 ((x4 m).n 1),.int .i64 ((x4 m).n 2),.int .i64 ((x4 m).n 3),.int .i64 ((x4 m).n 4),.int .i64 ((x4 m).n 5),.int .i64 ((x4 m).n 6),.int .i64 ((x4 m).n 7),.int .i64 ((x4 m).n 8),.int .i64 ((x4 m).n 9),.int .i64 ((x4 m).n 10),.slice (x4 m).lb (x4 m).ln (x4 m).lc] 85)/\Below w.heap.size w wr) (λi _=>m-(intOf i).toNat)
  case atStart=>
   refine⟨0,bp _,rfl,λj Z=>absurd Z (bq _),(Below.heap_alloc _ _ _ (by simp)).trans (au _ _),?_,((bL _ _).alloc (br _) _).alloc (by simp) _⟩;have:=au (w.alloc (.cells #[.int .i64 l,.int .i64 p,.slice J v K,.slice L M N,.slice (some ⟨z,A,none⟩) o O,.slice P Q R] 27)) (.cells #[.string (x4 m).name,.int .i64 ((x4 m).n 1),.int .i64 ((x4 m).n 2),.int .i64 ((x4 m).n 3),.int .i64 ((x4 m).n 4),.int .i64 ((x4 m).n 5),.int .i64 ((x4 m).n 6),.int .i64 ((x4 m).n 7),.int .i64 ((x4 m).n 8),.int .i64 ((x4 m).n 9),.int .i64 ((x4 m).n 10),.slice (x4 m).lb (x4 m).ln (x4 m).lc] 85);simpa using this
  case round=>
   obtain⟨q,hq,rfl,vw,jM,NU,S⟩:=hrel;have HJ:=aT vw;have Ce:=aT jM;have B:=aT NU;clear vw jM NU;obtain⟨f0,f1,f2,f3,f4,f5⟩:=bf Ce.out;have g0:=aap B.out;by_cases qN:q<m
   ·have k0:=(S.cell (p:=⟨z,A+q*12,none⟩) h4).trans (H.out.AD q (by show q<o;omega));simp only at k0;have i2:(q:Int)<o:=by omega
    go_wp2
    go_quiet (fail)
    go_wp2
    ·have he:(x4 q).name=(x4 m).name:=by
      have t:((x4 q).name.toList==(x4 m).name.toList)=true:=by assumption
      rw[sZ]at t;simpa using t
     have nt:(x4 m).name∈(bM m).map (λj=>(x4 j).name):=List.mem_map.2 ⟨q,List.mem_range.2 qN,he⟩
     go_ret
     exact⟨aC (by simp[gM,iH,y.out,nt]),dr S _⟩
    ·have he:(x4 q).name≠(x4 m).name:=by
      have t:((x4 q).name.toList==(x4 m).name.toList)=false:=by assumption
      rw[sZ]at t;simpa using t
     refine⟨⟨q+1,qN,by go_num,λj Z=>?_,Ce.out,B.out,dr S _⟩,by simp[intOf];omega⟩
     rcases Nat.lt_succ_iff_lt_or_eq.1 Z with h|h
     ·exact HJ.out j h
     ·rw[h];exact he
   ·obtain rfl:q=m:=by omega
    have DR:iH (x4 q).name ((bM q).map λj=>(x4 j).name)=0:=by
     have x:(x4 q).name∉(bM q).map (λj=>(x4 j).name):=λb=>by
      obtain⟨j,h1,h2⟩:=List.mem_map.1 b;exact HJ.out j (List.mem_range.1 h1) h2
     simp only[iH];rw[if_pos y.out,if_neg x]
    have Xp:=aT DR;clear DR;obtain⟨T,rfl⟩:∃T:World,T=wr:=⟨_,rfl⟩
    have c:=S;have g:=Ce;have k:=B;have d:w.heap.size+1<T.heap.size:=aL B.out;have f:w.heap.size<T.heap.size:=by omega
    obtain⟨a0,a1,a2,a3,a4,a5,a6,a7,a8,a9,zm,zM⟩:=gx B.out;have LB:=aT (λhl=>(H.out.l4 q b hl).1);have FH:0<(x4 q).ln->(x4 q).lk<w.heap.size:=λhl=>(H.out.l4 q b hl).2;by_cases D:eK ((x4 q).n 3) ((x4 q).n 4) (-90) 90=true
    ·have E:=aT D;have Q8 : -90<=(x4 q).n 3/\(x4 q).n 3<=90:=by
      simp only[eK,cB,decide_eq_true_eq]at D;omega
     obtain⟨Q8,hr4⟩:=Q8;clear D
     go_wp2_with (first|(go_at_call 37;((with_reducible refine(Ey E.out _).mono ?_);rintro e w1⟨rfl,a⟩;obtain⟨F,I⟩:=cW a;have c:=aP c a;have g:=aT ((a.block _ f).trans g.out);have k:=aT ((a.block _ d).trans k.out);have d:=bs d a.size;have f:=bs f a.size))|(go_at_call 37;refine(kB _ _ _ _ _).mono ?_;rintro e w1⟨rfl,a⟩;obtain⟨F,I⟩:=cW a;have c:=aP c a;have g:=aT ((a.block _ f).trans g.out);have k:=aT ((a.block _ d).trans k.out);have d:=bs d a.size;have f:=bs f a.size))
     ·have hS:=Xq (W:=w1.drew) k.out g.out c.drew;clear F I
      go_region_held3 (λW=>W.cell? ⟨w.heap.size+1,1,none⟩=some (.int .i64 ((x4 q).n 1))/\W.cell? ⟨w.heap.size+1,3,none⟩=some (.int .i64 ((x4 q).n 3))/\W.cell? ⟨w.heap.size+1,4,none⟩=some (.int .i64 ((x4 q).n 4))/\(W.heap[w.heap.size]?=some (.cells #[.int .i64 l,.int .i64 p,.slice J v K,.slice L M N,.slice (some ⟨z,A,none⟩) o O,.slice P Q R] 27)/\W.heap[w.heap.size+1]?=some (.cells #[.string (x4 q).name,.int .i64 ((x4 q).n 1),.int .i64 ((x4 q).n 2),.int .i64 ((x4 q).n 3),.int .i64 ((x4 q).n 4),.int .i64 ((x4 q).n 5),.int .i64 ((x4 q).n 6),.int .i64 ((x4 q).n 7),.int .i64 ((x4 q).n 8),.int .i64 ((x4 q).n 9),.int .i64 ((x4 q).n 10),.slice (x4 q).lb (x4 q).ln (x4 q).lc] 85)/\Below w.heap.size w W)) (first|exact hS|(go_split_ands;refine aaq ‹_› ‹_› ‹_› ‹_› ‹_› ‹_› qA)|go_keep) ((go_at_call 63;refine(AI _ _ _ Q8 hr4).mono ?_;rintro e w2⟨rfl,qA⟩))
      have hS2:w2.cell? ⟨w.heap.size+1,1,none⟩=some (.int .i64 ((x4 q).n 1))/\w2.cell? ⟨w.heap.size+1,3,none⟩=some (.int .i64 ((x4 q).n 3))/\w2.cell? ⟨w.heap.size+1,4,none⟩=some (.int .i64 ((x4 q).n 4))/\(w2.heap[w.heap.size]?=some (.cells #[.int .i64 l,.int .i64 p,.slice J v K,.slice L M N,.slice (some ⟨z,A,none⟩) o O,.slice P Q R] 27)/\w2.heap[w.heap.size+1]?=some (.cells #[.string (x4 q).name,.int .i64 ((x4 q).n 1),.int .i64 ((x4 q).n 2),.int .i64 ((x4 q).n 3),.int .i64 ((x4 q).n 4),.int .i64 ((x4 q).n 5),.int .i64 ((x4 q).n 6),.int .i64 ((x4 q).n 7),.int .i64 ((x4 q).n 8),.int .i64 ((x4 q).n 9),.int .i64 ((x4 q).n 10),.slice (x4 q).lb (x4 q).ln (x4 q).lc] 85)/\Below w.heap.size w w2):=by assumption
      obtain⟨_,_,_,NV,u,c⟩:=hS2;have g:=aT NV;have k:=aT u;have d:w.heap.size+1<w2.heap.size:=aL u;have f:w.heap.size<w2.heap.size:=by omega
      obtain⟨a0,a1,a2,a3,a4,a5,a6,a7,a8,a9,zm,zM⟩:=gx u;obtain⟨f0,f1,f2,f3,f4,f5⟩:=bf NV;clear NV u
      go_wp2_with (first|(go_at_call 36;refine(Vi _ _ _ _).mono ?_;rintro e w'⟨rfl,rfl⟩)|(go_at_call 37;refine(kB _ _ _ _ _).mono ?_;rintro e w1⟨rfl,a⟩;obtain⟨F,I⟩:=cW a;have c:=aP c a;have g:=aT ((a.block _ f).trans g.out);have k:=aT ((a.block _ d).trans k.out);have d:=bs d a.size;have f:=bs f a.size)|(go_at_call 64;refine(Vh _ (x4 q).lk (x4 q).lo _ _ _ (x4 q).lane _ Tl m3 (λhl=>bs (FH hl) c.size) LB.out (λi hi=>(c.cell (p:=⟨(x4 q).lk,(x4 q).lo+i,none⟩) (FH (by omega))).trans (H.out.J5 q b i hi))).mono ?_;rintro e w1⟨rfl,a⟩;have c:=aP c a))
      all_goals (
       go_ret
       have P1:eK ((x4 q).n 1) ((x4 q).n 2) 1 90=true:=by assumption
       refine⟨aC ?_,c⟩;simp only[gM];rw[if_pos Xp.out,P1,E.out]
       first
        |(have t:(x4 q).n 1<max ((x4 q).n 4) (-(x4 q).n 3):=by assumption
          rw[if_pos (by rfl),if_pos (by omega)];done)
        |(have t:max ((x4 q).n 4) (-(x4 q).n 3)<=(x4 q).n 1:=by assumption
          rw[if_pos (by rfl),if_neg (by omega)]
          first
           |(have t1:¬bO ((x4 q).n 5) 0 (↑v-1)=true:=by assumption
             rw[aV t1];rfl)
           |(have t1:bO ((x4 q).n 5) 0 (↑v-1)=true:=by assumption
             first
              |(have t2:(!bO ((x4 q).n 6) 0 (p-1))=true:=by assumption
                have r:bO ((x4 q).n 6) 0 (p-1)=false:=by simpa using t2
                rw[t1,r];rfl)
              |(have t2:(!bO ((x4 q).n 6) 0 (p-1))=false:=by assumption
                have r:bO ((x4 q).n 6) 0 (p-1)=true:=by simpa using t2
                rw[t1,r,if_pos (by rfl)]
                first
                 |(have U:¬eK ((x4 q).n 7) ((x4 q).n 8) 1 60=true:=by assumption
                   rw[aV U];rfl)
                 |(have U:eK ((x4 q).n 7) ((x4 q).n 8) 1 60=true:=by assumption
                   first
                    |(have t4:(!eK ((x4 q).n 9) ((x4 q).n 10) 0 60)=true:=by assumption
                      have s:eK ((x4 q).n 9) ((x4 q).n 10) 0 60=false:=by simpa using t4
                      rw[U,s];rfl)
                    |(have t4:(!eK ((x4 q).n 9) ((x4 q).n 10) 0 60)=false:=by assumption
                      have s:eK ((x4 q).n 9) ((x4 q).n 10) 0 60=true:=by simpa using t4
                      rw[U,s,if_pos (by rfl)])))))
       done)
     ·go_ret
      have t:¬eK ((x4 q).n 1) ((x4 q).n 2) 1 90=true:=by assumption
      exact⟨aC (by simp only[gM];rw[if_pos Xp.out,aV t];simp),c⟩
    ·have E:=aT (aV D);clear D
     go_wp2_with (first|(go_at_call 37;((with_reducible refine(Ez E.out _).mono ?_);rintro e w1⟨rfl,a⟩;obtain⟨F,I⟩:=cW a;have c:=aP c a;have g:=aT ((a.block _ f).trans g.out);have k:=aT ((a.block _ d).trans k.out);have d:=bs d a.size;have f:=bs f a.size))|(go_at_call 37;refine(kB _ _ _ _ _).mono ?_;rintro e w1⟨rfl,a⟩;obtain⟨F,I⟩:=cW a;have c:=aP c a;have g:=aT ((a.block _ f).trans g.out);have k:=aT ((a.block _ d).trans k.out);have d:=bs d a.size;have f:=bs f a.size))
     all_goals (
      go_ret
      exact⟨aC (by simp only[gM];rw[if_pos Xp.out,E.out];simp),c⟩)
 ·have y:=aT (aV x);clear x
  go_enter (fx (by decide) ba),bb
  go_wp2_with (go_at_call 62;refine(Ka y.out _ Y).mono ?_;rintro e w'⟨rfl,rfl⟩)
  go_ret
  exact⟨aC (by simp[gM,iH,y.out]),((bL _ _).alloc (br _) _).alloc (by simp) _⟩
def EE(C:CD)(w:World)(h:C.At w)(a:C.dP 0=0):Calls PL 38 #[.agg C.val] w (aO (.int .i64 (C.dP 2)) w):=
 Ic _ _ _ _ _ _ _ _ _ _ _ _ h.m3 (cK a).1 (cK a).2 h.h3 h.s3 h.Es h.Et h.Eu
def EF(C:CD)(w:World)(h:C.At w)(a:C.dP 0=0)(b:C.dP 2=0):Calls PL 38 #[.agg C.val] w (aO (.int .i64 0) w):=by
 have:=EE C w h a;rwa[b]at this
def aar(C:CD)(m:Nat)(w:World)(h:C.At w)(a:m<C.n4)(b:1<=C.p)(c:C.p<=6)(d:gM C.p C.n2 C.n3 C.x4 m=0):Calls PL 39 #[.agg C.val,.int .i64 (m:Int)] w (aO (.int .i64 0) w):=by
 have:=ED C m w h a b c;rwa[d]at this
def Rh(C:CD)(m:Nat)(w:World)(h:C.At w)(a:m<C.n5)(b:iI C.n4 C.x5 m=0):Calls PL 40 #[.agg C.val,.int .i64 (m:Int)] w (aO (.int .i64 0) w):=by
 have:=yx C m w h a;rwa[b]at this
def rK(C:CD)(w:World)(h:C.At w):Calls PL 13 #[.agg C.val] w (aO (.int .i64 C.cx) w):=by
 have H:=aT h;have m2:=h.m2;have m4:=h.m4;have m5:=h.m5;have S:=h.h2;have S2:=aT h.s2;clear h;by_cases hl:bO C.l 1 999=true
 case neg=>
  have L:=aT (aV hl);clear hl
  go_enter (fx (by decide) bc),bd
  go_wp2_with (first|(go_at_call 36;((with_reducible refine(vQ L.out _).mono ?_);rintro e w'⟨rfl,rfl⟩)))
  go_ret
  have v:C.dP 0=1:=by simp[CD.dP,jd,L.out]
  exact⟨aC ((cR (m:=0) (λj b=>absurd b (bq _)) (by omega) (by rw[v];decide)).trans v),(bL _ _).alloc (br _) _⟩
 case pos=>
 have L:=aT hl;clear hl;by_cases J:bO C.p 1 6=true
 case neg=>
  have P:=aT (aV J);clear J
  go_enter (fx (by decide) bc),bd
  go_wp2_with (first|(go_at_call 36;((with_reducible refine(kH L.out _).mono ?_);rintro e w'⟨rfl,rfl⟩))|(go_at_call 36;((with_reducible refine(vQ P.out _).mono ?_);rintro e w'⟨rfl,rfl⟩)))
  go_ret
  have v:C.dP 0=1:=by simp[CD.dP,jd,L.out,P.out]
  exact⟨aC ((cR (m:=0) (λj b=>absurd b (bq _)) (by omega) (by rw[v];decide)).trans v),(bL _ _).alloc (br _) _⟩
 case pos=>
 have P:=aT J;clear J;have z0:C.dP 0=0:=by simp[CD.dP,jd,L.out,P.out]
 have n:=aT z0;clear z0;by_cases B:bO C.n2 1 3=true
 case neg=>
  have y:=aT (aV B);clear B
  go_enter (fx (by decide) bc),bd
  go_wp2_with (first|(go_at_call 36;((with_reducible refine(kH L.out _).mono ?_);rintro e w'⟨rfl,rfl⟩))|(go_at_call 36;((with_reducible refine(kH P.out _).mono ?_);rintro e w'⟨rfl,rfl⟩))|(go_at_call 36;((with_reducible refine(vQ y.out _).mono ?_);rintro e w'⟨rfl,rfl⟩)))
  go_ret
  have v:C.dP 1=2:=by simp[CD.dP,pq,y.out]
  exact⟨aC ((cR (m:=1) (λj b=>by(obtain rfl:j=0:=by omega);exact n.out) (by omega) (by rw[v];decide)).trans v),(bL _ _).alloc (br _) _⟩
 case pos=>
 have y:=aT B;have vI:0<C.n2:=by simp[bO]at B;omega
 clear B
 go_enter (fx (by decide) bc),bd
 go_wp2_with (first|(go_at_call 36;((with_reducible refine(kH L.out _).mono ?_);rintro e w'⟨rfl,rfl⟩))|(go_at_call 36;((with_reducible refine(kH P.out _).mono ?_);rintro e w'⟨rfl,rfl⟩))|(go_at_call 36;((with_reducible refine(kH y.out _).mono ?_);rintro e w'⟨rfl,rfl⟩)))
 have K:=S2.out vI;rw[K];have Kf:=aT K;clear K
 go_loopw [3] (λi wr=>∃q:Nat,q<=C.n2/\i=.int .i64 q/\(∀j,j<q->eK (C.x2 j).1 (C.x2 j).2 0 90=true)/\wr.heap[w.heap.size]?=some (.cells C.val 27)/\Below w.heap.size w wr) (λi _=>C.n2-(intOf i).toNat)
 case atStart=>exact⟨0,bp _,rfl,λj b=>absurd b (bq _),au _ _,(bL _ _).alloc (br _) _⟩
 case round=>
  obtain⟨q,T,rfl,x,o,c⟩:=hrel;have U:=aT x;have d:=aT o;have f:w.heap.size<wr.heap.size:=aL o;clear x o;obtain⟨V,W,M,X,f4,Y⟩:=bf d.out;by_cases g:q<C.n2
  ·have k0:=(c.cell (p:=⟨C.k2,C.o2+q*2,none⟩) S).trans (H.out.Ep q g);have k1:=(c.cell (p:=⟨C.k2,C.o2+q*2+1,none⟩) S).trans (H.out.Er q g);have i2:(q:Int)<C.n2:=by omega
   rw[Kf.out]at M;by_cases hi:eK (C.x2 q).1 (C.x2 q).2 0 90=true
   ·have D:=aT hi;clear hi
    go_wp2_with (go_at_call 37;refine(Ey D.out _).mono ?_;rintro e w1⟨rfl,a⟩)
    refine⟨⟨q+1,g,by go_num,λj b=>?_,(a.block _ f).trans d.out,aP c a⟩,by simp[intOf];omega⟩
    rcases Nat.lt_succ_iff_lt_or_eq.1 b with h|h
    ·exact U.out j h
    ·rw[h];exact D.out
   ·have D:=aT (aV hi);clear hi
    go_wp2_with (go_at_call 37;refine(Ez D.out _).mono ?_;rintro e w1⟨rfl,a⟩)
    go_ret
    have e1:C.dP 1=1:=by
     have:((bM C.n2).all λi=>eK (C.x2 i).1 (C.x2 i).2 0 90)=false:=by
      rw[List.all_eq_false];exact⟨q,List.mem_range.2 g,by simp[D.out]⟩
     simp[CD.dP,pq,y.out,this]
    exact⟨aC ((cR (m:=1) (λj b=>by(obtain rfl:j=0:=by omega);exact n.out) (by omega) (by rw[e1];decide)).trans e1),aP c a⟩
  ·obtain rfl:q=C.n2:=by omega
   have z1:C.dP 1=0:=by
    have:((bM C.n2).all λi=>eK (C.x2 i).1 (C.x2 i).2 0 90)=true:=by
     rw[bR];intro j b;exact U.out j (List.mem_range.1 b)
    simp[CD.dP,pq,y.out,this]
   have z:=aT z1;clear z1;have k:=c;by_cases E:C.dP 2=0
   case neg=>
    have t:=aT E;have arE:(C.dP 2 != 0)=true:=by simpa using E
    clear E
    go_wp2_with (go_at_call 38;refine(EE C _ (H.out.below k) n.out).mono ?_;rintro e w1⟨rfl,a⟩;obtain⟨Z,lR⟩:=cW a;have k:=aP k a;have d:=aT ((a.block _ f).trans d.out);have f:=bs f a.size)
    go_ret
    exact⟨aC (cR (m:=2) (λj b=>by
     obtain rfl|rfl:j=0\/j=1:=by omega
     ·exact n.out
     ·exact z.out) (by omega) t.out),k⟩
   case pos=>
   have t:=aT E;clear E;by_cases u:bO C.n4 2 5=true
   case neg=>
    have A:=aT (aV u);clear u
    go_wp2_with (first|(go_at_call 38;refine(EF C _ (H.out.below k) n.out t.out).mono ?_;rintro e w1⟨rfl,a⟩;obtain⟨Z,lR⟩:=cW a;have k:=aP k a;have d:=aT ((a.block _ f).trans d.out);have f:=bs f a.size)|(go_at_call 36;((with_reducible refine(vQ A.out _).mono ?_);rintro e w'⟨rfl,rfl⟩)))
    go_ret
    have F:C.dP 3=2:=by simp[CD.dP,kA,A.out]
    exact⟨aC ((cR (m:=3) (λj b=>by
     obtain rfl|rfl|rfl:j=0\/j=1\/j=2:=by omega
     ·exact n.out
     ·exact z.out
     ·exact t.out) (by omega) (by rw[F];decide)).trans F),k⟩
   case pos=>
   have A:=aT u;clear u
   go_wp2_with (first|(go_at_call 38;refine(EF C _ (H.out.below k) n.out t.out).mono ?_;rintro e w1⟨rfl,a⟩;obtain⟨Z,lR⟩:=cW a;have k:=aP k a;have d:=aT ((a.block _ f).trans d.out);have f:=bs f a.size)|(go_at_call 36;((with_reducible refine(kH A.out _).mono ?_);rintro e w'⟨rfl,rfl⟩)))
   have Xi:=cK (l:=C.l) n.out;obtain⟨J0,tL⟩:=Xi;have HX1:=d;have arF:=k;obtain⟨wo,rfl⟩:∃wo:World,wo=w1:=⟨_,rfl⟩
   go_loopw [5] (λi wr=>∃q:Nat,q<=C.n4/\i=.int .i64 q/\(∀j,j<q->gM C.p C.n2 C.n3 C.x4 j=0)/\wr.heap[w.heap.size]?=some (.cells C.val 27)/\Below w.heap.size w wr) (λi _=>C.n4-(intOf i).toNat)
   case atStart=>exact⟨0,bp _,rfl,λj b=>absurd b (bq _),d.out,k⟩
   case round=>
    obtain⟨q,T,rfl,x,o,c⟩:=hrel;have N:=aT x;have d:=aT o;have f:w.heap.size<wr.heap.size:=aL o;clear x o;obtain⟨V,W,M,X,f4,Y⟩:=bf d.out;by_cases g:q<C.n4
    ·by_cases r:gM C.p C.n2 C.n3 C.x4 q=0
     ·have s:=aT r;clear r
      go_wp2_with (go_at_call 39;refine(aar C q _ (H.out.below c) g J0 tL s.out).mono ?_;rintro e w1⟨rfl,a⟩)
      refine⟨⟨q+1,g,by go_num,λj b=>?_,(a.block _ f).trans d.out,aP c a⟩,by simp[intOf];omega⟩
      rcases Nat.lt_succ_iff_lt_or_eq.1 b with h|h
      ·exact N.out j h
      ·rw[h];exact s.out
     ·have s:=aT r;have Yt:(gM C.p C.n2 C.n3 C.x4 q != 0)=true:=by simpa using r
      clear r
      go_wp2_with (go_at_call 39;refine(ED C q _ (H.out.below c) g J0 tL).mono ?_;rintro e w1⟨rfl,a⟩)
      go_ret
      have F:C.dP 3=gM C.p C.n2 C.n3 C.x4 q:=dI A.out N.out g rfl s.out
      exact⟨aC ((cR (m:=3) (λj b=>by
      obtain rfl|rfl|rfl:j=0\/j=1\/j=2:=by omega
      ·exact n.out
      ·exact z.out
      ·exact t.out) (by omega) (by rw[F];exact s.out)).trans F),aP c a⟩
    ·obtain rfl:q=C.n4:=by omega
     have z3:C.dP 3=0:=by
      show kA _ _ _ _ _=0;rw[kA,if_pos A.out];exact cz N.out
     have O:=aT z3;clear z3;by_cases Q:3<C.n5
     ·go_wp2
      go_ret
      have I:C.dP 4=2:=by simp[CD.dP,pE,Q]
      exact⟨aC ((cR (m:=4) (λj b=>by
      obtain rfl|rfl|rfl|rfl:j=0\/j=1\/j=2\/j=3:=by omega
      ·exact n.out
      ·exact z.out
      ·exact t.out
      ·exact O.out) (by omega) (by rw[I];decide)).trans I),c⟩
     ·obtain⟨wp,rfl⟩:∃wp:World,wp=wr:=⟨_,rfl⟩
      go_wp2
      go_loopw [7] (λi wr=>∃q:Nat,q<=C.n5/\i=.int .i64 q/\(∀j,j<q->iI C.n4 C.x5 j=0)/\wr.heap[w.heap.size]?=some (.cells C.val 27)/\Below w.heap.size w wr) (λi _=>C.n5-(intOf i).toNat)
      case atStart=>exact⟨0,bp _,rfl,λj b=>absurd b (bq _),d.out,c⟩
      case round=>
       obtain⟨q,T,rfl,x,o,c⟩:=hrel;have R:=aT x;have d:=aT o;have f:w.heap.size<wr.heap.size:=aL o;clear x o;obtain⟨V,W,M,X,f4,Y⟩:=bf d.out;by_cases g:q<C.n5
       ·by_cases r:iI C.n4 C.x5 q=0
        ·have s:=aT r;clear r
         go_wp2_with (go_at_call 40;refine(Rh C q _ (H.out.below c) g s.out).mono ?_;rintro e w1⟨rfl,a⟩)
         refine⟨⟨q+1,g,by go_num,λj b=>?_,(a.block _ f).trans d.out,aP c a⟩,by simp[intOf];omega⟩
         rcases Nat.lt_succ_iff_lt_or_eq.1 b with h|h
         ·exact R.out j h
         ·rw[h];exact s.out
        ·have s:=aT r;have Yt:(iI C.n4 C.x5 q != 0)=true:=by simpa using r
         clear r
         go_wp2_with (go_at_call 40;refine(yx C q _ (H.out.below c) g).mono ?_;rintro e w1⟨rfl,a⟩)
         go_ret
         have I:C.dP 4=iI C.n4 C.x5 q:=ic Q R.out g rfl s.out
         exact⟨aC ((cR (m:=4) (λj b=>by
      obtain rfl|rfl|rfl|rfl:j=0\/j=1\/j=2\/j=3:=by omega
      ·exact n.out
      ·exact z.out
      ·exact t.out
      ·exact O.out) (by omega) (by rw[I];exact s.out)).trans I),aP c a⟩
       ·obtain rfl:q=C.n5:=by omega
        go_wp2
        go_ret
        have z4:C.dP 4=0:=by
         show pE _ _ _=0;rw[pE,if_neg Q];exact cz R.out
        refine⟨aC (cz λj b=>?_),c⟩;obtain rfl|rfl|rfl|rfl|rfl:j=0\/j=1\/j=2\/j=3\/j=4:=by omega
        ·exact n.out
        ·exact z.out
        ·exact t.out
        ·exact O.out
        ·exact z4
structure CD.Mem(C:CD)(w:World):Prop where
 h2:C.k2<w.heap.size
 h3:C.k3<w.heap.size
 h4:C.k4<w.heap.size
 h5:C.k5<w.heap.size
 s2:0<C.n2->C.b2=some ⟨C.k2,C.o2,none⟩
 s3:0<C.n3->C.b3=some ⟨C.k3,C.o3,none⟩
 s4:0<C.n4->C.b4=some ⟨C.k4,C.o4,none⟩
 s5:0<C.n5->C.b5=some ⟨C.k5,C.o5,none⟩
 Ep:∀i,i<C.n2->w.cell? ⟨C.k2,C.o2+i*2,none⟩=some (.int .i64 (C.x2 i).1)
 Er:∀i,i<C.n2->w.cell? ⟨C.k2,C.o2+i*2+1,none⟩=some (.int .i64 (C.x2 i).2)
 Es:∀i,i<C.n3->w.cell? ⟨C.k3,C.o3+i*3,none⟩=some (.int .i64 (C.x3 i).1)
 Et:∀i,i<C.n3->w.cell? ⟨C.k3,C.o3+i*3+1,none⟩=some (.int .i64 (C.x3 i).2.1)
 Eu:∀i,i<C.n3->w.cell? ⟨C.k3,C.o3+i*3+2,none⟩=some (.int .i64 (C.x3 i).2.2)
 AD:∀i,i<C.n4->w.cell? ⟨C.k4,C.o4+i*12,none⟩=some (.string (C.x4 i).name)
 dB:∀i,i<C.n4->∀j,1<=j->j<=10->w.cell? ⟨C.k4,C.o4+i*12+j,none⟩=some (.int .i64 ((C.x4 i).n j))
 nj:∀i,i<C.n4->w.cell? ⟨C.k4,C.o4+i*12+11,none⟩=some (.slice (C.x4 i).lb (C.x4 i).ln (C.x4 i).lc)
 l4:∀i,i<C.n4->0<(C.x4 i).ln->(C.x4 i).lb=some ⟨(C.x4 i).lk,(C.x4 i).lo,none⟩/\(C.x4 i).lk<w.heap.size
 J5:∀i,i<C.n4->∀j,j<(C.x4 i).ln->w.cell? ⟨(C.x4 i).lk,(C.x4 i).lo+j,none⟩=some (.int .i64 ((C.x4 i).lane j))
 FI:∀i,i<C.n5->w.cell? ⟨C.k5,C.o5+i*3,none⟩=some (.string (C.x5 i).1)
 HU:∀i,i<C.n5->w.cell? ⟨C.k5,C.o5+i*3+1,none⟩=some (.int .i64 (C.x5 i).2.1)
 J6:∀i,i<C.n5->w.cell? ⟨C.k5,C.o5+i*3+2,none⟩=some (.int .i64 (C.x5 i).2.2)
def CD.small(C:CD):Bool:=decide (C.n2<=20)&&decide (C.n3<=20)&&decide (C.n4<=20)&&decide (C.n5<=20)&&((bM C.n4).all λi=>decide ((C.x4 i).name.size<=100)&&decide ((C.x4 i).ln<=20))&&((bM C.n5).all λi=>decide ((C.x5 i).1.size<=100))
def CD.At.Ri{C:CD}{w:World}(h:C.Mem w)(hs:C.small=true):C.At w:=by
 simp only[CD.small,cB,decide_eq_true_eq,bR,bT]at hs;obtain⟨⟨⟨⟨⟨m2,m3⟩,m4⟩,m5⟩,n4⟩,n5⟩:=hs;obtain⟨h2,h3,h4,h5,s2,s3,s4,s5,Ep,Er,Es,Et,Eu,AD,dB,nj,l4,J5,FI,HU,J6⟩:=h;exact⟨m2,m3,m4,m5,h2,h3,h4,h5,s2,s3,s4,s5,Ep,Er,Es,Et,Eu,n4,AD,dB,nj,l4,J5,n5,FI,HU,J6⟩
def AK(C:CD)(w:World)(h:C.Mem w):Calls PL 12 #[.agg C.val] w (aO (.bool (!C.small)) w):=by
 have H:=aT h;have r:=h.h4;have x:=h.h5;clear h;by_cases hc:C.n2<=20/\C.n3<=20/\C.n4<=20/\C.n5<=20
 case neg=>
  have a:C.small=false:=by
   cases c:C.small with
   |false=>rfl
   |true=>
    simp only[CD.small,cB,decide_eq_true_eq]at c;omega
  have SM:=aT a;clear a
  go_enter (fx (by decide) bg),bi
  go_wp2
  any_goals (
   go_ret
   exact⟨by rw[SM.out];rfl,(bL _ _).alloc (br _) _⟩)
 case pos=>
 obtain⟨m2,m3,m4,m5⟩:=hc
 go_enter (fx (by decide) bg),bi
 go_wp2
 have y:=aT H.out.s4;have z:=aT H.out.s5
 go_loopw [3] (λi wr=>∃q:Nat,q<=C.n4/\i=.int .i64 q/\(∀j,j<q->(C.x4 j).name.size<=100/\(C.x4 j).ln<=20)/\wr.heap[w.heap.size]?=some (.cells C.val 27)/\Below w.heap.size w wr) (λi _=>C.n4-(intOf i).toNat)
 case atStart=>exact⟨0,bp _,rfl,λj e=>absurd e (bq _),au _ _,(bL _ _).alloc (br _) _⟩
 case round=>
  obtain⟨q,c,rfl,k,l,b⟩:=hrel;have s:=aT k;have f:=aT l;clear k l;obtain⟨A,B,D,E,f4,t⟩:=bf f.out;by_cases d:q<C.n4
  ·rw[y.out (by omega)]at f4;have k0:=(b.cell (p:=⟨C.k4,C.o4+q*12,none⟩) r).trans (H.out.AD q d);have k1:=(b.cell (p:=⟨C.k4,C.o4+q*12+11,none⟩) r).trans (H.out.nj q d);have F:(q:Int)<C.n4:=by omega
   by_cases g:(C.x4 q).name.size<=100/\(C.x4 q).ln<=20
   ·obtain⟨m,n⟩:=g
    go_wp2
    refine⟨⟨q+1,d,by go_num,λj e=>?_,f.out,b⟩,by simp[intOf];omega⟩
    rcases Nat.lt_succ_iff_lt_or_eq.1 e with h|h
    ·exact s.out j h
    ·rw[h];exact⟨m,n⟩
   ·have a:C.small=false:=by
     cases c:C.small with
     |false=>rfl
     |true=>
      simp only[CD.small,cB,decide_eq_true_eq,bR,bT]at c;exact absurd (c.1.2 q d) g
    have SM:=aT a;have o:100<(C.x4 q).name.size\/20<(C.x4 q).ln:=by omega
    clear a g;by_cases m:(C.x4 q).name.size<=100
    ·have n:20<(C.x4 q).ln:=by omega
     clear o
     go_wp2
     go_ret
     exact⟨by rw[SM.out];rfl,b⟩
    ·clear o
     go_wp2
     go_ret
     exact⟨by rw[SM.out];rfl,b⟩
  ·obtain rfl:q=C.n4:=by omega
   obtain⟨u,rfl⟩:∃u:World,u=wr:=⟨_,rfl⟩
   go_wp2
   go_loopw [4] (λi wr=>∃q:Nat,q<=C.n5/\i=.int .i64 q/\(∀j,j<q->(C.x5 j).1.size<=100)/\wr.heap[w.heap.size]?=some (.cells C.val 27)/\Below w.heap.size w wr) (λi _=>C.n5-(intOf i).toNat)
   case atStart=>exact⟨0,bp _,rfl,λj e=>absurd e (bq _),f.out,b⟩
   case round=>
    obtain⟨q,c,rfl,k,l,b⟩:=hrel;have v:=aT k;have f:=aT l;clear k l;obtain⟨A,B,D,E,f4,t⟩:=bf f.out;by_cases d:q<C.n5
    ·rw[z.out (by omega)]at t;have k0:=(b.cell (p:=⟨C.k5,C.o5+q*3,none⟩) x).trans (H.out.FI q d);have F:(q:Int)<C.n5:=by omega
     by_cases g:(C.x5 q).1.size<=100
     ·go_wp2
      refine⟨⟨q+1,d,by go_num,λj e=>?_,f.out,b⟩,by simp[intOf];omega⟩
      rcases Nat.lt_succ_iff_lt_or_eq.1 e with h|h
      ·exact v.out j h
      ·rw[h];exact g
     ·have a:C.small=false:=by
       cases c:C.small with
       |false=>rfl
       |true=>
        simp only[CD.small,cB,decide_eq_true_eq,bR,bT]at c;exact absurd (c.2 q d) g
      have SM:=aT a;clear a
      go_wp2
      go_ret
      exact⟨by rw[SM.out];rfl,b⟩
    ·obtain rfl:q=C.n5:=by omega
     have a:C.small=true:=by
      simp only[CD.small,cB,decide_eq_true_eq,bR,bT];exact⟨⟨⟨⟨⟨m2,m3⟩,m4⟩,m5⟩,s.out⟩,v.out⟩
     have SM:=aT a;clear a
     go_wp2
     go_ret
     exact⟨by rw[SM.out];rfl,b⟩
end Go.Proofs
namespace Go
section
variable {P:ab}{ops:Array Oper}
def Region.fZ(ops:Array Oper)(i:Nat):Option Tmp:=(ops[i]?).bind (·.dst)
def cS(ops:Array Oper)(vs:Nat->Value):List Nat->Act->Act
 |[],a=>a
 |i::l,a=>cS ops vs l (a.put (Region.fZ ops i) (vs i))
def EK(a:Act)(d:Option Tmp)(v:Value):(a.put d v).tmps.size=a.tmps.size:=by
 cases d<;>simp[Act.put]
def put_defers(a:Act)(d:Option Tmp)(v:Value):(a.put d v).defers=a.defers:=by
 cases d<;>rfl
def Cg(a:Act)(d:Option Tmp)(v:Value)(t:Nat):(a.put d v).tmps[t]?=if d=some t/\t<a.tmps.size then some v else a.tmps[t]?:=by
 cases d with
 |none=>simp[Act.put]
 |some d=>
  simp only[Act.put,Array.getElem?_setIfInBounds,Option.some.injEq];by_cases h:d=t
  ·subst h;by_cases hl:d<a.tmps.size<;>simp[hl]
  ·simp[h]
def uF(vs:Nat->Value):∀(l:List Nat)(a:Act),(cS ops vs l a).tmps.size=a.tmps.size
 |[],_=>rfl
 |i::l,a=>by rw[cS,uF vs l,EK]
def pG(vs:Nat->Value):∀(l:List Nat)(a:Act),(cS ops vs l a).defers=a.defers
 |[],_=>rfl
 |i::l,a=>by rw[cS,pG vs l,put_defers]
def gI(vs:Nat->Value)(t:Nat):∀(l:List Nat)(a:Act),(∀j∈l,Region.fZ ops j≠some t)->(cS ops vs l a).tmps[t]?=a.tmps[t]?
 |[],_,_=>rfl
 |i::l,a,h=>by rw[cS,gI vs t l _ λj b=>h j (bX _ b),Cg,if_neg λe=>h i (b1 ..) e.1]
def gJ(vs:Nat->Value)(t j:Nat)(hd:∀k,Region.fZ ops k=some t->k=j)(c:Region.fZ ops j=some t):∀(l:List Nat)(a:Act),j∈l->(cS ops vs l a).tmps[t]?=if t<a.tmps.size then some (vs j) else none
 |i::l,a,h=>by
  rw[cS];by_cases hl:j∈l
  ·rw[gJ vs t j hd c l _ hl,EK]
  ·obtain rfl:i=j:=by rcases List.mem_cons.1 h with e|e;exact e.symm;exact absurd e hl
   rw[gI vs t l _ λk d e=>hl (hd k e▸d),Cg,c];by_cases b:t<a.tmps.size
   ·simp[b]
   ·simp[b,de (Nat.le_of_not_lt b)]
def Oper.dz(o:Oper):Array Edge:=o.after.filter (dt .any)
def cH{o:Oper}{e:Edge}:e∈o.dz↔e∈o.after/\dt .any e=true:=by simp[Oper.dz]
def qf(P:ab)(K:Value->World->Prop):Result Next->Prop
 |.ok (.value v) w=>K v w
 |.ok .skip w=>K undef w
 |.ok (.enter f args) w=>Calls P f args w λe w'=>∃v,e=.returned v/\K v w'
 |_=>False
@[go_sem] def Tm(K:Value->World->Prop)(v:Value)(w:World):qf P K (.ok (.value v) w)=K v w:=rfl
@[go_sem] def Vt(K:Value->World->Prop)(w:World):qf P K (.ok .skip w)=K undef w:=rfl
@[go_sem] def Tn(K:Value->World->Prop)(f:FuncId)(args:Array Value)(w:World):qf P K (.ok (.enter f args) w)=Calls P f args w λe w'=>∃v,e=.returned v/\K v w':=rfl
@[go_sem] def fC(P:ab)(ops:Array Oper)(K:Value->World->Prop)(o:Oper)(b:Act)(w:World):Prop:=
 if du o (ac ops b.tmps) then qf P K ((ad b.eval o).run P w) else K undef w
def Region.Ig(ops:Array Oper):Bool:=
 (bM ops.size).all λi=>match ops[i]? with
  |none=>true
  |some o=>(match o.op with | .select ..=>false|_=>true)&&(o.dz.toList.all λe=>decide (e.on<i)&&dt .any e) &&
   (bM ops.size).all λj=>match Region.fZ ops j with
    |none=>true
    |some d=>(j==i||o.dst != some d)&&(!(o.looksAt ops).contains d||o.dz.toList.any λe=>e.on==j)
structure tf(ops:Array Oper):Prop where
 sel:∀(i:Nat)(o:Oper),ops[i]?=some o->∀cs b,o.op≠Op.select cs b
 edge:∀(i:Nat)(o:Oper),ops[i]?=some o->∀e∈o.dz,e.on<i/\dt .any e=true
 one:∀i j t,Region.fZ ops i=some t->Region.fZ ops j=some t->i=j
 look:∀(i:Nat)(o:Oper),ops[i]?=some o->∀j t,Region.fZ ops j=some t->t∈o.looksAt ops->∃e∈o.dz,e.on=j
def yz{i t:Nat}(h:Region.fZ ops i=some t):i<ops.size:=by
 rcases bt i ops.size with b|b
 ·exact b
 ·simp[Region.fZ,de b]at h
def Ro(h:Region.Ig ops=true):tf ops:=by
 have key:∀(i:Nat)(o:Oper),ops[i]?=some o->(match o.op with | .select ..=>false|_=>true)=true/\(∀e∈o.dz,e.on<i/\dt .any e=true)/\∀j,j<ops.size->∀d,Region.fZ ops j=some d->(j=i\/o.dst≠some d)/\(d∈o.looksAt ops->∃e∈o.dz,e.on=j):=by
  intro i o c;have hi:i<ops.size:=(Array.getElem?_eq_some_iff.1 c).1;simp only[Region.Ig,bR,bT]at h;have:=h i hi;rw[c]at this;simp only[cB,bR,bT,decide_eq_true_eq]at this;obtain⟨⟨k,l⟩,m⟩:=this;refine⟨k,λe g=>l e (Array.mem_toList_iff.2 g),λj f d hd=>?_⟩;have:=m j f;rw[hd]at this;simp only[cB,cC,beq_iff_eq,bne_iff_ne,cQ,b8]at this;refine⟨this.1,λhc=>?_⟩
  rcases this.2 with h|⟨e,g,h⟩
  ·rw[List.contains_iff_mem.2 hc]at h;cases h
  ·exact⟨e,Array.mem_toList_iff.1 g,h⟩
 refine⟨λi o c cs b e=>?_,λi o c=>(key i o c).2.1,λi j t hi f=>?_,λi o c j t f hl=>((key i o c).2.2 j (yz f) t f).2 hl⟩
 ·have:=(key i o c).1;rw[e]at this;cases this
 ·have n:=yz hi;have c:ops[i]?=some ops[i]:=df n;have hd:ops[i].dst=some t:=by simpa[Region.fZ,c]using hi
  rcases((key i _ c).2.2 j (yz f) t f).1 with e|e
  ·exact e.symm
  ·exact absurd hd e
section
variable {C:World->Prop}{Le:World->World->Prop}{Φ:Nat->(Nat->Value)->World->Prop}{a:Act}{Q:Exit->Act->World->Prop}
def upd(vs:Nat->Value)(i:Nat)(v:Value):Nat->Value:=λj=>if j=i then v else vs j
def cO(ops:Array Oper)(listed:Array Bool):List Nat:=(bM ops.size).filter λi=>listed.getD i true
def AL{o:Oper}{i:Nat}(c:tf ops)(f:ops[i]?=some o){l:List Nat}(hl:∀e∈o.dz,e.on∈l)(vs:Nat->Value)(t:Nat)(m:t∈o.looksAt ops) :
 (cS ops vs l a).tmps[t]?=(cS ops vs (bM i) a).tmps[t]?:=by
 by_cases h:∃j,Region.fZ ops j=some t
 ·obtain⟨j,b⟩:=h;obtain⟨e,g,rfl⟩:=c.look i o f j t b m;rw[gJ vs t e.on (λk d=>c.one _ _ _ d b) b l a (hl e g),gJ vs t e.on (λk d=>c.one _ _ _ d b) b _ a (List.mem_range.2 (c.edge i o f e g).1)]
 ·rw[gI vs t l a λj _ e=>h ⟨j,e⟩,gI vs t _ a λj _ e=>h ⟨j,e⟩]
def Nj{o:Oper}{i:Nat}(b:tf ops)(c:ops[i]?=some o){l:List Nat}(hl:∀e∈o.dz,e.on∈l)(vs:Nat->Value) :
 ad (cS ops vs l a).eval o=ad (cS ops vs (bM i) a).eval o:=by
 refine ae o (b.sel i o c) λx d=>?_
 cases x with
 |tmp t=>
  have f:t∈o.looksAt ops:=b9 _ (List.mem_filterMap.2 ⟨.tmp t,by simpa using d,rfl⟩);simp only[Act.eval,di,AL b c hl vs t f]
 |_=>rfl
def EL{o:Oper}{i:Nat}(b:tf ops)(c:ops[i]?=some o){l:List Nat}(hl:∀e∈o.dz,e.on∈l)(vs:Nat->Value) :
 du o (ac ops (cS ops vs l a).tmps)=du o (ac ops (cS ops vs (bM i) a).tmps):=by
 unfold du
 cases hg:o.guard with
 |none=>rfl
 |some d=>
  obtain⟨g,want⟩:=d;have hy:ac ops (cS ops vs l a).tmps g=ac ops (cS ops vs (bM i) a).tmps g:=by
   unfold ac
   cases f:(ops[g]?).bind (·.dst) with
   |none=>rfl
   |some t=>
    have:=AL (a:=a) b c hl vs t (by simp[Oper.looksAt,hg,f]);simp only[dy,this]
  simp only[hy]
def Rp(m:tf ops){i:Nat}{o:Oper}(r:ops[i]?=some o){listed:Array Bool}(hs:listed.size=ops.size)(w:listed.getD i true=false)(vs:Nat->Value)(v:Value) :
 (cS ops vs (cO ops listed) a).put o.dst v=cS ops (upd vs i v) (cO ops (listed.setIfInBounds i true)) a:=by
 have hi:i<ops.size:=(Array.getElem?_eq_some_iff.1 r).1;have d:Region.fZ ops i=o.dst:=by simp[Region.fZ,r]
 have n:∀j,j∈cO ops (listed.setIfInBounds i true)↔j=i\/j∈cO ops listed:=by
  intro j;simp only[cO,List.mem_filter,bT];by_cases e:i=j
  ·subst e;simp[hi,hs]
  ·have:(listed.setIfInBounds i true).getD j true=listed.getD j true:=by simp[dj e]
   rw[this];constructor
   ·exact .inr
   ·rintro(h|h)
    ·exact absurd h.symm e
    ·exact h
 have z:i∉cO ops listed:=λh=>by
  have:=(List.mem_filter.1 h).2;rw[w]at this;cases this
 obtain⟨x,p⟩:∃x,x=(cS ops vs (cO ops listed) a).put o.dst v:=⟨_,rfl⟩
 obtain⟨y,hy⟩:∃y,y=cS ops (upd vs i v) (cO ops (listed.setIfInBounds i true)) a:=⟨_,rfl⟩
 have s:x.defers=y.defers:=by rw[p,hy,put_defers,pG,pG]
 have u:x.tmps=y.tmps:=by
  apply Array.ext_getElem?;intro t;rw[p,hy,Cg,uF];by_cases l:o.dst=some t
  ·have f:Region.fZ ops i=some t:=d.trans l;rw[gJ _ t i (λk g=>m.one _ _ _ g f) f _ a ((n i).2 (.inl rfl)),upd,if_pos rfl];by_cases q:t<a.tmps.size
   ·simp[l,q]
   ·rw[if_neg λe=>q e.2,if_neg q,de (by rw[uF];omega)]
  ·rw[if_neg λe=>l e.1];by_cases h:∃j,Region.fZ ops j=some t/\j∈cO ops listed
   ·obtain⟨j,b,c⟩:=h;have A:j≠i:=λe=>z (e▸c);rw[gJ _ t j (λk g=>m.one _ _ _ g b) b _ a c,gJ _ t j (λk g=>m.one _ _ _ g b) b _ a ((n j).2 (.inr c)),upd,if_neg A]
   ·rw[gI _ t _ a λj b e=>h ⟨j,e,b⟩,gI _ t _ a λj b e=>?_]
    rcases(n j).1 b with rfl|b
    ·exact l (d.symm.trans e)
    ·exact h ⟨j,e,b⟩
 rw[<-p,<-hy];obtain⟨B,D⟩:=x;obtain⟨F,H⟩:=y;simp only at s u;rw[s,u]
section
variable (P:ab)(ops:Array Oper)(C:World->Prop)(Le:World->World->Prop)(E:Nat->Bool)(Φ:Nat->(Nat->Value)->World->Prop)(Q:Exit->Act->World->Prop)
def cL:Nat->List Oper->((Nat->Value)->Act)->Prop
 |i,[],b=>∀vs W,C W->(∀j,j<i->E j=false->Φ j vs W)->Q .normal (b vs) W
 |i,o::l,b=>@da (λ_=>Prop)
  ((∀vs W,C W->(∀e∈o.dz,E e.on=false->Φ e.on vs W)->fC P ops (λu c=>C c/\Le W c/\Φ i (upd vs i u) c) o (b vs) W)/\cL (i+1) l λvs=>(b vs).put o.dst (vs i))
  (∃v,(∀vs W,C W->(∀e∈o.dz,E e.on=false->Φ e.on vs W)->fC P ops (λu c=>u=v/\C c/\Le W c) o (b vs) W)/\cL (i+1) l λvs=>(b vs).put o.dst v) (E i)
end
def cP{E:Nat->Bool}{i:Nat}{b:(Nat->Value)->Act}(h:∀vs W,C W->(∀j,j<i->E j=false->Φ j vs W)->Q .normal (b vs) W):cL P ops C Le E Φ Q i [] b:=h
def EM{E:Nat->Bool}{i:Nat}{o:Oper}{l:List Oper}{b:(Nat->Value)->Act}(v:Value)(hE:E i=true)
 (h:∀vs W,C W->(∀e∈o.dz,E e.on=false->Φ e.on vs W)->fC P ops (λu c=>u=v/\C c/\Le W c) o (b vs) W) (d:cL P ops C Le E Φ Q (i+1) l λvs=>(b vs).put o.dst v):cL P ops C Le E Φ Q i (o::l) b:=by
 rw[cL,hE];exact⟨v,h,d⟩
def EN{E:Nat->Bool}{i:Nat}{o:Oper}{l:List Oper}{b:(Nat->Value)->Act}(hE:E i=false)
 (h:∀vs W,C W->(∀e∈o.dz,E e.on=false->Φ e.on vs W)->fC P ops (λu c=>C c/\Le W c/\Φ i (upd vs i u) c) o (b vs) W) (d:cL P ops C Le E Φ Q (i+1) l λvs=>(b vs).put o.dst (vs i)):cL P ops C Le E Φ Q i (o::l) b:=by
 rw[cL,hE];exact⟨h,d⟩
def aY{E:Nat->Bool}{i:Nat}{o:Oper}{l:List Oper}{b b':(Nat->Value)->Act}(v:Value)(hE:E i=true)
 (h:∀vs W,C W->(∀e∈o.dz,E e.on=false->Φ e.on vs W)->fC P ops (λu c=>u=v/\C c/\Le W c) o (b vs) W) (hb:∀vs,(b vs).put o.dst v=b' vs) (d:cL P ops C Le E Φ Q (i+1) l b'):cL P ops C Le E Φ Q i (o::l) b:=
 EM v hE h ((funext hb:(λvs=>(b vs).put o.dst v)=b')▸d)
def eH{E:Nat->Bool}{i:Nat}{o:Oper}{l:List Oper}{b b':(Nat->Value)->Act}(hE:E i=false)
 (h:∀vs W,C W->(∀e∈o.dz,E e.on=false->Φ e.on vs W)->fC P ops (λu c=>C c/\Le W c/\Φ i (upd vs i u) c) o (b vs) W) (hb:∀vs,(b vs).put o.dst (vs i)=b' vs) (d:cL P ops C Le E Φ Q (i+1) l b'):cL P ops C Le E Φ Q i (o::l) b:=
 EN hE h ((funext hb:(λvs=>(b vs).put o.dst (vs i))=b')▸d)
def hbT{p:Prop}(h:p:=by intro vs;simp only[Act.put,List.setIfInBounds_toArray,List.set_cons_zero,List.set_cons_succ];rfl):p:=h
def uG(vs:Nat->Value)(i:Nat):∀(l:List Nat)(a:Act),cS ops vs (l++[i]) a=(cS ops vs l a).put (Region.fZ ops i) (vs i)
 |[],_=>rfl
 |j::l,a=>by simp only[ca,cS];exact uG vs i l _
def yA{vs b:Nat->Value}:∀(l:List Nat)(a:Act),(∀j∈l,vs j=b j)->cS ops vs l a=cS ops b l a
 |[],_,_=>rfl
 |j::l,a,h=>by simp only[cS];rw[h j (b1 ..)];exact yA l _ λk c=>h k (bX _ c)
def vR(E:Nat->Bool)(V vs:Nat->Value):Nat->Value:=λj=>if E j then V j else vs j
def Ch{K d:Value->World->Prop}(h:∀v W,K v W->d v W):∀{r:Result Next},qf P K r->qf P d r:=by
 intro r H
 match r,H with
 |.ok (.value v) b,H=>exact h v b H
 |.ok .skip b,H=>exact h undef b H
 |.ok (.enter f args) b,H=>exact Calls.mono H λe c⟨v,g,i⟩=>⟨v,g,h v c i⟩
def nu{K d:Value->World->Prop}(h:∀v W,K v W->d v W){o:Oper}{b:Act}{W:World}(H:fC P ops K o b W):fC P ops d o b W:=by
 unfold fC at *
 split
 ·rename_i c;rw[if_pos c]at H;exact Ch h H
 ·rename_i c;rw[if_neg c]at H;exact h _ _ H
def EO{o:Oper}{i:Nat}(c:tf ops)(g:ops[i]?=some o){vs d:Nat->Value}(hv:∀e∈o.dz,vs e.on=d e.on)(t:Nat)(n:t∈o.looksAt ops) :
 (cS ops vs (bM i) a).tmps[t]?=(cS ops d (bM i) a).tmps[t]?:=by
 by_cases h:∃j,Region.fZ ops j=some t
 ·obtain⟨j,b⟩:=h;obtain⟨e,l,rfl⟩:=c.look i o g j t b n;have m:=List.mem_range.2 (c.edge i o g e l).1;rw[gJ vs t e.on (λk f=>c.one _ _ _ f b) b _ a m,gJ d t e.on (λk f=>c.one _ _ _ f b) b _ a m,hv e l]
 ·rw[gI vs t _ a λj _ e=>h ⟨j,e⟩,gI d t _ a λj _ e=>h ⟨j,e⟩]
def Nk{o:Oper}{i:Nat}(c:tf ops)(d:ops[i]?=some o){vs b:Nat->Value}(hv:∀e∈o.dz,vs e.on=b e.on){K:Value->World->Prop}{W:World}
 (H:fC P ops K o (cS ops vs (bM i) a) W):fC P ops K o (cS ops b (bM i) a) W:=by
 have e1:ad (cS ops b (bM i) a).eval o=ad (cS ops vs (bM i) a).eval o:=by
  refine ae o (c.sel i o d) λx h=>?_
  cases x with
  |tmp t=>
   have f:t∈o.looksAt ops:=b9 _ (List.mem_filterMap.2 ⟨.tmp t,by simpa using h,rfl⟩);simp only[Act.eval,di,EO (a:=a) c d hv t f]
  |_=>rfl
 have j:du o (ac ops (cS ops b (bM i) a).tmps)=du o (ac ops (cS ops vs (bM i) a).tmps):=by
  unfold du
  cases hg:o.guard with
  |none=>rfl
  |some k=>
   obtain⟨g,want⟩:=k;have hy:ac ops (cS ops b (bM i) a).tmps g=ac ops (cS ops vs (bM i) a).tmps g:=by
    unfold ac
    cases f:(ops[g]?).bind (·.dst) with
    |none=>rfl
    |some t=>
     have:=EO (a:=a) c d hv t (by simp[Oper.looksAt,hg,f]);simp only[dy,this]
   simp only[hy]
 unfold fC at H ⊢;rw[e1,j];exact H
end
end
section
variable {P:ab}{ops:Array Oper}{C:World->Prop}{Le:World->World->Prop}{Φ:Nat->(Nat->Value)->World->Prop}{a:Act}{Q:Exit->Act->World->Prop}
def Region.Ih(ops:Array Oper)(i:Nat):List Nat:=match ops[i]? with
 |none=>[]
 |some o=>o.dz.toList.map Edge.on
def Region.Ci(ops:Array Oper):Nat->List Nat->List Nat
 |0,s=>s
 |f+1,s=>Region.Ci ops f (s++s.flatMap (Region.Ih ops)).eraseDups
def AM(p:Nat->Prop)(d:∀i,p i->∀j∈Region.Ih ops i,p j):∀(f:Nat)(s:List Nat),(∀i∈s,p i)->∀i∈Region.Ci ops f s,p i
 |0,_,h=>h
 |f+1,s,h=>AM p d f _ λi hi=>by
  rcases List.mem_append.1 (List.mem_eraseDups.1 hi) with b|b
  ·exact h i b
  ·obtain⟨x,e,c⟩:=List.mem_flatMap.1 b;exact d x (h x e) i c
structure Late(ops:Array Oper)(k:Nat):Prop where
 all:∀(i:Nat)(o:Oper),ops[i]?=some o->k<=i->∀j,j<k->j∈Region.Ci ops 4 (Region.Ih ops i)
 one:∀(i:Nat)(o:Oper),ops[i]?=some o->k<i->∃e∈o.dz,e.on+1=i
def Region.Kk(ops:Array Oper)(k:Nat):Bool:=decide (k<=ops.size)&&(bM ops.size).all λi=>match ops[i]? with
 |none=>true
 |some o=>decide (i<k)||(((bM k).all λj=>(Region.Ci ops 4 (Region.Ih ops i)).contains j)&&(i==k||o.dz.toList.any λe=>e.on+1==i))
def Kl{k:Nat}(h:Region.Kk ops k=true):k<=ops.size/\Late ops k:=by
 simp only[Region.Kk,cB,decide_eq_true_eq,bR,bT]at h;obtain⟨f,h⟩:=h;refine⟨f,λi o b hi j c=>?_,λi o b hi=>?_⟩
 ·have:=h i (Array.getElem?_eq_some_iff.1 b).1;rw[b]at this;simp only[cC,decide_eq_true_eq,cB,bR,bT,b8,beq_iff_eq]at this
  rcases this with this|⟨g,_⟩
  ·omega
  ·exact List.contains_iff_mem.1 (g j c)
 ·have:=h i (Array.getElem?_eq_some_iff.1 b).1;rw[b]at this;simp only[cC,decide_eq_true_eq,cB,bR,bT,b8,beq_iff_eq]at this
  rcases this with this|⟨_,d⟩
  ·omega
  ·rcases d with d|⟨e,l,c⟩
   ·omega
   ·exact⟨e,Array.mem_toList_iff.1 l,c⟩
def yB(p:tf ops){k:Nat}(v:Late ops k):∀(fuel m:Nat)(listed:Array Bool)(b:Act)(W:World),listed.size=ops.size->k<=m->m+fuel=ops.size->(∀j,j<ops.size->listed.getD j true=decide (j<m))->
 ag P ops Q (ops.toList.drop m) b W->wpAny P .any ops Q fuel listed b W
 |0,m,listed,b,W,hs,A,B,hl,h=>by
  have e:ops.toList.drop m=[]:=List.drop_eq_nil_of_le (by simp;omega);rw[e]at h;refine⟨List.filter_eq_nil_iff.2 λi hi=>?_,h⟩;have hi:=List.mem_range.1 hi;rw[hl i hi];simp;omega
 |fuel+1,m,listed,b,W,hs,A,B,hl,h=>by
  have f:m<ops.size:=by omega
  have q:ops[m]?=some ops[m]:=df f;have hd:ops.toList.drop m=ops[m]::ops.toList.drop (m+1):=by
   rw[List.drop_eq_getElem_cons (by simpa using f)];simp
  have w:m∈dv .any ops listed:=by
   refine List.mem_filter.2 ⟨List.mem_range.2 f,?_⟩;rw[hl m f];simp only[Nat.lt_irrefl,decide_false,db,dd,q,dC,dK,dk];intro e g
   cases hb:dt .any e with
   |false=>rfl
   |true=>
    have x:=(p.edge m _ q e (cH.2 ⟨g,hb⟩)).1;have r:=hl e.on (by omega);have l:e.on<listed.size:=by omega
    simp[l]at r;simp[l,r,x]
  refine⟨λD=>(by rw[D]at w;cases w),λi hi=>?_⟩;have s:i=m:=by
   obtain⟨E,t⟩:=List.mem_filter.1 hi;have d:=List.mem_range.1 E;have c:ops[i]?=some ops[i]:=df d;rw[c,hl i d]at t;simp only[cB,cQ,decide_eq_false_iff_not,dC,dK,dk]at t;obtain⟨r,l⟩:=t
   rcases bt m i with x|J
   ·obtain⟨e,g,F⟩:=v.one i _ c (by omega);have n:=l e (cH.1 g).1;rw[(p.edge i _ c e g).2]at n;have y:=hl e.on (by omega);have H:e.on<listed.size:=by omega
    simp[H]at n y;rw[y]at n;simp at n;omega
   ·omega
  subst s;rw[hd]at h;unfold wpOp;simp only[q];have next:∀b' o,ag P ops Q (ops.toList.drop (i+1)) b' o->wpAny P .any ops Q fuel (listed.setIfInBounds i true) b' o:=λb' o I=>by
   refine yB p v fuel (i+1) _ b' o (by simpa using hs) (by omega) (by omega) (λj z=>?_) I;by_cases e:i=j
   ·subst e;simp[hs,z]
   ·have:(listed.setIfInBounds i true).getD j true=listed.getD j true:=by simp[dj e]
    rw[this,hl j z];congr 1;simp only[eq_iff_iff];omega
  rw[ag]at h
  split
  ·rename_i u;rw[if_pos u]at h;exact h.imp (Oper.wp_mono next) id
  ·rename_i u;rw[if_neg u]at h;exact next _ _ h
end
section
variable {P:ab}{ops:Array Oper}{C:Bool->World->Prop}{Le:World->World->Prop}{Φ:Bool->Nat->(Nat->Value)->World->Prop}{X:Nat->Nat->Value->Value->Prop}{a:Act}{Q:Exit->Act->World->Prop}
def Cj{m:Nat}(J:tf ops){k:Nat}(hL:Late ops k)(By:k<=ops.size)(hX:∀i j u v,X i j u v->X j i v u)(rL:∀(i:Nat)(o:Oper),ops[i]?=some o->∀vs eX W,vs i=eX i->(∀e∈o.dz,vs e.on=eX e.on)->∀b,Φ b i vs W->Φ b i eX W)
 (aB:∀(i:Nat)(o:Oper),ops[i]?=some o->i<k->∀vs W(D:List Nat)(b:Bool),(i=m->b=false)->C b W->(∀e∈o.dz,e.on∈D)->i∉D->(∀j∈D,j<ops.size)->(∀j∈D,∀o,ops[j]?=some o->∀e∈o.dz,e.on∈D)->(∀j∈D,Φ b j vs W)->(∀j∈D,∀k∈D,j≠k->X j k (vs j) (vs k))->fC P ops (λv d=>C (b||decide (i=m)) d/\(∀j∈D,Φ (b||decide (i=m)) j vs d)/\Φ (b||decide (i=m)) i (upd vs i v) d/\∀j∈D,X j i (vs j) v) o (cS ops vs (bM i) a) W)
 (hQ:∀vs W b,(m<k->b=true)->C b W->(∀i,i<k->Φ b i vs W)->(∀i j,i<k->j<k->i≠j->X i j (vs i) (vs j))->ag P ops Q (ops.toList.drop k) (cS ops vs (bM k) a) W) :
 ∀(fuel:Nat)(listed:Array Bool)(vs:Nat->Value)(W:World),listed.size=ops.size->(bM ops.size).countP (λi=>!listed.getD i true)=fuel->C (listed.getD m false) W->(∀i∈cO ops listed,Φ (listed.getD m false) i vs W)->(∀i∈cO ops listed,∀j∈cO ops listed,i≠j->X i j (vs i) (vs j))->(∀i∈cO ops listed,∀o,ops[i]?=some o->∀e∈o.dz,e.on∈cO ops listed)->(∀i,k<=i->i<ops.size->listed.getD i true=false)->
  wpAny P .any ops Q fuel listed (cS ops vs (cO ops listed) a) W:=by
 have fin:∀(fuel:Nat)(listed:Array Bool)(vs:Nat->Value)(W:World),listed.size=ops.size->(bM ops.size).countP (λi=>!listed.getD i true)=fuel->(∀i,i<k->listed.getD i true=true)->(∀i,k<=i->i<ops.size->listed.getD i true=false)->C (listed.getD m false) W->(∀i∈cO ops listed,Φ (listed.getD m false) i vs W)->(∀i∈cO ops listed,∀j∈cO ops listed,i≠j->X i j (vs i) (vs j))->wpAny P .any ops Q fuel listed (cS ops vs (cO ops listed) a) W:=by
  intro fuel listed vs W hs hc oh K L z t;have A:∀j,j<ops.size->listed.getD j true=decide (j<k):=λj c=>by
   by_cases h:j<k
   ·rw[oh j h];simp[h]
   ·rw[K j (by omega) c];simp[h]
  have e:cO ops listed=bM k:=by
   unfold cO;have:(bM ops.size).filter (λi=>listed.getD i true)=(bM ops.size).filter (λi=>decide (i<k)):=List.filter_congr λi hi=>A i (List.mem_range.1 hi);rw[this];have e2:bM ops.size=bM k++(bM (ops.size-k)).map (k + ·):=by
    rw[<-cb];congr 1;omega
   rw[e2,List.filter_append,List.filter_eq_self.2 λi hi=>by simpa using List.mem_range.1 hi,List.filter_eq_nil_iff.2 λi hi=>?_,List.append_nil];obtain⟨x,_,rfl⟩:=List.mem_map.1 hi;simp
  have afx:k+fuel=ops.size:=by
   rw[<-hc];have:(bM ops.size).countP (λi=>!listed.getD i true)=(bM ops.size).countP (λi=>decide (¬i<k)):=cc λi hi=>by rw[A i (List.mem_range.1 hi)];simp
   rw[this];have e2:bM ops.size=bM k++(bM (ops.size-k)).map (k + ·):=by
    rw[<-cb];congr 1;omega
   rw[e2,List.countP_append,List.countP_eq_zero.2 λi hi=>?_,List.countP_eq_length.2 λi hi=>?_]
   ·simp;omega
   ·obtain⟨x,_,rfl⟩:=List.mem_map.1 hi;simp
   ·simpa using List.mem_range.1 hi
  rw[e]at z t ⊢;exact yB J hL fuel k listed _ W hs (br _) afx A (hQ vs W _ (λhmk=>by have B:=oh m hmk;have n:m<listed.size:=(by omega);simp[n]at B⊢;exact B) L (λi hi=>z i (List.mem_range.2 hi)) λi j hi c=>t i (List.mem_range.2 hi) j (List.mem_range.2 c))
 have nil:∀(listed:Array Bool),listed.size=ops.size->dv .any ops listed=[]->∀i,i<ops.size->listed.getD i true=true:=by
  intro listed hs hr i
  induction i using bu with
  |_ i O=>
   intro hi;by_cases hu:listed.getD i true=true
   ·exact hu
   ·have w:i∈dv .any ops listed:=by
     refine List.mem_filter.2 ⟨List.mem_range.2 hi,?_⟩;have p:ops[i]?=some ops[i]:=df hi;have hu':listed.getD i true=false:=by simpa using hu
     simp only[hu',db,dd,p,dC,dK,dk];intro e g
     cases hb:dt .any e with
     |false=>rfl
     |true=>
      have aH:=(J.edge i _ p e (cH.2 ⟨g,hb⟩)).1;have:=O e.on aH (by omega);have R:e.on<listed.size:=by omega
      simp[R]at this;simp[R,this]
    rw[hr]at w;cases w
 intro fuel
 induction fuel with
 |zero=>
  intro listed vs W hs hc L z t _ K;refine fin 0 listed vs W hs hc (λi hi=>?_) K L z t;have:=List.countP_eq_zero.1 hc i (List.mem_range.2 (by omega));simpa using this
 |succ fuel O=>
  intro listed vs W hs hc L z t s K;by_cases Rq:∀i,i<k->listed.getD i true=true
  ·exact fin (fuel+1) listed vs W hs hc Rq K L z t
  refine⟨λhr=>absurd (λi hi=>nil listed hs hr i (by omega)) Rq,λi hi=>?_⟩;obtain⟨Gu,Xj⟩:=List.mem_filter.1 hi;have F:=List.mem_range.1 Gu;have p:ops[i]?=some ops[i]:=df F;rw[p]at Xj;simp only[cB,cQ,dC,dK,dk]at Xj;obtain⟨I,oh⟩:=Xj;have S:∀e∈ops[i].dz,e.on∈cO ops listed:=λe g=>by
   have:=oh e (cH.1 g).1;have hb:=J.edge i _ p e g;rw[hb.2]at this;have R:e.on<listed.size:=by omega
   simp[R]at this;exact List.mem_filter.2 ⟨List.mem_range.2 (by omega),by simp[R,this]⟩
  have hik:i<k:=by
   rcases bt i k with h|h
   ·exact h
   ·refine absurd (λj c=>?_) Rq;have key:=AM (ops:=ops) (λx=>x∈cO ops listed) (λx T y hy=>?_) 4 (Region.Ih ops i) (λy hy=>?_) j (hL.all i _ p h j c)
    ·exact(List.mem_filter.1 key).2
    ·have U:ops[x]?=some ops[x]!:=by
      have:=List.mem_range.1 (List.mem_filter.1 T).1;simp[this]
     unfold Region.Ih at hy;rw[U]at hy;obtain⟨e,g,rfl⟩:=List.mem_map.1 hy;exact s x T _ U e (Array.mem_toList_iff.1 g)
    ·unfold Region.Ih at hy;rw[p]at hy;obtain⟨e,g,rfl⟩:=List.mem_map.1 hy;exact S e (Array.mem_toList_iff.1 g)
  have ald:i∉cO ops listed:=λc=>by
   have:=(List.mem_filter.1 c).2;rw[I]at this;cases this
  have H:=aB i _ p hik vs W (cO ops listed) (listed.getD m false) (λe=>by subst e;have n:i<listed.size:=(by omega);simp[n]at I ⊢;exact I) L S ald (λj c=>List.mem_range.1 (List.mem_filter.1 c).1) s z t;have next:∀v d,(C (listed.getD m false||decide (i=m)) d/\(∀j∈cO ops listed,Φ (listed.getD m false||decide (i=m)) j vs d)/\Φ (listed.getD m false||decide (i=m)) i (upd vs i v) d/\∀j∈cO ops listed,X j i (vs j) v)->wpAny P .any ops Q fuel (listed.setIfInBounds i true) ((cS ops vs (cO ops listed) a).put ops[i].dst v) d:=by
   rintro v d⟨hC0,V,hv,T⟩;have hC':C ((listed.setIfInBounds i true).getD m false) d:=by
    have e:(listed.setIfInBounds i true).getD m false=(listed.getD m false||decide (i=m)):=by
     by_cases e:i=m
     ·subst e;have n:i<listed.size:=(by omega)
      simp[n]
     ·simp[dj e,e]
    rw[e];exact hC0
   have e0:(listed.getD m false||decide (i=m))=(listed.setIfInBounds i true).getD m false:=by
    by_cases e:i=m
    ·subst e;have n:i<listed.size:=(by omega)
     simp[n]
    ·simp[dj e,e]
   rw[e0]at V hv;rw[Rp J p hs I vs v];have w:∀j,j∈cO ops (listed.setIfInBounds i true)->j=i\/j∈cO ops listed:=λj c=>by
    obtain⟨B,n⟩:=List.mem_filter.1 c;by_cases e:j=i
    ·exact .inl e
    ·exact .inr (List.mem_filter.2 ⟨B,by simpa[dj (Ne.symm e)]using n⟩)
   have Xs:∀j,j∈cO ops listed->j∈cO ops (listed.setIfInBounds i true):=λj c=>by
    obtain⟨B,n⟩:=List.mem_filter.1 c;by_cases e:j=i
    ·subst e;rw[I]at n;cases n
    ·exact List.mem_filter.2 ⟨B,by simpa[dj (Ne.symm e)]using n⟩
   have M:∀j,j∈cO ops listed->j≠i:=λj c e=>by
    subst e;have:=(List.mem_filter.1 c).2;rw[I]at this;cases this
   refine O _ _ d (by simpa using hs) ?_ hC' (λj c=>?_) (λj c k N Wk=>?_) (λj c o' qx e g=>?_) (λj c hjn=>by have Y:i≠j:=(by omega);simpa[dj Y]using K j c hjn)
   ·have B:(bM ops.size).countP (λj=>!listed.getD j true)=(bM ops.size).countP (λj=>!(listed.setIfInBounds i true).getD j true)+1:=by
     have key:∀l:List Nat,l.Nodup->i∈l->l.countP (λj=>!listed.getD j true)=l.countP (λj=>!(listed.setIfInBounds i true).getD j true)+1:=by
      intro l hn
      induction l with
      |nil=>intro h;cases h
      |cons k l O=>
       intro h;obtain⟨N,TH⟩:=List.nodup_cons.1 hn;by_cases e:k=i
       ·subst e;have same:l.countP (λj=>!listed.getD j true)=l.countP (λj=>!(listed.setIfInBounds k true).getD j true):=by
         refine cc λj c=>?_;have Y:k≠j:=λe=>N (e▸c);simp[dj Y]
        have hks:k<listed.size:=by omega
        rw[cd,cd,same,I];simp[hks]
       ·have F:i∈l:=by rcases List.mem_cons.1 h with Z|Z;exact absurd Z.symm e;exact Z
        have Y:i≠k:=λZ=>e Z.symm;rw[cd,cd,O TH F];have:(listed.setIfInBounds i true).getD k true=listed.getD k true:=by simp[dj Y]
        rw[this];omega
     exact key _ List.nodup_range Gu
    omega
   ·rcases w j c with rfl|q
    ·exact hv
    ·have hjo:ops[j]?=some ops[j]!:=by
      have:=List.mem_range.1 (List.mem_filter.1 q).1;simp[this]
     refine rL j _ hjo vs _ d ?_ (λe g=>?_) _ (V j q)
     ·simp only[upd];rw[if_neg (M j q)]
     ·have:=M _ (s j q _ hjo e g);simp only[upd];rw[if_neg this]
   ·rcases w j c with rfl|q
    ·rcases w k N with rfl|rm
     ·exact absurd rfl Wk
     ·simp only[upd,if_pos,if_neg (M k rm)];exact hX _ _ _ _ (T k rm)
    ·rcases w k N with rfl|rm
     ·simp only[upd,if_pos,if_neg (M j q)];exact T j q
     ·simp only[upd,if_neg (M j q),if_neg (M k rm)];exact t j q k rm Wk
   ·rcases w j c with rfl|q
    ·rw[p]at qx;cases qx;exact Xs _ (S e g)
    ·exact Xs _ (s j q o' qx e g)
  unfold wpOp;simp only[p];unfold fC at H;rw[<-EL (a:=a) J p S vs,<-Nj (a:=a) J p S vs]at H
  split
  ·rename_i hw;rw[if_pos hw]at H;left;unfold Oper.wp;generalize(ad (cS ops vs (cO ops listed) a).eval ops[i]).run P W=r at H ⊢
   match r,H with
   |.ok (.value v) d,H=>exact next v d H
   |.ok .skip d,H=>exact next undef d H
   |.ok (.enter f args) d,H=>exact Calls.mono H λe W''⟨v,g,N⟩=>by subst g;exact next v W'' N
  ·rename_i hw;rw[if_neg hw]at H;exact next undef W H
section
variable (P:ab)(ops:Array Oper)(m:Nat)(C:Bool->World->Prop)(Le:World->World->Prop)(E:Nat->Bool)(Φ:Bool->Nat->(Nat->Value)->World->Prop)(X:Nat->Nat->Value->Value->Prop)(Q:Exit->Act->World->Prop)
def cr:Nat->List Oper->((Nat->Value)->Act)->Prop
 |i,[],b=>∀vs W c,(m<i->c=true)->C c W->(∀j,j<i->E j=false->Φ c j vs W)->(∀j k,j<i->k<i->j≠k->E j=false->E k=false->X j k (vs j) (vs k))->Q .normal (b vs) W
 |i,o::l,b=>@da (λ_=>Prop)
  ((∀vs W(D:List Nat)(c:Bool),(i=m->c=false)->C c W->(∀e∈o.dz,e.on∈D)->i∉D->(∀j∈D,∀o,ops[j]?=some o->∀e∈o.dz,e.on∈D)->(∀j∈D,E j=false->Φ c j vs W)->(∀j∈D,∀k∈D,j≠k->E j=false->E k=false->X j k (vs j) (vs k))->fC P ops (λu d=>C (c||decide (i=m)) d/\(∀j∈D,E j=false->Φ (c||decide (i=m)) j vs d)/\Φ (c||decide (i=m)) i (upd vs i u) d/\∀j∈D,E j=false->X j i (vs j) u) o (b vs) W)/\cr (i+1) l λvs=>(b vs).put o.dst (vs i))
  (∃v,(∀vs W c,C c W->(∀e∈o.dz,E e.on=false->Φ c e.on vs W)->fC P ops (λu d=>u=v/\C c d/\Le W d) o (b vs) W)/\cr (i+1) l λvs=>(b vs).put o.dst v) (E i)
end
def nv{E:Nat->Bool}{m:Nat}{i:Nat}{b:(Nat->Value)->Act}(h:∀vs W c,(m<i->c=true)->C c W->(∀j,j<i->E j=false->Φ c j vs W)->(∀j k,j<i->k<i->j≠k->E j=false->E k=false->X j k (vs j) (vs k))->Q .normal (b vs) W):cr P ops m C Le E Φ X Q i [] b:=h
def Ck{E:Nat->Bool}{m:Nat}{i:Nat}{o:Oper}{l:List Oper}{b:(Nat->Value)->Act}(v:Value)(hE:E i=true)
 (h:∀vs W c,C c W->(∀e∈o.dz,E e.on=false->Φ c e.on vs W)->fC P ops (λu d=>u=v/\C c d/\Le W d) o (b vs) W) (f:cr P ops m C Le E Φ X Q (i+1) l λvs=>(b vs).put o.dst v):cr P ops m C Le E Φ X Q i (o::l) b:=by
 rw[cr,hE];exact⟨v,h,f⟩
def Cl{E:Nat->Bool}{m:Nat}{i:Nat}{o:Oper}{l:List Oper}{b:(Nat->Value)->Act}(hE:E i=false)
 (h:∀vs W(D:List Nat)(c:Bool),(i=m->c=false)->C c W->(∀e∈o.dz,e.on∈D)->i∉D->(∀j∈D,∀o,ops[j]?=some o->∀e∈o.dz,e.on∈D)->(∀j∈D,E j=false->Φ c j vs W)->(∀j∈D,∀k∈D,j≠k->E j=false->E k=false->X j k (vs j) (vs k))->fC P ops (λu d=>C (c||decide (i=m)) d/\(∀j∈D,E j=false->Φ (c||decide (i=m)) j vs d)/\Φ (c||decide (i=m)) i (upd vs i u) d/\∀j∈D,E j=false->X j i (vs j) u) o (b vs) W) (f:cr P ops m C Le E Φ X Q (i+1) l λvs=>(b vs).put o.dst (vs i)):cr P ops m C Le E Φ X Q i (o::l) b:=by
 rw[cr,hE];exact⟨h,f⟩
def iK{E:Nat->Bool}{m:Nat}{i:Nat}{o:Oper}{l:List Oper}{b b':(Nat->Value)->Act}(v:Value)(hE:E i=true)
 (h:∀vs W c,C c W->(∀e∈o.dz,E e.on=false->Φ c e.on vs W)->fC P ops (λu d=>u=v/\C c d/\Le W d) o (b vs) W) (hb:∀vs,(b vs).put o.dst v=b' vs) (f:cr P ops m C Le E Φ X Q (i+1) l b'):cr P ops m C Le E Φ X Q i (o::l) b:=
 Ck v hE h ((funext hb:(λvs=>(b vs).put o.dst v)=b')▸f)
def ey{E:Nat->Bool}{m:Nat}{i:Nat}{o:Oper}{l:List Oper}{b b':(Nat->Value)->Act}(hE:E i=false)
 (h:∀vs W(D:List Nat)(c:Bool),(i=m->c=false)->C c W->(∀e∈o.dz,e.on∈D)->i∉D->(∀j∈D,∀o,ops[j]?=some o->∀e∈o.dz,e.on∈D)->(∀j∈D,E j=false->Φ c j vs W)->(∀j∈D,∀k∈D,j≠k->E j=false->E k=false->X j k (vs j) (vs k))->fC P ops (λu d=>C (c||decide (i=m)) d/\(∀j∈D,E j=false->Φ (c||decide (i=m)) j vs d)/\Φ (c||decide (i=m)) i (upd vs i u) d/\∀j∈D,E j=false->X j i (vs j) u) o (b vs) W) (hb:∀vs,(b vs).put o.dst (vs i)=b' vs) (f:cr P ops m C Le E Φ X Q (i+1) l b'):cr P ops m C Le E Φ X Q i (o::l) b:=
 Cl hE h ((funext hb:(λvs=>(b vs).put o.dst (vs i))=b')▸f)
def ny{E:Nat->Bool}{m:Nat}(H:E m=false)(I:∀b i vs W r,Le W r->Φ b i vs W->Φ b i vs r):∀(l:List Oper)(i:Nat)(b:(Nat->Value)->Act),(∀j,j<l.length->l[j]?=ops[i+j]?)->cr P ops m C Le E Φ X Q i l b->
 ∃V:Nat->Value,(∀(j:Nat)(o:Oper),i<=j->j<i+l.length->ops[j]?=some o->∃y:(Nat->Value)->Act,(∀vs(a0:Act),(∀k,i<=k->E k=true->vs k=V k)->b vs=cS ops vs (bM i) a0->y vs=cS ops vs (bM j) a0)/\
  (∀vs W(D:List Nat)(c:Bool),(j=m->c=false)->C c W->(∀e∈o.dz,e.on∈D)->j∉D->(∀j∈D,∀o,ops[j]?=some o->∀e∈o.dz,e.on∈D)->(∀j∈D,E j=false->Φ c j vs W)->(∀j∈D,∀k∈D,j≠k->E j=false->E k=false->X j k (vs j) (vs k))->fC P ops (λu r=>(E j=true->u=V j)/\C (c||decide (j=m)) r/\(∀k∈D,E k=false->Φ (c||decide (j=m)) k vs r)/\(E j=false->Φ (c||decide (j=m)) j (upd vs j u) r)/\∀k∈D,E k=false->E j=false->X k j (vs k) u) o (y vs) W))/\
  (∀vs W(a0:Act),(∀k,i<=k->E k=true->vs k=V k)->b vs=cS ops vs (bM i) a0->∀c,(m<i+l.length->c=true)->C c W->(∀j,j<i+l.length->E j=false->Φ c j vs W)->(∀j k,j<i+l.length->k<i+l.length->j≠k->E j=false->E k=false->X j k (vs j) (vs k))->Q .normal (cS ops vs (bM (i+l.length)) a0) W)
 |[],i,b,hl,h=>by
  refine⟨λ_=>undef,λj o J z Z=>?_,λvs W a0 _ hb c f d A g=>by rw[ce,Nat.add_zero,<-hb];exact h vs W c (by simpa using f) d A g⟩;simp only[ce]at z;omega
 |o::l,i,b,hl,h=>by
  have hlen:i+(o::l).length=i+1+l.length:=by simp only[cf];omega
  rw[hlen];have K:ops[i]?=some o:=by simpa using(hl 0 (by simp)).symm
  have hd:Region.fZ ops i=o.dst:=by simp[Region.fZ,K]
  have U:∀j,j<l.length->l[j]?=ops[i+1+j]?:=λj J=>by have:=hl (j+1) (by simp only[cf];omega);simpa[bv,Nat.add_comm 1 j]using this
  cases n:E i with
  |true=>
   rw[cr,n]at h;obtain⟨v,L,M⟩:=h;obtain⟨V,k1,k2⟩:=ny H I l (i+1) _ U M;have step:∀vs(a0:Act),(∀k,i<=k->E k=true->vs k=(λj=>if j=i then v else V j) k)->b vs=cS ops vs (bM i) a0->(b vs).put o.dst v=cS ops vs (bM (i+1)) a0:=λvs a0 hv hb=>by
    rw[cg,uG,<-hb,hd,hv i (br _) n];simp
   refine⟨λj=>if j=i then v else V j,λj N J z s=>?_,λvs W a0 hv hb c f d A g=>k2 vs W a0 (λk t p=>by rw[hv k (by omega) p];simp only;rw[if_neg (by omega)]) (step vs a0 hv hb) c f d A g⟩;by_cases e:j=i
   ·subst e;rw[K]at s;cases s;refine⟨b,λvs a0 _ hb=>hb,λvs W D c f d B q F hd g=>?_⟩;refine nu ?_ (L vs W c d λe p n=>hd _ (B e p) n);rintro u r⟨O,w,x⟩;rw[decide_eq_false (λe=>by rw[e,H]at n;cases n),Bool.or_false];exact⟨λ_=>by simpa using O,w,λk t R=>I _ _ _ _ _ x (hd k t R),λh=>absurd (n.symm.trans h) (by decide),λ_ _ _ h=>absurd (n.symm.trans h) (by decide)⟩
   ·obtain⟨y,S,T⟩:=k1 j N (by omega) z s;refine⟨y,λvs a0 hv hb=>S vs a0 (λk t p=>by rw[hv k (by omega) p];simp only;rw[if_neg (by omega)]) (step vs a0 hv hb),λvs W D c f d B q F hd g=>?_⟩;have:=T vs W D c f d B q F hd g;simpa only[if_neg e]using this
  |false=>
   rw[cr,n]at h;obtain⟨L,M⟩:=h;obtain⟨V,k1,k2⟩:=ny H I l (i+1) _ U M;have step:∀vs(a0:Act),b vs=cS ops vs (bM i) a0->(b vs).put o.dst (vs i)=cS ops vs (bM (i+1)) a0:=λvs a0 hb=>by
    rw[cg,uG,<-hb,hd]
   refine⟨V,λj N J z s=>?_,λvs W a0 hv hb c f d A g=>k2 vs W a0 (λk t p=>hv k (by omega) p) (step vs a0 hb) c f d A g⟩;by_cases e:j=i
   ·subst e;rw[K]at s;cases s;refine⟨b,λvs a0 _ hb=>hb,λvs W D c f d B q F hd g=>?_⟩;refine nu ?_ (L vs W D c f d B q F hd g);rintro u r⟨w,x,O,Y⟩;exact⟨λh=>absurd (n.symm.trans h) (by decide),w,x,λ_=>O,λk t R _=>Y k t R⟩
   ·obtain⟨y,S,T⟩:=k1 j N (by omega) z s;exact⟨y,λvs a0 hv hb=>S vs a0 (λk t p=>hv k (by omega) p) (step vs a0 hb),T⟩
def mA(k:Nat){id:Nat}{w:World}(m:Nat)(C:Bool->World->Prop)(Le:World->World->Prop)(E:Nat->Bool)(Φ:Bool->Nat->(Nat->Value)->World->Prop)(X:Nat->Nat->Value->Value->Prop)(hX:∀i j u v,X i j u v->X j i v u)(hm:P.follows .mixedOrders=true)(hB:Region.Ig ops=true)(YZ:k<=ops.size/\Late ops k)
 (Xk:E m=false) (aF:∀b i vs W r,Le W r->Φ b i vs W->Φ b i vs r) (s:∀(i:Nat)(o:Oper),ops[i]?=some o->∀vs t W,vs i=t i->(∀e∈o.dz,vs e.on=t e.on)->∀b,Φ b i vs W->Φ b i t W) (x:C false w.drew)
 (H:cr P ops m C Le E Φ X (λ_ b W=>ag P ops Q (ops.toList.drop k) b W) 0 (ops.toList.take k) λ_=>a):(dL id ops true).wp P Q a w:=by
 have y:=Ro hB;obtain⟨By,hL⟩:=YZ;obtain⟨V,S,T⟩:=ny Xk aF (ops.toList.take k) 0 _ (λj f=>by simp at f;simp[List.getElem?_take_of_lt (show j<k by omega)]) H;have FH:0+(ops.toList.take k).length=k:=by simp;omega
 rw[FH]at S T;refine wp_region_any hm ?_;have hd:cO ops (dl ops.size false)=[]:=by
  refine List.filter_eq_nil_iff.2 λi hi=>?_;have:=List.mem_range.1 hi;simp[this]
 have start:=Cj (P:=P) (a:=a) (Q:=Q) (m:=m) (C:=C) (X:=λi j u v=>E i=false->E j=false->X i j u v) (Φ:=λb i vs W=>(E i=true->vs i=V i)/\(∀o,ops[i]?=some o->∀e∈o.dz,E e.on=true->vs e.on=V e.on)/\(E i=false->Φ b i vs W)) y hL By (λi j u v h f hi=>hX _ _ _ _ (h hi f))
  (λi o l vs t W e1 U b h=>⟨λe=>e1▸h.1 e,λo' g e d n=>(by rw[l]at g;cases g;rw[<-U e d];exact h.2.1 o l e d n),λe=>s i o l vs t W e1 U b (h.2.2 e)⟩) (λi o l F vs W D I J x K L M N hd O=>?_) (λvs W I J x Y O=>?_) ops.size (dl ops.size false) (λ_=>undef) w.drew (by simp) (by
   rw[List.countP_eq_length.2]
   ·simp
   ·intro i hi;have:=List.mem_range.1 hi
    simp[this]) (by have e:(dl ops.size false).getD m false=false:=(by rw[di,Array.getElem?_replicate];split<;>rfl);rw[e];exact x) (by rw[hd];intro i hi;cases hi) (by rw[hd];intro i hi;cases hi) (by rw[hd];intro i hi;cases hi) (λi _ hi=>by simp[hi])
 ·rw[hd]at start;exact start
 ·obtain⟨bj,g1,g2⟩:=S i o (bp _) F l;have p:∀k∈D,vR E V vs k=vs k:=λk c=>by
   unfold vR
   split
   ·rename_i h;exact((hd k c).1 h).symm
   ·rfl
  have z:∀e∈o.dz,vR E V vs e.on=vs e.on:=λe d=>p _ (K e d);have hb:=g1 (vR E V vs) a (λk _ d=>by simp[vR,d]) rfl;have A:∀k∈D,∀b W,Φ b k (vR E V vs) W↔Φ b k vs W:=λk c b W=>by
   have g:ops[k]?=some ops[k]!:=by simp[M k c]
   exact⟨s k _ g _ _ W (p k c) (λe d=>p _ (N k c _ g e d)) b,s k _ g _ _ W (p k c).symm (λe d=>(p _ (N k c _ g e d)).symm) b⟩
  have:=g2 (vR E V vs) W D I J x K L N (λk c n=>(A k c _ W).2 ((hd k c).2.2 n)) (λj f k c R q B=>by rw[p j f,p k c];exact O j f k c R q B);rw[hb]at this;refine nu ?_ (Nk y l z this);rintro v r⟨a1,a2,a3,a4,a5⟩;refine⟨a2,λk c=>⟨(hd k c).1,(hd k c).2.1,λn=>(A k c _ r).1 (a3 k c n)⟩,⟨λe=>by simp[upd,a1 e],λo' g e d n=>?_,λe=>?_⟩,λk c B hiE=>by rw[<-p k c];exact a5 k c B hiE⟩
  ·rw[l]at g;cases g;have:=(y.edge i o l e d).1;simp only[upd];rw[if_neg (by omega)];exact(hd _ (K e d)).1 n
  refine s i o l _ _ r (by simp[upd]) (λZ Xo=>?_) _ (a4 e);have:=(y.edge i o l Z Xo).1;simp only[upd];rw[if_neg (by omega),if_neg (by omega),z Z Xo]
 ·have hv:∀j,j<k->vR E V vs j=vs j:=λj f=>by
   unfold vR
   split
   ·rename_i h;exact((Y j f).1 h).symm
   ·rfl
  rw[<-yA (vs:=vR E V vs) _ _ λj f=>hv j (List.mem_range.1 f)];refine T (vR E V vs) W a (λk _ d=>by simp[vR,d]) rfl I J x (λj f n=>?_) (λj k f c R q B=>by rw[hv j f,hv k c];exact O j k f c R q B);have g:ops[j]?=some ops[j]!:=by have:j<ops.size:=(by omega);simp[this]
  refine s j _ g vs _ W (hv j f).symm (λe d=>(hv e.on (by have:=(y.edge j _ g e d).1;omega)).symm) _ ((Y j f).2.2 n)
def iL(k:Nat){id:Nat}{w:World}(m:Nat)(C:Bool->World->Prop)(Le:World->World->Prop)(E:Nat->Bool)(Φ:Bool->Nat->(Nat->Value)->World->Prop)(X:Nat->Nat->Value->Value->Prop)(f:∀i j u v,X i j u v->X j i v u)(g:P.follows .mixedOrders=true)(h:Region.Ig ops=true)(l:Region.Kk ops k=true)
 (n:E m=false) (p:∀b i vs W d,Le W d->Φ b i vs W->Φ b i vs d) (q:∀(i:Nat)(o:Oper),ops[i]?=some o->∀vs c W,vs i=c i->(∀e∈o.dz,vs e.on=c e.on)->∀b,Φ b i vs W->Φ b i c W) (r:C false w.drew)
 (H:cr P ops m C Le E Φ X (λ_ b W=>ag P ops Q (ops.toList.drop k) b W) 0 (ops.toList.take k) λ_=>a):(dL id ops true).wp P Q a w:=
 mA k m C Le E Φ X f g h (Kl l) n p q r H
section
variable {C:World->Prop}{Φ:Nat->(Nat->Value)->World->Prop}
def uH{E:Nat->Bool}{n:Nat}(p:∀i vs W f,Le W f->Φ i vs W->Φ i vs f):∀(l:List Oper)(i:Nat)(b:(Nat->Value)->Act),i+l.length<=n->cL P ops C Le E Φ Q i l b->
 cr P ops n (λ_=>C) Le (λj=>E j&&decide (j<n)) (λ_=>Φ) (λ_ _ _ _=>True) Q i l b
 |[],i,b,_,h=>λvs W _ _ c hd _=>h vs W c λj q g=>hd j q (by simp[g])
 |o::l,i,b,hl,h=>by
  have hi:i<n:=by simp at hl;omega
  have s:i+1+l.length<=n:=by simp at hl;omega
  rw[cL]at h;rw[cr]
  cases g:E i with
  |true=>
   simp only[g,decide_eq_true hi,Bool.and_self]at h⊢;obtain⟨v,u,w⟩:=h;exact⟨v,λvs W _ c hd=>u vs W c λe r d=>hd e r (by simp[d]),uH p l _ _ s w⟩
  |false=>
   simp only[g,Bool.false_and]at h⊢;refine⟨λvs W D _ _ c x _ _ t _=>?_,uH p l _ _ s h.2⟩;exact nu (λv f k=>⟨k.1,λj q d=>p j vs W f k.2.1 (t j q d),k.2.2,λ_ _ _=>trivial⟩) (h.1 vs W c λe r d=>t e.on (x e r) (by simp[d]))
def mB(k:Nat){id:Nat}{w:World}(C:World->Prop)(Le:World->World->Prop)(E:Nat->Bool)(Φ:Nat->(Nat->Value)->World->Prop)(g:P.follows .mixedOrders=true)(h:Region.Ig ops=true)(l:k<=ops.size/\Late ops k)
 (d:∀i vs W f,Le W f->Φ i vs W->Φ i vs f) (n:∀(i:Nat)(o:Oper),ops[i]?=some o->∀vs c W,vs i=c i->(∀e∈o.dz,vs e.on=c e.on)->Φ i vs W->Φ i c W) (p:C w.drew)
 (H:cL P ops C Le E Φ (λ_ b W=>ag P ops Q (ops.toList.drop k) b W) 0 (ops.toList.take k) λ_=>a):(dL id ops true).wp P Q a w:=
 mA k ops.size (λ_=>C) Le (λj=>E j&&decide (j<ops.size)) (λ_=>Φ) (λ_ _ _ _=>True) (λ_ _ _ _ _=>trivial) g h l (by simp) (λ_=>d) (λi o q vs c W e1 r _=>n i o q vs c W e1 r) p
  (uH d _ _ _ (by simp;omega) H)
def cT(k:Nat){id:Nat}{w:World}(C:World->Prop)(Le:World->World->Prop)(E:Nat->Bool)(Φ:Nat->(Nat->Value)->World->Prop)(f:P.follows .mixedOrders=true)(g:Region.Ig ops=true)(h:Region.Kk ops k=true)
 (j:∀i vs W d,Le W d->Φ i vs W->Φ i vs d) (l:∀(i:Nat)(o:Oper),ops[i]?=some o->∀vs c W,vs i=c i->(∀e∈o.dz,vs e.on=c e.on)->Φ i vs W->Φ i c W) (n:C w.drew)
 (H:cL P ops C Le E Φ (λ_ b W=>ag P ops Q (ops.toList.drop k) b W) 0 (ops.toList.take k) λ_=>a):(dL id ops true).wp P Q a w:=
 mB k C Le E Φ f g (Kl h) j l n H
def uI{E:Nat->Bool}{c:Exit->Act->World->Prop}(h:∀b W,Q .normal b W->c .normal b W):∀(l:List Oper)(i:Nat)(b:(Nat->Value)->Act),cL P ops C Le E Φ Q i l b->cL P ops C Le E Φ c i l b
 |[],_,_,k=>λvs W e hd=>h _ _ (k vs W e hd)
 |o::l,i,b,k=>by
  rw[cL]at k ⊢
  cases d:E i with
  |true=>simp only[d]at k ⊢;obtain⟨v,f,g⟩:=k;exact⟨v,f,uI h l _ _ g⟩
  |false=>simp only[d]at k ⊢;exact⟨k.1,uI h l _ _ k.2⟩
def ig{id:Nat}{w:World}(C:World->Prop)(Le:World->World->Prop)(E:Nat->Bool)(Φ:Nat->(Nat->Value)->World->Prop)(g:P.follows .mixedOrders=true)(j:Region.Ig ops=true)
 (k:∀i vs W f,Le W f->Φ i vs W->Φ i vs f) (l:∀(i:Nat)(o:Oper),ops[i]?=some o->∀vs d W,vs i=d i->(∀e∈o.dz,vs e.on=d e.on)->Φ i vs W->Φ i d W) (n:C w.drew)
 (H:cL P ops C Le E Φ Q 0 ops.toList λ_=>a):(dL id ops true).wp P Q a w:=by
 have no:∀{i:Nat}{o:Oper},ops[i]?=some o->¬ops.size<=i:=λc=>Nat.not_le.2 (Array.getElem?_eq_some_iff.1 c).1;refine mB ops.size C Le E Φ g j ⟨br _,λi o c hi=>absurd hi (no c),λi o c hi=>absurd (Nat.le_of_lt hi) (no c)⟩ k l n ?_;rw[List.take_of_length_le (by simp)];refine uI (λb W h=>?_) _ _ _ H;rw[List.drop_of_length_le (by simp)];exact h
end
end
end Go
namespace Go.Proofs
open Go.RowKit Go.Shelf
attribute [local go_sem] Oper.semAt_some
set_option maxRecDepth 100000
set_option maxHeartbeats 4000000
def lv(s r:Int):Int:=lvl s r s.toNat
def fD(s a:Int)(b:Nat):List Int:=(bM b).map λj=>lv s (a+(j:Nat))
def cJ(a b:Int)(c d:Nat):List Int:=(bM c).flatMap fun(k:Nat)=>fD (a+k) b d
def AP(s b:Int)(a:Nat):(fD s b a).length=a:=by simp[fD]
def AQ(c d:Int)(b:Nat):∀a:Nat,(cJ c d a b).length=a*b
 |0=>by simp[cJ]
 |a+1=>by
  have:=AQ c d b a;unfold cJ at this⊢;rw[cg,List.flatMap_append,ch,this];simp[AP,bw]
def nA(s a:Int)(j:Nat):fD s a (j+1)=fD s a j++[lv s (a+(j:Nat))]:=by
 simp[fD,cg]
def kE(a b:Int)(c d:Nat):cJ a b (c+1) d=cJ a b c d++fD (a+(c:Nat)) b d:=by
 simp[cJ,cg]
def Nl(s a:Int)(b:Nat):∀j:Nat,j<=b->fD s a j <+: fD s a b:=by
 intro j c;unfold fD;exact(List.map_take ..▸List.take_range ..▸by rw[Nat.min_eq_left c]:(List.take j ((bM b).map λj=>lv s (a+(j:Nat))))=(bM j).map λj=>lv s (a+(j:Nat)))▸List.take_prefix _ _
def AU(a b:Int)(c:Nat)(k:Nat):∀d:Nat,cJ a b k c <+: cJ a b (k+d) c
 |0=>List.prefix_rfl
 |d+1=>by rw[<-bv,kE];exact(AU a b c k d).trans (List.prefix_append _ _)
def Nm(a b:Int)(c d k j:Nat)(g:k<c)(h:j<d):cJ a b k d++fD (a+(k:Nat)) b j++[lv (a+(k:Nat)) (b+(j:Nat))] <+: cJ a b c d:=by
 rw[ci,<-nA];obtain⟨t,f⟩:=Nl (a+(k:Nat)) b d (j+1) (by omega);obtain⟨u,e⟩:=AU a b d (k+1) (c-(k+1));rw[show k+1+(c-(k+1))=c by omega,kE,<-f]at e;exact⟨t++u,by rw[<-e];simp⟩
def Rr(s r:Int)(w:World)(f:1<=s)(g:s<=90)(c : -s<=r)(d:r<=s):Calls PL 42 #[.int .i64 s,.int .i64 r] w λe w'=>e=.returned (.int .i64 (lv s r))/\w=w':=by
 obtain⟨n,rfl⟩:=Int.eq_ofNat_of_zero_le (a:=s) (by omega);exact(AG n r w (by omega) (by omega) c d).mono λ_ _⟨a,b⟩=>⟨a,b.symm⟩
def yC(B:Nat)(W a:World):Prop:=∀o:Nat,a.cell? ⟨B,o,none⟩=W.cell? ⟨B,o,none⟩
def Ii(n:Nat)(C:1<=n)(l g:Nat)(a b:Int)(d c:Nat)(D:1<=a)(E:a+d<=91)(F:1<=d)(H : -a<=b)(I:b+c<=a+1)(K:1<=c)(J r:List Int->World->Prop)
 (s:∀f x W,J f W->f.length<d*c->YieldAt Fence.wide (n-1) PL l #[.int .i64 x] W λe h=>
   (e=.returned (.bool true)/\J (f++[x]) h/\yC g W h)\/(e=.returned (.bool false)/\r (f++[x]) h))
 (W:World) (c1:W.cell? ⟨g,1,none⟩=some (.int .i64 a)) (t:W.cell? ⟨g,2,none⟩=some (.int .i64 (a+d-1))) (c3:W.cell? ⟨g,3,none⟩=some (.int .i64 b)) (u:W.cell? ⟨g,4,none⟩=some (.int .i64 (b+c-1))) (w:J [] W) :
 CallsIn Fence.wide n PL 65 #[.func (.yield l) #[] #[],.pointer (some ⟨g,0,none⟩)] W λe h=>(∃v,e=.returned v)/\
  ((∃ys,ys=cJ a b d c/\J ys h)\/(∃f,f <+: cJ a b d c/\r f h)):=by
 refine callsIn_of_wp (fx (by decide) bm) rfl trivial ?_ rfl;simp only[Tryz.ntmps65,cl,cf,ce,bx,bA,dp,dq,cm,co,cp,ca]
 gi_wp2
 gi_loopw [3] (λv wr=>∃k:Nat,k<=d/\v=.int .i64 (a+k)/\J (cJ a b k c) wr/\(wr.cell? ⟨g,1,none⟩=some (.int .i64 a)/\wr.cell? ⟨g,2,none⟩=some (.int .i64 (a+d-1))/\wr.cell? ⟨g,3,none⟩=some (.int .i64 b)/\wr.cell? ⟨g,4,none⟩=some (.int .i64 (b+c-1)))) (λv _=>(a+d-intOf v).toNat)
 case atStart=>exact⟨0,bp _,by simp,w,c1,t,c3,u⟩
 case round=>
  obtain⟨k,i,rfl,m,d1,d2,d3,d4⟩:=hrel;by_cases y:k<d
  ·have z:a+(k:Int)<=a+d-1:=by omega
   gi_wp2
   gi_loopw [4] (λv wr=>∃j:Nat,j<=c/\v=.int .i64 (b+j)/\J (cJ a b k c++fD (a+(k:Nat)) b j) wr/\(wr.cell? ⟨g,1,none⟩=some (.int .i64 a)/\wr.cell? ⟨g,2,none⟩=some (.int .i64 (a+d-1))/\wr.cell? ⟨g,3,none⟩=some (.int .i64 b)/\wr.cell? ⟨g,4,none⟩=some (.int .i64 (b+c-1)))) (λv _=>(b+c-intOf v).toNat)
   case atStart=>exact⟨0,bp _,by simp,by simpa[fD]using m,d1,d2,d3,d4⟩
   case round=>
    obtain⟨j,L,rfl,m,d1,d2,d3,d4⟩:=hrel;by_cases o:j<c
    ·have A:b+(j:Int)<=b+c-1:=by omega
     have hlen:(cJ a b k c++fD (a+(k:Nat)) b j).length<d*c:=by
      rw[ch,AQ,AP];have:=Nat.mul_le_mul_right c (show k+1<=d by omega);rw[bw]at this;omega
     obtain⟨fn,tmps,assign,body,hy,B⟩:=s _ (lv (a+(k:Nat)) (b+(j:Nat))) wr m hlen
     gi_wp2_with (refine⟨trivial,?_⟩;refine(callsIn_wide.2 (Rr _ _ _ (by omega) (by omega) (by omega) (by omega))).mono ?_;rintro e w'⟨rfl,rfl⟩)
     refine B.mono ?_;rintro e h(⟨rfl,p,i⟩|⟨rfl,q⟩)
     ·gi_wp2
      refine⟨⟨j+1,by omega,by congr 1;push_cast;omega,by rw[nA,<-ci];exact p,(i 1).trans d1,(i 2).trans d2,(i 3).trans d3,(i 4).trans d4⟩,?_⟩;simp only[intOf];omega
     ·gi_wp2
      refine bodyPost_ret (results_none rfl _ _ _) rfl ⟨⟨_,rfl⟩,.inr ⟨_,Nm a b d c k j y o,q⟩⟩
    ·have A:b+(c:Int)-1<b+j:=by omega
     obtain rfl:j=c:=by omega
     gi_wp2
     refine⟨⟨k+1,by omega,by congr 1;push_cast;omega,by rw[kE];exact m,d1,d2,d3,d4⟩,?_⟩;simp only[intOf];omega
  ·have z:a+(d:Int)-1<a+k:=by omega
   obtain rfl:k=d:=by omega
   gi_wp2
   go_end0
   exact⟨⟨_,rfl⟩,.inl ⟨_,rfl,m⟩⟩
def Km{B:Nat}{X Y Z:World}(h:yC B X Y)(k:yC B Y Z):yC B X Z:=λo=>(k o).trans (h o)
def Ko{B s:Nat}(a:B<s)(W:World)(l:Nat)(o o':Obj)(hl:s<=l)(_:W.heap[l]?=some o)(_:o.isCells=false)(_:o.isWalk=false):yC B W (W.putObj l o'):=λq=>by
 have:(W.putObj l o').heap[B]?=W.heap[B]?:=by
  simp only[World.putObj];rw[dj (by omega)]
 simp[aq,this]
def tg(n:Nat)(i:1<=n)(a:Nat)(b d:Int)(e f:Nat)(j:1<=b)(k:b+e<=91)(m:1<=e)(o : -b<=d)(q:d+f<=b+1)(r:1<=f)(w:World)(c:a<w.heap.size)
 (c1:w.cell? ⟨a,1,none⟩=some (.int .i64 b)) (s:w.cell? ⟨a,2,none⟩=some (.int .i64 (b+e-1))) (c3:w.cell? ⟨a,3,none⟩=some (.int .i64 d)) (t:w.cell? ⟨a,4,none⟩=some (.int .i64 (d+f-1))) :
 SeqStopsK Fence.wide n PL 65 #[.pointer (some ⟨a,0,none⟩)] (λx:Int=>#[Value.int .i64 x]) (yC a) (λys=>ys=cJ b d e f) (λh=>h <+: cJ b d e f) (e*f) w:=λl J u W g _ _ v y=>
 Ii n i l a b d e f j k m o q r J u v W ((g.cell (p:=⟨a,1,none⟩) c).trans c1) ((g.cell (p:=⟨a,2,none⟩) c).trans s) ((g.cell (p:=⟨a,3,none⟩) c).trans c3) ((g.cell (p:=⟨a,4,none⟩) c).trans t) y
def iJ.NY(q:iJ):List Int:=cJ (q.n 1) (q.n 3) (q.n 2-q.n 1+1).toNat (q.n 4-q.n 3+1).toNat
def iJ.low(q:iJ):Int:=q.NY.foldl min 90
def iJ.high(q:iJ):Int:=q.NY.foldl max 0
structure iJ.Ok(q:iJ):Prop where
 a1:1<=q.n 1
 a2:q.n 1<=q.n 2
 a3:q.n 2<=90
 a4 : -q.n 1<=q.n 3
 a5:q.n 3<=q.n 4
 a6:q.n 4<=q.n 1
def ck{n:Nat}{f:Nat->Int}(h:ia n f=0):∀j,j<n->f j=0:=by
 intro j
 induction j using bu with
 |_ j a=>
  intro b;by_cases hf:f j=0
  ·exact hf
  ·have:=eG (m:=j) (λi hi=>a i hi (by omega)) b hf;omega
def Kq{C:CD}(hc:C.cx=0){i:Nat}(hi:i<C.n4):(C.x4 i).Ok:=by
 have b:kA C.p C.n2 C.n3 C.n4 C.x4=0:=ck hc 3 (by omega);unfold kA at b
 split at b
 case isFalse=>cases b
 have a:=ck b i hi;unfold gM at a
 split at a
 case isFalse h=>exact absurd a h
 split at a
 case isFalse=>cases a
 rename_i c
 split at a
 ·cases a
 rename_i d;simp only[eK,cB,decide_eq_true_eq]at c;exact⟨by omega,by omega,by omega,by omega,by omega,by omega⟩
def Kr{C:CD}{b:Bool}{w:World}(h:C.b6 b≠0)(k:C.At w):Calls PL 35 #[.agg C.val,.bool b] w (aO (.tuple #[.agg #[.int .i64 0,.int .i64 0,.slice none 0 0,.slice none 0 0,.slice none 0 0,.slice none 0 0],.int .i64 (C.b6 b)]) w):=by
 have:=Ev C b w k;rwa[CD.sX,if_neg h]at this
def kF{C:CD}{b:Bool}{w:World}(h:C.b6 b=0)(k:C.At w):Calls PL 35 #[.agg C.val,.bool b] w (aO (.tuple #[.agg C.val,.int .i64 0]) w):=by
 have:=Ev C b w k;rwa[CD.sX,if_pos h,h]at this
structure CD.Box(C:CD)(B:Nat)(W0:World):Prop where
 Tj:W0.heap[B]?=some (.cells C.val 27)
def uJ{w:World}{k:Nat}{x0 x1:Value}{t:aa}(h:w.heap[k]?=some (.cells #[x0,x1] t)):w.cell? ⟨k,0,none⟩=some x0/\w.cell? ⟨k,1,none⟩=some x1/\w.frozen? ⟨k,0,none⟩=false/\w.frozen? ⟨k,1,none⟩=false:=by
 simp[aq,World.frozen?,h]
def yD{W:World}{k:Nat}{x y u v:Value}(a0:W.cell? ⟨k,0,none⟩=some x)(a1:W.cell? ⟨k,1,none⟩=some y) :
 ((W.setCell ⟨k,0,none⟩ u).setCell ⟨k,1,none⟩ v).cell? ⟨k,0,none⟩=some u/\((W.setCell ⟨k,0,none⟩ u).setCell ⟨k,1,none⟩ v).cell? ⟨k,1,none⟩=some v/\
 (∀b o,b≠k->((W.setCell ⟨k,0,none⟩ u).setCell ⟨k,1,none⟩ v).cell? ⟨b,o,none⟩=W.cell? ⟨b,o,none⟩)/\(∀p,((W.setCell ⟨k,0,none⟩ u).setCell ⟨k,1,none⟩ v).frozen? p=W.frozen? p):=by
 refine⟨?_,?_,λb o hb=>?_,λp=>?_⟩
 ·exact(ar _ _ _ _ (by simp)).trans (aw _ _ _ (by rw[a0];rfl))
 ·exact aw _ _ _ (by rw[(ar _ _ _ _ (by simp)).trans a1];rfl)
 ·exact(ar _ _ _ _ (λh=>hb (congrArg Addr.block h).symm)).trans (ar _ _ _ _ (λh=>hb (congrArg Addr.block h).symm))
 ·rw[aI,aI]
def Rs{w W:World}{k B r:Nat}(e:B≠k)(b:r≠k)(c:w.heap.size<=k){m M u v d v':Int}{y0 y1:Value}(a0:W.cell? ⟨k,0,none⟩=some (.int .i64 m))(a1:W.cell? ⟨k,1,none⟩=some (.int .i64 M))(a2:W.frozen? ⟨k,0,none⟩=false)(a3:W.frozen? ⟨k,1,none⟩=false)
 (a4:W.cell? ⟨r,0,none⟩=some y0) (f:W.cell? ⟨r,1,none⟩=some y1) (g:W.frozen? ⟨r,0,none⟩=false) (h:W.frozen? ⟨r,1,none⟩=false) (i:Below w.heap.size w W) (j:u=d) (hv:v=v') :
 KeepsOthers W ((W.setCell ⟨k,0,none⟩ (.int .i64 u)).setCell ⟨k,1,none⟩ (.int .i64 v))/\yC B W ((W.setCell ⟨k,0,none⟩ (.int .i64 u)).setCell ⟨k,1,none⟩ (.int .i64 v))/\
 ((((W.setCell ⟨k,0,none⟩ (.int .i64 u)).setCell ⟨k,1,none⟩ (.int .i64 v)).cell? ⟨k,0,none⟩=some (.int .i64 d)/\((W.setCell ⟨k,0,none⟩ (.int .i64 u)).setCell ⟨k,1,none⟩ (.int .i64 v)).cell? ⟨k,1,none⟩=some (.int .i64 v')/\((W.setCell ⟨k,0,none⟩ (.int .i64 u)).setCell ⟨k,1,none⟩ (.int .i64 v)).frozen? ⟨k,0,none⟩=false/\((W.setCell ⟨k,0,none⟩ (.int .i64 u)).setCell ⟨k,1,none⟩ (.int .i64 v)).frozen? ⟨k,1,none⟩=false/\
 ((W.setCell ⟨k,0,none⟩ (.int .i64 u)).setCell ⟨k,1,none⟩ (.int .i64 v)).cell? ⟨r,0,none⟩=some y0/\((W.setCell ⟨k,0,none⟩ (.int .i64 u)).setCell ⟨k,1,none⟩ (.int .i64 v)).cell? ⟨r,1,none⟩=some y1/\((W.setCell ⟨k,0,none⟩ (.int .i64 u)).setCell ⟨k,1,none⟩ (.int .i64 v)).frozen? ⟨r,0,none⟩=false/\((W.setCell ⟨k,0,none⟩ (.int .i64 u)).setCell ⟨k,1,none⟩ (.int .i64 v)).frozen? ⟨r,1,none⟩=false)/\
 Below w.heap.size w ((W.setCell ⟨k,0,none⟩ (.int .i64 u)).setCell ⟨k,1,none⟩ (.int .i64 v))):=by
 subst j hv;obtain⟨c0,c1,a,c3⟩:=yD (u:=.int .i64 u) (v:=.int .i64 v) a0 a1;exact⟨(dO _ _ _).trans (dO _ _ _),λo=>a _ _ e,⟨c0,c1,(c3 _).trans a2,(c3 _).trans a3,(a _ _ b).trans a4,(a _ _ b).trans f,(c3 _).trans g,(c3 _).trans h⟩,(i.setCell (p:=⟨k,0,none⟩) c _).setCell (p:=⟨k,1,none⟩) c _⟩
abbrev iJ.val(q:iJ):Array Value:=#[.string q.name,.int .i64 (q.n 1),.int .i64 (q.n 2),.int .i64 (q.n 3),.int .i64 (q.n 4),.int .i64 (q.n 5),.int .i64 (q.n 6),.int .i64 (q.n 7),.int .i64 (q.n 8),.int .i64 (q.n 9),.int .i64 (q.n 10),.slice q.lb q.ln q.lc]
def yF(q:iJ)(w:World):Calls PL 44 #[.agg q.val] w λe w'=>e=.returned (.func (.func 65) #[] #[.pointer (some ⟨w.heap.size,0,none⟩)])/\w'=w.alloc (.cells q.val 85):=by
 go_enter (fx (by decide) Tryz.func44),Tryz.ntmps44
 go_wp2
 go_ret
 exact⟨rfl,rfl⟩
def CD.kR(C:CD)(n:Int):Value:=if C.b6 (bO n 0 (C.n4-1))=0 then .tuple #[.agg #[.int .i64 (C.x4 n.toNat).low,.int .i64 (C.x4 n.toNat).high],.int .i64 0] else .tuple #[.agg #[.int .i64 0,.int .i64 0],.int .i64 (C.b6 (bO n 0 (C.n4-1)))]
def nB(C:CD)(n:Int)(w:World)(h:C.At w):Calls PL 16 #[.agg C.val,.int .i64 n] w (aO (C.kR n) w):=by
 have H:=aT (λw1 o=>h.below (w':=w1) o);have m4:=h.m4;obtain⟨S,T,U,V,X,Y,Z,c3,b4,n4,c4,b5,n5,c5,hO⟩:∃(S T:Int)(U:Option Addr)(V X:Nat)(Y:Option Addr)(Z c3:Nat)(b4:Option Addr)(n4 c4:Nat)(b5:Option Addr)(n5 c5:Nat),∀W,C.At W->Calls PL 35 #[.agg C.val,.bool (bO n 0 (C.n4-1))] W (aO (.tuple #[.agg #[.int .i64 S,.int .i64 T,.slice U V X,.slice Y Z c3,.slice b4 n4 c4,.slice b5 n5 c5],.int .i64 (C.b6 (bO n 0 (C.n4-1)))]) W):=by
  by_cases hf:C.b6 (bO n 0 (C.n4-1))=0
  ·exact⟨_,_,_,_,_,_,_,_,_,_,_,_,_,_,λW L=>by rw[hf];exact kF hf L⟩
  ·exact⟨_,_,_,_,_,_,_,_,_,_,_,_,_,_,λW L=>Kr hf L⟩
 have HO:=aT hO;have H1:=aT h;clear h hO;refine(callsIn_wide (n:=9)).1 (callsIn_of_wp_marks (fx (by decide) Tryz.func16) rfl trivial ?_ rfl);simp only[Tryz.ntmps16,cl,cf,ce,bx,bA,dp,dq,cm,co,cp,ca];refine wpIn_wide.2 ?_
 go_wp2
 obtain⟨a,q⟩:∃a:World,a=(w.alloc (.cells C.val 27)).alloc (.cells #[.int .i64 0,.int .i64 0] 48):=⟨_,rfl⟩
 have y:Below w.heap.size w a:=by rw[q];exact((bL _ _).alloc (br _) _).alloc (by simp) _
 have z:Hid (C.Box w.heap.size a):=aT ⟨by rw[q];exact((((bL (w.alloc (.cells C.val 27)).heap.size _).alloc (br _) _)).block _ (by simp)).trans (au w _)⟩;have M:Hid (a.heap[w.heap.size+1]?=some (.cells #[.int .i64 0,.int .i64 0] 48)):=aT (by rw[q];have:=au (w.alloc (.cells C.val 27)) (.cells #[.int .i64 0,.int .i64 0] 48);rwa[aJ]at this);rw[<-q];clear q;obtain⟨f0,f1,f2,f3,f4,f5⟩:=bf z.out.Tj;have E:w.heap.size<a.heap.size:=aL z.out.Tj;have XZ:w.heap.size<a.heap.size+1:=by omega
 go_cut [6,7] from 10 to 17 (fun(v6:Value)(v7:Value)(wx:World)=>v7=.int .i64 (C.b6 (bO n 0 (C.n4-1)))/\Below a.heap.size a wx)
 case first=>
  refine wp_region_noPanic ?_
  go_region_with (first|(go_at_call 43;refine(AE C n _ m4).mono ?_;rintro e w1⟨rfl,F⟩;obtain⟨lp,lR⟩:=cW F;(first|(with_reducible have d:=aP ((bL a.heap.size a).drew) F)|(have d:=aP ((bL a.heap.size a).drew.alloc (bL a.heap.size a).drew.size _) F;have aH:a.heap.size<w1.heap.size:=by have:=F.size;simp at this;omega));have dx:=d.size;obtain⟨g0,g1,g2,g3,N,g5⟩:=bf ((d.block _ E).trans z.out.Tj);have hzw:w.heap.size<w1.heap.size:=bs E dx)|(go_at_call 35;refine(HO.out _ (H.out _ (aP y ?hb))).mono ?_;(with_reducible case hb=>first|exact d|exact d.alloc d.size _);rintro e w2⟨rfl,O⟩;obtain⟨hc2,hf2⟩:=cW O;(with_reducible first|have t:=aP d O|have t:=aP (d.alloc d.size _) O)))
  all_goals (refine NoPanic.normal ?_;go_wp2_with fail;go_meet;case rel=>refine⟨rfl,?_⟩;with_reducible first|exact aS t (br _) _ _ _ _ _ _|exact aS t dx _ _ _ _ _ _|exact t.alloc t.size _)
 case rest=>
  obtain⟨rfl,f⟩:=hcut;have b:w.heap.size+1<a.heap.size:=aL M.out;obtain⟨I,J,q0,q1⟩:=uJ ((f.block _ b).trans M.out);by_cases hf:C.b6 (bO n 0 (C.n4-1))=0
  ·have hA:=H.out wc (aP y f);have P:C.cx=0/\bO n 0 (C.n4-1)=true:=by
    unfold CD.b6 at hf
    split at hf
    ·split at hf
     ·exact⟨by assumption,by assumption⟩
     ·cases hf
    ·exact absurd hf (by assumption)
   obtain⟨hk,hb⟩:=P;have jH:0<=n/\n<=(C.n4:Int)-1:=by simpa[bO]using hb
   obtain⟨i,rfl⟩:=Int.eq_ofNat_of_zero_le jH.1;have hi:i<C.n4:=by omega
   have mS:(i:Int)<C.n4:=by omega
   have OK:=aT (Kq hk hi);obtain⟨g0,g1,g2,g3,N,g5⟩:=bf ((f.block _ E).trans z.out.Tj);rw[hA.s4 (by omega)]at N;have k0:=hA.AD i hi;have k1:=hA.dB i hi 1 (by omega) (by omega);have k2:=hA.dB i hi 2 (by omega) (by omega);have k3:=hA.dB i hi 3 (by omega) (by omega);have k4:=hA.dB i hi 4 (by omega) (by omega);have k5:=hA.dB i hi 5 (by omega) (by omega);have k6:=hA.dB i hi 6 (by omega) (by omega);have k7:=hA.dB i hi 7 (by omega) (by omega);have k8:=hA.dB i hi 8 (by omega) (by omega);have k9:=hA.dB i hi 9 (by omega) (by omega);have CG:=hA.dB i hi 10 (by omega) (by omega);have CH:=hA.nj i hi;have ER:=hA.h4;have wD:w.heap.size<wc.heap.size:=bs E f.size;rw[hf];clear hA hk hb jH f0 f1 f2 f3 f4 f5
   go_wp2_with (go_at_call 44;refine(yF (C.x4 i) _).mono ?_;rintro e w'⟨rfl,rfl⟩)
   obtain⟨j,m⟩:∃j:World,j=(wc.alloc (.cells #[.int .i64 90,.int .i64 0] 48)).alloc (.cells (C.x4 i).val 85):=⟨_,rfl⟩
   have vL:j.heap.size=wc.heap.size+2:=by rw[m];simp
   have d:Below wc.heap.size wc j:=by rw[m];exact((bL _ _).alloc (br _) _).alloc (by simp) _
   have hp:j.heap[wc.heap.size+1]?=some (.cells (C.x4 i).val 85):=by
    have:=au (wc.alloc (.cells #[.int .i64 90,.int .i64 0] 48)) (.cells (C.x4 i).val 85);rw[aJ]at this;rw[m];exact this
   have hq:j.heap[wc.heap.size]?=some (.cells #[.int .i64 90,.int .i64 0] 48):=by
    rw[m];exact((((bL (wc.alloc (.cells #[.int .i64 90,.int .i64 0] 48)).heap.size _).alloc (br _) _)).block _ (by simp)).trans (au wc _)
   have Yc:=(d.block _ (bs b f.size)).trans ((f.block _ b).trans M.out);have hrw:w.heap.size+1<wc.heap.size:=bs b f.size;have k:Below w.heap.size w j:=aP (aP y f) d;rw[<-m];clear m k0 k1 k2 k3 k4 k5 k6 k7 k8 k9 CG CH g0 g1 g2 g3 N g5 I J q0 q1;obtain⟨p0,p1,p2,p3,p4,p5,p6,p7,p8,p9,Cz,Fy⟩:=gx hp;obtain⟨I,J,q0,q1⟩:=uJ Yc;obtain⟨t0,t1,u0,u1⟩:=uJ hq;obtain⟨o1,o2,o3,o4,o5,o6⟩:=OK.out;refine(wpIn_wide (n:=9)).1 ?_;refine wpIn_rangeFunc_ownF rfl (by omega) (gf:=65) (lb:=#[.pointer (some ⟨wc.heap.size+1,0,none⟩)]) rfl trivial (enters_of (fx (by decide) bm) (by kernel_rfl) rfl)
    (tg 8 (by omega) (wc.heap.size+1) ((C.x4 i).n 1) ((C.x4 i).n 3) ((C.x4 i).n 2-(C.x4 i).n 1+1).toNat ((C.x4 i).n 4-(C.x4 i).n 3+1).toNat o1 (by omega) (by omega) o4 (by omega) (by omega) j (by omega) p1 (by rw[p2];congr 2;omega) p3 (by rw[p4];congr 2;omega))
    Km (Ko (by omega)) (bL _ _) (λ_=>rfl)
    (λg W=>(W.cell? ⟨wc.heap.size,0,none⟩=some (.int .i64 (g.foldl min 90))/\W.cell? ⟨wc.heap.size,1,none⟩=some (.int .i64 (g.foldl max 0))/\W.frozen? ⟨wc.heap.size,0,none⟩=false/\W.frozen? ⟨wc.heap.size,1,none⟩=false/\W.cell? ⟨w.heap.size+1,0,none⟩=some (.int .i64 0)/\W.cell? ⟨w.heap.size+1,1,none⟩=some (.int .i64 0)/\W.frozen? ⟨w.heap.size+1,0,none⟩=false/\W.frozen? ⟨w.heap.size+1,1,none⟩=false)/\Below w.heap.size w W)
    (λ_ _ _=>False)
    (OwnFrom.and (Own.from (λs A B row hs hg b=>⟨ai hs.1 hg b,ai hs.2.1 hg b,(ao hs.1 hg b).trans hs.2.2.1,(ao hs.2.1 hg b).trans hs.2.2.2.1,ai hs.2.2.2.2.1 hg b,ai hs.2.2.2.2.2.1 hg b,(ao hs.2.2.2.2.1 hg b).trans hs.2.2.2.2.2.2.1,(ao hs.2.2.2.2.2.1 hg b).trans hs.2.2.2.2.2.2.2⟩) _) (ownFrom_below (br _) (by have:=k.size;omega)))
    (λ_ _ _ _ _ hs _ _=>hs)
    ⟨⟨t0,t1,u0,u1,I,J,q0,q1⟩,k⟩
    (λx=>{ tmps:=#[.agg C.val,.int .i64 i,.pointer (some ⟨w.heap.size,0,none⟩),undef,.pointer (some ⟨w.heap.size+1,0,none⟩),.int .i64 0,u6,.int .i64 0,.pointer (some ⟨wc.heap.size,0,none⟩),.int .i64 x,u10,u11,u12,u13,u14,u15,u16,u17,.int .i64 0,.bool false,undef,undef,.agg #[.int .i64 90,.int .i64 0],.pointer (some ⟨w.heap.size,4,none⟩),.slice (some ⟨C.k4,C.o4,none⟩) C.n4 C.c4,.int .i64 i,.pointer (some ⟨C.k4,C.o4+i*12,none⟩),.agg (C.x4 i).val,.func (.func 65) #[] #[.pointer (some ⟨wc.heap.size+1,0,none⟩)],.int .i64 x,undef,undef,undef,undef,undef,undef,undef,undef,undef,undef,undef],defers:=[] }) ?assign ?body ?done ?stop
   case assign=>
    intro l x W K Q
    gi_wp2
    exact Q
   case body=>
    rintro l g x W⟨⟨a0,a1,a2,a3,a4,R,a6,a7⟩,o⟩_
    gi_wp2
    all_goals (
     refine Rs (by omega) (by omega) (by omega) a0 a1 a2 a3 a4 R a6 a7 o ?_ ?_
     ·rw[cq];simp only[ct,cv];omega
     ·rw[cq];simp only[ct,cv];omega)
   case done=>
    rintro D ys W hD rfl⟨⟨a0,a1,a2,a3,a4,R,a6,a7⟩,o⟩Q;replace a0:W.cell? ⟨wc.heap.size,0,none⟩=some (.int .i64 (C.x4 i).low):=a0;replace a1:W.cell? ⟨wc.heap.size,1,none⟩=some (.int .i64 (C.x4 i).high):=a1
    go_wp2
    have hK':=((dO W ⟨w.heap.size+1,0,none⟩ (.int .i64 (C.x4 i).low)).trans (dO _ ⟨w.heap.size+1,1,none⟩ (.int .i64 (C.x4 i).high))).same D _ Q rfl;obtain⟨d0,d1,_,_⟩:=yD (u:=.int .i64 (C.x4 i).low) (v:=.int .i64 (C.x4 i).high) a4 R;have e0:=ai d0 (ap _ D (.deferred none)) (λr e=>by cases e;exact⟨_,hK',rfl⟩);have e1:=ai d1 (ap _ D (.deferred none)) (λr e=>by cases e;exact⟨_,hK',rfl⟩);refine⟨by simp,.inl ⟨_,_,rfl,run_takeDeferred hK',?_⟩⟩;refine⟨C.kR i,?_,rfl,(((o.setCell (p:=⟨w.heap.size+1,0,none⟩) (bC _) _).setCell (p:=⟨w.heap.size+1,1,none⟩) (bC _) _)).trans (belowK_b (w:=w) (br _) _ D _ _ (by have:=k.size;omega) hK' rfl rfl)⟩;rw[CD.kR,if_pos hf];simp[results,bo,go_sem,e0,e1]
   case stop=>
    rintro D c g W _ _ h _;exact h.elim
  ·have hn:(C.b6 (bO n 0 (C.n4-1)) != 0)=true:=by simpa using hf
   have HF:=aT hf;clear hf f0 f1 f2 f3 f4 f5
   go_wp2
   refine⟨C.kR n,?_,rfl,?_⟩
   ·rw[CD.kR,if_neg HF.out];simp[results,bo,go_sem,I,J]
   ·exact((aP y f).setCell (p:=⟨w.heap.size+1,0,none⟩) (bC _) _).setCell (p:=⟨w.heap.size+1,1,none⟩) (bC _) _
end Go.Proofs
