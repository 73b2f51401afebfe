/- Part of the proof of FieldFlat and FieldMarshals. -/
import Derived.Test.YtmkjeaacgibnoaaGreatY35
set_option linter.all false
open Go.RowKit.Below renaming refl->aa
open Int renaming tmod_eq_emod_of_nonneg->ab,emod_nonneg->ac,emod_lt_of_pos->ad,neg_mul_neg->ae,le_trans->ag,le_total->ai,mul_nonneg->ao,le_refl->ap,toNat_natCast->aq
open Go.IntWalk renaming i64_in->ar
open Go renaming wp_region_noPanic->aw
open Go.Act renaming put->aF
open List renaming setIfInBounds_toArray->aH,set_cons_zero->aI,set_cons_succ->aJ
open Go.Lib renaming hid->aP
open And renaming intro->aT
open Go.RowKit renaming wrap64->a5
open Go.Proofs renaming getElem?_lt'->a6
namespace Go.Proofs
open Go.RowKit
set_option maxRecDepth 100000
set_option maxHeartbeats 4000000
def abB(a b n:Int)(w:World):Calls PL 41 #[.agg #[.int .i64 a,.int .i64 b],.int .i64 n] w (aO (.bool (decide (a<=n)&&decide (n<=b))) w):=by
 go_enter (fx (by decide) Tryz.func41),Tryz.ntmps41
 by_cases c:a<=n<;>by_cases d:n<=b<;>go_wp2<;>go_ret
 all_goals refine⟨?_,(aa _ _).alloc (Nat.le_refl _) _⟩
 all_goals simp[c,d]
def abc(s:Int)(b:Bool):Bool:=!(decide (s=1) && !b) && !(decide (s=2)&&b)
def abm(s:Int)(b:Bool)(w:World):Calls PL 42 #[.int .i64 s,.bool b] w (aO (.bool (abc s b)) w):=by
 go_enter (fx (by decide) Tryz.func42),Tryz.ntmps42
 by_cases a:s=1<;>by_cases c:s=2<;>cases b<;>go_wp2<;>go_ret
 all_goals refine⟨?_,aa _ _⟩
 all_goals simp[abc,a,c]
structure KPk(o:Obj)(w W:World):Prop where
 box:W.heap[w.heap.size]?=some o
 low:Below w.heap.size w W
def abi(a b n:Int)(w:World)(o : -1000000<=a)(hb:b<=1000000)(g:a<=b)(i:0<=n)(p:n<=1000000):Calls PL 40 #[.agg #[.int .i64 a,.int .i64 b],.int .i64 n] w (aO (.int .i64 (a+n % (b-a+1))) w):=by
 go_enter (fx (by decide) Tryz.func40),Tryz.ntmps40
 go_wp2
 have d:KPk (.cells #[.int .i64 a,.int .i64 b] 35) w (w.alloc (.cells #[.int .i64 a,.int .i64 b] 35)):=⟨au _ _,(aa _ _).alloc (Nat.le_refl _) _⟩
 have e:b-a+1≠0:=by omega
 have j:n.tmod (b-a+1)=n % (b-a+1):=by rw[ab i]
 have k:=ac n e;have l:=ad n (show 0<b-a+1 by omega);have e1:IntKind.i64.wrap (b-a)=b-a:=ar _ (by omega);have f:IntKind.i64.wrap (b-a+1)=b-a+1:=ar _ (by omega);have m:IntKind.i64.wrap (a+n % (b-a+1))=a+n % (b-a+1):=ar _ (by omega);generalize r:n % (b-a+1)=q at *;refine aw ?_;refine ig (KPk (.cells #[.int .i64 a,.int .i64 b] 35) w) (λ_ _=>True) (λ_=>true) (λ_ _ _=>True) rfl (by kernel_rfl) (λ_ _ _ _ _ h=>h) (λ_ _ _ _ _ _ _ _ h=>h) ?_ ?_
 ·exact⟨d.box,d.low.drew⟩
 ·iterate 12 (
   apply aY
   case hE=>rfl
   case h=>
    intro vs W c hd;have s:W.cell? ⟨w.heap.size,0,none⟩=some (.int .i64 a):=by rw[World.cell?,c.box];rfl
    have t:W.cell? ⟨w.heap.size,1,none⟩=some (.int .i64 b):=by rw[World.cell?,c.box];rfl
    go_simp
    first
     |exact rfl
     |exact⟨rfl,c,trivial⟩
     |(rw[e1,f,if_neg e,j];exact⟨rfl,c,trivial⟩)
     |(rw[e1,f];exact⟨rfl,c,trivial⟩)
     |(rw[e1];exact⟨rfl,c,trivial⟩)
     |(rw[m];exact⟨rfl,c,trivial⟩)
     |trace_state
   case hb=>intro vs;simp only[aF,aH,aI,aJ];rfl)
  refine cP λvs W c hd=>?_;refine NoPanic.normal ?_
  go_wp2
  go_ret
  exact⟨rfl,c.low⟩
def abS(s r:Int):∀k:Nat,lvl s (-r) k=lvl s r k:=by
 intro k
 induction k with
 |zero=>rfl
 |succ k a=>simp only[lvl,ae,a]
def Q3{s r:Int}(a:1<=s)(b:s<=90)(c : -s<=r)(d:r<=s):ie s r=.tuple #[.int .i64 (lv s r),.int .i64 0]:=by
 unfold ie;rw[if_pos (by simp[bO];omega),if_neg (by omega)];rfl
def abd{a b:Int}(c:0<=a)(h:a<=b):a*a<=b*b:=Int.mul_le_mul h h c (ag c h)
def aaf{s r:Int}(g:1<=s)(i : -s<=r)(f:r<=s):0<=lv s r/\lv s r<=s/\lv s r*lv s r+r*r<=s*s/\s*s<(lv s r+1)*(lv s r+1)+r*r:=by
 have e:((s.toNat:Nat):Int)=s:=Int.toNat_of_nonneg (by omega);have j:r*r<=s*s:=by
  rcases ai 0 r with h|h
  ·exact abd h f
  ·have:=abd (a:=-r) (b:=s) (by omega) (by omega);rwa[ae]at this
 have k:0<=r*r:=by
  rcases ai 0 r with h|h
  ·exact ao h h
  ·have:=ao (show 0<=-r by omega) (show 0<=-r by omega);rwa[ae]at this
 have hs:s*s<(s+1)*(s+1):=by
  have:(s+1)*(s+1)=s*s+2*s+1:=by rw[Int.add_mul,Int.mul_add];omega
  omega
 obtain⟨a,b,c,d⟩:=yI s r (by omega) s.toNat (by rw[e];omega);rw[e]at b;refine⟨a,b,?_,?_⟩<;>unfold lv<;>omega
def abq{a b X Y:Int}(c:0<=b)(d:a*a<=X)(e:Y<(b+1)*(b+1))(h:X<=Y):a<=b:=by
 rcases Int.lt_or_le b a with hl|hl
 ·have:=abd (a:=b+1) (b:=a) (by omega) (by omega);omega
 ·exact hl
def aho(s r:Int):lv s (-r)=lv s r:=abS s r _
def abT{s r q:Int}(b:1<=s)(c:0<=q)(a:q<=r)(d:r<=s):lv s r<=lv s q:=by
 obtain⟨a1,a2,a3,a4⟩:=aaf b (show -s<=r by omega) d;obtain⟨e,f,g,h⟩:=aaf b (show -s<=q by omega) (show q<=s by omega);have:=abd c a;exact abq (X:=s*s-r*r) (Y:=s*s-q*q) e (by omega) (by omega) (by omega)
def abU{s r:Int}(c:1<=s)(f:0<=r)(d:r<=s):lv s r<=lv (s+1) r:=by
 obtain⟨a1,a2,a3,a4⟩:=aaf c (show -s<=r by omega) d;obtain⟨e,g,h,i⟩:=aaf (s:=s+1) (r:=r) (by omega) (by omega) (by omega);have:=abd (a:=s) (b:=s+1) (by omega) (by omega);exact abq (X:=s*s-r*r) (Y:=(s+1)*(s+1)-r*r) e (by omega) (by omega) (by omega)
def abV{C:CD}(hc:C.cx=0):1<=C.n4:=by
 have a:kA C.p C.n2 C.n3 C.n4 C.x4=0:=ck hc 3 (by omega);unfold kA at a
 split at a
 case isFalse=>cases a
 rename_i h;simp only[bO,eK,Bool.and_eq_true,decide_eq_true_eq]at h;omega
def aav:∀(l:List Int)(a:Int),l.foldl min a<=a/\∀x∈l,l.foldl min a<=x
 |[],a=>⟨ap _,λx h=>by cases h⟩
 |y::l,a=>by
  obtain⟨c,d⟩:=aav l (min a y);refine⟨ag c (by omega),λx b=>?_⟩
  rcases List.mem_cons.1 b with rfl|b
  ·exact ag c (by omega)
  ·exact d x b
def aax:∀(l:List Int)(a:Int),a<=l.foldl max a/\∀x∈l,x<=l.foldl max a
 |[],a=>⟨ap _,λx h=>by cases h⟩
 |y::l,a=>by
  obtain⟨c,d⟩:=aax l (max a y);refine⟨ag (by omega) c,λx b=>?_⟩
  rcases List.mem_cons.1 b with rfl|b
  ·exact ag (by omega) c
  ·exact d x b
def abW{q:iJ}{s r:Int}(c:q.n 1<=s)(d:s<=q.n 2)(e:q.n 3<=r)(f:r<=q.n 4):lv s r∈q.NY:=by
 have e1:q.n 1+((s-q.n 1).toNat:Int)=s:=by omega
 have b:q.n 3+((r-q.n 3).toNat:Int)=r:=by omega
 have a:lv (q.n 1+((s-q.n 1).toNat:Int)) (q.n 3+((r-q.n 3).toNat:Int))∈cJ (q.n 1) (q.n 3) (q.n 2-q.n 1+1).toNat (q.n 4-q.n 3+1).toNat:=by
  unfold cJ fD;refine List.mem_flatMap.2 ⟨_,List.mem_range.2 (by omega),List.mem_map.2 ⟨_,List.mem_range.2 (by omega),rfl⟩⟩
 rw[e1,b]at a;exact a
def abe{C:CD}{i:Nat}{x:Int}(h:x∈(C.x4 i).NY):abc (C.Cm i) (C.zR i x)=true:=by
 unfold CD.Cm
 cases a:C.zR i x with
 |true=>
  have:((C.x4 i).NY.any (C.zR i))=true:=List.any_eq_true.2 ⟨x,h,a⟩;rw[this];cases((C.x4 i).NY.any λx=>!C.zR i x)<;>rfl
 |false=>
  have:((C.x4 i).NY.any λx=>!C.zR i x)=true:=List.any_eq_true.2 ⟨x,h,by rw[a];rfl⟩;rw[this];cases((C.x4 i).NY.any (C.zR i))<;>rfl
def abC(hwk:∀w,Calls PL 19 #[] w (aO (.bool true) w))(C:CD)(a b o p x y:Int)(w:World)(h:C.Mem w)(ha:0<=a/\a<=255)(hb:0<=b/\b<=255)(ho:0<=o/\o<=255)(hp:0<=p/\p<=255)(hx:0<=x/\x<=65535)(hy:0<=y/\y<=65535) :
 Calls PL 7 #[.int .u8 a,.int .u8 b,.int .u8 o,.agg C.val,.int .u8 p,.int .u16 x,.int .u16 y] w (aO (.bool true) w):=by
 have HM:Hid (∀W,Below w.heap.size w W->C.Mem W):=aP λW d=>h.below d;have X:=aP (show KB C w (w.alloc (.cells C.val 27)) from⟨au _ _,(aa _ _).alloc (Nat.le_refl _) _⟩);have HW:=aP hwk;have Y:=aP (aT ha (aT hb (aT ho (aT hp (aT hx hy)))));clear h hwk ha hb ho hp hx hy
 go_enter (fx (by decide) Tryz.func7),Tryz.ntmps7
 go_upto_region 2 with(fail)
 obtain⟨S,hS,s1,Z⟩:∃S,a5 (1+(a5 a).tmod 90)=S/\1<=S/\S<=90:=by
  obtain⟨ha,_⟩:=Y.out;have e:a5 a=a:=by unfold a5;omega
  rw[e,ab ha.1];refine⟨_,rfl,?_⟩;unfold a5;omega
 rw[hS];clear hS
 go_upto_region 3 with(fail)
 obtain⟨R,hR,r1,r2⟩:∃R,(a5 b).tmod (S+1)=R/\0<=R/\R<=S:=by
  obtain⟨_,hb,_⟩:=Y.out;have e:a5 b=b:=by unfold a5;omega
  rw[e,ab hb.1];have:=ac b (show S+1≠0 by omega);have:=ad b (show 0<S+1 by omega);exact⟨_,rfl,by omega,by omega⟩
 rw[hR];clear hR
 go_upto_region 4 with(fail)
 obtain⟨Q,hQ,q1,q2⟩:∃Q,(a5 o).tmod (R+1)=Q/\0<=Q/\Q<=R:=by
  obtain⟨_,_,ho,_⟩:=Y.out;have e:a5 o=o:=by unfold a5;omega
  rw[e,ab ho.1];have:=ac o (show R+1≠0 by omega);have:=ad o (show 0<R+1 by omega);exact⟨_,rfl,by omega,by omega⟩
 rw[hQ];clear hQ;have HL:Hid (∀r W,-S<=r->r<=S->Calls PL 20 #[.int .i64 S,.int .i64 r] W λe w'=>e=.returned (.tuple #[.int .i64 (lv S r),.int .i64 0])/\w'=W):=aP λr W h1 h2=>by have:=uD S r W;rwa[Q3 s1 Z h1 h2]at this
 go_upto_region 7 with(go_at_call 20;refine(HL.out _ _ (by omega) (by omega)).mono ?_;rintro e w'⟨rfl,rfl⟩)
 rw[aho];have HF:=aP (aaf (s:=S) (r:=R) s1 (by omega) r2);have HK:=aP (abT (s:=S) (r:=R) (q:=Q) s1 q1 q2 r2);have J:=aP (abU (s:=S) (r:=R) s1 r1 r2);have HLm:Hid (S<90->∀W,Calls PL 20 #[.int .i64 (S+1),.int .i64 R] W λe w'=>e=.returned (.tuple #[.int .i64 (lv (S+1) R),.int .i64 0])/\w'=W):=aP λh W=>by have:=uD (S+1) R W;rwa[Q3 (by omega) (by omega) (by omega) (by omega)]at this
 generalize hn:lv S R=n at HF HK J ⊢;generalize hk:lv S Q=k at HK ⊢;generalize hm:lv (S+1) R=m at J HLm;clear hn hk hm;obtain⟨n1,n2,n3,n4⟩:=HF.out;have n5:=HK.out;have n6:=J.out;have hSS:=abd (show 0<=S by omega) Z;have hNN:=abd n1 (ag n2 Z);have hRR:=abd r1 (ag r2 Z);have hMM:=abd (show 0<=n+1 by omega) (show n+1<=91 by omega);have Cd:=ao (show 0<=S by omega) (show 0<=S by omega);have vt:=ao n1 n1;have hR0:=ao r1 r1;have hM0:=ao (show 0<=n+1 by omega) (show 0<=n+1 by omega)
 go_upto_if 121 with(fail)
 any_goals (try (rename_i u v;exfalso;simp only[a5]at u v;omega))
 any_goals (try (rename_i u;exfalso;simp only[a5]at u;omega))
 clear hSS hNN hRR hMM Cd vt hR0 hM0 n3 n4
 go_cut [24,25] from 121 to 135 (fun(_:Value)(_:Value)(wx:World)=>wx=w.alloc (.cells C.val 27))
 case first=>
  by_cases h90:S<90
  ·go_wp2_with (go_at_call 20;refine(HLm.out (by omega) _).mono ?_;rintro e w'⟨rfl,rfl⟩)
   go_meet
   case rel=>rfl
  ·go_wp2_with fail
   go_meet
   case rel=>rfl
 case rest=>
  subst hcut;by_cases f:C.LR=true
  case neg=>
   have hff:C.LR=false:=by simpa using f
   have HG:Hid (∀W,C.Mem W->Calls PL 33 #[.agg C.val] W (aO (.bool false) W)):=aP λW K=>by have:=aaG C W K;rwa[hff]at this
   clear f hff;obtain⟨g,l,z,A,f4,B⟩:=bf X.out.box
   go_wp2_with (first
    |(go_at_call 33;refine(HG.out _ (HM.out _ X.out.low)).mono ?_;rintro e w1⟨rfl,aL⟩;have K1:=aP (X.out.on aL);clear aL)
    |(go_at_call 19;refine(HW.out _).mono ?_;rintro e w2⟨rfl,qA⟩;have K2:=aP (K1.out.on qA);clear qA))
   go_ret
   exact⟨rfl,K2.out.low⟩
  have HC:Hid (C.small=true/\C.cx=0):=aP (by simpa[CD.LR]using f);have HA:Hid (∀W,Below w.heap.size w W->C.At W):=aP λW d=>CD.At.Ri (HM.out W d) HC.out.1;have HG:Hid (∀W,C.Mem W->Calls PL 33 #[.agg C.val] W (aO (.bool true) W)):=aP λW K=>by have:=aaG C W K;rwa[f]at this
  have h4:1<=(C.n4:Int):=by have:=abV HC.out.2;omega
  clear f;obtain⟨g,l,z,A,f4,B⟩:=bf X.out.box
  go_upto_region 16 with(go_at_call 33;refine(HG.out _ (HM.out _ X.out.low)).mono ?_;rintro e w1⟨rfl,aL⟩;have K1:=aP (X.out.on aL);clear aL;clear g l z A f4 B;obtain⟨g,l,z,A,f4,B⟩:=bf K1.out.box)
  obtain⟨i,hi,Xj⟩:∃i:Nat,(a5 p).tmod C.n4=i/\i<C.n4:=by
   obtain⟨_,_,_,hp,_⟩:=Y.out;have e:a5 p=p:=by unfold a5;omega
   rw[e,ab hp.1];have:=ac p (show(C.n4:Int)≠0 by omega);have:=ad p (show 0<(C.n4:Int) by omega);exact⟨(p % C.n4).toNat,by omega,by omega⟩
  rw[hi];clear hi;have OK:=aP (Kq HC.out.2 Xj);obtain⟨a1,M⟩:∃t,(C.x4 i).n 1=t:=⟨_,rfl⟩
  obtain⟨a2,N⟩:∃t,(C.x4 i).n 2=t:=⟨_,rfl⟩
  obtain⟨a3,O⟩:∃t,(C.x4 i).n 3=t:=⟨_,rfl⟩
  obtain⟨a4,P⟩:∃t,(C.x4 i).n 4=t:=⟨_,rfl⟩
  obtain⟨ps,hps⟩:∃t,a1+IntKind.i64.wrap x % (a2-a1+1)=t:=⟨_,rfl⟩
  obtain⟨I,hpr⟩:∃t,a3+IntKind.i64.wrap y % (a4-a3+1)=t:=⟨_,rfl⟩
  have lq:a1<=ps/\ps<=a2/\a3<=I/\I<=a4:=by
   obtain⟨o1,o2,o3,o4,o5,o6⟩:=OK.out;rw[M,N]at o2;rw[O,P]at o5;have:=ac (IntKind.i64.wrap x) (show a2-a1+1≠0 by omega);have:=ad (IntKind.i64.wrap x) (show 0<a2-a1+1 by omega);have:=ac (IntKind.i64.wrap y) (show a4-a3+1≠0 by omega);have:=ad (IntKind.i64.wrap y) (show 0<a4-a3+1 by omega);omega
  have D:=aP (abW (q:=C.x4 i) (s:=ps) (r:=I) (by omega) (by omega) (by omega) (by omega));have HP1:Hid (∀W,Calls PL 40 #[.agg #[.int .i64 a1,.int .i64 a2],.int .i64 (IntKind.i64.wrap x)] W (aO (.int .i64 ps) W)):=aP λW=>by
   obtain⟨o1,o2,o3,o4,o5,o6⟩:=OK.out;obtain⟨_,_,_,_,hx,_⟩:=Y.out;have e:IntKind.i64.wrap x=x:=ar _ (by omega);have:=abi a1 a2 (IntKind.i64.wrap x) W (by omega) (by omega) (by omega) (by omega) (by omega);rwa[hps]at this
  have HP2:Hid (∀W,Calls PL 40 #[.agg #[.int .i64 a3,.int .i64 a4],.int .i64 (IntKind.i64.wrap y)] W (aO (.int .i64 I) W)):=aP λW=>by
   obtain⟨o1,o2,o3,o4,o5,o6⟩:=OK.out;obtain⟨_,_,_,_,_,hy⟩:=Y.out;have e:IntKind.i64.wrap y=y:=ar _ (by omega);have:=abi a3 a4 (IntKind.i64.wrap y) W (by omega) (by omega) (by omega) (by omega) (by omega);rwa[hpr]at this
  have HL2:Hid (∀W,Calls PL 20 #[.int .i64 ps,.int .i64 I] W λe w'=>e=.returned (.tuple #[.int .i64 (lv ps I),.int .i64 0])/\w'=W):=aP λW=>by
   obtain⟨o1,o2,o3,o4,o5,o6⟩:=OK.out;have:=uD ps I W;rwa[Q3 (by omega) (by omega) (by omega) (by omega)]at this
  generalize lv ps I=L at D HL2;have HI:Hid ((i:Int)<C.n4):=aP (by omega);have HV:Hid ((C.x4 i).n 1=a1/\(C.x4 i).n 2=a2/\(C.x4 i).n 3=a3/\(C.x4 i).n 4=a4):=aP ⟨M,N,O,P⟩;clear lq hps hpr M N O P;refine aw ?_;refine ig (KB C w) (λ_ _=>True) (λ_=>true) (λ_ _ _=>True) rfl (by kernel_rfl) (λ_ _ _ _ _ h=>h) (λ_ _ _ _ _ _ _ _ h=>h) ?_ ?_
  ·exact K1.out.on (aa _ _).drew
  iterate 8 (
   apply aY
   case hE=>rfl
   case h=>
    intro vs W c hd;have hI:=HI.out;obtain⟨g,l,z,A,f4,B⟩:=bf c.box;obtain⟨s4,k0,k1,k2,k3,k4,k5,k6,k7,k8,k9,CG,CH,ER⟩:=yK (HA.out _ c.low) Xj;obtain⟨v1,v2,v3,v4⟩:=HV.out;rw[v1]at k1;rw[v2]at k2;rw[v3]at k3;rw[v4]at k4;clear v1 v2 v3 v4
    go_simp
    first|exact rfl|exact⟨rfl,c⟩|exact⟨rfl,c,trivial⟩
   case hb=>intro vs;simp only[aF,aH,aI,aJ];rfl)
  (
    apply aY
    case hE=>rfl
    case h=>
     intro vs W c hd
     go_simp
     go_at_call 40;refine(HP1.out _).mono ?_;rintro e W'⟨rfl,d⟩;first|exact⟨_,rfl,rfl,c.on d⟩|exact⟨_,rfl,rfl,c.on d,trivial⟩
    case hb=>intro vs;simp only[aF,aH,aI,aJ];rfl)
  iterate 8 (
   apply aY
   case hE=>rfl
   case h=>
    intro vs W c hd;have hI:=HI.out;obtain⟨g,l,z,A,f4,B⟩:=bf c.box;obtain⟨s4,k0,k1,k2,k3,k4,k5,k6,k7,k8,k9,CG,CH,ER⟩:=yK (HA.out _ c.low) Xj;obtain⟨v1,v2,v3,v4⟩:=HV.out;rw[v1]at k1;rw[v2]at k2;rw[v3]at k3;rw[v4]at k4;clear v1 v2 v3 v4
    go_simp
    first|exact rfl|exact⟨rfl,c⟩|exact⟨rfl,c,trivial⟩
   case hb=>intro vs;simp only[aF,aH,aI,aJ];rfl)
  (
    apply aY
    case hE=>rfl
    case h=>
     intro vs W c hd
     go_simp
     go_at_call 40;refine(HP2.out _).mono ?_;rintro e W'⟨rfl,d⟩;first|exact⟨_,rfl,rfl,c.on d⟩|exact⟨_,rfl,rfl,c.on d,trivial⟩
    case hb=>intro vs;simp only[aF,aH,aI,aJ];rfl)
  (
    apply aY
    case hE=>rfl
    case h=>
     intro vs W c hd
     go_simp
     go_at_call 20;refine(HL2.out _).mono ?_;rintro e W'⟨rfl,rfl⟩;first|exact⟨_,rfl,rfl,c⟩|exact⟨_,rfl,rfl,c,trivial⟩
    case hb=>intro vs;simp only[aF,aH,aI,aJ];rfl)
  iterate 5 (
   apply aY
   case hE=>rfl
   case h=>
    intro vs W c hd
    go_simp
    first|exact rfl|exact⟨rfl,c⟩|exact⟨rfl,c,trivial⟩
   case hb=>intro vs;simp only[aF,aH,aI,aJ];rfl)
  refine cP λvs W c hd=>?_;refine NoPanic.normal ?_;have K2:=aP c;clear c hd;obtain⟨T,U⟩:∃t,(C.x4 i).low=t:=⟨_,rfl⟩
  obtain⟨dh,V⟩:∃t,(C.x4 i).high=t:=⟨_,rfl⟩
  obtain⟨al,E⟩:∃t,C.Cm i=t:=⟨_,rfl⟩
  obtain⟨j,hj,F⟩:∃j:Nat,(C.x4 i).n 5=j/\j<C.n2:=by
   obtain⟨z1,z2⟩:=Rt HC.out.2 Xj;exact⟨((C.x4 i).n 5).toNat,by omega,by omega⟩
  obtain⟨bi,H⟩:∃t,C.zR i L=t:=⟨_,rfl⟩
  have aB:C.b6 (bO i 0 (C.n4-1))=0:=by
   have e:bO (i:Int) 0 (C.n4-1)=true:=by simp[bO];omega
   rw[CD.b6,if_pos HC.out.2,e];rfl
  have HD1:Hid (∀W,C.At W->Calls PL 24 #[.agg C.val,.int .i64 i] W (aO (.tuple #[.agg #[.int .i64 T,.int .i64 dh],.int .i64 0]) W)):=aP λW K=>by have:=nB C i W K;rwa[CD.kR,if_pos aB,aq,U,V]at this
  have HA1:Hid (∀W,C.At W->Calls PL 26 #[.agg C.val,.int .i64 i] W (aO (.tuple #[.int .i64 al,.int .i64 0]) W)):=aP λW K=>by have:=pH C i W K;rwa[CD.iq,if_pos aB,aq,E]at this
  have HI1:Hid (∀W,Calls PL 41 #[.agg #[.int .i64 T,.int .i64 dh],.int .i64 L] W (aO (.bool true) W)):=aP λW=>by
   have h1:=(aav (C.x4 i).NY 90).2 L D.out;have h2:=(aax (C.x4 i).NY 0).2 L D.out;have:=abB T dh L W;rwa[show(decide (T<=L)&&decide (L<=dh))=true by simp;exact⟨by rw[<-U];exact h1,by rw[<-V];exact h2⟩]at this
  have HI2:Hid (∀W,Calls PL 41 #[.agg #[.int .i64 (C.x2 j).1,.int .i64 (C.x2 j).2],.int .i64 L] W (aO (.bool bi) W)):=aP λW=>by
   have:=abB (C.x2 j).1 (C.x2 j).2 L W;rwa[show(decide ((C.x2 j).1<=L)&&decide (L<=(C.x2 j).2))=bi by rw[<-H,CD.zR,CD.sz,hj];rfl]at this
  have HG1:Hid (∀W,Calls PL 42 #[.int .i64 al,.bool bi] W (aO (.bool true) W)):=aP λW=>by
   have:=abm al bi W;rwa[<-E,<-H,abe D.out,E,H]at this
  have HJ:Hid ((C.x4 i).n 5=j):=aP hj;clear U V E H aB hj;obtain⟨g,l,z,A,f4,B⟩:=bf K2.out.box;have hz:=K2.out.lt
  go_upto_region 19 with(first
   |(go_at_call 24;refine(HD1.out _ (HA.out _ K2.out.low)).mono ?_;rintro e w2⟨rfl,qA⟩;have K3:=aP (K2.out.on qA);have K4:=aP (K3.out.alloc (.cells #[.int .i64 T,.int .i64 dh] 35));clear qA hz g l z A f4 B;have hz:=K3.out.lt;obtain⟨g,l,z,A,f4,B⟩:=bf K3.out.box)
   |(go_at_call 26;refine(HA1.out _ (HA.out _ K4.out.low)).mono ?_;rintro e w3⟨rfl,qi⟩;have K5:=aP (K4.out.on qi);have KX:=aP ((qi.block _ (by simp)).trans (au w2 (.cells #[.int .i64 T,.int .i64 dh] 35)));clear qi hz g l z A f4 B))
  refine aw ?_;refine ig (λW=>KB C w W/\W.heap[w2.heap.size]?=some (.cells #[.int .i64 T,.int .i64 dh] 35)) (λ_ _=>True) (λ_=>true) (λ_ _ _=>True) rfl (by kernel_rfl) (λ_ _ _ _ _ h=>h) (λ_ _ _ _ _ _ _ _ h=>h) ?_ ?_
  ·exact⟨K5.out.on (aa _ _).drew,KX.out⟩
  iterate 13 (
   apply aY
   case hE=>rfl
   case h=>
    intro vs W c hd;have hI:=HI.out;have hz:=c.1.lt;obtain⟨g,l,z,A,f4,B⟩:=bf c.1.box;obtain⟨y0,y1,_,_⟩:=uJ c.2;have hA:=HA.out _ c.1.low;obtain⟨s4,k0,k1,k2,k3,k4,k5,k6,k7,k8,k9,CG,CH,ER⟩:=yK hA Xj;have Z:=hA.s2 (by omega);have z0:=hA.Ep _ F;have z1:=hA.Er _ F;have hjj:(j:Int)<C.n2:=by omega
    rw[HJ.out]at k5;clear hA
    go_simp
    first|exact rfl|exact⟨rfl,c⟩|exact⟨rfl,c,trivial⟩
   case hb=>intro vs;simp only[aF,aH,aI,aJ];rfl)
  (
    apply aY
    case hE=>rfl
    case h=>
     intro vs W c hd
     go_simp
     go_at_call 41;refine(HI1.out _).mono ?_;rintro e W'⟨rfl,d⟩;first|exact⟨_,rfl,rfl,c.1.on d,(d.block _ (a6 c.2)).trans c.2⟩|exact⟨_,rfl,rfl,⟨c.1.on d,(d.block _ (a6 c.2)).trans c.2⟩,trivial⟩
    case hb=>intro vs;simp only[aF,aH,aI,aJ];rfl)
  iterate 14 (
   apply aY
   case hE=>rfl
   case h=>
    intro vs W c hd;have hI:=HI.out;have hz:=c.1.lt;obtain⟨g,l,z,A,f4,B⟩:=bf c.1.box;obtain⟨y0,y1,_,_⟩:=uJ c.2;have hA:=HA.out _ c.1.low;obtain⟨s4,k0,k1,k2,k3,k4,k5,k6,k7,k8,k9,CG,CH,ER⟩:=yK hA Xj;have Z:=hA.s2 (by omega);have z0:=hA.Ep _ F;have z1:=hA.Er _ F;have hjj:(j:Int)<C.n2:=by omega
    rw[HJ.out]at k5;clear hA
    go_simp
    first|exact rfl|exact⟨rfl,c⟩|exact⟨rfl,c,trivial⟩
   case hb=>intro vs;simp only[aF,aH,aI,aJ];rfl)
  (
    apply aY
    case hE=>rfl
    case h=>
     intro vs W c hd
     go_simp
     go_at_call 41;refine(HI2.out _).mono ?_;rintro e W'⟨rfl,d⟩;first|exact⟨_,rfl,rfl,c.1.on d,(d.block _ (a6 c.2)).trans c.2⟩|exact⟨_,rfl,rfl,⟨c.1.on d,(d.block _ (a6 c.2)).trans c.2⟩,trivial⟩
    case hb=>intro vs;simp only[aF,aH,aI,aJ];rfl)
  (
    apply aY
    case hE=>rfl
    case h=>
     intro vs W c hd
     go_simp
     go_at_call 42;refine(HG1.out _).mono ?_;rintro e W'⟨rfl,d⟩;first|exact⟨_,rfl,rfl,c.1.on d,(d.block _ (a6 c.2)).trans c.2⟩|exact⟨_,rfl,rfl,⟨c.1.on d,(d.block _ (a6 c.2)).trans c.2⟩,trivial⟩
    case hb=>intro vs;simp only[aF,aH,aI,aJ];rfl)
  iterate 2 (
   apply aY
   case hE=>rfl
   case h=>
    intro vs W c hd
    go_simp
    first|exact rfl|exact⟨rfl,c⟩|exact⟨rfl,c,trivial⟩
   case hb=>intro vs;simp only[aF,aH,aI,aJ];rfl)
  (
    apply aY
    case hE=>rfl
    case h=>
     intro vs W c hd
     go_simp
     go_at_call 19;refine(HW.out _).mono ?_;rintro e W'⟨rfl,d⟩;first|exact⟨_,rfl,rfl,c.1.on d,(d.block _ (a6 c.2)).trans c.2⟩|exact⟨_,rfl,rfl,⟨c.1.on d,(d.block _ (a6 c.2)).trans c.2⟩,trivial⟩
    case hb=>intro vs;simp only[aF,aH,aI,aJ];rfl)
  iterate 2 (
   apply aY
   case hE=>rfl
   case h=>
    intro vs W c hd
    go_simp
    first|exact rfl|exact⟨rfl,c⟩|exact⟨rfl,c,trivial⟩
   case hb=>intro vs;simp only[aF,aH,aI,aJ];rfl)
  refine cP λvs W c hd=>?_;refine NoPanic.normal ?_
  go_wp2
  go_ret
  exact⟨rfl,c.1.low⟩
end Go.Proofs
