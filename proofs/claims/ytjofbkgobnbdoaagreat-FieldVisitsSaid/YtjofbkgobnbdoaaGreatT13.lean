/- Part of the proof of FieldVisits. -/
import Derived.Test.YtjofbkgobnbdoaaGreatT12
set_option linter.all false
open Nat renaming add_assoc->aa,zero_le->ab,le_refl->ac
open Go.Lib renaming hid->ad
namespace Go.Proofs
open Go.RowKit Go.Shelf
attribute [local go_sem] Oper.semAt_some
set_option maxRecDepth 100000
set_option maxHeartbeats 40000000
def abl{W:World}{v:Value}{l:List nR}(h:j9 W v l):Reads W v l.length 5 λj=>.int .i64 (Q3 (l.getD (j / 5) (0,0,0,0,0)) (j % 5)):=by
 obtain⟨b,c,rfl,h⟩:=h;refine⟨b,c,rfl,λg=>?_⟩;obtain⟨k,o,e,i,hc⟩:=h g;refine⟨k,o,e,i,λj a=>?_⟩;have d:j / 5<l.length:=by omega
 obtain⟨c0,c1,m,c3,n⟩:=hc (j / 5) d;have hl:l.getD (j / 5) (0,0,0,0,0)=l[j / 5]:=by simp[List.getD_eq_getElem?_getD,d]
 show W.cell? ⟨k,o+j,none⟩=some (.int .i64 (Q3 (l.getD (j / 5) (0,0,0,0,0)) (j % 5)));rw[hl];have f:j % 5<5:=Nat.mod_lt _ (by decide);have a:j=j / 5*5+j % 5:=by omega
 generalize j % 5=r at f a;generalize j / 5=q at *;subst a
 match r,f with
 |0,_=>exact c0
 |1,_=>rw[<-aa];exact c1
 |2,_=>rw[<-aa];exact m
 |3,_=>rw[<-aa];exact c3
 |4,_=>rw[<-aa];exact n
def ahc{C:CD}{w:World}(h:C.At w)(n:Int):(R9 C n).length<=20:=by
 unfold R9
 split
 ·rw[R7];exact h.m4
 ·exact ab _
def agF{C:CD}{w:World}(h:C.At w)(m:Int):(NR C m).length<=20:=by
 unfold NR
 split
 ·rw[Nt];exact h.m4
 ·exact ab _
def aen(H:∀w,Calls PL 5 #[] w (aO (.bool true) w))(C:CD)(n m:Int)(w:World)(h:C.Mem w) :
 Calls PL 3 #[.agg C.val,.int .i64 n,.int .i64 m] w (aO (.bool true) w):=by
 have V:Hid (∀W,Below w.heap.size w W->C.Mem W):=ad λW a=>h.below a;have D:=ad (show KB C w (w.alloc (.cells C.val 27)) from⟨au _ _,(Below.refl _ _).alloc (ac _) _⟩);have HW:=ad H;have E:Hid (∀W,C.Mem W->Calls PL 4 #[.agg C.val] W (aO (.bool (!C.small)) W)):=ad λW l=>AK C W l;clear h H
 cases hs:C.small with
 |false=>
  rw[hs]at E;simp only[Bool.not_false]at E;clear hs
  go_enter (fx (by decide) Tryz.func3),Tryz.ntmps3
  obtain⟨d,f,g,i,f4,j⟩:=bf D.out.box
  go_wp2_with (first
   |(go_at_call 4;refine(E.out _ (V.out _ D.out.low)).mono ?_;rintro e w1⟨rfl,I⟩;have J:=ad (D.out.on I);clear I)
   |(go_at_call 5;refine(HW.out _).mono ?_;rintro e w2⟨rfl,qA⟩;have K:=ad (J.out.on qA);clear qA))
  go_ret
  exact⟨rfl,K.out.low⟩
 |true=>
  rw[hs]at E;simp only[Bool.not_true]at E;have r:Hid (∀W,Below w.heap.size w W->C.At W):=ad λW a=>CD.At.Ri (V.out W a) hs;clear hs;obtain⟨L,Q⟩:∃L,L=R9 C n:=⟨_,rfl⟩
  obtain⟨S,R⟩:∃S,S=NR C m:=⟨_,rfl⟩
  obtain⟨F,o⟩:∃x,x=C.b6 (bO n 0 (C.n5-1)):=⟨_,rfl⟩
  obtain⟨fm,u⟩:∃x,x=s9 C m:=⟨_,rfl⟩
  obtain⟨e1,v⟩:∃x,x=(abk C n).1:=⟨_,rfl⟩
  obtain⟨p,y⟩:∃x,x=(abk C n).2:=⟨_,rfl⟩
  obtain⟨tu,z⟩:∃x,x=yd C n:=⟨_,rfl⟩
  have M:L.length<=20:=by rw[Q];exact ahc (r.out w (Below.refl _ _)) n
  have N:S.length<=20:=by rw[R];exact agF (r.out w (Below.refl _ _)) m
  obtain⟨s,A⟩:∃k,k=L.length:=⟨_,rfl⟩
  obtain⟨t,Y⟩:∃k,k=S.length:=⟨_,rfl⟩
  have V1:Hid (∀W,C.At W->Calls PL 6 #[.agg C.val,.int .i64 n] W λe w'=>∃b c,e=.returned (.tuple #[.slice b s c,.int .i64 F])/\j9 w' (.slice b s c) L/\Below W.heap.size W w'):=ad λW l=>by rw[A,Q,o];exact aha C n W l
  have V2:Hid (∀W,C.At W->Calls PL 7 #[.agg C.val,.int .i64 n] W λe w'=>∃b c,e=.returned (.tuple #[.slice b s c,.int .i64 F])/\j9 w' (.slice b s c) L/\Below W.heap.size W w'):=ad λW l=>by rw[A,Q,o];exact agD C n W l
  have E1:Hid (∀W,C.At W->Calls PL 9 #[.agg C.val,.int .i64 n] W (aO (.tuple #[.agg #[.int .i64 e1,.int .i64 p],.int .i64 F]) W)):=ad λW l=>by rw[v,y,o];exact alN C n W l
  have E2:Hid (∀W,C.At W->Calls PL 10 #[.agg C.val,.int .i64 n] W (aO (.tuple #[.agg #[.int .i64 e1,.int .i64 p],.int .i64 F]) W)):=ad λW l=>by rw[v,y,o];exact ahC C n W l
  have T1:Hid (∀W,C.At W->Calls PL 11 #[.agg C.val,.int .i64 n] W (aO (.tuple #[.int .i64 tu,.int .i64 F]) W)):=ad λW l=>by rw[z,o];exact ahb C n W l
  have T2:Hid (∀W,C.At W->Calls PL 12 #[.agg C.val,.int .i64 n] W (aO (.tuple #[.int .i64 tu,.int .i64 F]) W)):=ad λW l=>by rw[z,o];exact agE C n W l
  have S1:Hid (∀W,C.At W->Calls PL 13 #[.agg C.val,.int .i64 m] W λe w'=>∃b c,e=.returned (.tuple #[.slice b t c,.int .i64 fm])/\bB w' (.slice b t c) S/\Below W.heap.size W w'):=ad λW l=>by rw[Y,R,u];exact alO C m W l
  have S2:Hid (∀W,C.At W->Calls PL 14 #[.agg C.val,.int .i64 m] W λe w'=>∃b c,e=.returned (.tuple #[.slice b t c,.int .i64 fm])/\bB w' (.slice b t c) S/\Below W.heap.size W w'):=ad λW l=>by rw[Y,R,u];exact ahD C m W l
  have SV:Hid (∀W b c b' B,j9 W (.slice b s c) L->j9 W (.slice b' s B) L->Calls PL 8 #[.slice b s c,.slice b' s B] W (aO (.bool true) W)):=ad λW b c b' B Z h2=>zT _ _ L.length _ W (abl Z) (abl h2) M;have SS:Hid (∀W b c b' B,bB W (.slice b t c) S->bB W (.slice b' t B) S->Calls PL 15 #[.slice b t c,.slice b' t B] W (aO (.bool true) W)):=ad λW b c b' B Z h2=>Cp _ _ S.length _ W Z h2 N;clear Q R o u v y z A Y M N;have q3:=yM;have q4:=Co
  go_enter (fx (by decide) Tryz.func3),Tryz.ntmps3
  obtain⟨d,f,g,i,f4,j⟩:=bf D.out.box
  go_upto_region 3 with(go_at_call 4;refine(E.out _ (V.out _ D.out.low)).mono ?_;rintro e w1⟨rfl,I⟩;have J:=ad (D.out.on I);clear I d f g i f4 j;obtain⟨d,f,g,i,f4,j⟩:=bf J.out.box)
  go_upto_region 4 with(go_at_call 6;(with_reducible refine(V1.out _ (r.out _ J.out.low)).mono ?_);rintro e w2⟨b1,c1,rfl,q,a⟩;have K:=ad (J.out.on a);have R1:=ad q;clear q a d f g i f4 j;obtain⟨d,f,g,i,f4,j⟩:=bf K.out.box)
  go_upto_region 5 with(go_at_call 7;(with_reducible refine(V2.out _ (r.out _ K.out.low)).mono ?_);rintro e w3⟨b2,c2,rfl,q,a⟩;have K3:=ad (K.out.on a);have R2:=ad (R1.out.on a);have R3:=ad q;clear q a d f g i f4 j)
  go_upto_region 7 with(go_at_call 8;(with_reducible refine(SV.out _ _ _ _ _ R2.out R3.out).mono ?_);rintro e w4⟨rfl,a⟩;have K4:=ad (K3.out.on a);clear a;obtain⟨d,f,g,i,f4,j⟩:=bf K4.out.box)
  go_upto_region 8 with(go_at_call 9;(with_reducible refine(E1.out _ (r.out _ K4.out.low)).mono ?_);rintro e w5⟨rfl,a⟩;have K5:=ad (K4.out.on a);clear a d f g i f4 j)
  have T:=ad (K5.out.alloc (.cells #[.int .i64 e1,.int .i64 p] 36));have X5:Hid ((w5.alloc (.cells #[.int .i64 e1,.int .i64 p] 36)).heap[w5.heap.size]?=some (.cells #[.int .i64 e1,.int .i64 p] 36)):=ad (au _ _);obtain⟨W5,O⟩:∃X:World,X=w5.alloc (.cells #[.int .i64 e1,.int .i64 p] 36):=⟨_,rfl⟩
  rw[<-O]at T X5 ⊢;clear O;obtain⟨d,f,g,i,f4,j⟩:=bf T.out.box
  go_upto_region 9 with(go_at_call 10;(with_reducible refine(E2.out _ (r.out _ T.out.low)).mono ?_);rintro e w6⟨rfl,a⟩;have K7:=ad (T.out.on a);have X6:=ad ((a.block _ (getElem?_lt' X5.out)).trans X5.out);clear a d f g i f4 j)
  have U:=ad (K7.out.alloc (.cells #[.int .i64 e1,.int .i64 p] 36));have X7:Hid ((w6.alloc (.cells #[.int .i64 e1,.int .i64 p] 36)).heap[w6.heap.size]?=some (.cells #[.int .i64 e1,.int .i64 p] 36)):=ad (au _ _);have X8:Hid ((w6.alloc (.cells #[.int .i64 e1,.int .i64 p] 36)).heap[w5.heap.size]?=some (.cells #[.int .i64 e1,.int .i64 p] 36)):=ad ((((Below.refl w6.heap.size w6).alloc (ac _) _).block _ (getElem?_lt' X6.out)).trans X6.out);obtain⟨W6,P⟩:∃X:World,X=w6.alloc (.cells #[.int .i64 e1,.int .i64 p] 36):=⟨_,rfl⟩
  rw[<-P]at U X7 X8 ⊢;clear P;obtain⟨y0,y1⟩:=KD X7.out;obtain⟨y2,y3⟩:=KD X8.out
  go_upto_region 11 with fail
  clear y0 y1 y2 y3;obtain⟨d,f,g,i,f4,j⟩:=bf U.out.box
  go_upto_region 12 with(go_at_call 11;(with_reducible refine(T1.out _ (r.out _ U.out.low)).mono ?_);rintro e w7⟨rfl,a⟩;have K9:=ad (U.out.on a);clear a d f g i f4 j;obtain⟨d,f,g,i,f4,j⟩:=bf K9.out.box)
  go_upto_region 13 with(go_at_call 12;(with_reducible refine(T2.out _ (r.out _ K9.out.low)).mono ?_);rintro e w8⟨rfl,a⟩;have Ry:=ad (K9.out.on a);clear a d f g i f4 j;obtain⟨d,f,g,i,f4,j⟩:=bf Ry.out.box)
  go_upto_region 15 with fail
  go_upto_region 16 with(go_at_call 13;(with_reducible refine(S1.out _ (r.out _ Ry.out.low)).mono ?_);rintro e w9⟨b3,c3,rfl,q,a⟩;have Tr:=ad (Ry.out.on a);have R4:=ad q;clear q a d f g i f4 j;obtain⟨d,f,g,i,f4,j⟩:=bf Tr.out.box)
  go_upto_region 17 with(go_at_call 14;(with_reducible refine(S2.out _ (r.out _ Tr.out.low)).mono ?_);rintro e VD⟨b4,c4,rfl,q,a⟩;have VC:=ad (Tr.out.on a);have R5:=ad (R4.out.on a);have R6:=ad q;clear q a d f g i f4 j)
  go_wp2_with (first
   |(go_at_call 15;(with_reducible refine(SS.out _ _ _ _ _ R5.out R6.out).mono ?_);rintro e w11⟨rfl,a⟩;have K13:=ad (VC.out.on a);clear a)
   |(go_at_call 5;refine(HW.out _).mono ?_;rintro e w12⟨rfl,a⟩;have hB9:=Below.on K13.out.low a;clear a))
  go_ret
  exact⟨rfl,hB9⟩
end Go.Proofs
