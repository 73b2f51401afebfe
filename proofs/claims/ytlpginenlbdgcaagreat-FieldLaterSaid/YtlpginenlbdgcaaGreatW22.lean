/- Part of the proof of FieldReached and FieldLater. -/
import Derived.Test.YtlpginenlbdgcaaGreatW18
set_option linter.all false
open List renaming map_cons->aa,foldl->ab,foldl_cons->ac,map_append->ad,length_map->ae,getElem_map->ag
open Prod renaming ext->ai
open Go.Proofs renaming mD->ao,IU->ap,getElem?_lt'->aq
open Nat renaming le_refl->ar,zero_le->aw
open Go.Lib renaming hid->aB
open Go.RowKit.Below renaming refl->aF
open Int renaming emod_nonneg->aH,emod_lt_of_pos->aI
open Go.IntWalk renaming i64_in->aJ
open Go.Value renaming slice->aL
open Go.World renaming cell?->aS
namespace Go.Proofs
open Go.RowKit Go.Shelf
set_option maxRecDepth 100000
set_option maxHeartbeats 4000000
def aho{a b:Type}{lt:a->a->Bool}{lt':b->b->Bool}(f:a->b)(h:∀x y,lt' (f x) (f y)=lt x y)(x:a)(P:List a):aal lt' (f x) (P.map f)=(aal lt x P).map f:=by
 induction P with
 |nil=>rfl
 |cons y P c=>
  rw[aa,aal,aal,h]
  split
  ·rw[aa,c]
  ·rfl
def agM{a b:Type}{lt:a->a->Bool}{lt':b->b->Bool}(f:a->b)(h:∀x y,lt' (f x) (f y)=lt x y)(l:List a):u7 lt' (l.map f)=(u7 lt l).map f:=by
 have key:∀(l P:List a),ab (λP x=>aal lt' x P) (P.map f) (l.map f)=(ab (λP x=>aal lt x P) P l).map f:=by
  intro l
  induction l with
  |nil=>intro P;rfl
  |cons x l c=>intro P;rw[aa,ac,ac,aho f h,c]
 have:=key l [];simp only[u7,aaz];rw[List.map_nil]at this;rw[this,List.map_reverse]
def shV(n:Int)(x:nR):nR:=(x.1,x.2.1+n,x.2.2.1+n,x.2.2.2.1+n,x.2.2.2.2+n)
def shT(n:Int)(x:nR):nR:=(x.1,x.2.1,x.2.2.1,x.2.2.2.1,x.2.2.2.2+n)
structure s8(C D:CD)(n:Int):Prop where
 n4:D.n4=C.n4
 n5:D.n5=C.n5
 x4:∀i,(D.x4 i).n=(C.x4 i).n
 s:∀g,(D.x5 g).2.1=(C.x5 g).2.1
 d:∀g,g<C.n5->(D.x5 g).2.2=(C.x5 g).2.2+n
def s8.st{C D:CD}{n:Int}(h:s8 C D n){g:Nat}(hg:g<C.n5)(k:Nat):nT D g k=((nT C g k).1,(nT C g k).2.1+n,(nT C g k).2.2+n):=by
 induction k with
 |zero=>simp only[nT,h.s,h.d g hg]
 |succ k a=>
  rw[nT,a];simp only[h.x4,nT,Ff,h.n4];refine ai rfl (ai ?_ ?_)<;>simp only<;>omega
def s8.vis{C D:CD}{n:Int}(h:s8 C D n){g:Nat}(hg:g<C.n5)(k:Nat):Nu D g k=shV n (Nu C g k):=by
 simp only[Nu,h.st hg,shV,h.x4];refine ai rfl (ai rfl (ai rfl (ai ?_ ?_)))<;>simp only<;>omega
def s8.mD{C D:CD}{n:Int}(h:s8 C D n){g:Nat}(hg:g<C.n5):ao D g D.n4=(ao C g C.n4).map (shV n):=by
 rw[h.n4];unfold ao;rw[List.map_map];exact List.map_congr_left λk _=>h.vis hg k
def s8.P0{C D:CD}{n:Int}(h:s8 C D n)(hc:C.cx=0)(hd:D.cx=0){g p:Nat}(hg:g<C.n5)(b:p<C.n4):∀j,1<=j->j<5->D.P0.getD (g*25+p*5+j) 0=C.P0.getD (g*25+p*5+j) 0+n:=λj c a=>by
 have d:D.S g=C.S g:=by simp only[CD.S,h.s]
 rw[CD.Z0 hd (by rw[h.n5];exact hg) (by rw[h.n4];exact b) a,CD.Z0 hc hg b a,h.n4,d,h.vis hg]
 match j,c,a with
 |1,_,_=>rfl
 |2,_,_=>rfl
 |3,_,_=>rfl
 |4,_,_=>rfl
def aid(a1 a2 a3 a4 a b c d n:Int):abO (a1+n) (a2+n) (a3+n) (a4+n) (a+n) (b+n) (c+n) (d+n)=abO a1 a2 a3 a4 a b c d:=by
 unfold abO;have e:∀x y:Int,decide (x+n<y+n)=decide (x<y):=λx y=>by simp
 have f:∀x y:Int,decide (x+n<=y+n)=decide (x<=y):=λx y=>by simp
 rw[e,e,f,f]
def s8.IU{C D:CD}{n:Int}(h:s8 C D n)(hc:C.cx=0)(hd:D.cx=0){a b p:Nat}(d:a<C.n5)(hb:b<C.n5)(c:p<C.n4):ap D.P0 a b p=shT n (ap C.P0 a b p):=by
 have A:=h.P0 hc hd d c;have B:=h.P0 hc hd hb c;simp only[ap,shT,A 1 (by omega) (by omega),A 2 (by omega) (by omega),A 3 (by omega) (by omega),A 4 (by omega) (by omega),B 1 (by omega) (by omega),B 2 (by omega) (by omega),B 3 (by omega) (by omega),B 4 (by omega) (by omega),aid];refine ai rfl (ai rfl (ai rfl (ai rfl ?_)));simp only;omega
def s8.Cv{C D:CD}{n:Int}(h:s8 C D n)(hc:C.cx=0)(hd:D.cx=0):D.Cv=C.Cv.map (shT n):=by
 have f:∀a b,a<C.n5->b<C.n5->∀k,k<=C.n4->aaD D.P0 a b k=(aaD C.P0 a b k).map (shT n):=by
  intro a b d hb k
  induction k with
  |zero=>intro _;rfl
  |succ k c=>
   intro e;rw[aaD,c (by omega),h.IU hc hd d hb (by omega),aaD,ad];congr 1;show(if(ap C.P0 a b k).2.2.2.1=2 then[] else _)=_
   split<;>rfl
 have g:∀a,a<C.n5->∀k,a+k<C.n5->N5 D.P0 C.n4 a k=(N5 C.P0 C.n4 a k).map (shT n):=by
  intro a d k
  induction k with
  |zero=>intro _;rfl
  |succ k c=>
   intro e;rw[N5,c (by omega),f a (a+1+k) d (by omega) C.n4 (ar _),N5,ad]
 have hA:∀k,k<=C.n5->aas D.P0 C.n4 C.n5 k=(aas C.P0 C.n4 C.n5 k).map (shT n):=by
  intro k
  induction k with
  |zero=>intro _;rfl
  |succ k c=>
   intro e;rw[aas,c (by omega),g k (by omega) (C.n5-(k+1)) (by omega),aas,ad]
 unfold CD.Cv acE;rw[h.n4,h.n5,hA C.n5 (ar _),agM (shT n) (lt:=aam) (lt':=aam) λx y=>by simp[aam,shT]]
def ahp{C:CD}(hc:C.cx=0){x:nR}(c:x∈C.Cv) : -10000<=x.2.2.2.2/\x.2.2.2.2<=10000:=by
 obtain⟨a,b,p,d,e,f,_,rfl⟩:=ad1.1 c;simp only[ap];have k1:=(CD.aav hc).lo (a*25+p*5+1);have k2:=(CD.aav hc).hi (a*25+p*5+1);have k3:=(CD.aav hc).hi (b*25+p*5+1);omega
def H8(C:CD)(n:Int)(k:Nat):List Int:=(List.range k).map λi=>(C.x5 i).2.2+n
def afr(C:CD)(n:Int)(k:Nat):H8 C n (k+1)=H8 C n k++[(C.x5 k).2.2+n]:=by simp[H8,List.range_succ]
def abx(C:CD)(n:Int)(k:Nat):(H8 C n k).length=k:=by simp[H8]
def aby(C:CD)(n:Int){k i:Nat}(hi:i<k)(d:Int):(H8 C n k).getD i d=(C.x5 i).2.2+n:=by
 simp[H8,List.getD_eq_getElem?_getD,hi]
def R9(C:CD):Nat->Int
 |0=>0
 |k+1=>max (R9 C k) (C.x5 k).2.2
def adm(C:CD){k i:Nat}(hi:i<k):(C.x5 i).2.2<=R9 C k:=by
 induction k with
 |zero=>omega
 |succ k a=>
  rw[R9]
  rcases Nat.lt_succ_iff_lt_or_eq.1 hi with h|rfl
  ·have:=a h;omega
  ·omega
def adn{C:CD}(hc:C.cx=0){k:Nat}(b:k<=C.n5):0<=R9 C k/\R9 C k<=12:=by
 induction k with
 |zero=>exact⟨Int.le_refl _,by show(0:Int)<=12;decide⟩
 |succ k a=>
  have:=a (by omega);have:=(abv hc (show k<C.n5 by omega)).2.1;rw[R9];omega
def ado{C:CD}{n:Int}{Y:abW}{f:Nat->iJ}(hf:∀i,abg (C.x4 i) (f i)):s8 C ((C.X0 (H8 C n C.n5)).L1 Y f) n:=
 ⟨rfl,rfl,λi=>(hf i).n,λ_=>rfl,λg hg=>aby C n hg _⟩
def abC{C:CD}{n:Int}(hc:C.cx=0)(a:0<=n/\n<=12-R9 C C.n5){Y:abW}{f:Nat->iJ}(hf:∀i,abg (C.x4 i) (f i)):((C.X0 (H8 C n C.n5)).L1 Y f).cx=0:=by
 refine ahV.check (C:=C) ⟨rfl,rfl,rfl,rfl,rfl,rfl,rfl,λi=>⟨(hf i).name,λj _=>by show(f i).n j=_;rw[(hf i).n],(hf i).ln,(hf i).lane⟩,rfl,λi=>⟨rfl,rfl⟩⟩ (λi hi=>?_) (λi hi=>?_) hc
 ·obtain⟨b,c⟩:=ah8 hc hi;show eK ((f i).n 7) ((f i).n 8) 1 60=true/\eK ((f i).n 9) ((f i).n 10) 0 60=true;rw[(hf i).n];refine⟨?_,?_⟩<;>simp[eK]<;>omega
 ·show bO ((H8 C n C.n5).getD i (C.x5 i).2.2) 0 12=true;rw[aby C n hi];have:=(abv hc hi).2.1;have:=adm C hi;simp[bO];omega
attribute [local go_sem] Oper.semAt_some
set_option maxHeartbeats 40000000
structure JLt(C:CD)(w:World)(B:Nat)(V:Array Value)(R:List (Value×List nR))(W:World):Prop where
 box:W.heap[w.heap.size]?=some (.cells C.val 27)
 two:W.heap[B]?=some (.cells V 27)
 low:Below w.heap.size w W
 r:∀q∈R,b7 W q.1 q.2
def JLt.on{C:CD}{w W b:World}{B:Nat}{V:Array Value}{R:List (Value×List nR)}(h:JLt C w B V R W)(a:Below W.heap.size W b):JLt C w B V R b:=
 ⟨(a.block _ (aq h.box)).trans h.box,(a.block _ (aq h.two)).trans h.two,Below.on h.low a,λq c=>(h.r q c).on a⟩
def JLt.push{C:CD}{w W:World}{B:Nat}{V:Array Value}{R:List (Value×List nR)}(h:JLt C w B V R W){v:Value}{l:List nR}(k:b7 W v l):JLt C w B V ((v,l)::R) W:=
 ⟨h.box,h.two,h.low,λq a=>by rcases List.mem_cons.1 a with rfl|a;exact k;exact h.r q a⟩
def agN(hwk:∀w,Calls PL 6 #[] w (aO (.bool true) w))(C:CD)(g m:Int)(w:World)(h:C.Mem w)(hg:0<=g/\g<=255)(hm:0<=m/\m<=255) :
 Calls PL 4 #[.agg C.val,.int .u8 g,.int .u8 m] w (aO (.bool true) w):=by
 have HM:Hid (∀W,Below w.heap.size w W->C.Mem W):=aB λW c=>h.below c;have L:=aB (show KB C w (w.alloc (.cells C.val 27)) from⟨au _ _,(aF _ _).alloc (ar _) _⟩);have HW:=aB hwk;have HN:=aB (And.intro hg hm);clear h hwk hg hm;by_cases H:C.LR=true
 case neg=>
  have hff:C.LR=false:=by simpa using H
  have HG:Hid (∀W,C.Mem W->Calls PL 5 #[.agg C.val] W (aO (.bool false) W)):=aB λW I=>by have:=abE C W I;rwa[hff]at this
  clear H hff
  go_enter (fx (by decide) Tryz.func4),Tryz.ntmps4
  obtain⟨s,u,y,z,f4,o⟩:=bf L.out.box
  go_wp2_with (first
   |(go_at_call 5;refine(HG.out _ (HM.out _ L.out.low)).mono ?_;rintro e w1⟨rfl,P⟩;have O:=aB (L.out.on P);clear P)
   |(go_at_call 6;refine(HW.out _).mono ?_;rintro e w2⟨rfl,qA⟩;have K2:=aB (O.out.on qA);clear qA))
  go_ret
  exact⟨rfl,K2.out.low⟩
 have A:Hid (C.small=true/\C.cx=0):=aB (by simpa[CD.LR]using H);have HA:Hid (∀W,Below w.heap.size w W->C.At W):=aB λW c=>CD.At.Ri (HM.out W c) A.out.1;have HG:Hid (∀W,C.Mem W->Calls PL 5 #[.agg C.val] W (aO (.bool true) W)):=aB λW I=>by have:=abE C W I;rwa[H]at this
 clear H;by_cases hn5:C.n5=0
 ·have asu:(C.n5:Int)=0:=by omega
  clear hn5
  go_enter (fx (by decide) Tryz.func4),Tryz.ntmps4
  obtain⟨s,u,y,z,f4,o⟩:=bf L.out.box
  go_wp2_with (first
   |(go_at_call 5;refine(HG.out _ (HM.out _ L.out.low)).mono ?_;rintro e w1⟨rfl,P⟩;have O:=aB (L.out.on P);clear P;clear s u y z f4 o;obtain⟨s,u,y,z,f4,o⟩:=bf O.out.box)
   |(go_at_call 6;refine(HW.out _).mono ?_;rintro e w2⟨rfl,qA⟩;have K2:=aB (O.out.on qA);clear qA))
  go_ret
  exact⟨rfl,K2.out.low⟩
 obtain⟨h41,h42⟩:=L2 A.out.2;have h5:=xu A.out.2;obtain⟨q,hq⟩:∃q:Nat,g % (C.n5:Int)=(q:Int):=⟨(g % (C.n5:Int)).toNat,by have:=aH g (show(C.n5:Int)≠0 by omega);omega⟩
 have B:q<C.n5:=by have:=aI g (show(0:Int)<C.n5 by omega);omega
 have OQ:=HN.out.1.1;have hg1:=HN.out.1.2;have hm0:=HN.out.2.1;have hm1:=HN.out.2.2;have amd:(C.n5:Int)≠0:=by omega
 obtain⟨M,hM⟩:∃M,M=R9 C C.n5:=⟨_,rfl⟩
 have hMi:0<=M/\M<=12:=hM▸adn A.out.2 (ar _);obtain⟨a,Va⟩:∃t,m % (12-M+1)=t:=⟨_,rfl⟩
 have S:0<=a/\a<=12-M:=by
  rw[<-Va];have:=aH m (show(12-M+1:Int)≠0 by omega);have:=aI m (show(0:Int)<12-M+1 by omega);omega
 have J:=aB hM;have hb5:Hid (C.b5=some ⟨C.k5,C.o5,none⟩):=aB ((HA.out w (aF _ _)).s5 (by omega));have T:=(HA.out w (aF _ _)).h5;have C5:Hid (∀i,i<C.n5->w.cell? ⟨C.k5,C.o5+i*3+2,none⟩=some (.int .i64 (C.x5 i).2.2)):=aB (HA.out w (aF _ _)).J6;have U:Hid (∀i,i<C.n5->0<=(C.x5 i).2.2/\(C.x5 i).2.2<=12/\(C.x5 i).2.2<=M/\0<=R9 C i/\R9 C i<=12):=aB λi hi=>by
  have h1:=(abv A.out.2 hi).2.1;have h2:=adm C hi;have h3:=adn A.out.2 (k:=i) (by omega);rw[J.out];omega
 obtain⟨N,hN⟩:∃N,N=C.Cv.length:=⟨_,rfl⟩
 have asy:N<=15:=by rw[hN,CD.Cv,acE,abw];exact abP _ h42 h5
 have HNN:=aB hN;have V0:Hid (∀W,C.At W->Calls PL 7 #[.agg C.val,.int .i64 q] W λe w'=>∃b d,e=.returned (.tuple #[.slice b C.n4 d,.int .i64 0])/\b7 w' (.slice b C.n4 d) (mD C q C.n4)/\Below W.heap.size W w'):=aB λW I=>abq I A.out.2 B;have T0:Hid (∀W,C.At W->Calls PL 10 #[.agg C.val] W λe w'=>∃b d,e=.returned (.tuple #[.slice b N d,.int .i64 0])/\b7 w' (.slice b N d) C.Cv/\Below W.heap.size W w'):=aB λW I=>by
  have:=abl I A.out.2;rw[<-hN]at this;exact this
 have VE:Hid (∀W Y f,ac9 C f->((C.X0 (H8 C a C.n5)).L1 Y f).At W->Calls PL 7 #[.agg (C.L1 Y f).val,.int .i64 q] W λe w'=>∃b d,e=.returned (.tuple #[.slice b C.n4 d,.int .i64 0])/\b7 w' (.slice b C.n4 d) ((mD C q C.n4).map (shV a))/\Below W.heap.size W w'):=aB λW Y f hf I=>by
  have:=abq (g:=q) I (abC A.out.2 (by rw[<-J.out];exact S) hf.1) B;rw[(ado hf.1).mD B]at this;exact this
 have TE:Hid (∀W Y f,ac9 C f->((C.X0 (H8 C a C.n5)).L1 Y f).At W->Calls PL 10 #[.agg (C.L1 Y f).val] W λe w'=>∃b d,e=.returned (.tuple #[.slice b N d,.int .i64 0])/\b7 w' (.slice b N d) (C.Cv.map (shT a))/\Below W.heap.size W w'):=aB λW Y f hf I=>by
  have hd:=abC A.out.2 (by rw[<-J.out];exact S) hf.1 (Y:=Y);have:=abl I hd;rw[(ado hf.1).Cv A.out.2 hd,ae,<-hN]at this;exact this
 have DE:Hid (∀W v,Below w.heap.size w W->bB W v (H8 C a C.n5)->Calls PL 12 #[.agg C.val,v] W λe w'=>∃Y f,e=.returned (.tuple #[.agg (C.L1 Y f).val,.int .i64 0])/\ac9 C f/\s9 W.heap.size C.n4 ((C.X0 (H8 C a C.n5)).L1 Y f) w'/\Below W.heap.size W w'):=aB λW v c hv=>abB C _ v W (HA.out W c) (by omega) A.out.2 hv (abx _ _ _) λi hi=>by
  rw[abx]at hi;rw[aby C a hi];have:=U.out i hi;simp[bO];omega
 clear hN hM
 go_enter (fx (by decide) Tryz.func4),Tryz.ntmps4
 obtain⟨s,u,y,z,f4,o⟩:=bf L.out.box
 go_upto_region 3 with(go_at_call 5;refine(HG.out _ (HM.out _ L.out.low)).mono ?_;rintro e w1⟨rfl,P⟩;have O:=aB (L.out.on P);clear P;clear s u y z f4 o;obtain⟨s,u,y,z,f4,o⟩:=bf O.out.box)
 rw[hb5.out]at o;have X:Hid (∀i,i<C.n5->w1.cell? ⟨C.k5,C.o5+i*3+2,none⟩=some (.int .i64 (C.x5 i).2.2)):=aB λi hi=>(O.out.low.cell (p:=⟨C.k5,_,none⟩) T).trans (C5.out i hi);have aoy:C.k5<w1.heap.size:=Nat.lt_of_lt_of_le T O.out.low.size
 go_wp2_with fail
 go_loop [7,8] (λv7 v8=>∃i:Nat,i<=C.n5/\v8=.int .i64 i/\v7=.int .i64 (R9 C i)) (λ_ v8=>C.n5-(intOf v8).toNat)
 case atStart=>exact⟨0,aw _,rfl,rfl⟩
 case round=>
  obtain⟨i,hi,rfl,rfl⟩:=hrel;by_cases j:i<C.n5
  ·have i1:(i:Int)<C.n5:=by omega
   obtain⟨x,D⟩:∃x,x=(C.x5 i).2.2:=⟨_,rfl⟩
   obtain⟨M0,Z⟩:∃x,x=R9 C i:=⟨_,rfl⟩
   have hc:=X.out i j;rw[<-D]at hc;rw[<-Z];have qH:R9 C (i+1)=max M0 x:=by rw[R9,Z,D]
   have HX:=aB qH;clear D Z qH
   go_wp2_with fail
   exact⟨⟨i+1,j,by go_num,by rw[HX.out]⟩,by simp only[intOf];omega⟩
  ·obtain rfl:i=C.n5:=by omega
   rw[<-J.out];have aP:IntKind.i64.wrap (12-M)=12-M:=aJ _ (by omega);have jz:IntKind.i64.wrap (12-M+1)=12-M+1:=aJ _ (by omega);have hnz:(12-M+1:Int)≠0:=by omega
   go_upto_region 9 with fail
   clear s u y z f4 o hi
   try rw[Va]
   clear Va aP jz hnz hm0 hm1
   go_wp2_with fail
   go_loopw [10,11] (λv10 v11 wr=>∃i:Nat,i<=C.n5/\v11=.int .i64 i/\eO 3 wr w1.heap.size v10 (H8 C a i)/\Below w1.heap.size w1 wr) (λ_ v11 _=>C.n5-(intOf v11).toNat)
   case atStart=>exact⟨0,aw _,rfl,⟨rfl,.inl ⟨rfl,rfl⟩⟩,aF _ _⟩
   case round=>
    obtain⟨i,hi,rfl,hO,c⟩:=hrel;have HO:=aB hO;have HB:=aB c;have K3:=aB (O.out.on c);have fW:=c.size;clear hO c;obtain⟨s,u,y,z,f4,o⟩:=bf K3.out.box;by_cases j:i<C.n5
    ·have i2:(i:Int)<C.n5:=by omega
     rw[hb5.out]at o;obtain⟨x,D⟩:∃x,x=(C.x5 i).2.2:=⟨_,rfl⟩
     have hc:wr.cell? ⟨C.k5,C.o5+i*3+2,none⟩=some (.int .i64 x):=by rw[D];exact(HB.out.cell (p:=⟨C.k5,_,none⟩) aoy).trans (X.out i j)
     have hxb:0<=x/\x<=12:=by have:=U.out i j;rw[D];omega
     have w3:IntKind.i64.wrap (x+a)=x+a:=aJ _ (by omega);have HLN:Hid ((H8 C a i).length=i):=aB (abx _ _ _);have HS:Hid (H8 C a (i+1)=H8 C a i++[x+a]):=aB (by rw[afr,D]);clear D
     go_wp2_with (at_builtin;refine Fb VF VG rfl _ _ rfl w1.heap.size _ _ (x+a) wr.heap.size rfl (HO.out.alloc _) rfl (cell_one_new _ _ _ 0 _ rfl) (by rw[HLN.out];omega) (by simp;omega) ?_;intro v' w4 fO hb4)
     exact⟨⟨i+1,j,by go_num,by rw[HS.out];exact fO,(HB.out.alloc (by omega) _).trans hb4⟩,by simp only[intOf];omega⟩
    ·obtain rfl:i=C.n5:=by omega
     have HR:Hid (bB wr u10 (H8 C a C.n5)):=aB HO.out.reads;clear hi HO
     go_upto_region 15 with(go_at_call 12;(with_reducible refine(DE.out _ _ K3.out.low HR.out).mono ?_);rintro e w2⟨Y,f,rfl,hf,ho,c⟩;have HF:=aB hf;have HOW:=aB ho;have Kf:=aB c;have K4:=aB (K3.out.on c);clear hf ho c s u y z f4 o)
     have a2:Below w2.heap.size w2 (w2.alloc (.cells (C.L1 Y f).val 27)):=(aF _ _).alloc (ar _) _;have J0:Hid (JLt C w w2.heap.size (C.L1 Y f).val [] (w2.alloc (.cells (C.L1 Y f).val 27))):=aB ⟨(a2.block _ (aq K4.out.box)).trans K4.out.box,au _ _,Below.on K4.out.low a2,λ_ h=>by cases h⟩;have HD:Hid (((C.X0 (H8 C a C.n5)).L1 Y f).At (w2.alloc (.cells (C.L1 Y f).val 27))):=aB (HOW.out.on a2).mem.at_;have BX:Hid (∀R W,JLt C w w2.heap.size (C.L1 Y f).val R W->W.heap[w2.heap.size]?=some (.cells #[.int .i64 C.l,.int .i64 C.p,.slice Y.B2 C.n2 Y.p2,.slice Y.B3 C.n3 Y.p3,.slice (some ⟨Y.K4,0,none⟩) C.n4 Y.p4,.slice Y.B5 C.n5 Y.p5] 27)):=aB λR W h=>h.two;obtain⟨W3,hW3⟩:∃W3:World,W3=w2.alloc (.cells (C.L1 Y f).val 27):=⟨_,rfl⟩
     rw[show w2.alloc (.cells #[.int .i64 C.l,.int .i64 C.p,.slice Y.B2 C.n2 Y.p2,.slice Y.B3 C.n3 Y.p3,.slice (some ⟨Y.K4,0,none⟩) C.n4 Y.p4,.slice Y.B5 C.n5 Y.p5] 27)=W3 from hW3.symm];rw[<-hW3]at J0 HD;clear hW3 a2 HOW Kf K3 HB HR fW;obtain⟨s,u,y,z,f4,o⟩:=bf J0.out.box;obtain⟨g0,g1,g2,g3,g4,g5⟩:=bf (BX.out _ _ J0.out)
     go_upto_region 16 with fail
     rw[hq];clear hq OQ hg1 amd
     go_upto_region 17 with(go_at_call 7;(with_reducible refine(V0.out _ (HA.out _ J0.out.low)).mono ?_);rintro e w4⟨b1,c1,rfl,K,c⟩;have J1:=aB ((J0.out.on c).push K);have D1:=aB (HD.out.below c);clear K c s u y z f4 o g0 g1 g2 g3 g4 g5;obtain⟨s,u,y,z,f4,o⟩:=bf J1.out.box;obtain⟨g0,g1,g2,g3,g4,g5⟩:=bf (BX.out _ _ J1.out))
     go_upto_region 18 with(go_at_call 7;(with_reducible refine(VE.out _ Y f HF.out D1.out).mono ?_);rintro e w5⟨b2,c2,rfl,K,c⟩;have J2:=aB ((J1.out.on c).push K);have D2:=aB (D1.out.below c);clear K c s u y z f4 o g0 g1 g2 g3 g4 g5;obtain⟨s,u,y,z,f4,o⟩:=bf J2.out.box;obtain⟨g0,g1,g2,g3,g4,g5⟩:=bf (BX.out _ _ J2.out))
     go_upto_region 19 with(go_at_call 10;(with_reducible refine(T0.out _ (HA.out _ J2.out.low)).mono ?_);rintro e w6⟨b3,c3,rfl,K,c⟩;have J3:=aB ((J2.out.on c).push K);have D3:=aB (D2.out.below c);clear K c s u y z f4 o g0 g1 g2 g3 g4 g5;obtain⟨s,u,y,z,f4,o⟩:=bf J3.out.box;obtain⟨g0,g1,g2,g3,g4,g5⟩:=bf (BX.out _ _ J3.out))
     go_upto_region 20 with(go_at_call 10;(with_reducible refine(TE.out _ Y f HF.out D3.out).mono ?_);rintro e w7⟨b4,c4,rfl,K,c⟩;have J4:=aB ((J3.out.on c).push K);clear K c s u y z f4 o g0 g1 g2 g3 g4 g5)
     obtain⟨RV,E⟩:∃R,R=[(aL b4 N c4,C.Cv.map (shT a)),(aL b3 N c3,C.Cv),(aL b2 C.n4 c2,(mD C q C.n4).map (shV a)),(aL b1 C.n4 c1,mD C q C.n4)]:=⟨_,rfl⟩
     obtain⟨VV,hVV⟩:∃V,V=(C.L1 Y f).val:=⟨_,rfl⟩
     have HX:Hid (JLt C w w2.heap.size VV RV w7):=aB (by rw[E,hVV];exact J4.out);have R1:Hid (∀W,JLt C w w2.heap.size VV RV W->b7 W (.slice b1 C.n4 c1) (mD C q C.n4)):=aB λW h=>by rw[E]at h;exact h.r (_,_) (.tail _ (.tail _ (.tail _ (.head _))))
     have R2:Hid (∀W,JLt C w w2.heap.size VV RV W->b7 W (.slice b2 C.n4 c2) ((mD C q C.n4).map (shV a))):=aB λW h=>by rw[E]at h;exact h.r (_,_) (.tail _ (.tail _ (.head _)))
     have R3:Hid (∀W,JLt C w w2.heap.size VV RV W->b7 W (.slice b3 N c3) C.Cv):=aB λW h=>by rw[E]at h;exact h.r (_,_) (.tail _ (.head _))
     have R4:Hid (∀W,JLt C w w2.heap.size VV RV W->b7 W (.slice b4 N c4) (C.Cv.map (shT a))):=aB λW h=>by rw[E]at h;exact h.r (_,_) (.head _)
     clear E hVV J0 J1 J2 J3 J4 D1 D2 D3 HD BX VE TE V0 T0 DE K4 X C5 aoy T J;have aza:0<=a/\a<=12:=by omega
     clear hMi S U
     go_wp2_with fail
     go_loopw [23] (λv23 wr=>∃i:Nat,i<=C.n4/\v23=.int .i64 i/\JLt C w w2.heap.size VV RV wr) (λv23 _=>C.n4-(intOf v23).toNat)
     case atStart=>exact⟨0,aw _,rfl,HX.out⟩
     case round=>
      obtain⟨i,hi,rfl,hJ⟩:=hrel;have JR:=aB hJ;clear hJ HX;by_cases j:i<C.n4
      ·have i2:(i:Int)<C.n4:=by omega
       obtain⟨k1,o1,e1',e1⟩:=L0 (R1.out _ JR.out) (i:=i) (by rw[R7];exact j);obtain⟨k2,o2,e2',F⟩:=L0 (R2.out _ JR.out) (i:=i) (by rw[ae,R7];exact j);have hx1:(mD C q C.n4)[i]'(by rw[R7];exact j)=Nu C q i:=by simp[mD]
       rw[ag]at F;rw[hx1]at e1 F;have v1:=abp A.out.2 B j 1;have v2:=abp A.out.2 B j 2;have v3:=abp A.out.2 B j 3;have v4:=abp A.out.2 B j 4;obtain⟨x,D⟩:∃x,x=Nu C q i:=⟨_,rfl⟩
       rw[<-D]at e1 F v1 v2 v3 v4;clear D hx1;obtain⟨x0,x1,x2,x3,x4⟩:=x;simp only[abk]at v1 v2 v3 v4;simp only[shV]at F;have s1:IntKind.i64.wrap (x1+a)=x1+a:=aJ _ (by omega);have s2:IntKind.i64.wrap (x2+a)=x2+a:=aJ _ (by omega);have s3:IntKind.i64.wrap (x3+a)=x3+a:=aJ _ (by omega);have s4:IntKind.i64.wrap (x4+a)=x4+a:=aJ _ (by omega);have E1:=aB e1;have E2:=aB F;have q3:=yM;have q4:=Co;subst e1' e2';clear e1 F v1 v2 v3 v4;have hm:PL.follows .mixedOrders=true:=rfl;have A1:=λn os=>E1.out _ (s7 wr n os);have A2:=λn os=>E2.out _ (s7 wr n os)
       go_upto_region 25 with fail
       go_quiet_grown (first|(go_at_call 11;refine Calls.grown_of (afN _ _ _)))
       go_wp2_with fail
       exact⟨⟨i+1,j,by go_num,JR.out.on (s7 wr nq osq)⟩,by simp only[intOf];omega⟩
      ·have i2:¬((i:Int)<C.n4):=by omega
       clear j hi R1 R2
       go_wp2_with fail
       go_loopw [24] (λv24 wr=>∃i:Nat,i<=N/\v24=.int .i64 i/\JLt C w w2.heap.size VV RV wr) (λv24 _=>N-(intOf v24).toNat)
       case atStart=>exact⟨0,aw _,rfl,JR.out⟩
       case round=>
        obtain⟨k,hk,rfl,hJ⟩:=hrel;have JT:=aB hJ;clear hJ JR;by_cases j:k<N
        ·have i3:(k:Int)<N:=by omega
         have Ll:k<C.Cv.length:=by rw[<-HNN.out];exact j
         obtain⟨k1,o1,e1',e1⟩:=L0 (R3.out _ JT.out) (i:=k) Ll;obtain⟨k2,o2,e2',F⟩:=L0 (R4.out _ JT.out) (i:=k) (by rw[ae];exact Ll);rw[ag]at F;have hf:=ahp A.out.2 (List.getElem_mem Ll);obtain⟨x,D⟩:∃x,x=C.Cv[k]:=⟨_,rfl⟩
         rw[<-D]at e1 F hf;clear D Ll;obtain⟨x0,x1,x2,x3,x4⟩:=x;simp only[shT]at F hf;have s4:IntKind.i64.wrap (x4+a)=x4+a:=aJ _ (by omega);have E1:=aB e1;have E2:=aB F;have q3:=Rw;have q4:=Kv;subst e1' e2';obtain⟨c0,c1,FB,Kb,Kc⟩:=E1.out wr (aF _ _);clear e1 F
         go_upto_region 31 with fail
         have B4:Hid ((wr.alloc (.cells #[.int .i64 x0,.int .i64 x1,.int .i64 x2,.int .i64 x3,.int .i64 x4] 49)).heap[wr.heap.size]?=some (.cells #[.int .i64 x0,.int .i64 x1,.int .i64 x2,.int .i64 x3,.int .i64 x4] 49)):=aB (au _ _);have L4:Hid (Below wr.heap.size wr (wr.alloc (.cells #[.int .i64 x0,.int .i64 x1,.int .i64 x2,.int .i64 x3,.int .i64 x4] 49))):=aB ((aF _ _).alloc (ar _) _);obtain⟨W4,Sn⟩:∃W4:World,W4=wr.alloc (.cells #[.int .i64 x0,.int .i64 x1,.int .i64 x2,.int .i64 x3,.int .i64 x4] 49):=⟨_,rfl⟩
         rw[<-Sn]at B4 L4 ⊢;clear Sn c0 c1 FB Kb Kc;have m4:W4.cell? ⟨wr.heap.size,4,none⟩=some (.int .i64 x4):=by simp[aS,B4.out]
         have fz:=tO B4.out;have hz4:=aq B4.out
         go_upto_region 32 with fail
         have B5:Hid ((W4.setCell ⟨wr.heap.size,4,none⟩ (.int .i64 (x4+a))).heap[wr.heap.size]?=some (.cells #[.int .i64 x0,.int .i64 x1,.int .i64 x2,.int .i64 x3,.int .i64 (x4+a)] 49)):=aB (Fe B4.out);have L5:Hid (Below wr.heap.size wr (W4.setCell ⟨wr.heap.size,4,none⟩ (.int .i64 (x4+a)))):=aB (L4.out.setCell (p:=⟨wr.heap.size,4,none⟩) (ar _) _);obtain⟨Q,hW5⟩:∃Q:World,Q=W4.setCell ⟨wr.heap.size,4,none⟩ (.int .i64 (x4+a)):=⟨_,rfl⟩
         rw[<-hW5]at B5 L5 ⊢;clear hW5 m4 fz hz4 B4 L4;have n0:Q.cell? ⟨wr.heap.size,0,none⟩=some (.int .i64 x0):=by simp[aS,B5.out]
         have n1:Q.cell? ⟨wr.heap.size,1,none⟩=some (.int .i64 x1):=by simp[aS,B5.out]
         have n2:Q.cell? ⟨wr.heap.size,2,none⟩=some (.int .i64 x2):=by simp[aS,B5.out]
         have n3:Q.cell? ⟨wr.heap.size,3,none⟩=some (.int .i64 x3):=by simp[aS,B5.out]
         have n4:Q.cell? ⟨wr.heap.size,4,none⟩=some (.int .i64 (x4+a)):=by simp[aS,B5.out]
         obtain⟨d0,d1,d2,d3,d4⟩:=E2.out Q L5.out
         go_quiet (fail)
         go_wp2_with fail
         exact⟨⟨k+1,j,by go_num,JT.out.on (below_drewN L5.out _)⟩,by simp only[intOf];omega⟩
        ·have i3:¬((k:Int)<N):=by omega
         clear j R3 R4
         go_wp2_with (go_at_call 6;refine(HW.out _).mono ?_;rintro e w13⟨rfl,c⟩;have hB9:=Below.on JT.out.low c;clear c)
         go_ret
         exact⟨rfl,hB9⟩
end Go.Proofs
