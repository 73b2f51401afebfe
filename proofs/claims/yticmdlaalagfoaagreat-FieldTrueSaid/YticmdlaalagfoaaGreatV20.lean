/- Part of the proof of FieldTrue and FieldMeets. -/
import Derived.Test.YticmdlaalagfoaaGreatV18
set_option linter.all false
open Go.Lib renaming hid->aa
open Go.RowKit.Below renaming refl->ab
open Nat renaming le_refl->ac,lt_or_ge->ad,zero_le->ae
open Go.Proofs renaming getElem?_lt'->ag
open Go.Proofs.Below renaming on->ai
open Bool renaming not_eq_true'->ao,and_eq_false_iff->ap
namespace Go.Proofs
open Go.RowKit Go.Shelf
attribute [local go_sem] Oper.semAt_some
set_option maxRecDepth 100000
set_option maxHeartbeats 4000000
def aaG(C:CD)(g:Nat):Int:=Ej (decide ((nU C g).1<=C.l)) (decide ((nU C g).2 > C.l))
def adI(C:CD)(g:Nat)(w:World)(h:C.At w)(hg:g<C.n5)(m5:C.n5<=3)(hf:C.b6 true=0)(r:yR C g) :
 Calls PL 18 #[.agg C.val,.int .i64 g] w (aO (.tuple #[.int .i64 (aaG C g),.int .i64 0]) w):=by
 have s:=aa h;have H:=aa hf;have I:=aa r;have t:Hid (KB C w (w.alloc (.cells C.val 27))):=aa ⟨au _ _,(ab _ _).alloc (ac _) _⟩;clear h hf r
 go_enter (fx (by decide) Tryz.func18),Tryz.ntmps18
 go_upto_region 1 with fail
 refine cT 10 (KB C w) (Fo C) (λj=>j != 8&&j != 9) (alU C w) rfl (by kernel_rfl) (by kernel_rfl)
  (λi vs W u m h=>⟨λe=>(h.1 e).imp λk a=>⟨a.1,a.2.1,(m k).2 a.2.2⟩,λe=>(h.2 e).imp λk a=>⟨a.1,a.2.1,(m k).1 a.2.2⟩⟩) (λi o x vs J W K hd h=>⟨λe=>?_,λe=>?_⟩) ?_ ?_
 ·subst e;rw[<-K];exact h.1 rfl
 ·subst e;have L:vs 8=J 8:=by
   simp only[List.getElem?_toArray,List.getElem?_cons_succ,List.getElem?_cons_zero,Option.some.injEq]at x;subst x;exact hd ⟨8,.data⟩ (cH.2 ⟨by simp,rfl⟩)
  rw[<-L];exact h.2 rfl
 ·exact⟨t.out.box,t.out.low.drew⟩
 ·iterate 8 (
   apply aY
   case hE=>rfl
   case h=>
    intro vs W b hd;obtain⟨y,z,A,B,f4,D⟩:=bf b.box
    go_simp
    first
    |(go_at_call 35;refine(AZ C g hg m5 _).mono ?_;rintro e u⟨rfl,d⟩;exact⟨_,rfl,rfl,b.on d,Fo.on d⟩)
    |(go_at_call 34;refine(kF H.out (s.out.below b.low)).mono ?_;rintro e u⟨rfl,d⟩;exact⟨_,rfl,rfl,b.on d,Fo.on d⟩)
    |exact⟨rfl,Fo.on (ab _ _)⟩
   case hb=>exact P0)
  apply eH
  case hE=>rfl
  case hb=>exact P0
  case h=>
   intro vs W b hd
   go_simp
   have d:=(ab W.heap.size W).alloc (ac _) (.cells #[.int .i64 0,.int .i64 0,.slice none 0 0,.slice none 0 0,.slice none 0 0,.slice none 0 0] 83)
   first
   |exact⟨b.on d,Fo.on d,⟨λ_=>⟨W.heap.size,by simp[upd],b.lt,_,_,_,_,_,_,au W _⟩,λe=>absurd e (by decide)⟩⟩
  apply eH
  case hE=>rfl
  case hb=>exact P0
  case h=>
   intro vs W b hd;obtain⟨k,a,E,x0,x1,x2,x3,x4,O,c⟩:=(hd ⟨8,.data⟩ (cH.2 ⟨by simp,rfl⟩) rfl).1 rfl;obtain⟨y,z,A,B,f4,D⟩:=bf c;have P:=tO c;rw[a]
   go_simp
   refine⟨⟨(cM (by omega)).trans b.box,Below.zQ b.low (by omega) _ _ _ _ _ _⟩,λq=>?_,⟨λe=>absurd e (by decide),λ_=>⟨k,by simp[upd,a],E,nC c⟩⟩⟩;by_cases p:q=k
   ·subst p;exact⟨λ_=>nC c,λ_=>⟨_,_,_,_,_,_,nC c⟩⟩
   ·exact⟨λe=>(cM p).trans e,fun⟨_,_,_,_,_,_,e⟩=>⟨_,_,_,_,_,_,(cM p).trans e⟩⟩
  refine cP λvs W b hd=>?_;obtain⟨k,a,E,c⟩:=(hd 9 (by omega) rfl).2 rfl;rw[a];obtain⟨y,z,A,B,f4,D⟩:=bf c;have Q:=aa c;have f:=aa b;clear c b hd a;by_cases e1:(nU C g).1<=C.l<;>by_cases M:(nU C g).2 > C.l
  all_goals (
   go_wp2_with (first
    |(go_at_call 45;refine(Lm C g I.out _ (s.out.below f.out.low)).mono ?_;rintro e w3⟨rfl,n⟩;obtain⟨d0,d1,d2,d3,d4,d5⟩:=bf ((n.block _ (ag f.out.box)).trans f.out.box);have R:=ag ((n.block _ (ag f.out.box)).trans f.out.box);have N:=aa n;clear n)
    |(go_at_call 46;refine(yH _ _ _).mono ?_;rintro e w4⟨rfl,rfl⟩)))
  all_goals (
   have F:=ai f.out.low N.out;refine bodyPost_ret (v:=.tuple #[.int .i64 (aaG C g),.int .i64 0]) ?_ rfl ⟨rfl,F.alloc F.size _⟩
   simp[aaG,e1,M,results,Tryz.results18,go_sem])
end Go.Proofs
namespace Go.Proofs
open Go.RowKit
def agu{L:List Int}{p:Nat}{m:Int}{n g:Nat}{can:Bool}(h:kU L p m n g can=1):∃q,g<=q/\q<g+n/\bO m (L.getD (q*25+p*5+2) 0) (L.getD (q*25+p*5+3) 0-1)=true:=by
 induction n generalizing g can with
 |zero=>cases can<;>cases h
 |succ n a=>
  rw[kU]at h
  split at h
  ·exact⟨g,by omega,by omega,by assumption⟩
  ·obtain⟨q,c,d,b⟩:=a h;exact⟨q,by omega,by omega,b⟩
def agv{L:List Int}{p:Nat}{m:Int}{n g:Nat}{can:Bool}(h:kU L p m n g can=2):can=false/\∀q,g<=q->q<g+n->bO m (L.getD (q*25+p*5+1) 0) (L.getD (q*25+p*5+4) 0-1)=false:=by
 induction n generalizing g can with
 |zero=>
  refine⟨?_,λq c d=>by omega⟩;cases can
  ·rfl
  ·cases h
 |succ n f=>
  rw[kU]at h
  split at h
  ·cases h
  ·obtain⟨c,d⟩:=f h;rw[Bool.or_eq_false_iff]at c;refine⟨c.1,λq a b=>?_⟩
   rcases ad g q with e|e
   ·exact d q e (by omega)
   ·obtain rfl:q=g:=by omega
    exact c.2
def ao1(x:nR)(m:Int):Bool:=decide (x.2.1<=m)&&decide (m<x.2.2.2.1)
def CD.there(C:CD)(ps:List Int)(m:Int)(p:Nat):Nat->Bool
 |0=>false
 |k+1=>CD.there C ps m p k||ao1 (C.rv ps k (s9 C.n4 (C.S k) p)) m
def CD.abS{C:CD}{ps:List Int}{m:Int}{p n:Nat}:C.there ps m p n=true↔∃k,k<n/\ao1 (C.rv ps k (s9 C.n4 (C.S k) p)) m=true:=by
 induction n with
 |zero=>simp[CD.there]
 |succ n c=>
  rw[CD.there,Bool.or_eq_true,c];constructor
  ·rintro(⟨k,d,a⟩|h)
   ·exact⟨k,by omega,a⟩
   ·exact⟨n,by omega,h⟩
  ·rintro⟨k,d,a⟩
   rcases ad k n with b|b
   ·exact .inl ⟨k,b,a⟩
   ·obtain rfl:k=n:=by omega
    exact .inr a
def acy{C:CD}(hc:C.cx=0)(ps:List Int)(m:Int){p:Nat}(b:p<C.n4):KD (kU C.tab p m C.n5 0 false) (C.there ps m p C.n5)=true:=by
 have sp:∀k,k<C.n5->_:=λk a=>L2 hc a ps (s9 C.n4 (C.S k) p);unfold KD;rw[Bool.and_eq_true,ao,ao,ap,ap];constructor
 ·by_cases h:kU C.tab p m C.n5 0 false=1
  ·refine .inr ?_;obtain⟨q,_,g,hb⟩:=agu h;have c:q<C.n5:=by omega
   rw[CD.aas hc c b (by omega),CD.aas hc c b (by omega)]at hb;have e:=aaD.1 hb;have:=sp q c
   have d:C.there ps m p C.n5=true:=CD.abS.2 ⟨q,c,by
    refine Bool.and_eq_true_iff.2 ⟨decide_eq_true ?_,decide_eq_true ?_⟩<;>(
     simp only[CD.rv];simp only[Z0]at e;simp only[Nu]at e this
     omega)⟩
   rw[d];rfl
  ·exact .inl (by simpa using h)
 ·by_cases h:kU C.tab p m C.n5 0 false=2
  ·refine .inr ?_;obtain⟨_,f⟩:=agv h
   cases d:C.there ps m p C.n5 with
   |false=>rfl
   |true=>
    obtain⟨k,a,hi⟩:=CD.abS.1 d;have hb:=f k (by omega) (by omega);rw[CD.aas hc a b (by omega),CD.aas hc a b (by omega)]at hb;have:=sp k a;have hi:=(Bool.and_eq_true_iff.1 hi);have hi:=And.intro (of_decide_eq_true hi.1) (of_decide_eq_true hi.2);simp only[CD.rv]at hi;have:bO m (Z0 (Nu C k (s9 C.n4 (C.S k) p)) 1) (Z0 (Nu C k (s9 C.n4 (C.S k) p)) 4-1)=true:=by
     rw[aaD];simp only[Z0];simp only[Nu]at this⊢;omega
    rw[this]at hb;cases hb
  ·exact .inl (by simpa using h)
def abL{C:CD}(hc:C.cx=0){g:Nat}(hg:g<C.n5)(ps:List Int):KD (aaG C g) (decide (C.rgo ps g (C.n4-1)<=C.l))=true:=by
 have d:=(xu hc).1;have:=(L2 hc hg ps (C.n4-1)).2;unfold aaG;rw[ac1 C g (by omega)];by_cases a:(Nu C g (C.n4-1)).2.2.2.1<=C.l<;>by_cases b:(Nu C g (C.n4-1)).2.2.2.2 > C.l<;>by_cases c:C.rgo ps g (C.n4-1)<=C.l<;>simp[a,b,c,Ej,KD]<;>omega
open Go.Shelf
attribute [local go_sem] Oper.semAt_some
set_option maxRecDepth 100000
set_option maxHeartbeats 40000000
structure KTw(C:CD)(w:World)(B:Nat)(a b:Int)(W:World):Prop where
 box:W.heap[w.heap.size]?=some (.cells C.val 27)
 two:W.heap[B]?=some (.cells #[.int .i64 a,.int .i64 b] 43)
 low:Below w.heap.size w W
def KTw.on{C:CD}{w W d:World}{B:Nat}{a b:Int}(h:KTw C w B a b W)(c:Below W.heap.size W d):KTw C w B a b d:=
 ⟨(c.block _ (ag h.box)).trans h.box,(c.block _ (ag h.two)).trans h.two,ai h.low c⟩
structure JTw(C:CD)(w:World)(B:Nat)(a b:Int)(x1:Value)(l1:List nR)(x2:Value)(l2:List Int)(x3:Value)(l3:List nR)(W:World):Prop where
 k:KTw C w B a b W
 r1:j9 W x1 l1
 r2:bB W x2 l2
 r3:j9 W x3 l3
def JTw.on{C:CD}{w W d:World}{B:Nat}{a b:Int}{x1 x2 x3:Value}{e f:List nR}{g:List Int}(h:JTw C w B a b x1 e x2 g x3 f W)(c:Below W.heap.size W d):JTw C w B a b x1 e x2 g x3 f d:=
 ⟨h.k.on c,h.r1.on c,h.r2.on c,h.r3.on c⟩
def ah3(hwk:∀w,Calls PL 7 #[] w (aO (.bool true) w))(C:CD)(g m:Int)(v:Value)(ps:List Int)(w:World)(h:C.Mem w)(hg:0<=g/\g<=255)(hm:0<=m/\m<=65535)(hp:H9 w v ps) :
 Calls PL 5 #[.agg C.val,.int .u8 g,.int .u16 m,v] w (aO (.bool true) w):=by
 have HM:Hid (∀W,Below w.heap.size w W->C.Mem W):=aa λW b=>h.below b;have J:=aa (show KB C w (w.alloc (.cells C.val 27)) from⟨au _ _,(ab _ _).alloc (ac _) _⟩);have HW:=aa hwk;have HN:=aa (And.intro hg hm);have HP:Hid (∀W,Below w.heap.size w W->H9 W v ps):=aa λW b=>hp.on b;clear h hwk hg hm hp;by_cases D:C.LR=true
 case neg=>
  have hff:C.LR=false:=by simpa using D
  have HG:Hid (∀W,C.Mem W->Calls PL 6 #[.agg C.val] W (aO (.bool false) W)):=aa λW T=>by have:=abv C W T;rwa[hff]at this
  clear D hff
  go_enter (fx (by decide) Tryz.func5),Tryz.ntmps5
  obtain⟨c,d,f,j,f4,o⟩:=bf J.out.box
  go_wp2_with (first
   |(go_at_call 6;refine(HG.out _ (HM.out _ J.out.low)).mono ?_;rintro e w1⟨rfl,Q⟩;have R:=aa (J.out.on Q);clear Q)
   |(go_at_call 7;refine(HW.out _).mono ?_;rintro e w2⟨rfl,qA⟩;have U:=aa (R.out.on qA);clear qA))
  go_ret
  exact⟨rfl,U.out.low⟩
 have s:Hid (C.small=true/\C.cx=0):=aa (by simpa[CD.LR]using D);have HA:Hid (∀W,Below w.heap.size w W->C.At W):=aa λW b=>CD.At.Ri (HM.out W b) s.out.1;have HG:Hid (∀W,C.Mem W->Calls PL 6 #[.agg C.val] W (aO (.bool true) W)):=aa λW T=>by have:=abv C W T;rwa[D]at this
 clear D;by_cases hn5:C.n5=0
 ·have as6:(C.n5:Int)=0:=by omega
  clear hn5
  go_enter (fx (by decide) Tryz.func5),Tryz.ntmps5
  obtain⟨c,d,f,j,f4,o⟩:=bf J.out.box
  go_wp2_with (first
   |(go_at_call 6;refine(HG.out _ (HM.out _ J.out.low)).mono ?_;rintro e w1⟨rfl,Q⟩;have R:=aa (J.out.on Q);clear Q;clear c d f j f4 o;obtain⟨c,d,f,j,f4,o⟩:=bf R.out.box)
   |(go_at_call 7;refine(HW.out _).mono ?_;rintro e w2⟨rfl,qA⟩;have U:=aa (R.out.on qA);clear qA))
  go_ret
  exact⟨rfl,U.out.low⟩
 obtain⟨h41,h42⟩:=xu s.out.2;have h5:=s8 s.out.2;obtain⟨q,hq⟩:∃q:Nat,g % (C.n5:Int)=(q:Int):=⟨(g % (C.n5:Int)).toNat,by have:=Int.emod_nonneg g (show(C.n5:Int)≠0 by omega);omega⟩
 have r:q<C.n5:=by have:=Int.emod_lt_of_pos g (show(0:Int)<C.n5 by omega);omega
 have OQ:=HN.out.1.1;have hg1:=HN.out.1.2;have hm0:=HN.out.2.1;have hm1:=HN.out.2.2;obtain⟨A,hmm⟩:∃t,m % 1000=t:=⟨_,rfl⟩
 have as8:0<=A/\A<=999:=by omega
 have hbt:Hid (bO A 0 999=true):=aa (aaD.2 as8);obtain⟨bp,cp,hv,_⟩:=(HP.out w (ab _ _)).1;obtain⟨np,MC⟩:∃n,n=ps.length:=⟨_,rfl⟩
 rw[<-MC]at hv;subst hv;clear MC;have ao5:(C.n5:Int)≠0:=by omega
 go_enter (fx (by decide) Tryz.func5),Tryz.ntmps5
 obtain⟨c,d,f,j,f4,o⟩:=bf J.out.box
 go_upto_region 4 with(first
  |(go_at_call 6;refine(HG.out _ (HM.out _ J.out.low)).mono ?_;rintro e w1⟨rfl,Q⟩;have R:=aa (J.out.on Q);clear Q;clear c d f j f4 o;obtain⟨c,d,f,j,f4,o⟩:=bf R.out.box))
 obtain⟨K,V⟩:∃t,t=(nU C q).1:=⟨_,rfl⟩
 obtain⟨L,X⟩:∃t,t=(nU C q).2:=⟨_,rfl⟩
 have HEn:Hid (∀W,C.At W->Calls PL 17 #[.agg C.val,.int .i64 q] W (aO (.tuple #[.agg #[.int .i64 K,.int .i64 L],.int .i64 0]) W)):=aa λW T=>by
  rw[V,X];exact Sj C q W T r h5 (by rw[CD.b6,if_pos s.out.2];rfl) (Sa C s.out.2 r)
 obtain⟨it,zf⟩:∃t,t=aaG C q:=⟨_,rfl⟩
 have HIt:Hid (∀W,C.At W->Calls PL 18 #[.agg C.val,.int .i64 q] W (aO (.tuple #[.int .i64 it,.int .i64 0]) W)):=aa λW T=>by
  rw[zf];exact adI C q W T r h5 (by rw[CD.b6,if_pos s.out.2];rfl) (Sa C s.out.2 r)
 have HEA:=aa V;have HEB:=aa X;have HIT:=aa zf;clear V X zf
 go_upto_region 8 with(first
  |(go_at_call 8;refine(ah2 (HA.out _ R.out.low) s.out.2 r).mono ?_;rintro e w2⟨b1,c1,rfl,E,b⟩;have U:=aa (R.out.on b);have V2:=aa E;clear E b;clear c d f j f4 o;obtain⟨c,d,f,j,f4,o⟩:=bf U.out.box)
  |(go_at_call 17;refine(HEn.out _ (HA.out _ U.out.low)).mono ?_;rintro e w3⟨rfl,b⟩;have K3:=aa (U.out.on b);have V3:=aa (V2.out.on b);clear b;clear c d f j f4 o;have Y:=(ab w3.heap.size w3).alloc (ac _) (.cells #[.int .i64 K,.int .i64 L] 43);have K4:Hid (KTw C w w3.heap.size K L (w3.alloc (.cells #[.int .i64 K,.int .i64 L] 43))):=aa ⟨(Y.block _ (ag K3.out.box)).trans K3.out.box,au _ _,K3.out.low.alloc K3.out.low.size _⟩;have V4:=aa (V3.out.on Y);clear Y;obtain⟨c,d,f,j,f4,o⟩:=bf K3.out.box;have hz3:=ag K3.out.box)
  |(go_at_call 18;refine(HIt.out _ (HA.out _ K4.out.low)).mono ?_;rintro e w5⟨rfl,b⟩;have K5:=aa (K4.out.on b);have V5:=aa (V4.out.on b);clear b;clear c d f j f4 o;obtain⟨c,d,f,j,f4,o⟩:=bf K5.out.box)
  |(go_at_call 10;refine(alF (HA.out _ K5.out.low) s.out.2 hbt.out).mono ?_;rintro e w6⟨b2,c2,rfl,E,b⟩;have K6:=aa (K5.out.on b);have V6:=aa (V5.out.on b);have S6:=aa E;clear E b;clear c d f j f4 o;obtain⟨c,d,f,j,f4,o⟩:=bf K6.out.box))
 go_upto_region 11 with(first
  |(go_at_call 15;refine(abE (HA.out _ K6.out.low) s.out.2 r (HP.out _ K6.out.low)).mono ?_;rintro e w7⟨b3,c3,rfl,E,b⟩;have J7:Hid (JTw C w w3.heap.size K L (.slice b1 C.n4 c1) (mD C q C.n4) (.slice b2 C.n4 c2) (tB C.tab A C.n5 C.n4) (.slice b3 C.n4 c3) (C.rl ps q C.n4) w7):=aa ⟨K6.out.on b,V6.out.on b,S6.out.on b,E⟩;clear E b;clear c d f j f4 o))
 go_wp2
 go_loopw [20] (λZ wr=>∃i:Nat,i<=C.n4/\Z=.int .i64 i/\JTw C w w3.heap.size K L (.slice b1 C.n4 c1) (mD C q C.n4) (.slice b2 C.n4 c2) (tB C.tab A C.n5 C.n4) (.slice b3 C.n4 c3) (C.rl ps q C.n4) wr) (λZ _=>C.n4-(intOf Z).toNat)
 case atStart=>exact⟨0,ae _,rfl,J7.out⟩
 case round=>
  obtain⟨i,hi,rfl,hJ⟩:=hrel;have JR:=aa hJ;clear hJ;by_cases F:i<C.n4
  ·have i2:(i:Int)<C.n4:=by omega
   obtain⟨k1,o1,rfl,e1⟩:=aav JR.out.r1 (i:=i) (by rw[R7];exact F);obtain⟨k3,o3,rfl,M⟩:=aav JR.out.r3 (i:=i) (by rw[CD.L1];exact F);have hx1:(mD C q C.n4)[i]'(by rw[R7];exact F)=Nu C q i:=by simp[mD]
   have H:(C.rl ps q C.n4)[i]'(by rw[CD.L1];exact F)=C.rv ps q i:=by simp[CD.rl]
   rw[hx1]at e1;rw[H]at M;obtain⟨x,hx⟩:∃x,x=Nu C q i:=⟨_,rfl⟩
   obtain⟨y,hy⟩:∃y,y=C.rv ps q i:=⟨_,rfl⟩
   have B:=L2 s.out.2 r ps i;have h11:x.1=y.1:=by rw[hx,hy];exact Q3 s.out.2 r i
   have h12:x.2.1<=y.2.1/\y.2.1<=x.2.2.1:=by rw[hx,hy];exact B.1
   have h14:x.2.2.2.1<=y.2.2.2.1/\y.2.2.2.1<=x.2.2.2.2:=by rw[hx,hy];exact B.2
   rw[<-hx]at e1;rw[<-hy,<-h11]at M;have N:Hid (∀W,Calls PL 19 #[.agg #[.int .i64 x.2.1,.int .i64 x.2.2.1],.int .i64 y.2.1] W (aO (.bool true) W)):=aa λW=>by
    have:=adn x.2.1 x.2.2.1 y.2.1 W;rwa[decide_eq_true h12.1,decide_eq_true h12.2]at this
   have IN2:Hid (∀W,Calls PL 19 #[.agg #[.int .i64 x.2.2.2.1,.int .i64 x.2.2.2.2],.int .i64 y.2.2.2.1] W (aO (.bool true) W)):=aa λW=>by
    have:=adn x.2.2.2.1 x.2.2.2.2 y.2.2.2.1 W;rwa[decide_eq_true h14.1,decide_eq_true h14.2]at this
   have E1:=aa e1;have E3:=aa M;clear e1 M hx hy hx1 H B h12 h14 h11
   go_upto_region 14 with fail
   refine wp_region_noPanic ?_;refine ig (Below wr.heap.size wr) (λ_ _=>True) (λ_=>true) (λ_ _ _=>True) rfl (by kernel_rfl) (λ_ _ _ _ _ h=>h) (λ_ _ _ _ _ _ _ _ h=>h) ?_ ?_
   ·exact(ab _ _).drew
   ·iterate 41 (
     apply aY
     case hE=>rfl
     case h=>
      intro vs W b hd;obtain⟨a0,a1,a2,a3,a4⟩:=E1.out W b;obtain⟨d0,d1,d2,d3,d4⟩:=E3.out W b
      go_simp
      first
       |with_reducible exact rfl
       |with_reducible exact⟨rfl,b,trivial⟩
       |with_reducible exact⟨rfl,b⟩
       |((with_reducible refine(N.out W).mono ?_);rintro e W'⟨rfl,hB'⟩;exact⟨_,rfl,rfl,ai b hB'⟩)
       |((with_reducible refine(IN2.out W).mono ?_);rintro e W'⟨rfl,hB'⟩;exact⟨_,rfl,rfl,ai b hB'⟩)
       |(trace_state;fail)
     case hb=>exact P0)
    refine cP λvs W b hd=>?_;refine NoPanic.normal ?_
    go_wp2
    exact⟨⟨i+1,F,by go_num,JR.out.on b⟩,by simp only[intOf];omega⟩
  ·obtain rfl:i=C.n4:=by omega
   have zi:(C.n4:Int)-1=((C.n4-1:Nat):Int):=by omega
   obtain⟨I,O⟩:∃I,I=C.n4-1:=⟨_,rfl⟩
   rw[<-O]at zi;have hl2:I<C.n4:=by omega
   have hl3:(I:Int)<C.n4:=by omega
   obtain⟨k3,o3,rfl,M⟩:=aav JR.out.r3 (i:=I) (by rw[CD.L1];exact hl2);have H:(C.rl ps q C.n4)[I]'(by rw[CD.L1];exact hl2)=C.rv ps q I:=by simp[CD.rl]
   rw[H]at M;obtain⟨z,hz⟩:∃z,z=C.rgo ps q I:=⟨_,rfl⟩
   have Yt:(C.rv ps q I).2.2.2.1=z:=hz.symm;rw[Yt]at M;obtain⟨d0,d1,d2,d3,d4⟩:=M wr (ab _ _);have B:=(L2 s.out.2 r ps I).2;have N:Hid (∀W,Calls PL 19 #[.agg #[.int .i64 K,.int .i64 L],.int .i64 z] W (aO (.bool true) W)):=aa λW=>by
    have hE:=ac1 C q (by omega);rw[<-O]at hE;rw[<-hE,<-HEA.out,<-HEB.out,<-hz]at B;have:=adn K L z W;rwa[decide_eq_true B.1,decide_eq_true B.2]at this
   have AG1:Hid (∀W,Calls PL 16 #[.int .i64 it,.bool (decide (z<=C.l))] W (aO (.bool true) W)):=aa λW=>by
    have h1:=abL s.out.2 r ps;rw[<-O,<-HIT.out,<-hz]at h1;have:=abf it (decide (z<=C.l)) W;rwa[h1]at this
   clear d0 d1 d2 d4 M H B hz Yt O;obtain⟨c,d,f,j,f4,o⟩:=bf JR.out.k.box;obtain⟨t0,t1,u0,u1⟩:=uJ JR.out.k.two
   go_upto_region 19 with(first
    |(go_at_call 19;(with_reducible refine(N.out _).mono ?_);rintro e w8⟨rfl,b⟩;have JS:=aa (JR.out.on b);clear b;clear c d f j f4 o t0 t1 u0 u1;obtain⟨c,d,f,j,f4,o⟩:=bf JS.out.k.box)
    |(go_at_call 16;(with_reducible refine(AG1.out _).mono ?_);rintro e w9⟨rfl,b⟩;have JT:=aa (JS.out.on b);clear b;clear c d f j f4 o))
   clear N AG1 d3 hl3 hl2 zi
   go_wp2
   go_loopw [22] (λv22 wr=>∃p:Nat,p<=C.n4/\v22=.int .i64 p/\JTw C w w3.heap.size K L (.slice b1 C.n4 c1) (mD C q C.n4) (.slice b2 C.n4 c2) (tB C.tab A C.n5 C.n4) (.slice (some ⟨k3,o3,none⟩) C.n4 c3) (C.rl ps q C.n4) wr) (λv22 _=>C.n4-(intOf v22).toNat)
   case atStart=>exact⟨0,ae _,rfl,JT.out⟩
   case round=>
    obtain⟨p,hp,rfl,hJ⟩:=hrel;have JP:=aa hJ;clear hJ;by_cases F:p<C.n4
    ·have i2:(p:Int)<C.n4:=by omega
     obtain⟨bS,cS,eS,hS⟩:=JP.out.r2;rw[Nt]at eS hS;obtain⟨kS,oS,rfl,hkS,hcS⟩:=hS (by omega);obtain⟨eS,_,_⟩:=Value.slice.inj eS;subst eS;obtain⟨sg,hsg⟩:∃sg,sg=kU C.tab p A C.n5 0 false:=⟨_,rfl⟩
     have hcp:Hid (wr.cell? ⟨kS,oS+p,none⟩=some (.int .i64 sg)):=aa (by
      rw[hcS p (by omega)];show some (Value.int .i64 ((tB C.tab A C.n5 C.n4).getD p 0))=_;rw[List.getD_eq_getElem?_getD,tB,List.getElem?_map,List.getElem?_range F,hsg]
      rfl)
     have AG2:Hid (∀W,Calls PL 16 #[.int .i64 sg,.bool (C.there ps A p C.n5)] W (aO (.bool true) W)):=aa λW=>by
      have h1:=acy s.out.2 ps A F;rw[<-hsg]at h1;have:=abf sg (C.there ps A p C.n5) W;rwa[h1]at this
     clear hS hcS hsg;obtain⟨c,d,f,j,f4,o⟩:=bf JP.out.k.box
     go_wp2
     go_loopw [23,24] (λv23 v24 wq=>∃k:Nat,k<=C.n5/\v24=.int .i64 k/\v23=.bool (C.there ps A p k)/\Below wr.heap.size wr wq) (λ_ v24 _=>C.n5-(intOf v24).toNat)
     case atStart=>exact⟨0,ae _,rfl,rfl,ab _ _⟩
     case round=>
      obtain⟨k,hk,rfl,rfl,b⟩:=hrel;have HB:=aa b;have JK:=aa (JP.out.on b);clear b c d f j f4 o;obtain⟨c,d,f,j,f4,o⟩:=bf JK.out.k.box;by_cases P:k<C.n5
      ·have i3:(k:Int)<C.n5:=by omega
       obtain⟨a,ha⟩:∃a,a=C.rat ps k (s9 C.n4 (C.S k) p):=⟨_,rfl⟩
       obtain⟨z2,wD⟩:∃a,a=C.rgo ps k (s9 C.n4 (C.S k) p):=⟨_,rfl⟩
       have VI:Hid (∀W u,j9 W u (C.rl ps k C.n4)->Calls PL 14 #[u,.int .i64 p] W (aO (.tuple #[.agg #[.int .i64 p,.int .i64 a,.int .i64 a,.int .i64 z2,.int .i64 z2],.bool true]) W)):=aa λW u hu=>by
        have:=abQ u _ p W hu (by rw[CD.L1];omega) (by omega) (λx hx=>by
         obtain⟨i,_,rfl⟩:=List.mem_map.1 hx;have:=CD.abi s.out.2 k i;show C.rp k i<=20
         omega)
        rw[acw s.out.2 P F]at this;simp only[agZ,aaW,CD.rv,ah1 s.out.2 P F,<-ha,<-wD]at this;exact this
       have hth:Hid (C.there ps A p (k+1)=(C.there ps A p k||(decide (a<=A)&&decide (A<z2)))):=aa (by rw[CD.there,ha,wD];rfl);clear ha wD;obtain⟨t,ht⟩:∃t,t=C.there ps A p k:=⟨_,rfl⟩
       rw[<-ht]at hth ⊢;clear ht
       go_upto_region 27 with(first
        |(go_at_call 15;refine(abE (HA.out _ JK.out.k.low) s.out.2 P (HP.out _ JK.out.k.low)).mono ?_;rintro e VD⟨b5,c5,rfl,E,b⟩;have R10:=aa E;have asf:=aa b;clear b E;clear c d f j f4 o)
        |(go_at_call 14;(with_reducible refine(VI.out _ _ R10.out).mono ?_);rintro e w11⟨rfl,b⟩;have ao6:=aa (ai asf.out b);clear b))
       have asg:=aa (ao6.out.alloc (ao6.out.size) (.cells #[.int .i64 p,.int .i64 a,.int .i64 a,.int .i64 z2,.int .i64 z2] 45));by_cases dx:a<=A<;>by_cases wD:A<z2<;>cases t
       all_goals
        go_wp2
        refine⟨⟨k+1,P,by go_num,by rw[hth.out];simp[dx,wD],ai HB.out asg.out⟩,by simp only[intOf];omega⟩
      ·obtain rfl:k=C.n5:=by omega
       have c0:=(HB.out.cell (p:=⟨kS,oS+p,none⟩) hkS).trans hcp.out
       go_wp2_with (first
        |(go_at_call 16;(with_reducible refine(AG2.out _).mono ?_);rintro e w12⟨rfl,b⟩;have JV:=aa (JK.out.on b);clear b))
       exact⟨⟨p+1,F,by go_num,JV.out⟩,by simp only[intOf];omega⟩
    ·obtain rfl:p=C.n4:=by omega
     obtain⟨c,d,f,j,f4,o⟩:=bf JP.out.k.box
     go_wp2_with (first
      |(go_at_call 7;refine(HW.out _).mono ?_;rintro e w13⟨rfl,b⟩;have hB9:=ai JP.out.k.low b;clear b))
     go_ret
     exact⟨rfl,hB9⟩
end Go.Proofs
