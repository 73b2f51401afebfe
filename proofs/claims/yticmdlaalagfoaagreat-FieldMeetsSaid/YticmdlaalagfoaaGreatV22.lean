/- Part of the proof of FieldTrue and FieldMeets. -/
import Derived.Test.YticmdlaalagfoaaGreatV18
set_option linter.all false
open List renaming mem_append->aa,filter_append->ab,nil_append->ac,append_nil->ad,take_add_one->ae
open Go.Lib renaming hid->ag
open Go.RowKit.Below renaming refl->ai
open Nat renaming le_refl->ao,zero_le->ap
namespace Go.Proofs
open Go.RowKit
def dc(a b p:Nat)(x:nR):Bool:=x.1==a&&x.2.1==(b:Int)&&x.2.2.1==(p:Int)
def abj{L:List Int}{a b p a' b' p':Nat}:dc a b p (IU L a' b' p')=true↔a'=a/\b'=b/\p'=p:=by
 simp only[dc,IU,Bool.and_eq_true,beq_iff_eq];omega
def abk{L:List Int}{a b n:Nat}{x:nR}:x∈aal L a b n↔∃p,p<n/\(IU L a b p).2.2.2.1≠2/\x=IU L a b p:=by
 induction n with
 |zero=>simp[aal]
 |succ n d=>
  rw[aal,aa,d];constructor
  ·rintro(⟨p,f,c,g⟩|h)
   ·exact⟨p,by omega,c,g⟩
   ·split at h
    ·cases h
    ·rename_i i;exact⟨n,by omega,i,by simpa using h⟩
  ·rintro⟨p,f,c,rfl⟩;by_cases e:p=n
   ·subst e;rw[if_neg c];exact .inr (by simp)
   ·exact .inl ⟨p,by omega,c,rfl⟩
def abH{L:List Int}{n a k:Nat}{x:nR}:x∈L0 L n a k↔∃j,j<k/\x∈aal L a (a+1+j) n:=by
 induction k with
 |zero=>simp[L0]
 |succ k c=>
  rw[L0,aa,c];constructor
  ·rintro(⟨j,d,b⟩|h)
   ·exact⟨j,by omega,b⟩
   ·exact⟨k,by omega,h⟩
  ·rintro⟨j,d,b⟩;by_cases e:j=k
   ·subst e;exact .inr b
   ·exact .inl ⟨j,by omega,b⟩
def ah4{L:List Int}{n m k:Nat}{x:nR}:x∈Q2 L n m k↔∃a,a<k/\x∈L0 L n a (m-(a+1)):=by
 induction k with
 |zero=>simp[Q2]
 |succ k c=>
  rw[Q2,aa,c];constructor
  ·rintro(⟨j,d,b⟩|h)
   ·exact⟨j,by omega,b⟩
   ·exact⟨k,by omega,h⟩
  ·rintro⟨j,d,b⟩;by_cases e:j=k
   ·subst e;exact .inr b
   ·exact .inl ⟨j,by omega,b⟩
def ao9{L:List Int}{n m:Nat}{x:nR}:x∈aco L n m↔∃a b p,a<b/\b<m/\p<n/\(IU L a b p).2.2.2.1≠2/\x=IU L a b p:=by
 rw[aco,ags,ah4];constructor
 ·rintro⟨a,g,e⟩;obtain⟨j,f,c⟩:=abH.1 e;obtain⟨p,d,h,i⟩:=abk.1 c;exact⟨a,_,p,by omega,by omega,d,h,i⟩
 ·rintro⟨a,b,p,g,e,f,c,d⟩;exact⟨a,by omega,abH.2 ⟨b-(a+1),by omega,abk.2 ⟨p,f,by rw[show a+1+(b-(a+1))=b by omega];exact⟨c,d⟩⟩⟩⟩
def agw{a:Type}(b:a->a->Bool)(x:a)(P:List a):(R1 b x P).Perm (x::P):=by
 induction P with
 |nil=>exact List.Perm.refl _
 |cons y P c=>
  rw[R1]
  split
  ·exact(c.cons y).trans (List.Perm.swap x y P)
  ·exact List.Perm.refl _
def adS{a:Type}(b:a->a->Bool)(l:List a):(G0 b l).Perm l:=by
 have key:∀(l P:List a),(List.foldl (λP x=>R1 b x P) P l).Perm (P++l):=by
  intro l
  induction l with
  |nil=>intro P;simp
  |cons x l c=>
   intro P;refine(c (R1 b x P)).trans ?_;refine((agw b x P).append_right l).trans ?_;exact List.perm_middle.symm
 exact(List.reverse_perm _).trans (key l [])
def afy{a:Type}{f:a->Bool}{l:List a}(h:∀x∈l,f x=false):l.filter f=[]:=List.filter_eq_nil_iff.2 λx b=>by simp[h x b]
def ah5{L:List Int}{a b p n:Nat}:(aal L a b n).filter (dc a b p)=if p<n/\(IU L a b p).2.2.2.1≠2 then[IU L a b p] else[]:=by
 induction n with
 |zero=>simp[aal]
 |succ n c=>
  rw[aal,ab,c];by_cases e:p=n
  ·subst e;rw[if_neg (by omega),ac]
   split
   ·rw[if_neg (by omega)];rfl
   ·rw[if_pos (by omega),List.filter_cons_of_pos (abj.2 ⟨rfl,rfl,rfl⟩)];rfl
  ·have:(if(IU L a b n).2.2.2.1=2 then[] else[IU L a b n]).filter (dc a b p)=[]:=by
    split
    ·rfl
    ·rw[List.filter_cons_of_neg (λh=>e (abj.1 h).2.2.symm)];rfl
   rw[this,ad];congr 1;simp only[eq_iff_iff];omega
def ahE{L:List Int}{a b a' b' p n:Nat}(h:¬(a'=a/\b'=b)):(aal L a' b' n).filter (dc a b p)=[]:=
 afy λx c=>by
  obtain⟨q,_,_,rfl⟩:=abk.1 c;exact Bool.eq_false_iff.2 λe=>h ⟨(abj.1 e).1,(abj.1 e).2.1⟩
def ah6{L:List Int}{n m a b p:Nat}(o:a<b)(r:b<m)(s:p<n):(aco L n m).filter (dc a b p)=if(IU L a b p).2.2.2.1=2 then[] else[IU L a b p]:=by
 have f:∀k,(L0 L n a k).filter (dc a b p)=if b<a+1+k/\(IU L a b p).2.2.2.1≠2 then[IU L a b p] else[]:=by
  intro k
  induction k with
  |zero=>rw[if_neg (by omega)];rfl
  |succ k d=>
   rw[L0,ab,d];by_cases e:a+1+k=b
   ·subst e;rw[if_neg (by omega),ac,ah5];congr 1;simp only[eq_iff_iff];omega
   ·rw[ahE (λh=>e h.2),ad];congr 1;simp only[eq_iff_iff];omega
 have hA:∀k,(Q2 L n m k).filter (dc a b p)=if a<k/\(IU L a b p).2.2.2.1≠2 then[IU L a b p] else[]:=by
  intro k
  induction k with
  |zero=>rw[if_neg (by omega)];rfl
  |succ k d=>
   rw[Q2,ab,d];by_cases e:k=a
   ·subst e;rw[if_neg (by omega),ac,f];congr 1;simp only[eq_iff_iff];omega
   ·have:(L0 L n k (m-(k+1))).filter (dc a b p)=[]:=afy λx g=>by
     obtain⟨j,_,i⟩:=abH.1 g;obtain⟨q,_,_,rfl⟩:=abk.1 i;exact Bool.eq_false_iff.2 λl=>e (abj.1 l).1
    rw[this,ad];congr 1;simp only[eq_iff_iff];omega
 have c:=(adS aag (Q2 L n m m)).filter (dc a b p);rw[hA]at c;unfold aco;by_cases h:(IU L a b p).2.2.2.1=2
 ·rw[if_neg (by omega)]at c;rw[if_pos h];exact c.eq_nil
 ·rw[if_pos (by omega)]at c;rw[if_neg h];exact List.perm_singleton.1 c
def acB{a1 a2 a3 a4 c d e f a xg b yg:Int}(k:a1<=a)(l:a<=a2)(m:a3<=xg)(n:xg<=a4)(k1:c<=b)(k2:b<=d)(k3:e<=yg)(o:yg<=f)(p:a<xg)(hy:b<yg) :
 KD (abP a1 a2 a3 a4 c d e f) (decide (max a b<min xg yg))=true/\(abP a1 a2 a3 a4 c d e f=2->¬(max a b<min xg yg)):=by
 unfold abP;by_cases e1:a1<f<;>by_cases g:c<a4<;>by_cases h:a3<=d<;>by_cases i:e<=a2<;>by_cases j:max a b<min xg yg<;>simp[e1,g,h,i,j,Ej,KD]<;>omega
open Go.Shelf
attribute [local go_sem] Oper.semAt_some
set_option maxRecDepth 100000
set_option maxHeartbeats 4000000
def CD.Cv(C:CD):List nR:=aco C.tab C.n4 C.n5
def CD.abT(C:CD):Bool:=qP C C.n5&&decide (C.Cv.length=0)
def afA{C:CD}(hc:C.cx=0){w:World}(h:C.At w):Calls PL 41 #[.agg C.val] w λe w'=>∃v,e=.returned v/\kV w' w.heap.size v C.Cv/\Below w.heap.size w w':=
 abg C C.tab (CD.abR hc).len (xu hc).2 (s8 hc) w h (λ_ a=>afs a hc)
def kV.reads{W:World}{base:Nat}{v:Value}{l:List nR}(h:kV W base v l):j9 W v l:=SQ h
def aen{C:CD}{w:World}(h:C.At w)(hc:C.cx=0):Calls PL 11 #[.agg C.val] w λe w'=>∃b c,e=.returned (.tuple #[.slice b C.Cv.length c,.int .i64 0])/\j9 w' (.slice b C.Cv.length c) C.Cv/\Below w.heap.size w w':=by
 refine(Fp C (λW v=>j9 W v C.Cv) w h (by rw[CD.b6,if_pos hc];rfl) λW f=>(afA hc f).mono ?_).mono ?_
 ·rintro e w'⟨v,rfl,a,d⟩;exact⟨v,rfl,a.reads,d⟩
 ·rintro e w'⟨v,rfl,a,d⟩;have g:=a;obtain⟨b,c,rfl,_⟩:=g;exact⟨b,c,rfl,a,d⟩
def alH{C:CD}{w:World}(h:C.At w)(hc:C.cx=0):Calls PL 13 #[.agg C.val] w (aO (.tuple #[.bool C.abT,.int .i64 0]) w):=by
 have d:=ag h;have l:Hid (C.b6 true=0):=ag (by rw[CD.b6,if_pos hc];rfl)
 have f:Hid (∀W,C.At W->Calls PL 42 #[.agg C.val] W (aO (.bool C.abT) W)):=ag λW a=>VY C C.Cv.length W a hc (s8 hc) λW a=>(afA hc a).mono (by
  rintro e w'⟨v,rfl,m,n⟩;obtain⟨b,c,rfl⟩:=vB m
  exact⟨b,c,rfl,n⟩)
 have g:Hid (KB C w (w.alloc (.cells C.val 27))):=ag ⟨au _ _,(ai _ _).alloc (ao _) _⟩;clear h hc;obtain⟨s,hs⟩:∃s,s=C.abT:=⟨_,rfl⟩
 rw[<-hs]at f ⊢;clear hs
 go_enter (fx (by decide) Tryz.func13),Tryz.ntmps13
 go_wp2_with (first
  |(go_at_call 34;refine(kF l.out (d.out.below g.out.low)).mono ?_;rintro e w1⟨rfl,i⟩;have j:=ag (g.out.on i);clear i)
  |(go_at_call 42;refine(f.out _ (d.out.below (j.out.alloc (.cells C.val 83)).low)).mono ?_;rintro e w2⟨rfl,k⟩;have o:=ag ((j.out.alloc (.cells C.val 83)).on k);clear k))
 refine bodyPost_ret (v:=.tuple #[.bool s,.int .i64 0]) ?_ rfl ⟨rfl,o.out.low⟩;simp[results,Tryz.results13,go_sem]
set_option maxHeartbeats 40000000
def afB{C:CD}(hc:C.cx=0){k p:Nat}(b:k<C.n5)(c:p<C.n4){ps:List Int}{a z:Int}(d:a=C.rat ps k (s9 C.n4 (C.S k) p))(e:z=C.rgo ps k (s9 C.n4 (C.S k) p)){W:World}{u:Value}(f:j9 W u (C.rl ps k C.n4)) :
 Calls PL 14 #[u,.int .i64 p] W (aO (.tuple #[.agg #[.int .i64 p,.int .i64 a,.int .i64 a,.int .i64 z,.int .i64 z],.bool true]) W):=by
 have h:=(xu hc).2
 have:=abQ u _ p W f (by rw[CD.L1];omega) (by omega) (λx g=>by
  obtain⟨i,_,rfl⟩:=List.mem_map.1 g;have:=CD.abi hc k i;show C.rp k i<=20
  omega)
 rw[acw hc b c]at this;simp only[agZ,aaW,CD.rv,ah1 hc b c,<-d,<-e]at this;exact this
def acC{C:CD}(hc:C.cx=0){g p:Nat}(hg:g<C.n5)(a:p<C.n4)(ps:List Int):C.tab.getD (g*25+p*5+1) 0<=C.rat ps g (s9 C.n4 (C.S g) p)/\C.rat ps g (s9 C.n4 (C.S g) p)<=C.tab.getD (g*25+p*5+2) 0/\C.tab.getD (g*25+p*5+3) 0<=C.rgo ps g (s9 C.n4 (C.S g) p)/\C.rgo ps g (s9 C.n4 (C.S g) p)<=C.tab.getD (g*25+p*5+4) 0/\C.rat ps g (s9 C.n4 (C.S g) p)<C.rgo ps g (s9 C.n4 (C.S g) p):=by
 have hs:=L2 hc hg ps (s9 C.n4 (C.S g) p);rw[CD.aas hc hg a (by omega),CD.aas hc hg a (by omega),CD.aas hc hg a (by omega),CD.aas hc hg a (by omega)];obtain⟨b,_⟩:=abq hc (CD.abi hc g (s9 C.n4 (C.S g) p));have:=aam (n:=chI ps (C.rc g (s9 C.n4 (C.S g) p))) b.2.1;refine⟨hs.1.1,hs.1.2,hs.2.1,hs.2.2,?_⟩;simp only[CD.rgo,CD.pn];omega
def aax(l:List nR)(M:nR)(a b p:Nat)(said first:Int):Prop:=(l.filter (dc a b p)=[]/\said=2/\first=0)\/(l.filter (dc a b p)=[M]/\said=M.2.2.2.1/\first=M.2.2.2.2)
def ac2{l:List nR}{M x:nR}{a b p i:Nat}{s f:Int}(h:aax (l.take i) M a b p s f)(hi:l[i]?=some x)(c:dc a b p x=false):aax (l.take (i+1)) M a b p s f:=by
 have e:(l.take (i+1)).filter (dc a b p)=(l.take i).filter (dc a b p):=by rw[ae,hi,ab];simp[c]
 unfold aax;rw[e];exact h
def ah7{l:List nR}{M x:nR}{a b p i:Nat}{s f:Int}(hl:l.filter (dc a b p)=if M.2.2.2.1=2 then[] else[M])(h:aax (l.take i) M a b p s f)(hi:l[i]?=some x)(g:dc a b p x=true):s=2/\x=M/\M.2.2.2.1≠2/\aax (l.take (i+1)) M a b p x.2.2.2.1 x.2.2.2.2:=by
 have e:(l.take (i+1)).filter (dc a b p)=(l.take i).filter (dc a b p)++[x]:=by rw[ae,hi,ab];simp[g]
 have c:(l.take (i+1)).filter (dc a b p) <+: l.filter (dc a b p):=(List.take_prefix _ _).filter _;rw[hl,e]at c
 split at c
 ·simp at c
 ·rename_i j
  rcases h with⟨d,k,m⟩|⟨d,_⟩
  ·rw[d]at c e;obtain rfl:x=M:=by simpa using c
   exact⟨k,rfl,j,.inr ⟨e,rfl,rfl⟩⟩
  ·rw[d]at c;have:=c.length_le;simp at this
def ah8{l:List nR}{M:nR}{a b p:Nat}{s f:Int}(hl:l.filter (dc a b p)=if M.2.2.2.1=2 then[] else[M])(h:aax l M a b p s f):s=M.2.2.2.1/\(f=M.2.2.2.2\/M.2.2.2.1=2):=by
 unfold aax at h;rw[hl]at h
 split at h
 ·rename_i e
  rcases h with⟨_,c,g⟩|⟨d,_⟩
  ·exact⟨by rw[c,e],.inr e⟩
  ·cases d
 ·rcases h with⟨d,_⟩|⟨_,c,g⟩
  ·cases d
  ·exact⟨c,.inl g⟩
structure JMe(C:CD)(w:World)(v:Value)(L:List (Nat×Array Value))(W:World):Prop where
 box:W.heap[w.heap.size]?=some (.cells C.val 27)
 r:j9 W v C.Cv
 bl:∀q∈L,W.heap[q.1]?=some (.cells q.2 45)
 low:Below w.heap.size w W
def JMe.on{C:CD}{w W b:World}{v:Value}{L:List (Nat×Array Value)}(h:JMe C w v L W)(a:Below W.heap.size W b):JMe C w v L b:=
 ⟨(a.block _ (getElem?_lt' h.box)).trans h.box,h.r.on a,λq c=>(a.block _ (getElem?_lt' (h.bl q c))).trans (h.bl q c),Below.on h.low a⟩
def JMe.push{C:CD}{w W:World}{v:Value}{L:List (Nat×Array Value)}(h:JMe C w v L W)(c:Array Value):JMe C w v ((W.heap.size,c)::L) (W.alloc (.cells c 45)):=
 have k:=h.on ((ai W.heap.size W).alloc (ao _) (.cells c 45))
 ⟨k.box,k.r,λq a=>by
   rcases List.mem_cons.1 a with rfl|a
   ·exact au W _
   ·exact k.bl q a,k.low⟩
def agx(hwk:∀w,Calls PL 7 #[] w (aO (.bool true) w))(C:CD)(n1 n2 n3:Int)(v:Value)(ps:List Int)(w:World)(h:C.Mem w)(hg1:0<=n1/\n1<=255)(hg2:0<=n2/\n2<=255)(hg3:0<=n3/\n3<=255)(hp:H9 w v ps) :
 Calls PL 4 #[.agg C.val,.int .u8 n1,.int .u8 n2,.int .u8 n3,v] w (aO (.bool true) w):=by
 have HM:Hid (∀W,Below w.heap.size w W->C.Mem W):=ag λW d=>h.below d;have Q:=ag (show KB C w (w.alloc (.cells C.val 27)) from⟨au _ _,(ai _ _).alloc (ao _) _⟩);have HW:=ag hwk;have HP:Hid (∀W,Below w.heap.size w W->H9 W v ps):=ag λW d=>hp.on d;have HN:=ag (And.intro hg1 (And.intro hg2 hg3));clear h hwk hp hg1 hg2 hg3;by_cases I:C.LR=true
 case neg=>
  have hff:C.LR=false:=by simpa using I
  have HG:Hid (∀W,C.Mem W->Calls PL 6 #[.agg C.val] W (aO (.bool false) W)):=ag λW hW=>by have:=abv C W hW;rwa[hff]at this
  clear I hff
  go_enter (fx (by decide) Tryz.func4),Tryz.ntmps4
  obtain⟨j,t,y,A,f4,B⟩:=bf Q.out.box
  go_wp2_with (first
   |(go_at_call 6;refine(HG.out _ (HM.out _ Q.out.low)).mono ?_;rintro e w1⟨rfl,Y⟩;have K1:=ag (Q.out.on Y);clear Y)
   |(go_at_call 7;refine(HW.out _).mono ?_;rintro e w2⟨rfl,Z⟩;have K2:=ag (K1.out.on Z);clear Z))
  go_ret
  exact⟨rfl,K2.out.low⟩
 have D:Hid (C.small=true/\C.cx=0):=ag (by simpa[CD.LR]using I);have HA:Hid (∀W,Below w.heap.size w W->C.At W):=ag λW d=>CD.At.Ri (HM.out W d) D.out.1;have HG:Hid (∀W,C.Mem W->Calls PL 6 #[.agg C.val] W (aO (.bool true) W)):=ag λW hW=>by have:=abv C W hW;rwa[I]at this
 clear I;by_cases hn5:C.n5<2
 ·have as6:(C.n5:Int)<2:=by omega
  clear hn5
  go_enter (fx (by decide) Tryz.func4),Tryz.ntmps4
  obtain⟨j,t,y,A,f4,B⟩:=bf Q.out.box
  go_wp2_with (first
   |(go_at_call 6;refine(HG.out _ (HM.out _ Q.out.low)).mono ?_;rintro e w1⟨rfl,Y⟩;have K1:=ag (Q.out.on Y);clear Y;clear j t y A f4 B;obtain⟨j,t,y,A,f4,B⟩:=bf K1.out.box)
   |(go_at_call 7;refine(HW.out _).mono ?_;rintro e w2⟨rfl,Z⟩;have K2:=ag (K1.out.on Z);clear Z))
  go_ret
  exact⟨rfl,K2.out.low⟩
 obtain⟨h41,h42⟩:=xu D.out.2;have h5:=s8 D.out.2;have emod:∀(n:Int)(m:Nat),0<m->∃q:Nat,n % (m:Int)=(q:Int)/\q<m:=λn m hm=>⟨(n % (m:Int)).toNat,by have:=Int.emod_nonneg n (show(m:Int)≠0 by omega);have:=Int.emod_lt_of_pos n (show(0:Int)<m by omega);omega⟩
 obtain⟨q1,jQ,aoa⟩:=emod n1 C.n5 (by omega);obtain⟨q2,hq2,aob⟩:=emod n2 C.n5 (by omega);obtain⟨p,hp,J⟩:=emod n3 C.n4 (by omega);clear emod;have asj:=HN.out.1.1;have asl:=HN.out.1.2;have asm:=HN.out.2.1.1;have asn:=HN.out.2.1.2;have aso:=HN.out.2.2.1;have asp:=HN.out.2.2.2;obtain⟨bp,cp,hv,_⟩:=(HP.out w (ai _ _)).1;obtain⟨np,MC⟩:∃n,n=ps.length:=⟨_,rfl⟩
 rw[<-MC]at hv;subst hv;clear MC;have ao5:(C.n5:Int)≠0:=by omega
 have asr:(C.n4:Int)≠0:=by omega
 have ass:¬(C.n5:Int)<2:=by omega
 clear hn5
 go_enter (fx (by decide) Tryz.func4),Tryz.ntmps4
 obtain⟨j,t,y,A,f4,B⟩:=bf Q.out.box
 go_upto_region 3 with(first
  |(go_at_call 6;refine(HG.out _ (HM.out _ Q.out.low)).mono ?_;rintro e w1⟨rfl,Y⟩;have K1:=ag (Q.out.on Y);clear Y;clear j t y A f4 B;obtain⟨j,t,y,A,f4,B⟩:=bf K1.out.box))
 go_quiet (fail)
 have K2:Hid (KB C w (w1.drewN nq)):=ag (K1.out.on (below_drewN (ai _ _) _));clear j t y A f4 B;obtain⟨j,t,y,A,f4,B⟩:=bf K2.out.box;by_cases hab:q1=q2
 ·subst hab
  go_wp2_with (first
   |(go_at_call 7;refine(HW.out _).mono ?_;rintro e w2⟨rfl,Z⟩;have K3:=ag (K2.out.on Z);clear Z))
  go_ret
  exact⟨rfl,K3.out.low⟩
 have bu:¬((q1:Int)=q2):=by omega
 go_upto_region 7 with fail
 obtain⟨a,b,alI,R,aoc,aod⟩:∃a b:Nat,a<b/\b<C.n5/\min (q1:Int) (q2:Int)=(a:Int)/\max (q1:Int) (q2:Int)=(b:Int):=by
  rcases Nat.lt_or_gt_of_ne hab with h|h
  ·exact⟨q1,q2,h,aob,by omega,by omega⟩
  ·exact⟨q2,q1,h,aoa,by omega,by omega⟩
 rw[aoc,aod,hp];have T:a<C.n5:=by omega
 clear aoc aod jQ hq2 hp aoa aob bu hab asj asl asm asn aso asp ao5 asr ass;obtain⟨N,hN⟩:∃N,N=C.Cv.length:=⟨_,rfl⟩
 obtain⟨sf,hsf⟩:∃s,s=C.abT:=⟨_,rfl⟩
 have TV:Hid (∀W,C.At W->Calls PL 11 #[.agg C.val] W λe w'=>∃b c,e=.returned (.tuple #[.slice b N c,.int .i64 0])/\j9 w' (.slice b N c) C.Cv/\Below W.heap.size W w'):=ag λW hW=>by rw[hN];exact aen hW D.out.2
 have SV:Hid (∀W,C.At W->Calls PL 13 #[.agg C.val] W (aO (.tuple #[.bool sf,.int .i64 0]) W)):=ag λW hW=>by rw[hsf];exact alH hW D.out.2
 obtain⟨H,U⟩:∃x,x=C.rat ps a (s9 C.n4 (C.S a) p):=⟨_,rfl⟩
 obtain⟨xg,hxg⟩:∃x,x=C.rgo ps a (s9 C.n4 (C.S a) p):=⟨_,rfl⟩
 obtain⟨E,hyc⟩:∃x,x=C.rat ps b (s9 C.n4 (C.S b) p):=⟨_,rfl⟩
 obtain⟨yg,hyg⟩:∃x,x=C.rgo ps b (s9 C.n4 (C.S b) p):=⟨_,rfl⟩
 have VX:Hid (∀W u,j9 W u (C.rl ps a C.n4)->Calls PL 14 #[u,.int .i64 p] W (aO (.tuple #[.agg #[.int .i64 p,.int .i64 H,.int .i64 H,.int .i64 xg,.int .i64 xg],.bool true]) W)):=ag λW u hu=>afB D.out.2 T J U hxg hu;have VY:Hid (∀W u,j9 W u (C.rl ps b C.n4)->Calls PL 14 #[u,.int .i64 p] W (aO (.tuple #[.agg #[.int .i64 p,.int .i64 E,.int .i64 E,.int .i64 yg,.int .i64 yg],.bool true]) W)):=ag λW u hu=>afB D.out.2 R J hyc hyg hu;have TA:=acC D.out.2 T J ps;have TB:=acC D.out.2 R J ps;rw[<-U,<-hxg]at TA;rw[<-hyc,<-hyg]at TB;have hd0:=(CD.ado D.out.2 T ps (s9 C.n4 (C.S a) p)).1.1;rw[<-U]at hd0;obtain⟨M,hM⟩:∃M,M=IU C.tab a b p:=⟨_,rfl⟩
 obtain⟨mt,hmt⟩:∃m,m=decide (max H E<min xg yg):=⟨_,rfl⟩
 have hMA:=acB TA.1 TA.2.1 TA.2.2.1 TA.2.2.2.1 TB.1 TB.2.1 TB.2.2.1 TB.2.2.2.1 TA.2.2.2.2 TB.2.2.2.2
 have MA:Hid (KD M.2.2.2.1 mt=true/\(M.2.2.2.1=2->mt=false)/\M.2.2.2.2<=max H E/\0<=max H E):=ag (by
  rw[hM,hmt]
  exact⟨hMA.1,λe=>decide_eq_false (hMA.2 e),by have h1:=TA.1;have h2:=TB.1;show max _ _<=_;omega,by omega⟩)
 have FL:Hid (C.Cv.filter (dc a b p)=if M.2.2.2.1=2 then[] else[M]):=ag (by rw[hM];exact ah6 alI R J);have azc:N<=15:=by rw[hN,CD.Cv,aco,abO];exact acr _ h42 h5
 have K:=ag hN;have HSF:=ag hsf;have HMT:=ag hmt;have HAB:=ag alI;clear hN hsf U hxg hyc hyg TA TB hMA hM hmt alI hd0
 go_upto_region 8 with(first
  |(go_at_call 11;refine(TV.out _ (HA.out _ K2.out.low)).mono ?_;rintro e w3⟨bt,ct,rfl,O,d⟩;have k3:=K2.out.on d;have J3:Hid (JMe C w (.slice bt N ct) [] w3):=ag ⟨k3.box,O,λq hq=>(by cases hq),k3.low⟩;clear O d k3;clear j t y A f4 B;obtain⟨j,t,y,A,f4,B⟩:=bf J3.out.box))
 go_upto_region 9 with(first
  |(go_at_call 13;refine(SV.out _ (HA.out _ J3.out.low)).mono ?_;rintro e w4⟨rfl,d⟩;have J4:=ag (J3.out.on d);clear d;clear j t y A f4 B;obtain⟨j,t,y,A,f4,B⟩:=bf J4.out.box))
 go_upto_region 10 with(first
  |(go_at_call 15;refine(abE (HA.out _ J4.out.low) D.out.2 T (HP.out _ J4.out.low)).mono ?_;rintro e w5⟨b5,c5,rfl,O,d⟩;have R5:=ag O;have J5:=ag (J4.out.on d);clear d O;clear j t y A f4 B)
  |(go_at_call 14;(with_reducible refine(VX.out _ _ R5.out).mono ?_);rintro e w6⟨rfl,d⟩;have J6:=ag ((J5.out.on d).push #[.int .i64 p,.int .i64 H,.int .i64 H,.int .i64 xg,.int .i64 xg]);clear d))
 obtain⟨j,t,y,A,f4,B⟩:=bf J6.out.box
 go_upto_region 11 with(first
  |(go_at_call 15;refine(abE (HA.out _ J6.out.low) D.out.2 R (HP.out _ J6.out.low)).mono ?_;rintro e w7⟨b7,c7,rfl,O,d⟩;have R7:=ag O;have J7:=ag (J6.out.on d);clear d O;clear j t y A f4 B)
  |(go_at_call 14;(with_reducible refine(VY.out _ _ R7.out).mono ?_);rintro e w8⟨rfl,d⟩;have J8:=ag ((J7.out.on d).push #[.int .i64 p,.int .i64 E,.int .i64 E,.int .i64 yg,.int .i64 yg]);clear d))
 obtain⟨W8,hW8⟩:∃W:World,W=w8.alloc (.cells #[.int .i64 p,.int .i64 E,.int .i64 E,.int .i64 yg,.int .i64 yg] 45):=⟨_,rfl⟩
 rw[<-hW8]at J8 ⊢;clear hW8;have bx:Hid (W8.heap[w6.heap.size]?=some (.cells #[.int .i64 p,.int .i64 H,.int .i64 H,.int .i64 xg,.int .i64 xg] 45)):=ag (J8.out.bl (_,_) (by simp));have by':Hid (W8.heap[w8.heap.size]?=some (.cells #[.int .i64 p,.int .i64 E,.int .i64 E,.int .i64 yg,.int .i64 yg] 45)):=ag (J8.out.bl (_,_) (by simp))
 obtain⟨x0,x1,x2,x3,x4⟩:=qO bx.out;obtain⟨y0,y1,y2,y3,y4⟩:=qO by'.out
 clear VX VY TV SV bx by'
 go_upto_region 16 with fail
 clear x0 x1 x2 x3 x4 y0 y1 y2 y3 y4;rw[<-HMT.out];obtain⟨fr,bA⟩:∃f,max H E=f:=⟨_,rfl⟩
 rw[bA]at MA ⊢;clear bA;obtain⟨LB,YZ⟩:∃L,L=[(w8.heap.size,(#[.int .i64 p,.int .i64 E,.int .i64 E,.int .i64 yg,.int .i64 yg]:Array Value)),(w6.heap.size,#[.int .i64 p,.int .i64 H,.int .i64 H,.int .i64 xg,.int .i64 xg])]:=⟨_,rfl⟩
 rw[<-YZ]at J8;clear YZ
 go_wp2
 go_loopw [24,25,26] (λv24 v25 v26 wr=>∃(i:Nat)(s f:Int),i<=N/\v26=.int .i64 i/\v24=.int .i64 s/\v25=.int .i64 f/\aax (C.Cv.take i) M a b p s f/\JMe C w (.slice bt N ct) LB wr) (λ_ _ v26 _=>N-(intOf v26).toNat)
 case atStart=>exact⟨0,2,0,ap _,rfl,rfl,rfl,.inl ⟨rfl,rfl,rfl⟩,J8.out⟩
 case round=>
  obtain⟨i,s,f,hi,rfl,rfl,rfl,hS,hJ⟩:=hrel;have HS:=ag hS;have JR:=ag hJ;clear hS hJ;by_cases P:i<N
  ·have i2:(i:Int)<N:=by omega
   obtain⟨x,hx⟩:∃x,x=C.Cv[i]'(by rw[<-K.out];exact P):=⟨_,rfl⟩
   obtain⟨kT,oT,rfl,e1⟩:=aav JR.out.r (i:=i) (by rw[<-K.out];exact P);rw[<-hx]at e1;have V:Hid (C.Cv[i]?=some x):=ag (by rw[hx];exact List.getElem?_eq_getElem _);obtain⟨c0,c1,c2,c3,c4⟩:=e1 wr (ai _ _);have hkT:kT<wr.heap.size:=by
    have:=JR.out.r;obtain⟨b',c',e,h⟩:=this;obtain⟨rfl,_,_⟩:=Value.slice.inj e;obtain⟨k,o,e1,F,_⟩:=h (by rw[<-K.out];omega);cases e1;exact F
   clear e1 hx;by_cases k1:x.1=a
   case neg=>
    have k1':¬((x.1:Int)=(a:Int)):=by omega
    have F:dc a b p x=false:=by simp[dc,k1]
    have Tp:=ag (ac2 HS.out V.out F);clear F
    go_wp2
    exact⟨⟨i+1,s,f,P,by go_num,rfl,rfl,Tp.out,JR.out.on ((ai _ _).alloc (ao _) _)⟩,by simp only[intOf];omega⟩
   by_cases k2:x.2.1=b
   case neg=>
    have k1':(x.1:Int)=(a:Int):=by omega
    have F:dc a b p x=false:=by simp[dc,k2]
    have Tp:=ag (ac2 HS.out V.out F);clear F
    go_wp2
    exact⟨⟨i+1,s,f,P,by go_num,rfl,rfl,Tp.out,JR.out.on ((ai _ _).alloc (ao _) _)⟩,by simp only[intOf];omega⟩
   by_cases k3:x.2.2.1=p
   case neg=>
    have k1':(x.1:Int)=(a:Int):=by omega
    have F:dc a b p x=false:=by simp[dc,k3]
    have Tp:=ag (ac2 HS.out V.out F);clear F
    go_wp2
    exact⟨⟨i+1,s,f,P,by go_num,rfl,rfl,Tp.out,JR.out.on ((ai _ _).alloc (ao _) _)⟩,by simp only[intOf];omega⟩
   have k1':(x.1:Int)=(a:Int):=by omega
   have F:dc a b p x=true:=by simp[dc,k1,k2,k3]
   obtain⟨rfl,hxM,hM2,hS2⟩:=ah7 FL.out HS.out V.out F;have NV:¬x.2.2.2.1=2:=by rw[hxM];exact hM2
   have Tp:=ag hS2;clear F hxM hM2 hS2
   go_upto_region 23 with fail
   go_quiet (fail)
   go_wp2
   exact⟨⟨i+1,_,_,P,by go_num,rfl,rfl,Tp.out,JR.out.on (below_drewN ((ai _ _).alloc (ao _) _) _)⟩,by simp only[intOf];omega⟩
  ·have hiN:i=N:=by omega
   have hS:=HS.out;rw[hiN,K.out,List.take_length]at hS;obtain⟨vL,yp⟩:=ah8 FL.out hS;have AG:Hid (∀W,Calls PL 16 #[.int .i64 s,.bool mt] W (aO (.bool true) W)):=ag λW=>by
    have h1:=abf s mt W;rwa[vL,MA.out.1,<-vL]at h1
   have hfm:mt=true->¬(fr<f):=λe=>by
    rcases yp with h|h
    ·have:=MA.out.2.2.1;omega
    ·have:=MA.out.2.1 h;rw[this]at e;cases e
   have Rj:sf=true->mt=false/\N=0:=λe=>by
    rw[HSF.out,CD.abT,Bool.and_eq_true]at e;have h0:=of_decide_eq_true e.2;refine⟨?_,by rw[K.out];exact h0⟩;have aj5:C.Cv=[]:=List.length_eq_zero_iff.1 h0;have hf:=FL.out;rw[aj5]at hf
    split at hf
    ·exact MA.out.2.1 (by assumption)
    ·cases hf
   obtain⟨j,t,y,A,f4,B⟩:=bf JR.out.box;have HSM:=ag Rj;have HFM:=ag hfm;clear vL yp hS Rj hfm hiN;have hcs:(mt=false/\sf=false)\/(mt=true/\sf=false)\/(mt=false/\sf=true):=by
    cases hm:mt<;>cases hf:sf
    ·exact .inl ⟨rfl,rfl⟩
    ·exact .inr (.inr ⟨rfl,rfl⟩)
    ·exact .inr (.inl ⟨rfl,rfl⟩)
    ·have:=(HSM.out hf).1;rw[hm]at this;cases this
   have vt:sf=true->¬(0<(N:Int)):=λe=>by have:=(HSM.out e).2;omega
   have hE:Hid (sf=true->∀g,g<C.n5->C.rgo ps g (C.n4-1)<=C.l):=ag λe g hg=>by
    have h1:=HSF.out;rw[e,CD.abT]at h1;have h2:=(Bool.and_eq_true_iff.1 h1.symm).1;have h3:=of_decide_eq_true h2 g hg;have h4:=(L2 D.out.2 hg ps (C.n4-1)).2;rw[ac1 C g (by omega)]at h3;omega
   clear HSM
   rcases hcs with⟨rfl,rfl⟩|⟨rfl,rfl⟩|⟨rfl,rfl⟩
   all_goals (
    try have bA:=HFM.out rfl
    try have hn0:=vt rfl
    clear vt HFM)
   all_goals (
    go_upto_region 26 with(go_at_call 16;(with_reducible refine(AG.out _).mono ?_);rintro e w9⟨rfl,d⟩;have J9:=ag (JR.out.on d);clear d;clear j t y A f4 B)
    clear AG
    try clear hn0
    try clear bA
    go_wp2
    go_loopw [28] (λv28 wr=>∃g:Nat,g<=C.n5/\v28=.int .i64 g/\KB C w wr) (λv28 _=>C.n5-(intOf v28).toNat)
    case atStart=>exact⟨0,ap _,rfl,J9.out.box,J9.out.low⟩
    case round=>
     obtain⟨g,hg,rfl,hK⟩:=hrel;have KR:=ag hK;clear hK;obtain⟨j,t,y,A,f4,B⟩:=bf KR.out.box;by_cases P:g<C.n5
     ·have i2:(g:Int)<C.n5:=by omega
      go_upto_region 30 with(go_at_call 15;refine(abE (HA.out _ KR.out.low) D.out.2 P (HP.out _ KR.out.low)).mono ?_;rintro e VD⟨b5,c5,rfl,O,d⟩;have R5:=ag O;have K5:=ag (KR.out.on d);clear d O;clear j t y A f4 B;obtain⟨j,t,y,A,f4,B⟩:=bf K5.out.box)
      have zi:(C.n4:Int)-1=((C.n4-1:Nat):Int):=by omega
      obtain⟨X,acz⟩:∃X,X=C.n4-1:=⟨_,rfl⟩
      rw[<-acz]at zi;have hl2:X<C.n4:=by omega
      have hl3:(X:Int)<C.n4:=by omega
      obtain⟨k3,o3,rfl,e3⟩:=aav R5.out (i:=X) (by rw[CD.L1];exact hl2);have hx3:(C.rl ps g C.n4)[X]'(by rw[CD.L1];exact hl2)=C.rv ps g X:=by simp[CD.rl]
      rw[hx3]at e3;obtain⟨z,hz⟩:∃z,z=C.rgo ps g X:=⟨_,rfl⟩
      have Yt:(C.rv ps g X).2.2.2.1=z:=hz.symm;rw[Yt]at e3;obtain⟨_,_,_,d3,_⟩:=e3 VD (ai _ _)
      try have hzl:¬C.l<z:=(by have:=hE.out (by first|rfl|trivial) g P;rw[<-acz,<-hz]at this;omega)
      clear e3 hx3 Yt hz acz
      go_quiet (fail)
      go_wp2
      exact⟨⟨g+1,P,by go_num,K5.out.on (below_drewN (ai _ _) _)⟩,by simp only[intOf];omega⟩
     ·have hgn:g=C.n5:=by omega
      have i2:¬((g:Int)<C.n5):=by omega
      clear P
      go_wp2_with (go_at_call 7;refine(HW.out _).mono ?_;rintro e w13⟨rfl,d⟩;have hB9:=Below.on KR.out.low d;clear d)
      go_ret
      exact⟨rfl,hB9⟩)
end Go.Proofs
