/- Part of the proof of FieldFlat and FieldMarshals. -/
import Derived.Test.YtmkjeaacgibnoaaGreatY34
set_option linter.all false
open Nat renaming lt_irrefl->aa,le_refl->ab
open Go.Proofs renaming getElem?_lt'->ac
open List renaming getElem?_eq_getElem->ad,getD_eq_getElem?_getD->ae
open Go.World renaming cell?->ag
open Go.Lib renaming hid->ai
open Go.RowKit.Below renaming refl->ao
namespace Go.Proofs
open Go.RowKit Go.Shelf
set_option maxRecDepth 100000
set_option maxHeartbeats 1000000
def uP(d:Int)(C:CD)(W:World):Prop:=∃k2 h k3 c3 a i b j c e f g,C=ir k2 h k3 c3 a i b j c e f g d/\CJ W k2 k3 a b c e f g d
def uP.on{d:Int}{C:CD}{W a:World}(h:uP d C W)(b:Below W.heap.size W a):uP d C a:=by
 obtain⟨k2,c,k3,c3,f,g,i,j,k,l,m,n,e,h⟩:=h;exact⟨k2,c,k3,c3,f,g,i,j,k,l,m,n,e,h.on b⟩
def uP.at{d:Int}{C:CD}{W:World}(h:uP d C W):C.At W:=by
 obtain⟨k2,a,k3,c3,b,c,e,f,g,i,j,k,rfl,h⟩:=h;exact h.at
def uP.is{d:Int}{C:CD}{W:World}(h:uP d C W):VB d C:=by
 obtain⟨k2,a,k3,c3,b,c,e,f,g,i,j,k,rfl,_⟩:=h;exact⟨k2,a,k3,c3,b,c,e,f,g,i,j,k,rfl⟩
def tG{d:Int}{C:CD}(hd:d=0\/d=1)(h:VB d C):C.b6 true=0:=by
 obtain⟨k2,a,k3,c3,b,c,e,f,g,i,j,k,rfl⟩:=h
 rcases hd with rfl|rfl<;>kernel_rfl
def IQ{d:Int}{C:CD}(hd:d=0\/d=1)(h:VB d C):C.cx=0:=IC (tG hd h)
def agd(w:World):Calls PL 20 #[.int .i64 13,.int .i64 (-5)] w λe w'=>e=.returned (.tuple #[.int .i64 12,.int .i64 0])/\w=w':=(uD 13 (-5) w).mono λ_ _ k=>⟨k.1.trans (by kernel_rfl),k.2.symm⟩
def age(w:World):Calls PL 20 #[.int .i64 20,.int .i64 11] w λe w'=>e=.returned (.tuple #[.int .i64 16,.int .i64 0])/\w=w':=(uD 20 11 w).mono λ_ _ k=>⟨k.1.trans (by kernel_rfl),k.2.symm⟩
def agf{C:CD}(w:World)(h:uP 0 C w):Calls PL 24 #[.agg C.val,.int .i64 0] w (aO (.tuple #[.agg #[.int .i64 16,.int .i64 20],.int .i64 0]) w):=by
 have k:=nB C 0 w h.at;have e:C.kR 0=.tuple #[.agg #[.int .i64 16,.int .i64 20],.int .i64 0]:=by
  obtain⟨k2,a,k3,c3,b,c,d,f,g,i,j,l,rfl⟩:=h.is
  kernel_rfl
 rwa[e]at k
def agh{C:CD}(w:World)(h:uP 0 C w):Calls PL 24 #[.agg C.val,.int .i64 2] w (aO (.tuple #[.agg #[.int .i64 24,.int .i64 25],.int .i64 0]) w):=by
 have k:=nB C 2 w h.at;have e:C.kR 2=.tuple #[.agg #[.int .i64 24,.int .i64 25],.int .i64 0]:=by
  obtain⟨k2,a,k3,c3,b,c,d,f,g,i,j,l,rfl⟩:=h.is
  kernel_rfl
 rwa[e]at k
def agi{C:CD}(w:World)(h:uP 0 C w):Calls PL 26 #[.agg C.val,.int .i64 0] w (aO (.tuple #[.int .i64 0,.int .i64 0]) w):=by
 have k:=pH C 0 w h.at;have e:C.iq 0=.tuple #[.int .i64 0,.int .i64 0]:=by
  obtain⟨k2,a,k3,c3,b,c,d,f,g,i,j,l,rfl⟩:=h.is
  kernel_rfl
 rwa[e]at k
def agj{C:CD}(w:World)(h:uP 0 C w):Calls PL 26 #[.agg C.val,.int .i64 2] w (aO (.tuple #[.int .i64 2,.int .i64 0]) w):=by
 have k:=pH C 2 w h.at;have e:C.iq 2=.tuple #[.int .i64 2,.int .i64 0]:=by
  obtain⟨k2,a,k3,c3,b,c,d,f,g,i,j,l,rfl⟩:=h.is
  kernel_rfl
 rwa[e]at k
def SJ:List Int:=[0,0,0,4,6,1,6,9,10,14,2,13,17,18,22]
def IU:List Int:=[0,1,2,0,13]
def SQ{W:World}{base e n:Nat}{v:Value}{xs:List Value}(h:W.ownsRow base e 5 v n xs)(l:List Int)(a:xs=l.map λz=>.int .i64 z):Reads W v n 5 λj=>.int .i64 (l.getD j 0):=by
 obtain⟨hl,h⟩:=h
 rcases h with⟨rfl,rfl⟩|⟨g,cap,b,rfl,hb,hg,hc,d,hs,c⟩
 ·exact⟨none,0,rfl,λh=>absurd h (aa _)⟩
 ·refine⟨_,_,rfl,λf=>⟨g,0,rfl,ac hg,λj i=>?_⟩⟩;have k:l.length=n*5:=by rw[<-hl,a,List.length_map]
  have e:xs[j]?=some (.int .i64 (l.getD j 0)):=by
   rw[a,List.getElem?_map,ad (by omega)];simp[ae,ad (show j<l.length by omega)]
  rw[<-c,List.getElem?_take_of_lt (by omega)]at e;simp only[ag,hg,Nat.zero_add];simpa using e
def e34{C:CD}(w:World)(h:uP 0 C w):Calls PL 34 #[.agg C.val,.int .i64 0] w λe w'=>∃v,e=.returned (.tuple #[v,.int .i64 0])/\(Reads w' v 3 5 λj=>.int .i64 (SJ.getD j 0))/\Below w.heap.size w w':=by
 have k:=ID C 0 w h.at (by obtain⟨k2,a,k3,c3,b,c,d,f,g,i,l,m,rfl⟩:=h.is;show 0<2;decide) (by obtain⟨k2,a,k3,c3,b,c,d,f,g,i,l,m,rfl⟩:=h.is;show 2<=3;decide) (tG (.inl rfl) h.is) (Sa C (IQ (.inl rfl) h.is) (by obtain⟨k2,a,k3,c3,b,c,d,f,g,i,l,m,rfl⟩:=h.is;show 0<2;decide));refine k.mono ?_;rintro e w'⟨v,rfl,n,o⟩;have e:mD C 0 C.n4=[(0,0,0,4,6),(1,6,9,10,14),(2,13,17,18,22)]:=by
  obtain⟨k2,a,k3,c3,b,c,d,f,g,i,l,m,rfl⟩:=h.is
  kernel_rfl
 unfold AY at n;rw[e]at n;exact⟨v,rfl,SQ n SJ rfl,o⟩
def e59{C:CD}(w:World)(h:uP 0 C w):Calls PL 59 #[.agg C.val,.int .i64 1] w (aO (.tuple #[.agg #[.int .i64 18,.int .i64 23],.int .i64 0]) w):=by
 have k:=Sj C 1 w h.at (by obtain⟨k2,a,k3,c3,b,c,d,f,g,i,j,l,rfl⟩:=h.is;show 1<2;decide) (by obtain⟨k2,a,k3,c3,b,c,d,f,g,i,j,l,rfl⟩:=h.is;show 2<=3;decide) (tG (.inl rfl) h.is) (Sa C (IQ (.inl rfl) h.is) (by obtain⟨k2,a,k3,c3,b,c,d,f,g,i,j,l,rfl⟩:=h.is;show 1<2;decide));have e:nU C 1=(18,23):=by
  obtain⟨k2,a,k3,c3,b,c,d,f,g,i,j,l,rfl⟩:=h.is
  kernel_rfl
 rwa[e]at k
def e36{C:CD}(w:World)(h:uP 0 C w):Calls PL 36 #[.agg C.val,.int .i64 8] w λe w'=>∃v,e=.returned (.tuple #[v,.int .i64 0])/\bB w' v [2,0,1]/\Below w.heap.size w w':=by
 have k:=RO C 8 je Sy w h.at (tG (.inl rfl) h.is) (by obtain⟨k2,a,k3,c3,b,c,d,f,g,i,j,l,rfl⟩:=h.is;show 3<=5;decide) (by obtain⟨k2,a,k3,c3,b,c,d,f,g,i,j,l,rfl⟩:=h.is;show 2<=3;decide) rfl λW m=>tA (.inl rfl) h.is m;have e:tB je 8 C.n5 C.n4=[2,0,1]:=by
  obtain⟨k2,a,k3,c3,b,c,d,f,g,i,j,l,rfl⟩:=h.is
  kernel_rfl
 rwa[e]at k
def e37{C:CD}{d:Int}(hd:d=0\/d=1)(w:World)(h:uP d C w):Calls PL 37 #[.agg C.val] w λe w'=>∃v,e=.returned (.tuple #[v,.int .i64 0])/\(∃b c,v=.slice b (Cv d 3).length c)/\(Reads w' v (Cv d 3).length 5 λj=>.int .i64 (IU.getD j 0))/\Below w.heap.size w w':=by
 have l:C.n4=3/\C.n5=2:=by obtain⟨k2,o,k3,c3,p,q,r,s,t,u,x,y,rfl⟩:=h.is;exact⟨rfl,rfl⟩
 have k:=Fp C (λW v=>(∃b c,v=.slice b (Cv d 3).length c)/\Reads W v (Cv d 3).length 5 λj=>.int .i64 (IU.getD j 0)) w h.at (tG hd h.is) λW m=>(vC C d hd l.1 l.2 W m λz f=>tA hd h.is f).mono λe w'⟨v,g,a,i⟩=>⟨v,g,⟨vB a,?_⟩,i⟩
 ·exact k.mono λe w'⟨v,g,a,i⟩=>⟨v,g,a.1,a.2,i⟩
 ·rcases hd with rfl|rfl
  ·have n:Cv 0 3=[]:=rfl;unfold kV at a;rw[n]at a⊢;obtain⟨b,c,rfl⟩:=vB a;exact⟨b,c,rfl,λh=>absurd h (aa _)⟩
  ·exact SQ a IU rfl
def e39{C:CD}{v:Value}(w:World)(h:uP 0 C w)(hv:bB w v [0,1]):Calls PL 39 #[.agg C.val,v] w λe w'=>∃a,e=.returned (.tuple #[.agg a.val,.int .i64 0])/\uP 1 a w'/\Below w.heap.size w w':=by
 obtain⟨k2,l,k3,c3,m,n,o,p,q,r,s,t,rfl,b⟩:=h;exact(Iw w b hv).mono λe w'⟨q2,d2,q3,d3,q4,d4,q5,d5,c,d,f,g,i,j,k⟩=>⟨_,i,⟨q2,d2,q3,d3,q4,d4,q5,d5,c,d,f,g,rfl,j⟩,k⟩
def e52{C:CD}(w:World)(h:uP 1 C w):Calls PL 52 #[.agg C.val] w λe w'=>∃v,e=.returned (.tuple #[v,.bool true,.int .i64 0])/\bB w' v [0,0]/\Below w.heap.size w w':=by
 obtain⟨k2,b,k3,c3,c,d,f,g,i,j,k,l,rfl,a⟩:=h;exact II w a
def agk{C:CD}(w:World)(h:uP 0 C w):Calls PL 28 #[.agg C.val,.int .i64 2,.int .i64 5] w λe w'=>∃v,e=.returned (.tuple #[v,.int .i64 110,.bool true,.int .i64 0])/\bB w' v [2,3,0]/\Below w.heap.size w w':=by
 have a:=h.at;obtain⟨k2,b,k3,c3,c,d,f,g,i,j,k,l,e,_⟩:=h;exact Ba C 5 (.inl rfl) e w a
def agl{C:CD}(w:World)(h:uP 0 C w):Calls PL 28 #[.agg C.val,.int .i64 2,.int .i64 3] w λe w'=>∃v,e=.returned (.tuple #[v,.int .i64 0,.bool false,.int .i64 0])/\bB w' v []/\Below w.heap.size w w':=by
 have a:=h.at;obtain⟨k2,b,k3,c3,c,d,f,g,i,j,k,l,e,_⟩:=h;exact Ba C 3 (.inr rfl) e w a
def e31{C:CD}(w:World)(h:uP 0 C w):Calls PL 31 #[.agg C.val] w λe w'=>∃v,e=.returned (.tuple #[v,.int .i64 0])/\bB w' v [0,2]/\Below w.heap.size w w':=by
 have k:=Cr C w h.at (IQ (.inl rfl) h.is);have e:(qC C C.p.toNat (2 ^ C.p.toNat)).getD []=[0,2]:=by
  obtain⟨k2,a,k3,c3,b,c,d,f,g,i,j,l,rfl⟩:=h.is
  kernel_rfl
 rwa[e]at k
def agm{C:CD}(w:World)(h:uP 0 C w):Calls PL 37 #[.agg C.val] w λe w'=>∃b c,e=.returned (.tuple #[.slice b 0 c,.int .i64 0])/\Below w.heap.size w w':=
 (e37 (.inl rfl) w h).mono λe w'⟨v,a,⟨b,c,d⟩,_,f⟩=>⟨b,c,by rw[a,d];rfl,f⟩
def agn{C:CD}(w:World)(h:uP 1 C w):Calls PL 37 #[.agg C.val] w λe w'=>∃v,e=.returned (.tuple #[v,.int .i64 0])/\(Reads w' v 1 5 λj=>.int .i64 (IU.getD j 0))/\Below w.heap.size w w':=
 (e37 (.inr rfl) w h).mono λe w'⟨v,a,_,b,c⟩=>⟨v,a,b,c⟩
def iO(W:World)(t:TypeId)(m:Nat)(l:List Int)(n:Nat)(hl:l.length=n*m):Reads (W.alloc (.cells (l.map λz=>Value.int .i64 z).toArray t)) (.slice (some ⟨W.heap.size,0,none⟩) n n) n m λj=>.int .i64 (l.getD j 0):=by
 refine⟨_,_,rfl,λ_=>⟨_,_,rfl,by simp,λj b=>?_⟩⟩;have h:=au W (.cells (l.map λz=>Value.int .i64 z).toArray t);have a:j<l.length:=by omega
 simp only[ag,h];simp[ae,a]
attribute [local go_sem] Oper.semAt_some
def NC(P:World->Prop):Prop:=∀W a,P W->Below W.heap.size W a->P a
def iy(W:World):List (World->Prop)->Prop
 |[]=>True
 |P::l=>(P W/\NC P)/\iy W l
def iy.on{W a:World}:∀{l:List (World->Prop)},iy W l->Below W.heap.size W a->iy a l
 |[],_,_=>trivial
 |_::_,h,b=>⟨⟨h.1.2 _ _ h.1.1 b,h.1.2⟩,iy.on h.2 b⟩
def iy.add{W:World}{l:List (World->Prop)}(h:iy W l)(P:World->Prop)(a:P W)(b:NC P):iy W (P::l):=⟨⟨a,b⟩,h⟩
def mE(k:Nat)(x:Obj):NC λW=>W.heap[k]?=some x:=λ_ _ h a=>(a.block _ (ac h)).trans h
def gz(v:Value)(n m:Nat)(f:Nat->Value):NC λW=>Reads W v n m f:=λ_ _ h a=>Reads.on h a
def Lp(d:Int)(C:CD):NC (uP d C):=λ_ _ h a=>h.on a
def SU(w:World):NC λW=>Below w.heap.size w W:=λ_ _ h a=>Below.on h a
def IV(w:World):Calls PL 19 #[] w (aO (.bool true) w):=by
 go_enter (fx (by decide) Tryz.func19),Tryz.ntmps19
 go_upto_region 2 with(go_at_call 77;go_must (refine(EV _).mono ?_);rintro e w0⟨k2,L,k3,c3,M,q,N,r,O,P,Q,R,rfl,⟨r2,r3,r4,r5,ra,rb⟩,a⟩;have z:Hid (uP 0 (ir k2 L k3 c3 M q N r O P Q R 0) w0):=ai ⟨k2,L,k3,c3,M,q,N,r,O,P,Q,R,rfl,⟨r2,r3,r4,r5,ra,rb⟩⟩;have HB:=ai a;clear r2 r3 r4 r5 ra rb a;obtain⟨C,m⟩:∃C,C=ir k2 L k3 c3 M q N r O P Q R 0:=⟨_,rfl⟩;rw[<-m]at z ⊢;clear m)
 obtain⟨kb,S⟩:∃k,k=w0.heap.size:=⟨_,rfl⟩
 obtain⟨W2,i⟩:∃W:World,W=w0.alloc (.cells C.val 27):=⟨_,rfl⟩
 have s:Below w0.heap.size w0 W2:=by rw[i];exact(ao _ _).alloc (ab _) _
 have T:Hid (iy W2 [λW=>W.heap[kb]?=some (.cells C.val 27),uP 0 C,λW=>Below w.heap.size w W]):=ai ⟨⟨by rw[i,S];exact au _ _,mE _ _⟩,⟨z.out.on s,Lp _ _⟩,⟨Below.on HB.out s,SU _⟩,trivial⟩;rw[<-i,<-S];clear i S s z HB
 go_upto_region 3 with(go_at_call 20;go_must (refine(agd _).mono ?_);rintro e w'⟨rfl,rfl⟩)
 go_upto_region 4 with(go_at_call 20;go_must (refine(age _).mono ?_);rintro e w'⟨rfl,rfl⟩)
 obtain⟨b,c,d,f,f4,g⟩:=bf T.out.1.1
 go_upto_region 5 with(go_at_call 24;go_must (refine(agf _ (T.out.2.1.1)).mono ?_);rintro e n⟨rfl,a⟩;have A:=ai (T.out.on a);clear a b c d f f4 g)
 obtain⟨U,hb⟩:∃k,k=n.heap.size:=⟨_,rfl⟩
 obtain⟨W4,i⟩:∃W:World,W=n.alloc (.cells #[.int .i64 16,.int .i64 20] 35):=⟨_,rfl⟩
 have V:=ai ((A.out.on (show Below n.heap.size n W4 by rw[i];exact(ao _ _).alloc (ab _) _)).add (λW=>W.heap[U]?=some (.cells #[.int .i64 16,.int .i64 20] 35)) (by rw[i,hb];exact au _ _) (mE _ _));rw[<-i,<-hb];clear i hb A;obtain⟨b,c,d,f,f4,g⟩:=bf (V.out.2.1.1)
 go_upto_region 6 with(go_at_call 24;go_must (refine(agh _ (V.out.2.2.1.1)).mono ?_);rintro e o⟨rfl,a⟩;have B:=ai (V.out.on a);clear a b c d f f4 g)
 obtain⟨X,hb⟩:∃k,k=o.heap.size:=⟨_,rfl⟩
 obtain⟨W5,i⟩:∃W:World,W=o.alloc (.cells #[.int .i64 24,.int .i64 25] 35):=⟨_,rfl⟩
 have Y:=ai ((B.out.on (show Below o.heap.size o W5 by rw[i];exact(ao _ _).alloc (ab _) _)).add (λW=>W.heap[X]?=some (.cells #[.int .i64 24,.int .i64 25] 35)) (by rw[i,hb];exact au _ _) (mE _ _));rw[<-i,<-hb];clear i hb B;obtain⟨b,c,d,f,f4,g⟩:=bf (Y.out.2.2.1.1)
 go_upto_region 7 with(go_at_call 26;go_must (refine(agi _ (Y.out.2.2.2.1.1)).mono ?_);rintro e w6x⟨rfl,a⟩;have Z:=ai (Y.out.on a);clear a b c d f f4 g;obtain⟨b,c,d,f,f4,g⟩:=bf (Z.out.2.2.1.1))
 go_upto_region 8 with(go_at_call 26;go_must (refine(agj _ (Z.out.2.2.2.1.1)).mono ?_);rintro e w7x⟨rfl,a⟩;have K7:=ai (Z.out.on a);clear a b c d f f4 g;obtain⟨b,c,d,f,f4,g⟩:=bf (K7.out.2.2.1.1))
 go_upto_region 9 with(go_at_call 34;go_must (refine(e34 _ (K7.out.2.2.2.1.1)).mono ?_);rintro e w8x⟨v8,rfl,l,a⟩;have K8:=ai ((K7.out.on a).add (λW=>Reads W v8 3 5 λj=>.int .i64 (SJ.getD j 0)) l (gz _ _ _ _));clear l;clear a b c d f f4 g;obtain⟨b,c,d,f,f4,g⟩:=bf (K8.out.2.2.2.1.1))
 go_upto_region 10 with(go_at_call 59;go_must (refine(e59 _ (K8.out.2.2.2.2.1.1)).mono ?_);rintro e p⟨rfl,a⟩;have D:=ai (K8.out.on a);clear a b c d f f4 g)
 obtain⟨b9,hb⟩:∃k,k=p.heap.size:=⟨_,rfl⟩
 obtain⟨W9,i⟩:∃W:World,W=p.alloc (.cells #[.int .i64 18,.int .i64 23] 35):=⟨_,rfl⟩
 have K9:=ai ((D.out.on (show Below p.heap.size p W9 by rw[i];exact(ao _ _).alloc (ab _) _)).add (λW=>W.heap[b9]?=some (.cells #[.int .i64 18,.int .i64 23] 35)) (by rw[i,hb];exact au _ _) (mE _ _));rw[<-i,<-hb];clear i hb D;obtain⟨b,c,d,f,f4,g⟩:=bf (K9.out.2.2.2.2.1.1)
 go_upto_region 11 with(go_at_call 36;go_must (refine(e36 _ (K9.out.2.2.2.2.2.1.1)).mono ?_);rintro e aul⟨E,rfl,l,a⟩;have Ry:=ai ((K9.out.on a).add (λW=>bB W E [2,0,1]) l (gz _ _ _ _));clear l;clear a b c d f f4 g;obtain⟨b,c,d,f,f4,g⟩:=bf (Ry.out.2.2.2.2.2.1.1))
 go_upto_region 12 with(go_at_call 37;go_must (refine(agm _ (Ry.out.2.2.2.2.2.2.1.1)).mono ?_);rintro e aum⟨Fy,q11,rfl,a⟩;have Tr:=ai (Ry.out.on a);clear a b c d f f4 g;obtain⟨b,c,d,f,f4,g⟩:=bf (Tr.out.2.2.2.2.2.1.1))
 go_upto_region 13 with(go_at_call 39;go_must (refine(e39 _ ((Tr.out.2.2.2.2.2.2.1.1).on ((ao _ _).alloc (ab _) _)) (iO _ 3 1 [0,1] 2 rfl)).mono ?_);rintro e K⟨C1,rfl,hE,a⟩;have F:=ai ((Tr.out.on ((ao _ _).alloc (ab _) _)).on a);have z:=ai hE;clear hE;clear a b c d f f4 g)
 obtain⟨Vv,hb⟩:∃k,k=K.heap.size:=⟨_,rfl⟩
 obtain⟨W12,i⟩:∃W:World,W=K.alloc (.cells C1.val 27):=⟨_,rfl⟩
 have t:Below K.heap.size K W12:=by rw[i];exact(ao _ _).alloc (ab _) _
 have VC:=ai (((F.out.on t).add (λW=>W.heap[Vv]?=some (.cells C1.val 27)) (by rw[i,hb];exact au _ _) (mE _ _)).add (uP 1 C1) (z.out.on t) (Lp _ _));rw[<-i,<-hb];clear i hb t F z;obtain⟨b,c,d,f,f4,g⟩:=bf (VC.out.2.1.1)
 go_upto_region 14 with(go_at_call 37;go_must (refine(agn _ (VC.out.1.1)).mono ?_);rintro e aun⟨UW,rfl,l,a⟩;have u:=ai ((VC.out.on a).add (λW=>Reads W UW 1 5 λj=>.int .i64 (IU.getD j 0)) l (gz _ _ _ _));clear l;clear a b c d f f4 g;obtain⟨b,c,d,f,f4,g⟩:=bf (u.out.2.2.1.1))
 go_upto_region 15 with(go_at_call 52;go_must (refine(e52 _ (u.out.2.1.1)).mono ?_);rintro e auo⟨UX,rfl,l,a⟩;have Tq:=ai ((u.out.on a).add (λW=>bB W UX [0,0]) l (gz _ _ _ _));clear l;clear a b c d f f4 g;obtain⟨b,c,d,f,f4,g⟩:=bf (Tq.out.2.2.2.2.2.2.2.2.2.1.1))
 go_upto_region 16 with(go_at_call 28;go_must (refine(agk _ (Tq.out.2.2.2.2.2.2.2.2.2.2.1.1)).mono ?_);rintro e aup⟨H,rfl,l,a⟩;have v:=ai ((Tq.out.on a).add (λW=>bB W H [2,3,0]) l (gz _ _ _ _));clear l;clear a b c d f f4 g;obtain⟨b,c,d,f,f4,g⟩:=bf (v.out.2.2.2.2.2.2.2.2.2.2.1.1))
 go_upto_region 17 with(go_at_call 28;go_must (refine(agl _ (v.out.2.2.2.2.2.2.2.2.2.2.2.1.1)).mono ?_);rintro e auq⟨v16,rfl,l,a⟩;have x:=ai ((v.out.on a).add (λW=>bB W v16 []) l (gz _ _ _ _));clear l;clear a b c d f f4 g;obtain⟨b,c,d,f,f4,g⟩:=bf (x.out.2.2.2.2.2.2.2.2.2.2.2.1.1))
 go_upto_region 18 with(go_at_call 31;go_must (refine(e31 _ (x.out.2.2.2.2.2.2.2.2.2.2.2.2.1.1)).mono ?_);rintro e y⟨I,rfl,l,a⟩;have J:=ai ((x.out.on a).add (λW=>bB W I [0,2]) l (gz _ _ _ _));clear l;clear a b c d f f4 g;obtain⟨b,c,d,f,f4,g⟩:=bf (J.out.2.2.2.2.2.2.2.2.2.2.2.2.1.1))
 clear b c d f f4 g
 go_upto_region 20 with fail
 have KK:=J;have e4:=KK.out.2.2.2.2.2.2.2.2.2.2.2.1.1;have e5:=KK.out.2.2.2.2.2.2.2.2.2.2.1.1;have e9:=KK.out.2.2.2.2.2.2.2.2.1.1;obtain⟨wq,hwq⟩:∃W:World,W=y:=⟨_,rfl⟩
 have E4:=ai e4;have E5:=ai e5;have E9:=ai e9;clear e4 e5 e9 hwq;refine ig (λW=>Below y.heap.size y W) (λ_ _=>True) (λ_=>true) (λ_ _ _=>True) rfl (by kernel_rfl) (λ_ _ _ _ _ _=>trivial) (λ_ _ _ _ _ _ _ _ _=>trivial) (ao _ _).drew ?_
 iterate 49 (
  apply aY
  case hE=>rfl
  case h=>
   intro vs W m hd;have q:=(m.block _ (ac E4.out)).trans E4.out;have r:=(m.block _ (ac E5.out)).trans E5.out;have c9:=(m.block _ (ac E9.out)).trans E9.out;have x0:W.cell? ⟨U,0,none⟩=some (.int .i64 16):=by simp[ag,q]
   have x1:W.cell? ⟨U,1,none⟩=some (.int .i64 20):=by simp[ag,q]
   have x2:W.cell? ⟨X,0,none⟩=some (.int .i64 24):=by simp[ag,r]
   have x3:W.cell? ⟨X,1,none⟩=some (.int .i64 25):=by simp[ag,r]
   have x4:W.cell? ⟨b9,0,none⟩=some (.int .i64 18):=by simp[ag,c9]
   have x5:W.cell? ⟨b9,1,none⟩=some (.int .i64 23):=by simp[ag,c9]
   have q1:=yM;have q2:=Co;clear q r c9
   go_simp
   first
   |(go_at_call 38;refine(fU _ _ _).mono ?_;rintro e W'⟨rfl,a⟩;exact⟨_,rfl,rfl,Below.on m a⟩)
   |exact rfl
  case hb=>intro vs;simp only[Act.put,List.setIfInBounds_toArray,List.set_cons_zero,List.set_cons_succ];rfl)
 refine cP λvs W m hd=>?_;have KK:=ai (KK.out.on m);clear hd m
 go_wp2_with (first
  |(go_at_call 38;go_must (refine(fU _ _ _).mono ?_);rintro e w'⟨rfl,a⟩;have KK:=ai (iy.on KK.out a);clear a)
  |(go_at_call 58;go_must (refine(zT v8 _ 3 (λj=>SJ.getD j 0) _ ((iy.on KK.out ((ao _ _).alloc (ab _) _)).2.2.2.2.2.2.2.2.2.1.1) (iO _ 61 5 SJ 3 rfl) (by decide)).mono ?_);rintro e w'⟨rfl,a⟩;have KK:=ai (iy.on (iy.on KK.out ((ao _ _).alloc (ab _) _)) a);clear a)
  |(go_at_call 56;go_must (refine(Cp E _ 3 (λj=>[2,0,1].getD j 0) _ ((iy.on KK.out ((ao _ _).alloc (ab _) _)).2.2.2.2.2.2.2.1.1) (iO _ 38 1 [2,0,1] 3 rfl) (by decide)).mono ?_);rintro e w'⟨rfl,a⟩;have KK:=ai (iy.on (iy.on KK.out ((ao _ _).alloc (ab _) _)) a);clear a)
  |(go_at_call 65;go_must (refine(vS UW _ 1 (λj=>IU.getD j 0) _ ((iy.on KK.out ((ao _ _).alloc (ab _) _)).2.2.2.2.1.1) (iO _ 64 5 IU 1 rfl) (by decide)).mono ?_);rintro e w'⟨rfl,a⟩;have KK:=ai (iy.on (iy.on KK.out ((ao _ _).alloc (ab _) _)) a);clear a)
  |(go_at_call 30;have _:=m2;go_must (refine(pI I _ 2 (λj=>[0,2].getD j 0) _ ((iy.on KK.out ((ao _ _).alloc (ab _) _)).1.1) (iO _ 3 1 [0,2] 2 rfl) (by decide)).mono ?_);rintro e w'⟨rfl,a⟩;have KK:=ai (iy.on (iy.on KK.out ((ao _ _).alloc (ab _) _)) a);clear a)
  |(go_at_call 30;have _:=m1;go_must (refine(pI H _ 3 (λj=>[2,3,0].getD j 0) _ ((iy.on KK.out ((ao _ _).alloc (ab _) _)).2.2.1.1) (iO _ 3 1 [2,3,0] 3 rfl) (by decide)).mono ?_);rintro e w'⟨rfl,a⟩;have KK:=ai (iy.on (iy.on KK.out ((ao _ _).alloc (ab _) _)) a);clear a;have m2:=trivial)
  |(go_at_call 30;go_must (refine(pI UX _ 2 (λj=>[0,0].getD j 0) _ ((iy.on KK.out ((ao _ _).alloc (ab _) _)).2.2.2.1.1) (iO _ 3 1 [0,0] 2 rfl) (by decide)).mono ?_);rintro e w'⟨rfl,a⟩;have KK:=ai (iy.on (iy.on KK.out ((ao _ _).alloc (ab _) _)) a);clear a;have m1:=trivial))
 go_ret
 exact⟨rfl,KK.out.2.2.2.2.2.2.2.2.2.2.2.2.2.2.1.1⟩
end Go.Proofs
namespace Go.Proofs
open Go.RowKit
set_option maxRecDepth 100000
set_option maxHeartbeats 4000000
def CD.LR(C:CD):Bool:=C.small&&decide (C.cx=0)
def aaG(C:CD)(w:World)(h:C.Mem w):Calls PL 33 #[.agg C.val] w (aO (.bool C.LR) w):=by
 have f:Hid (∀W,Below w.heap.size w W->C.Mem W):=ai λW g=>h.below g;have b:=ai (show KB C w (w.alloc (.cells C.val 27)) from⟨au _ _,(ao _ _).alloc (ab _) _⟩);clear h;by_cases hs:C.small=true
 ·have r:Hid (∀W,Below w.heap.size w W->C.At W):=ai λW g=>CD.At.Ri (f.out W g) hs;have a:(!C.small)=false:=by rw[hs];rfl
  have i:Hid (∀W,C.Mem W->Calls PL 18 #[.agg C.val] W (aO (.bool false) W)):=ai λW j=>by have:=AK C W j;rwa[a]at this
  have k:=ai hs;clear hs a;by_cases hc:C.cx=0
  all_goals
   have s:=ai hc;clear hc
   go_enter (fx (by decide) Tryz.func33),Tryz.ntmps33
   obtain⟨l,m,n,o,f4,p⟩:=bf b.out.box
   go_wp2_with (first
    |(go_at_call 18;refine(i.out _ (f.out _ b.out.low)).mono ?_;rintro e w1⟨rfl,c⟩;have d:=ai (b.out.on c);clear c;clear l m n o f4 p;obtain⟨l,m,n,o,f4,p⟩:=bf d.out.box)
    |(go_at_call 23;refine(rK C _ (r.out _ d.out.low)).mono ?_;rintro e w2⟨rfl,q⟩;have t:=ai (d.out.on q);clear q))
   go_ret
   refine⟨?_,t.out.low⟩;have:=s.out;have:=k.out
   simp_all [CD.LR]
 ·have a:(!C.small)=true:=by simpa using hs
  have i:Hid (∀W,C.Mem W->Calls PL 18 #[.agg C.val] W (aO (.bool true) W)):=ai λW j=>by have:=AK C W j;rwa[a]at this
  have k:=ai hs;clear hs a
  go_enter (fx (by decide) Tryz.func33),Tryz.ntmps33
  go_wp2_with (first
   |(go_at_call 18;refine(i.out _ (f.out _ b.out.low)).mono ?_;rintro e w1⟨rfl,c⟩;have d:=ai (b.out.on c);clear c))
  go_ret
  refine⟨?_,d.out.low⟩;have:=k.out
  simp_all [CD.LR]
end Go.Proofs
