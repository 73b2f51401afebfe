/- Part of the proof of FieldTrue and FieldMeets. -/
import Derived.Test.YticmdlaalagfoaaGreatV17
set_option linter.all false
open Nat renaming lt_irrefl->aa,zero_add->ab,le_refl->ac,lt_of_lt_of_le->ad,zero_le->ae,lt_or_ge->ag
open Go.Proofs renaming getElem?_lt'->ai
open List renaming getElem?_map->ao,getElem?_eq_getElem->ap,getD_eq_getElem?_getD->aq,getElem?_take_of_lt->ar,getElem_mem->aw,getElem?_eq_none->aB,getElem?_range->aF
open Go.World renaming cell?->aI
open Go.Lib renaming hid->aJ
open Go.RowKit.Below renaming refl->aL
open Int renaming emod_nonneg->aP,emod_lt_of_pos->aS,natCast_mul->aT,le_refl->a5
open Go.IntWalk renaming i64_in->a6
open Go renaming wp_region_noPanic->a8,bodyPost_ret->ba
open Go.Proofs.Tryz renaming func6->bb,ntmps6->bc,results14->bd,func44->bg,ntmps44->bi
open Option renaming map_some->bj,getD_some->bm
namespace Go.Proofs
open Go.RowKit Go.Shelf
set_option maxRecDepth 100000
set_option maxHeartbeats 4000000
def uP(d:Int)(C:CD)(W:World):Prop:=∃k2 g k3 c3 a h b i c e lb f,C=ir k2 g k3 c3 a h b i c e lb f d/\CJ W k2 k3 a b c e lb f d
def uP.on{d:Int}{C:CD}{W a:World}(h:uP d C W)(b:Below W.heap.size W a):uP d C a:=by
 obtain⟨k2,c,k3,c3,f,g,i,j,k,l,lb,m,e,h⟩:=h;exact⟨k2,c,k3,c3,f,g,i,j,k,l,lb,m,e,h.on b⟩
def uP.at{d:Int}{C:CD}{W:World}(h:uP d C W):C.At W:=by
 obtain⟨k2,a,k3,c3,b,c,e,f,g,i,lb,j,rfl,h⟩:=h;exact h.at
def uP.is{d:Int}{C:CD}{W:World}(h:uP d C W):VB d C:=by
 obtain⟨k2,a,k3,c3,b,c,e,f,g,i,lb,j,rfl,_⟩:=h;exact⟨k2,a,k3,c3,b,c,e,f,g,i,lb,j,rfl⟩
def tG{d:Int}{C:CD}(hd:d=0\/d=1)(h:VB d C):C.b6 true=0:=by
 obtain⟨k2,a,k3,c3,b,c,e,f,g,i,lb,j,rfl⟩:=h
 rcases hd with rfl|rfl<;>kernel_rfl
def IQ{d:Int}{C:CD}(hd:d=0\/d=1)(h:VB d C):C.cx=0:=IC (tG hd h)
def agd(w:World):Calls PL 23 #[.int .i64 13,.int .i64 (-5)] w λe w'=>e=.returned (.tuple #[.int .i64 12,.int .i64 0])/\w=w':=(uD 13 (-5) w).mono λ_ _ k=>⟨k.1.trans (by kernel_rfl),k.2.symm⟩
def age(w:World):Calls PL 23 #[.int .i64 20,.int .i64 11] w λe w'=>e=.returned (.tuple #[.int .i64 16,.int .i64 0])/\w=w':=(uD 20 11 w).mono λ_ _ k=>⟨k.1.trans (by kernel_rfl),k.2.symm⟩
def agf{C:CD}(w:World)(h:uP 0 C w):Calls PL 24 #[.agg C.val,.int .i64 0] w (aO (.tuple #[.agg #[.int .i64 16,.int .i64 20],.int .i64 0]) w):=by
 have k:=nB C 0 w h.at;have e:C.kR 0=.tuple #[.agg #[.int .i64 16,.int .i64 20],.int .i64 0]:=by
  obtain⟨k2,a,k3,c3,b,c,d,f,g,i,lb,j,rfl⟩:=h.is
  kernel_rfl
 rwa[e]at k
def agh{C:CD}(w:World)(h:uP 0 C w):Calls PL 24 #[.agg C.val,.int .i64 2] w (aO (.tuple #[.agg #[.int .i64 24,.int .i64 25],.int .i64 0]) w):=by
 have k:=nB C 2 w h.at;have e:C.kR 2=.tuple #[.agg #[.int .i64 24,.int .i64 25],.int .i64 0]:=by
  obtain⟨k2,a,k3,c3,b,c,d,f,g,i,lb,j,rfl⟩:=h.is
  kernel_rfl
 rwa[e]at k
def agi{C:CD}(w:World)(h:uP 0 C w):Calls PL 25 #[.agg C.val,.int .i64 0] w (aO (.tuple #[.int .i64 0,.int .i64 0]) w):=by
 have k:=pH C 0 w h.at;have e:C.iq 0=.tuple #[.int .i64 0,.int .i64 0]:=by
  obtain⟨k2,a,k3,c3,b,c,d,f,g,i,lb,j,rfl⟩:=h.is
  kernel_rfl
 rwa[e]at k
def agj{C:CD}(w:World)(h:uP 0 C w):Calls PL 25 #[.agg C.val,.int .i64 2] w (aO (.tuple #[.int .i64 2,.int .i64 0]) w):=by
 have k:=pH C 2 w h.at;have e:C.iq 2=.tuple #[.int .i64 2,.int .i64 0]:=by
  obtain⟨k2,a,k3,c3,b,c,d,f,g,i,lb,j,rfl⟩:=h.is
  kernel_rfl
 rwa[e]at k
def SJ:List Int:=[0,0,0,4,6,1,6,9,10,14,2,13,17,18,22]
def abe:List Int:=[0,1,2,0,13]
def agY{W:World}{base e n:Nat}{v:Value}{xs:List Value}(h:W.ownsRow base e 5 v n xs)(l:List Int)(a:xs=l.map λz=>.int .i64 z):Reads W v n 5 λj=>.int .i64 (l.getD j 0):=by
 obtain⟨hl,h⟩:=h
 rcases h with⟨rfl,rfl⟩|⟨g,cap,b,rfl,hb,hg,hc,d,hs,c⟩
 ·exact⟨none,0,rfl,λh=>absurd h (aa _)⟩
 ·refine⟨_,_,rfl,λf=>⟨g,0,rfl,ai hg,λj i=>?_⟩⟩;have k:l.length=n*5:=by rw[<-hl,a,List.length_map]
  have e:xs[j]?=some (.int .i64 (l.getD j 0)):=by
   rw[a,ao,ap (by omega)];simp[aq,ap (show j<l.length by omega)]
  rw[<-c,ar (by omega)]at e;simp only[aI,hg,ab];simpa using e
def e34{C:CD}(w:World)(h:uP 0 C w):Calls PL 8 #[.agg C.val,.int .i64 0] w λe w'=>∃v,e=.returned (.tuple #[v,.int .i64 0])/\(Reads w' v 3 5 λj=>.int .i64 (SJ.getD j 0))/\Below w.heap.size w w':=by
 have k:=ID C 0 w h.at (by obtain⟨k2,a,k3,c3,b,c,d,f,g,i,lb,l,rfl⟩:=h.is;show 0<2;decide) (by obtain⟨k2,a,k3,c3,b,c,d,f,g,i,lb,l,rfl⟩:=h.is;show 2<=3;decide) (tG (.inl rfl) h.is) (Sa C (IQ (.inl rfl) h.is) (by obtain⟨k2,a,k3,c3,b,c,d,f,g,i,lb,l,rfl⟩:=h.is;show 0<2;decide));refine k.mono ?_;rintro e w'⟨v,rfl,m,n⟩;have e:mD C 0 C.n4=[(0,0,0,4,6),(1,6,9,10,14),(2,13,17,18,22)]:=by
  obtain⟨k2,a,k3,c3,b,c,d,f,g,i,lb,l,rfl⟩:=h.is
  kernel_rfl
 unfold AY at m;rw[e]at m;exact⟨v,rfl,agY m SJ rfl,n⟩
def e59{C:CD}(w:World)(h:uP 0 C w):Calls PL 17 #[.agg C.val,.int .i64 1] w (aO (.tuple #[.agg #[.int .i64 18,.int .i64 23],.int .i64 0]) w):=by
 have k:=Sj C 1 w h.at (by obtain⟨k2,a,k3,c3,b,c,d,f,g,i,lb,j,rfl⟩:=h.is;show 1<2;decide) (by obtain⟨k2,a,k3,c3,b,c,d,f,g,i,lb,j,rfl⟩:=h.is;show 2<=3;decide) (tG (.inl rfl) h.is) (Sa C (IQ (.inl rfl) h.is) (by obtain⟨k2,a,k3,c3,b,c,d,f,g,i,lb,j,rfl⟩:=h.is;show 1<2;decide));have e:nU C 1=(18,23):=by
  obtain⟨k2,a,k3,c3,b,c,d,f,g,i,lb,j,rfl⟩:=h.is
  kernel_rfl
 rwa[e]at k
def e36{C:CD}(w:World)(h:uP 0 C w):Calls PL 10 #[.agg C.val,.int .i64 8] w λe w'=>∃v,e=.returned (.tuple #[v,.int .i64 0])/\bB w' v [2,0,1]/\Below w.heap.size w w':=by
 have k:=RO C 8 je Sy w h.at (tG (.inl rfl) h.is) (by obtain⟨k2,a,k3,c3,b,c,d,f,g,i,lb,j,rfl⟩:=h.is;show 3<=5;decide) (by obtain⟨k2,a,k3,c3,b,c,d,f,g,i,lb,j,rfl⟩:=h.is;show 2<=3;decide) rfl λW l=>tA (.inl rfl) h.is l;have e:tB je 8 C.n5 C.n4=[2,0,1]:=by
  obtain⟨k2,a,k3,c3,b,c,d,f,g,i,lb,j,rfl⟩:=h.is
  kernel_rfl
 rwa[e]at k
def e37{C:CD}{d:Int}(hd:d=0\/d=1)(w:World)(h:uP d C w):Calls PL 11 #[.agg C.val] w λe w'=>∃v,e=.returned (.tuple #[v,.int .i64 0])/\(∃b c,v=.slice b (Cv d 3).length c)/\(Reads w' v (Cv d 3).length 5 λj=>.int .i64 (abe.getD j 0))/\Below w.heap.size w w':=by
 have l:C.n4=3/\C.n5=2:=by obtain⟨k2,o,k3,c3,p,q,r,s,t,u,lb,x,rfl⟩:=h.is;exact⟨rfl,rfl⟩
 have k:=Fp C (λW v=>(∃b c,v=.slice b (Cv d 3).length c)/\Reads W v (Cv d 3).length 5 λj=>.int .i64 (abe.getD j 0)) w h.at (tG hd h.is) λW m=>(vC C d hd l.1 l.2 W m λy f=>tA hd h.is f).mono λe w'⟨v,g,a,i⟩=>⟨v,g,⟨vB a,?_⟩,i⟩
 ·exact k.mono λe w'⟨v,g,a,i⟩=>⟨v,g,a.1,a.2,i⟩
 ·rcases hd with rfl|rfl
  ·have n:Cv 0 3=[]:=rfl;unfold kV at a;rw[n]at a⊢;obtain⟨b,c,rfl⟩:=vB a;exact⟨b,c,rfl,λh=>absurd h (aa _)⟩
  ·exact agY a abe rfl
def e39{C:CD}{v:Value}(w:World)(h:uP 0 C w)(hv:bB w v [0,1]):Calls PL 26 #[.agg C.val,v] w λe w'=>∃a,e=.returned (.tuple #[.agg a.val,.int .i64 0])/\uP 1 a w'/\Below w.heap.size w w':=by
 obtain⟨k2,l,k3,c3,m,n,o,p,q,r,lb,s,rfl,b⟩:=h;exact(Iw w b hv).mono λe w'⟨q2,d2,q3,d3,q4,d4,q5,d5,c,d,f,g,i,j,k⟩=>⟨_,i,⟨q2,d2,q3,d3,q4,d4,q5,d5,c,d,f,g,rfl,j⟩,k⟩
def e52{C:CD}(w:World)(h:uP 1 C w):Calls PL 27 #[.agg C.val] w λe w'=>∃v,e=.returned (.tuple #[v,.bool true,.int .i64 0])/\bB w' v [0,0]/\Below w.heap.size w w':=by
 obtain⟨k2,b,k3,c3,c,d,f,g,i,j,lb,k,rfl,a⟩:=h;exact II w a
def agk{C:CD}(w:World)(h:uP 0 C w):Calls PL 28 #[.agg C.val,.int .i64 2,.int .i64 5] w λe w'=>∃v,e=.returned (.tuple #[v,.int .i64 110,.bool true,.int .i64 0])/\bB w' v [2,3,0]/\Below w.heap.size w w':=by
 have a:=h.at;obtain⟨k2,b,k3,c3,c,d,f,g,i,j,lb,k,e,_⟩:=h;exact Ba C 5 (.inl rfl) e w a
def agl{C:CD}(w:World)(h:uP 0 C w):Calls PL 28 #[.agg C.val,.int .i64 2,.int .i64 3] w λe w'=>∃v,e=.returned (.tuple #[v,.int .i64 0,.bool false,.int .i64 0])/\bB w' v []/\Below w.heap.size w w':=by
 have a:=h.at;obtain⟨k2,b,k3,c3,c,d,f,g,i,j,lb,k,e,_⟩:=h;exact Ba C 3 (.inr rfl) e w a
def e31{C:CD}(w:World)(h:uP 0 C w):Calls PL 29 #[.agg C.val] w λe w'=>∃v,e=.returned (.tuple #[v,.int .i64 0])/\bB w' v [0,2]/\Below w.heap.size w w':=by
 have k:=Cr C w h.at (IQ (.inl rfl) h.is);have e:(qC C C.p.toNat (2 ^ C.p.toNat)).getD []=[0,2]:=by
  obtain⟨k2,a,k3,c3,b,c,d,f,g,i,lb,j,rfl⟩:=h.is
  kernel_rfl
 rwa[e]at k
def agm{C:CD}(w:World)(h:uP 0 C w):Calls PL 11 #[.agg C.val] w λe w'=>∃b c,e=.returned (.tuple #[.slice b 0 c,.int .i64 0])/\Below w.heap.size w w':=
 (e37 (.inl rfl) w h).mono λe w'⟨v,a,⟨b,c,d⟩,_,f⟩=>⟨b,c,by rw[a,d];rfl,f⟩
def agn{C:CD}(w:World)(h:uP 1 C w):Calls PL 11 #[.agg C.val] w λe w'=>∃v,e=.returned (.tuple #[v,.int .i64 0])/\(Reads w' v 1 5 λj=>.int .i64 (abe.getD j 0))/\Below w.heap.size w w':=
 (e37 (.inr rfl) w h).mono λe w'⟨v,a,_,b,c⟩=>⟨v,a,b,c⟩
def iO(W:World)(t:TypeId)(m:Nat)(l:List Int)(n:Nat)(hl:l.length=n*m):Reads (W.alloc (.cells (l.map λz=>Value.int .i64 z).toArray t)) (.slice (some ⟨W.heap.size,0,none⟩) n n) n m λj=>.int .i64 (l.getD j 0):=by
 refine⟨_,_,rfl,λ_=>⟨_,_,rfl,by simp,λj b=>?_⟩⟩;have h:=au W (.cells (l.map λz=>Value.int .i64 z).toArray t);have a:j<l.length:=by omega
 simp only[aI,h];simp[aq,a]
attribute [local go_sem] Oper.semAt_some
def NC(P:World->Prop):Prop:=∀W a,P W->Below W.heap.size W a->P a
def iy(W:World):List (World->Prop)->Prop
 |[]=>True
 |P::l=>(P W/\NC P)/\iy W l
def iy.on{W a:World}:∀{l:List (World->Prop)},iy W l->Below W.heap.size W a->iy a l
 |[],_,_=>trivial
 |_::_,h,b=>⟨⟨h.1.2 _ _ h.1.1 b,h.1.2⟩,iy.on h.2 b⟩
def iy.add{W:World}{l:List (World->Prop)}(h:iy W l)(P:World->Prop)(a:P W)(b:NC P):iy W (P::l):=⟨⟨a,b⟩,h⟩
def mE(k:Nat)(x:Obj):NC λW=>W.heap[k]?=some x:=λ_ _ h a=>(a.block _ (ai h)).trans h
def gz(v:Value)(n m:Nat)(f:Nat->Value):NC λW=>Reads W v n m f:=λ_ _ h a=>Reads.on h a
def Lp(d:Int)(C:CD):NC (uP d C):=λ_ _ h a=>h.on a
def SU(w:World):NC λW=>Below w.heap.size w W:=λ_ _ h a=>Below.on h a
def IV(w:World):Calls PL 7 #[] w (aO (.bool true) w):=by
 go_enter (fx (by decide) Tryz.func7),Tryz.ntmps7
 go_upto_region 2 with(go_at_call 22;go_must (refine(EV _).mono ?_);rintro e w0⟨k2,L,k3,c3,M,q,N,r,O,P,lb,Q,rfl,⟨r2,r3,r4,r5,ra,rb⟩,a⟩;have z:Hid (uP 0 (ir k2 L k3 c3 M q N r O P lb Q 0) w0):=aJ ⟨k2,L,k3,c3,M,q,N,r,O,P,lb,Q,rfl,⟨r2,r3,r4,r5,ra,rb⟩⟩;have HB:=aJ a;clear r2 r3 r4 r5 ra rb a;obtain⟨C,m⟩:∃C,C=ir k2 L k3 c3 M q N r O P lb Q 0:=⟨_,rfl⟩;rw[<-m]at z ⊢;clear m)
 obtain⟨kb,R⟩:∃k,k=w0.heap.size:=⟨_,rfl⟩
 obtain⟨W2,i⟩:∃W:World,W=w0.alloc (.cells C.val 27):=⟨_,rfl⟩
 have s:Below w0.heap.size w0 W2:=by rw[i];exact(aL _ _).alloc (ac _) _
 have S:Hid (iy W2 [λW=>W.heap[kb]?=some (.cells C.val 27),uP 0 C,λW=>Below w.heap.size w W]):=aJ ⟨⟨by rw[i,R];exact au _ _,mE _ _⟩,⟨z.out.on s,Lp _ _⟩,⟨Below.on HB.out s,SU _⟩,trivial⟩;rw[<-i,<-R];clear i R s z HB
 go_upto_region 3 with(go_at_call 23;go_must (refine(agd _).mono ?_);rintro e w'⟨rfl,rfl⟩)
 go_upto_region 4 with(go_at_call 23;go_must (refine(age _).mono ?_);rintro e w'⟨rfl,rfl⟩)
 obtain⟨b,c,d,f,f4,g⟩:=bf S.out.1.1
 go_upto_region 5 with(go_at_call 24;go_must (refine(agf _ (S.out.2.1.1)).mono ?_);rintro e n⟨rfl,a⟩;have A:=aJ (S.out.on a);clear a b c d f f4 g)
 obtain⟨T,hb⟩:∃k,k=n.heap.size:=⟨_,rfl⟩
 obtain⟨W4,i⟩:∃W:World,W=n.alloc (.cells #[.int .i64 16,.int .i64 20] 43):=⟨_,rfl⟩
 have U:=aJ ((A.out.on (show Below n.heap.size n W4 by rw[i];exact(aL _ _).alloc (ac _) _)).add (λW=>W.heap[T]?=some (.cells #[.int .i64 16,.int .i64 20] 43)) (by rw[i,hb];exact au _ _) (mE _ _));rw[<-i,<-hb];clear i hb A;obtain⟨b,c,d,f,f4,g⟩:=bf (U.out.2.1.1)
 go_upto_region 6 with(go_at_call 24;go_must (refine(agh _ (U.out.2.2.1.1)).mono ?_);rintro e o⟨rfl,a⟩;have B:=aJ (U.out.on a);clear a b c d f f4 g)
 obtain⟨V,hb⟩:∃k,k=o.heap.size:=⟨_,rfl⟩
 obtain⟨W5,i⟩:∃W:World,W=o.alloc (.cells #[.int .i64 24,.int .i64 25] 43):=⟨_,rfl⟩
 have X:=aJ ((B.out.on (show Below o.heap.size o W5 by rw[i];exact(aL _ _).alloc (ac _) _)).add (λW=>W.heap[V]?=some (.cells #[.int .i64 24,.int .i64 25] 43)) (by rw[i,hb];exact au _ _) (mE _ _));rw[<-i,<-hb];clear i hb B;obtain⟨b,c,d,f,f4,g⟩:=bf (X.out.2.2.1.1)
 go_upto_region 7 with(go_at_call 25;go_must (refine(agi _ (X.out.2.2.2.1.1)).mono ?_);rintro e w6x⟨rfl,a⟩;have Y:=aJ (X.out.on a);clear a b c d f f4 g;obtain⟨b,c,d,f,f4,g⟩:=bf (Y.out.2.2.1.1))
 go_upto_region 8 with(go_at_call 25;go_must (refine(agj _ (Y.out.2.2.2.1.1)).mono ?_);rintro e w7x⟨rfl,a⟩;have Z:=aJ (Y.out.on a);clear a b c d f f4 g;obtain⟨b,c,d,f,f4,g⟩:=bf (Z.out.2.2.1.1))
 go_upto_region 9 with(go_at_call 8;go_must (refine(e34 _ (Z.out.2.2.2.1.1)).mono ?_);rintro e w8x⟨v8,rfl,l,a⟩;have K8:=aJ ((Z.out.on a).add (λW=>Reads W v8 3 5 λj=>.int .i64 (SJ.getD j 0)) l (gz _ _ _ _));clear l;clear a b c d f f4 g;obtain⟨b,c,d,f,f4,g⟩:=bf (K8.out.2.2.2.1.1))
 go_upto_region 10 with(go_at_call 17;go_must (refine(e59 _ (K8.out.2.2.2.2.1.1)).mono ?_);rintro e p⟨rfl,a⟩;have D:=aJ (K8.out.on a);clear a b c d f f4 g)
 obtain⟨b9,hb⟩:∃k,k=p.heap.size:=⟨_,rfl⟩
 obtain⟨W9,i⟩:∃W:World,W=p.alloc (.cells #[.int .i64 18,.int .i64 23] 43):=⟨_,rfl⟩
 have K9:=aJ ((D.out.on (show Below p.heap.size p W9 by rw[i];exact(aL _ _).alloc (ac _) _)).add (λW=>W.heap[b9]?=some (.cells #[.int .i64 18,.int .i64 23] 43)) (by rw[i,hb];exact au _ _) (mE _ _));rw[<-i,<-hb];clear i hb D;obtain⟨b,c,d,f,f4,g⟩:=bf (K9.out.2.2.2.2.1.1)
 go_upto_region 11 with(go_at_call 10;go_must (refine(e36 _ (K9.out.2.2.2.2.2.1.1)).mono ?_);rintro e aul⟨E,rfl,l,a⟩;have Ry:=aJ ((K9.out.on a).add (λW=>bB W E [2,0,1]) l (gz _ _ _ _));clear l;clear a b c d f f4 g;obtain⟨b,c,d,f,f4,g⟩:=bf (Ry.out.2.2.2.2.2.1.1))
 go_upto_region 12 with(go_at_call 11;go_must (refine(agm _ (Ry.out.2.2.2.2.2.2.1.1)).mono ?_);rintro e aum⟨Fy,q11,rfl,a⟩;have Tr:=aJ (Ry.out.on a);clear a b c d f f4 g;obtain⟨b,c,d,f,f4,g⟩:=bf (Tr.out.2.2.2.2.2.1.1))
 go_upto_region 13 with(go_at_call 26;go_must (refine(e39 _ ((Tr.out.2.2.2.2.2.2.1.1).on ((aL _ _).alloc (ac _) _)) (iO _ 3 1 [0,1] 2 rfl)).mono ?_);rintro e K⟨C1,rfl,hE,a⟩;have F:=aJ ((Tr.out.on ((aL _ _).alloc (ac _) _)).on a);have z:=aJ hE;clear hE;clear a b c d f f4 g)
 obtain⟨Vv,hb⟩:∃k,k=K.heap.size:=⟨_,rfl⟩
 obtain⟨W12,i⟩:∃W:World,W=K.alloc (.cells C1.val 27):=⟨_,rfl⟩
 have t:Below K.heap.size K W12:=by rw[i];exact(aL _ _).alloc (ac _) _
 have VC:=aJ (((F.out.on t).add (λW=>W.heap[Vv]?=some (.cells C1.val 27)) (by rw[i,hb];exact au _ _) (mE _ _)).add (uP 1 C1) (z.out.on t) (Lp _ _));rw[<-i,<-hb];clear i hb t F z;obtain⟨b,c,d,f,f4,g⟩:=bf (VC.out.2.1.1)
 go_upto_region 14 with(go_at_call 11;go_must (refine(agn _ (VC.out.1.1)).mono ?_);rintro e aun⟨UW,rfl,l,a⟩;have u:=aJ ((VC.out.on a).add (λW=>Reads W UW 1 5 λj=>.int .i64 (abe.getD j 0)) l (gz _ _ _ _));clear l;clear a b c d f f4 g;obtain⟨b,c,d,f,f4,g⟩:=bf (u.out.2.2.1.1))
 go_upto_region 15 with(go_at_call 27;go_must (refine(e52 _ (u.out.2.1.1)).mono ?_);rintro e auo⟨UX,rfl,l,a⟩;have Tq:=aJ ((u.out.on a).add (λW=>bB W UX [0,0]) l (gz _ _ _ _));clear l;clear a b c d f f4 g;obtain⟨b,c,d,f,f4,g⟩:=bf (Tq.out.2.2.2.2.2.2.2.2.2.1.1))
 go_upto_region 16 with(go_at_call 28;go_must (refine(agk _ (Tq.out.2.2.2.2.2.2.2.2.2.2.1.1)).mono ?_);rintro e aup⟨H,rfl,l,a⟩;have v:=aJ ((Tq.out.on a).add (λW=>bB W H [2,3,0]) l (gz _ _ _ _));clear l;clear a b c d f f4 g;obtain⟨b,c,d,f,f4,g⟩:=bf (v.out.2.2.2.2.2.2.2.2.2.2.1.1))
 go_upto_region 17 with(go_at_call 28;go_must (refine(agl _ (v.out.2.2.2.2.2.2.2.2.2.2.2.1.1)).mono ?_);rintro e auq⟨v16,rfl,l,a⟩;have x:=aJ ((v.out.on a).add (λW=>bB W v16 []) l (gz _ _ _ _));clear l;clear a b c d f f4 g;obtain⟨b,c,d,f,f4,g⟩:=bf (x.out.2.2.2.2.2.2.2.2.2.2.2.1.1))
 go_upto_region 18 with(go_at_call 29;go_must (refine(e31 _ (x.out.2.2.2.2.2.2.2.2.2.2.2.2.1.1)).mono ?_);rintro e y⟨I,rfl,l,a⟩;have J:=aJ ((x.out.on a).add (λW=>bB W I [0,2]) l (gz _ _ _ _));clear l;clear a b c d f f4 g;obtain⟨b,c,d,f,f4,g⟩:=bf (J.out.2.2.2.2.2.2.2.2.2.2.2.2.1.1))
 clear b c d f f4 g
 go_upto_region 20 with fail
 have KK:=J;have e4:=KK.out.2.2.2.2.2.2.2.2.2.2.2.1.1;have e5:=KK.out.2.2.2.2.2.2.2.2.2.2.1.1;have e9:=KK.out.2.2.2.2.2.2.2.2.1.1;obtain⟨wq,hwq⟩:∃W:World,W=y:=⟨_,rfl⟩
 have E4:=aJ e4;have E5:=aJ e5;have E9:=aJ e9;clear e4 e5 e9 hwq;refine ig (λW=>Below y.heap.size y W) (λ_ _=>True) (λ_=>true) (λ_ _ _=>True) rfl (by kernel_rfl) (λ_ _ _ _ _ _=>trivial) (λ_ _ _ _ _ _ _ _ _=>trivial) (aL _ _).drew ?_
 iterate 49 (
  apply aY
  case hE=>rfl
  case h=>
   intro vs W m hd;have q:=(m.block _ (ai E4.out)).trans E4.out;have r:=(m.block _ (ai E5.out)).trans E5.out;have c9:=(m.block _ (ai E9.out)).trans E9.out;have x0:W.cell? ⟨T,0,none⟩=some (.int .i64 16):=by simp[aI,q]
   have x1:W.cell? ⟨T,1,none⟩=some (.int .i64 20):=by simp[aI,q]
   have x2:W.cell? ⟨V,0,none⟩=some (.int .i64 24):=by simp[aI,r]
   have x3:W.cell? ⟨V,1,none⟩=some (.int .i64 25):=by simp[aI,r]
   have x4:W.cell? ⟨b9,0,none⟩=some (.int .i64 18):=by simp[aI,c9]
   have x5:W.cell? ⟨b9,1,none⟩=some (.int .i64 23):=by simp[aI,c9]
   have q1:=yM;have q2:=Co;clear q r c9
   go_simp
   first
   |(go_at_call 12;refine(fU _ _ _).mono ?_;rintro e W'⟨rfl,a⟩;exact⟨_,rfl,rfl,Below.on m a⟩)
   |exact rfl
  case hb=>exact P0)
 refine cP λvs W m hd=>?_;have KK:=aJ (KK.out.on m);clear hd m
 go_wp2_with (first
  |(go_at_call 12;go_must (refine(fU _ _ _).mono ?_);rintro e w'⟨rfl,a⟩;have KK:=aJ (iy.on KK.out a);clear a)
  |(go_at_call 30;go_must (refine(zT v8 _ 3 (λj=>SJ.getD j 0) _ ((iy.on KK.out ((aL _ _).alloc (ac _) _)).2.2.2.2.2.2.2.2.2.1.1) (iO _ 45 5 SJ 3 rfl) (by decide)).mono ?_);rintro e w'⟨rfl,a⟩;have KK:=aJ (iy.on (iy.on KK.out ((aL _ _).alloc (ac _) _)) a);clear a)
  |(go_at_call 31;go_must (refine(Cp E _ 3 (λj=>[2,0,1].getD j 0) _ ((iy.on KK.out ((aL _ _).alloc (ac _) _)).2.2.2.2.2.2.2.1.1) (iO _ 47 1 [2,0,1] 3 rfl) (by decide)).mono ?_);rintro e w'⟨rfl,a⟩;have KK:=aJ (iy.on (iy.on KK.out ((aL _ _).alloc (ac _) _)) a);clear a)
  |(go_at_call 32;go_must (refine(vS UW _ 1 (λj=>abe.getD j 0) _ ((iy.on KK.out ((aL _ _).alloc (ac _) _)).2.2.2.2.1.1) (iO _ 49 5 abe 1 rfl) (by decide)).mono ?_);rintro e w'⟨rfl,a⟩;have KK:=aJ (iy.on (iy.on KK.out ((aL _ _).alloc (ac _) _)) a);clear a))
 refine(pI UX _ 2 (λj=>[0,0].getD j 0) _ ((iy.on KK.out ((aL _ _).alloc (ac _) _)).2.2.2.1.1) (iO _ 3 1 [0,0] 2 rfl) (by decide)).mono ?_;rintro e w1x⟨rfl,a⟩;have KK:=aJ (iy.on (iy.on KK.out ((aL _ _).alloc (ac _) _)) a);clear a;go_wp2
 refine(pI H _ 3 (λj=>[2,3,0].getD j 0) _ ((iy.on KK.out ((aL _ _).alloc (ac _) _)).2.2.1.1) (iO _ 3 1 [2,3,0] 3 rfl) (by decide)).mono ?_;rintro e w2x⟨rfl,a⟩;have KK:=aJ (iy.on (iy.on KK.out ((aL _ _).alloc (ac _) _)) a);clear a;go_wp2
 refine(pI I _ 2 (λj=>[0,2].getD j 0) _ ((iy.on KK.out ((aL _ _).alloc (ac _) _)).1.1) (iO _ 3 1 [0,2] 2 rfl) (by decide)).mono ?_;rintro e w3x⟨rfl,a⟩;have KK:=aJ (iy.on (iy.on KK.out ((aL _ _).alloc (ac _) _)) a);clear a;go_wp2
 go_ret
 exact⟨rfl,KK.out.2.2.2.2.2.2.2.2.2.2.2.2.2.2.1.1⟩
end Go.Proofs
namespace Go.Proofs
open Go.RowKit
set_option maxRecDepth 100000
set_option maxHeartbeats 4000000
def adn(a b n:Int)(w:World):Calls PL 19 #[.agg #[.int .i64 a,.int .i64 b],.int .i64 n] w (aO (.bool (decide (a<=n)&&decide (n<=b))) w):=by
 go_enter (fx (by decide) Tryz.func19),Tryz.ntmps19
 by_cases c:a<=n<;>by_cases d:n<=b<;>go_wp2<;>go_ret
 all_goals refine⟨?_,(aL _ _).alloc (ac _) _⟩
 all_goals simp[c,d]
def KD(s:Int)(b:Bool):Bool:=!(decide (s=1) && !b) && !(decide (s=2)&&b)
def abf(s:Int)(b:Bool)(w:World):Calls PL 16 #[.int .i64 s,.bool b] w (aO (.bool (KD s b)) w):=by
 go_enter (fx (by decide) Tryz.func16),Tryz.ntmps16
 by_cases a:s=1<;>by_cases c:s=2<;>cases b<;>go_wp2<;>go_ret
 all_goals refine⟨?_,aL _ _⟩
 all_goals simp[KD,a,c]
structure l_(o:Obj)(w W:World):Prop where
 box:W.heap[w.heap.size]?=some o
 low:Below w.heap.size w W
def acu(a b n:Int)(w:World)(o : -1000000<=a)(hb:b<=1000000)(g:a<=b)(i:0<=n)(p:n<=1000000):Calls PL 43 #[.agg #[.int .i64 a,.int .i64 b],.int .i64 n] w (aO (.int .i64 (a+n % (b-a+1))) w):=by
 go_enter (fx (by decide) Tryz.func43),Tryz.ntmps43
 go_wp2
 have d:l_ (.cells #[.int .i64 a,.int .i64 b] 43) w (w.alloc (.cells #[.int .i64 a,.int .i64 b] 43)):=⟨au _ _,(aL _ _).alloc (ac _) _⟩
 have e:b-a+1≠0:=by omega
 have j:n.tmod (b-a+1)=n % (b-a+1):=by rw[Int.tmod_eq_emod_of_nonneg i]
 have k:=aP n e;have l:=aS n (show 0<b-a+1 by omega);have e1:IntKind.i64.wrap (b-a)=b-a:=a6 _ (by omega);have f:IntKind.i64.wrap (b-a+1)=b-a+1:=a6 _ (by omega);have m:IntKind.i64.wrap (a+n % (b-a+1))=a+n % (b-a+1):=a6 _ (by omega);generalize r:n % (b-a+1)=q at *;refine a8 ?_;refine ig (l_ (.cells #[.int .i64 a,.int .i64 b] 43) w) (λ_ _=>True) (λ_=>true) (λ_ _ _=>True) rfl (by kernel_rfl) (λ_ _ _ _ _ h=>h) (λ_ _ _ _ _ _ _ _ h=>h) ?_ ?_
 ·exact⟨d.box,d.low.drew⟩
 ·iterate 12 (
   apply aY
   case hE=>rfl
   case h=>
    intro vs W c hd;have s:W.cell? ⟨w.heap.size,0,none⟩=some (.int .i64 a):=by rw[aI,c.box];rfl
    have t:W.cell? ⟨w.heap.size,1,none⟩=some (.int .i64 b):=by rw[aI,c.box];rfl
    go_simp
    first
     |exact rfl
     |exact⟨rfl,c,trivial⟩
     |(rw[e1,f,if_neg e,j];exact⟨rfl,c,trivial⟩)
     |(rw[e1,f];exact⟨rfl,c,trivial⟩)
     |(rw[e1];exact⟨rfl,c,trivial⟩)
     |(rw[m];exact⟨rfl,c,trivial⟩)
     |trace_state
   case hb=>exact P0)
  refine cP λvs W c hd=>?_;refine NoPanic.normal ?_
  go_wp2
  go_ret
  exact⟨rfl,c.low⟩
def CD.LR(C:CD):Bool:=C.small&&decide (C.cx=0)
def abv(C:CD)(w:World)(h:C.Mem w):Calls PL 6 #[.agg C.val] w (aO (.bool C.LR) w):=by
 have f:Hid (∀W,Below w.heap.size w W->C.Mem W):=aJ λW g=>h.below g;have b:=aJ (show KB C w (w.alloc (.cells C.val 27)) from⟨au _ _,(aL _ _).alloc (ac _) _⟩);clear h;by_cases hs:C.small=true
 ·have r:Hid (∀W,Below w.heap.size w W->C.At W):=aJ λW g=>CD.At.Ri (f.out W g) hs;have a:(!C.small)=false:=by rw[hs];rfl
  have i:Hid (∀W,C.Mem W->Calls PL 20 #[.agg C.val] W (aO (.bool false) W)):=aJ λW j=>by have:=AK C W j;rwa[a]at this
  have k:=aJ hs;clear hs a;by_cases hc:C.cx=0
  all_goals
   have s:=aJ hc;clear hc
   go_enter (fx (by decide) bb),bc
   obtain⟨l,m,n,o,f4,p⟩:=bf b.out.box
   go_wp2_with (first
    |(go_at_call 20;refine(i.out _ (f.out _ b.out.low)).mono ?_;rintro e w1⟨rfl,c⟩;have d:=aJ (b.out.on c);clear c;clear l m n o f4 p;obtain⟨l,m,n,o,f4,p⟩:=bf d.out.box)
    |(go_at_call 21;refine(rK C _ (r.out _ d.out.low)).mono ?_;rintro e w2⟨rfl,q⟩;have t:=aJ (d.out.on q);clear q))
   go_ret
   refine⟨?_,t.out.low⟩;have:=s.out;have:=k.out
   simp_all [CD.LR]
 ·have a:(!C.small)=true:=by simpa using hs
  have i:Hid (∀W,C.Mem W->Calls PL 20 #[.agg C.val] W (aO (.bool true) W)):=aJ λW j=>by have:=AK C W j;rwa[a]at this
  have k:=aJ hs;clear hs a
  go_enter (fx (by decide) bb),bc
  go_wp2_with (first
   |(go_at_call 20;refine(i.out _ (f.out _ b.out.low)).mono ?_;rintro e w1⟨rfl,c⟩;have d:=aJ (b.out.on c);clear c))
  go_ret
  refine⟨?_,d.out.low⟩;have:=k.out
  simp_all [CD.LR]
open Go.Shelf
attribute [local go_sem] Oper.semAt_some
def j9(W:World)(v:Value)(l:List nR):Prop:=∃b c,v=.slice b l.length c/\(0<l.length->∃k o,b=some ⟨k,o,none⟩/\k<W.heap.size/\∀i(hi:i<l.length),
 W.cell? ⟨k,o+i*5,none⟩=some (.int .i64 (l[i].1:Nat))/\W.cell? ⟨k,o+i*5+1,none⟩=some (.int .i64 l[i].2.1)/\W.cell? ⟨k,o+i*5+2,none⟩=some (.int .i64 l[i].2.2.1)/\W.cell? ⟨k,o+i*5+3,none⟩=some (.int .i64 l[i].2.2.2.1)/\W.cell? ⟨k,o+i*5+4,none⟩=some (.int .i64 l[i].2.2.2.2))
def j9.on{W a:World}{v:Value}{l:List nR}(h:j9 W v l)(d:Below W.heap.size W a):j9 a v l:=by
 obtain⟨b,c,e,h⟩:=h;refine⟨b,c,e,λg=>?_⟩;obtain⟨k,o,e1,f,hc⟩:=h g;have e:∀j,a.cell? ⟨k,j,none⟩=W.cell? ⟨k,j,none⟩:=λj=>d.cell (p:=⟨k,j,none⟩) f;exact⟨k,o,e1,ad f d.size,λi hi=>by simp only[e];exact hc i hi⟩
def SQ{T:TypeId}{W:World}{base:Nat}{v:Value}{l:List nR}(h:W.ownsRow base T 5 v l.length (l.flatMap vV)):j9 W v l:=by
 obtain⟨_,h⟩:=h
 rcases h with⟨rfl,a⟩|⟨g,cap,b,rfl,hb,hg,hc,f,hs,c⟩
 ·exact⟨none,0,by rw[a],λh=>by omega⟩
 ·refine⟨_,_,rfl,λa=>⟨g,0,rfl,ai hg,λi hi=>?_⟩⟩;have key:∀j u,j<5->(vV l[i])[j]?=some u->W.cell? ⟨g,0+i*5+j,none⟩=some u:=by
   intro j u d e;rw[<-acj l i j hi d,<-c,ar (by omega)]at e;simp only[aI,hg,ab];simpa using e
  exact⟨key 0 _ (by omega) rfl,key 1 _ (by omega) rfl,key 2 _ (by omega) rfl,key 3 _ (by omega) rfl,key 4 _ (by omega) rfl⟩
def AY.reads{W:World}{base:Nat}{v:Value}{l:List nR}(h:AY W base v l):j9 W v l:=SQ h
def abB(l:List nR)(p:Nat):Option nR:=l.find? (λx=>x.1==p)
def agZ:Option nR->Value
 |some x=>.tuple #[.agg (aaW x),.bool true]
 |none=>.tuple #[.agg #[.int .i64 0,.int .i64 0,.int .i64 0,.int .i64 0,.int .i64 0],.bool false]
def alC(W:World):(Instr.build 45 #[]).run PL W=.ok (.agg #[.int .i64 0,.int .i64 0,.int .i64 0,.int .i64 0,.int .i64 0]) W:=by kernel_rfl
def abQ(v:Value)(l:List nR)(p:Nat)(w:World)(h:j9 w v l)(hl:l.length<=20)(D:p<=20)(m:∀x∈l,x.1<=20):Calls PL 14 #[v,.int .i64 p] w (aO (agZ (abB l p)) w):=by
 obtain⟨b,c,rfl,h⟩:=h;have H:=aJ h;have y:=aJ m;clear h m;have q0:=alC
 go_enter (fx (by decide) Tryz.func14),Tryz.ntmps14
 go_wp2
 go_loopw [6] (λv6 wr=>∃q:Nat,q<=l.length/\v6=.int .i64 q/\abB l p=abB (l.drop q) p/\wr.heap[w.heap.size]?=some (.cells #[.int .i64 0,.int .i64 0,.int .i64 0,.int .i64 0,.int .i64 0] 45)/\Below w.heap.size w wr) (λv6 _=>l.length-(intOf v6).toNat)
 case atStart=>exact⟨0,ae _,rfl,rfl,au _ _,(aL _ _).alloc (ac _) _⟩
 case round=>
  obtain⟨q,E,rfl,n,hb,r⟩:=hrel;have g:=aJ n;have e:=aJ r;have i:=aJ hb;obtain⟨y0,y1,y2,y3,y4⟩:=qO hb;have F:=tO hb;clear n r hb;by_cases f:q<l.length
  ·have I:(q:Int)<l.length:=by omega
   obtain⟨k,o,rfl,z,hc⟩:=H.out (by omega);obtain⟨x,a⟩:∃x,x=l[q]:=⟨_,rfl⟩
   have hd:l.drop q=x::l.drop (q+1):=by rw[a];exact List.drop_eq_getElem_cons f
   have d:=hc q f;rw[<-a]at d;have A:=y.out x (by rw[a];exact aw f);have s:∀j,wr.cell? ⟨k,j,none⟩=w.cell? ⟨k,j,none⟩:=λj=>e.out.cell (p:=⟨k,j,none⟩) z;obtain⟨c0,c1,B,c3,C⟩:=d;rw[<-s]at c0 c1 B c3 C;clear hc s a;have t:=aJ hd;clear hd;by_cases heq:x.1=p
   ·have u:((x.1:Nat):Int)=(p:Int):=by omega
    go_wp2
    refine ba (v:=.tuple #[.agg (aaW x),.bool true]) ?_ rfl ⟨?_,?_⟩
    ·obtain⟨a0,a1,a2,a3,a4⟩:=qO (tD (u0:=.int .i64 (p:Int)) (u1:=.int .i64 x.2.1) (u2:=.int .i64 x.2.2.1) (u3:=.int .i64 x.2.2.2.1) (u4:=.int .i64 x.2.2.2.2) i.out);simp[u,results,bd,go_sem,a0,a1,a2,a3,a4]
    ·rw[g.out,t.out,abB,List.find?_cons_of_pos (by simpa using heq)];rfl
    ·exact((((e.out.setCell (p:=⟨w.heap.size,0,none⟩) (ac _) _).setCell (p:=⟨w.heap.size,1,none⟩) (ac _) _).setCell (p:=⟨w.heap.size,2,none⟩) (ac _) _).setCell (p:=⟨w.heap.size,3,none⟩) (ac _) _).setCell (p:=⟨w.heap.size,4,none⟩) (ac _) _
   ·have u:((x.1:Nat):Int)≠(p:Int):=by omega
    go_wp2
    refine⟨⟨q+1,f,by go_num,?_,i.out,e.out⟩,by simp only[intOf];omega⟩;rw[g.out,t.out,abB,List.find?_cons_of_neg (by simpa using heq)];rfl
  ·obtain rfl:q=l.length:=by omega
   go_wp2
   refine ba (v:=agZ none) ?_ rfl ⟨?_,?_⟩
   ·obtain⟨a0,a1,a2,a3,a4⟩:=qO (tD (u0:=.int .i64 0) (u1:=.int .i64 0) (u2:=.int .i64 0) (u3:=.int .i64 0) (u4:=.int .i64 0) i.out);simp[agZ,results,bd,go_sem,a0,a1,a2,a3,a4]
   ·rw[g.out,List.drop_length];rfl
   ·exact((((e.out.setCell (p:=⟨w.heap.size,0,none⟩) (ac _) _).setCell (p:=⟨w.heap.size,1,none⟩) (ac _) _).setCell (p:=⟨w.heap.size,2,none⟩) (ac _) _).setCell (p:=⟨w.heap.size,3,none⟩) (ac _) _).setCell (p:=⟨w.heap.size,4,none⟩) (ac _) _
def H9(W:World)(v:Value)(l:List Int):Prop:=(∃b c,v=.slice b l.length c/\(0<l.length->∃k o,b=some ⟨k,o,none⟩/\k<W.heap.size/\∀i(hi:i<l.length),W.cell? ⟨k,o+i,none⟩=some (.int .u16 l[i])))/\∀x∈l,0<=x/\x<=65535
def H9.on{W a:World}{v:Value}{l:List Int}(h:H9 W v l)(d:Below W.heap.size W a):H9 a v l:=by
 obtain⟨⟨b,c,e,h⟩,g⟩:=h;refine⟨⟨b,c,e,λj=>?_⟩,g⟩;obtain⟨k,o,e1,f,hc⟩:=h j;exact⟨k,o,e1,ad f d.size,λi hi=>(d.cell (p:=⟨k,_,none⟩) f).trans (hc i hi)⟩
abbrev chI(l:List Int)(n:Nat):Int:=l.getD n 0
def alD{W:World}{v:Value}{l:List Int}(h:H9 W v l)(n:Nat):0<=chI l n/\chI l n<=65535:=by
 unfold chI;rw[aq]
 rcases ag n l.length with a|a
 ·rw[ap a];exact h.2 _ (aw a)
 ·rw[aB a];exact⟨by decide,by decide⟩
def abC(v:Value)(l:List Int)(n:Nat)(w:World)(h:H9 w v l)(q:n<=1000):Calls PL 44 #[v,.int .i64 n] w (λe w'=>e=.returned (.int .i64 (chI l n))/\w=w'):=by
 obtain⟨⟨b,c,rfl,h⟩,f⟩:=h;have j:∀x:Int,0<=x/\x<=65535->IntKind.i64.wrap x=x:=λx d=>a6 _ (by omega);have m:=aJ j;clear j;by_cases g:n<l.length
 ·obtain⟨k,o,rfl,r,hc⟩:=h (by omega);obtain⟨x,d⟩:∃x,x=l[n]:=⟨_,rfl⟩
  have c0:=hc n g;rw[<-d]at c0;have a:=f x (by rw[d];exact aw g);have s:=m.out x a;obtain⟨a,t⟩:=a;have i:Hid (chI l n=x):=aJ (by rw[d,chI,aq,ap g];rfl);clear hc h f d;have p:(n:Int)<l.length:=by omega
  go_enter (fx (by decide) bg),bi
  go_wp2
  go_ret
  exact⟨aC i.out,rfl⟩
 ·have p:¬(n:Int)<l.length:=by omega
  clear h f;have i:Hid (chI l n=0):=aJ (by rw[chI,aq,aB (by omega)];rfl)
  go_enter (fx (by decide) bg),bi
  go_wp2
  go_ret
  first|exact⟨rfl,rfl⟩|exact⟨aC i.out,rfl⟩
abbrev abh(a b n:Int):Int:=a+n % (b-a+1)
def aam{a b n:Int}(h:a<=b):a<=abh a b n/\abh a b n<=b:=by
 have c:=aP n (show b-a+1≠0 by omega);have d:=aS n (show 0<b-a+1 by omega);unfold abh;omega
def CD.rp(C:CD)(g i:Nat):Nat:=s7 C.n4 (C.S g) i
def CD.rc(C:CD)(g i:Nat):Nat:=2*(g*C.n4+i)
def CD.rat(C:CD)(ps:List Int)(g:Nat):Nat->Int
 |0=>C.dl g
 |i+1=>CD.rat C ps g i+abh (C.pn (C.rp g i) 7) (C.pn (C.rp g i) 8) (chI ps (C.rc g i))+abh (C.pn (C.rp g i) 9) (C.pn (C.rp g i) 10) (chI ps (C.rc g i+1))
def CD.rgo(C:CD)(ps:List Int)(g i:Nat):Int:=C.rat ps g i+abh (C.pn (C.rp g i) 7) (C.pn (C.rp g i) 8) (chI ps (C.rc g i))
def CD.abD(C:CD)(ps:List Int)(g i:Nat):C.rat ps g (i+1)=C.rgo ps g i+abh (C.pn (C.rp g i) 9) (C.pn (C.rp g i) 10) (chI ps (C.rc g i+1)):=rfl
def CD.rv(C:CD)(ps:List Int)(g i:Nat):nR:=(C.rp g i,C.rat ps g i,C.rat ps g i,C.rgo ps g i,C.rgo ps g i)
def CD.rl(C:CD)(ps:List Int)(g n:Nat):List nR:=(List.range n).map (C.rv ps g)
def CD.ahz(C:CD)(ps:List Int)(g n:Nat):C.rl ps g (n+1)=C.rl ps g n++[C.rv ps g n]:=by simp[CD.rl,List.range_succ]
def CD.L1(C:CD)(ps:List Int)(g n:Nat):(C.rl ps g n).length=n:=by simp[CD.rl]
def CD.abi{C:CD}(hc:C.cx=0)(g i:Nat):C.rp g i<C.n4:=aay (by have:=(xu hc).1;omega)
def CD.ado{C:CD}(hc:C.cx=0){g:Nat}(hg:g<C.n5)(ps:List Int)(i:Nat):(0<=C.rat ps g i/\C.rat ps g i<=12+120*i)/\(0<=C.rgo ps g i/\C.rgo ps g i<=72+120*i):=by
 have key:∀i,(0<=C.rat ps g i/\C.rat ps g i<=12+120*i)->(0<=C.rgo ps g i/\C.rgo ps g i<=72+120*i):=λi h=>by
  obtain⟨b,_⟩:=abq hc (CD.abi hc g i);have:=aam (n:=chI ps (C.rc g i)) b.2.1;simp only[CD.rgo,CD.pn];omega
 induction i with
 |zero=>
  have:=(abc hc hg).2.1;have a:0<=C.rat ps g 0/\C.rat ps g 0<=12+120*(0:Nat):=by simp only[CD.rat,CD.dl];omega
  exact⟨a,key 0 a⟩
 |succ i c=>
  obtain⟨_,b⟩:=abq hc (CD.abi hc g i);have d:=aam (n:=chI ps (C.rc g i+1)) b.2.1;have a:0<=C.rat ps g (i+1)/\C.rat ps g (i+1)<=12+120*(i+1:Nat):=by
   rw[CD.abD];simp only[CD.pn]at *;have:=c.2;omega
  exact⟨a,key _ a⟩
def acv{ops:Array Oper}{rest:List Oper}{o:Oper}{a:Act}{Q:Exit->Act->World->Prop}{w:World}(e:o.guard=none)(s x:Operand)
 (f:o.op=.call { callee:=.builtin .append,args:=#[s,x],argTypes:=#[31,31] }) (base:Nat) (v:Value) (l:List nR) (y:nR) (b:Nat) (hs:a.eval s=v) (c:AY w base v l)
 (g:a.eval x=.slice (some ⟨b,0,none⟩) 1 1) (hc:w.heap[b]?=some (.cells (aaW y) 45)) (hl:l.length<=1000) (d:base<=w.heap.size)
 (h:∀v' w',AY w' base v' (l++[y])->Below base w w'->wpList PL ops Q rest (a.put o.dst v') w'):wpList PL ops Q (o::rest) a w:=by
 obtain⟨i,hi,j,k,m⟩:=info_parts aaV;refine wpList_append_own _ e s x 31 f base 45 i _ 5 40 afX hi j k m rfl (by decide) v l.length _ hs c ⟨b,0,none⟩ 1 1 (vV y) g rfl (VW hc) (by simp[vV,Value.oneCell']) (by simp only[maxLen];omega) (by omega) d λv' w' n p _=>?_;refine h v' w' ?_ ((aL base w).grown p d (cZ c));unfold AY;rw[List.length_append,List.flatMap_append,List.flatMap_cons,List.flatMap_nil,List.append_nil];exact n
def AY.on{W b:World}{base:Nat}{v:Value}{l:List nR}(h:AY W base v l)(d:Below W.heap.size W b):AY b base v l:=by
 obtain⟨c,h⟩:=h
 rcases h with h|⟨g,cap,a,e1,hb,hg,e⟩
 ·exact⟨c,.inl h⟩
 ·exact⟨c,.inr ⟨g,cap,a,e1,hb,(d.block _ (ai hg)).trans hg,e⟩⟩
structure ac0(C:CD)(w:World)(v:Value)(l:List nR)(W:World):Prop where
 box:W.heap[w.heap.size]?=some (.cells C.val 27)
 own:AY W (w.heap.size+1) v l
 low:Below w.heap.size w W
def ac0.on{C:CD}{w W b:World}{v:Value}{l:List nR}(h:ac0 C w v l W)(a:Below W.heap.size W b):ac0 C w v l b:=
 ⟨(a.block _ (ai h.box)).trans h.box,h.own.on a,Below.on h.low a⟩
def ah0(C:CD)(g:Nat)(v:Value)(ps:List Int)(w:World)(h:C.At w)(hc:C.cx=0)(hg:g<C.n5)(Q:H9 w v ps) :
 Calls PL 15 #[.agg C.val,.int .i64 g,v] w λe w'=>∃u,e=.returned u/\AY w' w.heap.size u (C.rl ps g C.n4)/\Below w.heap.size w w':=by
 have h4:=xu hc;have h5:=s8 hc;have hs:=(abc hc hg).1;have hd:=(abc hc hg).2.1;have K:=aJ hc;have p:=aJ h;have L:=aJ Q;have M:Hid (ac0 C w (.slice none 0 0) [] (w.alloc (.cells C.val 27))):=aJ ⟨au _ _,⟨rfl,.inl ⟨rfl,rfl⟩⟩,(aL _ _).alloc (ac _) _⟩;obtain⟨b,c,t,_⟩:=Q.1;obtain⟨n,hn⟩:∃n,n=ps.length:=⟨_,rfl⟩
 rw[<-hn]at t;rw[t]at L ⊢;have s5:=h.s5 (by omega);have H:=h.s4 (by omega);clear Q h hc t hn;obtain⟨h41,R⟩:=h4
 go_enter (fx (by decide) Tryz.func15),Tryz.ntmps15
 obtain⟨x,y,z,A,f4,k⟩:=bf M.out.box;rw[s5]at k;rw[H]at f4;obtain⟨T,U⟩:(w.alloc (.cells C.val 27)).cell? ⟨C.k5,C.o5+g*3+1,none⟩=some (.int .i64 (C.x5 g).2.1)/\(w.alloc (.cells C.val 27)).cell? ⟨C.k5,C.o5+g*3+2,none⟩=some (.int .i64 (C.x5 g).2.2):=⟨(p.out.below M.out.low).HU g hg,(p.out.below M.out.low).J6 g hg⟩
 have i1:(g:Int)<C.n5:=by omega
 go_wp2
 go_loopw [7,8,9] (λv7 v8 V wr=>∃i:Nat,i<=C.n4/\V=.int .i64 i/\v8=.int .i64 (C.rat ps g i)/\ac0 C w v7 (C.rl ps g i) wr) (λ_ _ V _=>C.n4-(intOf V).toNat)
 case atStart=>exact⟨0,ae _,rfl,rfl,M.out⟩
 case round=>
  obtain⟨i,hi,rfl,rfl,hK⟩:=hrel;have F:=aJ hK;clear hK;clear x y z A f4 k T U;obtain⟨x,y,z,A,f4,k⟩:=bf F.out.box;rw[s5]at k;rw[H]at f4;by_cases aH:i<C.n4
  ·have i2:(i:Int)<C.n4:=by omega
   obtain⟨T,U⟩:wr.cell? ⟨C.k5,C.o5+g*3+1,none⟩=some (.int .i64 (C.x5 g).2.1)/\wr.cell? ⟨C.k5,C.o5+g*3+2,none⟩=some (.int .i64 (C.x5 g).2.2):=⟨(p.out.below F.out.low).HU g hg,(p.out.below F.out.low).J6 g hg⟩
   obtain⟨r,N⟩:∃r,r=C.rp g i:=⟨_,rfl⟩
   have GM:((C.x5 g).2.1+(i:Int)) % (C.n4:Int)=(r:Int):=by
    rw[N];unfold CD.rp s7 CD.S;rw[Int.natCast_emod,Int.natCast_add,Int.toNat_of_nonneg hs.1]
   have I:r<C.n4:=by rw[N];exact CD.abi K.out g i
   have Q8:(r:Int)<C.n4:=by omega
   obtain⟨d,l⟩:∃d,d=C.rc g i:=⟨_,rfl⟩
   have m0:g*C.n4<=2*5:=Nat.mul_le_mul (by omega) R;have m1:(0:Int)<=(g:Int)*(C.n4:Int):=by rw[<-aT];omega
   have m2:(g:Int)*(C.n4:Int)<=10:=by rw[<-aT];omega
   have ayX:2*((g:Int)*(C.n4:Int)+(i:Int))=(d:Int):=by rw[l,CD.rc,<-aT];omega
   have ayY:d<=998:=by rw[l,CD.rc];omega
   have X:=aJ N;have J:=aJ l;have Y:=CD.ado K.out hg ps i
   go_wp2
   go_quiet (fail)
   rw[GM];have K2:Hid (ac0 C w u7 (C.rl ps g i) (wr.drewN nq)):=aJ (F.out.on (below_drewN (aL _ _) _));clear x y z A f4 k T U;obtain⟨x,y,z,A,f4,k⟩:=bf K2.out.box;rw[H]at f4;clear N l
   go_wp2
   have Z:∀q,0<=chI ps q/\chI ps q<=65535:=λq=>alD L.out q;obtain⟨a7,a9⟩:=abq K.out I;obtain⟨q1,O⟩:∃q,q=chI ps d:=⟨_,rfl⟩
   obtain⟨q2,m⟩:∃q,q=chI ps (d+1):=⟨_,rfl⟩
   obtain⟨d1,B⟩:∃q,q=abh ((C.x4 r).n 7) ((C.x4 r).n 8) q1:=⟨_,rfl⟩
   obtain⟨d2,D⟩:∃q,q=abh ((C.x4 r).n 9) ((C.x4 r).n 10) q2:=⟨_,rfl⟩
   obtain⟨e1,f⟩:∃q,q=C.rgo ps g i:=⟨_,rfl⟩
   obtain⟨t1,o⟩:∃q,q=C.rat ps g (i+1):=⟨_,rfl⟩
   have CH1:Hid (∀W,Below w.heap.size w W->Calls PL 44 #[.slice b n c,.int .i64 d] W (λe w'=>e=.returned (.int .i64 q1)/\W=w')):=aJ λW j=>by rw[O];exact abC _ ps d W (L.out.on j) (by omega)
   have CH2:Hid (∀W,Below w.heap.size w W->Calls PL 44 #[.slice b n c,.int .i64 (d+1)] W (λe w'=>e=.returned (.int .i64 q2)/\W=w')):=aJ λW j=>by rw[m];exact abC _ ps (d+1) W (L.out.on j) (by omega)
   have PK1:Hid (∀W,Calls PL 43 #[.agg #[.int .i64 ((C.x4 r).n 7),.int .i64 ((C.x4 r).n 8)],.int .i64 q1] W (aO (.int .i64 d1) W)):=aJ λW=>by
    have:=Z d;rw[<-O]at this;rw[B];exact acu _ _ _ W (by omega) (by omega) (by omega) this.1 (by omega)
   have PK2:Hid (∀W,Calls PL 43 #[.agg #[.int .i64 ((C.x4 r).n 9),.int .i64 ((C.x4 r).n 10)],.int .i64 q2] W (aO (.int .i64 d2) W)):=aJ λW=>by
    have:=Z (d+1);rw[<-m]at this;rw[D];exact acu _ _ _ W (by omega) (by omega) (by omega) this.1 (by omega)
   have k1:C.rat ps g i+d1=e1:=by rw[f,CD.rgo,B,O,J.out,X.out]
   have k2:e1+d2=t1:=by rw[o,CD.abD,f,D,m,J.out,X.out]
   have as4:=(CD.ado K.out hg ps (i+1)).1;rw[<-f]at Y;rw[<-o]at as4;have w1:IntKind.i64.wrap (C.rat ps g i+d1)=e1:=by rw[k1];exact a6 _ (by omega)
   have w2:IntKind.i64.wrap (e1+d2)=t1:=by rw[k2];exact a6 _ (by omega)
   have HE:=aJ f;have HT:=aJ o;clear x y z A f4 k Z O m B D f o k1 k2;refine a8 ?_;refine ig (ac0 C w u7 (C.rl ps g i)) (λ_ _=>True) (λ_=>true) (λ_ _ _=>True) rfl (by kernel_rfl) (λ_ _ _ _ _ h=>h) (λ_ _ _ _ _ _ _ _ h=>h) ?_ ?_
   ·exact K2.out.on (below_drewN (aL _ _) 1)
   ·iterate 13 (
     apply aY
     case hE=>rfl
     case h=>
      intro vs W a hd;obtain⟨x,y,z,A,f4,k⟩:=bf a.box;rw[H]at f4;have p7:=(p.out.below a.low).dB r I 7 (by omega) (by omega);have p8:=(p.out.below a.low).dB r I 8 (by omega) (by omega)
      go_simp
      first
       |exact rfl
       |exact⟨rfl,a,trivial⟩
       |exact⟨rfl,a⟩
       |(refine(CH1.out W a.low).mono ?_;rintro e P⟨rfl,rfl⟩;exact⟨_,rfl,rfl,a⟩)
       |(refine(PK1.out W).mono ?_;rintro e P⟨rfl,j⟩;exact⟨_,rfl,rfl,a.on j⟩)
       |trace_state
     case hb=>exact P0)
    refine cP λvs W a hd=>?_;refine NoPanic.normal ?_;have s:=aJ a;clear a hd;have q28:=ahR
    go_wp2_with (first
     |(go_at_call 12;refine(fU _ _ _).mono ?_;rintro e P⟨rfl,j⟩;have s:=aJ (s.out.on j);clear j)
     |(at_builtin;refine acv rfl _ _ rfl (w.heap.size+1) _ (C.rl ps g i) (r,C.rat ps g i,C.rat ps g i,e1,e1) _ rfl (s.out.own.on ((aL _ _).alloc (ac _) _)) rfl (au _ _) (by rw[CD.L1];omega) (by have:=s.out.low.size;simp;omega) ?_;intro v' w4 fO E))
    have hB4:Below w.heap.size w w4:=((s.out.low.alloc (by have:=s.out.low.size;omega) _).trans (E.mono (by omega)))
    have K4:Hid (ac0 C w v' (C.rl ps g (i+1)) w4):=aJ ⟨(E.block _ (by omega)).trans ((((aL _ _).alloc (ac _) _).block _ (ai s.out.box)).trans s.out.box),by rw[CD.ahz,CD.rv,<-X.out,<-HE.out];exact fO,hB4⟩;clear E fO;have w3:IntKind.i64.wrap ((d:Int)+1)=(d:Int)+1:=a6 _ (by omega);refine a8 ?_;refine ig (ac0 C w v' (C.rl ps g (i+1))) (λ_ _=>True) (λ_=>true) (λ_ _ _=>True) rfl (by kernel_rfl) (λ_ _ _ _ _ h=>h) (λ_ _ _ _ _ _ _ _ h=>h) ?_ ?_
    ·exact K4.out.on (below_drewN (aL _ _) 1)
    ·iterate 14 (
      apply aY
      case hE=>rfl
      case h=>
       intro vs W a hd;obtain⟨x,y,z,A,f4,k⟩:=bf a.box;rw[H]at f4;have p7:=(p.out.below a.low).dB r I 9 (by omega) (by omega);have p8:=(p.out.below a.low).dB r I 10 (by omega) (by omega)
       go_simp
       first
        |with_reducible exact rfl
        |exact⟨rfl,a,trivial⟩
        |exact⟨rfl,a⟩
        |(refine(CH2.out W a.low).mono ?_;rintro e P⟨rfl,rfl⟩;exact⟨_,rfl,rfl,a⟩)
        |(refine(PK2.out W).mono ?_;rintro e P⟨rfl,j⟩;exact⟨_,rfl,rfl,a.on j⟩)
        |trace_state
      case hb=>exact P0)
     refine cP λvs W a hd=>?_;refine NoPanic.normal ?_;have K5:=aJ a;clear a hd
     go_wp2
     refine⟨⟨i+1,aH,by go_num,by rw[HT.out],K5.out⟩,by simp only[intOf];omega⟩
  ·obtain rfl:i=C.n4:=by omega
   go_wp2
   go_ret
   exact⟨_,rfl,dJ F.out.own (by omega),F.out.low⟩
end Go.Proofs
namespace Go.Proofs
open Go.RowKit
def Q3{C:CD}(hc:C.cx=0){g:Nat}(hg:g<C.n5)(k:Nat):(nT C g k).1=C.rp g k:=by
 have b:=(xu hc).1;have hs:=(abc hc hg).1
 induction k with
 |zero=>
  show C.S g=s7 C.n4 (C.S g) 0;unfold s7;rw[Nat.add_zero,Nat.mod_eq_of_lt];unfold CD.S;omega
 |succ k a=>
  show Ff C (nT C g k).1=s7 C.n4 (C.S g) (k+1);rw[a,abo (by omega)];rfl
def L2{C:CD}(hc:C.cx=0){g:Nat}(hg:g<C.n5)(ps:List Int)(k:Nat):((nT C g k).2.1<=C.rat ps g k/\C.rat ps g k<=(nT C g k).2.2)/\((Nu C g k).2.2.2.1<=C.rgo ps g k/\C.rgo ps g k<=(Nu C g k).2.2.2.2):=by
 have key:∀k,((nT C g k).2.1<=C.rat ps g k/\C.rat ps g k<=(nT C g k).2.2)->((Nu C g k).2.2.2.1<=C.rgo ps g k/\C.rgo ps g k<=(Nu C g k).2.2.2.2):=λk h=>by
  obtain⟨b,_⟩:=abq hc (CD.abi hc g k);have:=aam (n:=chI ps (C.rc g k)) b.2.1;simp only[Nu,Q3 hc hg,CD.rgo,CD.pn];omega
 induction k with
 |zero=>
  have a:(nT C g 0).2.1<=C.rat ps g 0/\C.rat ps g 0<=(nT C g 0).2.2:=⟨a5 _,a5 _⟩
  exact⟨a,key 0 a⟩
 |succ k c=>
  obtain⟨_,b⟩:=abq hc (CD.abi hc g k);have e:=aam (n:=chI ps (C.rc g k+1)) b.2.1;have a:(nT C g (k+1)).2.1<=C.rat ps g (k+1)/\C.rat ps g (k+1)<=(nT C g (k+1)).2.2:=by
   have d:=c.2;rw[CD.abD];simp only[nT,Q3 hc hg];simp only[Nu,Q3 hc hg]at d;simp only[CD.pn]at *;omega
  exact⟨a,key _ a⟩
def alE{C:CD}(hc:C.cx=0){g:Nat}(hg:g<C.n5){r:Nat}(d:r<=C.n4):cmV C.pn C.n4 (C.S g) (C.dl g) r=(nT C g r).2:=by
 have a:=Sa C hc hg
 induction r with
 |zero=>rfl
 |succ r f=>
  have b:=a.lo (r+1) d;have c:=a.hi (r+1) d;have h:=a.lo r (by omega);have i:=a.hi r (by omega);have e:=a.nn _ (a.p4 r);have j:=a.m4;rw[cmV,f (by omega)];simp only[nT]at b c ⊢;rw[Q3 hc hg]at b c e ⊢;simp only[CD.rp]at b c e ⊢;simp only[CD.pn];rw[a6 ((nT C g r).2.1+_) (by omega),a6 ((nT C g r).2.1+_+_) (by omega),a6 ((nT C g r).2.2+_) (by omega),a6 ((nT C g r).2.2+_+_) (by omega)]
def Z0(x:nR):Nat->Int
 |0=>(x.1:Nat)
 |1=>x.2.1
 |2=>x.2.2.1
 |3=>x.2.2.2.1
 |_=>x.2.2.2.2
def afw{C:CD}(hc:C.cx=0){g:Nat}(hg:g<C.n5){r:Nat}(c:r<C.n4)(j:Nat):vsV C.pn C.n4 (C.S g) (C.dl g) r j=Z0 (Nu C g r) j:=by
 have a:=Sa C hc hg;have d:=a.lo r (by omega);have f:=a.hi r (by omega);have b:=a.nn _ (a.p4 r);have h:=a.m4;rw[Q3 hc hg]at b;have e:=alE hc hg (show r<=C.n4 by omega)
 match j with
 |0=>simp only[vsV,Z0,Nu,Q3 hc hg];rfl
 |1=>simp only[vsV,Z0,Nu,e]
 |2=>simp only[vsV,Z0,Nu,e]
 |3=>
  simp only[vsV,Z0,Nu,e,Q3 hc hg];simp only[CD.rp,CD.pn]at b ⊢;exact a6 _ (by omega)
 |j+4=>
  simp only[vsV,Z0,Nu,e,Q3 hc hg];simp only[CD.rp,CD.pn]at b ⊢;exact a6 _ (by omega)
def ahA{C:CD}(hc:C.cx=0){g:Nat}(hg:g<C.n5){r:Nat}(b:r<C.n4)(j:Nat):0<=Z0 (Nu C g r) j/\Z0 (Nu C g r) j<=1000:=by
 have a:=Sa C hc hg;have c:=a.lo r (by omega);have d:=a.hi r (by omega);have e:=a.nn _ (a.p4 r);have f:=a.m4;have h:=a.p4 r
 match j with
 |0=>simp only[Z0,Nu];omega
 |1=>simp only[Z0,Nu];omega
 |2=>simp only[Z0,Nu];omega
 |3=>simp only[Z0,Nu];omega
 |j+4=>simp only[Z0,Nu];omega
def CD.aas{C:CD}(hc:C.cx=0){g p j:Nat}(hg:g<C.n5)(a:p<C.n4)(b:j<5):C.tab.getD (g*25+p*5+j) 0=Z0 (Nu C g (s9 C.n4 (C.S g) p)) j:=by
 have c:=(xu hc).2;have d:=s8 hc;rw[<-afw hc hg (P2 (by omega))];unfold CD.tab ace;rw[aq,ao,aF (by omega)];simp only[bj,bm];rw[agc,show(g*25+p*5+j) / 25=g by omega,show(g*25+p*5+j) % 25 / 5=p by omega,show(g*25+p*5+j) % 5=j by omega,if_pos ⟨hg,a⟩]
def CD.abR{C:CD}(hc:C.cx=0):Ir C.tab:=by
 have key:∀o,-10000<=C.tab.getD o 0/\C.tab.getD o 0<=10000:=λo=>by
  unfold CD.tab ace;rw[aq,ao]
  rcases ag o 75 with a|a
  ·rw[aF a];simp only[bj,bm];rw[agc]
   split
   ·rename_i b;have:=ahA hc b.1 (P2 (np:=C.n4) (s:=C.S (o / 25)) (p:=o % 25 / 5) (by omega)) (o % 5);rw[afw hc b.1 (P2 (by omega))];omega
   ·omega
  ·rw[aB (by simpa using a)];simp
 exact⟨by simp[CD.tab,ace],λj=>(key j).1,λj=>(key j).2⟩
def agt{C:CD}(hc:C.cx=0){g i p:Nat}(hg:g<C.n5)(hi:i<C.n4)(h:C.rp g i=p):i=s9 C.n4 (C.S g) p:=by
 have hs:C.S g<C.n4:=by have:=(abc hc hg).1;unfold CD.S;omega
 have b:p<C.n4:=by rw[<-h];exact CD.abi hc g i
 have e1:=abu b hs;have c:=P2 (np:=C.n4) (s:=C.S g) (p:=p) (by omega)
 rcases Nat.lt_trichotomy i (s9 C.n4 (C.S g) p) with a|a|a
 ·exact absurd (h.trans e1.symm) (abW a c)
 ·exact a
 ·exact absurd (e1.trans h.symm) (abW a hi)
def ah1{C:CD}(hc:C.cx=0){g p:Nat}(hg:g<C.n5)(a:p<C.n4):C.rp g (s9 C.n4 (C.S g) p)=p:=
 abu a (by have:=(abc hc hg).1;unfold CD.S;omega)
def acw{C:CD}(hc:C.cx=0){g p:Nat}(hg:g<C.n5)(a:p<C.n4)(ps:List Int):abB (C.rl ps g C.n4) p=some (C.rv ps g (s9 C.n4 (C.S g) p)):=by
 have b:=P2 (np:=C.n4) (s:=C.S g) (p:=p) (by omega);unfold abB
 cases hf:(C.rl ps g C.n4).find? (λx=>x.1==p) with
 |none=>
  have:=List.find?_eq_none.1 hf (C.rv ps g (s9 C.n4 (C.S g) p)) (List.mem_map.2 ⟨_,List.mem_range.2 b,rfl⟩);simp[CD.rv,ah1 hc hg a]at this
 |some x=>
  have c:=List.find?_some hf;obtain⟨i,hi,rfl⟩:=List.mem_map.1 (List.mem_of_find?_eq_some hf);have d:C.rp g i=p:=by simpa[CD.rv]using c
  rw[agt hc hg (List.mem_range.1 hi) d]
def ac1(C:CD)(g:Nat)(h:0<C.n4):nU C g=(Nu C g (C.n4-1)).2.2.2:=by
 unfold nU;rw[show C.n4=(C.n4-1)+1 by omega,uM,IE];rfl
open Go.Shelf
attribute [local go_sem] Oper.semAt_some
set_option maxRecDepth 100000
set_option maxHeartbeats 40000000
def aav{W:World}{b:Option Addr}{n c:Nat}{l:List nR}(h:j9 W (.slice b n c) l){i:Nat}(hi:i<l.length):∃k o,b=some ⟨k,o,none⟩/\∀a,Below W.heap.size W a->a.cell? ⟨k,o+i*5,none⟩=some (.int .i64 (l[i].1:Nat))/\a.cell? ⟨k,o+i*5+1,none⟩=some (.int .i64 l[i].2.1)/\a.cell? ⟨k,o+i*5+2,none⟩=some (.int .i64 l[i].2.2.1)/\a.cell? ⟨k,o+i*5+3,none⟩=some (.int .i64 l[i].2.2.2.1)/\a.cell? ⟨k,o+i*5+4,none⟩=some (.int .i64 l[i].2.2.2.2):=by
 obtain⟨b',g,e,h⟩:=h;cases e;obtain⟨k,o,e1,d,hc⟩:=h (by omega);refine⟨k,o,e1,λa f=>?_⟩;have e:∀j,a.cell? ⟨k,j,none⟩=W.cell? ⟨k,j,none⟩:=λj=>f.cell (p:=⟨k,j,none⟩) d;simp only[e];exact hc i hi
def ah2{C:CD}{g:Nat}{w:World}(h:C.At w)(hc:C.cx=0)(hg:g<C.n5):Calls PL 8 #[.agg C.val,.int .i64 g] w λe w'=>∃b c,e=.returned (.tuple #[.slice b C.n4 c,.int .i64 0])/\j9 w' (.slice b C.n4 c) (mD C g C.n4)/\Below w.heap.size w w':=by
 refine(ID C g w h hg (s8 hc) (by rw[CD.b6,if_pos hc];rfl) (Sa C hc hg)).mono ?_;rintro e w'⟨v,rfl,d,f⟩;have a:=d.reads;have i:=a;obtain⟨b,c,rfl,_⟩:=i;rw[R7]at a⊢;exact⟨b,c,rfl,a,f⟩
def alF{C:CD}{m:Int}{w:World}(h:C.At w)(hc:C.cx=0)(d:bO m 0 999=true):Calls PL 10 #[.agg C.val,.int .i64 m] w λe w'=>∃b c,e=.returned (.tuple #[.slice b C.n4 c,.int .i64 0])/\bB w' (.slice b C.n4 c) (tB C.tab m C.n5 C.n4)/\Below w.heap.size w w':=by
 refine(RO C m C.tab (CD.abR hc) w h (by rw[CD.b6,if_pos hc];rfl) (xu hc).2 (s8 hc) d (λW f=>afs f hc)).mono ?_;rintro e w'⟨v,rfl,a,g⟩;have i:=a;obtain⟨b,c,rfl,_⟩:=i;rw[Nt]at a⊢;exact⟨b,c,rfl,a,g⟩
def abE{C:CD}{g:Nat}{v:Value}{ps:List Int}{w:World}(h:C.At w)(hc:C.cx=0)(hg:g<C.n5)(d:H9 w v ps) :
 Calls PL 15 #[.agg C.val,.int .i64 g,v] w λe w'=>∃b c,e=.returned (.slice b C.n4 c)/\j9 w' (.slice b C.n4 c) (C.rl ps g C.n4)/\Below w.heap.size w w':=by
 refine(ah0 C g v ps w h hc hg d).mono ?_;rintro e w'⟨u,rfl,f,i⟩;have a:=f.reads;have j:=a;obtain⟨b,c,rfl,_⟩:=j;rw[CD.L1]at a⊢;exact⟨b,c,rfl,a,i⟩
end Go.Proofs
