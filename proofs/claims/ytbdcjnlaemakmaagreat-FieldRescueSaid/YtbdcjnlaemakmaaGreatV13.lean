/- Part of the proof of FieldRescue. -/
import Derived.Test.YtbdcjnlaemakmaaGreatV12
import Derived.Laws.OwnMore
set_option linter.all false
open Nat renaming lt_irrefl->aa,zero_add->ab,le_refl->ac,zero_le->ad,not_lt_zero->ae,le_of_lt->ag
open Go.Proofs renaming getElem?_lt'->ai
open List renaming getElem?_take_of_lt->ao,getD_eq_getElem?_getD->ap,getElem?_append_left->aq,getElem?_eq_getElem->ar,range->aw,length_append->aB,length->aF,length_nil->aI
open Go.World renaming cell?->aJ
open Go.Proofs.Below renaming on->aP
open Go.Lib renaming hid->aS
open Go.RowKit.Below renaming refl->aT
open Go.Builtin renaming append_->a5,lenOf->a6,firstCells->a7
open And renaming intro->a8
open Int renaming emod_nonneg->a9,emod_lt_of_pos->ba,tmod_eq_emod_of_nonneg->bc
open Go.Value.slice renaming injEq->bd
open Go.Value renaming int->bg,tuple->bi,agg->bj,slice->bm,bool->bo
open Go.IntKind renaming i64->bp
open Go.Ending renaming returned->bq
open Or renaming inl->br,inr->bs
open Go.Obj renaming cells->bt
namespace Go.Proofs
open Go.RowKit Go.Shelf
set_option maxRecDepth 100000
set_option maxHeartbeats 1000000
def uP(d:Int)(C:CD)(W:World):Prop:=∃k2 g k3 c3 a h b i c e lb f,C=ir k2 g k3 c3 a h b i c e lb f d/\CJ W k2 k3 a b c e lb f d
def uP.on{d:Int}{C:CD}{W a:World}(h:uP d C W)(b:Below W.heap.size W a):uP d C a:=by
 obtain⟨k2,c,k3,c3,f,g,i,j,k,l,lb,m,e,h⟩:=h;exact⟨k2,c,k3,c3,f,g,i,j,k,l,lb,m,e,h.on b⟩
def uP.at{d:Int}{C:CD}{W:World}(h:uP d C W):C.At W:=by
 obtain⟨k2,a,k3,c3,b,c,e,f,g,i,lb,j,rfl,h⟩:=h;exact h.at
def uP.is{d:Int}{C:CD}{W:World}(h:uP d C W):VB d C:=by
 obtain⟨k2,a,k3,c3,b,c,e,f,g,i,lb,j,rfl,_⟩:=h;exact⟨k2,a,k3,c3,b,c,e,f,g,i,lb,j,rfl⟩
def tG{d:Int}{C:CD}(hd:d=0\/d=1)(h:VB d C):C.b6 true=0:=by
 obtain⟨k2,a,k3,c3,b,c,e,f,g,i,lb,j,rfl⟩:=h
 rcases hd with rfl|rfl<;>kernel_rfl
def IQ{d:Int}{C:CD}(hd:d=0\/d=1)(h:VB d C):C.cx=0:=IC (tG hd h)
def agd(w:World):Calls PL 13 #[bg bp 13,bg bp (-5)] w λe w'=>e=bq (bi #[bg bp 12,bg bp 0])/\w=w':=(uD 13 (-5) w).mono λ_ _ k=>⟨k.1.trans (by kernel_rfl),k.2.symm⟩
def age(w:World):Calls PL 13 #[bg bp 20,bg bp 11] w λe w'=>e=bq (bi #[bg bp 16,bg bp 0])/\w=w':=(uD 20 11 w).mono λ_ _ k=>⟨k.1.trans (by kernel_rfl),k.2.symm⟩
def agf{C:CD}(w:World)(h:uP 0 C w):Calls PL 14 #[bj C.val,bg bp 0] w (aO (bi #[bj #[bg bp 16,bg bp 20],bg bp 0]) w):=by
 have k:=nB C 0 w h.at;have e:C.kR 0=bi #[bj #[bg bp 16,bg bp 20],bg bp 0]:=by
  obtain⟨k2,a,k3,c3,b,c,d,f,g,i,lb,j,rfl⟩:=h.is
  kernel_rfl
 rwa[e]at k
def agh{C:CD}(w:World)(h:uP 0 C w):Calls PL 14 #[bj C.val,bg bp 2] w (aO (bi #[bj #[bg bp 24,bg bp 25],bg bp 0]) w):=by
 have k:=nB C 2 w h.at;have e:C.kR 2=bi #[bj #[bg bp 24,bg bp 25],bg bp 0]:=by
  obtain⟨k2,a,k3,c3,b,c,d,f,g,i,lb,j,rfl⟩:=h.is
  kernel_rfl
 rwa[e]at k
def agi{C:CD}(w:World)(h:uP 0 C w):Calls PL 15 #[bj C.val,bg bp 0] w (aO (bi #[bg bp 0,bg bp 0]) w):=by
 have k:=pH C 0 w h.at;have e:C.iq 0=bi #[bg bp 0,bg bp 0]:=by
  obtain⟨k2,a,k3,c3,b,c,d,f,g,i,lb,j,rfl⟩:=h.is
  kernel_rfl
 rwa[e]at k
def agj{C:CD}(w:World)(h:uP 0 C w):Calls PL 15 #[bj C.val,bg bp 2] w (aO (bi #[bg bp 2,bg bp 0]) w):=by
 have k:=pH C 2 w h.at;have e:C.iq 2=bi #[bg bp 2,bg bp 0]:=by
  obtain⟨k2,a,k3,c3,b,c,d,f,g,i,lb,j,rfl⟩:=h.is
  kernel_rfl
 rwa[e]at k
def SJ:List Int:=[0,0,0,4,6,1,6,9,10,14,2,13,17,18,22]
def aag:List Int:=[0,1,2,0,13]
def ahQ{W:World}{base e n:Nat}{v:Value}{xs:List Value}(h:W.ownsRow base e 5 v n xs)(l:List Int)(c:xs=l.map λz=>bg bp z):Reads W v n 5 λj=>bg bp (l.getD j 0):=by
 obtain⟨hl,h⟩:=h
 rcases h with⟨rfl,rfl⟩|⟨g,cap,a,rfl,hb,hg,hc,d,hs,b⟩
 ·exact⟨none,0,rfl,λh=>absurd h (aa _)⟩
 ·refine⟨_,_,rfl,λf=>⟨g,0,rfl,ai hg,λj i=>?_⟩⟩;have k:l.length=n*5:=by grind
  have e:xs[j]?=some (bg bp (l.getD j 0)):=by
   grind
  rw[<-b,ao (by omega)]at e;simp only[aJ,hg,ab];simpa using e
def e34{C:CD}(w:World)(h:uP 0 C w):Calls PL 16 #[bj C.val,bg bp 0] w λe w'=>∃v,e=bq (bi #[v,bg bp 0])/\(Reads w' v 3 5 λj=>bg bp (SJ.getD j 0))/\Below w.heap.size w w':=by
 have k:=ID C 0 w h.at (by obtain⟨k2,a,k3,c3,b,c,d,f,g,i,lb,l,rfl⟩:=h.is;show 0<2;decide) (by obtain⟨k2,a,k3,c3,b,c,d,f,g,i,lb,l,rfl⟩:=h.is;show 2<=3;decide) (tG (br rfl) h.is) (Sa C (IQ (br rfl) h.is) (by obtain⟨k2,a,k3,c3,b,c,d,f,g,i,lb,l,rfl⟩:=h.is;show 0<2;decide));refine k.mono ?_;rintro e w'⟨v,rfl,m,n⟩;have e:mD C 0 C.n4=[(0,0,0,4,6),(1,6,9,10,14),(2,13,17,18,22)]:=by
  obtain⟨k2,a,k3,c3,b,c,d,f,g,i,lb,l,rfl⟩:=h.is
  kernel_rfl
 unfold AY at m;rw[e]at m;exact⟨v,rfl,ahQ m SJ rfl,n⟩
def e59{C:CD}(w:World)(h:uP 0 C w):Calls PL 17 #[bj C.val,bg bp 1] w (aO (bi #[bj #[bg bp 18,bg bp 23],bg bp 0]) w):=by
 have k:=Sj C 1 w h.at (by obtain⟨k2,a,k3,c3,b,c,d,f,g,i,lb,j,rfl⟩:=h.is;show 1<2;decide) (by obtain⟨k2,a,k3,c3,b,c,d,f,g,i,lb,j,rfl⟩:=h.is;show 2<=3;decide) (tG (br rfl) h.is) (Sa C (IQ (br rfl) h.is) (by obtain⟨k2,a,k3,c3,b,c,d,f,g,i,lb,j,rfl⟩:=h.is;show 1<2;decide));have e:nU C 1=(18,23):=by
  obtain⟨k2,a,k3,c3,b,c,d,f,g,i,lb,j,rfl⟩:=h.is
  kernel_rfl
 rwa[e]at k
def e36{C:CD}(w:World)(h:uP 0 C w):Calls PL 7 #[bj C.val,bg bp 8] w λe w'=>∃v,e=bq (bi #[v,bg bp 0])/\bB w' v [2,0,1]/\Below w.heap.size w w':=by
 have k:=RO C 8 je Sy w h.at (tG (br rfl) h.is) (by obtain⟨k2,a,k3,c3,b,c,d,f,g,i,lb,j,rfl⟩:=h.is;show 3<=5;decide) (by obtain⟨k2,a,k3,c3,b,c,d,f,g,i,lb,j,rfl⟩:=h.is;show 2<=3;decide) rfl λW l=>tA (br rfl) h.is l;have e:tB je 8 C.n5 C.n4=[2,0,1]:=by
  obtain⟨k2,a,k3,c3,b,c,d,f,g,i,lb,j,rfl⟩:=h.is
  kernel_rfl
 rwa[e]at k
def e37{C:CD}{d:Int}(hd:d=0\/d=1)(w:World)(h:uP d C w):Calls PL 18 #[bj C.val] w λe w'=>∃v,e=bq (bi #[v,bg bp 0])/\(∃b c,v=bm b (Cv d 3).length c)/\(Reads w' v (Cv d 3).length 5 λj=>bg bp (aag.getD j 0))/\Below w.heap.size w w':=by
 have g:C.n4=3/\C.n5=2:=by obtain⟨k2,o,k3,c3,p,q,r,s,t,u,lb,x,rfl⟩:=h.is;exact⟨rfl,rfl⟩
 have k:=Fp C (λW v=>(∃b c,v=bm b (Cv d 3).length c)/\Reads W v (Cv d 3).length 5 λj=>bg bp (aag.getD j 0)) w h.at (tG hd h.is) λW i=>(vC C d hd g.1 g.2 W i λy f=>tA hd h.is f).mono λe w'⟨v,l,a,m⟩=>⟨v,l,⟨vB a,?_⟩,m⟩
 ·grind
 ·rcases hd with rfl|rfl
  ·have n:Cv 0 3=[]:=rfl;unfold kV at a;rw[n]at a⊢;obtain⟨b,c,rfl⟩:=vB a;exact⟨b,c,rfl,λh=>absurd h (aa _)⟩
  ·exact ahQ a aag rfl
def e39{C:CD}{v:Value}(w:World)(h:uP 0 C w)(hv:bB w v [0,1]):Calls PL 19 #[bj C.val,v] w λe w'=>∃a,e=bq (bi #[bj a.val,bg bp 0])/\uP 1 a w'/\Below w.heap.size w w':=by
 obtain⟨k2,l,k3,c3,m,n,o,p,q,r,lb,s,rfl,b⟩:=h;exact(Iw w b hv).mono λe w'⟨q2,d2,q3,d3,q4,d4,q5,d5,c,d,f,g,i,j,k⟩=>⟨_,i,⟨q2,d2,q3,d3,q4,d4,q5,d5,c,d,f,g,rfl,j⟩,k⟩
def e52{C:CD}(w:World)(h:uP 1 C w):Calls PL 20 #[bj C.val] w λe w'=>∃v,e=bq (bi #[v,bo true,bg bp 0])/\bB w' v [0,0]/\Below w.heap.size w w':=by
 obtain⟨k2,b,k3,c3,c,d,f,g,i,j,lb,k,rfl,a⟩:=h;exact II w a
def agk{C:CD}(w:World)(h:uP 0 C w):Calls PL 6 #[bj C.val,bg bp 2,bg bp 5] w λe w'=>∃v,e=bq (bi #[v,bg bp 110,bo true,bg bp 0])/\bB w' v [2,3,0]/\Below w.heap.size w w':=by
 have a:=h.at;obtain⟨k2,b,k3,c3,c,d,f,g,i,j,lb,k,e,_⟩:=h;exact Ba C 5 (br rfl) e w a
def agl{C:CD}(w:World)(h:uP 0 C w):Calls PL 6 #[bj C.val,bg bp 2,bg bp 3] w λe w'=>∃v,e=bq (bi #[v,bg bp 0,bo false,bg bp 0])/\bB w' v []/\Below w.heap.size w w':=by
 have a:=h.at;obtain⟨k2,b,k3,c3,c,d,f,g,i,j,lb,k,e,_⟩:=h;exact Ba C 3 (bs rfl) e w a
def e31{C:CD}(w:World)(h:uP 0 C w):Calls PL 21 #[bj C.val] w λe w'=>∃v,e=bq (bi #[v,bg bp 0])/\bB w' v [0,2]/\Below w.heap.size w w':=by
 have k:=Cr C w h.at (IQ (br rfl) h.is);have e:(qC C C.p.toNat (2 ^ C.p.toNat)).getD []=[0,2]:=by
  obtain⟨k2,a,k3,c3,b,c,d,f,g,i,lb,j,rfl⟩:=h.is
  kernel_rfl
 rwa[e]at k
def agm{C:CD}(w:World)(h:uP 0 C w):Calls PL 18 #[bj C.val] w λe w'=>∃b c,e=bq (bi #[bm b 0 c,bg bp 0])/\Below w.heap.size w w':=
 (e37 (br rfl) w h).mono λe w'⟨v,a,⟨b,c,d⟩,_,f⟩=>⟨b,c,by rw[a,d];rfl,f⟩
def agn{C:CD}(w:World)(h:uP 1 C w):Calls PL 18 #[bj C.val] w λe w'=>∃v,e=bq (bi #[v,bg bp 0])/\(Reads w' v 1 5 λj=>bg bp (aag.getD j 0))/\Below w.heap.size w w':=
 (e37 (bs rfl) w h).mono λe w'⟨v,a,_,b,c⟩=>⟨v,a,b,c⟩
def iO(W:World)(t:TypeId)(m:Nat)(l:List Int)(n:Nat)(hl:l.length=n*m):Reads (W.alloc (bt (l.map λz=>Value.int bp z).toArray t)) (bm (some ⟨W.heap.size,0,none⟩) n n) n m λj=>bg bp (l.getD j 0):=by
 refine⟨_,_,rfl,λ_=>⟨_,_,rfl,by simp,λj a=>?_⟩⟩
 simp_all
attribute [local go_sem] Oper.semAt_some
def NC(P:World->Prop):Prop:=∀W a,P W->Below W.heap.size W a->P a
def iy(W:World):List (World->Prop)->Prop
 |[]=>True
 |P::l=>(P W/\NC P)/\iy W l
def iy.on{W a:World}:∀{l:List (World->Prop)},iy W l->Below W.heap.size W a->iy a l
 |[],_,_=>trivial
 |_::_,h,b=>⟨⟨h.1.2 _ _ h.1.1 b,h.1.2⟩,iy.on h.2 b⟩
def iy.add{W:World}{l:List (World->Prop)}(h:iy W l)(P:World->Prop)(a:P W)(b:NC P):iy W (P::l):=⟨⟨a,b⟩,h⟩
def mE(k:Nat)(x:Obj):NC λW=>W.heap[k]?=some x:=λ_ _ h a=>(a.block _ (ai h)).trans h
def gz(v:Value)(n m:Nat)(f:Nat->Value):NC λW=>Reads W v n m f:=λ_ _ h a=>Reads.on h a
def Lp(d:Int)(C:CD):NC (uP d C):=λ_ _ h a=>h.on a
def SU(w:World):NC λW=>Below w.heap.size w W:=λ_ _ h a=>aP h a
def IV(w:World):Calls PL 5 #[] w (aO (bo true) w):=by
 go_enter (fx (by decide) Tryz.func5),Tryz.ntmps5
 go_upto_region 2 with(go_at_call 12;go_must (refine(EV _).mono ?_);rintro e w0⟨k2,L,k3,c3,M,q,N,r,O,P,lb,Q,rfl,⟨r2,r3,r4,r5,ra,rb⟩,a⟩;have z:Hid (uP 0 (ir k2 L k3 c3 M q N r O P lb Q 0) w0):=aS ⟨k2,L,k3,c3,M,q,N,r,O,P,lb,Q,rfl,⟨r2,r3,r4,r5,ra,rb⟩⟩;have HB:=aS a;clear r2 r3 r4 r5 ra rb a;obtain⟨C,m⟩:∃C,C=ir k2 L k3 c3 M q N r O P lb Q 0:=⟨_,rfl⟩;rw[<-m]at z ⊢;clear m)
 obtain⟨kb,R⟩:∃k,k=w0.heap.size:=⟨_,rfl⟩
 obtain⟨W2,i⟩:∃W:World,W=w0.alloc (bt C.val 27):=⟨_,rfl⟩
 have s:Below w0.heap.size w0 W2:=by rw[i];exact(aT _ _).alloc (ac _) _
 have S:Hid (iy W2 [λW=>W.heap[kb]?=some (bt C.val 27),uP 0 C,λW=>Below w.heap.size w W]):=aS ⟨⟨by rw[i,R];exact au _ _,mE _ _⟩,⟨z.out.on s,Lp _ _⟩,⟨aP HB.out s,SU _⟩,trivial⟩;rw[<-i,<-R];clear i R s z HB
 go_upto_region 3 with(go_at_call 13;go_must (refine(agd _).mono ?_);rintro e w'⟨rfl,rfl⟩)
 go_upto_region 4 with(go_at_call 13;go_must (refine(age _).mono ?_);rintro e w'⟨rfl,rfl⟩)
 obtain⟨b,c,d,f,f4,g⟩:=bf S.out.1.1
 go_upto_region 5 with(go_at_call 14;go_must (refine(agf _ (S.out.2.1.1)).mono ?_);rintro e n⟨rfl,a⟩;have A:=aS (S.out.on a);clear a b c d f f4 g)
 obtain⟨T,hb⟩:∃k,k=n.heap.size:=⟨_,rfl⟩
 obtain⟨W4,i⟩:∃W:World,W=n.alloc (bt #[bg bp 16,bg bp 20] 40):=⟨_,rfl⟩
 have U:=aS ((A.out.on (show Below n.heap.size n W4 by rw[i];exact(aT _ _).alloc (ac _) _)).add (λW=>W.heap[T]?=some (bt #[bg bp 16,bg bp 20] 40)) (by rw[i,hb];exact au _ _) (mE _ _));rw[<-i,<-hb];clear i hb A;obtain⟨b,c,d,f,f4,g⟩:=bf (U.out.2.1.1)
 go_upto_region 6 with(go_at_call 14;go_must (refine(agh _ (U.out.2.2.1.1)).mono ?_);rintro e o⟨rfl,a⟩;have B:=aS (U.out.on a);clear a b c d f f4 g)
 obtain⟨V,hb⟩:∃k,k=o.heap.size:=⟨_,rfl⟩
 obtain⟨W5,i⟩:∃W:World,W=o.alloc (bt #[bg bp 24,bg bp 25] 40):=⟨_,rfl⟩
 have X:=aS ((B.out.on (show Below o.heap.size o W5 by rw[i];exact(aT _ _).alloc (ac _) _)).add (λW=>W.heap[V]?=some (bt #[bg bp 24,bg bp 25] 40)) (by rw[i,hb];exact au _ _) (mE _ _));rw[<-i,<-hb];clear i hb B;obtain⟨b,c,d,f,f4,g⟩:=bf (X.out.2.2.1.1)
 go_upto_region 7 with(go_at_call 15;go_must (refine(agi _ (X.out.2.2.2.1.1)).mono ?_);rintro e w6x⟨rfl,a⟩;have Y:=aS (X.out.on a);clear a b c d f f4 g;obtain⟨b,c,d,f,f4,g⟩:=bf (Y.out.2.2.1.1))
 go_upto_region 8 with(go_at_call 15;go_must (refine(agj _ (Y.out.2.2.2.1.1)).mono ?_);rintro e w7x⟨rfl,a⟩;have Z:=aS (Y.out.on a);clear a b c d f f4 g;obtain⟨b,c,d,f,f4,g⟩:=bf (Z.out.2.2.1.1))
 go_upto_region 9 with(go_at_call 16;go_must (refine(e34 _ (Z.out.2.2.2.1.1)).mono ?_);rintro e w8x⟨v8,rfl,l,a⟩;have K8:=aS ((Z.out.on a).add (λW=>Reads W v8 3 5 λj=>bg bp (SJ.getD j 0)) l (gz _ _ _ _));clear l;clear a b c d f f4 g;obtain⟨b,c,d,f,f4,g⟩:=bf (K8.out.2.2.2.1.1))
 go_upto_region 10 with(go_at_call 17;go_must (refine(e59 _ (K8.out.2.2.2.2.1.1)).mono ?_);rintro e p⟨rfl,a⟩;have D:=aS (K8.out.on a);clear a b c d f f4 g)
 obtain⟨b9,hb⟩:∃k,k=p.heap.size:=⟨_,rfl⟩
 obtain⟨W9,i⟩:∃W:World,W=p.alloc (bt #[bg bp 18,bg bp 23] 40):=⟨_,rfl⟩
 have K9:=aS ((D.out.on (show Below p.heap.size p W9 by rw[i];exact(aT _ _).alloc (ac _) _)).add (λW=>W.heap[b9]?=some (bt #[bg bp 18,bg bp 23] 40)) (by rw[i,hb];exact au _ _) (mE _ _));rw[<-i,<-hb];clear i hb D;obtain⟨b,c,d,f,f4,g⟩:=bf (K9.out.2.2.2.2.1.1)
 go_upto_region 11 with(go_at_call 7;go_must (refine(e36 _ (K9.out.2.2.2.2.2.1.1)).mono ?_);rintro e aul⟨E,rfl,l,a⟩;have Ry:=aS ((K9.out.on a).add (λW=>bB W E [2,0,1]) l (gz _ _ _ _));clear l;clear a b c d f f4 g;obtain⟨b,c,d,f,f4,g⟩:=bf (Ry.out.2.2.2.2.2.1.1))
 go_upto_region 12 with(go_at_call 18;go_must (refine(agm _ (Ry.out.2.2.2.2.2.2.1.1)).mono ?_);rintro e aum⟨Fy,q11,rfl,a⟩;have Tr:=aS (Ry.out.on a);clear a b c d f f4 g;obtain⟨b,c,d,f,f4,g⟩:=bf (Tr.out.2.2.2.2.2.1.1))
 go_upto_region 13 with(go_at_call 19;go_must (refine(e39 _ ((Tr.out.2.2.2.2.2.2.1.1).on ((aT _ _).alloc (ac _) _)) (iO _ 3 1 [0,1] 2 rfl)).mono ?_);rintro e K⟨C1,rfl,hE,a⟩;have F:=aS ((Tr.out.on ((aT _ _).alloc (ac _) _)).on a);have z:=aS hE;clear hE;clear a b c d f f4 g)
 obtain⟨Vv,hb⟩:∃k,k=K.heap.size:=⟨_,rfl⟩
 obtain⟨W12,i⟩:∃W:World,W=K.alloc (bt C1.val 27):=⟨_,rfl⟩
 have t:Below K.heap.size K W12:=by rw[i];exact(aT _ _).alloc (ac _) _
 have VC:=aS (((F.out.on t).add (λW=>W.heap[Vv]?=some (bt C1.val 27)) (by rw[i,hb];exact au _ _) (mE _ _)).add (uP 1 C1) (z.out.on t) (Lp _ _));rw[<-i,<-hb];clear i hb t F z;obtain⟨b,c,d,f,f4,g⟩:=bf (VC.out.2.1.1)
 go_upto_region 14 with(go_at_call 18;go_must (refine(agn _ (VC.out.1.1)).mono ?_);rintro e aun⟨UW,rfl,l,a⟩;have u:=aS ((VC.out.on a).add (λW=>Reads W UW 1 5 λj=>bg bp (aag.getD j 0)) l (gz _ _ _ _));clear l;clear a b c d f f4 g;obtain⟨b,c,d,f,f4,g⟩:=bf (u.out.2.2.1.1))
 go_upto_region 15 with(go_at_call 20;go_must (refine(e52 _ (u.out.2.1.1)).mono ?_);rintro e auo⟨UX,rfl,l,a⟩;have Tq:=aS ((u.out.on a).add (λW=>bB W UX [0,0]) l (gz _ _ _ _));clear l;clear a b c d f f4 g;obtain⟨b,c,d,f,f4,g⟩:=bf (Tq.out.2.2.2.2.2.2.2.2.2.1.1))
 go_upto_region 16 with(go_at_call 6;go_must (refine(agk _ (Tq.out.2.2.2.2.2.2.2.2.2.2.1.1)).mono ?_);rintro e aup⟨H,rfl,l,a⟩;have v:=aS ((Tq.out.on a).add (λW=>bB W H [2,3,0]) l (gz _ _ _ _));clear l;clear a b c d f f4 g;obtain⟨b,c,d,f,f4,g⟩:=bf (v.out.2.2.2.2.2.2.2.2.2.2.1.1))
 go_upto_region 17 with(go_at_call 6;go_must (refine(agl _ (v.out.2.2.2.2.2.2.2.2.2.2.2.1.1)).mono ?_);rintro e auq⟨v16,rfl,l,a⟩;have x:=aS ((v.out.on a).add (λW=>bB W v16 []) l (gz _ _ _ _));clear l;clear a b c d f f4 g;obtain⟨b,c,d,f,f4,g⟩:=bf (x.out.2.2.2.2.2.2.2.2.2.2.2.1.1))
 go_upto_region 18 with(go_at_call 21;go_must (refine(e31 _ (x.out.2.2.2.2.2.2.2.2.2.2.2.2.1.1)).mono ?_);rintro e y⟨I,rfl,l,a⟩;have J:=aS ((x.out.on a).add (λW=>bB W I [0,2]) l (gz _ _ _ _));clear l;clear a b c d f f4 g;obtain⟨b,c,d,f,f4,g⟩:=bf (J.out.2.2.2.2.2.2.2.2.2.2.2.2.1.1))
 clear b c d f f4 g
 go_upto_region 20 with fail
 have KK:=J;have e4:=KK.out.2.2.2.2.2.2.2.2.2.2.2.1.1;have e5:=KK.out.2.2.2.2.2.2.2.2.2.2.1.1;have e9:=KK.out.2.2.2.2.2.2.2.2.1.1;obtain⟨wq,hwq⟩:∃W:World,W=y:=⟨_,rfl⟩
 have E4:=aS e4;have E5:=aS e5;have E9:=aS e9;clear e4 e5 e9 hwq;refine ig (λW=>Below y.heap.size y W) (λ_ _=>True) (λ_=>true) (λ_ _ _=>True) rfl (by kernel_rfl) (λ_ _ _ _ _ _=>trivial) (λ_ _ _ _ _ _ _ _ _=>trivial) (aT _ _).drew ?_
 iterate 49 (
  apply aY
  case hE=>rfl
  case h=>
   intro vs W m hd;have q:=(m.block _ (ai E4.out)).trans E4.out;have r:=(m.block _ (ai E5.out)).trans E5.out;have c9:=(m.block _ (ai E9.out)).trans E9.out;have x0:W.cell? ⟨T,0,none⟩=some (bg bp 16):=by simp[aJ,q]
   have x1:W.cell? ⟨T,1,none⟩=some (bg bp 20):=by simp[aJ,q]
   have x2:W.cell? ⟨V,0,none⟩=some (bg bp 24):=by simp[aJ,r]
   have x3:W.cell? ⟨V,1,none⟩=some (bg bp 25):=by simp[aJ,r]
   have x4:W.cell? ⟨b9,0,none⟩=some (bg bp 18):=by simp[aJ,c9]
   have x5:W.cell? ⟨b9,1,none⟩=some (bg bp 23):=by simp[aJ,c9]
   have q1:=yM;have q2:=Co;clear q r c9
   go_simp
   first
   |(go_at_call 22;refine(fU _ _ _).mono ?_;rintro e W'⟨rfl,a⟩;exact⟨_,rfl,rfl,aP m a⟩)
   |exact rfl
  case hb=>exact P0)
 refine cP λvs W m hd=>?_;have KK:=aS (KK.out.on m);clear hd m
 go_wp2_with (first
  |(go_at_call 22;go_must (refine(fU _ _ _).mono ?_);rintro e w'⟨rfl,a⟩;have KK:=aS (iy.on KK.out a);clear a)
  |(go_at_call 23;go_must (refine(zT v8 _ 3 (λj=>SJ.getD j 0) _ ((iy.on KK.out ((aT _ _).alloc (ac _) _)).2.2.2.2.2.2.2.2.2.1.1) (iO _ 71 5 SJ 3 rfl) (by decide)).mono ?_);rintro e w'⟨rfl,a⟩;have KK:=aS (iy.on (iy.on KK.out ((aT _ _).alloc (ac _) _)) a);clear a)
  |(go_at_call 24;go_must (refine(Cp E _ 3 (λj=>[2,0,1].getD j 0) _ ((iy.on KK.out ((aT _ _).alloc (ac _) _)).2.2.2.2.2.2.2.1.1) (iO _ 38 1 [2,0,1] 3 rfl) (by decide)).mono ?_);rintro e w'⟨rfl,a⟩;have KK:=aS (iy.on (iy.on KK.out ((aT _ _).alloc (ac _) _)) a);clear a)
  |(go_at_call 25;go_must (refine(vS UW _ 1 (λj=>aag.getD j 0) _ ((iy.on KK.out ((aT _ _).alloc (ac _) _)).2.2.2.2.1.1) (iO _ 75 5 aag 1 rfl) (by decide)).mono ?_);rintro e w'⟨rfl,a⟩;have KK:=aS (iy.on (iy.on KK.out ((aT _ _).alloc (ac _) _)) a);clear a))
 refine(pI UX _ 2 (λj=>[0,0].getD j 0) _ ((iy.on KK.out ((aT _ _).alloc (ac _) _)).2.2.2.1.1) (iO _ 3 1 [0,0] 2 rfl) (by decide)).mono ?_;rintro e w1x⟨rfl,a⟩;have KK:=aS (iy.on (iy.on KK.out ((aT _ _).alloc (ac _) _)) a);clear a;go_wp2;refine(pI H _ 3 (λj=>[2,3,0].getD j 0) _ ((iy.on KK.out ((aT _ _).alloc (ac _) _)).2.2.1.1) (iO _ 3 1 [2,3,0] 3 rfl) (by decide)).mono ?_;rintro e w2x⟨rfl,a⟩;have KK:=aS (iy.on (iy.on KK.out ((aT _ _).alloc (ac _) _)) a);clear a;go_wp2;refine(pI I _ 2 (λj=>[0,2].getD j 0) _ ((iy.on KK.out ((aT _ _).alloc (ac _) _)).1.1) (iO _ 3 1 [0,2] 2 rfl) (by decide)).mono ?_;rintro e w3x⟨rfl,a⟩;have KK:=aS (iy.on (iy.on KK.out ((aT _ _).alloc (ac _) _)) a);clear a;go_wp2
 go_ret
 exact⟨rfl,KK.out.2.2.2.2.2.2.2.2.2.2.2.2.2.2.1.1⟩
end Go.Proofs
namespace Go.Proofs
def acN(f:Int->Int->Int)(l:List Int):Nat->Int
 |0=>0
 |i+1=>acN f l i+f (l.getD i 0) (l.getD (i+1) 0)
def aen(f:Int->Int->Int)(l:List Int)(b:Int):∀i,i<l.length->acN f (l++[b]) i=acN f l i
 |0,_=>rfl
 |i+1,h=>by
  have e1:(l++[b]).getD i 0=l.getD i 0:=by simp only[ap];rw[aq (by omega)]
  have a:(l++[b]).getD (i+1) 0=l.getD (i+1) 0:=by simp only[ap];rw[aq (by omega)]
  simp only[acN,e1,a,aen f l b i (by omega)]
def xu.alN{E:Int->Int->Int->Prop}{f:Int->Int->Int}(hf:∀a b d,E a b d->f a b=d){s:Int}{l:List Int}{a n:Int}(h:xu E s l a n) :
 0<l.length/\l.getD 0 0=s/\l.getD (l.length-1) 0=a/\(∀i,i+1<l.length->E (l.getD i 0) (l.getD (i+1) 0) (f (l.getD i 0) (l.getD (i+1) 0)))/\acN f l (l.length-1)=n:=by
 induction h with
 |start=>exact⟨by simp,rfl,rfl,λi h=>by simp at h,rfl⟩
 |@step l a n b d t g k=>
  obtain⟨m,o,j,p,q⟩:=k;have c:∀i,i<l.length->(l++[b]).getD i 0=l.getD i 0:=λi hi=>by simp only[ap];rw[aq hi]
  have hb:(l++[b]).getD l.length 0=b:=by simp[ap]
  have hl:(l++[b]).length-1=l.length:=by simp
  refine⟨by simp,by rw[c 0 m];exact o,by rw[hl];exact hb,λi hi=>?_,?_⟩
  ·by_cases h:i+1<l.length
   ·rw[c i (by omega),c (i+1) h];exact p i h
   ·have r:i+1=l.length:=by simp at hi;omega
    have e:i=l.length-1:=by omega
    rw[c i (by omega),r,hb,e,j,hf _ _ _ g];exact g
  ·have e:l.length=(l.length-1)+1:=by omega
   rw[hl,e];show acN f (l++[b]) (l.length-1)+f ((l++[b]).getD (l.length-1) 0) ((l++[b]).getD (l.length-1+1) 0)=_;rw[aen f l b _ (by omega),q,c _ (by omega),j,<-e,hb,hf _ _ _ g]
def xu.more{E c:Int->Int->Int->Prop}(hE:∀a b d,E a b d->c a b d){s:Int}{l:List Int}{a n:Int}(h:xu E s l a n):xu c s l a n:=by
 induction h with
 |start=>exact .start
 |step _ e f=>exact .step f (hE _ _ _ e)
def s9.more{E c:Int->Int->Int->Prop}(hE:∀a b d,E a b d->c a b d){s a:Int}{x:F5}{r:Option F5}(h:s9 E s a (some x))(e:s9 c s a r):∃y,r=some y/\y.2<=x.2:=by
 cases r with
 |none=>exact(e _ _ (h.1.more hE)).elim
 |some y=>exact⟨y,rfl,aav (e.2 _ _ (h.1.more hE))⟩
def xu.via{E:Int->Int->Int->Prop}{p q d:Int}(f:E p q d){l:List Int}{a n:Int}(h:xu E q l a n):xu E p (p::l) a (n+d):=by
 induction h with
 |start=>have:=xu.step (xu.start (E:=E) (s:=p)) f;simpa using this
 |@step l a n b c _ e g=>have:=xu.step g e;rw[List.cons_append]at this;rwa[show n+d+c=n+c+d by omega]at this
def s9.via{E:Int->Int->Int->Prop}{p q d a:Int}(b:E p q d){y:F5}{r:Option F5}(h:s9 E q a (some y))(c:s9 E p a r):∃x,r=some x/\x.2<=y.2+d:=by
 cases r with
 |none=>exact(c _ _ (h.1.via b)).elim
 |some x=>exact⟨x,rfl,aav (c.2 _ _ (h.1.via b))⟩
def CD.mb(C:CD)(K:List Int)(a b:Int):Nat->Nat->Int
 |0,_=>0
 |k+1,i=>if(((C.x3 i).1=a/\(C.x3 i).2.1=b)\/((C.x3 i).1=b/\(C.x3 i).2.1=a))/\((i:Nat):Int)∉K then(C.x3 i).2.2 else C.mb K a b k (i+1)
def abR(C:CD)(K:List Int)(a b:Int):∀k i,(∃j,i<=j/\j<i+k/\((((C.x3 j).1=a/\(C.x3 j).2.1=b)\/((C.x3 j).1=b/\(C.x3 j).2.1=a))/\((j:Nat):Int)∉K)/\C.mb K a b k i=(C.x3 j).2.2)
 \/(∀j,i<=j->j<i+k->¬((((C.x3 j).1=a/\(C.x3 j).2.1=b)\/((C.x3 j).1=b/\(C.x3 j).2.1=a))/\((j:Nat):Int)∉K))
 |0,i=>bs λj c d=>by omega
 |k+1,i=>by
  by_cases h:(((C.x3 i).1=a/\(C.x3 i).2.1=b)\/((C.x3 i).1=b/\(C.x3 i).2.1=a))/\((i:Nat):Int)∉K
  ·exact br ⟨i,ac _,by omega,h,by rw[CD.mb,if_pos h]⟩
  ·rcases abR C K a b k (i+1) with⟨j,c,d,f,g⟩|l
   ·exact br ⟨j,by omega,by omega,f,by rw[CD.mb,if_neg h];exact g⟩
   ·refine bs λj c d=>?_;by_cases e:j=i
    ·rw[e];exact h
    ·exact l j (by omega) (by omega)
def abS{C:CD}(hc:C.cx=0){P:Int->Prop}{K:List Int}(c:∀n,n∈K↔P n){a b d:Int}(h:C.edge P a b d):C.mb K a b C.n3 0=d:=by
 obtain⟨i,m,f,o,g⟩:=id h
 rcases abR C K a b C.n3 0 with⟨j,_,p,e,k⟩|l
 ·rw[k];exact abl hc a b _ _ ⟨j,by omega,λq=>e.2 ((c _).2 q),rfl,e.1⟩ h
 ·exact(l i (ad _) (by omega) ⟨g,λq=>f ((c _).1 q)⟩).elim
def ah4{C:CD}{P c:Int->Prop}(h:∀n,c n->P n):∀a b d,C.edge P a b d->C.edge c a b d:=λ_ _ _⟨i,e,f,g⟩=>⟨i,e,λq=>f (h _ q),g⟩
open Go.RowKit
set_option maxRecDepth 100000
set_option maxHeartbeats 4000000
def contains_iff{l:List Int}{x:Int}:l.contains x=true↔∃q,q<l.length/\l.getD q 0=x:=by
 rw[List.contains_iff_mem,List.mem_iff_getElem];constructor
 ·rintro⟨q,a,e⟩;exact⟨q,a,by rw[ap,ar a];exact e⟩
 ·rintro⟨q,a,e⟩;rw[ap,ar a]at e;exact⟨q,a,e⟩
def ahR(b:Option Addr)(n c:Nat)(f:Nat->Int)(x:Int)(w:World)(h:0<n->∃k o,b=some ⟨k,o,none⟩/\k<w.heap.size/\∀j,j<n->w.cell? ⟨k,o+j,none⟩=some (bg bp (f j)))(m:n<=1000) :
 Calls PL 9 #[bm b n c,bg bp x] w λe w'=>e=bq (bo ((aw n).any λq=>f q==x))/\w=w':=by
 have A:=aS h;clear h
 go_enter (fx (by decide) Tryz.func9),Tryz.ntmps9
 go_wp2
 go_loop [5] (λv=>∃q:Nat,q<=n/\v=bg bp q/\(∀j,j<q->f j≠x)) (λv=>n-(intOf v).toNat)
 case atStart=>exact⟨0,ad _,rfl,λj d=>absurd d (ae _)⟩
 case round=>
  obtain⟨q,p,rfl,g⟩:=hrel;have E:=aS g;clear g;by_cases i:q<n
  ·obtain⟨k,o,rfl,r,hc⟩:=A.out (by omega);have a0:w.cell? ⟨k,o+q,none⟩=some (bg bp (f q)):=hc q (by omega);clear hc;have s:(q:Int)<n:=by omega
   by_cases a:f q=x
   ·have l:(f q==x)=true:=by rw[a];exact beq_self_eq_true x
    have Z:=aS a;clear a
    go_wp2
    go_ret
    refine⟨?_,rfl⟩;have:((aw n).any λq=>f q==x)=true:=List.any_eq_true.2 ⟨q,List.mem_range.2 i,l⟩;rw[this];rfl
   ·have l:(f q==x)=false:=by simpa using a
    have Z:=aS a;clear a
    go_wp2
    refine⟨⟨q+1,i,by go_num,λj d=>?_⟩,by simp only[intOf];omega⟩;by_cases e:j=q
    ·rw[e];exact Z.out
    ·exact E.out j (by omega)
  ·obtain rfl:q=n:=by omega
   go_wp2
   go_ret
   refine⟨?_,rfl⟩;have:((aw q).any λq=>f q==x)=false:=by
    rw[List.any_eq_false];intro j d;have:=E.out j (List.mem_range.1 d);simpa using this
   rw[this];rfl
def ac6{l:List Int}{x:Int}:((aw l.length).any λq=>l.getD q 0==x)=l.contains x:=by
 rw[Bool.eq_iff_iff,contains_iff,List.any_eq_true];constructor
 ·rintro⟨q,a,e⟩;exact⟨q,List.mem_range.1 a,by simpa using e⟩
 ·rintro⟨q,a,e⟩;exact⟨q,List.mem_range.2 a,by rw[e];exact beq_self_eq_true x⟩
def abC{l:List Int}{v:Value}(x:Int){w:World}(h:bB w v l)(a:l.length<=1000):Calls PL 9 #[v,bg bp x] w λe w'=>e=bq (bo (l.contains x))/\w=w':=by
 obtain⟨b,c,rfl,h⟩:=h
 have:=ahR b l.length c (λj=>l.getD j 0) x w (λd=>by
  obtain⟨k,o,e,f,hc⟩:=h d
  exact⟨k,o,e,f,λj g=>hc j (by omega)⟩) a
 rwa[ac6]at this
def aeo(C:CD){l:List Int}{v:Value}{w:World}(hA:C.At w)(h:bB w v l)(A:l.length<=1000)(a b:Int)(d:a≠b) :
 Calls PL 8 #[bj C.val,v,bg bp a,bg bp b] w λe w'=>e=bq (bg bp (C.mb l a b C.n3 0))/\Below w.heap.size w w':=by
 have I:=aS hA;have m3:=hA.m3;have J:Hid (KB C w (w.alloc (bt C.val 27))):=aS ⟨au _ _,(aT _ _).alloc (ac _) _⟩;have K:=aS h;have L:=aS A;have r:=aS d;obtain⟨B,c,rfl,_⟩:=h;clear hA A d
 go_enter (fx (by decide) Tryz.func8),Tryz.ntmps8
 go_wp2
 go_loopw [9] (λu wr=>∃i:Nat,i<=C.n3/\u=bg bp i/\C.mb l a b C.n3 0=C.mb l a b (C.n3-i) i/\KB C w wr) (λu _=>C.n3-(intOf u).toNat)
 case atStart=>exact⟨0,ad _,rfl,rfl,J.out⟩
 case round=>
  obtain⟨i,hi,rfl,hg,D⟩:=hrel;have KR:=aS D;have E:=aS hg;clear D hg;have HH:Hid (∀W x,KB C w W->Calls PL 9 #[bm B l.length c,bg bp x] W λe w'=>e=bq (bo (l.contains x))/\W=w'):=aS λW x k=>abC x (K.out.on k.low) L.out;obtain⟨P,Q,R,M,f4,S⟩:=bf KR.out.box;by_cases g:i<C.n3
  ·have T:(i:Int)<C.n3:=by omega
   have hA:=I.out.below KR.out.low;have k0:=hA.Es i g;have k1:=hA.Et i g;have k2:=hA.Eu i g;have N:=hA.h3;have F:=hA.s3 (by omega);clear hA;rw[F]at M;clear F;have hs:C.n3-i=(C.n3-(i+1))+1:=by omega
   have O:=aS hs;clear hs;obtain⟨x1,j⟩:∃t,(C.x3 i).1=t:=⟨_,rfl⟩
   obtain⟨x2,y⟩:∃t,(C.x3 i).2.1=t:=⟨_,rfl⟩
   obtain⟨x3,m⟩:∃t,(C.x3 i).2.2=t:=⟨_,rfl⟩
   rw[j]at k0;rw[y]at k1;rw[m]at k2;obtain⟨p,z⟩:∃t,l.contains (i:Int)=t:=⟨_,rfl⟩
   have n:Hid (((((x1=a/\x2=b)\/(x1=b/\x2=a))/\p=false)->C.mb l a b C.n3 0=x3)/\(¬(((x1=a/\x2=b)\/(x1=b/\x2=a))/\p=false)->C.mb l a b C.n3 0=C.mb l a b (C.n3-(i+1)) (i+1))):=aS (by
    have:((i:Nat):Int)∉l↔p=false:=by rw[<-z];simp
    rw[E.out,O.out,CD.mb,j,y,m]
    exact⟨λh=>if_pos ⟨h.1,this.2 h.2⟩,λh=>if_neg λq=>h ⟨q.1,this.1 q.2⟩⟩)
   have s:Hid (∀W,KB C w W->Calls PL 9 #[bm B l.length c,bg bp i] W λe w'=>e=bq (bo p)/\W=w'):=aS λW k=>by have:=HH.out W i k;rwa[z]at this
   clear j y m z HH;have f:Hid (∀o,KB C w (wr.alloc o)):=aS λo=>KR.out.alloc o;have d:=r.out;by_cases q1:x1=a
   ·subst q1;have H:(x1==b)=false:=by simpa using d
    by_cases q2:x2=b
    ·subst q2;clear H d;cases p
     ·go_wp2_with (go_at_call 9;refine(s.out _ (f.out _)).mono ?_;rintro e w'⟨rfl,rfl⟩)
      go_ret
      refine⟨?_,(f.out _).low⟩;rw[n.out.1 (by simp)];rfl
     ·go_wp2_with (go_at_call 9;refine(s.out _ (f.out _)).mono ?_;rintro e w'⟨rfl,rfl⟩)
      exact⟨⟨i+1,g,by go_num,n.out.2 (by simp),f.out _⟩,by simp only[intOf];omega⟩
    ·have U:(x2==b)=false:=by simpa using q2
     clear d
     go_wp2
     exact⟨⟨i+1,g,by go_num,n.out.2 (by rintro⟨⟨_,e⟩|⟨e,_⟩,_⟩<;>first|exact q2 e|exact r.out e),f.out _⟩,by simp only[intOf];omega⟩
   ·have H:(x1==a)=false:=by simpa using q1
    clear d;by_cases q3:x1=b
    ·subst q3;by_cases q4:x2=a
     ·subst q4;cases p
      ·go_wp2_with (go_at_call 9;refine(s.out _ (f.out _)).mono ?_;rintro e w'⟨rfl,rfl⟩)
       go_ret
       refine⟨?_,(f.out _).low⟩;rw[n.out.1 (by simp)];rfl
      ·go_wp2_with (go_at_call 9;refine(s.out _ (f.out _)).mono ?_;rintro e w'⟨rfl,rfl⟩)
       exact⟨⟨i+1,g,by go_num,n.out.2 (by simp),f.out _⟩,by simp only[intOf];omega⟩
     ·have V:(x2==a)=false:=by simpa using q4
      go_wp2
      exact⟨⟨i+1,g,by go_num,n.out.2 (by rintro⟨⟨e,_⟩|⟨_,e⟩,_⟩<;>first|exact q1 e|exact q4 e),f.out _⟩,by simp only[intOf];omega⟩
    ·have X:(x1==b)=false:=by simpa using q3
     go_wp2
     exact⟨⟨i+1,g,by go_num,n.out.2 (by rintro⟨⟨e,_⟩|⟨e,_⟩,_⟩<;>first|exact q1 e|exact q3 e),f.out _⟩,by simp only[intOf];omega⟩
  ·obtain rfl:i=C.n3:=by omega
   go_wp2
   go_ret
   refine⟨?_,KR.out.low⟩;rw[E.out,Nat.sub_self];rfl
def abd{P:Program}{w:World}(base:Nat)(t ty e:TypeId)(i:TypeInfo)(size:Nat)(b:P.underlying t=some (.slice e))(hi:P.info? e=some i)(v:Value)(n:Nat)(xs:List Value)(d:w.ownsRow base e size v n xs)(c:Nat) :
 (a5 #[t,t] ty #[v,bm none 0 c]).run P w=.ok v w:=by
 rcases d.2 with⟨rfl,rfl⟩|⟨g,cap,f,rfl,_,_,a,_⟩
 ·simp[a5,run_underlying b,sizeOf,typeInfo,hi,a6,a7]
 ·simp[a5,run_underlying b,sizeOf,typeInfo,hi,a6,a7,a,storeCells]
def aez{T e:TypeId}(f:PL.underlying T=some (.slice e))(A:(PL.info? e).map (λi=>(i.zero,i.size,i.bytes))=some (some (bg bp 0),1,8)){ops:Array Oper}{rest:List Oper}{o:Oper}{a:Act}{Q:Exit->Act->World->Prop}{w:World}(g:o.guard=none)(s x:Operand)
 (n:o.op=.call { callee:=.builtin .append,args:=#[s,x],argTypes:=#[T,T] }) (base:Nat) (v:Value) (l m:List Int) (b:Option Addr) (c:Nat) (hs:a.eval s=v) (d:eO e w base v l)
 (p:a.eval x=bm b m.length c) (q:0<m.length->∃k o,b=some ⟨k,o,none⟩/\∀j,j<m.length->w.cell? ⟨k,o+j,none⟩=some (bg bp (m.getD j 0))) (hl:l.length<=1000) (O:m.length<=1000) (r:base<=w.heap.size)
 (h:∀v' w',eO e w' base v' (l++m)->Below base w w'->wpList PL ops Q rest (a.put o.dst v') w'):wpList PL ops Q (o::rest) a w:=by
 obtain⟨t,hi,B,C,D⟩:=info_parts A
 cases b with
 |none=>
  have E:m.length=0:=by
   rcases Nat.eq_zero_or_pos m.length with h|h
   ·exact h
   ·obtain⟨_,_,e,_⟩:=q h;cases e
  obtain rfl:m=[]:=List.length_eq_zero_iff.1 E;refine wpList_plain g λK F=>?_;have H:=abd (w:=w) base T o.type e t 1 f hi v _ _ d c;unfold Oper.wp;simp[execOp,n,resolve,invoke,builtin,hs,p,H,Result.andThen];exact F _ _ (h v w (by rwa[List.append_nil]) (aT _ _))
 |some I=>
  refine wpList_append_own _ g s x T n base e t (bg bp 0) 1 8 f hi B C D rfl (by decide) v l.length _ hs d I m.length c (m.map λy=>bg bp y) p (by simp) (λj u z=>?_) (by simp[Value.oneCell']) (by simp only[maxLen];omega) (by omega) r λv' w' J L _=>?_
  ·rw[List.getElem?_map]at z;obtain⟨y,ey,rfl⟩:=Option.map_eq_some_iff.1 z;have M:j<m.length:=(List.getElem?_eq_some_iff.1 ey).1;obtain⟨k,P,e1,N⟩:=q (by omega);cases e1;have:=N j M;rw[ap,ey]at this;simp only[Addr.add];split<;>simp_all
  ·refine h v' w' ?_ ((aT base w).grown L r (cZ d));unfold eO;rw[aB,List.map_append];exact J
def CD.abe(C:CD)(i:Nat):List Int:=(aw (C.x4 i).ln).map λj=>(C.x4 i).lane j
def CD.clL(C:CD)(m:Int):Nat->List Int
 |0=>[]
 |i+1=>if kU C.tab i m C.n5 0 false≠2 then C.clL m i++C.abe i else C.clL m i
def L0(C:CD)(i:Nat):(C.abe i).length=(C.x4 i).ln:=by simp[CD.abe]
def ah5(C:CD){i j:Nat}(h:j<(C.x4 i).ln):(C.abe i).getD j 0=(C.x4 i).lane j:=by simp[CD.abe,ap,h]
def ac7(C:CD)(m:Int)(n:Int):∀p,n∈C.clL m p↔C.ClP m p n
 |0=>by simp only[CD.clL,List.not_mem_nil,false_iff];rintro⟨i,h,_⟩;omega
 |p+1=>by
  have b:=ac7 C m n p;have c:n∈C.abe p↔∃j,j<(C.x4 p).ln/\(C.x4 p).lane j=n:=by simp[CD.abe]
  have:C.ClP m (p+1) n↔C.ClP m p n\/(kU C.tab p m C.n5 0 false≠2/\∃j,j<(C.x4 p).ln/\(C.x4 p).lane j=n):=by
   constructor
   ·rintro⟨i,d,a⟩;by_cases e:i=p
    ·exact bs (e▸a)
    ·exact br ⟨i,by omega,a⟩
   ·rintro(⟨i,d,a⟩|h)
    ·exact⟨i,by omega,a⟩
    ·exact⟨p,by omega,h⟩
  rw[this,CD.clL,<-b,<-c];by_cases h:kU C.tab p m C.n5 0 false≠2
  ·rw[if_pos h,List.mem_append];simp[h]
  ·rw[if_neg h];simp[h]
def ac9{C:CD}{w:World}(h:C.At w)(m:Int):∀p,p<=C.n4->(C.clL m p).length<=p*20
 |0,_=>by simp[CD.clL]
 |p+1,a=>by
  have:=ac9 h m p (by omega);have:=(h.cu p (by omega)).2;rw[CD.clL]
  split
  ·rw[aB,L0];omega
  ·omega
def abD(C:CD)(s m:Int)(w:World)(h:C.At w)(hc:C.cx=0)(hs:0<=s/\s<C.p)(i:bO m 0 999=true) :
 Calls PL 6 #[bj C.val,bg bp s,bg bp m] w λe w'=>∃(b:Option Addr)(c:Nat)(l:List Int)(L:Int)(f:Bool),e=bq (bi #[bm b l.length c,bg bp L,bo f,bg bp 0])/\bB w' (bm b l.length c) l/\Below w.heap.size w w'/\(f=true/\s9 (C.edge (C.Cl m)) s 0 (some (l,L))\/f=false/\s9 (C.edge (C.Cl m)) s 0 none/\l=[]/\L=0):=by
 refine(abB C s m w h hc hs i).mono ?_;rintro e w'⟨r,a,d,g⟩
 cases r with
 |none=>
  subst d;exact⟨none,0,[],0,false,rfl,⟨none,0,rfl,λh=>absurd h (ae _)⟩,g,bs ⟨rfl,a,rfl,rfl⟩⟩
 |some x=>
  obtain⟨b,c,rfl,j⟩:=d;exact⟨b,c,x.1,x.2,true,rfl,j,g,br ⟨rfl,a⟩⟩
open Go.Shelf
attribute [local go_sem] Oper.semAt_some
def CD.ap7(C:CD)(f:Nat->iJ)(g c:Nat):CD:={ C with b4:=some ⟨g,0,none⟩,k4:=g,o4:=0,c4:=c,x4:=f }
def CD.ahS(C:CD):∀u∈C.abZ,u.oneCell'=true:=by
 intro u a;obtain⟨i,_,h⟩:=List.mem_flatMap.1 a;exact acy _ u h
end Go.Proofs
namespace Go.Proofs
open Go.RowKit
def aaz(q:Nat)(x:Nat->iJ)(i:Nat):iJ:={ x i with lb:=if i=q then none else(x i).lb,ln:=if i=q then 0 else(x i).ln,lc:=if i=q then 0 else(x i).lc }
abbrev CD.bare(C:CD)(q g c:Nat):CD:=C.ap7 (aaz q C.x4) g c
def ale{C:CD}{w W:World}{q g c:Nat}(h:C.At w)(d:Below w.heap.size w W)(hg:g<W.heap.size)(b:∀j,j<C.n4->∀r,r<12->W.cell? ⟨g,j*12+r,none⟩=(CO (aaz q C.x4 j))[r]?):(C.bare q g c).At W:=by
 have k:=h.below d;refine⟨k.m2,k.m3,k.m4,k.m5,k.h2,k.h3,hg,k.h5,k.s2,k.s3,λ_=>rfl,k.s5,k.Ep,k.Er,k.Es,k.Et,k.Eu,λi hi=>?_,λi hi=>?_,λi hi j e f=>?_,λi hi=>?_,λi hi hl=>?_,λi hi j a=>?_,k.nm5,k.FI,k.HU,k.J6⟩
 ·have:=k.cu i hi;refine⟨this.1,?_⟩;show(if i=q then 0 else(C.x4 i).ln)<=20
  split
  ·omega
  ·exact this.2
 ·show W.cell? ⟨g,0+i*12,none⟩=_;rw[ab];exact b i hi 0 (by omega)
 ·show W.cell? ⟨g,0+i*12+j,none⟩=_;rw[ab,b i hi j (by omega),H8 _ e f];rfl
 ·show W.cell? ⟨g,0+i*12+11,none⟩=_;rw[ab,b i hi 11 (by omega)];rfl
 ·have hl:0<(if i=q then 0 else(C.x4 i).ln):=hl;show(if i=q then none else(C.x4 i).lb)=some ⟨(C.x4 i).lk,(C.x4 i).lo,none⟩/\(C.x4 i).lk<W.heap.size
  split at hl
  ·omega
  ·rename_i h;rw[if_neg h];exact k.l4 i hi hl
 ·have a:j<(if i=q then 0 else(C.x4 i).ln):=a;show W.cell? ⟨(C.x4 i).lk,(C.x4 i).lo+j,none⟩=some (bg bp ((C.x4 i).lane j))
  split at a
  ·omega
  ·exact k.J5 i hi j a
def ahT{p:Int}{a b q i:Nat}{x:Nat->iJ}(h:gM p a b x i=0):gM p a b (aaz q x) i=0:=by
 have c:((aw i).map λj=>(aaz q x j).name)=(aw i).map λj=>(x j).name:=rfl;unfold gM at h⊢;rw[c]
 show(if iH (x i).name ((aw i).map λj=>(x j).name)=0 then
  (if eK ((x i).n 1) ((x i).n 2) 1 90&&eK ((x i).n 3) ((x i).n 4) (-90) 90 then
    (if(x i).n 1<(x i).n 4\/(x i).n 1 < -(x i).n 3 then 10 else
      if bO ((x i).n 5) 0 (a-1)&&bO ((x i).n 6) 0 (p-1) then
       (if eK ((x i).n 7) ((x i).n 8) 1 60&&eK ((x i).n 9) ((x i).n 10) 0 60 then ia (if i=q then 0 else(x i).ln) (fy b (x i).lane) else 1)
      else 6)
  else 1)
 else iH (x i).name ((aw i).map λj=>(x j).name))=0
 by_cases e:i=q
 ·rw[if_pos e]
  repeat' split at h
  all_goals first
   |(cases h;done)
   |(exact absurd h (by assumption))
   |(simp_all [ia];done)
 ·rw[if_neg e];exact h
def afL{C:CD}(q g c:Nat)(hc:C.cx=0):(C.bare q g c).cx=0:=by
 have d:∀j,j<5->C.dP j=0:=ck hc;refine cz λj b=>?_;have a:=d j b
 match j,b with
 |0,_=>exact a
 |1,_=>exact a
 |2,_=>exact a
 |3,_=>
  show kA C.p C.n2 C.n3 C.n4 (aaz q C.x4)=0;have a:kA C.p C.n2 C.n3 C.n4 C.x4=0:=a;unfold kA at a⊢
  split at a
  ·rename_i hb;rw[if_pos hb];exact cz λi hi=>ahT (ck a i hi)
  ·cases a
 |4,_=>exact a
def ahU(C:CD)(q g c:Nat):(C.bare q g c).tab=C.tab:=by
 unfold CD.tab;exact congrArg (λf=>acv f _ _ _ _) rfl
def alg(C:CD)(q g c:Nat)(m:Int)(n:Int)(h:(C.bare q g c).Cl m n):C.Cl m n:=by
 obtain⟨i,d,b,j,a,e⟩:=h;rw[ahU]at b;have a:j<(if i=q then 0 else(C.x4 i).ln):=a;refine⟨i,d,b,j,?_,e⟩
 split at a
 ·omega
 ·exact a
def abT{C:CD}{q g c:Nat}{m s:Int}{x:F5}{r:Option F5}(h:s9 (C.edge (C.Cl m)) s 0 (some x))(e:s9 ((C.bare q g c).edge ((C.bare q g c).Cl m)) s 0 r):∃y,r=some y/\y.2<=x.2:=
 s9.more (λa b d f=>ah4 (alg C q g c m) a b d f) h e
end Go.Proofs
namespace Go.Proofs
def xu.cut{E:Int->Int->Int->Prop}(hE:∀a b d,E a b d->0<d){s:Int}{l:List Int}{a n:Int}(h:xu E s l a n):∀{i j},i<j->j<l.length->l.getD i 0=l.getD j 0->∃l' n',xu E s l' a n'/\n'<n:=by
 induction h with
 |start=>intro i j q g _;simp at g;omega
 |@step l a n b d m r x=>
  intro i j q g c;have hd:=hE _ _ _ r;have o:∀k,k<l.length->(l++[b]).getD k 0=l.getD k 0:=λk y=>by simp only[ap];rw[aq y]
  by_cases t:j<l.length
  ·rw[o i (by omega),o j t]at c;obtain⟨l',n',f,z⟩:=x q t c;exact⟨_,_,.step f r,by omega⟩
  ·have A:j=l.length:=by simp at g;omega
   have hb:(l++[b]).getD l.length 0=b:=by simp[ap]
   rw[A,hb,o i (by omega)]at c;have hi:i<l.length:=by omega
   by_cases hl:i+1=l.length
   ·have e:l.getD (l.length-1) 0=a:=by
     obtain⟨u,rfl⟩:=m.last;simp[ap]
    have B:i=l.length-1:=by omega
    rw[B,e]at c;subst c;exact⟨_,_,m,by omega⟩
   ·have C:l.take (i+1)≠[]:=by
     intro e;have:=congrArg aF e;rw[List.length_take,aI]at this;omega
    have p:l.drop (i+1)≠[]:=by
     intro e;have:=congrArg aF e;rw[List.length_drop,aI]at this;omega
    obtain⟨D,n',f,z⟩:=m.pre hE (List.take_append_drop (i+1) l).symm C p;have:D=l.getD i 0:=by
     obtain⟨u,v⟩:=f.last;have F:=congrArg aF v;have w:(l.take (i+1))[i]?=l[i]?:=ao (by omega);rw[v]at w;simp at F;have H:u.length=i:=by omega
     rw[ap,<-w,<-H];simp
    rw[this,c]at f;exact⟨_,_,f,by omega⟩
def alh{l:List Int}(b:∀i,i<l.length->0<=l.getD i 0/\l.getD i 0<6)(c:∀i j,i<j->j<l.length->l.getD i 0≠l.getD j 0):l.length<=6:=by
 have key:∀k,k<=l.length->abO (l.take k)+k<=6:=by
  intro k
  induction k with
  |zero=>intro _;exact(by decide:abO []+0<=6)
  |succ k d=>
   intro m;have n:=d (by omega);have e:l.take (k+1)=l.take k++[l.getD k 0]:=by
    rw[List.take_add_one,ar (by omega)];simp[ap,show k<l.length by omega]
   have a:l.getD k 0∉l.take k:=by
    intro a;obtain⟨q,f,g⟩:=List.mem_iff_getElem.1 a;have h:q<k:=by simp at f;omega
    refine c q k h (by omega) ?_;rw[<-g];simp[ap,show q<l.length by omega]
   have:=aaS (b k (by omega)).1 (b k (by omega)).2 a;rw[e];omega
 have:=key l.length (ac _);omega
def xu.all{E:Int->Int->Int->Prop}{Q:Int->Prop}(hE:∀a b d,E a b d->Q b){s:Int}(hs:Q s){l:List Int}{a n:Int}(h:xu E s l a n):∀x∈l,Q x:=by
 induction h with
 |start=>intro x c;rw[List.mem_singleton.1 c];exact hs
 |step _ e f=>
  intro x c
  rcases List.mem_append.1 c with h|h
  ·exact f x h
  ·rw[List.mem_singleton.1 h];exact hE _ _ _ e
def s9.six{C:CD}(hc:C.cx=0){P:Int->Prop}{s L:Int}(hs:0<=s/\s<C.p){l:List Int}(h:s9 (C.edge P) s 0 (some (l,L))):l.length<=6:=by
 have n:=(H9 hc).2;have c:=h.1.all (Q:=λx=>0<=x/\x<6) (λa b d f=>by have:=(NQ hc f).2.1;omega) (by omega);refine alh (λi hi=>?_) λi j g k e=>?_
 ·have:=c _ (List.getElem_mem hi);rw[ap,ar hi];exact this
 ·obtain⟨o,n',m,q⟩:=h.1.cut (sx hc) g k e;have:=aav (h.2 _ _ m);simp only at this;omega
open Go.RowKit
structure JBo(C:CD)(w:World)(r0 g c:Nat)(f:Nat->iJ)(W:World):Prop where
 kb:KB C w W
 two:W.heap[r0]?=some (bt #[bg bp C.l,bg bp C.p,bm C.b2 C.n2 C.c2,bm C.b3 C.n3 C.c3,bm (some ⟨g,0,none⟩) C.n4 c,bm C.b5 C.n5 C.c5] 27)
 ne:w.heap.size<r0/\r0<g
 row:∃cur,W.heap[g]?=some (bt cur 42)/\C.n4*12<=cur.size/\∀j,j<C.n4->∀q,q<12->cur[j*12+q]?=(CO (f j))[q]?
def JBo.on{C:CD}{w W b:World}{d g c:Nat}{f:Nat->iJ}(h:JBo C w d g c f W)(a:Below W.heap.size W b):JBo C w d g c f b:=
 ⟨h.kb.on a,(a.block _ (ai h.two)).trans h.two,h.ne,h.row.imp λ_ k=>⟨(a.block _ (ai k.1)).trans k.1,k.2⟩⟩
theorem JBo.set{C:CD}{w W:World}{f g c q:Nat}(h:JBo C w f g c C.x4 W)(n:q<C.n4):JBo C w f g c (aaz q C.x4) (W.setCell ⟨g,q*12+11,none⟩ (bm none 0 0)):=by
 obtain⟨b,e,hs,d⟩:=h.row;obtain⟨o,r⟩:=h.ne;refine⟨⟨(aZ (by omega)).trans h.kb.box,h.kb.low.setCell (p:=⟨g,_,none⟩) (by simp only;omega) _⟩,(aZ (by omega)).trans h.two,h.ne,_,Fe e,by simpa using hs,λj i k l=>?_⟩;have d:=d j i k l;simp only[Array.getElem?_setIfInBounds];by_cases a:j=q/\k=11
 ·obtain⟨rfl,rfl⟩:=a;have:j*12+11<b.size:=by omega
  simp[this,CO,aaz]
 ·rw[if_neg (by omega),d];by_cases m:k=0
  ·subst m;rfl
  by_cases zz:k=11
  ·subst zz;have:j≠q:=λe=>a ⟨e,rfl⟩;simp[CO,aaz,this]
  ·rw[H8 _ (by omega) (by omega),H8 _ (by omega) (by omega)];rfl
def JBo.at_{C:CD}{w W:World}{a g c q:Nat}(h:JBo C w a g c (aaz q C.x4) W)(hA:C.At w):(C.bare q g c).At W:=by
 obtain⟨b,e,hs,d⟩:=h.row;refine ale hA h.kb.low (ai e) λj f k i=>?_;have:=d j f k i;simp only[aJ,e];exact this
open Go.Shelf
attribute [local go_sem] Oper.semAt_some
set_option maxRecDepth 100000
set_option maxHeartbeats 40000000
def amZ{C:CD}{m:Int}{w:World}(h:C.At w)(hc:C.cx=0)(d:bO m 0 999=true):Calls PL 7 #[bj C.val,bg bp m] w λe w'=>∃b c,e=bq (bi #[bm b C.n4 c,bg bp 0])/\bB w' (bm b C.n4 c) (tB C.tab m C.n5 C.n4)/\Below w.heap.size w w':=by
 refine(RO C m C.tab (CD.abc hc) w h (by rw[CD.b6,if_pos hc];rfl) (Lf hc).2 (SH hc) d (λW f=>ag9 f hc)).mono ?_;rintro e w'⟨v,rfl,a,g⟩;have i:=a;obtain⟨b,c,rfl,_⟩:=i;rw[Nt]at a⊢;exact⟨b,c,rfl,a,g⟩
def xu.small{E:Int->Int->Int->Prop}(hE:∀a b d,E a b d->d<=999){s:Int}{l:List Int}{a n:Int}(h:xu E s l a n):n+999<=999*l.length:=by
 induction h with
 |start=>simp
 |step _ e c=>have:=hE _ _ _ e;rw[aB,List.length_singleton];omega
def afM(hwk:∀w,Calls PL 5 #[] w (aO (bo true) w))(C:CD)(pt pa Y mi:Int)(w:World)(h:C.Mem w)(M:0<=pt/\pt<=255)(H:0<=pa/\pa<=255)(h3:0<=Y/\Y<=255)(N:0<=mi/\mi<=65535) :
 Calls PL 3 #[bj C.val,bg .u8 pt,bg .u8 pa,bg .u8 Y,bg .u16 mi] w (aO (bo true) w):=by
 have HM:Hid (∀W,Below w.heap.size w W->C.Mem W):=aS λW m=>h.below m;have K0:=aS (show KB C w (w.alloc (bt C.val 27)) from⟨au _ _,(aT _ _).alloc (ac _) _⟩);have HW:=aS hwk;have P:=aS (a8 M (a8 H (a8 h3 N)));clear h hwk M H h3 N;by_cases R:C.LR=true
 case neg=>
  have hff:C.LR=false:=by simpa using R
  have HG:Hid (∀W,C.Mem W->Calls PL 4 #[bj C.val] W (aO (bo false) W)):=aS λW S=>by have:=agu C W S;rwa[hff]at this
  clear R hff
  go_enter (fx (by decide) Tryz.func3),Tryz.ntmps3
  obtain⟨A,B,D,u,f4,E⟩:=bf K0.out.box
  go_wp2_with (first
   |(go_at_call 4;refine(HG.out _ (HM.out _ K0.out.low)).mono ?_;rintro e w1⟨rfl,aL⟩;have K1:=aS (K0.out.on aL);clear aL)
   |(go_at_call 5;refine(HW.out _).mono ?_;rintro e w2⟨rfl,qA⟩;have K2:=aS (K1.out.on qA);clear qA))
  go_ret
  exact⟨rfl,K2.out.low⟩
 have I:Hid (C.small=true/\C.cx=0):=aS (by simpa[CD.LR]using R);have Z:Hid (∀W,Below w.heap.size w W->C.At W):=aS λW m=>CD.At.Ri (HM.out W m) I.out.1;have HG:Hid (∀W,C.Mem W->Calls PL 4 #[bj C.val] W (aO (bo true) W)):=aS λW S=>by have:=agu C W S;rwa[R]at this
 clear R;obtain⟨h41,h42⟩:=Lf I.out.2;obtain⟨J0,hp6⟩:=H9 I.out.2;obtain⟨s,hs⟩:∃t,pt % C.p=t:=⟨_,rfl⟩
 have hs0:0<=s/\s<C.p:=by rw[<-hs];exact⟨a9 _ (by omega),ba _ (by omega)⟩
 obtain⟨r,hmm⟩:∃t,mi % 1000=t:=⟨_,rfl⟩
 have asY:0<=r/\r<=999:=by omega
 have hbt:Hid (bO r 0 999=true):=aS (abk.2 asY);have fR:pt.tmod C.p=s:=by rw[bc P.out.1.1];exact hs
 have CC:mi.tmod 1000=r:=by rw[bc P.out.2.2.2.1];exact hmm
 have HS:=aS hs0;have hpn:¬C.p=0:=by omega
 have RC:Hid (∀W,C.At W->Calls PL 6 #[bj C.val,bg bp s,bg bp r] W λe w'=>∃(b:Option Addr)(c:Nat)(l:List Int)(L:Int)(f:Bool),e=bq (bi #[bm b l.length c,bg bp L,bo f,bg bp 0])/\bB w' (bm b l.length c) l/\Below W.heap.size W w'/\(f=true/\s9 (C.edge (C.Cl r)) s 0 (some (l,L))\/f=false/\s9 (C.edge (C.Cl r)) s 0 none/\l=[]/\L=0)):=aS λW S=>abD C s r W S I.out.2 HS.out hbt.out;have SC:Hid (∀W,C.At W->Calls PL 7 #[bj C.val,bg bp r] W λe w'=>∃b c,e=bq (bi #[bm b C.n4 c,bg bp 0])/\bB w' (bm b C.n4 c) (tB C.tab r C.n5 C.n4)/\Below W.heap.size W w'):=aS λW S=>amZ S I.out.2 hbt.out;have OQ:=P.out.1.1;have hg1:=P.out.1.2;have hm0:=P.out.2.2.2.1;have hm1:=P.out.2.2.2.2
 go_enter (fx (by decide) Tryz.func3),Tryz.ntmps3
 obtain⟨A,B,D,u,f4,E⟩:=bf K0.out.box
 go_upto_region 4 with(first
  |(go_at_call 4;refine(HG.out _ (HM.out _ K0.out.low)).mono ?_;rintro e w1⟨rfl,aL⟩;have K1:=aS (K0.out.on aL);clear aL;clear A B D u f4 E;obtain⟨A,B,D,u,f4,E⟩:=bf K1.out.box))
 clear fR CC hs hmm OQ hg1 hm0 hm1 hpn
 go_upto_region 5 with(go_at_call 6;(with_reducible refine(RC.out _ (Z.out _ K1.out.low)).mono ?_);rintro e w2⟨b1,c1,l,L,f,rfl,hR,m,hL⟩;have HL:=aS hL;have R2:=aS hR;have K2:=aS (K1.out.on m);clear hR m hL A B D u f4 E;obtain⟨A,B,D,u,f4,E⟩:=bf K2.out.box)
 go_upto_region 6 with(go_at_call 7;(with_reducible refine(SC.out _ (Z.out _ K2.out.low)).mono ?_);rintro e w3⟨b2,c2,rfl,hR,m⟩;have R3:=aS hR;have RL3:=aS (R2.out.on m);have K3:=aS (K2.out.on m);clear hR m A B D u f4 E;obtain⟨A,B,D,u,f4,E⟩:=bf K3.out.box)
 clear R2
 have HF:Hid ((f=true/\0<l.length)\/(f=false/\l.length=0/\L=0/\¬s=0)):=aS (by
  rcases HL.out with⟨M,H⟩|⟨M,H,h3,N⟩
  ·exact br ⟨M,(H.1.alN (f:=λa b=>C.mb (C.clL r C.n4) a b C.n3 0) (λa b d he=>abS I.out.2 (λn=>ac7 C r n C.n4) he)).1⟩
  ·refine bs ⟨M,by rw[h3];rfl,N,λe=>?_⟩;subst e
   exact H _ _ xu.start)
 obtain⟨n,hn⟩:∃n,n=l.length:=⟨_,rfl⟩
 rw[<-hn]at HF RL3 ⊢;have HNN:=aS hn;clear hn
 go_cut [93] from 57 to 92 (λv93 wx=>v93=bo false/\wx=w3)
 case first=>
  rcases HF.out with⟨hf,h0⟩|⟨hf,h0,hL0,vL⟩
  ·subst hf;have i1:(0:Int)<n:=by omega
   clear h0;by_cases vL:s=0
   ·subst vL
    go_wp2_with fail
    go_meet
    case rel=>exact⟨rfl,rfl⟩
   ·go_wp2_with fail
    go_meet
    case rel=>exact⟨rfl,rfl⟩
  ·subst hf;subst hL0;subst h0
   go_wp2_with fail
   go_meet
   case rel=>exact⟨rfl,rfl⟩
 obtain⟨rfl,rfl⟩:=hcut
 go_wp2_with fail
 go_loopw [19,20] (λv19 v20 wr=>∃i:Nat,i<=C.n4/\v20=bg bp i/\eO 3 wr wc.heap.size v19 (C.clL r i)/\Below wc.heap.size wc wr) (λ_ v20 _=>C.n4-(intOf v20).toNat)
 case atStart=>exact⟨0,ad _,rfl,⟨rfl,br ⟨rfl,rfl⟩⟩,aT _ _⟩
 case round=>
  obtain⟨i,hi,rfl,hO,m⟩:=hrel;have HO:=aS hO;have HB:=aS m;have K4:=aS (K3.out.on m);have fW:=m.size;clear hO m A B D u f4 E;obtain⟨A,B,D,u,f4,E⟩:=bf K4.out.box;by_cases aH:i<C.n4
  ·have i2:(i:Int)<C.n4:=by omega
   obtain⟨bb,cc,e,hcell⟩:=R3.out.on HB.out;simp only[bd]at e;obtain⟨rfl,hl,rfl⟩:=e;clear hl;obtain⟨k2,o2,rfl,ND,hc2⟩:=hcell (by rw[Nt];omega);have x0:wr.cell? ⟨k2,o2+i,none⟩=some (bg bp ((tB C.tab r C.n5 C.n4).getD i 0)):=hc2 i (by rw[Nt];omega);rw[show(tB C.tab r C.n5 C.n4).getD i 0=kU C.tab i r C.n5 0 false by simp[tB,ap,aH]]at x0;obtain⟨x,hx⟩:∃x,kU C.tab i r C.n5 0 false=x:=⟨_,rfl⟩
   rw[hx]at x0;clear hc2 hcell;have HCL:Hid (C.clL r (i+1)=if x≠2 then C.clL r i++C.abe i else C.clL r i):=aS (by rw[CD.clL,hx]);clear hx;by_cases NV:x=2
   ·subst NV
    go_wp2_with fail
    exact⟨⟨i+1,aH,by go_num,by rw[HCL.out,if_neg (by simp)];exact HO.out,HB.out⟩,by simp only[intOf];omega⟩
   ·have hA:=Z.out _ K4.out.low;have s4:=hA.s4 (by omega);rw[s4]at f4;have Fy:=hA.nj i aH;have ER:=hA.h4;have HLL:Hid (0<(C.abe i).length->∃k o,(C.x4 i).lb=some ⟨k,o,none⟩/\∀j,j<(C.abe i).length->wr.cell? ⟨k,o+j,none⟩=some (bg bp ((C.abe i).getD j 0))):=aS λh=>by
     rw[L0]at h;exact⟨_,_,(hA.l4 i aH h).1,λj hj=>by rw[L0]at hj;rw[ah5 C hj];exact hA.J5 i aH j hj⟩
    have HN4:=aS (hA.cu i aH).2;have HCN:=aS (ac9 hA r i hi);rw[show(C.x4 i).ln=(C.abe i).length from(L0 C i).symm]at Fy;clear hA s4
    go_wp2_with (at_builtin;refine aez VF VG rfl _ _ rfl wc.heap.size _ (C.clL r i) (C.abe i) _ _ rfl HO.out rfl HLL.out (by have:=HCN.out;omega) (by rw[L0];have:=HN4.out;omega) fW ?_;intro v' w4 fO hb4)
    exact⟨⟨i+1,aH,by go_num,by rw[HCL.out,if_pos NV];exact fO,HB.out.trans hb4⟩,by simp only[intOf];omega⟩
  ·obtain rfl:i=C.n4:=by omega
   clear hi;have i2:¬(C.n4:Int)<C.n4:=by omega
   go_wp2_with fail
   have RK:=aS HO.out.reads;obtain⟨KL,hKL⟩:∃K,K=C.clL r C.n4:=⟨_,rfl⟩
   have HKM:Hid (∀x,x∈KL↔C.Cl r x):=aS λx=>by rw[hKL];exact ac7 C r x C.n4
   have HKN:Hid (KL.length<=100):=aS (by rw[hKL];have:=ac9 (Z.out _ K4.out.low) r C.n4 (ac _);omega);rw[<-hKL]at RK
   have HT:Hid ((∀i,i+1<n->C.edge (C.Cl r) (l.getD i 0) (l.getD (i+1) 0) (C.mb KL (l.getD i 0) (l.getD (i+1) 0) C.n3 0))/\(f=true->l.getD 0 0=s/\l.getD (n-1) 0=0/\acN (λa b=>C.mb KL a b C.n3 0) l (n-1)=L)/\n<=6):=aS (by
    have hn:=HNN.out
    rcases HL.out with⟨M,H⟩|⟨M,_,H,_⟩
    ·have ht:=H.1.alN (f:=λa b=>C.mb KL a b C.n3 0) λa b d he=>abS I.out.2 HKM.out he;rw[<-hn]at ht;exact⟨ht.2.2.2.1,λ_=>⟨ht.2.1,ht.2.2.1,ht.2.2.2.2⟩,by rw[hn];exact H.six I.out.2 HS.out⟩
    ·rw[H]at hn;obtain rfl:n=0:=hn
     exact⟨λi h=>(by omega),λh=>(by rw[M]at h;cases h),by omega⟩)
   have HSB:Hid (∀i,i+1<=n->0<=acN (λa b=>C.mb KL a b C.n3 0) l i/\acN (λa b=>C.mb KL a b C.n3 0) l i<=999*i):=aS λi=>by
    induction i with
    |zero=>intro _;simp[acN]
    |succ i ih=>
     intro hi;have he:=HT.out.1 i (by omega);have e1:=sx I.out.2 _ _ _ he;have e2:=(NQ I.out.2 he).2.2.1;have:=ih (by omega);simp only[acN];omega
   have BT:Hid (∀W a b,Below wr.heap.size wr W->a≠b->Calls PL 8 #[bj C.val,u19,bg bp a,bg bp b] W λe w'=>e=bq (bg bp (C.mb KL a b C.n3 0))/\Below W.heap.size W w'):=aS λW a b m hab=>aeo C (Z.out W (K4.out.on m).low) (RK.out.on m) (by have:=HKN.out;omega) a b hab;have RL4:=aS (RL3.out.on HB.out);clear hKL HO A B D u f4 E RL3
   go_wp2_with fail
   go_loopw [21,22,23] (λv21 v22 v23 W2=>∃i:Nat,(i+1<=n\/i=0)/\v22=bg bp i/\v21=bg bp (acN (λa b=>C.mb KL a b C.n3 0) l i)/\Below wr.heap.size wr W2) (λ_ v22 _ _=>n-(intOf v22).toNat)
   case atStart=>exact⟨0,bs rfl,rfl,rfl,aT _ _⟩
   case round=>
    obtain⟨i,hi,rfl,rfl,m⟩:=hrel;have Kf:=aS m;have hn6:=HT.out.2.2;clear m;have K5:=aS (K4.out.on Kf.out);obtain⟨A,B,D,u,f4,E⟩:=bf K5.out.box;by_cases aH:i+1<n
    ·have i2:(i:Int)+1<n:=by omega
     have i3:(i:Int)<n:=by omega
     have w8:IntKind.i64.wrap ((i:Int)+1)=(i:Int)+1:=IntWalk.i64_in _ (by omega);have z8:(0:Int)<=(i:Int)+1:=by omega
     have t8:((i:Int)+1).toNat=i+1:=by omega
     have hb:=HSB.out i (by omega);have hE:=HT.out.1 i aH;have e1:=sx I.out.2 _ _ _ hE;have e2:=(NQ I.out.2 hE).2.2;obtain⟨bb,cc,e,hcell⟩:=RL4.out.on Kf.out;rw[<-HNN.out]at e hcell;simp only[bd]at e;obtain⟨rfl,_,rfl⟩:=e;obtain⟨k1,o1,rfl,zz,lp⟩:=hcell (by omega);have CE:Hid (∀W,Below wr.heap.size wr W->W.cell? ⟨k1,o1+i,none⟩=some (bg bp (l.getD i 0))/\W.cell? ⟨k1,o1+(i+1),none⟩=some (bg bp (l.getD (i+1) 0))):=aS λW m=>⟨(m.cell (p:=⟨k1,o1+i,none⟩) zz).trans (lp i (by omega)),(m.cell (p:=⟨k1,o1+(i+1),none⟩) zz).trans (lp (i+1) (by omega))⟩
     clear hcell lp;have HSS:Hid (acN (λa b=>C.mb KL a b C.n3 0) l (i+1)=acN (λa b=>C.mb KL a b C.n3 0) l i+C.mb KL (l.getD i 0) (l.getD (i+1) 0) C.n3 0):=aS rfl;have B2:Hid (∀W,Below wr.heap.size wr W->Calls PL 8 #[bj C.val,u19,bg bp (l.getD i 0),bg bp (l.getD (i+1) 0)] W λe w'=>e=bq (bg bp (C.mb KL (l.getD i 0) (l.getD (i+1) 0) C.n3 0))/\Below W.heap.size W w'):=aS λW m=>BT.out W _ _ (aP Kf.out m) e2.2;obtain⟨xa,hxa⟩:∃x,x=l.getD i 0:=⟨_,rfl⟩
     obtain⟨xb,hxb⟩:∃x,x=l.getD (i+1) 0:=⟨_,rfl⟩
     rw[<-hxa,<-hxb]at e1 e2 B2 HSS;obtain⟨xd,hxd⟩:∃x,x=C.mb KL xa xb C.n3 0:=⟨_,rfl⟩
     rw[<-hxd]at e1 e2 B2 HSS;obtain⟨sm,Rj⟩:∃x,x=acN (λa b=>C.mb KL a b C.n3 0) l i:=⟨_,rfl⟩
     rw[<-Rj]at hb HSS ⊢;rw[<-hxa,<-hxb]at CE;clear hE hxa hxb hxd Rj
     go_wp2_with fail
     refine ig (λW=>Below wr.heap.size wr W) (λ_ _=>True) (λ_=>true) (λ_ _ _=>True) rfl (by kernel_rfl) (λ_ _ _ _ _ _=>trivial) (λ_ _ _ _ _ _ _ _ h=>h) (aT _ _).drew ?_;clear A B D u f4 E
     iterate 13 (
      apply aY
      case hE=>rfl
      case h=>
       intro vs W J hd;obtain⟨A,B,D,u,f4,E⟩:=bf (K5.out.on J).box;obtain⟨y0,y1⟩:=CE.out W J
       go_simp
       first
        |with_reducible exact rfl
        |(go_at_call 8;(with_reducible refine(B2.out W J).mono ?_);rintro e W'⟨rfl,m⟩;first|exact⟨_,rfl,rfl,aP J m⟩|exact⟨_,rfl,rfl,aP J m,trivial⟩)
        |exact⟨rfl,J⟩
        |exact⟨rfl,J,trivial⟩
        |trace_state
      case hb=>exact P0)
     refine cP λvs W J hd=>?_;have IB:=aS (aP Kf.out J);clear J hd;have d0:¬xd=0:=by omega
     go_wp2
     exact⟨⟨i+1,br (by omega),by go_num,by rw[HSS.out],IB.out⟩,by simp only[intOf];omega⟩
    ·have i2:¬(i:Int)+1<n:=by omega
     have hn6:=HT.out.2.2;have w8:IntKind.i64.wrap ((i:Int)+1)=(i:Int)+1:=IntWalk.i64_in _ (by omega);have HI:Hid (i=n-1):=aS (by omega)
     go_upto_region 22 with fail
     have hs:i=0->acN (λa b=>C.mb KL a b C.n3 0) l i=0:=λh=>by rw[h];rfl
     obtain⟨sm,Rj⟩:∃x,x=acN (λa b=>C.mb KL a b C.n3 0) l i:=⟨_,rfl⟩
     rw[<-Rj]at hs ⊢;have HSM:Hid (f=true->sm=L/\l.getD 0 0=s/\l.getD (n-1) 0=0):=aS λh=>⟨by rw[Rj,HI.out];exact(HT.out.2.1 h).2.2,(HT.out.2.1 h).1,(HT.out.2.1 h).2.1⟩
     clear Rj hs
     go_cut [159] from 138 to 158 (λv159 wx=>v159=bo false/\wx=wr)
     case first=>
      rcases HF.out with⟨hf,h0⟩|⟨hf,h0,hL0,vL⟩
      ·subst hf;obtain⟨rfl,hl0,zi⟩:=HSM.out rfl;obtain⟨bb,cc,e,hcell⟩:=RL4.out.on Kf.out;rw[<-HNN.out]at e hcell;simp only[bd]at e;obtain⟨rfl,_,rfl⟩:=e;obtain⟨k1,o1,rfl,zz,lp⟩:=hcell (by omega);have y0:wr.cell? ⟨k1,o1+0,none⟩=some (bg bp (l.getD 0 0)):=lp 0 (by omega);rw[hl0,Nat.add_zero]at y0;have y1:wr.cell? ⟨k1,o1+(n-1),none⟩=some (bg bp (l.getD (n-1) 0)):=lp (n-1) (by omega);rw[zi]at y1;obtain⟨n1,hn1⟩:∃n1,n1=n-1:=⟨_,rfl⟩
       rw[<-hn1]at y1;have i4:(n:Int)-1=(n1:Int):=by omega
       have i5:(n1:Int)<n:=by omega
       have i6:(0:Int)<n:=by omega
       clear hcell lp hl0 zi hn1 h0 w8 i2
       go_wp2_with fail
       go_meet
       case rel=>exact⟨rfl,rfl⟩
      ·subst hf;subst hL0;subst h0;clear hi i2 w8
       go_wp2_with fail
       go_meet
       case rel=>exact⟨rfl,rfl⟩
     obtain⟨rfl,rfl⟩:=hcut;obtain⟨A,B,D,u,f4,E⟩:=bf K5.out.box
     go_upto_region 25 with fail
     have HA5:=aS (Z.out _ K5.out.low);have S4:=aS (HA5.out.s4 (by omega));have A3:Hid ((wc.alloc (bt C.val 27)).heap[wc.heap.size]?=some (bt C.val 27)/\KB C w (wc.alloc (bt C.val 27))/\(wc.alloc (bt C.val 27)).heap.size=wc.heap.size+1):=aS ⟨au _ _,K5.out.alloc _,by simp⟩;obtain⟨O,U⟩:∃O:World,O=wc.alloc (bt C.val 27):=⟨_,rfl⟩
     rw[show wc.alloc (bt #[bg bp C.l,bg bp C.p,bm C.b2 C.n2 C.c2,bm C.b3 C.n3 C.c3,bm C.b4 C.n4 C.c4,bm C.b5 C.n5 C.c5] 27)=O from U.symm];rw[<-U]at A3;have R4:=aS (((HA5.out.below (show Below wc.heap.size wc O by rw[U];exact(aT _ _).alloc (ac _) _)).below ((aT O.heap.size O).alloc (ac _) (bt #[] 42))).abZ);have B3:Hid (Below wc.heap.size wc O):=aS (by rw[U];exact(aT _ _).alloc (ac _) _);clear U A B D u f4 E;obtain⟨A,B,D,u,f4,E⟩:=bf A3.out.2.1.box;rw[S4.out]at f4;have hz:wc.heap.size<O.heap.size:=by rw[A3.out.2.2];omega
     have hzw:w.heap.size<wc.heap.size:=K5.out.lt;have mF:w.heap.size<O.heap.size:=by omega
     have hn4:C.n4<=1000:=by omega
     go_upto_region 26 with(at_builtin;refine ga (T:=24) (e:=42) VL VM rfl (by decide) (by decide) rfl _ _ rfl O.heap.size O.heap.size rfl (au O (bt #[] 42)) (ac _) C.k4 C.o4 C.n4 C.c4 C.abZ rfl C.abv R4.out C.ahS hn4 ?_;intro v1 w4 fO hv hb4;have wC:=aS (((aT O.heap.size O).alloc (ac _) (bt #[] 42)).trans hb4);have B4:Hid (w4.heap[wc.heap.size]?=some (bt C.val 27)):=aS ((wC.out.block _ hz).trans A3.out.1);have fz:=tO B4.out;have hz4:=ai B4.out;obtain⟨g,c,cur,rfl,hog,hg,SF⟩:=Fc.form (w:=O) ⟨fO,hv⟩;have HGG:=aS (a8 hog (a8 hg SF));clear fO hv hog hg SF hb4 A B D u f4 E;obtain⟨g0,g1,g2,g3,g4,g5⟩:=bf B4.out)
     have J0:Hid (JBo C w wc.heap.size g c C.x4 (w4.setCell ⟨wc.heap.size,4,none⟩ (bm (some ⟨g,0,none⟩) C.n4 c))):=aS (by
      obtain⟨hog,hg,SF⟩:=HGG.out;have hlen:=C.abv;rw[<-SF]at hlen;have h12:C.n4*12<=cur.size:=by simp at hlen;omega
      have k4:=A3.out.2.1.on wC.out;refine⟨⟨(aZ (by omega)).trans k4.box,k4.low.setCell (p:=⟨wc.heap.size,4,none⟩) (by simp only;omega) _⟩,Fe B4.out,⟨hzw,by omega⟩,cur,(aZ (by omega)).trans hg,h12,λj hj q hq=>?_⟩;rw[<-C.ako hj hq,<-SF,ao (by omega)]
      simp)
     have B5:Hid (Below wc.heap.size wc (w4.setCell ⟨wc.heap.size,4,none⟩ (bm (some ⟨g,0,none⟩) C.n4 c))):=aS ((B3.out.trans (wC.out.mono (ag hz))).setCell (p:=⟨wc.heap.size,4,none⟩) (ac _) _);obtain⟨W5,hW5⟩:∃W5:World,W5=w4.setCell ⟨wc.heap.size,4,none⟩ (bm (some ⟨g,0,none⟩) C.n4 c):=⟨_,rfl⟩
     rw[<-hW5]at J0 B5 ⊢;clear hW5 fz hz4 g0 g1 g2 g3 g4 g5 B4 HGG wC A3 R4;obtain⟨Q,hqq⟩:∃q:Nat,Y % (C.n4:Int)=(q:Int):=⟨(Y % (C.n4:Int)).toNat,by have:=a9 Y (show(C.n4:Int)≠0 by omega);omega⟩
     have hq4:Q<C.n4:=by have:=ba Y (show(0:Int)<C.n4 by omega);omega
     have azE:(Q:Int)<C.n4:=by omega
     have azF:Y.tmod C.n4=(Q:Int):=by rw[bc P.out.2.2.1.1];exact hqq
     have azG:¬(C.n4:Int)=0:=by omega
     have azH:=P.out.2.2.1.1;have azI:=P.out.2.2.1.2;have azJ:¬C.n4=0:=by omega
     have NJ:IntKind.i64.wrap Y=Y:=IntWalk.i64_in _ (by omega);refine cT 10 (λW=>Below W5.heap.size W5 W) (λ_ _=>True) (λ_=>true) (λ_ _ _=>True) rfl (by kernel_rfl) (by kernel_rfl) (λ_ _ _ _ _ _=>trivial) (λ_ _ _ _ _ _ _ _ h=>h) (aT _ _).drew ?_
     iterate 10 (
      apply aY
      case hE=>rfl
      case h=>
       intro vs W J hd;have JW:=J0.out.on J;obtain⟨A,B,D,u,f4,E⟩:=bf JW.kb.box;obtain⟨g0,g1,g2,g3,g4,g5⟩:=bf JW.two;clear JW
       go_simp
       first
        |with_reducible exact rfl
        |exact⟨rfl,J⟩
        |exact⟨rfl,J,trivial⟩
        |trace_state
      case hb=>exact P0)
     refine cP λvs W J hd=>?_;have J1:=aS (J0.out.on J);have J2:=aS (J1.out.set hq4);obtain⟨at6,e2,yp,_⟩:=J1.out.row;have fz:=tO e2;have hg2:=ai e2;obtain⟨v2,XL⟩:∃v,W.cell? ⟨g,Q*12+11,none⟩=some v:=by
      simp only[aJ,e2];exact⟨at6[Q*12+11]'(by omega),by simp⟩
     have B6:Hid (Below wc.heap.size wc (W.setCell ⟨g,Q*12+11,none⟩ (bm none 0 0))):=aS ((B5.out.trans (J.mono B5.out.size)).setCell (p:=⟨g,Q*12+11,none⟩) (ag J0.out.ne.2) _);clear J hd e2 yp
     go_upto_region 27 with fail
     obtain⟨W6,hW6⟩:∃W6:World,W6=W.setCell ⟨g,Q*12+11,none⟩ (bm none 0 0):=⟨_,rfl⟩
     rw[<-hW6]at J2 B6 ⊢;have A6:Hid ((C.bare Q g c).At W6):=aS (J2.out.at_ (Z.out _ (aT _ _)));have RB:Hid (∀W,(C.bare Q g c).At W->Calls PL 6 #[bj #[bg bp C.l,bg bp C.p,bm C.b2 C.n2 C.c2,bm C.b3 C.n3 C.c3,bm (some ⟨g,0,none⟩) C.n4 c,bm C.b5 C.n5 C.c5],bg bp s,bg bp r] W λe w'=>∃(b:Option Addr)(k c:Nat)(V:Int)(f':Bool),e=bq (bi #[bm b k c,bg bp V,bo f',bg bp 0])/\Below W.heap.size W w'/\(f=true->f'=true/\V<=L)):=aS λW S=>by
      refine(abD (C.bare Q g c) s r W S (afL Q g c I.out.2) HS.out hbt.out).mono ?_;rintro e w'⟨b,c',l',V,f',rfl,_,m,hL'⟩;refine⟨b,_,c',V,f',rfl,m,λhf=>?_⟩
      rcases HL.out with⟨_,H⟩|⟨M,_⟩
      ·rcases hL' with⟨h3,N⟩|⟨_,N,_⟩
       ·obtain⟨y,e,h5⟩:=abT H N;cases e;exact⟨h3,h5⟩
       ·obtain⟨y,e,_⟩:=abT H N;cases e
      ·rw[M]at hf;cases hf
     have RK6:=aS (RK.out.on (aP Kf.out B6.out));have K6:=aS J2.out.kb;obtain⟨g0,g1,g2,g3,g4,g5⟩:=bf J2.out.two;clear hW6 J0 J1 fz hg2 XL v2 A B D u f4 E
     go_upto_region 28 with(go_at_call 6;(with_reducible refine(RB.out _ A6.out).mono ?_);rintro e w7⟨b7,k7,c7,L7,f7,rfl,m,hL7⟩;have H7:=aS hL7;have K7:=aS (K6.out.on m);have RK7:=aS (RK6.out.on m);clear m hL7 g0 g1 g2 g3 g4 g5)
     go_cut [198] from 185 to 197 (λv198 wx=>v198=bo false/\wx=w7)
     case first=>
      rcases HF.out with⟨hf,-⟩|⟨hf,-⟩
      ·subst hf;obtain⟨rfl,hL7⟩:=H7.out rfl;have i9:¬L7 > L:=by omega
       go_wp2_with fail
       go_meet
       case rel=>exact⟨rfl,rfl⟩
      ·subst hf
       go_wp2_with fail
       go_meet
       case rel=>exact⟨rfl,rfl⟩
     obtain⟨rfl,rfl⟩:=hcut;obtain⟨A,B,D,u,f4,E⟩:=bf K7.out.box;by_cases Hr:C.n3=0
     ·have i3:(C.n3:Int)=0:=by omega
      clear Hr
      go_wp2_with (go_at_call 5;refine(HW.out _).mono ?_;rintro e w8⟨rfl,F⟩;have K8:=aS (K7.out.on F);clear F)
      go_ret
      exact⟨rfl,K8.out.low⟩
     have i3:¬(C.n3:Int)=0:=by omega
     obtain⟨kk,X6⟩:∃q:Nat,pa % (C.n3:Int)=(q:Int):=⟨(pa % (C.n3:Int)).toNat,by have:=a9 pa (show(C.n3:Int)≠0 by omega);omega⟩
     have X:kk<C.n3:=by have:=ba pa (show(0:Int)<C.n3 by omega);omega
     have azN:(kk:Int)<C.n3:=by omega
     have at8:pa.tmod C.n3=(kk:Int):=by rw[bc P.out.2.1.1];exact X6
     have at9:=P.out.2.1.1;have ata:=P.out.2.1.2;have e30:((C.n3:Int)==0)=false:=by simpa using i3
     go_upto_region 33 with fail
     clear e30 X6 at8 at9 ata Hr i3;have A7:=Z.out _ K7.out.low;have k0:=A7.Es kk X;have k1:=A7.Et kk X;have k2:=A7.Eu kk X;have hh3:=A7.h3;have e3:=A7.s3 (by omega);clear A7;rw[e3]at u;clear e3;have PO:=aS (NK I.out.2 X)
     have HE:Hid (∀y,((C.x3 kk).1=s/\(C.x3 kk).2.1=y\/(C.x3 kk).1=y/\(C.x3 kk).2.1=s)->(KL.contains (kk:Int))=false->C.edge (C.Cl r) s y (C.x3 kk).2.2):=aS λy M H=>⟨kk,X,λh=>by
      have:=(HKM.out _).2 h
      simp[this]at H,rfl,M⟩
     obtain⟨x1,hx1⟩:∃t,(C.x3 kk).1=t:=⟨_,rfl⟩
     obtain⟨x2,NV⟩:∃t,(C.x3 kk).2.1=t:=⟨_,rfl⟩
     obtain⟨x3,hx3⟩:∃t,(C.x3 kk).2.2=t:=⟨_,rfl⟩
     rw[hx1]at k0 PO HE;rw[NV]at k1 PO HE;rw[hx3]at k2 PO HE;obtain⟨cf,OX⟩:∃t,KL.contains (kk:Int)=t:=⟨_,rfl⟩
     rw[OX]at HE;have KA:Hid (∀o,KB C w (wc.alloc o)):=aS λo=>K7.out.alloc o;have HX:Hid (∀o,Calls PL 9 #[u19,bg bp kk] (wc.alloc o) λe w'=>e=bq (bo cf)/\wc.alloc o=w'):=aS λo=>by
      have:=abC (kk:Int) (RK7.out.on ((aT wc.heap.size wc).alloc (ac _) o)) (by have:=HKN.out;omega);rwa[OX]at this
     obtain⟨z,hz⟩:∃z:Bool,z = !(decide (x1=s\/x2=s) && !cf):=⟨_,rfl⟩
     have HZ:=aS hz;clear hx1 NV hx3 OX hz
     go_upto_region 34 with fail
     have HX9:=aS (HX.out (bt #[bg bp x1,bg bp x2,bg bp x3] 45));have K9:=aS (KA.out (bt #[bg bp x1,bg bp x2,bg bp x3] 45));have B9:Hid ((wc.alloc (bt #[bg bp x1,bg bp x2,bg bp x3] 45)).heap[wc.heap.size]?=some (bt #[bg bp x1,bg bp x2,bg bp x3] 45)):=aS (au _ _);obtain⟨W9,hW9⟩:∃W9:World,W9=wc.alloc (bt #[bg bp x1,bg bp x2,bg bp x3] 45):=⟨_,rfl⟩
     rw[<-hW9]at HX9 K9 B9 ⊢;obtain⟨pb,hpb⟩:∃p,p=wc.heap.size:=⟨_,rfl⟩
     rw[<-hpb]at B9 ⊢;clear hW9 hpb HX KA A B D u f4 E k0 k1 k2 hh3;have Rk:Hid (∀W:World,W.heap[pb]?=some (bt #[bg bp x1,bg bp x2,bg bp x3] 45)->W.cell? ⟨pb,0,none⟩=some (bg bp x1)/\W.cell? ⟨pb,1,none⟩=some (bg bp x2)/\W.cell? ⟨pb,2,none⟩=some (bg bp x3)):=aS λW h=>by
      simp only[aJ,h];exact⟨rfl,rfl,rfl⟩
     obtain⟨c0,c1,c2⟩:=Rk.out _ B9.out
     go_cut [229] from 215 to 228 (λv229 wx=>v229=bo z/\wx=W9)
     case first=>
      by_cases q1:x1=s
      ·have e:z=cf:=by rw[HZ.out,q1];cases cf<;>simp
       subst e;subst q1
       go_wp2_with (go_at_call 9;refine HX9.out.mono ?_;rintro e w'⟨rfl,rfl⟩)
       go_meet
       case rel=>exact⟨rfl,rfl⟩
      ·by_cases q2:x2=s
       ·have e:z=cf:=by rw[HZ.out,q2];cases cf<;>simp
        subst e;subst q2
        go_wp2_with (go_at_call 9;refine HX9.out.mono ?_;rintro e w'⟨rfl,rfl⟩)
        go_meet
        case rel=>exact⟨rfl,rfl⟩
       ·have e:z=true:=by rw[HZ.out];simp[q1,q2]
        subst e
        go_wp2_with fail
        go_meet
        case rel=>exact⟨rfl,rfl⟩
     obtain⟨rfl,rfl⟩:=hcut
     cases z with
     |true=>
      go_wp2_with (go_at_call 5;refine(HW.out _).mono ?_;rintro e w8⟨rfl,F⟩;have K8:=aS (K9.out.on F);clear F)
      go_ret
      exact⟨rfl,K8.out.low⟩
     |false=>
      have hP:(x1=s\/x2=s)/\cf=false:=by
       have:=HZ.out.symm;simp only[Bool.not_eq_eq_eq_not,Bool.not_false,Bool.and_eq_true,decide_eq_true_eq,Bool.not_eq_true']at this;exact this
      have po:=PO.out;have RY:Hid (∀W,C.At W->Calls PL 6 #[bj C.val,bg bp (x1+x2-s),bg bp r] W λe w'=>∃(b:Option Addr)(k c:Nat)(V:Int)(f':Bool),e=bq (bi #[bm b k c,bg bp V,bo f',bg bp 0])/\Below W.heap.size W w'/\(f'=true->f=true/\L<=V+x3)/\0<=V/\V<=6000):=aS λW S=>by
       have hy:0<=x1+x2-s/\x1+x2-s<C.p:=by rcases hP.1 with h|h<;>omega
       refine(abD C (x1+x2-s) r W S I.out.2 hy hbt.out).mono ?_;rintro e w'⟨b,c',l',V,f',rfl,_,m,hL'⟩;refine⟨b,_,c',V,f',rfl,m,?_⟩;have hed:=HE.out (x1+x2-s) (by rcases hP.1 with h|h;exact br ⟨h,by omega⟩;exact bs ⟨by omega,h⟩) hP.2
       rcases hL' with⟨_,N⟩|⟨h3,N,_,h5⟩
       ·have n0:=N.1.amI (sx I.out.2);have n1:=N.1.small (λa b d he=>(NQ I.out.2 he).2.2.1);have n2:=N.six I.out.2 hy;simp only at n0 n1;refine⟨λ_=>?_,by omega,by omega⟩
        rcases HL.out with⟨M,H⟩|⟨_,H,_⟩
        ·obtain⟨y,e,h5⟩:=s9.via hed N H;cases e;exact⟨M,h5⟩
        ·obtain⟨y,e,_⟩:=s9.via hed N H;cases e
       ·exact⟨λh=>(by rw[h3]at h;cases h),by omega,by omega⟩
      obtain⟨A,B,D,u,f4,E⟩:=bf K9.out.box;obtain⟨c0,c1,c2⟩:=Rk.out _ B9.out;have po1:=po.1;have po2:=po.2.1;have po3:=po.2.2.2.1;clear hP po
      go_upto_region 37 with(go_at_call 6;(with_reducible refine(RY.out _ (Z.out _ K9.out.low)).mono ?_);rintro e VD⟨b10,CG,c10,L10,f10,rfl,m,ap8,azQ,azR⟩;have H10:=aS ap8;have Ry:=aS (K9.out.on m);have B10:=aS ((m.block _ (ai B9.out)).trans B9.out);clear m ap8 A B D u f4 E c0 c1 c2)
      obtain⟨c0,c1,c2⟩:=Rk.out _ B10.out
      cases f10 with
      |false=>
       go_wp2_with (go_at_call 5;refine(HW.out _).mono ?_;rintro e w8⟨rfl,F⟩;have K8:=aS (Ry.out.on F);clear F)
       go_ret
       exact⟨rfl,K8.out.low⟩
      |true=>
       obtain⟨hf,hl⟩:=H10.out rfl;subst hf
       go_wp2_with (go_at_call 5;refine(HW.out _).mono ?_;rintro e w8⟨rfl,F⟩;have K8:=aS (Ry.out.on F);clear F)
       go_ret
       exact⟨rfl,K8.out.low⟩
end Go.Proofs
