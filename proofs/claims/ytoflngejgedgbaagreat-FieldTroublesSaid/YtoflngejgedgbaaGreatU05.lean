/- FieldTroubles: the given function returns true, and what its arguments read stands, for every course, delays, peg and spans. Conditions: those of the given row (calm tape, leaving company, only time passes). -/
import Derived.Test.YtoflngejgedgbaaGreatU02
import Derived.Test.YtoflngejgedgbaaGreatU04
import Derived.Test.YtoflngejgedgbaaGreatRows
set_option linter.all false
open Bool renaming true->aa,false->ac
open Go renaming World->ag,Calls->aI,Value->aP,TypeId->aT,Addr->a7,bodyPost_ret->a8,results->a9,Oper->bd,Exit->bi,Operand->bj,wpList->bm,info_parts->bq,wpList_append_own->bC,maxLen->b8,bodyPost->ce,Program->cf,execOp->ch,yielded->ci,resolve->cl,invoke->co,builtin->cq,run_append_room->ct,setRow_other->c8,setRow_heap->dO,run_append_grow->dQ,growslice_fits->dU,heap_alloc_old->d8,run_underlying->d9,sizeOf->ea,typeInfo->eb,storeCells->ec,Ending->eg,MemPlace->ek
open Go.World renaming ownsRow->em,cell?->eq,alloc->eu,setCell->eA,size_alloc->eD,frozen?->eE
open Go.Proofs renaming Reads->eN,getElem?_lt'->e7
open Option renaming none->fb,some->fc
open Go.Value renaming int->fm,oneCell'->fp,okWide->fA,tuple->fB,agg->fJ,slice->fR,bool->f6,string->f7,pointer->f8
open Go.Proofs.Below renaming on->f9,ag3->gc,zQ->ge
open Go.Lib renaming hid->gf
open Go.RowKit.Below renaming refl->gg,trod->gj
open List renaming foldl->gp,length_filter_le->gt,range->gy
open Go.IntKind renaming wrap->gE,i64->gL
open Go.IntWalk renaming i64_in->g6
open Int renaming natCast_emod->g7,tmod_eq_emod_of_nonneg->g8,le_trans->g9
open Array renaming getElem?_eq_none->hh,setIfInBounds->hr
open And renaming symm->hH,intro->hI
open Go.Proofs.Tryz renaming results71->hJ,f71->hN,func7->hS,ntmps7->ih,results7->ii,func10->io,ntmps10->ip,results10->ix,func42->iP,ntmps42->i7,results42->i9,func12->jf,ntmps12->jk,results12->jn,func45->jp,ntmps45->jr,func14->jt,ntmps14->jz,func15->jH,ntmps15->jM,results14->jQ,results15->j4,func17->j5,ntmps17->j6,results17->kc,func18->kd,ntmps18->ke,results18->kf,func3->kg,ntmps3->kp,underlying30->ks,underlying3->kw,underlying28->kx,progTables->kG,funcs->kY,prog->k6,f3->k7,checked->k8
open Go.Oper renaming wp->k9,upon->ld,wp_mono->li
open Go.Region renaming ready->lm,binds->lp,wanted->lL
open Go.Result renaming andThen_ok->lM,andThen->lT,ok->lW
open Go.Builtin renaming append_->l2,lenOf->l3,firstCells->l5,append->mc
open Go.Program renaming underlying->mn
open ByteArray renaming empty->mS
open Nat renaming add_assoc->m7
open Go.Frame renaming enter->m8
open Go.ChangeShapes renaming trodAll_cons->na
open Go.Ending renaming returned->nb
open Or renaming inl->ni,inr->nk
open Go.Obj renaming cells->n6
open Go.Ground renaming data->oh
open Go.CallKind renaming normal->ol
set_option maxHeartbeats 4000000
set_option maxRecDepth 100000
namespace Go.Proofs
open Go.RowKit Go.Shelf
set_option maxHeartbeats 1000000
variable {q:Int}{C:ag}{J:aP}
def uP(d:Int)(C:CD)(W:ag):Prop:=∃k2 g k3 c3 a h b i c e lb f,C=ir k2 g k3 c3 a h b i c e lb f d/\CJ W k2 k3 a b c e lb f d
def uP.on{d:Int}{C:CD}{W a:ag}(h:uP d C W)(b:bL W a):uP d C a:=by
 obtain⟨k2,c,k3,c3,f,g,i,j,k,l,lb,m,e,h⟩:=h;exact⟨k2,c,k3,c3,f,g,i,j,k,l,lb,m,e,h.on b⟩
def uP.at{d:Int}{C:CD}{W:ag}(h:uP d C W):C.At W:=by
 obtain⟨k2,a,k3,c3,b,c,e,f,g,i,lb,j,rfl,h⟩:=h;exact h.at
def uP.is{d:CD}(h:uP q d C):VB q d:=by
 obtain⟨k2,a,k3,c3,b,c,e,f,g,i,lb,j,rfl,_⟩:=h;exact⟨k2,a,k3,c3,b,c,e,f,g,i,lb,j,rfl⟩
def tG{C:CD}(hd:q=0\/q=1)(h:VB q C):C.b6 aa=0:=by
 obtain⟨k2,a,k3,c3,b,c,e,f,g,i,lb,j,rfl⟩:=h
 rcases hd with rfl|rfl<;>kernel_rfl
def IQ{C:CD}(hd:q=0\/q=1)(h:VB q C):C.cx=0:=IC (tG hd h)
def agd(w:ag):aI PL 20 #[fm gL 13,fm gL (-5)] w λe w'=>e=nb (fB #[fm gL 12,fm gL 0])/\w=w':=(uD 13 (-5) w).m λ_ _ k=>⟨k.1.t ae,k.2.y⟩
def age(w:ag):aI PL 20 #[fm gL 20,fm gL 11] w λe w'=>e=nb (fB #[fm gL 16,fm gL 0])/\w=w':=(uD 20 11 w).m λ_ _ k=>⟨k.1.t ae,k.2.y⟩
def agf{C:CD}(w:ag)(h:uP 0 C w):aI PL 21 #[fJ C.val,fm gL 0] w (aO (fB #[fJ #[fm gL 16,fm gL 20],fm gL 0]) w):=by
 have k:=nB C 0 w h.at;have e:C.kR 0=fB #[fJ #[fm gL 16,fm gL 20],fm gL 0]:=by
  obtain⟨k2,a,k3,c3,b,c,d,f,g,i,lb,j,rfl⟩:=h.is
  kernel_rfl
 rwa[e]at k
def agh{C:CD}(w:ag)(h:uP 0 C w):aI PL 21 #[fJ C.val,fm gL 2] w (aO (fB #[fJ #[fm gL 24,fm gL 25],fm gL 0]) w):=by
 have k:=nB C 2 w h.at;have e:C.kR 2=fB #[fJ #[fm gL 24,fm gL 25],fm gL 0]:=by
  obtain⟨k2,a,k3,c3,b,c,d,f,g,i,lb,j,rfl⟩:=h.is
  kernel_rfl
 rwa[e]at k
def agi{C:CD}(w:ag)(h:uP 0 C w):aI PL 22 #[fJ C.val,fm gL 0] w (aO (fB #[fm gL 0,fm gL 0]) w):=by
 have k:=pH C 0 w h.at;have e:C.iq 0=fB #[fm gL 0,fm gL 0]:=by
  obtain⟨k2,a,k3,c3,b,c,d,f,g,i,lb,j,rfl⟩:=h.is
  kernel_rfl
 rwa[e]at k
def agj{C:CD}(w:ag)(h:uP 0 C w):aI PL 22 #[fJ C.val,fm gL 2] w (aO (fB #[fm gL 2,fm gL 0]) w):=by
 have k:=pH C 2 w h.at;have e:C.iq 2=fB #[fm gL 2,fm gL 0]:=by
  obtain⟨k2,a,k3,c3,b,c,d,f,g,i,lb,j,rfl⟩:=h.is
  kernel_rfl
 rwa[e]at k
def SJ:List Int:=[0,0,0,4,6,1,6,9,10,14,2,13,17,18,22]
def abB:List Int:=[0,1,2,0,13]
def amB{base e n:Nat}{xs:List aP}(h:em C base e 5 J n xs)(l:List Int)(a:xs=l.map λz=>fm gL z):eN C J n 5 λj=>fm gL (l.getD j 0):=by
 obtain⟨hl,h⟩:=h
 rcases h with⟨rfl,rfl⟩|⟨g,cap,b,rfl,hb,hg,hc,d,hs,c⟩
 .exact⟨fb,0,rfl,λh=>absurd h (dt _)⟩
 .refine⟨_,_,rfl,λf=>⟨g,0,rfl,e7 hg,λj i=>?_⟩⟩;have k:l.length=n*5:=by rw[<-hl,a,List.length_map]
  have e:xs[j]?=fc (fm gL (l.getD j 0)):=by
   rw[a,eT,cC ab];simp[et,cC (show j<l.length by omega)]
  rw[<-c,e6 ab]at e;simp only[eq,hg,ei];simpa using e
def e34{C:CD}(w:ag)(h:uP 0 C w):aI PL 23 #[fJ C.val,fm gL 0] w λe w'=>∃v,e=nb (fB #[v,fm gL 0])/\(eN w' v 3 5 λj=>fm gL (SJ.getD j 0))/\bL w w':=by
 have k:=ID C 0 w h.at (by obtain⟨k2,a,k3,c3,b,c,d,f,g,i,lb,l,rfl⟩:=h.is;show 0<2;decide) (by obtain⟨k2,a,k3,c3,b,c,d,f,g,i,lb,l,rfl⟩:=h.is;show 2<=3;decide) (tG (ni rfl) h.is) (Sa C (IQ (ni rfl) h.is) (by obtain⟨k2,a,k3,c3,b,c,d,f,g,i,lb,l,rfl⟩:=h.is;show 0<2;decide));refine k.m ?_;rintro e w'⟨v,rfl,m,n⟩;have e:mD C 0 C.n4=[(0,0,0,4,6),(1,6,9,10,14),(2,13,17,18,22)]:=by
  obtain⟨k2,a,k3,c3,b,c,d,f,g,i,lb,l,rfl⟩:=h.is
  kernel_rfl
 unfold AY at m;rw[e]at m;exact⟨v,rfl,amB m SJ rfl,n⟩
def e59{C:CD}(w:ag)(h:uP 0 C w):aI PL 24 #[fJ C.val,fm gL 1] w (aO (fB #[fJ #[fm gL 18,fm gL 23],fm gL 0]) w):=by
 have k:=Sj C 1 w h.at (by obtain⟨k2,a,k3,c3,b,c,d,f,g,i,lb,j,rfl⟩:=h.is;show 1<2;decide) (by obtain⟨k2,a,k3,c3,b,c,d,f,g,i,lb,j,rfl⟩:=h.is;show 2<=3;decide) (tG (ni rfl) h.is) (Sa C (IQ (ni rfl) h.is) (by obtain⟨k2,a,k3,c3,b,c,d,f,g,i,lb,j,rfl⟩:=h.is;show 1<2;decide));have e:nU C 1=(18,23):=by
  obtain⟨k2,a,k3,c3,b,c,d,f,g,i,lb,j,rfl⟩:=h.is
  kernel_rfl
 rwa[e]at k
def e36{C:CD}(w:ag)(h:uP 0 C w):aI PL 25 #[fJ C.val,fm gL 8] w λe w'=>∃v,e=nb (fB #[v,fm gL 0])/\bB w' v [2,0,1]/\bL w w':=by
 have k:=RO C 8 je Sy w h.at (tG (ni rfl) h.is) (by obtain⟨k2,a,k3,c3,b,c,d,f,g,i,lb,j,rfl⟩:=h.is;show 3<=5;decide) (by obtain⟨k2,a,k3,c3,b,c,d,f,g,i,lb,j,rfl⟩:=h.is;show 2<=3;decide) rfl λW l=>tA (ni rfl) h.is l;have e:tB je 8 C.n5 C.n4=[2,0,1]:=by
  obtain⟨k2,a,k3,c3,b,c,d,f,g,i,lb,j,rfl⟩:=h.is
  kernel_rfl
 rwa[e]at k
def e37{C:CD}(hd:q=0\/q=1)(w:ag)(h:uP q C w):aI PL 6 #[fJ C.val] w λe w'=>∃v,e=nb (fB #[v,fm gL 0])/\(∃b c,v=fR b (Cv q 3).length c)/\(eN w' v (Cv q 3).length 5 λj=>fm gL (abB.getD j 0))/\bL w w':=by
 have l:C.n4=3/\C.n5=2:=by obtain⟨k2,o,k3,c3,p,d,r,s,t,u,lb,x,rfl⟩:=h.is;exact⟨rfl,rfl⟩
 have k:=Fp C (λW v=>(∃b c,v=fR b (Cv q 3).length c)/\eN W v (Cv q 3).length 5 λj=>fm gL (abB.getD j 0)) w h.at (tG hd h.is) λW m=>(vC C q hd l.1 l.2 W m λy f=>tA hd h.is f).m λe w'⟨v,g,a,i⟩=>⟨v,g,⟨vB a,?_⟩,i⟩
 .exact k.m λe w'⟨v,g,a,i⟩=>⟨v,g,a.1,a.2,i⟩
 .rcases hd with rfl|rfl
  .have n:Cv 0 3=[]:=rfl;unfold kV at a;rw[n]at a⊢;obtain⟨b,c,rfl⟩:=vB a;exact⟨b,c,rfl,λh=>absurd h (dt _)⟩
  .exact amB a abB rfl
def e39{C:CD}(w:ag)(h:uP 0 C w)(hv:bB w J [0,1]):aI PL 14 #[fJ C.val,J] w λe w'=>∃a,e=nb (fB #[fJ a.val,fm gL 0])/\uP 1 a w'/\bL w w':=by
 obtain⟨k2,l,k3,c3,m,n,o,p,q,r,lb,s,rfl,b⟩:=h;exact(Iw w b hv).m λe w'⟨q2,d2,q3,d3,q4,d4,q5,d5,c,d,f,g,i,j,k⟩=>⟨_,i,⟨q2,d2,q3,d3,q4,d4,q5,d5,c,d,f,g,rfl,j⟩,k⟩
def e52{C:CD}(w:ag)(h:uP 1 C w):aI PL 11 #[fJ C.val] w λe w'=>∃v,e=nb (fB #[v,f6 aa,fm gL 0])/\bB w' v [0,0]/\bL w w':=by
 obtain⟨k2,b,k3,c3,c,d,f,g,i,j,lb,k,rfl,a⟩:=h;exact II w a
def agk{C:CD}(w:ag)(h:uP 0 C w):aI PL 26 #[fJ C.val,fm gL 2,fm gL 5] w λe w'=>∃v,e=nb (fB #[v,fm gL 110,f6 aa,fm gL 0])/\bB w' v [2,3,0]/\bL w w':=by
 have a:=h.at;obtain⟨k2,b,k3,c3,c,d,f,g,i,j,lb,k,e,_⟩:=h;exact Ba C 5 (ni rfl) e w a
def agl{C:CD}(w:ag)(h:uP 0 C w):aI PL 26 #[fJ C.val,fm gL 2,fm gL 3] w λe w'=>∃v,e=nb (fB #[v,fm gL 0,f6 ac,fm gL 0])/\bB w' v []/\bL w w':=by
 have a:=h.at;obtain⟨k2,b,k3,c3,c,d,f,g,i,j,lb,k,e,_⟩:=h;exact Ba C 3 (nk rfl) e w a
def e31{C:CD}(w:ag)(h:uP 0 C w):aI PL 27 #[fJ C.val] w λe w'=>∃v,e=nb (fB #[v,fm gL 0])/\bB w' v [0,2]/\bL w w':=by
 have k:=Cr C w h.at (IQ (ni rfl) h.is);have e:(qC C C.p.toNat (2 ^ C.p.toNat)).getD []=[0,2]:=by
  obtain⟨k2,a,k3,c3,b,c,d,f,g,i,lb,j,rfl⟩:=h.is
  kernel_rfl
 rwa[e]at k
def agm{C:CD}(w:ag)(h:uP 0 C w):aI PL 6 #[fJ C.val] w λe w'=>∃b c,e=nb (fB #[fR b 0 c,fm gL 0])/\bL w w':=
 (e37 (ni rfl) w h).m λe w'⟨v,a,⟨b,c,d⟩,_,f⟩=>⟨b,c,by rw[a,d];rfl,f⟩
def agn{C:CD}(w:ag)(h:uP 1 C w):aI PL 6 #[fJ C.val] w λe w'=>∃v,e=nb (fB #[v,fm gL 0])/\(eN w' v 1 5 λj=>fm gL (abB.getD j 0))/\bL w w':=
 (e37 (nk rfl) w h).m λe w'⟨v,a,_,b,c⟩=>⟨v,a,b,c⟩
def iO(W:ag)(t:aT)(m:Nat)(l:List Int)(n:Nat)(hl:l.length=n*m):eN (eu W (n6 (l.map λz=>fm gL z).toArray t)) (fR (fc ⟨W.heap.size,0,fb⟩) n n) n m λj=>fm gL (l.getD j 0):=by
 refine⟨_,_,rfl,λ_=>⟨_,_,rfl,ar,λj b=>?_⟩⟩;have h:=au W (n6 (l.map λz=>fm gL z).toArray t);have a:j<l.length:=ab;simp only[eq,h];simp[et,a]
attribute [local go_sem] Oper.semAt_some
def NC(P:ag->Prop):Prop:=∀W a,P W->bL W a->P a
def iy(W:ag):List (ag->Prop)->Prop
 |[]=>True
 |P::l=>(P W/\NC P)/\iy W l
def iy.on{W a:ag}:∀{l:List (ag->Prop)},iy W l->bL W a->iy a l
 |[],_,_=>trivial
 |_::_,h,b=>⟨⟨h.1.2 _ _ h.1.1 b,h.1.2⟩,iy.on h.2 b⟩
def iy.add{W:ag}{l:List (ag->Prop)}(h:iy W l)(P:ag->Prop)(a:P W)(b:NC P):iy W (P::l):=⟨⟨a,b⟩,h⟩
def mE(k:Nat)(x:Obj):NC λW=>W.heap[k]?=fc x:=λ_ _ h a=>(a.k _ (e7 h)).t h
def gz(v:aP)(n m:Nat)(f:Nat->aP):NC λW=>eN W v n m f:=λ_ _ h a=>Reads.on h a
def Lp(d:Int)(C:CD):NC (uP d C):=λ_ _ h a=>h.on a
def SU(w:ag):NC λW=>bL w W:=λ_ _ h a=>f9 h a
def IV(w:ag):aI PL 5 #[] w (aO (f6 aa) w):=by
 go_enter (fx ao Tryz.func5),Tryz.ntmps5
 go_upto_region 2 with(go_at_call 19;go_must (refine(EV _).m ?_);rintro e w0⟨k2,L,k3,c3,M,q,N,r,O,P,lb,Q,rfl,⟨r2,r3,r4,r5,ra,rb⟩,a⟩;have z:Hid (uP 0 (ir k2 L k3 c3 M q N r O P lb Q 0) w0):=gf ⟨k2,L,k3,c3,M,q,N,r,O,P,lb,Q,rfl,⟨r2,r3,r4,r5,ra,rb⟩⟩;have HB:=gf a;clear r2 r3 r4 r5 ra rb a;obtain⟨C,m⟩:=bs (ir k2 L k3 c3 M q N r O P lb Q 0);rw[<-m]at z ⊢;clear m)
 obtain⟨kb,R⟩:=bs w0.heap.size;obtain⟨W2,i⟩:=bs (eu w0 (n6 C.val 27));have s:bL w0 W2:=by rw[i];exact(gg _ _).a (dk _) _
 have S:Hid (iy W2 [λW=>W.heap[kb]?=fc (n6 C.val 27),uP 0 C,λW=>bL w W]):=gf ⟨⟨by rw[i,R];exact au _ _,mE _ _⟩,⟨z.o.on s,Lp _ _⟩,⟨f9 HB.o s,SU _⟩,trivial⟩;rw[<-i,<-R];clear i R s z HB
 go_upto_region 3 with(go_at_call 20;go_must (refine(agd _).m ?_);rintro e w'⟨rfl,rfl⟩)
 go_upto_region 4 with(go_at_call 20;go_must (refine(age _).m ?_);rintro e w'⟨rfl,rfl⟩)
 obtain⟨b,c,d,f,f4,g⟩:=bf S.o.1.1
 go_upto_region 5 with(go_at_call 21;go_must (refine(agf _ (S.o.2.1.1)).m ?_);rintro e n⟨rfl,a⟩;have A:=gf (S.o.on a);clear a b c d f f4 g)
 obtain⟨T,hb⟩:=bs n.heap.size;obtain⟨W4,i⟩:=bs (eu n (n6 #[fm gL 16,fm gL 20] 30));have U:=gf ((A.o.on (show bL n W4 by rw[i];exact(gg _ _).a (dk _) _)).add (λW=>W.heap[T]?=fc (n6 #[fm gL 16,fm gL 20] 30)) (by rw[i,hb];exact au _ _) (mE _ _));rw[<-i,<-hb];clear i hb A;obtain⟨b,c,d,f,f4,g⟩:=bf (U.o.2.1.1)
 go_upto_region 6 with(go_at_call 21;go_must (refine(agh _ (U.o.2.2.1.1)).m ?_);rintro e o⟨rfl,a⟩;have B:=gf (U.o.on a);clear a b c d f f4 g)
 obtain⟨V,hb⟩:=bs o.heap.size;obtain⟨W5,i⟩:=bs (eu o (n6 #[fm gL 24,fm gL 25] 30));have X:=gf ((B.o.on (show bL o W5 by rw[i];exact(gg _ _).a (dk _) _)).add (λW=>W.heap[V]?=fc (n6 #[fm gL 24,fm gL 25] 30)) (by rw[i,hb];exact au _ _) (mE _ _));rw[<-i,<-hb];clear i hb B;obtain⟨b,c,d,f,f4,g⟩:=bf (X.o.2.2.1.1)
 go_upto_region 7 with(go_at_call 22;go_must (refine(agi _ (X.o.2.2.2.1.1)).m ?_);rintro e w6x⟨rfl,a⟩;have Y:=gf (X.o.on a);clear a b c d f f4 g;obtain⟨b,c,d,f,f4,g⟩:=bf (Y.o.2.2.1.1))
 go_upto_region 8 with(go_at_call 22;go_must (refine(agj _ (Y.o.2.2.2.1.1)).m ?_);rintro e w7x⟨rfl,a⟩;have Z:=gf (Y.o.on a);clear a b c d f f4 g;obtain⟨b,c,d,f,f4,g⟩:=bf (Z.o.2.2.1.1))
 go_upto_region 9 with(go_at_call 23;go_must (refine(e34 _ (Z.o.2.2.2.1.1)).m ?_);rintro e w8x⟨v8,rfl,l,a⟩;have K8:=gf ((Z.o.on a).add (λW=>eN W v8 3 5 λj=>fm gL (SJ.getD j 0)) l (gz _ _ _ _));clear l;clear a b c d f f4 g;obtain⟨b,c,d,f,f4,g⟩:=bf (K8.o.2.2.2.1.1))
 go_upto_region 10 with(go_at_call 24;go_must (refine(e59 _ (K8.o.2.2.2.2.1.1)).m ?_);rintro e p⟨rfl,a⟩;have D:=gf (K8.o.on a);clear a b c d f f4 g)
 obtain⟨b9,hb⟩:=bs p.heap.size;obtain⟨W9,i⟩:=bs (eu p (n6 #[fm gL 18,fm gL 23] 30));have K9:=gf ((D.o.on (show bL p W9 by rw[i];exact(gg _ _).a (dk _) _)).add (λW=>W.heap[b9]?=fc (n6 #[fm gL 18,fm gL 23] 30)) (by rw[i,hb];exact au _ _) (mE _ _));rw[<-i,<-hb];clear i hb D;obtain⟨b,c,d,f,f4,g⟩:=bf (K9.o.2.2.2.2.1.1)
 go_upto_region 11 with(go_at_call 25;go_must (refine(e36 _ (K9.o.2.2.2.2.2.1.1)).m ?_);rintro e aul⟨E,rfl,l,a⟩;have Ry:=gf ((K9.o.on a).add (λW=>bB W E [2,0,1]) l (gz _ _ _ _));clear l;clear a b c d f f4 g;obtain⟨b,c,d,f,f4,g⟩:=bf (Ry.o.2.2.2.2.2.1.1))
 go_upto_region 12 with(go_at_call 6;go_must (refine(agm _ (Ry.o.2.2.2.2.2.2.1.1)).m ?_);rintro e aum⟨Fy,q11,rfl,a⟩;have Tr:=gf (Ry.o.on a);clear a b c d f f4 g;obtain⟨b,c,d,f,f4,g⟩:=bf (Tr.o.2.2.2.2.2.1.1))
 go_upto_region 13 with(go_at_call 14;go_must (refine(e39 _ ((Tr.o.2.2.2.2.2.2.1.1).on ((gg _ _).a (dk _) _)) (iO _ 3 1 [0,1] 2 rfl)).m ?_);rintro e K⟨C1,rfl,hE,a⟩;have F:=gf ((Tr.o.on ((gg _ _).a (dk _) _)).on a);have z:=gf hE;clear hE;clear a b c d f f4 g)
 obtain⟨Vv,hb⟩:=bs K.heap.size;obtain⟨W12,i⟩:=bs (eu K (n6 C1.val 27));have t:bL K W12:=by rw[i];exact(gg _ _).a (dk _) _
 have VC:=gf (((F.o.on t).add (λW=>W.heap[Vv]?=fc (n6 C1.val 27)) (by rw[i,hb];exact au _ _) (mE _ _)).add (uP 1 C1) (z.o.on t) (Lp _ _));rw[<-i,<-hb];clear i hb t F z;obtain⟨b,c,d,f,f4,g⟩:=bf (VC.o.2.1.1)
 go_upto_region 14 with(go_at_call 6;go_must (refine(agn _ (VC.o.1.1)).m ?_);rintro e aun⟨UW,rfl,l,a⟩;have u:=gf ((VC.o.on a).add (λW=>eN W UW 1 5 λj=>fm gL (abB.getD j 0)) l (gz _ _ _ _));clear l;clear a b c d f f4 g;obtain⟨b,c,d,f,f4,g⟩:=bf (u.o.2.2.1.1))
 go_upto_region 15 with(go_at_call 11;go_must (refine(e52 _ (u.o.2.1.1)).m ?_);rintro e auo⟨UX,rfl,l,a⟩;have Tq:=gf ((u.o.on a).add (λW=>bB W UX [0,0]) l (gz _ _ _ _));clear l;clear a b c d f f4 g;obtain⟨b,c,d,f,f4,g⟩:=bf (Tq.o.2.2.2.2.2.2.2.2.2.1.1))
 go_upto_region 16 with(go_at_call 26;go_must (refine(agk _ (Tq.o.2.2.2.2.2.2.2.2.2.2.1.1)).m ?_);rintro e aup⟨H,rfl,l,a⟩;have v:=gf ((Tq.o.on a).add (λW=>bB W H [2,3,0]) l (gz _ _ _ _));clear l;clear a b c d f f4 g;obtain⟨b,c,d,f,f4,g⟩:=bf (v.o.2.2.2.2.2.2.2.2.2.2.1.1))
 go_upto_region 17 with(go_at_call 26;go_must (refine(agl _ (v.o.2.2.2.2.2.2.2.2.2.2.2.1.1)).m ?_);rintro e auq⟨v16,rfl,l,a⟩;have x:=gf ((v.o.on a).add (λW=>bB W v16 []) l (gz _ _ _ _));clear l;clear a b c d f f4 g;obtain⟨b,c,d,f,f4,g⟩:=bf (x.o.2.2.2.2.2.2.2.2.2.2.2.1.1))
 go_upto_region 18 with(go_at_call 27;go_must (refine(e31 _ (x.o.2.2.2.2.2.2.2.2.2.2.2.2.1.1)).m ?_);rintro e y⟨I,rfl,l,a⟩;have J:=gf ((x.o.on a).add (λW=>bB W I [0,2]) l (gz _ _ _ _));clear l;clear a b c d f f4 g;obtain⟨b,c,d,f,f4,g⟩:=bf (J.o.2.2.2.2.2.2.2.2.2.2.2.2.1.1))
 clear b c d f f4 g
 go_upto_region 20 with fail
 have KK:=J;have e4:=KK.o.2.2.2.2.2.2.2.2.2.2.2.1.1;have e5:=KK.o.2.2.2.2.2.2.2.2.2.2.1.1;have e9:=KK.o.2.2.2.2.2.2.2.2.1.1;obtain⟨wq,hwq⟩:=bs y;have E4:=gf e4;have E5:=gf e5;have E9:=gf e9;clear e4 e5 e9 hwq;refine ig (λW=>bL y W) (λ_ _=>True) (λ_=>aa) (λ_ _ _=>True) rfl ae (λ_ _ _ _ _ _=>trivial) (λ_ _ _ _ _ _ _ _ _=>trivial) (gg _ _).d ?_
 iterate 49 (
  apply aY
  case hE=>rfl
  case h=>
   intro vs W m hd;have q:=(m.k _ (e7 E4.o)).t E4.o;have r:=(m.k _ (e7 E5.o)).t E5.o;have c9:=(m.k _ (e7 E9.o)).t E9.o;have x0:eq W ⟨T,0,fb⟩=fc (fm gL 16):=by simp[eq,q]
   have x1:eq W ⟨T,1,fb⟩=fc (fm gL 20):=by simp[eq,q]
   have x2:eq W ⟨V,0,fb⟩=fc (fm gL 24):=by simp[eq,r]
   have x3:eq W ⟨V,1,fb⟩=fc (fm gL 25):=by simp[eq,r]
   have x4:eq W ⟨b9,0,fb⟩=fc (fm gL 18):=by simp[eq,c9]
   have x5:eq W ⟨b9,1,fb⟩=fc (fm gL 23):=by simp[eq,c9]
   have q1:=yM;have q2:=Co;clear q r c9;go_simp
   first
   |(go_at_call 28;refine(fU _ _ _).m ?_;rintro e W'⟨rfl,a⟩;exact⟨_,rfl,rfl,f9 m a⟩)
   |exact rfl
  case hb=>exact E0)
 refine cP λvs W m hd=>?_;have KK:=gf (KK.o.on m);clear hd m
 go_wp2_with (first
  |(go_at_call 28;go_must (refine(fU _ _ _).m ?_);rintro e w'⟨rfl,a⟩;have KK:=gf (iy.on KK.o a);clear a)
  |(go_at_call 29;go_must (refine(zT v8 _ 3 (λj=>SJ.getD j 0) _ ((iy.on KK.o ((gg _ _).a (dk _) _)).2.2.2.2.2.2.2.2.2.1.1) (iO _ 73 5 SJ 3 rfl) ao).m ?_);rintro e w'⟨rfl,a⟩;have KK:=gf (iy.on (iy.on KK.o ((gg _ _).a (dk _) _)) a);clear a)
  |(go_at_call 30;go_must (refine(Cp E _ 3 (λj=>[2,0,1].getD j 0) _ ((iy.on KK.o ((gg _ _).a (dk _) _)).2.2.2.2.2.2.2.1.1) (iO _ 57 1 [2,0,1] 3 rfl) ao).m ?_);rintro e w'⟨rfl,a⟩;have KK:=gf (iy.on (iy.on KK.o ((gg _ _).a (dk _) _)) a);clear a)
  |(go_at_call 8;go_must (refine(vS UW _ 1 (λj=>abB.getD j 0) _ ((iy.on KK.o ((gg _ _).a (dk _) _)).2.2.2.2.1.1) (iO _ 76 5 abB 1 rfl) ao).m ?_);rintro e w'⟨rfl,a⟩;have KK:=gf (iy.on (iy.on KK.o ((gg _ _).a (dk _) _)) a);clear a))
 refine(pI UX _ 2 (λj=>[0,0].getD j 0) _ ((iy.on KK.o ((gg _ _).a (dk _) _)).2.2.2.1.1) (iO _ 3 1 [0,0] 2 rfl) ao).m ?_;rintro e w1x⟨rfl,a⟩;have KK:=gf (iy.on (iy.on KK.o ((gg _ _).a (dk _) _)) a);clear a;go_wp2;refine(pI H _ 3 (λj=>[2,3,0].getD j 0) _ ((iy.on KK.o ((gg _ _).a (dk _) _)).2.2.1.1) (iO _ 3 1 [2,3,0] 3 rfl) ao).m ?_;rintro e w2x⟨rfl,a⟩;have KK:=gf (iy.on (iy.on KK.o ((gg _ _).a (dk _) _)) a);clear a;go_wp2;refine(pI I _ 2 (λj=>[0,2].getD j 0) _ ((iy.on KK.o ((gg _ _).a (dk _) _)).1.1) (iO _ 3 1 [0,2] 2 rfl) ao).m ?_;rintro e w3x⟨rfl,a⟩;have KK:=gf (iy.on (iy.on KK.o ((gg _ _).a (dk _) _)) a);clear a;go_wp2;go_ret;exact⟨rfl,KK.o.2.2.2.2.2.2.2.2.2.2.2.2.2.2.1.1⟩
end Go.Proofs
namespace Go.Proofs
open Go.RowKit Go.Shelf
variable {L:List nR}{M q:Nat}{C O:ag}{R Y:aP}{J:Nat->aP}
def s8(L:List nR):Nat->List nR
 |0=>[]
 |n+1=>s8 L n++L.filter λy=>y.2.2.2.2==(n:Int)
def afE{a:Type}(lt:a->a->Bool)(x:a):∀(A P:List a),(∀y∈A,lt x y=aa)->aax lt x (A++P)=A++aax lt x P
 |[],_,_=>rfl
 |y::A,P,h=>by
  rw[fY,aax,if_pos (h y (pr ..)),afE lt x A P λz b=>h z (o9 _ b)];rfl
def aht{a:Type}(lt:a->a->Bool)(x:a)(P:List a)(h:∀y∈P,lt x y=ac):aax lt x P=x::P:=by
 cases P with
 |nil=>rfl
 |cons y P=>rw[aax,h y (pr ..)];rfl
def afF(L:List nR):∀n:Nat,∀y∈s8 L n,y.2.2.2.2<n
 |0,y,h=>by cases h
 |n+1,y,h=>by
  rcases lx.1 h with h|h
  .have:=afF L n y h;omega
  .have:=(lu.1 h).2;simp only[beq_iff_eq]at this;omega
def ac6(L:List nR)(x:nR):∀n:Nat,(n:Int)<=x.2.2.2.2->s8 (L++[x]) n=s8 L n
 |0,_=>rfl
 |n+1,h=>by
  rw[s8,s8,ac6 L x n ab,ki];have:¬x.2.2.2.2=(n:Int):=ab;simp[this]
def ad1(L:List nR)(x:nR):∀n:Nat,0<=x.2.2.2.2->x.2.2.2.2<n->aax Q3 x (s8 L n).reverse=(s8 (L++[x]) n).reverse
 |0,h,k=>ab
 |n+1,h,k=>by
  by_cases e:x.2.2.2.2=(n:Int)
  .rw[aht _ _ _ λy hy=>?_,s8,s8,ac6 L x n ab,ki]
   .simp[e]
   .have:=afF L (n+1) y (List.mem_reverse.1 hy);simp only[Q3,decide_eq_false_iff_not];omega
  .rw[s8,s8,List.reverse_append,afE _ _ _ _ λy hy=>?_,ad1 L x n h ab,ki]
   .simp[e]
   .have:=(lu.1 (List.mem_reverse.1 hy)).2;simp only[beq_iff_eq]at this;simp only[Q3,decide_eq_true_eq];omega
def aga(h:∀y∈L,0<=y.2.2.2.2/\y.2.2.2.2<q):NR Q3 L=s8 L q:=by
 have nil:∀q,s8 [] q=[]:=λq=>by
  induction q with
  |zero=>rfl
  |succ q a=>rw[s8,a];rfl
 have key:∀(l p:List nR),(∀y∈l,0<=y.2.2.2.2/\y.2.2.2.2<q)->gp (λP x=>aax Q3 x P) (s8 p q).reverse l=(s8 (p++l) q).reverse:=by
  intro l
  induction l with
  |nil=>intro p _;simp
  |cons x l a=>
   intro p b;obtain⟨c,d⟩:=b x (pr ..);rw[cB,ad1 p x q c d,a (p++[x]) λy hy=>b y (o9 _ hy),dT];rfl
 have:=key L [] h;rw[nil]at this;rw[NR,abi];have e:gp (λP x=>aax Q3 x P) [] L=(s8 L q).reverse:=this;rw[e,List.reverse_reverse]
def alh{a1 a2 a3 a4 a b c d:Int}(h:a3<=a4)(i:a<=b)(j:a1<=a2)(k:c<=d):ac3 a1 a2 a3 a4 a b c d=if a4<=a\/d<=a1 then 2 else if a2<c/\b<a3 then 1 else 0:=by
 unfold ac3 Ej;by_cases e1:a4<=a<;>by_cases e:d<=a1<;>by_cases f:a2<c<;>by_cases g:b<a3<;>simp[e1,e,f,g]<;>omega
attribute [local go_sem] Oper.semAt_some
set_option maxHeartbeats 40000000
def ad8{W:ag}{b:Option a7}{n c:Nat}{l:List nR}(h:xu W (fR b n c) l){i:Nat}(hi:i<l.length):∃k o,b=fc ⟨k,o,fb⟩/\∀a,bL W a->eq a ⟨k,o+i*5,fb⟩=fc (fm gL (l[i].1:Nat))/\eq a ⟨k,o+i*5+1,fb⟩=fc (fm gL l[i].2.1)/\eq a ⟨k,o+i*5+2,fb⟩=fc (fm gL l[i].2.2.1)/\eq a ⟨k,o+i*5+3,fb⟩=fc (fm gL l[i].2.2.2.1)/\eq a ⟨k,o+i*5+4,fb⟩=fc (fm gL l[i].2.2.2.2):=by
 obtain⟨b',g,e,h⟩:=h;cases e;obtain⟨k,o,e1,d,hc⟩:=h ab;refine⟨k,o,e1,λa f=>?_⟩;have e:∀j,eq a ⟨k,j,fb⟩=eq W ⟨k,j,fb⟩:=λj=>f.c (p:=⟨k,j,fb⟩) d;simp only[e];exact hc i hi
def agW(a b x y:Int)(w:ag)(h:(-10000<=a/\a<=10000)/\(-10000<=b/\b<=10000)/\(-10000<=x/\x<=10000)/\(-10000<=y/\y<=10000)) :
 aI PL 125 #[fJ #[fm gL a,fm gL b],fJ #[fm gL x,fm gL y]] w (aO (fJ #[fm gL (a+x),fm gL (b+y)]) w):=by
 obtain⟨⟨a1,a2⟩,⟨c,d⟩,⟨x1,x2⟩,⟨y1,y2⟩⟩:=h;have w1:gE gL (a+x)=a+x:=g6 _ ab;have w2:gE gL (b+y)=b+y:=g6 _ ab;go_enter (fx ao Tryz.func125),Tryz.ntmps125;go_wp2;refine a8 (v:=fJ #[fm gL (a+x),fm gL (b+y)]) ?_ rfl ⟨rfl,?_⟩
 .simp[a9,Tryz.results125,go_sem]
 .exact(((gg _ _).a (dk _) _).a ar _).a (by simp;omega) _
structure KVs(C:CD)(g:Nat)(w:ag)(lo hi:Int)(v:aP)(l:List nR)(W:ag):Prop where
 box:W.heap[w.heap.size]?=fc (n6 C.val 27)
 PM:W.heap[w.heap.size+1]?=fc (n6 #[f7 (C.x5 g).1,fm gL (C.x5 g).2.1,fm gL (C.x5 g).2.2] 51)
 cm:W.heap[w.heap.size+1+1]?=fc (n6 #[fm gL lo,fm gL hi] 30)
 own:AY W (w.heap.size+3) v l
 low:bL w W
def KVs.on{C:CD}{g:Nat}{w W b:ag}{c hi:Int}{v:aP}{l:List nR}(h:KVs C g w c hi v l W)(a:bL W b):KVs C g w c hi v l b:=
 ⟨(a.k _ (e7 h.box)).t h.box,(a.k _ (e7 h.PM)).t h.PM,(a.k _ (e7 h.cm)).t h.cm,h.own.on a,f9 h.low a⟩
def awC(n0:Nat)(j:Nat)(vs:Nat->aP)(W:ag):Prop:=j=11->∃k,vs 11=f8 (fc ⟨k,0,fb⟩)/\n0<=k/\W.heap[k]?=fc (n6 #[fm gL 0,fm gL 0,fm gL 0,fm gL 0,fm gL 0] 73)
def amC{base size B o:Nat}{xs:List aP}(h:em C base q size R M xs)(d:B<base):em (eA C ⟨B,o,fb⟩ Y) base q size R M xs:=by
 obtain⟨b,h⟩:=h
 rcases h with h|⟨g,cap,a,e1,hb,hg,c⟩
 .exact⟨b,ni h⟩
 .exact⟨b,nk ⟨g,cap,a,e1,hb,(aZ ab).t hg,c⟩⟩
def agX{W:ag}{r:Nat}{x0 x1 x2 x3 x4 u0 u1 u2 u3 u4:aP}{t:aT}(h:W.heap[r]?=fc (n6 #[x0,x1,x2,x3,x4] t)):(eA (eA (eA (eA (eA W ⟨r,0,fb⟩ u0) ⟨r,1,fb⟩ u1) ⟨r,2,fb⟩ u2) ⟨r,3,fb⟩ u3) ⟨r,4,fb⟩ u4).heap[r]?=fc (n6 #[u0,u1,u2,u3,u4] t):=by
 simp only[eA,dq,if_pos,h,il];rfl
def agY{ops:Array bd}{rest:List bd}{o:bd}{a:Act}{Q:bi->Act->ag->Prop}(c:o.guard=fb)(s x:bj)
 (d:o.op=.call { callee:=.builtin mc,args:=#[s,x],argTypes:=#[60,60] }) (base:Nat) (v:aP) (l:List nR) (y:nR) (b:Nat) (hs:a.eval s=v) (e:AY C base v l)
 (f:a.eval x=fR (fc ⟨b,0,fb⟩) 1 1) (hc:C.heap[b]?=fc (n6 (aaW y) 73)) (hl:l.length<=1000) (g:base<=C.heap.size)
 (h:∀v' w',AY w' base v' (l++[y])->C.grownBy w' v.ownBlock->bm PL ops Q rest (a.put o.dst v') w'):bm PL ops Q (o::rest) a C:=by
 obtain⟨i,hi,j,k,m⟩:=bq aaV;refine bC _ c s x 60 d base 73 i _ 5 40 afX hi j k m rfl ao v l.length _ hs e ⟨b,0,fb⟩ 1 1 (vV y) f rfl (VW hc) (by simp[vV,fp]) (by simp only[b8];omega) ab g λv' w' n p _=>?_;refine h v' w' ?_ p;unfold AY;rw[dC,iU,List.flatMap_cons,List.flatMap_nil,l7];exact n
def agb{t:aT}(h:C.heap[q]?=fc (n6 #[R,Y] t)):eq C ⟨q,0,fb⟩=fc R/\eq C ⟨q,1,fb⟩=fc Y:=by
 constructor<;>simp[eq,h]
def ahZ{W:ag}{r:Nat}{x0 x1 u0 u1:aP}{t:aT}(h:W.heap[r]?=fc (n6 #[x0,x1] t)):(eA (eA W ⟨r,0,fb⟩ u0) ⟨r,1,fb⟩ u1).heap[r]?=fc (n6 #[u0,u1] t):=by
 simp only[eA,dq,if_pos,h,il];rfl
def agc(C:CD)(g:Nat)(w:ag)(h:C.At w)(hc:C.cx=0)(hg:g<C.n5) :
 aI PL 98 #[fJ C.val,fm gL g] w λe w'=>∃u,e=nb u/\AY w' w.heap.size u (mD C g C.n4)/\bL w w':=by
 have h4:=FT hc;have P:=j7 hc;have hs:=(afZ hc hg).1;have HC:=gf hc;have D:=gf h;have HV:=gf (Sa C hc hg);have s5:=h.s5 ab;have s4:=h.s4 ab;have Q:Hid (KB C w (eu w (n6 C.val 27))):=gf ⟨au _ _,(gg _ _).a (dk _) _⟩;clear h hc;obtain⟨h41,h42⟩:=h4;go_enter (fx ao Tryz.func98),Tryz.ntmps98;obtain⟨R,T,U,V,f4,O⟩:=bf Q.o.box;rw[s5]at O;obtain⟨g0,g1,g2⟩:eq (eu w (n6 C.val 27)) ⟨C.k5,C.o5+g*3,fb⟩=fc (f7 (C.x5 g).1)/\eq (eu w (n6 C.val 27)) ⟨C.k5,C.o5+g*3+1,fb⟩=fc (fm gL (C.x5 g).2.1)/\eq (eu w (n6 C.val 27)) ⟨C.k5,C.o5+g*3+2,fb⟩=fc (fm gL (C.x5 g).2.2):=⟨(D.o.below Q.o.low).FI g hg,(D.o.below Q.o.low).HU g hg,(D.o.below Q.o.low).J6 g hg⟩
 have i1:(g:Int)<C.n5:=ab
 go_upto_region 4 with fail
 have a3:∀a b c:Obj,(eu (eu (eu w a) b) c).heap[w.heap.size]?=fc a/\(eu (eu (eu w a) b) c).heap[w.heap.size+1]?=fc b/\(eu (eu (eu w a) b) c).heap[w.heap.size+1+1]?=fc c/\bL w (eu (eu (eu w a) b) c):=λa b c=>by
  have k1:=au w a;have k2:=au (eu w a) b;have k3:=au (eu (eu w a) b) c;simp only[eD]at k2 k3;have e:∀(W:ag)(o:Obj)(k:Nat)(x:Obj),W.heap[k]?=fc x->(eu W o).heap[k]?=fc x:=λW o k x h=>((gg W.heap.size W).a (dk _) o).k k (e7 h) |>.trans h
  exact⟨e _ _ _ _ (e _ _ _ _ k1),e _ _ _ _ k2,k3,(((gg _ _).a (dk _) _).a ar _).a (by simp;omega) _⟩
 obtain⟨W3,E⟩:=bs (eu (eu (eu w (n6 C.val 27)) (n6 #[f7 (C.x5 g).1,fm gL (C.x5 g).2.1,fm gL (C.x5 g).2.2] 51)) (n6 #[fm gL (C.x5 g).2.2,fm gL (C.x5 g).2.2] 30))
 have K1:Hid (KVs C g w (nT C g 0).2.1 (nT C g 0).2.2 (fR fb 0 0) [] W3):=gf (by
  rw[E];obtain⟨k1,k2,k3,k4⟩:=a3 (n6 C.val 27) (n6 #[f7 (C.x5 g).1,fm gL (C.x5 g).2.1,fm gL (C.x5 g).2.2] 51) (n6 #[fm gL (C.x5 g).2.2,fm gL (C.x5 g).2.2] 30)
  exact⟨k1,k2,k3,⟨rfl,ni ⟨rfl,rfl⟩⟩,k4⟩)
 rw[<-E];clear E a3 R T U V f4 O g0 g1 g2 Q;go_wp2
 go_loopw [7,8] (λv7 v8 wr=>∃i:Nat,i<=C.n4/\v8=fm gL i/\KVs C g w (nT C g i).2.1 (nT C g i).2.2 v7 (mD C g i) wr) (λ_ v8 _=>C.n4-(intOf v8).toNat)
 case atStart=>exact⟨0,eF _,rfl,K1.o⟩
 case round=>
  obtain⟨i,hi,rfl,hK⟩:=hrel;have q:=gf hK;clear hK K1;obtain⟨R,T,U,V,f4,O⟩:=bf q.o.box;rw[s4]at f4;by_cases aH:i<C.n4
  .have i2:(i:Int)<C.n4:=ab;have Y:=q.o.PM;have g1:eq wr ⟨w.heap.size+1,1,fb⟩=fc (fm gL (C.x5 g).2.1):=by simp[eq,Y]
   clear Y;obtain⟨r,Z⟩:=bs ((nT C g i).1);have hrp:r=C.rp g i:=by rw[Z];exact abf HC.o hg i
   have MW:((C.x5 g).2.1+(i:Int)) % (C.n4:Int)=(r:Int):=by
    rw[hrp];unfold CD.rp G0 CD.S;rw[g7,Int.natCast_add,Int.toNat_of_nonneg hs.1]
   have GM:((C.x5 g).2.1+(i:Int)).tmod (C.n4:Int)=(r:Int):=by rw[g8 ab];exact MW
   have Tk:r<C.n4:=by rw[Z];exact HV.o.p4 i
   have Q8:(r:Int)<C.n4:=ab;have w0:gE gL ((C.x5 g).2.1+(i:Int))=(C.x5 g).2.1+(i:Int):=g6 _ ab;have hn0:(C.n4:Int)≠0:=ab;have hnz:¬C.n4=0:=ab;have Cu:=HV.o.lo i ab;have hhi:=HV.o.hi i ab;have Va:=HV.o.nn r Tk;have F:Nu C g i=(r,(nT C g i).2.1,(nT C g i).2.2,(nT C g i).2.1+(C.x4 r).n 7,(nT C g i).2.2+(C.x4 r).n 8):=by rw[Nu,<-Z]
   have aF:(nT C g (i+1)).2.1=(nT C g i).2.1+(C.x4 r).n 7+(C.x4 r).n 9/\(nT C g (i+1)).2.2=(nT C g i).2.2+(C.x4 r).n 8+(C.x4 r).n 10:=by rw[nT,<-Z];exact⟨rfl,rfl⟩
   obtain⟨s,Sc⟩:=bs ((nT C g i).2.1);obtain⟨t,Se⟩:=bs ((nT C g i).2.2);rw[<-Sc,<-Se]at q F aF;rw[<-Sc]at Cu;rw[<-Se]at hhi;have HVI:=gf F;have y:=gf aF;clear Z hrp F aF Sc Se
   go_upto_region 8 with fail
   try rw[MW]
   clear MW GM w0 hn0 hnz g1 R T U V f4 O;have PL1:Hid (∀W,aI PL 125 #[fJ #[fm gL s,fm gL t],fJ #[fm gL ((C.x4 r).n 7),fm gL ((C.x4 r).n 8)]] W (aO (fJ #[fm gL (s+(C.x4 r).n 7),fm gL (t+(C.x4 r).n 8)]) W)):=gf λW=>agW _ _ _ _ W ab;have H:Hid (∀W,aI PL 125 #[fJ #[fm gL (s+(C.x4 r).n 7),fm gL (t+(C.x4 r).n 8)],fJ #[fm gL ((C.x4 r).n 9),fm gL ((C.x4 r).n 10)]] W (aO (fJ #[fm gL (s+(C.x4 r).n 7+(C.x4 r).n 9),fm gL (t+(C.x4 r).n 8+(C.x4 r).n 10)]) W)):=gf λW=>agW _ _ _ _ W ab;obtain⟨I,vL⟩:=bs (s+(C.x4 r).n 7);obtain⟨J,yp⟩:=bs (t+(C.x4 r).n 8);rw[<-vL,<-yp]at PL1 H HVI y;obtain⟨t1,ht1⟩:=bs (I+(C.x4 r).n 9);obtain⟨t2,Q6⟩:=bs (J+(C.x4 r).n 10);rw[<-ht1,<-Q6]at H y;clear vL yp ht1 Q6 Cu hhi Va;refine cT 12 (λW=>bL wr W) (λW W'=>bL W W') (λj=>j != 11) (awC wr.heap.size) rfl ae ae (λj vs W W' hle h e=>(h e).i λk K=>⟨K.1,K.2.1,(hle.k _ (e7 K.2.2)).t K.2.2⟩) (λj o ho vs eX W he hd h e=>by subst e;rw[<-he];exact h rfl) (gg _ _).d ?_
   iterate 11 (
    apply aY
    case hE=>rfl
    case h=>
     intro vs W d hd;have KW:=q.o.on d;obtain⟨R,T,U,V,f4,O⟩:=bf KW.box;rw[s4]at f4;obtain⟨c0,c1⟩:=agb KW.cm;have p7:=(D.o.below KW.low).dB r Tk 7 ab ab;have p8:=(D.o.below KW.low).dB r Tk 8 ab ab;clear KW;go_simp
     first
      |with_reducible exact rfl
      |(go_at_call 125;(with_reducible refine(PL1.o W).m ?_);rintro e W'⟨rfl,A⟩;exact⟨_,rfl,rfl,f9 d A,A⟩)
      |exact⟨rfl,gg _ _⟩
      |exact⟨rfl,d,gg _ _⟩
    case hb=>exact E0)
   apply eH
   case hE=>rfl
   case hb=>exact E0
   case h=>
    intro vs W d hd;go_simp;have A:=(gg W.heap.size W).a (dk _) (n6 #[fm gL 0,fm gL 0,fm gL 0,fm gL 0,fm gL 0] 73);exact⟨f9 d A,A,λ_=>⟨W.heap.size,by simp[upd],d.z,au _ _⟩⟩
   refine cP λvs W d hd=>?_;obtain⟨k,K,Ll,l⟩:=hd 11 ab rfl rfl;have HC1:=gf d;have HX:=gf l;have y0:eq W ⟨k,0,fb⟩=fc (fm gL 0):=by simp[eq,l]
   have y1:eq W ⟨k,1,fb⟩=fc (fm gL 0):=by simp[eq,l]
   have y2:eq W ⟨k,2,fb⟩=fc (fm gL 0):=by simp[eq,l]
   have y3:eq W ⟨k,3,fb⟩=fc (fm gL 0):=by simp[eq,l]
   have y4:eq W ⟨k,4,fb⟩=fc (fm gL 0):=by simp[eq,l]
   have fz:=tO l;have awE:=e7 l;rw[K];clear d hd K l
   go_upto_region 9 with fail
   obtain⟨f,z⟩:=bs (eA (eA (eA (eA (eA W ⟨k,0,fb⟩ (fm gL r)) ⟨k,1,fb⟩ (fm gL s)) ⟨k,2,fb⟩ (fm gL t)) ⟨k,3,fb⟩ (fm gL I)) ⟨k,4,fb⟩ (fm gL J))
   have L:Hid (bL wr f):=gf (by
    rw[z]
    exact((((HC1.o.s (p:=⟨k,0,fb⟩) Ll _).s (p:=⟨k,1,fb⟩) Ll _).s (p:=⟨k,2,fb⟩) Ll _).s (p:=⟨k,3,fb⟩) Ll _).s (p:=⟨k,4,fb⟩) Ll _)
   have M:Hid (f.heap[k]?=fc (n6 #[fm gL r,fm gL s,fm gL t,fm gL I,fm gL J] 73)):=gf (by rw[z];exact agX HX.o);rw[<-z];clear z y0 y1 y2 y3 y4 fz awE HC1 HX;have m:=M.o;have y0:eq f ⟨k,0,fb⟩=fc (fm gL r):=by simp[eq,m]
   have y1:eq f ⟨k,1,fb⟩=fc (fm gL s):=by simp[eq,m]
   have y2:eq f ⟨k,2,fb⟩=fc (fm gL t):=by simp[eq,m]
   have y3:eq f ⟨k,3,fb⟩=fc (fm gL I):=by simp[eq,m]
   have y4:eq f ⟨k,4,fb⟩=fc (fm gL J):=by simp[eq,m]
   clear m;have HO5:Hid (AY f (w.heap.size+3) u7 (mD C g i)):=gf (q.o.own.on L.o);have arU:w.heap.size+3<=f.heap.size:=by have:=e7 q.o.cm;have:=L.o.z;omega
   go_upto_region 10 with(at_builtin;refine agY rfl _ _ rfl (w.heap.size+3) _ (mD C g i) (r,s,t,I,J) _ rfl (HO5.o.on ((gg _ _).a (dk _) _)) rfl (au _ _) (by rw[R7];omega) (by simp;omega) ?_;intro v' w4 fO N)
   have v:Below (w.heap.size+3) f w4:=((gg f.heap.size f).a (dk _) _ |>.mono arU).t ((gg _ _).grown N (by simp;omega) (cZ q.o.own));have ER:w4.heap[k]?=fc (n6 #[fm gL r,fm gL s,fm gL t,fm gL I,fm gL J] 73):=by
    have hl:=e7 M.o;refine(N.block k (by simp;omega) λe=>?_).t (((gg f.heap.size f).a (dk _) _).k k hl |>.trans M.o);have:=(World.ownsRow.lt q.o.own k e.y).2;omega
   have K4:Hid (KVs C g w s t v' (mD C g (i+1)) w4):=gf (by
    have P:=q.o.on L.o;have l1:=e7 q.o.cm
    exact⟨(v.k _ ab).t P.box,(v.k _ ab).t P.PM,(v.k _ ab).t P.cm,by rw[uM,HVI.o];exact fO,P.low.t (v.mono ab)⟩)
   have HK4:=gf ER;clear v ER fO N HO5 arU y0 y1 y2 y3 y4;refine cT 9 (λW=>bL w4 W) (λ_ _=>True) (λ_=>aa) (λ_ _ _=>True) rfl ae ae (λ_ _ _ _ _ _=>trivial) (λ_ _ _ _ _ _ _ _ h=>h) (gg _ _).d ?_
   iterate 9 (
    apply aY
    case hE=>rfl
    case h=>
     intro vs W d hd;have KW:=K4.o.on d;obtain⟨R,T,U,V,f4,O⟩:=bf KW.box;rw[s4]at f4;have l:=(d.k _ (e7 HK4.o)).t HK4.o;have y3:eq W ⟨k,3,fb⟩=fc (fm gL I):=by simp[eq,l]
     have y4:eq W ⟨k,4,fb⟩=fc (fm gL J):=by simp[eq,l]
     have p7:=(D.o.below KW.low).dB r Tk 9 ab ab;have p8:=(D.o.below KW.low).dB r Tk 10 ab ab;clear KW l;go_simp
     first
      |with_reducible exact rfl
      |(go_at_call 125;(with_reducible refine(H.o W).m ?_);rintro e W'⟨rfl,A⟩;first|exact⟨_,rfl,rfl,f9 d A⟩|exact⟨_,rfl,rfl,f9 d A,trivial⟩)
      |exact⟨rfl,d⟩
      |exact⟨rfl,d,trivial⟩
    case hb=>exact E0)
   refine cP λvs W d hd=>?_;have B:=gf (K4.o.on d);clear d hd K4;obtain⟨c0,c1⟩:=agb B.o.cm;have fz:=tO B.o.cm;have hl2:=e7 B.o.cm;go_wp2;refine⟨⟨i+1,aH,by go_num,⟨(tv ab).t B.o.box,(tv ab).t B.o.PM,?_,amC (amC B.o.own ab) ab,(B.o.low.s (p:=⟨w.heap.size+1+1,0,fb⟩) (by simp only;omega) _).s (p:=⟨w.heap.size+1+1,1,fb⟩) (by simp only;omega) _⟩⟩,by simp only[intOf];omega⟩;rw[y.o.1,y.o.2];exact ahZ B.o.cm
  .obtain rfl:i=C.n4:=ab;go_wp2;go_ret;exact⟨_,rfl,dJ q.o.own ab,q.o.low⟩
def ad9{g:CD}(h:g.At C)(hc:g.cx=0)(hg:q<g.n5):aI PL 98 #[fJ g.val,fm gL q] C λe w'=>∃b c,e=nb (fR b g.n4 c)/\xu w' (fR b g.n4 c) (mD g q g.n4)/\bL C w':=by
 refine(agc g q C h hc hg).m ?_;rintro e w'⟨u,rfl,d,f⟩;have a:=d.reads;have i:=a;obtain⟨b,c,rfl,_⟩:=i;rw[R7]at a⊢;exact⟨b,c,rfl,a,f⟩
def ahu(C:CD)(g:Nat)(w:ag)(h:C.At w)(hc:C.cx=0)(hg:g<C.n5) :
 aI PL 72 #[fJ C.val,fm gL g] w (aO (fJ #[fm gL (nU C g).1,fm gL (nU C g).2]) w):=by
 obtain⟨u,x⟩:=FT hc;have y:=gf h;have VO:Hid (∀W,C.At W->aI PL 98 #[fJ C.val,fm gL g] W λe w'=>∃b c,e=nb (fR b C.n4 c)/\xu w' (fR b C.n4 c) (mD C g C.n4)/\bL W w'):=gf λW z=>ad9 z hc hg;obtain⟨m,l⟩:∃m,C.n4=m+1:=⟨C.n4-1,ab⟩
 have n:nU C g=(Nu C g m).2.2.2:=by have:=abK C g ab;rw[this,l];rfl
 have f:Hid (KE C w (eu (eu w (n6 C.val 27)) (n6 #[fm gL 0,fm gL 0] 30))):=gf ⟨(((gg (eu w (n6 C.val 27)).heap.size _).a (dk _) _).k _ ar).t (au w _),by
  have q:=au (eu w (n6 C.val 27)) (n6 #[fm gL 0,fm gL 0] 30);rw[eD]at q
  exact q,((gg _ _).a (dk _) _).a ar _⟩
 have A:gE gL ((C.n4:Int)-1)=(m:Int):=by rw[g6 _ ab];omega
 have a:m<C.n4:=ab;have B:(m:Int)<C.n4:=ab;have D:=gf n;clear h hc l n;go_enter (fx ao Tryz.func72),Tryz.ntmps72
 go_upto_region 1 with fail
 obtain⟨F,H,I,J,f4,K⟩:=bf f.o.box
 go_upto_region 2 with(go_at_call 98;(with_reducible refine(VO.o _ (y.o.below f.o.low)).m ?_);rintro e w1⟨b,c,rfl,r,s⟩;have d:=gf (f.o.on s);have L:=gf r;clear r s F H I J f4 K)
 obtain⟨k,o,e1,j⟩:=ad8 L.o (i:=m) (by rw[R7];exact a);have t:(mD C g C.n4)[m]'(by rw[R7];exact a)=Nu C g m:=by simp[mD]
 rw[t]at j;obtain⟨c0,c1,P,c3,Q⟩:=j w1 (gg _ _);subst e1;obtain⟨y0,y1⟩:=agb d.o.res;have M:=tO d.o.res;have N:=e7 d.o.res;clear j t;go_wp2;refine a8 (v:=fJ #[fm gL (nU C g).1,fm gL (nU C g).2]) ?_ rfl ⟨rfl,(d.o.low.s (p:=⟨w.heap.size+1,0,fb⟩) (by simp only;omega) _).s (p:=⟨w.heap.size+1,1,fb⟩) (by simp only;omega) _⟩;have O:=ahZ (u0:=fm gL (nU C g).1) (u1:=fm gL (nU C g).2) d.o.res;obtain⟨a0,a1⟩:=agb O;have E:=D.o;clear M;simp only[E]at a0 a1 ⊢;simp[a9,Tryz.results72,go_sem,a0,a1]
structure KVo(C:CD)(w W:ag):Prop where
 box:W.heap[w.heap.size]?=fc (n6 C.val 27)
 res:W.heap[w.heap.size+1]?=fc (n6 #[fm gL 0,fm gL 0,fm gL 0,fm gL 0,fm gL 0] 73)
 low:bL w W
def KVo.on{W:CD}{b:ag}(h:KVo W C O)(a:bL O b):KVo W C b:=
 ⟨(a.k _ (e7 h.box)).t h.box,(a.k _ (e7 h.res)).t h.res,f9 h.low a⟩
def ai2(C:CD)(l:List nR)(x:nR)(q:Nat)(j:Nat)(vs:Nat->aP)(W:ag):Prop:=
 (j=2->∃b c,vs 2=fR b C.n4 c/\xu W (fR b C.n4 c) l)/\
 (j=15->∃k o,vs 15=f8 (fc ⟨k,o,fb⟩)/\k<W.heap.size/\eq W ⟨k,o,fb⟩=fc (fm gL (x.1:Nat))/\eq W ⟨k,o+1,fb⟩=fc (fm gL x.2.1)/\eq W ⟨k,o+2,fb⟩=fc (fm gL x.2.2.1)/\eq W ⟨k,o+3,fb⟩=fc (fm gL x.2.2.2.1)/\eq W ⟨k,o+4,fb⟩=fc (fm gL x.2.2.2.2))
def ai2.le{l:CD}{x:nR}(h:ai2 l L x q M J C)(g:bL C O):ai2 l L x q M J O:=
 ⟨λe=>by obtain⟨b,c,i,d⟩:=h.1 e;exact⟨b,c,i,d.on g⟩,λe=>by
   obtain⟨k,o,i,d,m,n,r,s,t⟩:=h.2 e;have a:∀p,eq O ⟨k,p,fb⟩=eq C ⟨k,p,fb⟩:=λp=>g.c (p:=⟨k,p,fb⟩) d
   exact⟨k,o,i,bT d g.z,(a _).t m,(a _).t n,(a _).t r,(a _).t s,(a _).t t⟩⟩
def agZ(C:CD)(g p:Nat)(w:ag)(h:C.At w)(hc:C.cx=0)(hg:g<C.n5)(hp:p<C.n4) :
 aI PL 97 #[fJ C.val,fm gL g,fm gL p] w (aO (fJ (aaW (Nu C g (abe C.n4 (C.S g) p)))) w):=by
 obtain⟨T,U⟩:=FT hc;have hs:=(afZ hc hg).1;have N:=gf h;have V:=gf (h.s5 ab);obtain⟨q,r⟩:=bs (abe C.n4 (C.S g) p);have l:q<C.n4:=by rw[r];exact aav ab
 have X:((p:Int)-(C.x5 g).2.1+(C.n4:Int)).tmod (C.n4:Int)=(q:Int):=by
  rw[g8 ab,r,abe,CD.S,g7];congr 1;omega
 have w1:gE gL ((p:Int)-(C.x5 g).2.1)=(p:Int)-(C.x5 g).2.1:=g6 _ ab;have w2:gE gL ((p:Int)-(C.x5 g).2.1+(C.n4:Int))=(p:Int)-(C.x5 g).2.1+(C.n4:Int):=g6 _ ab;have Y:(C.n4:Int)≠0:=ab;have Z:¬C.n4=0:=ab;have i1:(g:Int)<C.n5:=ab;have i2:(q:Int)<C.n4:=ab;rw[<-r];obtain⟨x,y⟩:=bs (Nu C g q);rw[<-y];have z:=gf y;have VO:Hid (∀W,C.At W->aI PL 98 #[fJ C.val,fm gL g] W λe w'=>∃b c,e=nb (fR b C.n4 c)/\xu w' (fR b C.n4 c) (mD C g C.n4)/\bL W w'):=gf λW hW=>ad9 hW hc hg
 have O:Hid (KVo C w (eu (eu w (n6 C.val 27)) (n6 #[fm gL 0,fm gL 0,fm gL 0,fm gL 0,fm gL 0] 73))):=gf ⟨(((gg (eu w (n6 C.val 27)).heap.size _).a (dk _) _).k _ ar).t (au w _),by
  have P:=au (eu w (n6 C.val 27)) (n6 #[fm gL 0,fm gL 0,fm gL 0,fm gL 0,fm gL 0] 73);rw[eD]at P
  exact P,((gg _ _).a (dk _) _).a ar _⟩
 clear h hc r y;obtain⟨x0,x1,x2,x3,x4⟩:=x;go_enter (fx ao Tryz.func97),Tryz.ntmps97;obtain⟨A,B,D,E,f4,s⟩:=bf O.o.box
 go_upto_region 2 with fail
 clear A B D E f4 s;refine cT 17 (KVo C w) (λW F=>bL W F) (λj=>j != 2&&j != 15) (ai2 C (mD C g C.n4) (x0,x1,x2,x3,x4) q) rfl ae ae (λj vs W F H h=>h.le H) (λj o ho vs eX W Q hd h=>⟨λe=>by subst e;rw[<-Q];exact h.1 rfl,λe=>by subst e;rw[<-Q];exact h.2 rfl⟩) ?_ ?_
 .exact O.o.on (gg _ _).d
 .iterate 2 (
   apply aY
   case hE=>rfl
   case h=>
    intro vs W a hd;obtain⟨A,B,D,E,f4,s⟩:=bf a.box;go_simp
    first
     |with_reducible exact rfl
     |exact⟨rfl,gg _ _⟩
   case hb=>exact E0)
  apply eH
  case hE=>rfl
  case hb=>exact E0
  case h=>
   intro vs W a hd;go_simp
   go_at_call 98
   (with_reducible refine(VO.o _ (N.o.below a.low)).m ?_)
   rintro e F⟨b,c,rfl,t,R⟩;exact⟨_,rfl,a.on R,R,⟨λ_=>⟨b,c,by simp[upd],t⟩,br⟩⟩
  iterate 12 (
   apply aY
   case hE=>rfl
   case h=>
    intro vs W a hd;obtain⟨A,B,D,E,f4,s⟩:=bf a.box;rw[V.o]at s;have g1:=(N.o.below a.low).HU g hg;go_simp
    first
     |with_reducible exact rfl
     |exact⟨rfl,gg _ _⟩
   case hb=>exact E0)
  apply eH
  case hE=>rfl
  case hb=>exact E0
  case h=>
   intro vs W a hd;obtain⟨b,c,h2,t⟩:=(hd ⟨2,oh⟩ (cH.2 ⟨ar,rfl⟩) rfl).1 rfl;obtain⟨k,o,e1,u⟩:=ad8 t (i:=q) (by rw[R7];exact l);have m:(mD C g C.n4)[q]'(by rw[R7];exact l)=Nu C g q:=by simp[mD]
   rw[m,<-z.o]at u;have I:=gf (u W (gg _ _));have J:Hid (k<W.heap.size):=by
    refine gf ?_;have:=(u W (gg _ _)).1
    rcases Nat.lt_or_ge k W.heap.size with K|K
    .exact K
    .simp[eq,hh K]at this
   subst e1;rw[h2];have HC:=gf a;clear a hd t u m;go_simp;refine⟨HC.o,gg _ _,⟨br,λ_=>⟨k,o+q*5,by simp[upd],J.o,I.o⟩⟩⟩
  apply aY (v:=fJ #[fm gL (x0:Nat),fm gL x1,fm gL x2,fm gL x3,fm gL x4])
  case hE=>rfl
  case hb=>exact E0
  case h=>
   intro vs W a hd;obtain⟨k,o,L,_,c0,c1,c2,c3,c4⟩:=(hd ⟨15,oh⟩ (cH.2 ⟨ar,rfl⟩) rfl).2 rfl;simp only at c0 c1 c2 c3 c4;rw[L];go_simp
   first|exact gg _ _|exact⟨a,gg _ _⟩
  refine cP λvs W a hd=>?_;have M:=gf a;clear a hd;have d:=M.o.res;have y0:eq W ⟨w.heap.size+1,0,fb⟩=fc (fm gL 0):=by simp[eq,d]
  have y1:eq W ⟨w.heap.size+1,1,fb⟩=fc (fm gL 0):=by simp[eq,d]
  have y2:eq W ⟨w.heap.size+1,2,fb⟩=fc (fm gL 0):=by simp[eq,d]
  have y3:eq W ⟨w.heap.size+1,3,fb⟩=fc (fm gL 0):=by simp[eq,d]
  have y4:eq W ⟨w.heap.size+1,4,fb⟩=fc (fm gL 0):=by simp[eq,d]
  have fz:=tO d;have hl2:=e7 d;clear d;go_wp2;have f:=agX (u0:=fm gL (x0:Nat)) (u1:=fm gL x1) (u2:=fm gL x2) (u3:=fm gL x3) (u4:=fm gL x4) M.o.res;have hl:=((((M.o.low.s (p:=⟨w.heap.size+1,0,fb⟩) (by simp only;omega) (fm gL (x0:Nat))).s (p:=⟨w.heap.size+1,1,fb⟩) (by simp only;omega) (fm gL x1)).s (p:=⟨w.heap.size+1,2,fb⟩) (by simp only;omega) (fm gL x2)).s (p:=⟨w.heap.size+1,3,fb⟩) (by simp only;omega) (fm gL x3)).s (p:=⟨w.heap.size+1,4,fb⟩) (by simp only;omega) (fm gL x4);generalize(eA (eA (eA (eA W ⟨w.heap.size+1,0,fb⟩ (fm gL (x0:Nat))) ⟨w.heap.size+1,1,fb⟩ (fm gL x1)) ⟨w.heap.size+1,2,fb⟩ (fm gL x2)) ⟨w.heap.size+1,3,fb⟩ (fm gL x3)).setCell ⟨w.heap.size+1,4,fb⟩ (fm gL x4)=n at f hl ⊢;refine a8 (v:=fJ (aaW (x0,x1,x2,x3,x4))) ?_ rfl ⟨rfl,hl⟩;have a0:eq n ⟨w.heap.size+1,0,fb⟩=fc (fm gL (x0:Nat)):=by simp[eq,f]
  have a1:eq n ⟨w.heap.size+1,1,fb⟩=fc (fm gL x1):=by simp[eq,f]
  have a2:eq n ⟨w.heap.size+1,2,fb⟩=fc (fm gL x2):=by simp[eq,f]
  have a3:eq n ⟨w.heap.size+1,3,fb⟩=fc (fm gL x3):=by simp[eq,f]
  have a4:eq n ⟨w.heap.size+1,4,fb⟩=fc (fm gL x4):=by simp[eq,f]
  simp[a9,Tryz.results97,go_sem,aaW,a0,a1,a2,a3,a4]
def adm(n0:Nat)(j:Nat)(vs:Nat->aP)(W:ag):Prop:=(j=8\/j=9)->∃k,vs j=f8 (fc ⟨k,0,fb⟩)/\n0<=k/\W.heap[k]?=fc (n6 z61 73)
def eTw(t:Nat):Bool:=t != 8&&t != 9
def arW(i j:Nat)(u v:aP):Prop:=(i=8/\j=9\/i=9/\j=8)->u≠v
def adm.le(h:adm q M J C)(b:bL C O):adm q M J O:=
 λe=>(h e).i λ_ k=>⟨k.1,k.2.1,(b.k _ (e7 k.2.2)).t k.2.2⟩
def alm{D:List Nat}(d:q<=C.heap.size)(hd:∀j∈D,eTw j=ac->adm q j J C) :
 (∀j∈D,eTw j=ac->adm q j J (eu C (n6 z61 73)))/\adm q M (upd J M (f8 (fc ⟨C.heap.size,0,fb⟩))) (eu C (n6 z61 73))/\∀j∈D,eTw j=ac->arW j M (J j) (f8 (fc ⟨C.heap.size,0,fb⟩)):=by
 have f:=(gg C.heap.size C).a (dk _) (n6 z61 73);refine⟨λj a b=>(hd j a b).le f,λ_=>⟨C.heap.size,by simp[upd],d,au _ _⟩,λj a b e1 e=>?_⟩;obtain⟨n0,g,_,c⟩:=hd j a b ab;have c:=e7 c;rw[g]at e;cases e;exact dt _ c
structure KTr(C:CD)(w W:ag):Prop where
 box:W.heap[w.heap.size]?=fc (n6 C.val 27)
 res:W.heap[w.heap.size+1]?=fc (n6 z61 76)
 low:bL w W
def KTr.on{W:CD}{b:ag}(h:KTr W C O)(a:bL O b):KTr W C b:=
 ⟨(a.k _ (e7 h.box)).t h.box,(a.k _ (e7 h.res)).t h.res,f9 h.low a⟩
def KTr.start(C:CD)(w:ag):KTr C w (eu (eu w (n6 C.val 27)) (n6 z61 76)):=by
 refine⟨?_,?_,((gg _ _).a (dk _) _).a ar _⟩
 .exact(((gg (eu w (n6 C.val 27)).heap.size _).a (dk _) _).k _ ar).t (au w _)
 .have a:=au (eu w (n6 C.val 27)) (n6 z61 76);rwa[eD]at a
def trV(t:nR):aP:=fB #[fJ (if t.2.2.2.1=2 then z61 else aaW t),f6 (decide (t.2.2.2.1≠2))]
def ai3{C:CD}(hc:C.cx=0)(hg:q<C.n5)(a:M<C.n4):0<=(Nu C q M).2.1/\(Nu C q M).2.1<=(Nu C q M).2.2.1/\(Nu C q M).2.2.2.1<=(Nu C q M).2.2.2.2/\(Nu C q M).2.2.2.2<=1000:=by
 obtain⟨⟨b,c⟩,d,e⟩:=amp hc hg [] M;exact⟨(abJ hc hg a 1).1,g9 b c,g9 d e,(abJ hc hg a 4).2⟩
def ah0(C:CD)(a b p:Nat)(w:ag)(h:C.At w)(hc:C.cx=0)(Q:a<C.n5)(hb:b<C.n5)(B:p<C.n4) :
 aI PL 71 #[fJ C.val,fm gL a,fm gL b,fm gL p] w (aO (trV (IU C.tab a b p)) w):=by
 have HA:=gf h;have VO:Hid (∀W g,C.At W->g<C.n5->aI PL 97 #[fJ C.val,fm gL (g:Nat),fm gL p] W (aO (fJ (aaW (Nu C g (abe C.n4 (C.S g) p)))) W)):=gf λW g E hg=>agZ C g p W E hc hg B;have R:∀g,abe C.n4 (C.S g) p<C.n4:=λg=>aav ab;have T:∀g,g<C.n5->C.tab.getD (g*25+p*5+1) 0=(Nu C g (abe C.n4 (C.S g) p)).2.1/\C.tab.getD (g*25+p*5+2) 0=(Nu C g (abe C.n4 (C.S g) p)).2.2.1/\C.tab.getD (g*25+p*5+3) 0=(Nu C g (abe C.n4 (C.S g) p)).2.2.2.1/\C.tab.getD (g*25+p*5+4) 0=(Nu C g (abe C.n4 (C.S g) p)).2.2.2.2:=λg hg=>⟨CD.abj hc hg B (j:=1) ab,CD.abj hc hg B (j:=2) ab,CD.abj hc hg B (j:=3) ab,CD.abj hc hg B (j:=4) ab⟩
 have A4:=ai3 hc Q (R a);have B4:=ai3 hc hb (R b);have n:=T a Q;have c:=T b hb;have VA:=gf λW(E:C.At W)=>VO.o W a E Q;have VB:=gf λW(E:C.At W)=>VO.o W b E hb;obtain⟨x,hx⟩:=bs (Nu C a (abe C.n4 (C.S a) p));obtain⟨y,hy⟩:=bs (Nu C b (abe C.n4 (C.S b) p));rw[<-hx]at A4 n VA;rw[<-hy]at B4 c VB;obtain⟨x0,x1,x2,x3,x4⟩:=x;obtain⟨y0,y1,y2,y3,y4⟩:=y;simp only[aaW]at A4 B4 n c VA VB;obtain⟨q0,F⟩:=bs ((x0:Nat):Int);obtain⟨r0,MW⟩:=bs ((y0:Nat):Int);rw[<-F]at VA;rw[<-MW]at VB;have ET:IU C.tab a b p=(a,(b:Int),(p:Int),(if x4<=y1\/y4<=x1 then 2 else if x2<y3/\y2<x3 then 1 else 0),max x1 y1):=by
  rw[IU,n.1,n.2.1,n.2.2.1,n.2.2.2,c.1,c.2.1,c.2.2.1,c.2.2.2,alh ab ab ab ab]
 rw[ET];have N:=gf (KTr.start C w);obtain⟨z,U⟩:=bs (eu (eu w (n6 C.val 27)) (n6 z61 76));clear h hx hy F MW ET n c T R VO;go_enter (fx ao Tryz.func71),Tryz.ntmps71
 go_upto_region 1 with fail
 rw[<-U]at N;have mG:eu (eu w (n6 C.val 27)) (n6 #[fm gL 0,fm gL 0,fm gL 0,fm gL 0,fm gL 0] 76)=z:=U.y;rw[mG];clear U mG;refine iL 10 8 (λ_ W=>bL z W) (λW W'=>bL W W') eTw (λ_=>adm z.heap.size) arW (λ_ _ _ _ h e=>(h (e.symm.imp hH hH)).symm) rfl ae ae rfl
  (λ_ i vs W W' V h=>h.le V) (λi o ho vs eX W he aaZ _ h e=>by rw[<-he];exact h e) (gg _ _).d ?_
 iterate 8 (
  apply iK
  case hE=>rfl
  case h=>
   intro vs W _ f hd;have KK:=N.o.on f;obtain⟨f0,f1,f2,f3,f4,f5⟩:=bf KK.box;go_simp
   first
    |(go_at_call 97;(with_reducible refine(VA.o _ (HA.o.below KK.low)).m ?_);rintro e w1⟨rfl,H⟩;exact⟨_,rfl,rfl,f9 f H,H⟩)
    |(go_at_call 97;(with_reducible refine(VB.o _ (HA.o.below KK.low)).m ?_);rintro e w1⟨rfl,H⟩;exact⟨_,rfl,rfl,f9 f H,H⟩)
    |exact⟨rfl,f,gg _ _⟩
    |exact⟨rfl,gg _ _⟩
  case hb=>exact E0)
 iterate 2 (
  apply ey
  case hE=>rfl
  case hb=>exact E0
  case h=>
   intro vs W D _ _ f _ hi _ hd hP;go_simp
   exact⟨f.a f.z _,alm f.z hd⟩)
 refine nv λvs W _ _ f hd hX=>?_;obtain⟨r,X,I,O⟩:=hd 8 ab rfl (ni rfl);obtain⟨s,Y,Tg,Z⟩:=hd 9 ab rfl (nk rfl);have P:Hid (r≠s):=gf λe=>hX 8 9 ab ab ab rfl rfl (ni ⟨rfl,rfl⟩) (by rw[X,Y,e]);have J:=gf O;have wC:=gf Z;have HC:=gf f;have K:=gf I;have L:=gf Tg;rw[X,Y];have u:=(gh (u0:=fm gL q0) (u1:=fm gL x1) (u2:=fm gL x2) (u3:=fm gL x3) (u4:=fm gL x4) (gr P.o)).t Z;obtain⟨y0',y1',y2',y3',y4'⟩:=qO O;obtain⟨z0',z1',z2',z3',z4'⟩:=qO u;have fza:=tO O;have fzb:=tO u;clear O Z u f hd hX X Y I Tg
 go_upto_region 2 with fail
 obtain⟨A,M⟩:=bs (eA (eA (eA (eA (eA (eA (eA (eA (eA (eA W ⟨r,0,fb⟩ (fm gL q0)) ⟨r,1,fb⟩ (fm gL x1)) ⟨r,2,fb⟩ (fm gL x2)) ⟨r,3,fb⟩ (fm gL x3)) ⟨r,4,fb⟩ (fm gL x4)) ⟨s,0,fb⟩ (fm gL r0)) ⟨s,1,fb⟩ (fm gL y1)) ⟨s,2,fb⟩ (fm gL y2)) ⟨s,3,fb⟩ (fm gL y3)) ⟨s,4,fb⟩ (fm gL y4));have BA:Hid (A.heap[r]?=fc (n6 #[fm gL q0,fm gL x1,fm gL x2,fm gL x3,fm gL x4] 73)):=gf (by rw[M];exact(gh P.o).t (tD J.o));have BB:Hid (A.heap[s]?=fc (n6 #[fm gL r0,fm gL y1,fm gL y2,fm gL y3,fm gL y4] 73)):=gf (by rw[M];exact tD ((gh (gr P.o)).t wC.o));have l:Hid (KTr C w A):=gf (N.o.on (by rw[M];exact gc (gc HC.o K.o _ _ _ _ _) L.o _ _ _ _ _));rw[<-M];clear M y0' y1' y2' y3' y4' z0' z1' z2' z3' z4' fza fzb J wC HC K L P N;obtain⟨a0,a1,a2,a3,a4⟩:=qO BA.o;obtain⟨b0,b1,b2,b3,b4⟩:=qO BB.o;obtain⟨c0,c1,c2,c3,c4⟩:=qO l.o.res;have fz:=tO l.o.res;have la:=e7 BA.o;have lb:=e7 BB.o;have lc:=e7 l.o.res;have HS:Hid (w.heap.size<=A.heap.size):=gf l.o.low.z;by_cases e1:x4<=y1\/y4<=x1
 .have key:trV ((a:Nat),(b:Int),(p:Int),(if x4<=y1\/y4<=x1 then 2 else if x2<y3/\y2<x3 then 1 else 0),max x1 y1)=fB #[fJ z61,f6 ac]:=by simp[trV,e1]
  rw[key]
  rcases(show x4<=y1\/(¬x4<=y1/\y4<=x1) by omega) with e|⟨e,e'⟩
  all_goals (
   go_wp2;refine a8 (v:=fB #[fJ z61,f6 ac]) ?_ rfl ⟨rfl,gc l.o.low ab _ _ _ _ _⟩;obtain⟨d0,d1,d2,d3,d4⟩:=qO (tD (u0:=fm gL 0) (u1:=fm gL 0) (u2:=fm gL 0) (u3:=fm gL 0) (u4:=fm gL 0) l.o.res)
   simp[a9,hJ,go_sem,d0,d1,d2,d3,d4,z61])
 .obtain⟨mm,hmm⟩:=bs (max x1 y1);have e2:¬x4<=y1:=ab;have e3:¬y4<=x1:=ab;obtain⟨mt,d⟩:=bs (if x2<y3/\y2<x3 then 1 else 0:Int);have key:trV ((a:Nat),(b:Int),(p:Int),(if x4<=y1\/y4<=x1 then 2 else if x2<y3/\y2<x3 then 1 else 0),max x1 y1)=fB #[fJ #[fm gL (a:Nat),fm gL (b:Nat),fm gL (p:Nat),fm gL mt,fm gL mm],f6 aa]:=by
   rw[if_neg e1,<-d,<-hmm];have:mt≠2:=by rw[d];split<;>decide
   simp[trV,this,aaW]
  rw[key];clear key e1;have fin:∀t,mt=t->(ce PL hN (aO (fB #[fJ #[fm gL (a:Nat),fm gL (b:Nat),fm gL (p:Nat),fm gL t,fm gL mm],f6 aa]) w):bi->Act->ag->Prop)=ce PL hN (aO (fB #[fJ #[fm gL (a:Nat),fm gL (b:Nat),fm gL (p:Nat),fm gL mt,fm gL mm],f6 aa]) w):=λt e=>by rw[e]
  rcases(show(x2<y3/\y2<x3)\/(x2<y3/\¬y2<x3)\/¬x2<y3 by omega) with⟨e4,e5⟩|⟨e4,e5⟩|e4
  .rw[<-fin 1 (by rw[d,if_pos ⟨e4,e5⟩])];clear d fin;go_wp2;refine a8 (v:=fB #[fJ #[fm gL (a:Nat),fm gL (b:Nat),fm gL (p:Nat),fm gL 1,fm gL (max x1 y1)],f6 aa]) ?_ rfl ⟨by simp[trV,aaW],(gc l.o.low ab _ _ _ _ _).a (by simp;omega) _⟩;have k:=tD (u0:=fm gL (a:Nat)) (u1:=fm gL (b:Nat)) (u2:=fm gL (p:Nat)) (u3:=fm gL 1) (u4:=fm gL (max x1 y1)) l.o.res;obtain⟨d0,d1,d2,d3,d4⟩:=qO ((((gg _ _).a (dk _) (n6 #[fm gL (a:Nat),fm gL (b:Nat),fm gL (p:Nat),fm gL 1,fm gL (max x1 y1)] 76)).k _ (e7 k)).t k);simp[a9,hJ,go_sem,d0,d1,d2,d3,d4]
  all_goals (
   rw[<-fin 0 (by rw[d,if_neg ab])];clear d fin;go_wp2;refine a8 (v:=fB #[fJ #[fm gL (a:Nat),fm gL (b:Nat),fm gL (p:Nat),fm gL 0,fm gL (max x1 y1)],f6 aa]) ?_ rfl ⟨by simp[trV,aaW],(gc l.o.low ab _ _ _ _ _).a (by simp;omega) _⟩;have k:=tD (u0:=fm gL (a:Nat)) (u1:=fm gL (b:Nat)) (u2:=fm gL (p:Nat)) (u3:=fm gL 0) (u4:=fm gL (max x1 y1)) l.o.res;obtain⟨d0,d1,d2,d3,d4⟩:=qO ((((gg _ _).a (dk _) (n6 #[fm gL (a:Nat),fm gL (b:Nat),fm gL (p:Nat),fm gL 0,fm gL (max x1 y1)] 76)).k _ (e7 k)).t k)
   simp[a9,hJ,go_sem,d0,d1,d2,d3,d4])
end Go.Proofs
namespace Go
variable {q:bd}{C:Nat}
def Oper.anC{P:cf}{a:Act}{w:ag}{K:Act->ag->Prop}{Q:bi->Act->ag->Prop}(hd:q.dst≠fc C)(h:q.wp P a w K Q):q.wp P a w (λa' w'=>K a' w'/\a'.tmps.getD C undef=a.tmps.getD C undef) Q:=by
 have f:∀(b:Act)v,b.tmps=a.tmps->(b.put q.dst v).tmps.getD C undef=a.tmps.getD C undef:=λb v e=>by
  unfold Act.put
  cases g:q.dst with
  |none=>simp[e]
  |some d=>
   have:d≠C:=λe=>hd (by rw[g,e]);simp[e,bM,eh,this]
 unfold k9 at *;generalize(ch a.eval q).run P w=r at *
 cases r with
 |ok n w'=>
  cases n<;>simp only[ld]at h⊢<;>
   first
    |exact⟨h,f _ _ rfl⟩
    |exact Calls.mono h (λe i c=>by cases e<;>first|exact⟨c,f _ _ rfl⟩|exact c)
    |exact Rows.mono h (λ_ _ c=>⟨c,f _ _ rfl⟩)
    |exact h
 |halt x w'=>cases x<;>simp only[ld]at h⊢<;>exact h
section
variable {P:cf}{ops:Array bd}{Q:bi->Act->ag->Prop}{t:Nat}{v:aP}
end
def ace(v:aP):Nat->List bd->List bd
 |_,[]=>[]
 |0,o::l=>{ o with op:=.move (.const v) }::l
 |p+1,o::l=>o::ace v p l
def P0(ops:Array bd)(p:Nat)(v:aP):Array bd:=(ace v p ops.toList).toArray
def ai4(v:aP):∀(p:Nat)(l:List bd)(i:Nat),i≠p->(ace v p l)[i]?=l[i]?
 |_,[],_,_=>by rw[ace]
 |0,o::l,i,h=>by
  obtain⟨j,rfl⟩:∃j,i=j+1:=⟨i-1,ab⟩
  simp[ace]
 |p+1,o::l,0,h=>rfl
 |p+1,o::l,i+1,h=>by simp only[ace,fP];exact ai4 v p l i ab
def amD(v:aP):∀(p:Nat)(l:List bd)(o:bd),l[p]?=fc o->(ace v p l)[p]?=fc { o with op:=.move (.const v) }
 |_,[],_,h=>by simp at h
 |0,o::l,_,h=>by cases h;rfl
 |p+1,o::l,a,h=>by simp only[ace,fP]at h⊢;exact amD v p l a h
def ah1(v:aP):∀(p:Nat)(l:List bd),(ace v p l).length=l.length
 |_,[]=>by rw[ace]
 |0,o::l=>rfl
 |p+1,o::l=>by simp only[ace,fo,ah1 v p l]
section
variable {P:cf}{ops:Array bd}{Q:bi->Act->ag->Prop}{t p:Nat}{v:aP}
def ai7(i:Nat)(hi:i≠p):(P0 ops p v)[i]?=ops[i]?:=by
 unfold P0;rw[gw,ai4 v p _ i hi,ib]
def amE(h:ops[p]?=fc q):(P0 ops p v)[p]?=fc { q with op:=.move (.const v) }:=by
 unfold P0;rw[gw,amD v p _ q (by rw[ib];exact h)]
def aaS:(P0 ops p v).size=ops.size:=by
 unfold P0;simp[ah1]
def aln(h:ops[p]?=fb):(P0 ops p v)[p]?=fb:=by
 have:=Array.getElem?_eq_none_iff.1 h;exact Array.getElem?_eq_none_iff.2 (by rw[aaS];exact this)
def ah2{a:Type}(f:bd->a)(hf:∀(o:bd)op,f { o with op:=op }=f o)(i:Nat):((P0 ops p v)[i]?).map f=(ops[i]?).map f:=by
 by_cases hi:i=p
 .subst hi
  cases h:ops[i]? with
  |none=>rw[aln h]
  |some o=>rw[amE h];simp[hf]
 .rw[ai7 i hi]
def abM(tmps:Array aP):ci (P0 ops p v) tmps=ci ops tmps:=by
 funext j;unfold ci;have:=ah2 (ops:=ops) (v:=v) (p:=p) (λo=>o.dst) (λ_ _=>rfl) j;cases a:(P0 ops p v)[j]?<;>cases b:ops[j]?<;>simp_all
def adn(listed:Array Bool):lm .any (P0 ops p v) listed=lm .any ops listed:=by
 unfold lm;rw[aaS];refine l6 λi _=>?_;rw[ah2 (λo=>o.after.all λe=>!lp .any e||listed.getD e.on ac) (λ_ _=>rfl) i]
def abC{o:bd}(r:ops[p]?=fc o)(B:o.op=.move (.tmp t))(hg:o.dst≠fc t)(hl:∀(i:Nat)(o':bd),ops[i]?=fc o'->o'.dst=fc t->∃e∈o'.after,lp .any e=aa/\e.on=p):∀(fuel:Nat)(listed:Array Bool)(a:Act)(w:ag),p<listed.size->(listed.getD p aa=ac->a.tmps.getD t undef=v)->wpAny P .any (P0 ops p v) Q fuel listed a w->wpAny P .any ops Q fuel listed a w
 |0,listed,a,w,_,_,h=>by
  rw[wpAny]at h⊢;rwa[adn]at h
 |fuel+1,listed,a,w,s,hv,h=>by
  rw[wpAny]at h⊢;rw[adn]at h;refine⟨h.1,λi hi=>?_⟩;have b:=h.2 i hi;have n:listed.getD i aa=ac/\∀o',ops[i]?=fc o'->∀e∈o'.after,lp .any e=aa->listed.getD e.on ac=aa:=by
   unfold lm at hi;have:=(lu.1 hi).2;simp only[dd,Bool.not_eq_true']at this;refine⟨this.1,λo' D e u hb=>?_⟩;have x:=this.2;rw[D]at x;simp only[il,du,lr]at x;have:=x e u;simpa[hb]using this
  have l:∀c w',(listed.getD p aa=ac->i≠p->c.tmps.getD t undef=v)->wpAny P .any (P0 ops p v) Q fuel (hr listed i aa) c w'->wpAny P .any ops Q fuel (hr listed i aa) c w':=λc w' E g=>by
   refine abC r B hg hl fuel _ c w' (by simpa using s) (λe=>?_) g;by_cases m:i=p
   .subst m;simp[bM,s]at e
   .refine E ?_ m;simpa[bM,eh,m]using e
  unfold wpOp at b ⊢;by_cases m:i=p
  .subst m;rw[amE r,abM]at b;rw[r];have F:a.tmps.getD t undef=v:=hv n.1;simp only at b ⊢;have C:ch a.eval { o with op:=.move (.const v) }=ch a.eval o:=by
    unfold ch;simp only[B];simp[Act.eval,F]
   split
   .rename_i j;have y:lL { o with op:=.move (.const v) } (ci ops a.tmps)=aa:=j;rw[if_pos y]at b;refine b.imp (λk=>?_) λk=>?_
    .have k2:ld P o a (wpAny P .any (P0 ops i v) Q fuel (hr listed i aa)) Q ((ch a.eval o).run P w):=by
      rw[<-C];exact k
     exact li (λc w' g=>l c w' (λ_ e=>absurd rfl e) g) k2
    .unfold Oper.asks at k ⊢;rw[C]at k;exact k
   .rename_i j;have y:¬lL { o with op:=.move (.const v) } (ci ops a.tmps)=aa:=j;rw[if_neg y]at b;exact l _ _ (λ_ e=>absurd rfl e) b
  .rw[ai7 i m,abM]at b
   cases f:ops[i]? with
   |none=>
    rw[f]at b;exact l a w (λe _=>hv e) b
   |some o'=>
    rw[f]at b;simp only at b ⊢;have q:listed.getD p aa=ac->o'.dst≠fc t:=λe hd=>by
     obtain⟨H,u,hb,z⟩:=hl i o' f hd;have:=n.2 o' f H u hb;rw[z]at this;rw[bM]at this e;have:listed[p]?=fc listed[p]:=by simp[s]
     simp_all
    split
    .rename_i j;rw[if_pos j]at b;refine b.imp (λk=>?_) id;by_cases e:listed.getD p aa=ac
     .exact li (λc w' g=>l c w' (λ_ _=>g.2.t (hv e)) g.1) (Oper.anC (q e) k)
     .exact li (λc w' g=>l c w' (λI _=>absurd I e) g) k
    .rename_i j;rw[if_neg j]at b;refine l _ _ (λe _=>?_) b;rw[<-hv e];have:=q e;unfold Act.put
     cases A:o'.dst with
     |none=>rfl
     |some d=>
      have:d≠t:=λe=>this (by rw[A,e]);simp[bM,this]
def ahv(ops:Array bd)(p t:Nat):Bool:=ops.toList.all λa=>a.dst != fc t||a.after.toList.any λe=>lp .any e&&e.on==p
def ah3(h:ahv ops p t=aa):∀(i:Nat)(o':bd),ops[i]?=fc o'->o'.dst=fc t->∃e∈o'.after,lp .any e=aa/\e.on=p:=λi o' hi hd=>by
 have:=df.1 h o' (by simpa using pR hi);simp only[hd,bne_self_eq_false,Bool.false_or,List.any_eq_true,dd,beq_iff_eq]at this;obtain⟨e,a,b⟩:=this;exact⟨e,by simpa using a,b⟩
def abS(k:Nat){a:Act}{w:ag}(c t1 d t2:Nat)(v1 f:aP)(m:Nat)(l:Bool->ag->Prop)(g:ag->ag->Prop)(E:Nat->Bool)(Φ:Bool->Nat->(Nat->aP)->ag->Prop)(X:Nat->Nat->aP->aP->Prop)(J:∀i j u v,X i j u v->X j i v u)(K:P.follows .mixedOrders=aa)
 {n:bd} (B:ops[c]?=fc q) (id:q.op=.move (.tmp t1)) (r:q.dst≠fc t1) (L:ahv ops c t1=aa) (s:a.tmps.getD t1 undef=v1)
 (D:(P0 ops c v1)[d]?=fc n) (x:n.op=.move (.tmp t2)) (y:n.dst≠fc t2) (z:ahv (P0 ops c v1) d t2=aa) (M:a.tmps.getD t2 undef=f)
 (N:Region.Ig (P0 (P0 ops c v1) d f)=aa) (O:Region.Kk (P0 (P0 ops c v1) d f) k=aa) (R:E m=ac) (S:∀b i vs W F,g W F->Φ b i vs W->Φ b i vs F)
 (T:∀(i:Nat)(o:bd),(P0 (P0 ops c v1) d f)[i]?=fc o->∀vs A W,vs i=A i->(∀e∈o.dz,vs e.on=A e.on)->∀b,Φ b i vs W->Φ b i A W) (U:l ac w.drew)
 (H:cr P (P0 (P0 ops c v1) d f) m l g E Φ X (λ_ b W=>bm P (P0 (P0 ops c v1) d f) Q ((P0 (P0 ops c v1) d f).toList.drop k) b W) 0 ((P0 (P0 ops c v1) d f).toList.take k) λ_=>a):(Code.region C ops aa).wp P Q a w:=by
 refine wp_region_any K ?_;have h:=abG (P:=P) (Q:=Q) (a:=a) (w:=w) k m l g E Φ X J N (Kl O) R S T U H;rw[aaS,aaS]at h;have V:=(bR.1 B).1;have I:=(bR.1 D).1;rw[aaS]at I;exact abC B id r (ah3 L) _ _ _ _ (by simpa using V) (λ_=>s) (abC D x y (ah3 z) _ _ _ _ (by simpa using I) (λ_=>M) h)
end
end Go
namespace Go.Proofs
open Go.RowKit
variable {C:Nat}{O q:ag}{J:Bool}{Y:aP}{M:List nR}{L:Array bd}{R:Act}
def ai9(e m:Nat)(f:Nat->List aP)(W:ag)(base:Nat)(v:aP)(n:Nat):Prop:=em W base e m v n (rowOf f n)
def ai9.pick{e m:Nat}{f:Nat->List aP}{W:ag}{base:Nat}{v:aP}{n:Nat}(a:∀i,(f i).length=m)(h:ai9 e m f W base v n){d:Nat}(hd:d<W.heap.size) :
 ∃B c K,v=fR B n c/\K<W.heap.size/\(0<n->B=fc ⟨K,0,fb⟩/\base<=K/\Typ W K e)/\j9 W K 0 n m f:=by
 obtain⟨_,h⟩:=h
 rcases h with⟨rfl,b⟩|⟨g,cap,j,rfl,hb,hg,hc,hs,l,k⟩
 .exact⟨fb,0,d,by rw[b],hd,λh=>ab,λi hi=>ab⟩
 .exact⟨_,_,g,rfl,e7 hg,λ_=>⟨rfl,hb,_,hg⟩,(j9.of a hg k).1⟩
open Go.Shelf
attribute [local go_sem] Oper.semAt_some
structure CAx(B:Nat)(Wr:ag)(b:Bool)(W:ag):Prop where
 low:Below B Wr W
 all:b=ac->bL Wr W
def CAx.start{B:Nat}{a:ag}:CAx B a ac a.drew:=⟨(gg _ _).d,λ_=>(gg _ _).d⟩
def CAx.on{c:ag}(d:C<=q.heap.size)(h:CAx C q J O)(k:bL O c):CAx C q J c:=
 ⟨h.low.t (k.mono (da d h.low.z)),λe=>f9 (h.all e) k⟩
def CAx.app{c:ag}{e m n:Nat}{f:Nat->List aP}(d:C<=q.heap.size)(h:CAx C q J O)(g:ai9 e m f O C Y n)(k:O.grownBy c Y.ownBlock):CAx C q aa c:=
 ⟨h.low.t ((gg C O).grown k (da d h.low.z) (cZ g)),λe=>(by cases e)⟩
def abT(L:List nR):Int:=L.foldl (λm x=>max m x.2.2.2.2) 0
def alp(L:List nR)(x:nR):abT (L++[x])=max (abT L) x.2.2.2.2:=by simp[abT]
def agr(L:List nR):0<=abT L/\∀y∈L,y.2.2.2.2<=abT L:=by
 have key:∀(l:List nR)(m:Int),m<=l.foldl (λm x=>max m x.2.2.2.2) m/\∀y∈l,y.2.2.2.2<=l.foldl (λm x=>max m x.2.2.2.2) m:=by
  intro l
  induction l with
  |nil=>intro m;exact⟨Int.le_refl _,λy hy=>by cases hy⟩
  |cons x l a=>
   intro m;obtain⟨c,b⟩:=a (max m x.2.2.2.2);rw[cB];refine⟨ab,λy hy=>?_⟩
   rcases dp.1 hy with rfl|hy
   .omega
   .exact b y hy
 exact key L 0
def aid{L:List nR}{n:Int}(b:0<=n)(h:∀y∈L,y.2.2.2.2<=n):abT L<=n:=by
 have key:∀(l:List nR)(m:Int),m<=n->(∀y∈l,y.2.2.2.2<=n)->l.foldl (λm x=>max m x.2.2.2.2) m<=n:=by
  intro l
  induction l with
  |nil=>intro m h _;exact h
  |cons x l c=>intro m d a;rw[cB];exact c _ (by have:=a x (pr ..);omega) λy hy=>a y (o9 _ hy)
 exact key L 0 b h
def anD{a:CD}(hc:a.cx=0){b p:Nat}(c:C<a.n5)(hb:b<a.n5)(d:p<a.n4):0<=(IU a.tab C b p).2.2.2.2/\(IU a.tab C b p).2.2.2.2<=1000:=by
 have e:=CD.abj hc c d (j:=1) ab;have f:=CD.abj hc hb d (j:=1) ab;have k1:=abJ hc c (aav (np:=a.n4) (s:=a.S C) (p:=p) ab) 1;have k2:=abJ hc hb (aav (np:=a.n4) (s:=a.S b) (p:=p) ab) 1;simp only[IU];rw[e,f];omega
structure KTo(C:CD)(w:ag)(B:Nat)(L:List nR)(v:aP)(W:ag):Prop where
 own:kV W B v L
 ok:∀y∈L,0<=y.2.2.2.2/\y.2.2.2.2<=1000
 box:W.heap[w.heap.size]?=fc (n6 C.val 27)
 lt:w.heap.size<B
 pK:B<=W.heap.size
 low:bL w W
def KTo.on{C:CD}{w W b:ag}{B:Nat}{L:List nR}{v:aP}(h:KTo C w B L v W)(a:bL W b):KTo C w B L v b:=
 ⟨h.own.on a,h.ok,(a.k _ (e7 h.box)).t h.box,h.lt,da h.pK a.z,f9 h.low a⟩
def KTo.push{L:CD}{a:ag}{v':aP}{t:nR}(h:KTo L q C M Y O)(b:Below C O a)(c:kV a C v' (M++[t]))(d:0<=t.2.2.2.2/\t.2.2.2.2<=1000):KTo L q C (M++[t]) v' a:=
 ⟨c,λy hy=>by
   rcases lx.1 hy with hy|hy
   .exact h.ok y hy
   .obtain rfl:=jX.1 hy;exact d,(b.k _ h.lt).t h.box,h.lt,da h.pK b.z,h.low.t (b.mono (mH h.lt))⟩
def ahw{o:bd}{K:aP->ag->Prop}(a:o.guard=fb)(s x:bj)
 (c:o.op=.call { callee:=.builtin mc,args:=#[s,x],argTypes:=#[33,33] }) (base:Nat) (v:aP) (l:List nR) (t:nR) (k:Nat) (hs:R.eval s=v) (d:kV q base v l)
 (e:R.eval x=fR (fc ⟨k,0,fb⟩) 1 1) (hc:q.heap[k]?=fc (n6 (aaW t) 76)) (hl:l.length<=1000) (f:base<=q.heap.size)
 (h:∀v' w',kV w' base v' (l++[t])->q.grownBy w' v.ownBlock->K v' w'):fC PL L K o R q:=by
 obtain⟨g,hi,i,j,m⟩:=bq aaX;obtain⟨v',w',n,p,W,_⟩:=run_append_own (P:=PL) (w:=q) base 33 o.type 76 g _ 5 40 ag2 hi i j m rfl ao v l.length _ d ⟨k,0,fb⟩ 1 1 (vV t) rfl (Sm hc) (by simp[vV,fp]) (by simp only[b8];omega) ab f;unfold fC;rw[if_pos (by simp[lL,a])];unfold ch;simp only[c,cl,co,cq,iB,Sem.run_pure,lM,kv,hZ,kh,hs,e,n];refine h v' w' ?_ W;unfold kV;rw[dC,iU];simpa using p
structure ah4(base:Nat)(L:List nR)(t:nR)(b:Bool)(j:Nat)(vs:Nat->aP)(W:ag):Prop where
 cs:j=2->b=ac->∃k,vs 2=fR (fc ⟨k,0,fb⟩) 1 1/\W.heap[k]?=fc (n6 (aaW t) 76)
 cc:j=3\/j=8->kV W base (vs j) (L++[t])
def ah4.le{base:Nat}{t:nR}{vs:Nat->aP}(h:ah4 base M t J C vs q)(c:bL q O):ah4 base M t J C vs O:=
 ⟨λe k=>(h.cs e k).i λ_ k=>⟨k.1,(c.k _ (e7 k.2)).t k.2⟩,λe=>(h.cc e).on c⟩
def ah4.loc{base:Nat}{L:List nR}{t:nR}{b:Bool}{j:Nat}{vs a:Nat->aP}{W:ag}(c:vs j=a j)(h:ah4 base L t b j vs W):ah4 base L t b j a W:=
 ⟨λe=>by subst e;rw[<-c];exact h.cs rfl,λe=>by rw[<-c];exact h.cc e⟩
def e5(t:Nat):Bool:=t != 2&&t != 3&&t != 8
structure CA5(B kt:Nat)(t:nR)(Wr:ag)(b:Bool)(W:ag):Prop where
 ax:CAx B Wr b W
 bx:W.heap[kt]?=fc (n6 (aaW t) 76)
def CA5.on{B c:Nat}{t:nR}{a W d:ag}{b:Bool}(e:B<=a.heap.size)(h:CA5 B c t a b W)(k:bL W d):CA5 B c t a b d:=⟨h.ax.on e k,(k.k _ (e7 h.bx)).t h.bx⟩
def ags{rest:List bd}{o:bd}{Q:bi->Act->ag->Prop}(e:o.guard=fb)(s x:bj)
 (f:o.op=.call { callee:=.builtin mc,args:=#[s,x],argTypes:=#[33,33] }) (base:Nat) (v:aP) (l:List nR) (y:nR) (b:Nat) (hs:R.eval s=v) (c:kV q base v l)
 (g:R.eval x=fR (fc ⟨b,0,fb⟩) 1 1) (hc:q.heap[b]?=fc (n6 (aaW y) 76)) (hl:l.length<=20000) (d:base<=q.heap.size)
 (h:∀v' w',kV w' base v' (l++[y])->Below base q w'->bm PL L Q rest (R.put o.dst v') w'):bm PL L Q (o::rest) R q:=by
 obtain⟨i,hi,j,k,m⟩:=bq aaX;refine bC _ e s x 33 f base 76 i _ 5 40 ag2 hi j k m rfl ao v l.length _ hs c ⟨b,0,fb⟩ 1 1 (vV y) g rfl (Sm hc) (by simp[vV,fp]) (by simp only[b8];omega) ab d λv' w' n p _=>?_;refine h v' w' ?_ ((gg base q).grown p d (cZ c));unfold kV;rw[dC,iU];simpa using n
def ado(L:List nR):∀n:Nat,(s8 L n).length<=n*L.length
 |0=>eF _
 |n+1=>by
  have:=ado L n;have:=gt (λy:nR=>y.2.2.2.2==(n:Int)) L;rw[s8,dC,oj];omega
def abl(C:CD)(w:ag)(h:C.At w)(hc:C.cx=0) :
 aI PL 34 #[fJ C.val] w λe w'=>∃b c,e=nb (fR b C.Cv.length c)/\xu w' (fR b C.Cv.length c) C.Cv/\bL w w':=by
 have h4:=(FT hc).2;have h5:=j7 hc;have HA:=gf h;have HC:=gf hc;have TR:Hid (∀W(a b p:Nat),C.At W->a<C.n5->b<C.n5->p<C.n4->aI PL 71 #[fJ C.val,fm gL a,fm gL b,fm gL p] W (aO (trV (IU C.tab a b p)) W)):=gf λW a b p hW ha hb hp=>ah0 C a b p W hW hc ha hb hp;have K0:Hid (KTo C w (w.heap.size+1) [] (fR fb 0 0) (eu w (n6 C.val 27))):=gf ⟨⟨rfl,ni ⟨rfl,rfl⟩⟩,λy hy=>(by cases hy),au _ _,Nat.lt_succ_self _,ar,(gg _ _).a (dk _) _⟩;clear h hc;obtain⟨B,N⟩:=bs (w.heap.size+1);rw[<-N]at K0;clear N;go_enter (fx ao Tryz.func34),Tryz.ntmps34;go_wp2
 go_loopw [3,4,5] (λv3 v4 v5 wr=>∃a:Nat,a<=C.n5/\v5=fm gL a/\v4=fm gL (abT (aal C.tab C.n4 C.n5 a))/\KTo C w B (aal C.tab C.n4 C.n5 a) v3 wr) (λ_ _ v5 _=>C.n5-(intOf v5).toNat)
 case atStart=>exact⟨0,eF _,rfl,rfl,K0.o⟩
 case round=>
  obtain⟨a,ha,rfl,rfl,O⟩:=hrel;have s:=gf O;clear O K0;obtain⟨X,Y,Z,f3,f4,f5⟩:=bf s.o.box;by_cases aH:a<C.n5
  .have i1:(a:Int)<C.n5:=ab;have i3:(a:Int)<3:=ab;go_wp2;clear X Y Z f3 f4 f5
   go_loopw [3,4,6] (λv3 v4 v6 wr=>∃b j:Nat,b=a+1+j/\b<=C.n5/\v6=fm gL b/\v4=fm gL (abT (aal C.tab C.n4 C.n5 a++aag C.tab C.n4 a j))/\KTo C w B (aal C.tab C.n4 C.n5 a++aag C.tab C.n4 a j) v3 wr) (λ_ _ v6 _=>C.n5-(intOf v6).toNat)
   case atStart=>exact⟨a+1,0,rfl,aH,by go_num,by simp[aag],by simpa[aag]using s.o⟩
   case round=>
    obtain⟨b,j,hb,eP,rfl,rfl,O⟩:=hrel;have g:=gf hb;have hab:a<b:=ab;have K2:=gf O;clear O s hb;obtain⟨X,Y,Z,f3,f4,f5⟩:=bf K2.o.box;by_cases P:b<C.n5
    .have i2:(b:Int)<C.n5:=ab;have i6:(b:Int)<3:=ab;go_wp2;clear X Y Z f3 f4 f5
     go_loopw [3,4,7] (λv3 v4 v7 wr=>∃p:Nat,p<=C.n4/\v7=fm gL p/\v4=fm gL (abT (aal C.tab C.n4 C.n5 a++aag C.tab C.n4 a j++aaz C.tab a b p))/\KTo C w B (aal C.tab C.n4 C.n5 a++aag C.tab C.n4 a j++aaz C.tab a b p) v3 wr) (λ_ _ v7 _=>C.n4-(intOf v7).toNat)
     case atStart=>exact⟨0,eF _,rfl,by simp[aaz],by simpa[aaz]using K2.o⟩
     case round=>
      obtain⟨p,hp,rfl,rfl,O⟩:=hrel;have u:=gf O;clear O K2;obtain⟨X,Y,Z,f3,f4,f5⟩:=bf u.o.box;by_cases A:p<C.n4
      .have i4:(p:Int)<C.n4:=ab;have i5:(p:Int)<5:=ab;have TP:=gf λW(hW:C.At W)=>TR.o W a b p hW aH P A;have TK:=gf (anD HC.o aH P A);obtain⟨t,ht⟩:=bs (IU C.tab a b p);rw[<-ht]at TP TK;have HT:=gf ht;clear ht;obtain⟨L,E⟩:=bs (aal C.tab C.n4 C.n5 a++aag C.tab C.n4 a j++aaz C.tab a b p);have F:L.length<=80:=by
        rw[E];have:=agR C.tab h4 h5 a;have:=R9 C.tab h4 a j;have:=acE C.tab a b p;have:=g.o;simp only[dC];omega
       have HLN:=gf F;have H:=gf E;rw[<-E]at u ⊢;clear E F;have HKL:=gf (hI (agr L).1 (aid (n:=1000) ao λy hy=>(u.o.ok y hy).2));obtain⟨l,t1,t2,m,r⟩:=t;by_cases hm:m=2
       .subst hm;have tv:Hid (trV (l,t1,t2,2,r)=fB #[fJ #[fm gL 0,fm gL 0,fm gL 0,fm gL 0,fm gL 0],f6 ac]):=gf (by simp[trV,z61]);rw[tv.o]at TP
        go_wp2_with (go_at_call 71;(with_reducible refine(TP.o _ (HA.o.below u.o.low)).m ?_);rintro e w1⟨rfl,v⟩;have I:=gf ((u.o.on v).on ((gg _ _).a (dk _) (n6 #[fm gL 0,fm gL 0,fm gL 0,fm gL 0,fm gL 0] 76)));clear v)
        exact⟨⟨p+1,A,by go_num,by rw[aaz,<-HT.o,if_pos rfl,l7,<-H.o],by rw[aaz,<-HT.o,if_pos rfl,l7,<-H.o];exact I.o⟩,by simp only[intOf];omega⟩
       .have tv:Hid (trV (l,t1,t2,m,r)=fB #[fJ #[fm gL (l:Nat),fm gL t1,fm gL t2,fm gL m,fm gL r],f6 aa]):=gf (by simp[trV,hm,aaW]);rw[tv.o]at TP;have HM:=gf hm;clear hm
        go_upto_region 14 with(go_at_call 71;(with_reducible refine(TP.o _ (HA.o.below u.o.low)).m ?_);rintro e w1⟨rfl,v⟩;have O1:=gf (u.o.on v).own;have I:=gf ((u.o.on v).on ((gg _ _).a (dk _) (n6 #[fm gL (l:Nat),fm gL t1,fm gL t2,fm gL m,fm gL r] 76)));have BX:=gf (au w1 (n6 #[fm gL (l:Nat),fm gL t1,fm gL t2,fm gL m,fm gL r] 76));clear v)
        obtain⟨W4,Sn⟩:=bs (eu w1 (n6 #[fm gL (l:Nat),fm gL t1,fm gL t2,fm gL m,fm gL r] 76));rw[<-Sn]at I BX ⊢;clear Sn;obtain⟨kt,hkt⟩:=bs w1.heap.size;have NE:Hid (∀q,u3.ownBlock=fc q->q≠kt):=gf λq e=>by
         obtain⟨cur,SF⟩:=qm O1.o q e;have:=e7 SF;omega
        rw[<-hkt]at BX ⊢;clear hkt O1 u X Y Z f3 f4 f5;refine abS 9 0 3 4 4 u3 (fm gL (abT L)) 3 (CA5 B kt (l,t1,t2,m,r) W4) (λW W'=>bL W W') e5 (ah4 B L (l,t1,t2,m,r)) (λ_ _ _ _=>True) (λ_ _ _ _ _=>trivial) rfl rfl rfl ao ae rfl rfl rfl (by intro h;cases h) ae rfl ae ae rfl
         (λb i vs W W' hle h=>h.le hle) (λi o ho vs eX W he aaZ b h=>h.loc he) ⟨CAx.start,BX.o⟩ ?_
        dsimp only[P0,ace]
        iterate 2 (
         apply iK
         case hE=>rfl
         case h=>
          intro vs W bb f hd;obtain⟨c0,c1,c2,c3,c4⟩:=qO f.bx;go_simp
          first
           |exact⟨rfl,f,gg _ _⟩
           |exact⟨rfl,gg _ _⟩
         case hb=>exact E0)
        apply ey
        case hE=>rfl
        case hb=>exact E0
        case h=>
         intro vs W D bb iC f jw hi _ hd hP;have v:=(gg W.heap.size W).a (dk _) (n6 #[fm gL (l:Nat),fm gL t1,fm gL t2,fm gL m,fm gL r] 76);have HBC:=gf (f.on I.o.pK v);have HDD:Hid (∀j∈D,e5 j=ac->ah4 B L (l,t1,t2,m,r) bb j vs (eu W (n6 #[fm gL (l:Nat),fm gL t1,fm gL t2,fm gL m,fm gL r] 76))):=gf λj hj hE=>(hd j hj hE).le v;clear f hd v;go_simp;exact⟨HBC.o,HDD.o,⟨λ_ _=>⟨W.heap.size,by simp[upd],au _ _⟩,br⟩⟩
        apply ey
        case hE=>rfl
        case hb=>exact E0
        case h=>
         intro vs W D bb iC f jw hi sB hd hP;have hf:=iC rfl;have m2:2∈D:=jw ⟨2,oh⟩ (cH.2 ⟨ar,rfl⟩);obtain⟨kq,hkq,hkc⟩:=(hd 2 m2 rfl).cs rfl hf;have fO:=I.o.own.on (f.ax.all hf);refine ahw rfl _ _ rfl B u3 L (l,t1,t2,m,r) kq rfl fO hkq hkc (by have:=HLN.o;omega) (da I.o.pK f.ax.low.z) λv' w' e1 e2=>?_;refine⟨⟨?_,?_⟩,λj hj hE=>⟨λ_ e=>(by simp at e),λe=>?_⟩,⟨br,λ_=>(by simpa[upd]using e1)⟩,λ_ _ _=>trivial⟩
         .have:CAx B W4 aa w':=⟨f.ax.low.t ((gg B W).grown e2 (da I.o.pK f.ax.low.z) (cZ fO)),λe=>(by cases e)⟩
          simpa using this
         .exact(e2.block kt (e7 f.bx) λe=>NE.o _ e.y rfl).t f.bx
         .rcases e with e|e
          .exact absurd hj (by rw[e];exact hi)
          .subst e;exact absurd (sB 8 hj _ rfl ⟨3,oh⟩ (cH.2 ⟨ar,rfl⟩)) hi
        iterate 4 (
         apply iK
         case hE=>rfl
         case h=>
          intro vs W bb f hd;obtain⟨c0,c1,c2,c3,c4⟩:=qO f.bx;go_simp
          first
           |exact⟨rfl,f,gg _ _⟩
           |exact⟨rfl,gg _ _⟩
         case hb=>exact E0)
        apply ey
        case hE=>rfl
        case hb=>exact E0
        case h=>
         intro vs W D bb iC f jw hi _ hd hP;have m3:3∈D:=jw ⟨3,oh⟩ (cH.2 ⟨ar,rfl⟩);have h3:=(hd 3 m3 rfl).cc (ni rfl);have HD:=gf hd;have HCC:=gf f;clear hd f;go_simp;exact⟨HCC.o,HD.o,⟨br,λ_=>(by simpa[upd]using h3)⟩⟩
        refine nv λvs W bb _ f hd _=>?_;have J:=(hd 8 ab rfl).cc (nk rfl);obtain⟨b',d',e3⟩:=vB J;rw[dC,List.length_singleton]at e3;rw[e3]at J ⊢;have K5:=gf (I.o.push f.ax.low J TK.o);clear f hd J e3 I;go_wp2;refine⟨⟨p+1,A,by go_num,?_,?_⟩,by simp only[intOf];omega⟩
        .rw[aaz,<-HT.o,if_neg HM.o,<-dT,<-H.o,alp]
        .rw[aaz,<-HT.o,if_neg HM.o,<-dT,<-H.o];exact K5.o
      .obtain rfl:p=C.n4:=ab;go_wp2;exact⟨⟨b+1,j+1,by rw[g.o];rfl,P,by go_num,by rw[aag,<-g.o,<-dT],by rw[aag,<-g.o,<-dT];exact u.o⟩,by simp only[intOf];omega⟩
    .have hbn:b=C.n5:=ab;have i2:¬((b:Int)<C.n5):=ab;go_wp2;exact⟨⟨a+1,aH,by go_num,by rw[aal,show C.n5-(a+1)=j by have:=g.o;omega],by rw[aal,show C.n5-(a+1)=j by have:=g.o;omega];exact K2.o⟩,by simp only[intOf];omega⟩
  .obtain rfl:a=C.n5:=ab;obtain⟨L,E⟩:=bs (aal C.tab C.n4 C.n5 C.n5);have F:L.length<=15:=by rw[E];exact acH C.tab h4 h5
   rw[<-E]at s ⊢;have HT:Hid (∀n:Nat,abT L<n->s8 L n=C.Cv):=gf λn hn=>by
    rw[CD.Cv,alb,<-E];exact(aga λy hy=>⟨(s.o.ok y hy).1,by have:=(agr L).2 y hy;omega⟩).y
   obtain⟨b,d,hv⟩:=vB s.o.own;subst hv;have HRD:Hid (xu wr (fR b L.length d) L):=gf s.o.own.reads;have WB:=(agr L).1;have zz:=aid (L:=L) (n:=1000) ao λy hy=>(s.o.ok y hy).2;obtain⟨M,hM⟩:∃M:Nat,abT L=M:=⟨(abT L).toNat,ab⟩
   have HMM:=gf hM;rw[hM]at zz ⊢;have Q:Hid (bL w wr):=gf s.o.low;have HKY:Hid (∀y∈L,0<=y.2.2.2.2/\y.2.2.2.2<=1000):=gf s.o.ok;clear E hM WB;obtain⟨z,vp⟩:=bs wr;rw[<-vp]at HRD Q;go_wp2;clear X Y Z f3 f4 f5 s
   go_loopw [10,11] (λR S wq=>∃n:Nat,n<=M+1/\S=fm gL n/\kV wq z.heap.size R (s8 L n)/\bL z wq) (λ_ S _=>M+1-(intOf S).toNat)
   case atStart=>exact⟨0,eF _,rfl,⟨rfl,ni ⟨rfl,rfl⟩⟩,by rw[vp];exact gg _ _⟩
   case round=>
    obtain⟨n,hn,rfl,hO,N⟩:=hrel;have O2:=gf hO;have B2:=gf N;clear hO N vp;by_cases aDv:n<=M
    .have j1:(n:Int)<=(M:Int):=ab;go_wp2
     go_loopw [10,12] (λR T wq=>∃i:Nat,i<=L.length/\T=fm gL i/\kV wq z.heap.size R (s8 L n++(L.take i).filter λy=>y.2.2.2.2==(n:Int))/\bL z wq) (λ_ T _=>L.length-(intOf T).toNat)
     case atStart=>exact⟨0,eF _,rfl,by simpa using O2.o,B2.o⟩
     case round=>
      obtain⟨i,hi,rfl,hO,N⟩:=hrel;have O3:=gf hO;have B3:=gf N;clear hO N O2 B2;by_cases K:i<L.length
      .have j2:(i:Int)<(L.length:Int):=ab;obtain⟨kb,ob,NZ,sB⟩:=ad8 HRD.o K;obtain⟨c0,c1,c2,c3,c4⟩:=sB wr B3.o;obtain⟨x,hx⟩:=bs (L[i]);have TS:Hid (L.take (i+1)=L.take i++[x]):=gf (by rw[hx,List.take_append_getElem]);have KX:=gf (HKY.o x (by rw[hx];exact List.getElem_mem _));rw[<-hx]at c0 c1 c2 c3 c4
       have hLL:Hid ((s8 L n++(L.take i).filter λy=>y.2.2.2.2==(n:Int)).length<=20000):=gf (by
        have:=ado L n;have:=gt (λy:nR=>y.2.2.2.2==(n:Int)) (L.take i);have h7:n*L.length<=1001*15:=ns ab F;rw[dC];simp only[List.length_take]at this
        omega)
       have SZ:=gf B3.o.z;obtain⟨nl,U⟩:=bs L.length;have HNL:=gf U;rw[<-U]at K j2 ⊢;subst NZ;obtain⟨x0,x1,x2,x3,x4⟩:=x;clear hx sB U;by_cases hk:x4=(n:Int)
       .have HK:=gf hk;clear hk;have rm:(x4==(n:Int))=aa:=by rw[HK.o];simp
        go_wp2_with (at_builtin;refine ags rfl _ _ rfl z.heap.size _ (s8 L n++(L.take i).filter λy=>y.2.2.2.2==(n:Int)) (x0,x1,x2,x3,x4) wr.heap.size rfl (O3.o.alloc _) rfl (au _ _) hLL.o (by have:=SZ.o;simp;omega) ?_;intro v' w4 fO hb4)
        have hb5:=(B3.o.t ((gg z.heap.size wr).a SZ.o (n6 #[fm gL (x0:Nat),fm gL x1,fm gL x2,fm gL x3,fm gL x4] 76))).t hb4;exact⟨⟨i+1,K,by go_num,by rw[TS.o,ki,<-dT];simpa[HK.o]using fO,hb5⟩,by simp only[intOf];omega⟩
       .have HK:=gf hk;have rm:(x4==(n:Int))=ac:=by simpa using hk
        clear hk;go_wp2;exact⟨⟨i+1,K,by go_num,by rw[TS.o,ki];simpa[HK.o]using O3.o,B3.o⟩,by simp only[intOf];omega⟩
      .have hie:i=L.length:=ab;subst hie;have j2:¬(L.length:Int)<(L.length:Int):=ab;go_wp2;exact⟨⟨n+1,ab,by go_num,by rw[s8];simpa using O3.o,B3.o⟩,by simp only[intOf];omega⟩
    .have bu:n=M+1:=ab;have j1:¬(n:Int)<=(M:Int):=ab;have LS:=HT.o n (by rw[HMM.o];omega);rw[LS]at O2;obtain⟨b',c',hv⟩:=vB O2.o;subst hv;clear LS;obtain⟨nt,V⟩:=bs C.Cv.length;have HNT:=gf V;rw[<-V]at O2 ⊢;clear V;go_wp2;go_ret;exact⟨b',c',by rw[<-HNT.o];rfl,by rw[<-HNT.o];exact O2.o.reads,Q.o.t (B2.o.mono Q.o.z)⟩
def anF{C:CD}(h:C.b6 J≠0):C.sX J=fB #[fJ #[fm gL 0,fm gL 0,fR fb 0 0,fR fb 0 0,fR fb 0 0,fR fb 0 0],fm gL (C.b6 J)]:=by
 simp[CD.sX,h,CD.zero]
def LeZ(W a:ag):Prop:=∀k,Six W k->Six a k
def LeZ.on(h:bL q O):LeZ q O:=λk⟨x0,x1,x2,x3,x4,b,e⟩=>⟨x0,x1,x2,x3,x4,b,(h.k _ (e7 e)).t e⟩
def awK(n0:Nat)(j:Nat)(vs:Nat->aP)(W:ag):Prop:=j=8->∃k,vs 8=f8 (fc ⟨k,0,fb⟩)/\n0<k/\Six W k
def adI(C:CD)(w:ag)(h:C.At w)(hc:C.cx=0):aI PL 36 #[fJ C.val] w (aO (f6 C.X0) w):=by
 have s:=gf h;have EN:Hid (∀W g,C.At W->g<C.n5->aI PL 72 #[fJ C.val,fm gL (g:Nat)] W (aO (fJ #[fm gL (nU C g).1,fm gL (nU C g).2]) W)):=gf λW g f hg=>ahu C g W f hc hg;obtain⟨n,m⟩:=bs C.Cv.length;have TO:Hid (∀W,C.At W->aI PL 34 #[fJ C.val] W λe w'=>∃b c,e=nb (fR b n c)/\bL W w'):=gf λW f=>by rw[m];exact(abl C W f hc).m λe w'⟨b,c,F,_,H⟩=>⟨b,c,F,H⟩
 have t:Hid (KB C w (eu w (n6 C.val 27))):=gf ⟨au _ _,(gg _ _).a (dk _) _⟩;have N:=j7 hc;rw[show C.X0=(qP C C.n5&&decide (n=0)) by rw[CD.X0,m]];clear h hc m;go_enter (fx ao Tryz.func36),Tryz.ntmps36;go_wp2
 go_loopw [3] (λo wr=>∃p:Nat,p<=C.n5/\o=fm gL p/\qP C p=aa/\KB C w wr) (λo _=>C.n5-(intOf o).toNat)
 case atStart=>exact⟨0,eF _,rfl,by simp[qP],t.o⟩
 case round=>
  obtain⟨p,O,rfl,hs,u⟩:=hrel;have i:=gf u;have v:=gf hs;clear u hs t;obtain⟨x,y,z,A,f4,B⟩:=bf i.o.box;by_cases k:p<C.n5
  .have I:(p:Int)<C.n5:=ab;have J:=gf λW(f:C.At W)=>EN.o W p f k
   go_upto_region 4 with fail
   clear x y z A f4 B;refine ig (KB C w) (λ_ _=>True) (λ_=>aa) (λ_ _ _=>True) rfl ae (λ_ _ _ _ _ _=>trivial) (λ_ _ _ _ _ _ _ _ _=>trivial) ⟨i.o.box,i.o.low.d⟩ ?_
   iterate 7 (
    apply aY
    case hE=>rfl
    case h=>
     intro vs W d hd;obtain⟨x,y,z,A,f4,B⟩:=bf d.box;have q1:=ag1;go_simp
     first
     |(go_at_call 72;(with_reducible refine(J.o _ (s.o.below d.low)).m ?_);rintro e P⟨rfl,K⟩;exact⟨_,rfl,rfl,d.on K⟩)
     |exact rfl
    case hb=>exact E0)
   refine cP λvs W d hd=>?_;have j:=gf d;clear hd d;by_cases a:(nU C p).2<=C.l
   .have q:=gf a;have L:¬(C.l<(nU C p).2):=ab;clear a;go_wp2;exact⟨⟨p+1,k,by go_num,IF v.o q.o,j.o⟩,by simp only[intOf];omega⟩
   .have q:=gf a;have L:C.l<(nU C p).2:=ab;clear a;go_wp2;go_ret;have hs:=Sk k (Int.not_le.2 q.o);refine⟨?_,j.o.low⟩;rw[hs,iY];rfl
  .have r:p=C.n5:=ab;have I:¬((p:Int)<C.n5):=ab;clear k;subst r
   go_wp2_with (go_at_call 34;(with_reducible refine(TO.o _ (s.o.below i.o.low)).m ?_);rintro e w2⟨b,c,rfl,D⟩;have M:=gf (i.o.on D);clear D)
   go_ret;refine⟨?_,M.o.low⟩;rw[v.o,js];show Ending.returned (f6 ((n:Int)==0))=_;by_cases E:n=0
   .subst E;rfl
   .have Q:¬(n:Int)=0:=ab;simp[E]
def abU(C:CD):List nR:=if C.cx=0 then C.Cv else[]
def abx(C:CD):Bool:=decide (C.cx=0)&&C.X0
def afH{C:CD}(hc:C.cx≠0)(W:ag)(a:C.At W):aI PL 31 #[fJ C.val,f6 aa] W (aO (fB #[fJ #[fm gL 0,fm gL 0,fR fb 0 0,fR fb 0 0,fR fb 0 0,fR fb 0 0],fm gL C.cx]) W):=by
 have:=Ev C aa W a;rwa[Ra hc]at this
def ahx(C:CD)(w:ag)(h:C.At w):aI PL 6 #[fJ C.val] w λe w'=>∃b c,e=nb (fB #[fR b (abU C).length c,fm gL C.cx])/\xu w' (fR b (abU C).length c) (abU C)/\bL w w':=by
 by_cases hc:C.cx=0
 .rw[abU,if_pos hc,hc];exact ahr h hc
 .rw[abU,if_neg hc];have k:=gf h;have d:Hid (KB C w (eu w (n6 C.val 27))):=gf ⟨au _ _,(gg _ _).a (dk _) _⟩;have f:=gf (afH hc);obtain⟨g,a⟩:=bs C.cx;rw[<-a]at hc f ⊢;have l:(g != 0)=aa:=by simpa using hc
  clear h a hc;go_enter (fx ao Tryz.func6),Tryz.ntmps6;obtain⟨m,n,o,p,f4,q⟩:=bf d.o.box
  go_wp2_with (go_at_call 31;(with_reducible refine(f.o _ (k.o.below d.o.low)).m ?_);rintro e w1⟨rfl,i⟩;have j:=gf (d.o.on i);clear i m n o p f4 q)
  refine a8 (v:=fB #[fR fb 0 0,fm gL g]) ?_ rfl ⟨fb,0,rfl,⟨fb,0,rfl,br⟩,j.o.low.a j.o.low.z _⟩;simp[a9,Tryz.results6,go_sem]
def apk(C:CD)(w:ag)(h:C.At w):aI PL 9 #[fJ C.val] w (aO (fB #[f6 (abx C),fm gL C.cx]) w):=by
 by_cases hc:C.cx=0
 .have:=ap6 h hc;rw[abx,hc];simpa using this
 .have e:abx C=ac:=by simp[abx,hc]
  rw[e];have i:=gf h;have b:Hid (KB C w (eu w (n6 C.val 27))):=gf ⟨au _ _,(gg _ _).a (dk _) _⟩;have c:=gf (afH hc);obtain⟨d,a⟩:=bs C.cx;rw[<-a]at hc c ⊢;have j:(d != 0)=aa:=by simpa using hc
  clear h a hc e;go_enter (fx ao Tryz.func9),Tryz.ntmps9;obtain⟨k,l,m,n,f4,o⟩:=bf b.o.box
  go_wp2_with (go_at_call 31;(with_reducible refine(c.o _ (i.o.below b.o.low)).m ?_);rintro e w1⟨rfl,f⟩;have g:=gf (b.o.on f);clear f k l m n f4 o)
  refine a8 (v:=fB #[f6 ac,fm gL d]) ?_ rfl ⟨rfl,g.o.low.a g.o.low.z _⟩;simp[a9,Tryz.results9,go_sem]
def ah5(C:CD)(w:ag)(h:C.At w):aI PL 7 #[fJ C.val] w λe w'=>∃b c,e=nb (fB #[fR b (abU C).length c,fm gL C.cx])/\xu w' (fR b (abU C).length c) (abU C)/\bL w w':=by
 have o:=gf h;have d:Hid (KB C w (eu w (n6 C.val 27))):=gf ⟨au _ _,(gg _ _).a (dk _) _⟩;have RC:Hid (∀W,C.At W->aI PL 33 #[fJ C.val] W (aO (fm gL C.cx) W)):=gf λW p=>rK C W p;by_cases hc:C.cx=0
 .rw[abU,if_pos hc,hc];rw[hc]at RC;obtain⟨n,q⟩:=bs C.Cv.length;have TO:Hid (∀W,C.At W->aI PL 34 #[fJ C.val] W λe w'=>∃b c,e=nb (fR b n c)/\xu w' (fR b n c) C.Cv/\bL W w'):=gf λW p=>by rw[q];exact abl C W p hc
  rw[<-q];clear h q hc;go_enter (fx ao hS),ih;obtain⟨i,j,k,l,f4,m⟩:=bf d.o.box
  go_wp2_with (first
   |(go_at_call 33;(with_reducible refine(RC.o _ (o.o.below d.o.low)).m ?_);rintro e w1⟨rfl,a⟩;have f:=gf (d.o.on a);clear a i j k l f4 m;obtain⟨i,j,k,l,f4,m⟩:=bf f.o.box)
   |(go_at_call 34;(with_reducible refine(TO.o _ (o.o.below f.o.low)).m ?_);rintro e w2⟨b,c,rfl,r,a⟩;have t:=gf r;have u:=gf (f9 f.o.low a);clear r a))
  refine a8 (v:=fB #[fR b n c,fm gL 0]) ?_ rfl ⟨b,c,rfl,t.o,u.o⟩;simp[a9,ii,go_sem]
 .rw[abU,if_neg hc];obtain⟨s,g⟩:=bs C.cx;rw[<-g]at hc RC ⊢;have y:(s != 0)=aa:=by simpa using hc
  clear h g hc;go_enter (fx ao hS),ih;obtain⟨i,j,k,l,f4,m⟩:=bf d.o.box
  go_wp2_with (go_at_call 33;(with_reducible refine(RC.o _ (o.o.below d.o.low)).m ?_);rintro e w1⟨rfl,a⟩;have f:=gf (d.o.on a);clear a i j k l f4 m)
  refine a8 (v:=fB #[fR fb 0 0,fm gL s]) ?_ rfl ⟨fb,0,rfl,⟨fb,0,rfl,br⟩,f.o.low⟩;simp[a9,ii,go_sem]
def anG(C:CD)(w:ag)(h:C.At w):aI PL 10 #[fJ C.val] w (aO (fB #[f6 (abx C),fm gL C.cx]) w):=by
 have l:=gf h;have b:Hid (KB C w (eu w (n6 C.val 27))):=gf ⟨au _ _,(gg _ _).a (dk _) _⟩;have RC:Hid (∀W,C.At W->aI PL 33 #[fJ C.val] W (aO (fm gL C.cx) W)):=gf λW m=>rK C W m;by_cases hc:C.cx=0
 .have e:abx C=C.X0:=by simp[abx,hc]
  rw[e,hc];rw[hc]at RC;obtain⟨s,hs⟩:=bs C.X0;have SO:Hid (∀W,C.At W->aI PL 36 #[fJ C.val] W (aO (f6 s) W)):=gf λW m=>by rw[hs];exact adI C W m hc
  rw[<-hs];clear h hs hc e;go_enter (fx ao io),ip;obtain⟨f,g,i,j,f4,k⟩:=bf b.o.box
  go_wp2_with (first
   |(go_at_call 33;(with_reducible refine(RC.o _ (l.o.below b.o.low)).m ?_);rintro e w1⟨rfl,a⟩;have c:=gf (b.o.on a);clear a f g i j f4 k;obtain⟨f,g,i,j,f4,k⟩:=bf c.o.box)
   |(go_at_call 36;(with_reducible refine(SO.o _ (l.o.below c.o.low)).m ?_);rintro e w2⟨rfl,a⟩;have o:=gf (f9 c.o.low a);clear a))
  refine a8 (v:=fB #[f6 s,fm gL 0]) ?_ rfl ⟨rfl,o.o⟩;simp[a9,ix,go_sem]
 .have e:abx C=ac:=by simp[abx,hc]
  rw[e];obtain⟨n,d⟩:=bs C.cx;rw[<-d]at hc RC ⊢;have p:(n != 0)=aa:=by simpa using hc
  clear h d hc e;go_enter (fx ao io),ip;obtain⟨f,g,i,j,f4,k⟩:=bf b.o.box
  go_wp2_with (go_at_call 33;(with_reducible refine(RC.o _ (l.o.below b.o.low)).m ?_);rintro e w1⟨rfl,a⟩;have c:=gf (b.o.on a);clear a f g i j f4 k)
  refine a8 (v:=fB #[f6 ac,fm gL n]) ?_ rfl ⟨rfl,c.o.low⟩;simp[a9,ix,go_sem]
end Go.Proofs
namespace Go.Proofs
open Go.RowKit Go.Shelf
variable {R q:Nat}{J O Y:ag}{C:List Int}{L:Option a7}
structure LeW(base n:Nat)(p:Int)(W W':ag):Prop where
 b:Below base W W'
 k:∀(g:Nat)(cur:Array aP),W.heap[g]?=fc (n6 cur 3 (0,0))->∃L0:Array aP,W'.heap[g]?=fc (n6 L0 3 (0,0))/\L0.size=cur.size/\(∀i,i<n->L0[i]?=cur[i]?)/\(L0[n]?=cur[n]?\/L0[n]?=fc (fm gL p))
def LeW.of{base n:Nat}{p:Int}{W b:ag}(c:bL W b)(hb:base<=W.heap.size):LeW base n p W b:=
 ⟨c.mono hb,λ_ a e=>⟨a,(c.k _ (e7 e)).t e,rfl,λ_ _=>rfl,ni rfl⟩⟩
def alq{a b:Array aP}(h:∀i,i<q->a[i]?=b[i]?):a.toList.take q=b.toList.take q:=by
 refine List.ext_getElem? λi=>?_;rw[pw,pw];split
 .rename_i hi;rw[ib,ib];exact h i hi
 .rfl
def eO.le{base:Nat}{p:Int}{v:aP}(h:eO 3 J base v C)(c:LeW base q p J O)(hl:C.length<=q\/(C.length=q+1/\C.getD q 0=p)):eO 3 O base v C:=by
 obtain⟨j,h⟩:=h;refine⟨j,?_⟩
 rcases h with h|⟨g,cap,a,e,hb,hg,m,o,W,f⟩
 .exact ni h
 .obtain⟨r,s,t,u,b⟩:=c.k g a hg;refine nk ⟨g,cap,r,e,hb,s,m,o,by rw[t,W],?_⟩;rw[<-f];refine alq λi hi=>?_;rw[jR]at hi;by_cases w:i<q
  .exact u i w
  .rcases hl with hl|⟨hl,y⟩
   .omega
   .obtain rfl:i=q:=ab
    rcases b with b|b
    .exact b
    .rw[b];have e1:(a.toList.take (C.length*1))[i]?=(C.map λx=>fm gL x)[i]?:=by rw[f]
     rw[e6 ab,ib]at e1;rw[e1,<-y];simp[et,show i<C.length by omega]
def anH{W:ag}{base n k:Nat}{v:aP}{l:List Int}{p:Int}(j:eO 3 W base v l)(o:l.length=n)(D:n≠0)(hc:W.heap[k]?=fc (n6 #[fm gL p] 3 (0,0)))(hl:n<=1000)(w:base<=W.heap.size) :
 ∃v' w',(l2 #[28,28] 28 #[v,fR (fc ⟨k,0,fb⟩) 1 1]).run PL W=lW v' w'/\eO 3 w' base v' (l++[p])/\LeW base n p W w':=by
 have y:eq W ⟨k,0,fb⟩=fc (fm gL p):=by simp[eq,hc]
 obtain⟨v',w',m,E,_,_,_⟩:=ac5 (T:=28) VF VG 28 base v l p k j y ab w;refine⟨v',w',m,E,?_⟩;obtain⟨z,hi,F,b,H⟩:=bq VG;have c:∀q u,[fm gL p][q]?=fc u->eq W ((⟨k,0,fb⟩:a7).add q)=fc u:=λq u e=>by
  match q,e with
  |0,e=>cases e;exact y
 obtain⟨I,j⟩:=j
 rcases j with⟨_,h⟩|⟨g,cap,a,rfl,hb,hg,A,J,d,K⟩
 .omega
 .rw[o]at m A;by_cases r:n+1<=cap
  .have f:=ct (P:=PL) W 28 28 3 z VF hi g n cap a hg ⟨k,0,fb⟩ 1 1 [fm gL p] (by rw[b];rfl) c (by simp[fp]) r (by rw[b,d];simp;omega);rw[m]at f
   injection f with e1 s
   subst s;refine⟨⟨rfl,rfl,rfl,by simp[World.setRow],λq B=>c8 W g q _ ab⟩,λt L e=>?_⟩;by_cases C:t=g
   .subst C;rw[hg]at e;cases e;refine⟨_,dO W t a _ 3 _ hg,?_,λi hi=>?_,nk ?_⟩
    .simp[b,d];omega
    .have:i<a.size:=by rw[d];omega
     simp only[b,jR,gw,dT];rw[ej (by simp;omega),e6 hi,ib]
    .have:n<a.size:=by rw[d];omega
     simp[b,my (mH this)]
   .exact⟨L,(c8 W g t _ C).t e,rfl,λ_ _=>rfl,ni rfl⟩
  .have holds:∀q u,(l.map λx=>fm gL x)[q]?=fc u->eq W ((⟨g,0,fb⟩:a7).add q)=fc u:=World.ownsRow.cells (g:=g) ⟨I,nk ⟨g,cap,a,rfl,hb,hg,by rw[o];exact A,J,d,K⟩⟩ rfl;have f:=dQ (P:=PL) W 28 28 3 z (fm gL 0) VF hi F ⟨g,0,fb⟩ n cap _ (by rw[b];simpa using o) holds ⟨k,0,fb⟩ 1 1 [fm gL p] (by rw[b];rfl) c ab ab (dU ab (by rw[H];omega));rw[m]at f
   injection f with e1 s
   subst s;exact LeW.of ⟨rfl,rfl,rfl,ar,λq B=>d8 W.drew _ B⟩ w
def aaY{P:cf}{w:ag}(base:Nat)(t ty e:aT)(i:TypeInfo)(size:Nat)(b:mn P t=fc (.slice e))(hi:P.info? e=fc i)(v:aP)(n:Nat)(xs:List aP)(d:em w base e size v n xs)(c:Nat) :
 (l2 #[t,t] ty #[v,fR fb 0 c]).run P w=lW v w:=by
 rcases d.2 with⟨rfl,rfl⟩|⟨g,cap,f,rfl,_,_,a,_⟩
 .simp[l2,d9 b,ea,eb,hi,l3,l5]
 .simp[l2,d9 b,ea,eb,hi,l3,l5,a,ec]
attribute [local go_sem] Oper.semAt_some
def CD.afI(C:CD)(f:Nat->iJ)(g c:Nat):CD:={ C with b4:=fc ⟨g,0,fb⟩,k4:=g,o4:=0,c4:=c,x4:=f }
variable {M:CD}
structure aii(x y:iJ):Prop where
 name:y.name=x.name
 lb:y.lb=x.lb
 ln:y.ln=x.ln
 lk:y.lk=x.lk
 lo:y.lo=x.lo
 lane:y.lane=x.lane
def anI{f:Nat->iJ}(h:M.At J)(d:bL J O)(hf:∀i,aii (M.x4 i) (f i))(hg:q<O.heap.size)(b:∀j,j<M.n4->∀C,C<12->eq O ⟨q,j*12+C,fb⟩=(aaD (f j))[C]?):(M.afI f q R).At O:=by
 have k:=h.below d;refine⟨k.m2,k.m3,k.m4,k.m5,k.h2,k.h3,hg,k.h5,k.s2,k.s3,λ_=>rfl,k.s5,k.Ep,k.Er,k.Es,k.Et,k.Eu,λi hi=>?_,λi hi=>?_,λi hi j e l=>?_,λi hi=>?_,λi hi hl=>?_,λi hi j a=>?_,k.nm5,k.FI,k.HU,k.J6⟩
 .show(f i).name.size<=100/\(f i).ln<=20;rw[(hf i).name,(hf i).ln];exact k.cu i hi
 .show eq O ⟨q,0+i*12,fb⟩=_;rw[ei];exact b i hi 0 ab
 .show eq O ⟨q,0+i*12+j,fb⟩=_;rw[ei,b i hi j ab,aam _ e l];rfl
 .show eq O ⟨q,0+i*12+11,fb⟩=_;rw[ei,b i hi 11 ab];rfl
 .have hl:0<(f i).ln:=hl;show(f i).lb=fc ⟨(f i).lk,(f i).lo,fb⟩/\(f i).lk<O.heap.size;rw[(hf i).ln]at hl;rw[(hf i).lb,(hf i).lk,(hf i).lo];exact k.l4 i hi hl
 .have a:j<(f i).ln:=a;show eq O ⟨(f i).lk,(f i).lo+j,fb⟩=fc (fm gL ((f i).lane j));rw[(hf i).ln]at a;rw[(hf i).lk,(hf i).lo,(hf i).lane];exact k.J5 i hi j a
def CD.amI(C:CD):∀u∈C.afs,u.oneCell'=aa:=by
 intro u a;obtain⟨i,_,h⟩:=mf.1 a;exact agM _ u h
def amJ(w:ag)(a b c:Obj):(eu (eu (eu w a) b) c).heap[w.heap.size]?=fc a/\(eu (eu (eu w a) b) c).heap[w.heap.size+1]?=fc b/\(eu (eu (eu w a) b) c).heap[w.heap.size+2]?=fc c/\(eu (eu (eu w a) b) c).heap.size=w.heap.size+3/\bL w (eu (eu (eu w a) b) c):=by
 have g:=au w a;have e:=au (eu w a) b;have f:=au (eu (eu w a) b) c;rw[eD]at e;rw[eD,eD]at f;have k2:∀k,k<w.heap.size+1->(eu (eu w a) b).heap[k]?=(eu w a).heap[k]?:=λk d=>((gg (eu w a).heap.size _).a (dk _) b).k k (by rw[eD];exact d);have k3:∀k,k<w.heap.size+2->(eu (eu (eu w a) b) c).heap[k]?=(eu (eu w a) b).heap[k]?:=λk d=>((gg (eu (eu w a) b).heap.size _).a (dk _) c).k k (by rw[eD,eD];exact d);exact⟨(k3 _ ab).t ((k2 _ ab).t g),(k3 _ ab).t e,f,ar,(((gg _ _).a (dk _) _).a ar _).a (by simp;omega) _⟩
def ah6{T e:aT}{z:aP}{m bytes:Nat}(j:mn PL T=fc (.slice e))(k:(PL.info? e).map (λi=>(i.zero,i.size,i.bytes))=fc (fc z,m,bytes))(t:z.cells.size=m)(u:0<m)(f:bytes<=1000){ops:Array bd}{rest:List bd}{o:bd}{a:Act}{Q:bi->Act->ag->Prop}{w:ag}(l:o.guard=fb)(s x:bj)
 (p:o.op=.call { callee:=.builtin mc,args:=#[s,x],argTypes:=#[T,T] }) (base g:Nat) (hs:a.eval s=fR (fc ⟨g,0,fb⟩) 0 0) (hg:w.heap[g]?=fc (n6 #[] e)) (hb:base<=g)
 (b:Option a7) (n c:Nat) (row:List aP) (q:a.eval x=fR b n c) (d:aay w b n m row)
 (h:∀v' w',em w' base e m v' n row->Below base w w'->bm PL ops Q rest (a.put o.dst v') w'):bm PL ops Q (o::rest) a w:=by
 cases b with
 |none=>
  obtain rfl:n=0:=d.nil;obtain⟨v,hi,F,H,I⟩:=bq k;have hl:=d.len;rw[jD]at hl;obtain rfl:row=[]:=nf.1 hl;have r:em w base e m (fR (fc ⟨g,0,fb⟩) 0 0) 0 []:=⟨ar,nk ⟨g,0,#[],rfl,hb,hg,dk _,eF _,ar,ar⟩⟩
  refine wpList_plain l λK y=>?_;have B:=aaY (w:=w) base T o.type e v m j hi _ _ _ r c;unfold k9;simp[ch,p,cl,co,cq,hs,q,B,lT];exact y _ _ (h _ w r (gg _ _))
 |some A=>exact s9 j k t u f l s x p base g hs hg hb A n c row q d.len d.add d.one d.le λv' w' D _ E=>h v' w' D E
structure KAf(C:CD)(w:ag)(pb:Option a7)(pk pd:Nat)(x:Nat->ByteArray×Int×Int)(W:ag):Prop where
 low:bL w W
 apl:W.heap[w.heap.size]?=fc (n6 C.val 27)
 res:W.heap[w.heap.size+1]?=fc (n6 RX 27)
 box:W.heap[w.heap.size+2]?=fc (n6 #[fm gL C.l,fm gL C.p,fR C.b2 C.n2 C.c2,fR C.b3 C.n3 C.c3,fR C.b4 C.n4 C.c4,fR pb C.n5 pd] 27)
 lt:pk<W.heap.size
 own:0<C.n5->pb=fc ⟨pk,0,fb⟩/\w.heap.size+2<pk/\∃cur,W.heap[pk]?=fc (n6 cur 51)/\C.n5*3<=cur.size
 row:j9 W pk 0 C.n5 3 λj=>ac9 (x j)
section
variable {C:CD}{w:ag}{pb:Option a7}{pk pd:Nat}{x:Nat->ByteArray×Int×Int}{W W':ag}
def KAf.on(h:KAf C w pb pk pd x W)(a:bL W W'):KAf C w pb pk pd x W':=
 ⟨f9 h.low a,(a.k _ (e7 h.apl)).t h.apl,(a.k _ (e7 h.res)).t h.res,(a.k _ (e7 h.box)).t h.box,bT h.lt a.z,λb=>⟨(h.own b).1,(h.own b).2.1,(h.own b).2.2.i λ_ k=>⟨(a.k _ (e7 k.1)).t k.1,k.2⟩⟩,h.row.on h.lt a⟩
theorem KAf.set(h:KAf C w pb pk pd x W){i:Nat}(hi:i<C.n5)(d:Int):KAf C w pb pk pd (λj=>if j=i then((x j).1,(x j).2.1,d) else x j) (eA W ⟨pk,i*3+2,fb⟩ (fm gL d)):=by
 obtain⟨c,e,f,a,b⟩:=h.own ab;refine⟨h.low.s (p:=⟨pk,_,fb⟩) (by show w.heap.size<=pk;omega) _,(aZ ab).t h.apl,(aZ ab).t h.res,(aZ ab).t h.box,by rw[lj];exact h.lt,λ_=>⟨c,e,_,Fe a,by simpa using b⟩,?_⟩;refine h.row.put a b hi ao (λj g=>by simp only[g,if_false]) λq k=>?_
 match q,k with
 |0,_=>simp[ac9]
 |1,_=>simp[ac9]
 |2,_=>simp[ac9]
def KAf.cell(h:KAf C w pb pk pd x W){i:Nat}(hi:i<C.n5):eq W ⟨pk,i*3+2,fb⟩=fc (fm gL (x i).2.2):=by
 have:=h.row i hi 2 ao;rw[ei]at this;exact this
end
def CD.aft(C:CD)(ds:List Int)(pb:Option a7)(pk pd:Nat):CD:={ C.j8 ds with b5:=pb,k5:=pk,o5:=0,c5:=pd }
def apm(hA:M.At J)(K:KAf M J L q R (M.j8 C).x5 O)(c:bL J Y)(hs:O.heap.size<=Y.heap.size)(hb:∀b,b≠J.heap.size+1->Y.heap[b]?=O.heap[b]?):(M.aft C L q R).At Y:=by
 have pb:=(hA.below c).rows;refine Q2.at_ ⟨pb.m2,pb.m3,pb.m4,pb.m5,pb.h2,pb.h3,pb.h4,bT K.lt hs,pb.s2,pb.s3,pb.s4,λd=>(K.own d).1,pb.r2,pb.r3,pb.r4,λi hi pk e=>?_,pb.cu,λi hi=>pb.nm5 i hi,pb.l4,pb.rl⟩;have f:i<M.n5:=hi;show eq Y ⟨q,0+i*3+pk,fb⟩=(ac9 ((M.j8 C).x5 i))[pk]?;rw[<-K.row i f pk e];have:=(K.own ab).2.1;simp only[eq,hb q ab]
def ah7(C:CD)(ds:List Int)(v:aP)(w:ag)(h:C.At w)(hv:bB w v ds)(hd:ds.length=C.n5) :
 aI PL 44 #[fJ C.val,v] w λe w'=>∃pb pk pd,e=nb (fJ (C.aft ds pb pk pd).val)/\(C.aft ds pb pk pd).At w'/\bL w w'/\(0<C.n5->w.heap.size<=pk):=by
 obtain⟨bv,cv,rfl,N⟩:=hv;obtain⟨A,O,E⟩:∃A O,0<ds.length->bv=fc ⟨A,O,fb⟩/\A<w.heap.size/\∀j,j<ds.length->eq w ⟨A,O+j,fb⟩=fc (fm gL (ds.getD j 0)):=by
  by_cases B:0<ds.length
  .obtain⟨k,o,e,hk,hc⟩:=N B;exact⟨k,o,λ_=>⟨e,hk,λj hj=>by have:=hc j ab;simpa using this⟩⟩
  .exact⟨0,0,λh=>absurd h B⟩
 have m5:=h.m5;have HA:=gf h;have R:=gf E;have HS:Hid (∀W,bL w W->aay W C.b5 C.n5 3 C.adP):=gf λW S=>h.rows.arz.on S;have WB:KB C w (eu w (n6 C.val 27)):=⟨au _ _,(gg _ _).a (dk _) _⟩
 have HB:=gf WB;rw[hd];clear h WB N E;go_enter (fx ao Tryz.func44),Tryz.ntmps44;obtain⟨U,V,X,Y,f4,Z⟩:=bf HB.o.box
 go_upto_region 2 with fail
 obtain⟨a,r⟩:=bs (eu (eu (eu w (n6 C.val 27)) (n6 RX 27)) (n6 C.val 27));have A3:=gf (amJ w (n6 C.val 27) (n6 RX 27) (n6 C.val 27));rw[<-r]at A3;rw[<-r];clear r U V X Y f4 Z;obtain⟨U,V,X,Y,f4,Z⟩:=bf A3.o.1;have F:Hid (a.heap[w.heap.size+1+1]?=fc (n6 C.val 27)):=gf A3.o.2.2.1;have hz:w.heap.size+1+1<a.heap.size:=by rw[A3.o.2.2.2.1];omega
 have dx:w.heap.size+1<a.heap.size:=ab;have mF:w.heap.size<a.heap.size:=ab;have s:Hid (bL a (eu a (n6 #[] 51))):=gf ((gg _ _).a (dk _) _);have S4:=gf (HS.o _ (A3.o.2.2.2.2.t (s.o.mono A3.o.2.2.2.2.z)))
 go_upto_region 3 with(at_builtin;refine ah6 (T:=25) (e:=51) VN VO rfl ao ao rfl _ _ rfl a.heap.size a.heap.size rfl (au a (n6 #[] 51)) (dk _) C.b5 C.n5 C.c5 C.adP rfl S4.o ?_;intro v1 w4 fO H;have hb:=s.o.t H;have I:Hid (w4.heap[w.heap.size+1+1]?=fc (n6 C.val 27)):=gf ((hb.k _ hz).t F.o);have P:=tO I.o;have hz4:=e7 I.o;have J:=gf hb;have t:=gf (show ai9 51 3 (λj=>ac9 (C.x5 j)) w4 a.heap.size v1 C.n5 from fO);obtain⟨pb,pd,hv1⟩:=vB fO;subst hv1;clear fO H hb U V X Y f4 Z;obtain⟨g0,g1,g2,g3,g4,g5⟩:=bf I.o)
 obtain⟨pk,K⟩:∃pk,KAf C w pb pk pd (C.j8 (ds.take 0)).x5 (eA w4 ⟨w.heap.size+1+1,5,fb⟩ (fR pb C.n5 pd)):=by
  obtain⟨u,pd',pk,he,hl,ho,N⟩:=t.o.pick (m:=3) (λ_=>rfl) (d:=w.heap.size) (bT mF J.o.z);cases he;have hs:=A3.o.2.2.2.1;have hw:w.heap.size<=w.heap.size+1+1:=ab;refine⟨pk,(A3.o.2.2.2.2.t (J.o.mono A3.o.2.2.2.2.z)).s (p:=⟨_,5,fb⟩) hw _,?_,?_,Fe I.o,by rw[lj];exact hl,λB=>?_,?_⟩
  .exact(aZ ab).t ((J.o.k _ ab).t A3.o.1)
  .exact(aZ ab).t ((J.o.k _ ab).t A3.o.2.1)
  .obtain⟨h1,h2,cur,h3⟩:=ho B;obtain⟨_,Q⟩:=t.o
   rcases Q with⟨Q,_⟩|⟨g,cap,L0,e1,_,hg,fW⟩
   .rw[h1]at Q;cases Q
   .rw[h1]at e1;cases e1;obtain⟨_,_,_,ht⟩:=fW;have bu:w.heap.size+1+1≠pk:=ab;exact⟨h1,ab,L0,(aZ bu).t hg,(j9.of (f:=λj=>ac9 (C.x5 j)) (m:=3) (λ_=>rfl) hg ht).2⟩
  .intro i hi q hq;have hp:0<C.n5:=ab;have:=(ho hp).2.1;rw[ahR ab];have e:=N i hi q hq;rw[e];simp
 have K5:=gf K;clear K A3 F hz dx mF hz4 s S4 I J t P g0 g1 g2 g3 g4 g5 HS HB;obtain⟨W5,L⟩:=bs (eA w4 ⟨w.heap.size+1+1,5,fb⟩ (fR pb C.n5 pd));rw[<-L]at K5 ⊢;clear L;go_wp2
 go_loopw [6] (λv6 wr=>∃i:Nat,i<=C.n5/\v6=fm gL i/\KAf C w pb pk pd (C.j8 (ds.take i)).x5 wr) (λv6 _=>C.n5-(intOf v6).toNat)
 case atStart=>exact⟨0,eF _,rfl,K5.o⟩
 case round=>
  obtain⟨i,hi,rfl,K⟩:=hrel;have c:=gf K;clear K K5;by_cases aH:i<C.n5
  .have i1:(i:Int)<C.n5:=ab;obtain⟨hbv,VQ,sB⟩:=R.o ab;have hy:=sB i ab;have HY:Hid (∀W,bL w W->eq W ⟨A,O+i,fb⟩=fc (fm gL (ds.getD i 0))):=gf λW S=>(S.c (p:=⟨A,_,fb⟩) VQ).t hy;obtain⟨y,z⟩:=bs (ds.getD i 0);have M:=gf z;rw[<-z]at HY;have PB:=gf (c.o.own ab).1;subst hbv;clear sB hy z
   go_upto_region 6 with fail
   refine cT 7 (KAf C w pb pk pd (C.j8 (ds.take i)).x5) (λ_ _=>True) (λ_=>aa) (λ_ _ _=>True) rfl ae ae (λ_ _ _ _ _ h=>h) (λ_ _ _ _ _ _ _ _ h=>h) (c.o.on (gg _ _).d) ?_
   iterate 7 (
    apply aY
    case hE=>rfl
    case h=>
     intro vs W n hd;obtain⟨p0,p1,p2,p3,p4,p5⟩:=bf n.box;have hy:=HY.o W n.low;go_simp
     first
      |exact⟨rfl,n⟩
      |exact⟨rfl,n,trivial⟩
      |exact rfl
    case hb=>exact E0)
   refine cP λvs W n hd=>?_;have K7:=gf n;have u:=PB.o;have fl:=n.cell aH;have P:∀o,eE W ⟨pk,o,fb⟩=ac:=(n.own ab).2.2.e λ_ k=>tO k.1;clear n hd;rw[u]
   go_upto_region 5 with fail
   have K8:=gf (K7.o.set aH y);rw[M.o,ahT C ds (i:=i) ab,<-M.o]at K8;clear fl P;go_wp2;exact⟨⟨i+1,aH,by go_num,by rw[u]at K8;exact K8.o⟩,by simp only[intOf];omega⟩
  .obtain rfl:i=C.n5:=ab;have ed:ds.take C.n5=ds:=by rw[<-hd];exact List.take_length
   rw[ed]at c;have D:=c.o.res;obtain⟨y0,y1,y2,y3,y4,y5⟩:=bf D;obtain⟨p0,p1,p2,p3,p4,p5⟩:=bf c.o.box;have P:=tO D;have hzr:=e7 D;clear D;go_wp2;have D:=c.o.res;have hWF:=nC (u0:=fm gL C.l) (u1:=fm gL C.p) (u2:=fR C.b2 C.n2 C.c2) (u3:=fR C.b3 C.n3 C.c3) (u4:=fR C.b4 C.n4 C.c4) (u5:=fR pb C.n5 pd) D;have qv:=ge c.o.low (k:=w.heap.size+1) ab (fm gL C.l) (fm gL C.p) (fR C.b2 C.n2 C.c2) (fR C.b3 C.n3 C.c3) (fR C.b4 C.n4 C.c4) (fR pb C.n5 pd);refine a8 (v:=fJ (C.aft ds pb pk pd).val) ?_ rfl ⟨pb,pk,pd,rfl,apm HA.o c.o qv (by simp only[lj];exact dk _) (λb hb=>cM hb),qv,λB=>by have:=(c.o.own B).2.1;omega⟩;obtain⟨a0,a1,a2,a3,a4,a5⟩:=bf hWF;simp[a9,Tryz.results44,go_sem,a0,a1,a2,a3,a4,a5,CD.aft]
def alr(C:CD)(ds:List Int)(v:aP)(w:ag)(h:C.At w)(hv:bB w v ds)(hd:ds.length=C.n5) :
 aI PL 44 #[fJ C.val,v] w λe w'=>∃pb pk pd,e=nb (fJ (C.aft ds pb pk pd).val)/\(C.aft ds pb pk pd).At w'/\bL w w':=
 (ah7 C ds v w h hv hd).m λ_ _⟨pb,pk,pd,a,b,c,_⟩=>⟨pb,pk,pd,a,b,c⟩
def anJ(hA:M.At J)(c:(M.aft C L q R).At O)(d:bL J Y)(hs:O.heap.size<=Y.heap.size)(hb:∀b,b≠J.heap.size+1->Y.heap[b]?=O.heap[b]?)(e:0<M.n5->J.heap.size+1<q):(M.aft C L q R).At Y:=by
 have pb:=(hA.below d).rows;have D:=c.rows;refine Q2.at_ ⟨pb.m2,pb.m3,pb.m4,pb.m5,pb.h2,pb.h3,pb.h4,bT D.h5 hs,pb.s2,pb.s3,pb.s4,D.s5,pb.r2,pb.r3,pb.r4,λi hi pk f=>?_,pb.cu,λi hi=>pb.nm5 i hi,pb.l4,pb.rl⟩;have g:i<M.n5:=hi;rw[<-D.r5 i hi pk f];have:=e ab;show eq Y ⟨q,_,fb⟩=eq O ⟨q,_,fb⟩;simp only[eq,hb q ab]
end Go.Proofs
namespace Go.Proofs
open Go.RowKit
variable {q:ag}{M:List Int}{L:Int}{C:Nat}{O:Nat->aP}{R:Array aP}{Y:aP}
variable {J:CD}
def afK{W:ag}{g m c:Nat}{ty:aT}{ad:a7}{news:List aP}(hg:W.heap[g]?=fc (n6 #[] 3 (0,0)))(hl:news.length=m)(a:∀j u,news[j]?=fc u->eq W (ad.add j)=fc u)(o:∀u∈news,u.oneCell'=aa)(w:m<=1000) :
 ∃v d,(l2 #[28,28] ty #[fR (fc ⟨g,0,fb⟩) 0 0,fR (fc ad) m c]).run PL W=lW v d/\bL W d/\em d g 3 1 v m news:=by
 obtain⟨i,hi,p,q,r⟩:=bq RE;have f:g<W.heap.size:=e7 hg
 rcases cd m with l|l
 .subst l;have s:news=[]:=mr hl;subst s;have b:=ct (P:=PL) W 28 ty 3 i Rz hi g 0 0 #[] hg ad 0 c [] ar a o (dk _) ar;refine⟨_,_,b,⟨rfl,rfl,rfl,ar,λk n=>?_⟩,ar,nk ⟨g,0,#[],rfl,dk _,?_,dk _,by simp[b8],rfl,rfl⟩⟩
  .by_cases e:k=g
   .subst e;rw[dO W k #[] _ 3 _ hg,hg];simp
   .exact c8 W g k _ e
  .rw[dO W g #[] _ 3 _ hg];simp
 .have b:=dQ (P:=PL) W 28 ty 3 i (fm gL 0) Rz hi p ⟨g,0,fb⟩ 0 0 [] ar ar ad m c news (by rw[q];omega) a ab ab (by rw[r];exact dU ab ab);have t:=grownCap_ge W m 0 3;have h:grownCap W m 0 3<=b8:=grownCap_le_maxLen W m 0 3 (by simp only[b8];omega);simp only[ei,Array.empty_append]at b;refine⟨_,_,b,⟨rfl,rfl,rfl,ar,λk n=>d8 W.drew _ n⟩,ab,nk ⟨W.heap.size,_,_,rfl,mH f,heap_alloc_new W.drew _,t,h,?_,?_⟩⟩
  .simp only[Array.size_append,eS,size_zeroCells,hl];simp[Value.cells];omega
  .simp only[Array.toList_append,jR];rw[<-hl];exact List.take_left
open Go.Shelf
attribute [local go_sem] Oper.semAt_some
def ahy{W:ag}{g n c:Nat}{ty:aT}{b:Option a7}{xs:List Int}(hg:W.heap[g]?=fc (n6 #[] 3 (0,0)))(l:bB W (fR b n c) xs)(p:n=xs.length)(q:n<=1000) :
 ∃v a,(l2 #[28,28] ty #[fR (fc ⟨g,0,fb⟩) 0 0,fR b n c]).run PL W=lW v a/\bL W a/\eO 3 a g v xs:=by
 subst p;obtain⟨b',D,e,f⟩:=l;cases e
 cases b with
 |none=>
  have r:xs.length=0:=by
   rcases cd xs.length with h|h
   .exact h
   .obtain⟨_,_,e,_⟩:=f h;cases e
  obtain rfl:xs=[]:=nf.1 r;obtain⟨s,hi,E,F,H⟩:=bq VG;have i:em W g 3 1 (fR (fc ⟨g,0,fb⟩) 0 0) 0 []:=⟨ar,nk ⟨g,0,#[],rfl,dk _,hg,dk _,eF _,ar,ar⟩⟩
  exact⟨_,W,aaY (w:=W) g 28 ty 3 s 1 VF hi _ _ _ i c,gg _ _,i⟩
 |some t=>
  obtain⟨v,a,z,A,B⟩:=afK (W:=W) (g:=g) (m:=xs.length) (c:=c) (ty:=ty) (ad:=t) (news:=xs.map λx=>fm gL x) hg ar (λj u d=>by
   rw[eT]at d;obtain⟨y,ey,rfl⟩:=ik.1 d;have I:j<xs.length:=(cQ.1 ey).1;obtain⟨k,o,e,_,C⟩:=f ab;cases e;have:eq W ⟨k,o+j,fb⟩=fc (fm gL (xs.getD j 0)):=C j ab;rw[et,ey]at this;rw[show(⟨k,o,fb⟩:a7).add j=⟨k,o+j,fb⟩ by simp[Addr.add]]
   exact this) (λu d=>by
    obtain⟨x,_,rfl⟩:=j3.1 d
    rfl) q
  exact⟨v,a,z,A,B⟩
def acg{P:cf}(t ty e:aT)(i:TypeInfo)(a:mn P t=fc (.slice e))(hi:P.info? e=fc i)(g:Nat)(b:Option a7)(c:Nat) :
 (l2 #[t,t] ty #[fR (fc ⟨g,0,fb⟩) 0 0,fR b 0 c]).run P q=lW (fR (fc ⟨g,0,fb⟩) 0 0) q:=by
 cases b with
 |none=>simp[l2,d9 a,ea,eb,hi,l3,l5,ec]
 |some d=>simp[l2,d9 a,ea,eb,hi,l3,l5,ec,loadCells,loadCellsFrom,lT]
def DQ(r:Option (List Int))(W:ag)(v:aP)(o:Bool):Prop:=match r with
 |some l=>o=aa/\bB W v l
 |none=>o=ac
def DQ.on{r:Option (List Int)}{W a:ag}{v:aP}{o:Bool}(h:DQ r W v o)(b:bL W a):DQ r a v o:=by
 cases r with
 |none=>exact h
 |some l=>exact⟨h.1,h.2.on b⟩
def DOP(r:Option (List Int))(w:ag)(e:eg)(w':ag):Prop:=∃v o,e=nb (fB #[v,f6 o])/\bL w w'/\DQ r w' v o
def amK{C:CD}(hc:C.cx=0)(hd:M.length=C.n5)(hb:∀i,i<M.length->bO (M.getD i 0) 0 12=aa):(C.j8 M).cx=0:=by
 refine amq.check (C:=C) ⟨rfl,rfl,rfl,rfl,rfl,rfl,rfl,λi=>⟨rfl,λj _=>rfl,rfl,rfl⟩,rfl,λi=>⟨rfl,rfl⟩⟩ (λi hi=>?_) (λi hi=>?_) hc
 .have:=Kq hc hi;have k:=acw hc hi;simp only[eK];simp;omega
 .have e:((C.j8 M).x5 i).2.2=M.getD i 0:=by
   simp only[et,cC (show i<M.length by omega),du]
  rw[e];exact hb i ab
def amL(a:Option a7)(b c:Nat):(J.aft M a b c).X0=sfC J M:=by
 have e:∀g k,nT (J.aft M a b c) g k=nT (J.j8 M) g k:=λg k=>by
  induction k with
  |zero=>rfl
  |succ k d=>simp only[nT,d];rfl
 have u:∀g,Nu (J.aft M a b c) g=Nu (J.j8 M) g:=λg=>funext λk=>by simp only[Nu,e];rfl
 have v:∀g,nU (J.aft M a b c) g=nU (J.j8 M) g:=λg=>by simp only[nU,mD,u];rfl
 have t:(J.aft M a b c).Cv=(J.j8 M).Cv:=rfl;simp only[sfC,CD.X0,qP,v,t];rfl
structure ac7(base:Nat)(n:Int)(xs:List Int)(Q:ag->aP->Bool->Prop)(b:Bool)(j:Nat)(vs:Nat->aP)(W:ag):Prop where
 c1:j=1->∃g,vs 1=fR (fc ⟨g,0,fb⟩) 0 0/\base<=g/\W.heap[g]?=fc (n6 #[] 3 (0,0))
 c3:j=3->(xs.length=0/\∃g,vs 3=fR (fc ⟨g,0,fb⟩) 0 0/\base<=g/\W.heap[g]?=fc (n6 #[] 3 (0,0)))\/(xs.length≠0/\eO 3 W base (vs 3) xs)
 c5:j=5->∃g,vs 5=fR (fc ⟨g,0,fb⟩) 1 1/\W.heap[g]?=fc (n6 #[fm gL n] 3 (0,0))
 c6:j=6->eO 3 W base (vs 6) (xs++[n])
 c10:j=10->∃v o,vs 10=fB #[v,f6 o]/\Q W v o
 c11:j=11->vs 11=vs 10/\∃v o,vs 11=fB #[v,f6 o]
 c12:j=12->∀v o,vs 11=fB #[v,f6 o]->vs 12=v
 c13:j=13->∀v o,vs 11=fB #[v,f6 o]->vs 13=f6 o
 c14:j=14->vs 14=vs 12
def ac7.le{base:Nat}{Q:ag->aP->Bool->Prop}(d:∀q c v o,bL q c->Q q v o->Q c v o){b:Bool}{c:ag}(h:ac7 base L M Q b C O q)(a:bL q c):ac7 base L M Q b C O c:=
 ⟨λe=>(h.c1 e).i λ_ k=>⟨k.1,k.2.1,(a.k _ (e7 k.2.2)).t k.2.2⟩,λe=>(h.c3 e).imp (fun⟨f,g,k⟩=>⟨f,g,k.1,k.2.1,(a.k _ (e7 k.2.2)).t k.2.2⟩) λk=>⟨k.1,k.2.on a⟩,λe=>(h.c5 e).i λ_ k=>⟨k.1,(a.k _ (e7 k.2)).t k.2⟩,λe=>(h.c6 e).on a,
  λe=>by obtain⟨v,o,i,l⟩:=h.c10 e;exact⟨v,o,i,d _ _ _ _ a l⟩,h.c11,h.c12,h.c13,h.c14⟩
def ac7.leW{base:Nat}{Q:ag->aP->Bool->Prop}{b:Bool}{m:ag}(d:M.length≠0)(h:ac7 base L M Q b C O q)(a:LeW base M.length L q m)(p:C≠10)(vs:C≠6)(b':Bool):ac7 base L M Q b' C O m:=by
 refine⟨λe=>?_,λe=>?_,λe=>?_,λe=>absurd e vs,λe=>absurd e p,h.c11,h.c12,h.c13,h.c14⟩
 .obtain⟨g,f,r,c⟩:=h.c1 e;obtain⟨o,k1,k2,_⟩:=a.k g _ c;exact⟨g,f,r,by rw[k1];congr;exact mi (by simpa using k2)⟩
 .rcases h.c3 e with⟨l,_⟩|⟨l,c⟩
  .exact absurd l d
  .exact nk ⟨l,c.le a (ni (dk _))⟩
 .obtain⟨g,f,c⟩:=h.c5 e;obtain⟨o,k1,k2,k3,_⟩:=a.k g _ c;have s:o=#[fm gL L]:=by
   refine eV λi=>?_;by_cases hi:i<M.length
   .exact k3 i hi
   .rw[hh (by simp at k2;omega),hh (by simp;omega)]
  exact⟨g,f,by rw[k1,s]⟩
def eDo(j:Nat):Bool:=j != 1&&j != 3&&j != 5&&j != 6&&j != 10&&j != 11&&j != 12&&j != 13&&j != 14
def abN{C:CD}(hc:C.cx=0):∀(k:Nat)(xs:List Int)(left:Nat)(v:aP)(w:ag),xs.length+k=C.n5->(∀i,i<xs.length->bO (xs.getD i 0) 0 12=aa)->left<=1000->C.At w->bB w v xs->
 aI PL 42 #[fJ C.val,v,fm gL left] w (DOP (N5 (sfC C) k xs left) w)
 |0,xs,left,v,w,hk,hx,hl,hA,hv=>by
  have hn:xs.length=C.n5:=ab;have HA:=gf hA;have HV:Hid (∀W,bL w W->bB W v xs):=gf λW a=>hv.on a;have N:Hid (KB C w (eu w (n6 C.val 27))):=gf ⟨au _ _,(gg _ _).a (dk _) _⟩;have AF:Hid (∀W,bL w W->aI PL 44 #[fJ C.val,v] W λe w'=>∃H I J,e=nb (fJ (C.aft xs H I J).val)/\(C.aft xs H I J).At w'/\bL W w'):=gf λW a=>alr C xs v W (HA.o.below a) (HV.o W a) hn;have hck:=amK hc hn hx;obtain⟨sf,T⟩:=bs (sfC C xs);have SF:Hid (∀W H I J,(C.aft xs H I J).At W->aI PL 36 #[fJ (C.aft xs H I J).val] W (aO (f6 sf) W)):=gf λW H I J hW=>by
   rw[T,<-amL H I J];exact adI (C.aft xs H I J) W hW hck
  have z:N5 (sfC C) 0 xs left=if left=0/\sf=aa then fc xs else fb:=by rw[T];rfl
  rw[z];obtain⟨R,E⟩:=bs (if left=0/\sf=aa then fc xs else fb);rw[<-E];have HR:=gf E;clear E;have U:=hv;obtain⟨b,c,rfl,_⟩:=U;rw[hn]at HV AF ⊢;clear z hv hA hck T hx hk;go_enter (fx ao iP),i7;obtain⟨f0,f1,f2,f3,f4,f5⟩:=bf N.o.box;by_cases hl0:left=0
  .subst hl0
   go_wp2_with (first
    |(go_at_call 44;(with_reducible refine(AF.o _ N.o.low).m ?_);rintro e w1⟨H,I,J,rfl,hD,a⟩;have V:=gf (N.o.on a);have HD:=gf hD;clear a hD f0 f1 f2 f3 f4 f5)
    |(go_at_call 36;(with_reducible refine(SF.o _ H I J HD.o).m ?_);rintro e w2⟨rfl,a⟩;have L2:=gf (f9 V.o.low a);clear a))
   refine a8 (v:=fB #[fR b C.n5 c,f6 sf]) (by simp[a9,i9,go_sem]) rfl ⟨_,sf,rfl,L2.o,?_⟩;rw[HR.o]
   cases sf with
   |true=>exact⟨rfl,HV.o _ L2.o⟩
   |false=>exact rfl
  .have zi:¬(left:Int)=0:=ab;go_wp2;refine a8 (v:=fB #[fR b C.n5 c,f6 ac]) (by simp[a9,i9,go_sem]) rfl ⟨_,ac,rfl,N.o.low,?_⟩;rw[HR.o,if_neg (λh=>hl0 h.1)];exact rfl
 |k+1,xs,left,v,w,hk,hx,hl,hA,hv=>by
  have HA:=gf hA;have HC:=gf hc;have HV:Hid (∀W,bL w W->bB W v xs):=gf λW a=>hv.on a;have N:Hid (KB C w (eu w (n6 C.val 27))):=gf ⟨au _ _,(gg _ _).a (dk _) _⟩;have h5:=j7 hc;have IH:Hid (∀(n:Nat)W u,n<=min left 12->bL w W->bB W u (xs++[(n:Int)])->aI PL 42 #[fJ C.val,u,fm gL ((left-n:Nat):Int)] W (DOP (N5 (sfC C) k (xs++[(n:Int)]) (left-n)) W)):=gf λn W u hn a hu=>by
   refine abN hc k (xs++[(n:Int)]) (left-n) u W (by simp;omega) (λi hi=>?_) ab (HA.o.below a) hu;rw[et];by_cases e:i<xs.length
   .rw[ej e,<-et];exact hx i e
   .have:i=xs.length:=by simp at hi;omega
    subst this;simp[bO];omega
  obtain⟨M,hM⟩:=bs (min left 12);have hMi:min (left:Int) 12=(M:Int):=ab;have awb:M<=12:=ab;have hMl:M<=left:=ab;obtain⟨f,hf⟩:=bs (λn:Nat=>N5 (sfC C) k (xs++[(n:Int)]) (left-n):Nat->Option (List Int));have z:N5 (sfC C) (k+1) xs left=b7 f (M+1) 0:=by rw[N5,hf,hM]
  rw[z];have IH2:Hid (∀(n:Nat)W u,n<=M->bL w W->bB W u (xs++[(n:Int)])->aI PL 42 #[fJ C.val,u,fm gL ((left-n:Nat):Int)] W (DOP (f n) W)):=gf λn W u hn a hu=>by
   rw[hf];exact IH.o n W u ab a hu
  have U:=hv;obtain⟨b,c,rfl,_⟩:=U;obtain⟨nx,qH⟩:=bs xs.length;have X:=gf qH;rw[<-qH]at HV ⊢;have bu:¬(nx:Int)=(C.n5:Int):=ab;have aDC:nx<=3:=ab;clear z hv hA hc hf hx hk IH hM qH;go_enter (fx ao iP),i7;obtain⟨f0,f1,f2,f3,f4,f5⟩:=bf N.o.box;go_wp2;clear bu f0 f1 f2 f3 f4 f5
  go_loopw [8,9,10] (λv8 v9 v10 wr=>∃n:Nat,n<=M+1/\v8=fm gL n/\b7 f (M+1) 0=b7 f (M+1-n) n/\KB C w wr) (λv8 _ _ _=>M+1-(intOf v8).toNat)
  case atStart=>exact⟨0,eF _,rfl,rfl,N.o⟩
  case round=>
   obtain⟨n,hn,rfl,hfs,hK⟩:=hrel;have V:=gf hK;have FS:=gf hfs;clear hK hfs N;by_cases aH:n<=M
   .have j1:(n:Int)<=(M:Int):=ab;have wn:gE gL ((left:Int)-(n:Int))=((left-n:Nat):Int):=by rw[g6 _ ab];omega
    have WN:=gf wn;clear wn
    go_upto_region 6 with fail
    have A:∀W r u o,bL W r->DQ (f n) W u o->DQ (f n) r u o:=λ_ _ _ _ a h=>h.on a;refine iL 15 6 (λ_ W=>bL wr W) (λW r=>bL W r) eDo (ac7 wr.heap.size (n:Int) xs (DQ (f n))) (λ_ _ _ _=>True) (λ_ _ _ _ _=>trivial) rfl ae ae rfl
     (λb j vs W r K h=>h.le A K) (λj o O vs eX W t hd b h=>⟨λe=>?_,λe=>?_,λe=>?_,λe=>?_,λe=>?_,λe=>?_,λe=>?_,λe=>?_,λe=>?_⟩) (gg _ _).d ?_
    .subst e;rw[<-t];exact h.c1 rfl
    .subst e;rw[<-t];exact h.c3 rfl
    .subst e;rw[<-t];exact h.c5 rfl
    .subst e;rw[<-t];exact h.c6 rfl
    .subst e;rw[<-t];exact h.c10 rfl
    .subst e;have Y:vs 10=eX 10:=by
      simp only[gw,fP,ft,kj]at O;subst O;exact hd ⟨10,oh⟩ (cH.2 ⟨ar,rfl⟩)
     rw[<-t,<-Y];exact h.c11 rfl
    .subst e;have Y:vs 11=eX 11:=by
      simp only[gw,fP,ft,kj]at O;subst O;exact hd ⟨11,oh⟩ (cH.2 ⟨ar,rfl⟩)
     rw[<-t,<-Y];exact h.c12 rfl
    .subst e;have Y:vs 11=eX 11:=by
      simp only[gw,fP,ft,kj]at O;subst O;exact hd ⟨11,oh⟩ (cH.2 ⟨ar,rfl⟩)
     rw[<-t,<-Y];exact h.c13 rfl
    .subst e;have Y:vs 12=eX 12:=by
      simp only[gw,fP,ft,kj]at O;subst O;exact hd ⟨12,oh⟩ (cH.2 ⟨ar,rfl⟩)
     rw[<-t,<-Y];exact h.c14 rfl
    apply iK
    case hE=>rfl
    case h=>
     intro vs W B d hd;obtain⟨f0,f1,f2,f3,f4,f5⟩:=bf (V.o.on d).box;go_simp
     first|exact⟨rfl,d,gg _ _⟩|exact⟨rfl,gg _ _⟩
    case hb=>exact E0
    apply ey
    case hE=>rfl
    case hb=>exact E0
    case h=>
     intro vs W D B _ d q x P hd _;go_simp;have a:=(gg W.heap.size W).a (dk _) (n6 #[] 3);exact⟨f9 d a,λj y t=>(hd j y t).le A a,⟨λ_=>⟨W.heap.size,by simp[upd],d.z,au W _⟩,br,br,br,br,br,br,br,br⟩⟩
    apply iK
    case hE=>rfl
    case h=>
     intro vs W B d hd;go_simp
     first|exact⟨rfl,d,gg _ _⟩|exact⟨rfl,gg _ _⟩
    case hb=>exact E0
    apply ey
    case hE=>rfl
    case hb=>exact E0
    case h=>
     intro vs W D B iC d q x P hd _;obtain⟨g,hg,ve,F⟩:=(hd 1 (q ⟨1,oh⟩ (cH.2 ⟨ar,rfl⟩)) rfl).c1 rfl;have Z:∃u r,(l2 #[28,28] 28 #[fR (fc ⟨g,0,fb⟩) 0 0,fR b nx c]).run PL W=lW u r/\bL W r/\((xs.length=0/\∃g,u=fR (fc ⟨g,0,fb⟩) 0 0/\wr.heap.size<=g/\r.heap[g]?=fc (n6 #[] 3 (0,0)))\/(xs.length≠0/\eO 3 r wr.heap.size u xs)):=by
      by_cases Q:xs.length=0
      .have e0:nx=0:=by rw[X.o];exact Q
       obtain⟨i0,hi,_⟩:=bq VG;refine⟨_,W,by rw[e0];exact acg 28 28 3 i0 VF hi g b c,gg _ _,ni ⟨Q,g,rfl,ve,F⟩⟩
      .obtain⟨u,r,z,a,L⟩:=ahy (W:=W) (g:=g) (c:=c) (ty:=28) F (HV.o W (V.o.on d).low) X.o ab;exact⟨u,r,z,a,nk ⟨Q,dJ L ve⟩⟩
     obtain⟨u,r,z,a,L⟩:=Z;unfold fC;rw[if_pos (by rfl)];unfold ch;simp only[cl,co,cq,iB,Sem.run_pure,lM,kv,hZ,kh];show qf PL _ (((l2 #[28,28] 28 #[vs 1,fR b nx c]).run PL W).andThen _);rw[hg,z];refine⟨by simpa using f9 d a,λj y t=>by simpa using(hd j y t).le A a,⟨br,λ_=>?_,br,br,br,br,br,br,br⟩,λ_ _ _=>trivial⟩;rw[show upd vs (0+1+1+1) u 3=u by simp[upd]];exact L
    apply iK
    case hE=>rfl
    case h=>
     intro vs W B d hd;go_simp
     first|exact⟨rfl,d,gg _ _⟩|exact⟨rfl,gg _ _⟩
    case hb=>exact E0
    apply ey
    case hE=>rfl
    case hb=>exact E0
    case h=>
     intro vs W D B _ d q x P hd _;go_simp;have a:=(gg W.heap.size W).a (dk _) (n6 #[fm gL n] 3);exact⟨f9 d a,λj y t=>(hd j y t).le A a,⟨br,br,λ_=>⟨W.heap.size,by simp[upd],au W _⟩,br,br,br,br,br,br⟩⟩
    apply ey
    case hE=>rfl
    case hb=>exact E0
    case h=>
     intro vs W D B iC d q x P hd _;have hO3:=(hd 3 (q ⟨3,oh⟩ (cH.2 ⟨ar,rfl⟩)) rfl).c3 rfl;obtain⟨g,hg,F⟩:=(hd 5 (q ⟨5,oh⟩ (cH.2 ⟨ar,rfl⟩)) rfl).c5 rfl;have tI:10∉D:=λh=>x (P 10 h _ rfl ⟨6,oh⟩ (cH.2 ⟨ar,rfl⟩));have bu:∀j∈D,j≠10/\j≠6:=λj y=>⟨λe=>tI (by subst e;exact y),λe=>x (by subst e;exact y)⟩
     have Z:∃u r,(l2 #[28,28] 28 #[vs 3,vs 5]).run PL W=lW u r/\bL wr r/\eO 3 r wr.heap.size u (xs++[(n:Int)])/\∀j∈D,eDo j=ac->∀b',ac7 wr.heap.size (n:Int) xs (DQ (f n)) b' j vs r:=by
      rcases hO3 with⟨Q,g3,e3,FJ,hc3⟩|⟨Q,hO3⟩
      .have ex:xs=[]:=nf.1 Q
       obtain⟨u,r,z,a,L⟩:=afK (W:=W) (g:=g3) (m:=1) (c:=1) (ty:=28) (ad:=⟨g,0,fb⟩) (news:=[fm gL n]) hc3 rfl (λj u e=>by
        match j,e with
        |0,e=>cases e;simp[eq,Addr.add,F]) (λu hu=>by
        obtain rfl:=jX.1 hu;rfl) ao
       refine⟨u,r,by rw[e3,hg];exact z,f9 d a,by rw[ex];exact dJ L FJ,λj y t b'=>?_⟩;have:=(hd j y t).le A a;exact⟨this.c1,this.c3,this.c5,this.c6,this.c10,this.c11,this.c12,this.c13,this.c14⟩
      .obtain⟨u,r,z,L,K⟩:=anH (p:=(n:Int)) hO3 rfl Q F (by have:=X.o;omega) d.z;exact⟨u,r,by rw[hg];exact z,d.t K.b,L,λj y t b'=>(hd j y t).leW Q K (bu j y).1 (bu j y).2 b'⟩
     obtain⟨u,r,z,a,L,hP⟩:=Z;unfold fC;rw[if_pos (by rfl)];unfold ch;simp only[cl,co,cq,iB,Sem.run_pure,lM,kv,hZ,kh];show qf PL _ (((l2 #[28,28] 28 #[vs 3,vs 5]).run PL W).andThen _);rw[z];exact⟨a,λj y t=>hP j y t _,⟨br,br,br,λ_=>by simpa[upd]using L,br,br,br,br,br⟩,λ_ _ _=>trivial⟩
    iterate 3 (
     apply iK
     case hE=>rfl
     case h=>
      intro vs W B d hd;have wn:=WN.o;go_simp
      first|exact⟨rfl,d,gg _ _⟩|exact⟨rfl,gg _ _⟩
     case hb=>exact E0)
    apply ey
    case hE=>rfl
    case hb=>exact E0
    case h=>
     intro vs W D B _ d q x P hd _;have h6:=(hd 6 (q ⟨6,oh⟩ (cH.2 ⟨ar,rfl⟩)) rfl).c6 rfl;go_simp
     go_at_call 42
     (with_reducible refine(IH2.o n W (vs 6) aH (V.o.on d).low h6.reads).m ?_)
     rintro e r⟨u,o,rfl,a,E⟩;exact⟨_,rfl,f9 d a,λj y t=>(hd j y t).le A a,⟨br,br,br,br,λ_=>⟨u,o,by simp[upd],E⟩,br,br,br,br⟩⟩
    apply ey
    case hE=>rfl
    case hb=>exact E0
    case h=>
     intro vs W D B _ d q x P hd _;obtain⟨u,o,h8,_⟩:=(hd 10 (q ⟨10,oh⟩ (cH.2 ⟨ar,rfl⟩)) rfl).c10 rfl;go_simp;exact⟨hd,⟨br,br,br,br,br,λ_=>⟨by simp[upd,h8],u,o,by simp[upd]⟩,br,br,br⟩⟩
    iterate 2 (
     apply ey
     case hE=>rfl
     case hb=>exact E0
     case h=>
      intro vs W D B _ d q x P hd _;obtain⟨_,u,o,S⟩:=(hd 11 (q ⟨11,oh⟩ (cH.2 ⟨ar,rfl⟩)) rfl).c11 rfl;rw[S];go_simp
      exact⟨hd,⟨br,br,br,br,br,br,λe=>by first|exact absurd e ao|(intro v2 m2 e2;simp[upd]at e2 ⊢;rw[S]at e2;cases e2;rfl),λe=>by first|exact absurd e ao|(intro v2 m2 e2;simp[upd]at e2 ⊢;rw[S]at e2;cases e2;rfl),br⟩⟩)
    apply ey
    case hE=>rfl
    case hb=>exact E0
    case h=>
     intro vs W D B _ d q x P hd _;go_simp;exact⟨hd,⟨br,br,br,br,br,br,br,br,λ_=>by simp[upd]⟩⟩
    refine nv λvs W B _ d hd _=>?_;obtain⟨u,o,h8,hR5⟩:=(hd 10 ab rfl).c10 rfl;have S:=((hd 11 ab rfl).c11 rfl).1;rw[h8]at S;have h12:=(hd 12 ab rfl).c12 rfl _ _ S;have h13:=(hd 13 ab rfl).c13 rfl _ _ S;have h14:=(hd 14 ab rfl).c14 rfl;rw[h14,h12,h13];have R5:=gf hR5;have K5:=gf (V.o.on d);clear h8 S h12 h13 h14 hR5 hd d A
    cases tK:f n with
    |some l=>
     have E:=R5.o;rw[tK]at E;obtain⟨rfl,hL⟩:=E;have HL:=gf hL;have LS:Hid (b7 f (M+1) 0=fc l):=gf (by rw[FS.o,H8 aH,tK]);clear hL tK;go_wp2;refine a8 (v:=fB #[u,f6 aa]) (by simp[a9,i9,go_sem]) rfl ⟨u,aa,rfl,K5.o.low,?_⟩
     first|exact⟨rfl,HL.out⟩|(rw[LS.o];exact⟨rfl,HL.o⟩)
    |none=>
     have E:=R5.o;rw[tK]at E;obtain rfl:o=ac:=E;have LS:Hid (b7 f (M+1) 0=b7 f (M+1-(n+1)) (n+1)):=gf (by rw[FS.o,H8 aH,tK]);clear tK;go_wp2;exact⟨⟨n+1,ab,by go_num,LS.o,K5.o⟩,by simp only[intOf];omega⟩
   .have bu:n=M+1:=ab;have j1:¬(n:Int)<=(M:Int):=ab;have LS:Hid (b7 f (M+1) 0=fb):=gf (by rw[FS.o,bu,eM];rfl);go_wp2;refine a8 (v:=fB #[fR fb 0 0,f6 ac]) (by simp[a9,i9,go_sem]) rfl ⟨_,ac,rfl,V.o.low,?_⟩
    first|exact rfl|(rw[LS.o];exact rfl)
def acj(C:CD):Option (List Int):=if C.cx=0 then C.dly else fb
def amM(C:CD):((acj C).getD []).length<=20:=by
 unfold acj;split
 .rename_i hc
  cases e:C.dly with
  |none=>exact eF _
  |some r=>
   obtain⟨t,rfl,a,_⟩:=amw e;have:=j7 hc;simp[abg];omega
 .exact eF _
def ab5(W:ag):bB W (fR fb 0 0) []:=⟨fb,0,rfl,br⟩
def amN(C:CD)(w:ag)(h:C.At w):aI PL 11 #[fJ C.val] w λe w'=>∃v,e=nb (fB #[v,f6 (acj C).isSome,fm gL C.cx])/\bB w' v ((acj C).getD [])/\bL w w':=by
 by_cases hc:C.cx=0
 .rw[acj,if_pos hc,hc];refine(acV C w h hc).m ?_;rintro e w'⟨g,j⟩
  cases k:C.dly with
  |none=>rw[k]at g;exact⟨_,g,ab5 _,j⟩
  |some r=>rw[k]at g;obtain⟨b,c,s,t⟩:=g;exact⟨_,s,t,j⟩
 .rw[acj,if_neg hc];have y:=gf h;have l:Hid (∀W,C.At W->aI PL 37 #[fJ C.val] W (aO (fm gL C.cx) W)):=gf λW z=>uC C W z;obtain⟨m,a⟩:=bs C.cx;rw[<-a]at hc l ⊢;have A:(m != 0)=aa:=by simpa using hc
  have i:Hid (KDl C.val w (eu (eu w (n6 C.val 27)) (n6 #[fR fb 0 0] 28))):=gf (by
   refine⟨(((gg (eu w _).heap.size _).a (dk _) _).k _ ar).t (au w _),?_,((gg _ _).a (dk _) _).a ar _⟩;have h:=au (eu w (n6 C.val 27)) (n6 #[fR fb 0 0] 28);rw[eD]at h
   exact h)
  clear h a hc;go_enter (fx ao Tryz.func11),Tryz.ntmps11
  go_upto_region 1 with fail
  obtain⟨n,o⟩:=bs (eu (eu w (n6 C.val 27)) (n6 #[fR fb 0 0] 28));rw[<-o]at i ⊢;clear o;obtain⟨B,D,E,F,f4,H⟩:=bf i.o.c
  go_upto_region 3 with(go_at_call 37;(with_reducible refine(l.o _ (y.o.below i.o.low)).m ?_);rintro e w1⟨rfl,q⟩;have f:=gf (i.o.on q);clear q B D E F f4 H)
  have K:eq w1 ⟨w.heap.size+1,0,fb⟩=fc (fR fb 0 0):=by simp[eq,f.o.d]
  have L:=tO f.o.d;have I:=e7 f.o.d;go_wp2;have hy:=yV (u:=fR fb 0 0) f.o.d;have M:=e7 hy;refine a8 (v:=fB #[fR fb 0 0,f6 ac,fm gL m]) ?_ rfl ⟨_,rfl,ab5 _,f.o.low.s (p:=⟨w.heap.size+1,0,fb⟩) (n1 _) _⟩;have J:eq (eA w1 ⟨w.heap.size+1,0,fb⟩ (fR fb 0 0)) ⟨w.heap.size+1,0,fb⟩=fc (fR fb 0 0):=by simp[eq,hy]
  simp[a9,Tryz.results11,go_sem,J]
def alA(C:CD)(w:ag)(h:C.At w):aI PL 12 #[fJ C.val] w λe w'=>∃v,e=nb (fB #[v,f6 (acj C).isSome,fm gL C.cx])/\bB w' v ((acj C).getD [])/\bL w w':=by
 have z:=gf h;have c:Hid (KB C w (eu w (n6 C.val 27))):=gf ⟨au _ _,(gg _ _).a (dk _) _⟩;have RC:Hid (∀W,C.At W->aI PL 33 #[fJ C.val] W (aO (fm gL C.cx) W)):=gf λW r=>rK C W r;by_cases hc:C.cx=0
 .rw[acj,if_pos hc,hc];rw[hc]at RC;have V:=j7 hc;obtain⟨f,hf⟩:=bs (λs=>N5 (sfC C) C.n5 [] s:Nat->Option (List Int));have DO:Hid (∀(n:Nat)W,n<=12*C.n5->C.At W->aI PL 42 #[fJ C.val,fR fb 0 0,fm gL (n:Nat)] W (DOP (f n) W)):=gf λn W O r=>by
   rw[hf];exact abN hc C.n5 [] n _ W ar (λi hi=>by simp at hi) ab r (ab5 W)
  have H:C.dly=b7 f (12*C.n5+1) 0:=by rw[hf];rfl
  rw[H];obtain⟨R,B⟩:=bs (b7 f (12*C.n5+1) 0);rw[<-B];have I:=gf B;obtain⟨M,J⟩:=bs (12*C.n5);have P:(12:Int)*(C.n5:Int)=(M:Int):=ab;have X:gE gL ((12:Int)*(C.n5:Int))=(M:Int):=by rw[g6 _ ab];omega
  rw[<-J]at I DO;clear h hc hf H J B;go_enter (fx ao jf),jk;obtain⟨d,g,j,k,f4,m⟩:=bf c.o.box
  go_wp2_with (go_at_call 33;(with_reducible refine(RC.o _ (z.o.below c.o.low)).m ?_);rintro e w1⟨rfl,a⟩;have A:=gf (c.o.on a);clear a d g j k f4 m)
  go_loopw [6,7,8] (λv6 v7 Y wr=>∃n:Nat,n<=M+1/\v6=fm gL n/\R=b7 f (M+1-n) n/\KB C w wr) (λv6 _ _ _=>M+1-(intOf v6).toNat)
  case atStart=>exact⟨0,eF _,rfl,I.o,A.o⟩
  case round=>
   obtain⟨n,O,rfl,t,K⟩:=hrel;have p:=gf K;have D:=gf t;clear K t A;obtain⟨d,g,j,k,f4,m⟩:=bf p.o.box;by_cases E:n<=M
   .have Q:(n:Int)<=(M:Int):=ab;have DN:=gf λW(r:C.At W)=>DO.o n W E r
    cases q:f n with
    |some l=>
     have b:Hid (R=fc l):=gf (by rw[D.o,H8 E,q]);rw[q]at DN;clear q
     go_wp2_with (go_at_call 42;(with_reducible refine(DN.o _ (z.o.below p.o.low)).m ?_);rintro e w2⟨u,o,rfl,a,rfl,L⟩;have F:=gf (p.o.on a);have S:=gf L;clear a L d g j k f4 m)
     refine a8 (v:=fB #[u,f6 aa,fm gL 0]) (by simp[a9,jn,go_sem]) rfl ⟨u,by rw[b.o];rfl,by rw[b.o];exact S.o,F.o.low⟩
    |none=>
     have b:Hid (R=b7 f (M+1-(n+1)) (n+1)):=gf (by rw[D.o,H8 E,q]);rw[q]at DN;clear q
     go_wp2_with (go_at_call 42;(with_reducible refine(DN.o _ (z.o.below p.o.low)).m ?_);rintro e w2⟨u,o,rfl,a,rfl⟩;have F:=gf (p.o.on a);clear a d g j k f4 m)
     exact⟨⟨n+1,ab,by go_num,b.o,F.o⟩,by simp only[intOf];omega⟩
   .have T:n=M+1:=ab;have Q:¬(n:Int)<=(M:Int):=ab;have b:Hid (R=fb):=gf (by rw[D.o,T,eM];rfl);go_wp2;refine a8 (v:=fB #[fR fb 0 0,f6 ac,fm gL 0]) (by simp[a9,jn,go_sem]) rfl ⟨_,by rw[b.o];rfl,by rw[b.o];exact ab5 _,p.o.low⟩
 .rw[acj,if_neg hc];obtain⟨N,y⟩:=bs C.cx;rw[<-y]at hc RC ⊢;have U:(N != 0)=aa:=by simpa using hc
  clear h y hc;go_enter (fx ao jf),jk;obtain⟨d,g,j,k,f4,m⟩:=bf c.o.box
  go_wp2_with (go_at_call 33;(with_reducible refine(RC.o _ (z.o.below c.o.low)).m ?_);rintro e w1⟨rfl,a⟩;have A:=gf (c.o.on a);clear a d g j k f4 m)
  refine a8 (v:=fB #[fR fb 0 0,f6 ac,fm gL N]) (by simp[a9,jn,go_sem]) rfl ⟨_,rfl,ab5 _,A.o.low⟩
def apq:PL.stoodInHeld 93=ac:=ae
def anL:PL.eqGuardType PL.depth 93=ac:=ae
def apr:PL.stoodInHeld 51=ac:=ae
def anM:PL.eqGuardType PL.depth 51=ac:=ae
def agt(m o:Option a7)(n ca z a oa c e:Nat)(x:Nat->Int×Int)(w:ag)(g:0<n->m=fc ⟨a,oa,fb⟩/\a<w.heap.size)(h:0<n->o=fc ⟨c,e,fb⟩/\c<w.heap.size)
 (j:∀i,i<n->eq w ⟨a,oa+i*2,fb⟩=fc (fm gL (x i).1)/\eq w ⟨a,oa+i*2+1,fb⟩=fc (fm gL (x i).2)) (l:∀i,i<n->eq w ⟨c,e+i*2,fb⟩=fc (fm gL (x i).1)/\eq w ⟨c,e+i*2+1,fb⟩=fc (fm gL (x i).2)) (C:n<=20) :
 aI PL 45 #[fR m n ca,fR o n z] w (aO (f6 aa) w):=by
 have q3:=yM;have q4:=Co
 rcases cd n with rfl|r
 .clear g h j l C;go_enter (fx ao jp),jr;go_wp2
  go_loop [5] (λv=>v=fm gL 0) (λ_=>0)
  case atStart=>rfl
  case round=>
   subst hrel;go_wp2;go_ret;exact⟨rfl,gg _ _⟩
 .obtain⟨rfl,u⟩:=g r;obtain⟨rfl,y⟩:=h r;have A:=gf j;have B:=gf l;clear j l g h;go_enter (fx ao jp),jr;go_wp2
  go_loopw [5] (λv wr=>∃q:Nat,q<=n/\v=fm gL q/\bL w wr) (λv _=>n-(intOf v).toNat)
  case atStart=>exact⟨0,eF _,rfl,gg _ _⟩
  case round=>
   obtain⟨q,D,rfl,d⟩:=hrel;by_cases f:q<n
   .have E:(q:Int)<n:=ab;have a0:=(d.c (p:=⟨a,oa+q*2,fb⟩) u).t (A.o q f).1;have a1:=(d.c (p:=⟨a,oa+q*2+1,fb⟩) u).t (A.o q f).2;have b0:=(d.c (p:=⟨c,e+q*2,fb⟩) y).t (B.o q f).1;have F:=(d.c (p:=⟨c,e+q*2+1,fb⟩) y).t (B.o q f).2;go_wp2
    go_quiet (fail)
    go_wp2;refine⟨⟨q+1,f,by go_num,below_drewN d _⟩,by simp only[intOf];omega⟩
   .obtain rfl:q=n:=ab;go_wp2;go_ret;exact⟨rfl,d⟩
abbrev agu(nm:ByteArray)(n:Nat->Int)(s:aP):Array aP:=#[f7 nm,fm gL (n 1),fm gL (n 2),fm gL (n 3),fm gL (n 4),fm gL (n 5),fm gL (n 6),fm gL (n 7),fm gL (n 8),fm gL (n 9),fm gL (n 10),s]
abbrev adS(W:ag)(k:Nat)(nm:ByteArray)(n:Nat->Int)(s:aP):ag:=eA (eA (eA (eA (eA (eA (eA (eA (eA (eA (eA (eA W ⟨k,0,fb⟩ (f7 nm)) ⟨k,1,fb⟩ (fm gL (n 1))) ⟨k,2,fb⟩ (fm gL (n 2))) ⟨k,3,fb⟩ (fm gL (n 3))) ⟨k,4,fb⟩ (fm gL (n 4))) ⟨k,5,fb⟩ (fm gL (n 5))) ⟨k,6,fb⟩ (fm gL (n 6))) ⟨k,7,fb⟩ (fm gL (n 7))) ⟨k,8,fb⟩ (fm gL (n 8))) ⟨k,9,fb⟩ (fm gL (n 9))) ⟨k,10,fb⟩ (fm gL (n 10))) ⟨k,11,fb⟩ s
abbrev alB(W:ag)(k o:Nat)(nm:ByteArray)(n:Nat->Int)(s:aP):Prop:=eq W ⟨k,o,fb⟩=fc (f7 nm)/\eq W ⟨k,o+1,fb⟩=fc (fm gL (n 1))/\eq W ⟨k,o+2,fb⟩=fc (fm gL (n 2))/\eq W ⟨k,o+3,fb⟩=fc (fm gL (n 3))/\eq W ⟨k,o+4,fb⟩=fc (fm gL (n 4))/\eq W ⟨k,o+5,fb⟩=fc (fm gL (n 5))/\eq W ⟨k,o+6,fb⟩=fc (fm gL (n 6))/\eq W ⟨k,o+7,fb⟩=fc (fm gL (n 7))/\eq W ⟨k,o+8,fb⟩=fc (fm gL (n 8))/\eq W ⟨k,o+9,fb⟩=fc (fm gL (n 9))/\eq W ⟨k,o+10,fb⟩=fc (fm gL (n 10))/\eq W ⟨k,o+11,fb⟩=fc s
section
variable {W:ag}{k b:Nat}{nm nm':ByteArray}{n n':Nat->Int}{s s':aP}{t:aT}
def aen(h:W.heap[k]?=fc (n6 (agu nm' n' s') t)):(adS W k nm n s).heap[k]?=fc (n6 (agu nm n s) t):=
 (Fe (Fe (Fe (Fe (Fe (Fe (Fe (Fe (Fe (Fe (Fe (Fe h)))))))))))).t ar
def abO(hb:b≠k):(adS W k nm n s).heap[b]?=W.heap[b]?:=by
 simp only[adS,aZ (gr hb)]
def Below.aen(h:Below C q W)(c:C<=k):Below C q (adS W k nm n s):=by
 iterate 12 refine Below.setCell ?_ c _
 exact h
def agv(h:W.heap[k]?=fc (n6 (agu nm n s) t)):eq W ⟨k,0,fb⟩=fc (f7 nm)/\eq W ⟨k,1,fb⟩=fc (fm gL (n 1))/\eq W ⟨k,2,fb⟩=fc (fm gL (n 2))/\eq W ⟨k,3,fb⟩=fc (fm gL (n 3))/\eq W ⟨k,4,fb⟩=fc (fm gL (n 4))/\eq W ⟨k,5,fb⟩=fc (fm gL (n 5))/\eq W ⟨k,6,fb⟩=fc (fm gL (n 6))/\eq W ⟨k,7,fb⟩=fc (fm gL (n 7))/\eq W ⟨k,8,fb⟩=fc (fm gL (n 8))/\eq W ⟨k,9,fb⟩=fc (fm gL (n 9))/\eq W ⟨k,10,fb⟩=fc (fm gL (n 10))/\eq W ⟨k,11,fb⟩=fc s:=by
 simp[eq,h]
def CD.At.alB{C:CD}{i:Nat}(a:C.At W)(h:i<C.n4)(c:(C.x4 i).name=nm)(e:∀j,1<=j->j<=10->(C.x4 i).n j=n j)(es:Value.slice (C.x4 i).lb (C.x4 i).ln (C.x4 i).lc=s):alB W C.k4 (C.o4+i*12) nm n s:=by
 subst c es;have g:∀j,1<=j->j<=10->eq W ⟨C.k4,C.o4+i*12+j,fb⟩=fc (fm gL (n j)):=λj x y=>e j x y▸a.dB i h j x y;exact⟨a.AD i h,g 1 ao ao,g 2 ao ao,g 3 ao ao,g 4 ao ao,g 5 ao ao,g 6 ao ao,g 7 ao ao,g 8 ao ao,g 9 ao ao,g 10 ao ao,a.nj i h⟩
end
abbrev z73:Array aP:=agu mS (λ_=>0) (fR fb 0 0)
structure aeo(n0:Nat)(P:Array aP)(j:Nat)(vs:Nat->aP)(W:ag):Prop where
 c10:j=10->∃k,vs 10=f8 (fc ⟨k,0,fb⟩)/\n0<=k/\k<W.heap.size/\∃nm n s,W.heap[k]?=fc (n6 (agu nm n s) 49)
 c11:j=11->∃k,vs 11=f8 (fc ⟨k,0,fb⟩)/\n0<=k/\k<W.heap.size/\W.heap[k]?=fc (n6 z73 49)
 c12:j=12->∃k,vs 10=f8 (fc ⟨k,0,fb⟩)/\W.heap[k]?=fc (n6 P 49)
def ePg(t:Nat):Bool:=t != 10&&t != 11&&t != 12
def as4(i j:Nat)(u v:aP):Prop:=(i=10/\j=11\/i=11/\j=10)->u≠v
def aeo.le{j:Nat}{g:ag}(h:aeo C R j O q)(f:bL q g):aeo C R j O g:=
 ⟨λe=>(h.c10 e).i λ_⟨a,b,c,nm,n,s,d⟩=>⟨a,b,bT c f.z,nm,n,s,(f.k _ c).t d⟩,λe=>(h.c11 e).i λ_⟨a,b,c,d⟩=>⟨a,b,bT c f.z,(f.k _ c).t d⟩,λe=>(h.c12 e).i λ_⟨a,d⟩=>⟨a,(f.k _ (e7 d)).t d⟩⟩
def alC{D:List Nat}{i:Nat}(g:C<=q.heap.size)(hi:i=10\/i=11)(hd:∀j∈D,ePg j=ac->aeo C R j O q) :
 (∀j∈D,ePg j=ac->aeo C R j O (eu q (n6 z73 49)))/\aeo C R i (upd O i (f8 (fc ⟨q.heap.size,0,fb⟩))) (eu q (n6 z73 49))/\∀j∈D,ePg j=ac->as4 j i (O j) (f8 (fc ⟨q.heap.size,0,fb⟩)):=by
 have h:=(gg q.heap.size q).a (dk _) (n6 z73 49);refine⟨λj d f=>(hd j d f).le h,⟨λe=>⟨q.heap.size,by simp[upd,e],g,ar,_,_,_,au _ _⟩,λe=>⟨q.heap.size,by simp[upd,e],g,ar,au _ _⟩,λe=>ab⟩,λj d f e1 e=>?_⟩;obtain⟨n0,a,c⟩:∃n0,O j=f8 (fc ⟨n0,0,fb⟩)/\n0<q.heap.size:=by
  rcases e1 with⟨rfl,_⟩|⟨rfl,_⟩
  .obtain⟨n0,a,_,c,_⟩:=(hd _ d f).c10 rfl;exact⟨n0,a,c⟩
  .obtain⟨n0,a,_,c,_⟩:=(hd _ d f).c11 rfl;exact⟨n0,a,c⟩
 rw[a]at e;cases e;exact dt _ c
structure abc(A B:CD):Prop where
 l:B.l=A.l
 p:B.p=A.p
 n2:B.n2=A.n2
 x2:∀i,i<A.n2->B.x2 i=A.x2 i
 n3:B.n3=A.n3
 x3:∀i,i<A.n3->B.x3 i=A.x3 i
 n4:B.n4=A.n4
 x4:∀i,i<A.n4->(B.x4 i).name=(A.x4 i).name/\(∀j,1<=j->j<=10->(B.x4 i).n j=(A.x4 i).n j)/\(B.x4 i).ln=(A.x4 i).ln/\∀j,j<(A.x4 i).ln->(B.x4 i).lane j=(A.x4 i).lane j
 n5:B.n5=A.n5
 x5:∀i,i<A.n5->B.x5 i=A.x5 i
structure KSm(A B:CD)(w W:ag):Prop where
 a:W.heap[w.heap.size]?=fc (n6 A.val 27)
 b:W.heap[w.heap.size+1]?=fc (n6 B.val 27)
 low:bL w W
def KSm.on{A:CD}{W d:ag}(h:KSm A J q W)(c:bL W d):KSm A J q d:=
 ⟨(c.k _ (e7 h.a)).t h.a,(c.k _ (e7 h.b)).t h.b,f9 h.low c⟩
def KSm.start(A B:CD)(w:ag):KSm A B w (eu (eu w (n6 A.val 27)) (n6 B.val 27)):=by
 refine⟨?_,?_,((gg _ _).a (dk _) _).a ar _⟩
 .exact(((gg (eu w (n6 A.val 27)).heap.size _).a (dk _) _).k _ ar).t (au w _)
 .have a:=au (eu w (n6 A.val 27)) (n6 B.val 27);rwa[eD]at a
def amO(A B:CD)(w:ag)(hA:A.At w)(K:B.At w)(h:abc A B):aI PL 16 #[fJ A.val,fJ B.val] w (aO (f6 aa) w):=by
 have HA:Hid (∀W,bL w W->A.At W):=gf λW h=>hA.below h;have HB:Hid (∀W,bL w W->B.At W):=gf λW h=>K.below h;have SD:=gf h;have m2:=hA.m2;have SS:Hid (∀W,bL w W->aI PL 45 #[fR A.b2 A.n2 A.c2,fR B.b2 A.n2 B.c2] W (aO (f6 aa) W)):=gf λW L=>by
  have a:=hA.below L;have b:=K.below L;have e2:=h.n2;exact agt A.b2 B.b2 A.n2 A.c2 B.c2 A.k2 A.o2 B.k2 B.o2 A.x2 W (λM=>⟨a.s2 M,a.h2⟩) (λM=>⟨b.s2 ab,b.h2⟩) (λi hi=>⟨a.Ep i hi,a.Er i hi⟩) (λi hi=>by rw[<-h.x2 i hi];exact⟨b.Ep i ab,b.Er i ab⟩) m2
 have el:=h.l;have ep:=h.p;have e2:=h.n2;have e3:=h.n3;have e4:=h.n4;have e5:=h.n5;have K0:=gf (KSm.start A B w);have q1:=apq;have q2:=anL;have q3:=apr;have q4:=anM;have q5:=yM;have q6:=Co;have m3:=hA.m3;have m4:=hA.m4;have m5:=hA.m5;clear h hA K m2;go_enter (fx ao Tryz.func16),Tryz.ntmps16
 go_upto_region 1 with fail
 obtain⟨W0,kS⟩:=bs (eu (eu w (n6 A.val 27)) (n6 B.val 27));rw[<-kS]at K0;rw[<-kS];clear kS;obtain⟨H,I,J,C,f4,E⟩:=bf K0.o.a;obtain⟨q,r,u,d,f,g⟩:=bf K0.o.b;rw[el]at q;rw[ep]at r;rw[e2]at u;rw[e3]at d;rw[e4]at f;rw[e5]at g
 go_upto_region 3 with(go_at_call 45;(with_reducible refine(SS.o _ K0.o.low).m ?_);rintro e w1⟨rfl,K⟩;have K1:=gf (K0.o.on K);clear K H I J C f4 E q r u d f g;obtain⟨H,I,J,C,f4,E⟩:=bf K1.o.a;obtain⟨q,r,u,d,f,g⟩:=bf K1.o.b;rw[el]at q;rw[ep]at r;rw[e2]at u;rw[e3]at d;rw[e4]at f;rw[e5]at g)
 go_wp2;clear H I J C f4 E q r u d f g
 go_loopw [5] (λv5 wr=>∃i:Nat,i<=A.n3/\v5=fm gL i/\KSm A B w wr) (λv5 _=>A.n3-(intOf v5).toNat)
 case atStart=>exact⟨0,eF _,rfl,K1.o⟩
 case round=>
  obtain⟨i,hi,rfl,R⟩:=hrel;have X:=gf R;clear R K1;obtain⟨H,I,J,C,f4,E⟩:=bf X.o.a;obtain⟨q,r,u,d,f,g⟩:=bf X.o.b;rw[e3]at d;rw[e4]at f;rw[e5]at g;by_cases c:i<A.n3
  .have i1:(i:Int)<A.n3:=ab;have a:=HA.o _ X.o.low;have b:=HB.o _ X.o.low;have sa:=a.s3 ab;have sb:=b.s3 ab;rw[sa]at C;rw[sb]at d;have a0:=a.Es i c;have a1:=a.Et i c;have a2:=a.Eu i c;have b0:=b.Es i ab;have b1:=b.Et i ab;have b2:=b.Eu i ab;rw[SD.o.x3 i c]at b0 b1 b2;clear a b sa sb;go_wp2
   go_quiet (fail)
   go_wp2;exact⟨⟨i+1,c,by go_num,X.o.on (below_drewN (gg _ _) _)⟩,by simp only[intOf];omega⟩
  .obtain rfl:i=A.n3:=ab;go_wp2;clear H I J C f4 E q r u d f g
   go_loopw [6] (λv6 wr=>∃i:Nat,i<=A.n4/\v6=fm gL i/\KSm A B w wr) (λv6 _=>A.n4-(intOf v6).toNat)
   case atStart=>exact⟨0,eF _,rfl,X.o⟩
   case round=>
    obtain⟨i,hi,rfl,R⟩:=hrel;have Y:=gf R;clear R X;obtain⟨H,I,J,C,f4,E⟩:=bf Y.o.a;obtain⟨q,r,u,d,f,g⟩:=bf Y.o.b;rw[e3]at d;rw[e4]at f;rw[e5]at g;by_cases c:i<A.n4
    .have i1:(i:Int)<A.n4:=ab;obtain⟨s1,s2,s3,s4⟩:=SD.o.x4 i c;have LN:Hid (∀W,bL w W->aI PL 13 #[fR (A.x4 i).lb (A.x4 i).ln (A.x4 i).lc,fR (B.x4 i).lb (A.x4 i).ln (B.x4 i).lc] W (aO (f6 aa) W)):=gf λW L=>by
      have a:=HA.o W L;have b:=HB.o W L;refine pI _ _ (A.x4 i).ln (A.x4 i).lane W ⟨_,_,rfl,λM=>?_⟩ ⟨_,_,rfl,λM=>?_⟩ (a.cu i c).2
      .obtain⟨h1,h2⟩:=a.l4 i c M;exact⟨_,_,h1,h2,λj hj=>a.J5 i c j ab⟩
      .obtain⟨h1,h2⟩:=b.l4 i ab ab;exact⟨_,_,h1,h2,λj hj=>by show eq W _=fc (fm gL ((A.x4 i).lane j));rw[<-s4 j ab];exact b.J5 i ab j ab⟩
     obtain⟨n,M⟩:=bs ((A.x4 i).n);obtain⟨nm,uB⟩:=bs ((A.x4 i).name);obtain⟨S,m⟩:=bs ((A.x4 i).lb);obtain⟨F,N⟩:=bs ((A.x4 i).ln);obtain⟨T,Z⟩:=bs ((A.x4 i).lc);obtain⟨lb,U⟩:=bs ((B.x4 i).lb);obtain⟨cb,hcb⟩:=bs ((B.x4 i).lc);have TA:Hid (∀W,bL w W->alB W A.k4 (A.o4+i*12) nm n (fR S F T)):=gf λW L=>(HA.o W L).alB c uB.y (λ_ _ _=>by rw[M]) (by rw[m,N,Z]);have TB:Hid (∀W,bL w W->alB W B.k4 (B.o4+i*12) nm n (fR lb F cb)):=gf λW L=>(HB.o W L).alB ab (s1.t uB.y) (λj x y=>(s2 j x y).t (by rw[M])) (by rw[s3,N,U,hcb]);rw[<-m,<-N,<-Z,<-U,<-hcb]at LN;have SA:=gf ((HA.o w (gg _ _)).s4 ab);have SB:=gf ((HB.o w (gg _ _)).s4 ab);clear uB m N Z U hcb M s1 s2 s3 s4
     go_upto_region 11 with fail
     clear H I J C f4 E q r u d f g;refine iL 13 10 (λ_ W=>bL wr W) (λW W'=>bL W W') ePg (λ_=>aeo wr.heap.size (agu nm n (fR S F T))) as4 (λ_ _ _ _ h e=>(h (e.symm.imp hH hH)).symm) rfl ae ae rfl
      (λ_ i vs W W' hle h=>h.le hle) (λj o ho vs eX W he aaZ _ h=>⟨λe=>by subst e;rw[<-he];exact h.c10 rfl,λe=>by subst e;rw[<-he];exact h.c11 rfl,λe=>?_⟩) (gg _ _).d ?_
     .subst e;have e10:vs 10=eX 10:=by
       simp only[gw,fP,ft,kj]at ho;subst ho;exact aaZ ⟨10,oh⟩ (cH.2 ⟨ar,rfl⟩)
      rw[<-e10];exact h.c12 rfl
     iterate 10 (
      apply iK
      case hE=>rfl
      case h=>
       intro vs W _ v hd;have KK:=Y.o.on v;obtain⟨H,I,J,C,f4,E⟩:=bf KK.a;obtain⟨q,r,u,d,f,g⟩:=bf KK.b;rw[SA.o]at f4;rw[e4,SB.o]at f;obtain⟨t0,t1,t2,t3,t4,t5,t6,t7,t8,t9,t10,t11⟩:=TA.o W KK.low;obtain⟨r0,r1,r2,r3,r4,r5,r6,r7,r8,r9,TP,O⟩:=TB.o W KK.low;clear KK;go_simp
       first
        |exact⟨rfl,v,gg _ _⟩
        |exact⟨rfl,gg _ _⟩
      case hb=>exact E0)
     iterate 2 (
      apply ey
      case hE=>rfl
      case hb=>exact E0
      case h=>
       intro vs W D _ _ v _ hi _ hd hP;go_simp
       exact⟨v.a v.z _,alC v.z ar hd⟩)
     apply ey
     case hE=>rfl
     case hb=>exact E0
     case h=>
      intro vs W D _ _ v jw hi _ hd hP;have m10:10∈D:=jw ⟨10,oh⟩ (cH.2 ⟨ar,rfl⟩);have m11:11∈D:=jw ⟨11,.phase⟩ (cH.2 ⟨ar,rfl⟩);obtain⟨z,Du,m,alY,nm',n',s',RI⟩:=(hd 10 m10 rfl).c10 rfl;obtain⟨kb,NZ,U,ab0,V⟩:=(hd 11 m11 rfl).c11 rfl;have bu:kb≠z:=λe=>hP 10 m10 11 m11 ao rfl rfl (ni ⟨rfl,rfl⟩) (by rw[Du,NZ,e]);have fz:=tO RI;rw[Du];obtain⟨t0,t1,t2,t3,t4,t5,t6,t7,t8,t9,t10,t11⟩:=agv RI;have SB1:Hid (bL wr (adS W z nm n (fR S F T))):=gf (Below.aen v m);have SZ1:Hid ((adS W z nm n (fR S F T)).heap.size=W.heap.size):=gf (by simp only[adS,lj]);have SG1:Hid ((adS W z nm n (fR S F T)).heap[z]?=fc (n6 (agu nm n (fR S F T)) 49)):=gf (aen RI);have SO1:Hid ((adS W z nm n (fR S F T)).heap[kb]?=fc (n6 z73 49)):=gf ((abO bu).t V);have HKA:=gf Du;have HKB:=gf NZ;have HLA:=gf m;have P:=gf U;clear hd hP v V;go_simp;refine⟨SB1.o,λj hj hE=>?_,⟨br,br,λ_=>⟨z,by simp[upd,HKA.o],SG1.o⟩⟩,λj _ _ e=>ab⟩;exact⟨λe=>⟨z,HKA.o,HLA.o,by rw[SZ1.o];exact alY,_,_,_,SG1.o⟩,λe=>⟨kb,HKB.o,P.o,by rw[SZ1.o];exact ab0,SO1.o⟩,λe=>⟨z,HKA.o,SG1.o⟩⟩
     refine nv λvs W _ _ v hd hX=>?_;obtain⟨z,Du,RI⟩:=(hd 12 ab rfl).c12 rfl;obtain⟨kb,NZ,U,ab0,V⟩:=(hd 11 ab rfl).c11 rfl;have NE:Hid (z≠kb):=gf λe=>hX 10 11 ab ab ab rfl rfl (ni ⟨rfl,rfl⟩) (by rw[Du,NZ,e]);have HBA:=gf RI;have wC:=gf V;have HC:=gf v;have P:=gf U;rw[Du,NZ];obtain⟨r0,r1,r2,r3,r4,r5,r6,r7,r8,r9,TP,O⟩:=agv V;have fzb:=tO V;have lzb:=e7 V;clear RI V v hd hX Du NZ U ab0
     go_upto_region 12 with fail
     obtain⟨W2,vp⟩:=bs (adS W kb nm n (fR lb F cb));have BA:Hid (W2.heap[z]?=fc (n6 (agu nm n (fR S F T)) 49)):=gf (by rw[vp];exact(abO NE.o).t HBA.o);have BB:Hid (W2.heap[kb]?=fc (n6 (agu nm n (fR lb F cb)) 49)):=gf (by rw[vp];exact aen wC.o);have Q:Hid (KSm A B w W2):=gf (Y.o.on (by rw[vp];exact Below.aen HC.o P.o));dsimp only[adS]at vp;rw[<-vp];clear vp r0 r1 r2 r3 r4 r5 r6 r7 r8 r9 TP O fzb lzb HBA wC HC P NE Y;obtain⟨t0,t1,t2,t3,t4,t5,t6,t7,t8,t9,t10,t11⟩:=agv BA.o;obtain⟨r0,r1,r2,r3,r4,r5,r6,r7,r8,r9,TP,O⟩:=agv BB.o;have XF:=e7 BA.o;have XH:=e7 BB.o
     go_wp2_with (go_at_call 13;(with_reducible refine(LN.o _ Q.o.low).m ?_);rintro e w1⟨rfl,K⟩;have K5:=gf (Q.o.on K);clear K t0 t1 t2 t3 t4 t5 t6 t7 t8 t9 t10 t11 r0 r1 r2 r3 r4 r5 r6 r7 r8 r9 TP O XF XH)
     exact⟨⟨i+1,c,by go_num,K5.o⟩,by simp only[intOf];omega⟩
    .obtain rfl:i=A.n4:=ab;go_wp2;clear H I J C f4 E q r u d f g
     go_loopw [9] (λv9 wr=>∃i:Nat,i<=A.n5/\v9=fm gL i/\KSm A B w wr) (λv9 _=>A.n5-(intOf v9).toNat)
     case atStart=>exact⟨0,eF _,rfl,Y.o⟩
     case round=>
      obtain⟨i,hi,rfl,R⟩:=hrel;have Q:=gf R;clear R Y;obtain⟨H,I,J,C,f4,E⟩:=bf Q.o.a;obtain⟨q,r,u,d,f,g⟩:=bf Q.o.b;rw[e3]at d;rw[e4]at f;rw[e5]at g;by_cases c:i<A.n5
      .have i1:(i:Int)<A.n5:=ab;have a:=HA.o _ Q.o.low;have b:=HB.o _ Q.o.low;have sa:=a.s5 ab;have sb:=b.s5 ab;rw[sa]at E;rw[sb]at g;have a0:=a.FI i c;have a1:=a.HU i c;have a2:=a.J6 i c;have b0:=b.FI i ab;have b1:=b.HU i ab;have b2:=b.J6 i ab;rw[SD.o.x5 i c]at b0 b1 b2;clear a b sa sb;go_wp2
       go_quiet (fail)
       go_wp2;exact⟨⟨i+1,c,by go_num,Q.o.on (below_drewN (gg _ _) _)⟩,by simp only[intOf];omega⟩
      .obtain rfl:i=A.n5:=ab;go_wp2;go_ret;exact⟨rfl,Q.o.low⟩
def CD.zer:CD:=⟨0,0,fb,0,0,0,0,λ_=>(0,0),fb,0,0,0,0,λ_=>(0,0,0),fb,0,0,0,0,λ_=>⟨mS,λ_=>0,fb,0,0,0,0,λ_=>0⟩,fb,0,0,0,0,λ_=>(mS,0,0)⟩
def apu(h:0<q.heap.size):CD.zer.At q:=
 ⟨eF _,eF _,eF _,eF _,h,h,h,h,λh=>absurd h (dt _),λh=>absurd h (dt _),λh=>absurd h (dt _),λh=>absurd h (dt _),λ_ h=>absurd h (eI _),λ_ h=>absurd h (eI _),λ_ h=>absurd h (eI _),λ_ h=>absurd h (eI _),λ_ h=>absurd h (eI _),λ_ h=>absurd h (eI _),λ_ h=>absurd h (eI _),λ_ h=>absurd h (eI _),λ_ h=>absurd h (eI _),λ_ h=>absurd h (eI _),λ_ h=>absurd h (eI _),λ_ h=>absurd h (eI _),λ_ h=>absurd h (eI _),λ_ h=>absurd h (eI _),λ_ h=>absurd h (eI _)⟩
def abc.refl(A:CD):abc A A:=⟨rfl,rfl,rfl,λ_ _=>rfl,rfl,λ_ _=>rfl,rfl,λ_ _=>⟨rfl,λ_ _ _=>rfl,rfl,λ_ _=>rfl⟩,rfl,λ_ _=>rfl⟩
def abc.both{A B:CD}(h:abc J A)(k:abc J B):abc A B:=
 ⟨k.l.t h.l.y,k.p.t h.p.y,k.n2.t h.n2.y,λi hi=>by rw[h.n2]at hi;rw[k.x2 i hi,h.x2 i hi],k.n3.t h.n3.y,λi hi=>by rw[h.n3]at hi;rw[k.x3 i hi,h.x3 i hi],k.n4.t h.n4.y,λi hi=>by
   rw[h.n4]at hi;obtain⟨a1,a2,a3,a4⟩:=h.x4 i hi;obtain⟨d,e,f,g⟩:=k.x4 i hi
   exact⟨d.t a1.y,λj b c=>(e j b c).t (a2 j b c).y,f.t a3.y,λj a=>by rw[a3]at a;exact(g j a).t (a4 j a).y⟩,k.n5.t h.n5.y,λi hi=>by rw[h.n5]at hi;rw[k.x5 i hi,h.x5 i hi]⟩
def ah8(m n k:Nat)(W:ag):Prop:=k<m\/n<=k\/∀c,W.heap[k]?≠fc (n6 c 27)
structure CD.Far(D:CD)(m n:Nat)(W:ag):Prop where
 f2:0<D.n2->ah8 m n D.k2 W
 f3:0<D.n3->ah8 m n D.k3 W
 f4:0<D.n4->ah8 m n D.k4 W
 f5:0<D.n5->ah8 m n D.k5 W
 fl:∀i,i<D.n4->0<(D.x4 i).ln->ah8 m n (D.x4 i).lk W
def ah8.ne{n k K:Nat}(h:ah8 C n k q)(a:C<=K)(b:K<n)(hc:q.heap[K]?=fc (n6 R 27)):k≠K:=by
 rintro rfl
 rcases h with h|h|h
 .omega
 .omega
 .exact h _ hc
structure CD.TL(D:CD)(K:Nat):Prop where
 f2:0<D.n2->D.k2≠K
 f3:0<D.n3->D.k3≠K
 f4:0<D.n4->D.k4≠K
 f5:0<D.n5->D.k5≠K
 fl:∀i,i<D.n4->0<(D.x4 i).ln->(D.x4 i).lk≠K
def CD.Far.off{n K:Nat}(hf:J.Far C n q)(a:C<=K)(b:K<n)(hc:q.heap[K]?=fc (n6 R 27)):J.TL K:=
 ⟨λh=>(hf.f2 h).ne a b hc,λh=>(hf.f3 h).ne a b hc,λh=>(hf.f4 h).ne a b hc,λh=>(hf.f5 h).ne a b hc,λi hi hl=>(hf.fl i hi hl).ne a b hc⟩
def CD.TL.at_{c:ag}(hf:J.TL C)(h:J.At q)(hs:q.heap.size<=c.heap.size)(m:∀b,b≠C->c.heap[b]?=q.heap[b]?):J.At c:=by
 have e:∀k o,k≠C->eq c ⟨k,o,fb⟩=eq q ⟨k,o,fb⟩:=λk o n=>by simp only[eq,m k n]
 have l:=λi(hi:i<J.n2)o=>e J.k2 o (hf.f2 ab);have d:=λi(hi:i<J.n3)o=>e J.k3 o (hf.f3 ab);have f:=λi(hi:i<J.n4)o=>e J.k4 o (hf.f4 ab);have g:=λi(hi:i<J.n5)o=>e J.k5 o (hf.f5 ab);have p:=λi(hi:i<J.n4)(hl:0<(J.x4 i).ln)o=>e (J.x4 i).lk o (hf.fl i hi hl);exact⟨h.m2,h.m3,h.m4,h.m5,bT h.h2 hs,bT h.h3 hs,bT h.h4 hs,bT h.h5 hs,h.s2,h.s3,h.s4,h.s5,λi hi=>(l i hi _).t (h.Ep i hi),λi hi=>(l i hi _).t (h.Er i hi),λi hi=>(d i hi _).t (h.Es i hi),λi hi=>(d i hi _).t (h.Et i hi),λi hi=>(d i hi _).t (h.Eu i hi),h.cu,λi hi=>(f i hi _).t (h.AD i hi),λi hi j a b=>(f i hi _).t (h.dB i hi j a b),λi hi=>(f i hi _).t (h.nj i hi),λi hi hl=>⟨(h.l4 i hi hl).1,bT (h.l4 i hi hl).2 hs⟩,λi hi j W=>(p i hi ab _).t (h.J5 i hi j W),h.nm5,λi hi=>(g i hi _).t (h.FI i hi),λi hi=>(g i hi _).t (h.HU i hi),λi hi=>(g i hi _).t (h.J6 i hi)⟩
def Typ.far{n k e:Nat}(h:Typ q k e)(a:e≠27):ah8 C n k q:=nk (nk λc hc=>by
 obtain⟨_,h⟩:=h;rw[h]at hc;cases hc
 exact a rfl)
def yd.far{n0:Nat}{D:CD}{W:ag}(h:yd n0 D.n4 D W)(m:Nat):D.Far m n0 W:=
 ⟨λa=>(h.t2 a).far ao,λa=>(h.t3 a).far ao,λ_=>nk (ni h.t4.1),λa=>nk (ni (h.t5 a).1),λi hi hl=>((h.tl i hi hl).1 hi).far ao⟩
def aaG(C X:CD)(a:Int)(w:ag)(e:eg)(w':ag):Prop:=∃D:CD,e=nb (fB #[fJ D.val,fm gL a])/\D.At w'/\abc (if a=0 then X else CD.zer) D/\bL w w'/\∀w0,C.At w0->D.Far w0.heap.size w.heap.size w'
def aaG.dP{X:CD}{w':ag}(hf:L≠0)(b:bL q w')(hs:0<w'.heap.size):aaG J X L q (nb (fB #[fJ RX,fm gL L])) w':=
 ⟨CD.zer,rfl,apu hs,by rw[if_neg hf];exact abc.refl _,b,λ_ _=>⟨λh=>absurd h (eI _),λh=>absurd h (eI _),λh=>absurd h (eI _),λh=>absurd h (eI _),λ_ h=>absurd h (eI _)⟩⟩
abbrev agw(W:ag)(r:Nat):ag:=eA (eA (eA (eA (eA (eA W ⟨r,0,fb⟩ (fm gL 0)) ⟨r,1,fb⟩ (fm gL 0)) ⟨r,2,fb⟩ (fR fb 0 0)) ⟨r,3,fb⟩ (fR fb 0 0)) ⟨r,4,fb⟩ (fR fb 0 0)) ⟨r,5,fb⟩ (fR fb 0 0)
def agx{x1 x2 x3 x4 a:aP}{t:aT}(h:q.heap[C]?=fc (n6 #[Y,x1,x2,x3,x4,a] t)):eq q ⟨C,0,fb⟩=fc Y/\eq q ⟨C,1,fb⟩=fc x1/\eq q ⟨C,2,fb⟩=fc x2/\eq q ⟨C,3,fb⟩=fc x3/\eq q ⟨C,4,fb⟩=fc x4/\eq q ⟨C,5,fb⟩=fc a/\(∀o,eE q ⟨C,o,fb⟩=ac)/\C<q.heap.size:=by
 simp[bf h,tO h,e7 h]
def aaG.ends{X:CD}{W:ag}{fn:Func}{a:Act}(h:W.heap[C]?=fc (n6 RX 27))(c:bL q W)(d:q.heap.size<=C)(hf:L≠0)(hd:a.defers=[])
 (g:eq (agw W C) ⟨C,0,fb⟩=fc (fm gL 0)/\eq (agw W C) ⟨C,1,fb⟩=fc (fm gL 0)/\eq (agw W C) ⟨C,2,fb⟩=fc (fR fb 0 0)/\eq (agw W C) ⟨C,3,fb⟩=fc (fR fb 0 0)/\eq (agw W C) ⟨C,4,fb⟩=fc (fR fb 0 0)/\eq (agw W C) ⟨C,5,fb⟩=fc (fR fb 0 0)->(a9 fn a.tmps).run PL (agw W C)=lW (fB #[fJ RX,fm gL L]) (agw W C)):ce PL fn (aaG J X L q) .ret a (agw W C):=
 a8 (g (bf (nC h))) hd (aaG.dP hf (ge c d _ _ _ _ _ _) (by have:=e7 h;simp only[lj];omega))
def abm(C:CD)(ds:List Int):Int:=if C.cx=0 then(if ds.length=C.n5 then(if(gy ds.length).all λi=>bO (ds.getD i 0) 0 12 then 0 else 1) else 2) else C.cx
def ah9(hv:bB q Y M):∃b c a d,Y=fR b M.length c/\(0<M.length->b=fc ⟨a,d,fb⟩/\a<q.heap.size/\∀j,j<M.length->eq q ⟨a,d+j,fb⟩=fc (fm gL (M.getD j 0))):=by
 obtain⟨b,c,rfl,g⟩:=hv;by_cases f:0<M.length
 .obtain⟨k,o,e,i,hc⟩:=g f;exact⟨b,c,k,o,rfl,λ_=>⟨e,i,λj l=>hc j ab⟩⟩
 .exact⟨b,c,0,0,rfl,λh=>absurd h f⟩
def amP{C D:CD}{f:Nat->iJ}(h:acd C f)(hl:D.l=C.l/\D.p=C.p/\D.n2=C.n2/\D.x2=C.x2/\D.n3=C.n3/\D.x3=C.x3/\D.n4=C.n4/\D.x4=f/\D.n5=C.n5/\D.x5=C.x5):abc C D:=by
 obtain⟨a,b,c,d,e,g,k,m,o,q⟩:=hl;exact⟨a,b,c,λi _=>by rw[d],e,λi _=>by rw[g],k,λi _=>by rw[m];exact⟨(h.1 i).name,λj _ _=>by rw[(h.1 i).n],(h.1 i).ln,λj _=>by rw[(h.1 i).lane]⟩,o,λi _=>by rw[q]⟩
def aha(hf:abm J M=0):J.cx=0/\M.length=J.n5/\∀i,i<M.length->bO (M.getD i 0) 0 12=aa:=by
 unfold abm at hf;split at hf
 .split at hf
  .split at hf
   .rename_i a;exact⟨bo,bo,λi hi=>df.1 a i (dv.2 hi)⟩
   .cases hf
  .cases hf
 .contradiction
def ahb(F:CD)(ds:List Int)(v:aP)(w:ag)(h:F.At w)(hv:bB w v ds)(hf:¬abm F ds=0){G:Nat}(hF:C=14/\G=37\/C=15/\G=33)(t:∀W,bL w W->aI PL G #[fJ F.val] W (aO (fm gL F.cx) W)):aI PL C #[fJ F.val,v] w (aaG F (F.j8 ds) (abm F ds) w):=by
 obtain⟨b,c,J,K,rfl,s⟩:=ah9 hv;have m5:=h.m5;have t:=gf t;have f:=gf (KO.start F.val w);obtain⟨n,u⟩:=bs ds.length;by_cases hc:F.cx=0
 .rw[abm,if_pos hc]at hf ⊢;rw[hc]at t;by_cases hd:ds.length=F.n5
  .rw[if_pos hd]at hf ⊢;have hb:¬((gy ds.length).all λi=>bO (ds.getD i 0) 0 12)=aa:=λe=>hf (if_pos e);rw[if_neg hb];have R:=gf hb;have L:=gf s;have A:n=F.n5:=ab;rw[<-u];rw[<-u]at L;have S:=gf u;subst A;clear hf hb s hd hv u h hc
   rcases hF with⟨rfl,rfl⟩|⟨rfl,rfl⟩
   all_goals (
    first
     |(go_enter (fx ao jt),jz
       go_upto_region 1 with fail
       obtain⟨k,l,m,o,f4,r⟩:=bf f.o.box
       go_upto_region 7 with((first|go_at_call 37|go_at_call 33);refine(t.o _ f.o.low).m ?_;rintro e w1⟨rfl,j⟩;have a:=gf (f.o.on j);clear j k l m o f4 r;obtain⟨k,l,m,o,f4,r⟩:=bf a.o.box)
       go_loop [24] (λd=>∃i:Nat,i<=F.n5/\d=fm gL i/\∀q,q<i->bO (ds.getD q 0) 0 12=aa) (λd=>F.n5-(intOf d).toNat))
     |(go_enter (fx ao jH),jM
       go_upto_region 1 with fail
       obtain⟨k,l,m,o,f4,r⟩:=bf f.o.box
       go_upto_region 6 with((first|go_at_call 37|go_at_call 33);refine(t.o _ f.o.low).m ?_;rintro e w1⟨rfl,j⟩;have a:=gf (f.o.on j);clear j k l m o f4 r;obtain⟨k,l,m,o,f4,r⟩:=bf a.o.box)
       go_wp2
       go_loop [7] (λd=>∃i:Nat,i<=F.n5/\d=fm gL i/\∀q,q<i->bO (ds.getD q 0) 0 12=aa) (λd=>F.n5-(intOf d).toNat))
    case atStart=>exact⟨0,eF _,rfl,λq y=>absurd y (eI _)⟩
    case round=>
     obtain⟨i,hi,rfl,M⟩:=hrel;have B:=gf M;clear M;by_cases N:i<F.n5
     .have i1:(i:Int)<F.n5:=ab;obtain⟨rfl,T,O⟩:=L.o ab;obtain⟨x,I⟩:=bs (ds.getD i 0);have ed:eq w1 ⟨J,K+i,fb⟩=fc (fm gL x):=by rw[I];exact(a.o.low.c (p:=⟨J,K+i,fb⟩) T).t (O i N)
      have U:=gf I;clear I O;by_cases H:bO x 0 12=aa
      .have z:=gf H;clear H
       go_wp2_with (first|(go_at_call 41;refine(uK z.o _).m ?_;rintro e w'⟨rfl,rfl⟩)|(go_at_call 43;refine(kH z.o _).m ?_;rintro e w'⟨rfl,rfl⟩))
       exact⟨⟨i+1,N,by go_num,λq y=>by
        rcases fg.1 y with y|rfl
        .exact B.o q y
        .rw[<-U.o];exact z.o⟩,by simp only[intOf];omega⟩
      .have z:Hid (bO x 0 12=ac):=gf (by simpa using H);clear H;obtain⟨y0,y1,y2,y3,y4,P,Q,D⟩:=agx a.o.res
       go_wp2_with (first|(go_at_call 41;refine(o8 x _).m ?_;rintro e w'⟨rfl,rfl⟩;rw[z.o])|(go_at_call 43;refine(vQ z.o _).m ?_;rintro e w'⟨rfl,rfl⟩))
       refine aaG.ends a.o.res a.o.low ab ao rfl λg=>?_;simp[a9,jQ,j4,go_sem,g]
     .have V:i=F.n5:=ab
      exact absurd (df.2 λq y=>B.o q (by have:=dv.1 y;have:=S.o;omega)) R.o)
  .rw[if_neg hd];have A:¬(n:Int)=(F.n5:Int):=ab;rw[<-u];clear hf s hd hv u h hc
   rcases hF with⟨rfl,rfl⟩|⟨rfl,rfl⟩
   all_goals (
    first|go_enter (fx ao jt),jz|go_enter (fx ao jH),jM
    go_upto_region 1 with fail
    obtain⟨k,l,m,o,f4,r⟩:=bf f.o.box
    go_wp2_with ((first|go_at_call 37|go_at_call 33);refine(t.o _ f.o.low).m ?_;rintro e w1⟨rfl,j⟩;have a:=gf (f.o.on j);clear j k l m o f4 r;obtain⟨k,l,m,o,f4,r⟩:=bf a.o.box;obtain⟨y0,y1,y2,y3,y4,P,Q,D⟩:=agx a.o.res)
    refine aaG.ends a.o.res a.o.low ab ao rfl λg=>?_
    simp[a9,jQ,j4,go_sem,g])
 .rw[abm,if_neg hc];obtain⟨X,E⟩:=bs F.cx;rw[<-E]at hc t ⊢;have Y:(X != 0)=aa:=by simpa using hc
  have Z:=gf hc;rw[<-u];clear hf s hv u h E hc
  rcases hF with⟨rfl,rfl⟩|⟨rfl,rfl⟩
  all_goals (
   first|go_enter (fx ao jt),jz|go_enter (fx ao jH),jM
   go_upto_region 1 with fail
   obtain⟨k,l,m,o,f4,r⟩:=bf f.o.box
   go_wp2_with ((first|go_at_call 37|go_at_call 33);refine(t.o _ f.o.low).m ?_;rintro e w1⟨rfl,j⟩;have a:=gf (f.o.on j);clear j k l m o f4 r;obtain⟨y0,y1,y2,y3,y4,P,Q,D⟩:=agx a.o.res)
   refine aaG.ends a.o.res a.o.low ab Z.o rfl λg=>?_
   simp[a9,jQ,j4,go_sem,g])
def alD(C:CD)(ds:List Int)(v:aP)(w:ag)(h:C.At w)(hv:bB w v ds):aI PL 14 #[fJ C.val,v] w (aaG C (C.j8 ds) (abm C ds) w):=by
 by_cases hf:abm C ds=0
 .obtain⟨hc,hd,hb⟩:=aha hf;rw[hf];refine(ac2 C ds v w h (by have:=(FT hc).1;omega) hc hv hd hb).m ?_;rintro e w'⟨Y,f,rfl,c,b,a⟩;exact⟨(C.j8 ds).KD Y f,rfl,b.mem.at_,amP (C:=C.j8 ds) (f:=f) c ⟨rfl,rfl,rfl,rfl,rfl,rfl,rfl,rfl,rfl,rfl⟩,a,λw0 _=>b.far _⟩
 .exact ahb C ds v w h hv hf (ni ⟨rfl,rfl⟩) λW a=>uC C W (h.below a)
def ahz(C:CD)(ds:List Int)(v:aP)(w:ag)(h:C.At w)(hv:bB w v ds):aI PL 15 #[fJ C.val,v] w (aaG C (C.j8 ds) (abm C ds) w):=by
 by_cases hf:abm C ds=0
 .obtain⟨hc,hd,hb⟩:=aha hf;rw[hf];have AF:Hid (∀W,bL w W->aI PL 44 #[fJ C.val,v] W λe w'=>∃d f g,e=nb (fJ (C.aft ds d f g).val)/\(C.aft ds d f g).At w'/\bL W w'/\(0<C.n5->W.heap.size<=f)):=gf λW j=>ah7 C ds v W (h.below j) (hv.on j) hd;have N:=gf h;obtain⟨b,c,B,D,rfl,a⟩:=ah9 hv;have m5:=h.m5;have O:Hid (∀W,bL w W->aI PL 33 #[fJ C.val] W (aO (fm gL 0) W)):=gf λW j=>by have:=rK C W (h.below j);rwa[hc]at this
  have s:=gf (KO.start C.val w);rw[hd]at hb a AF ⊢;have P:=gf a;have Q:=gf hb;clear hf a hb hv h hc;go_enter (fx ao jH),jM
  go_upto_region 1 with fail
  obtain⟨E,F,H,I,f4,J⟩:=bf s.o.box
  go_upto_region 6 with(go_at_call 33;refine(O.o _ s.o.low).m ?_;rintro e w1⟨rfl,K⟩;have k:=gf (s.o.on K);clear K E F H I f4 J;obtain⟨E,F,H,I,f4,J⟩:=bf k.o.box)
  go_wp2
  go_loop [7] (λv7=>∃i:Nat,i<=C.n5/\v7=fm gL i) (λv7=>C.n5-(intOf v7).toNat)
  case atStart=>exact⟨0,eF _,rfl⟩
  case round=>
   obtain⟨i,hi,rfl⟩:=hrel;by_cases t:i<C.n5
   .have R:(i:Int)<C.n5:=ab;obtain⟨rfl,S,L⟩:=P.o ab;obtain⟨x,u⟩:=bs (ds.getD i 0);have X:eq w1 ⟨B,D+i,fb⟩=fc (fm gL x):=by rw[u];exact(k.o.low.c (p:=⟨B,D+i,fb⟩) S).t (L i t)
    have T:Hid (bO x 0 12=aa):=gf (by rw[u];exact Q.o i t);clear u L
    go_wp2_with (go_at_call 43;refine(kH T.o _).m ?_;rintro e w'⟨rfl,rfl⟩)
    exact⟨⟨i+1,t,by go_num⟩,by simp only[intOf];omega⟩
   .have R:¬((i:Int)<C.n5):=ab
    go_wp2_with (go_at_call 44;refine(AF.o _ k.o.low).m ?_;rintro e w2⟨d,f,g,rfl,m,M,n⟩;have y:=gf m;have o:=gf n;have q:=gf (k.o.on M);clear m M n;obtain⟨y0,y1,y2,y3,y4,Y⟩:=bf q.o.res;have Z:=tO q.o.res)
    have U:=q.o.res;have z:=nC (u0:=fm gL C.l) (u1:=fm gL C.p) (u2:=fR C.b2 C.n2 C.c2) (u3:=fR C.b3 C.n3 C.c3) (u4:=fR C.b4 C.n4 C.c4) (u5:=fR d C.n5 g) U;refine a8 (v:=fB #[fJ (C.aft ds d f g).val,fm gL 0]) ?_ rfl ⟨C.aft ds d f g,rfl,?_,by rw[if_pos rfl];exact⟨rfl,rfl,rfl,λ_ _=>rfl,rfl,λ_ _=>rfl,rfl,λ_ _=>⟨rfl,λ_ _ _=>rfl,rfl,λ_ _=>rfl⟩,rfl,λ_ _=>rfl⟩,ge q.o.low ab _ _ _ _ _ _,λw0 r=>⟨λ_=>ni r.h2,λ_=>ni r.h3,λ_=>ni r.h4,λA=>nk (ni (da k.o.low.z (o.o A))),λi hi hl=>ni (r.l4 i hi hl).2⟩⟩
    .obtain⟨a0,a1,a2,a3,a4,V⟩:=bf z;simp[a9,j4,go_sem,a0,a1,a2,a3,a4,V,CD.aft]
    .have dx:=e7 k.o.res;exact anJ N.o y.o (ge q.o.low ab _ _ _ _ _ _) (by simp only[lj];exact dk _) (λb hb=>cM hb) λA=>by have:=o.o A;omega
 .exact ahb C ds v w h hv hf (nk ⟨rfl,rfl⟩) λW j=>rK C W (h.below j)
def abd(x:iJ)(a b c d:Int):iJ:={ x with n:=λj=>if j=7 then a else if j=8 then b else if j=9 then c else if j=10 then d else x.n j }
def abn(x:iJ)(a b k1 k2:Int):iJ:=abd x (max (x.n 7) a) (min (x.n 8) b) (max (x.n 9) k1) (min (x.n 10) k2)
def abD(x:iJ)(a b k1 k2:Int):Int:=
 if eK a b 0 60&&eK k1 k2 0 60 then(if max (x.n 7) a > min (x.n 8) b then 10 else if max (x.n 9) k1 > min (x.n 10) k2 then 10 else 0) else 1
def agy(w:ag)(a b c d:Obj):(eu (eu (eu (eu w a) b) c) d).heap[w.heap.size]?=fc a/\(eu (eu (eu (eu w a) b) c) d).heap[w.heap.size+1]?=fc b/\(eu (eu (eu (eu w a) b) c) d).heap[w.heap.size+2]?=fc c/\(eu (eu (eu (eu w a) b) c) d).heap[w.heap.size+3]?=fc d/\bL w (eu (eu (eu (eu w a) b) c) d):=by
 have k1:=au w a;have k2:=au (eu w a) b;have k3:=au (eu (eu w a) b) c;have f:=au (eu (eu (eu w a) b) c) d;simp only[eD]at k2 k3 f;have e:∀(W:ag)(o:Obj)(k:Nat)(x:Obj),W.heap[k]?=fc x->(eu W o).heap[k]?=fc x:=λW o k x h=>((gg W.heap.size W).a (dk _) o).k k (e7 h) |>.trans h
 exact⟨e _ _ _ _ (e _ _ _ _ (e _ _ _ _ k1)),e _ _ _ _ (e _ _ _ _ k2),e _ _ _ _ k3,f,((((gg _ _).a (dk _) _).a ar _).a (by simp;omega) _).a (by simp;omega) _⟩
structure KNb(C:CD)(s1 s2 k1 k2:Int)(w W:ag):Prop where
 box:W.heap[w.heap.size]?=fc (n6 C.val 27)
 b1:W.heap[w.heap.size+1]?=fc (n6 #[fm gL s1,fm gL s2] 30)
 b2:W.heap[w.heap.size+1+1]?=fc (n6 #[fm gL k1,fm gL k2] 30)
 res:W.heap[w.heap.size+1+1+1]?=fc (n6 RX 27)
 low:bL w W
def KNb.on{c k1 k2:Int}{W d:ag}(h:KNb J L c k1 k2 q W)(a:bL W d):KNb J L c k1 k2 q d:=
 ⟨(a.k _ (e7 h.box)).t h.box,(a.k _ (e7 h.b1)).t h.b1,(a.k _ (e7 h.b2)).t h.b2,(a.k _ (e7 h.res)).t h.res,f9 h.low a⟩
theorem KNb.set{C:CD}{a b k1 k2:Int}{w W:ag}(h:KNb C a b k1 k2 w W){K o:Nat}(c:w.heap.size+3<K)(v:aP):KNb C a b k1 k2 w (eA W ⟨K,o,fb⟩ v):=
 ⟨(aZ ab).t h.box,(aZ ab).t h.b1,(aZ ab).t h.b2,(aZ ab).t h.res,h.low.s (p:=⟨K,o,fb⟩) (mH (Nat.lt_of_le_of_lt (Nat.le_add_right _ 3) c)) v⟩
def awT(C:CD)(n0:Nat)(j:Nat)(vs:Nat->aP)(W:ag):Prop:=
 (j=8->∃k,vs 8=f8 (fc ⟨k,0,fb⟩)/\n0<k/\Six W k)/\(j=9->∃k,vs 8=f8 (fc ⟨k,0,fb⟩)/\n0<k/\W.heap[k]?=fc (n6 C.val 78))
def H9{x1:aP}(h:q.heap[C]?=fc (n6 #[Y,x1] 30)):eq q ⟨C,0,fb⟩=fc Y/\eq q ⟨C,1,fb⟩=fc x1:=by
 constructor<;>simp[eq,h]
structure KNa(C:CD)(s1 s2 k1 k2:Int)(Y:abH)(f:Nat->iJ)(p B:Nat)(w:ag)(a b c d:Int)(W:ag):Prop where
 kb:KNb C s1 s2 k1 k2 w W
 two:W.heap[B]?=fc (n6 (C.KD Y f).val 27)
 hi:w.heap.size+3<Y.K4
 own:yd w.heap.size C.n4 (C.KD Y λj=>if j=p then abd (f j) a b c d else f j) W
def KNa.on{C:CD}{g i k1 k2:Int}{Y:abH}{f:Nat->iJ}{p B:Nat}{w:ag}{a b c d:Int}{W j:ag}(h:KNa C g i k1 k2 Y f p B w a b c d W)(e:bL W j):KNa C g i k1 k2 Y f p B w a b c d j:=
 ⟨h.kb.on e,(e.k _ (e7 h.two)).t h.two,h.hi,h.own.on e⟩
def KNa.cell{C:CD}{g i k1 k2:Int}{Y:abH}{f:Nat->iJ}{p B:Nat}{w:ag}{a b c d:Int}{W:ag}(h:KNa C g i k1 k2 Y f p B w a b c d W)(k:p<C.n4):eq W ⟨Y.K4,p*12+7,fb⟩=fc (fm gL a)/\eq W ⟨Y.K4,p*12+8,fb⟩=fc (fm gL b)/\eq W ⟨Y.K4,p*12+9,fb⟩=fc (fm gL c)/\eq W ⟨Y.K4,p*12+10,fb⟩=fc (fm gL d):=by
 have key:∀q,7<=q->q<=10->eq W ⟨Y.K4,p*12+q,fb⟩=fc (fm gL ((abd (f p) a b c d).n q)):=λq l m=>by
  have:=h.own.mem.r4 p k q ab;have e:(⟨(C.KD Y λj=>if j=p then abd (f j) a b c d else f j).k4,(C.KD Y λj=>if j=p then abd (f j) a b c d else f j).o4+p*12+q,fb⟩:a7)=⟨Y.K4,p*12+q,fb⟩:=aS;rw[e]at this;rw[this];show(aaD (if p=p then _ else _))[q]?=_;rw[if_pos rfl,aam _ ab ab]
 exact⟨key 7 ab ab,key 8 ab ab,key 9 ab ab,key 10 ab ab⟩
theorem KNa.set{C:CD}{g i k1 k2:Int}{Y:abH}{f:Nat->iJ}{p B:Nat}{w:ag}{a b c d:Int}{W:ag}(h:KNa C g i k1 k2 Y f p B w a b c d W)(l:p<C.n4){r:Nat}(o:7<=r/\r<=10)(x:Int) :
 KNa C g i k1 k2 Y f p B w (if r=7 then x else a) (if r=8 then x else b) (if r=9 then x else c) (if r=10 then x else d) (eA W ⟨Y.K4,p*12+r,fb⟩ (fm gL x)):=by
 have m:Typ W Y.K4 49:=h.own.t4.2.2.i λ_ k=>k.1;have hs:=h.own.avD (D:=C.KD Y λj=>if j=p then abd (f j) a b c d else f j) l (r:=r) ab x;refine⟨h.kb.set h.hi _,(aZ (m.ne ⟨_,h.two⟩ ao)).t h.two,h.hi,?_⟩;have e:(λj=>if j=p then abd (f j) (if r=7 then x else a) (if r=8 then x else b) (if r=9 then x else c) (if r=10 then x else d) else f j)=λj=>if j=p then { (if j=p then abd (f j) a b c d else f j) with n:=λq=>if q=r then x else(if j=p then abd (f j) a b c d else f j).n q } else(if j=p then abd (f j) a b c d else f j):=by
  funext j;by_cases e:j=p
  .subst e;simp only[if_pos,abd];grind
  .simp only[if_neg e]
 rw[e];exact hs
def KNa.start{C:CD}{a b k1 k2:Int}{Y:abH}{f:Nat->iJ}{p B:Nat}{w W:ag}(kb:KNb C a b k1 k2 w W)(two:W.heap[B]?=fc (n6 (C.KD Y f).val 27))(hi:w.heap.size+3<Y.K4)(own:yd w.heap.size C.n4 (C.KD Y f) W):KNa C a b k1 k2 Y f p B w ((f p).n 7) ((f p).n 8) ((f p).n 9) ((f p).n 10) W:=by
 refine⟨kb,two,hi,?_⟩;have e:(λj=>if j=p then abd (f j) ((f p).n 7) ((f p).n 8) ((f p).n 9) ((f p).n 10) else f j)=f:=by
  funext j;by_cases e:j=p
  .subst e;rw[if_pos rfl];unfold abd;congr 1;grind
  .rw[if_neg e]
 rw[e];exact own
def am1(a0 m1 b0 m2:Int)(a b:ag->Prop)(j:Nat)(vs:Nat->aP)(W:ag):Prop:=
 (j=8->vs 8=fm gL a0\/vs 8=fm gL m1)/\(j=17->vs 17=fm gL b0\/vs 17=fm gL m2)/\(j=24->a W)/\(j=27->b W)
structure Rnd(K Q B:Nat)(y1 y2:Int)(ST:Int->Int->ag->Prop):Prop where
 on:∀a b W W',ST a b W->bL W W'->ST a b W'
 ca:∀a b W,ST a b W->eq W ⟨K,Q,fb⟩=fc (fm gL a)
 cb:∀a b W,ST a b W->eq W ⟨K,Q+1,fb⟩=fc (fm gL b)
 fz:∀a b W,ST a b W->∀o,eE W ⟨K,o,fb⟩=ac
 bx:∀a b W,ST a b W->W.heap[B]?=fc (n6 #[f8 (fc ⟨K,Q,fb⟩),fm gL y1,fm gL y2] 99)
 sa:∀a b W x,ST a b W->ST x b (eA W ⟨K,Q,fb⟩ (fm gL x))
 sb:∀a b W x,ST a b W->ST a x (eA W ⟨K,Q+1,fb⟩ (fm gL x))
def ahd{x1 x2:aP}(h:q.heap[C]?=fc (n6 #[Y,x1,x2] 99)):eq q ⟨C,0,fb⟩=fc Y/\eq q ⟨C,1,fb⟩=fc x1/\eq q ⟨C,2,fb⟩=fc x2:=by
 refine⟨?_,?_,?_⟩<;>simp[eq,h]
def anN(b:C<J.n4)(a:J.n4<=20)(w:ag):aI PL 46 #[fJ J.val,fm gL C] w (aO (f6 aa) w):=by
 have h:=AE J C w a;rwa[show bO (C:Int) 0 (J.n4-1)=aa by simp[bO];omega]at h
def amQ(x0 x1 x2 x3 x4 a:aP)(w:ag):(Instr.index 100 (fJ #[x0,x1,x2,x3,x4,a]) (fm gL 0)).run PL w=lW (fJ #[x0,x1,x2]) w/\(Instr.index 100 (fJ #[x0,x1,x2,x3,x4,a]) (fm gL 1)).run PL w=lW (fJ #[x3,x4,a]) w:=⟨ae,ae⟩
def awU(C:CD)(p:Nat)(a b k1 k2:Int)(w:ag)(e:eg)(w':ag):Prop:=
 bL w w'/\((abD (C.x4 p) a b k1 k2≠0/\e=nb (fB #[fJ RX,fm gL (abD (C.x4 p) a b k1 k2)]))\/
  (abD (C.x4 p) a b k1 k2=0/\∃Y f,e=nb (fB #[fJ (C.KD Y f).val,fm gL 0])/\acd C f/\yd w.heap.size C.n4 (C.KD Y λj=>if j=p then abn (f j) a b k1 k2 else f j) w'))
def ahA(C:CD)(p:Nat)(m s k1 k2:Int)(w:ag)(h:C.At w)(hc:C.cx=0)(hp:p<C.n4) :
 aI PL 17 #[fJ C.val,fm gL p,fJ #[fm gL m,fm gL s],fJ #[fm gL k1,fm gL k2]] w (awU C p m s k1 k2 w):=by
 have HA:Hid (∀W,bL w W->C.At W):=gf λW t=>h.below t;have m4:=h.m4;have HF:Hid (C.b6 aa=0):=gf (by rw[CD.b6,if_pos hc];rfl);have h4:0<C.n4:=ab;have A4:=gf (agy w (n6 C.val 27) (n6 #[fm gL m,fm gL s] 30) (n6 #[fm gL k1,fm gL k2] 30) (n6 RX 27));have OW:Hid (∀W,bL w W->aI PL 48 #[fJ C.val] W λe w'=>∃Y f,e=nb (fJ (C.KD Y f).val)/\acd C f/\yd W.heap.size C.n4 (C.KD Y f) w'/\bL W w'):=gf λW t=>ahS C W (h.below t) h4;clear h hc;go_enter (fx ao j5),j6
 go_upto_region 1 with fail
 obtain⟨W0,kS⟩:=bs (eu (eu (eu (eu w (n6 C.val 27)) (n6 #[fm gL m,fm gL s] 30)) (n6 #[fm gL k1,fm gL k2] 30)) (n6 RX 27));have K0:Hid (KNb C m s k1 k2 w W0):=gf (by rw[kS];exact⟨A4.o.1,A4.o.2.1,A4.o.2.2.1,A4.o.2.2.2.1,A4.o.2.2.2.2⟩);rw[<-kS];clear kS A4;refine cT 10 (KNb C m s k1 k2 w) (Fo C) (λj=>j != 8&&j != 9) (awT C (w.heap.size+3)) rfl ae ae
  (λi vs W K L h=>⟨λe=>(h.1 e).i λk U=>⟨U.1,U.2.1,(L k).2 U.2.2⟩,λe=>(h.2 e).i λk U=>⟨U.1,U.2.1,(L k).1 U.2.2⟩⟩) (λi o ho vs eX W he hd h=>⟨λe=>?_,λe=>?_⟩) ?_ ?_
 .subst e;rw[<-he];exact h.1 rfl
 .subst e;have e8:vs 8=eX 8:=by
   simp only[gw,fP,ft,kj]at ho;subst ho;exact hd ⟨8,oh⟩ (cH.2 ⟨ar,rfl⟩)
  rw[<-e8];exact h.2 rfl
 .exact K0.o.on (gg _ _).d
 .iterate 8 (
   apply aY
   case hE=>rfl
   case h=>
    intro vs W g hd;obtain⟨f0,f1,f2,f3,f4,f5⟩:=bf g.box;go_simp
    first
    |(go_at_call 46;refine(anN hp m4 _).m ?_;rintro e K⟨rfl,t⟩;exact⟨_,rfl,rfl,g.on t,Fo.on t⟩)
    |(go_at_call 31;refine(kF HF.o (HA.o _ g.low)).m ?_;rintro e K⟨rfl,t⟩;exact⟨_,rfl,rfl,g.on t,Fo.on t⟩)
    |exact⟨rfl,Fo.on (gg _ _)⟩
   case hb=>exact E0)
  apply eH
  case hE=>rfl
  case hb=>exact E0
  case h=>
   intro vs W g hd;go_simp;have t:=(gg W.heap.size W).a (dk _) (n6 #[fm gL 0,fm gL 0,fR fb 0 0,fR fb 0 0,fR fb 0 0,fR fb 0 0] 78);exact⟨g.on t,Fo.on t,⟨λ_=>⟨W.heap.size,by simp[upd],e7 g.res,_,_,_,_,_,_,au W _⟩,br⟩⟩
  apply eH
  case hE=>rfl
  case hb=>exact E0
  case h=>
   intro vs W g hd;obtain⟨k,U,Ll,x0,x1,x2,x3,x4,x5,hx⟩:=(hd ⟨8,oh⟩ (cH.2 ⟨ar,rfl⟩) rfl).1 rfl;obtain⟨f0,f1,f2,f3,f4,f5⟩:=bf hx;have E:=tO hx;rw[U];go_simp;refine⟨(((((g.set Ll _).set Ll _).set Ll _).set Ll _).set Ll _).set Ll _,λq=>?_,⟨br,λ_=>⟨k,by simp[upd,U],Ll,nC hx⟩⟩⟩;by_cases hq:q=k
   .subst hq;exact⟨λ_=>nC hx,λ_=>⟨_,_,_,_,_,_,nC hx⟩⟩
   .exact⟨λe=>(cM hq).t e,fun⟨_,_,_,_,_,_,e⟩=>⟨_,_,_,_,_,_,(cM hq).t e⟩⟩
  refine cP λvs W g hd=>?_;obtain⟨k,U,Ll,hx⟩:=(hd 9 ab rfl).2 rfl;rw[U];have K1:=gf g;clear hx g hd U Ll;by_cases zE:(eK m s 0 60&&eK k1 k2 0 60)=aa
  case neg=>
   have R:Hid (abD (C.x4 p) m s k1 k2=1):=gf (by rw[abD,if_neg zE]);have u:=K1.o.res;obtain⟨y0,y1,y2,y3,y4,y5⟩:=bf u;have E:=tO u;have A:=e7 u;obtain⟨a0,a1⟩:=H9 K1.o.b1;obtain⟨a2,a3⟩:=H9 K1.o.b2;clear u;by_cases h1:eK m s 0 60=aa
   .have h2:eK k1 k2 0 60=ac:=by simpa[h1]using zE
    have H1:=gf h1;have H2:=gf h2;clear h1 h2 zE
    go_wp2_with (first
     |(go_at_call 47;(with_reducible refine(Ek H1.o _).m ?_);rintro e w1⟨rfl,t⟩;have K2:=gf (K1.o.on t);clear t a0 a1 a2 a3 y0 y1 y2 y3 y4 y5 E A;have u:=K2.o.res;obtain⟨y0,y1,y2,y3,y4,y5⟩:=bf u;have E:=tO u;have A:=e7 u;clear u;obtain⟨a2,a3⟩:=H9 K2.o.b2)
     |(go_at_call 47;(with_reducible refine(El H2.o _).m ?_);rintro e w2⟨rfl,t⟩;have KX:=gf (K2.o.on t);clear t a2 a3 y0 y1 y2 y3 y4 y5 E A;have u:=KX.o.res;obtain⟨y0,y1,y2,y3,y4,y5⟩:=bf u;have E:=tO u;have A:=e7 u;clear u))
    clear y0 y1 y2 y3 y4 y5 E A;have S:=nC (u0:=fm gL 0) (u1:=fm gL 0) (u2:=fR fb 0 0) (u3:=fR fb 0 0) (u4:=fR fb 0 0) (u5:=fR fb 0 0) KX.o.res;refine a8 (v:=fB #[fJ RX,fm gL 1]) ?_ rfl ⟨ge KX.o.low ab _ _ _ _ _ _,ni ⟨by rw[R.o];decide,by rw[R.o]⟩⟩;obtain⟨c0,c1,V,c3,c4,c5⟩:=bf S;simp[a9,kc,go_sem,c0,c1,V,c3,c4,c5]
   .have H1:Hid (eK m s 0 60=ac):=gf (by simpa using h1);clear h1 zE
    go_wp2_with (go_at_call 47;(with_reducible refine(El H1.o _).m ?_);rintro e w1⟨rfl,t⟩;have KX:=gf (K1.o.on t);clear t a0 a1 a2 a3 y0 y1 y2 y3 y4 y5 E A;have u:=KX.o.res;obtain⟨y0,y1,y2,y3,y4,y5⟩:=bf u;have E:=tO u;have A:=e7 u;clear u)
    clear y0 y1 y2 y3 y4 y5 E A;have S:=nC (u0:=fm gL 0) (u1:=fm gL 0) (u2:=fR fb 0 0) (u3:=fR fb 0 0) (u4:=fR fb 0 0) (u5:=fR fb 0 0) KX.o.res;refine a8 (v:=fB #[fJ RX,fm gL 1]) ?_ rfl ⟨ge KX.o.low ab _ _ _ _ _ _,ni ⟨by rw[R.o];decide,by rw[R.o]⟩⟩;obtain⟨c0,c1,V,c3,c4,c5⟩:=bf S;simp[a9,kc,go_sem,c0,c1,V,c3,c4,c5]
  have H1:Hid (eK m s 0 60=aa):=gf (by revert zE;cases eK m s 0 60<;>simp);have H2:Hid (eK k1 k2 0 60=aa):=gf (by revert zE;cases eK k1 k2 0 60<;>simp);have HF0:Hid (abD (C.x4 p) m s k1 k2=if max ((C.x4 p).n 7) m > min ((C.x4 p).n 8) s then 10 else if max ((C.x4 p).n 9) k1 > min ((C.x4 p).n 10) k2 then 10 else 0):=gf (by rw[abD,if_pos zE]);clear zE;obtain⟨f0,f1,f2,f3,f4,f5⟩:=bf K1.o.box;obtain⟨a0,a1⟩:=H9 K1.o.b1;obtain⟨a2,a3⟩:=H9 K1.o.b2
  go_upto_region 6 with(first
   |(go_at_call 47;(with_reducible refine(Ek H1.o _).m ?_);rintro e w1⟨rfl,t⟩;have K2:=gf (K1.o.on t);clear t a0 a1 a2 a3;obtain⟨a2,a3⟩:=H9 K2.o.b2)
   |(go_at_call 47;(with_reducible refine(Ek H2.o _).m ?_);rintro e w2⟨rfl,t⟩;have K3:=gf (K2.o.on t);clear t a2 a3))
  clear f0 f1 f2 f3 f4 f5;obtain⟨f0,f1,f2,f3,f4,f5⟩:=bf K3.o.box
  go_upto_region 7 with(go_at_call 48;(with_reducible refine(OW.o _ K3.o.low).m ?_);rintro e w3⟨Y,f,rfl,hf,ho,t⟩;have HC:=gf hf;have HO:=gf ho;have IB:=gf t;have K4:=gf (K3.o.on t);clear hf ho t)
  have a4:bL w3 (eu w3 (n6 (C.KD Y f).val 27)):=(gg _ _).a (dk _) _;obtain⟨x7,hx7⟩:=bs ((C.x4 p).n 7);obtain⟨x8,hx8⟩:=bs ((C.x4 p).n 8);obtain⟨x9,hx9⟩:=bs ((C.x4 p).n 9);obtain⟨NT,apw⟩:=bs ((C.x4 p).n 10)
  have KA:Hid (KNa C m s k1 k2 Y f p w3.heap.size w x7 x8 x9 NT (eu w3 (n6 (C.KD Y f).val 27))):=gf (by
   have:=KNa.start (p:=p) (K4.o.on a4) (au w3 (n6 (C.KD Y f).val 27)) (by have:=HO.o.t4.1;have:=e7 K3.o.res;show w.heap.size+3<Y.K4;have h:w2.heap.size<=Y.K4:=HO.o.t4.1;omega) (yd.zu (D:=C.KD Y f) (HO.o.on a4) K3.o.low.z);rw[(HC.o.1 p).n,<-hx7,<-hx8,<-hx9,<-apw]at this
   exact this)
  have M:=gf (hI hx7 (hI hx8 (hI hx9 apw)));obtain⟨W3,hW3⟩:=bs (eu w3 (n6 (C.KD Y f).val 27));rw[show eu w3 (n6 #[fm gL C.l,fm gL C.p,fR Y.B2 C.n2 Y.p2,fR Y.B3 C.n3 Y.p3,fR (fc ⟨Y.K4,0,fb⟩) C.n4 Y.p4,fR Y.B5 C.n5 Y.p5] 27)=W3 from hW3.y];rw[<-hW3]at KA;have BX:Hid (∀a b c d W,KNa C m s k1 k2 Y f p w3.heap.size w a b c d W->W.heap[w3.heap.size]?=fc (n6 #[fm gL C.l,fm gL C.p,fR Y.B2 C.n2 Y.p2,fR Y.B3 C.n3 Y.p3,fR (fc ⟨Y.K4,0,fb⟩) C.n4 Y.p4,fR Y.B5 C.n5 Y.p5] 27)):=gf λa b c d W h=>h.two;clear hW3 a4 hx7 hx8 hx9 apw K1 K2 K3 K4 HO IB f0 f1 f2 f3 f4 f5 H1 H2;obtain⟨g0,g1,g2,g3,g4,g5⟩:=bf (BX.o _ _ _ _ _ KA.o);have i1:(p:Int)<C.n4:=ab;obtain⟨a0,a1⟩:=H9 KA.o.kb.b1;obtain⟨a2,a3⟩:=H9 KA.o.kb.b2
  go_upto_region 8 with fail
  go_quiet (fail)
  have KQ:Hid (KNa C m s k1 k2 Y f p w3.heap.size w x7 x8 x9 NT (World.drewN W3 nq)):=gf (KA.o.on (below_drewN (gg _ _) _));clear g0 g1 g2 g3 g4 g5 a0 a1 a2 a3 KA;obtain⟨N,hm7⟩:=bs (max x7 m);obtain⟨O,hm8⟩:=bs (min x8 s);obtain⟨m9,hm9⟩:=bs (max x9 k1);obtain⟨J,apx⟩:=bs (min NT k2);have HF1:Hid (abD (C.x4 p) m s k1 k2=if N > O then 10 else if m9 > J then 10 else 0):=gf (by rw[HF0.o,hm7,hm8,hm9,apx,M.o.1,M.o.2.1,M.o.2.2.1,M.o.2.2.2]);have X:=gf (hI hm7 (hI hm8 (hI hm9 apx)));have q1:=λw x0 x1 x2 x3 x4 x5=>(amQ x0 x1 x2 x3 x4 x5 w).1;have q2:=λw x0 x1 x2 x3 x4 x5=>(amQ x0 x1 x2 x3 x4 x5 w).2;clear hm7 hm8 hm9 apx
  go_wp2_with fail
  go_loopw [54] (λv54 wr=>(v54=fm gL 0/\KNa C m s k1 k2 Y f p w3.heap.size w x7 x8 x9 NT wr)\/(v54=fm gL 1/\N<=O/\KNa C m s k1 k2 Y f p w3.heap.size w N O x9 NT wr)\/(v54=fm gL 2/\N<=O/\m9<=J/\KNa C m s k1 k2 Y f p w3.heap.size w N O m9 J wr)) (λv54 _=>2-(intOf v54).toNat)
  case atStart=>exact ni ⟨rfl,KQ.o⟩
  case round=>
   rcases hrel with⟨rfl,hK⟩|⟨rfl,L,hK⟩|⟨rfl,L,Gi,hK⟩
   rotate_left 2
   .have KR:=gf hK;have hF:Hid (abD (C.x4 p) m s k1 k2=0):=gf (by rw[HF1.o,if_neg ab,if_neg ab]);clear hK KQ;obtain⟨g0,g1,g2,g3,g4,g5⟩:=bf (BX.o _ _ _ _ _ KR.o);have u:=KR.o.kb.res;obtain⟨y0,y1,y2,y3,y4,y5⟩:=bf u;have E:=tO u;have A:=e7 u;clear u
    go_wp2_with fail
    have u:=KR.o.kb.res;have S:=nC (u0:=fm gL C.l) (u1:=fm gL C.p) (u2:=fR Y.B2 C.n2 Y.p2) (u3:=fR Y.B3 C.n3 Y.p3) (u4:=fR (fc ⟨Y.K4,0,fb⟩) C.n4 Y.p4) (u5:=fR Y.B5 C.n5 Y.p5) u;have ho:=KR.o.own.ag4 ⟨_,u⟩ ab (fm gL C.l) (fm gL C.p) (fR Y.B2 C.n2 Y.p2) (fR Y.B3 C.n3 Y.p3) (fR (fc ⟨Y.K4,0,fb⟩) C.n4 Y.p4) (fR Y.B5 C.n5 Y.p5);refine a8 (v:=fB #[fJ (C.KD Y f).val,fm gL 0]) ?_ rfl ⟨ge KR.o.kb.low ab _ _ _ _ _ _,nk ⟨hF.o,Y,f,rfl,HC.o,?_⟩⟩
    .clear ho y0 y1 y2 y3 y4 y5 E A;obtain⟨c0,c1,V,c3,c4,c5⟩:=bf S;simp[a9,kc,go_sem,c0,c1,V,c3,c4,c5]
    .have e:(λj=>if j=p then abn (f j) m s k1 k2 else f j)=λj=>if j=p then abd (f j) N O m9 J else f j:=by
      funext j;by_cases e:j=p
      .subst e;rw[if_pos rfl,if_pos rfl,abn,(HC.o.1 j).n,X.o.1,X.o.2.1,X.o.2.2.1,X.o.2.2.2,M.o.1,M.o.2.1,M.o.2.2.1,M.o.2.2.2]
      .rw[if_neg e,if_neg e]
     rw[e];exact ho
   all_goals
    first
     |(obtain⟨ST,F⟩:=bs (λa b W=>KNa C m s k1 k2 Y f p w3.heap.size w a b x9 NT W/\W.heap[wr.heap.size]?=fc (n6 #[f8 (fc ⟨Y.K4,p*12+7,fb⟩),fm gL m,fm gL s] 99):Int->Int->ag->Prop)
       have B:Hid (Rnd Y.K4 (p*12+7) wr.heap.size m s ST):=gf (by
        subst F;have T4:∀a b W,KNa C m s k1 k2 Y f p w3.heap.size w a b x9 NT W->Typ W Y.K4 49:=λa b W h=>h.own.t4.2.2.i λ_ k=>k.1
        exact⟨λa b W K h t=>⟨h.1.on t,(t.k _ (e7 h.2)).t h.2⟩,λa b W h=>(h.1.cell hp).1,λa b W h=>(h.1.cell hp).2.1,λa b W h=>(T4 _ _ _ h.1).e λ_ k=>tO k,λa b W h=>h.2,
         λa b W x h=>⟨h.1.set hp (r:=7) ab x,(aZ ((T4 _ _ _ h.1).ne ⟨_,h.2⟩ ao)).t h.2⟩,λa b W x h=>⟨h.1.set hp (r:=8) ab x,(aZ ((T4 _ _ _ h.1).ne ⟨_,h.2⟩ ao)).t h.2⟩⟩)
       obtain⟨xa,hxa⟩:=bs x7;obtain⟨xb,hxb⟩:=bs x8;obtain⟨ya,hya⟩:=bs m;obtain⟨yb,hyb⟩:=bs s;obtain⟨y,Z⟩:=bs N;obtain⟨z,hmb⟩:=bs O;have S0:Hid (ST xa xb (eu wr (n6 #[f8 (fc ⟨Y.K4,p*12+7,fb⟩),fm gL m,fm gL s] 99))):=gf (by rw[hxa,hxb];subst F;exact⟨hK.on ((gg _ _).a (dk _) _),au _ _⟩);have SR:Hid (∀a b W,ST a b W->KNb C m s k1 k2 w W):=gf λa b W h=>by subst F;exact h.1.kb
       have SN:Hid (∀W,y<=z->ST y z W->((fm gL 1=fm gL 0/\KNa C m s k1 k2 Y f p w3.heap.size w x7 x8 x9 NT W)\/(fm gL 1=fm gL 1/\N<=O/\KNa C m s k1 k2 Y f p w3.heap.size w N O x9 NT W)\/(fm gL 1=fm gL 2/\N<=O/\m9<=J/\KNa C m s k1 k2 Y f p w3.heap.size w N O m9 J W))):=gf λW hl h=>by rw[Z,hmb]at hl h;subst F;exact nk (ni ⟨rfl,hl,h.1⟩)
       have SF:Hid (z<y->abD (C.x4 p) m s k1 k2=10):=gf λh=>by rw[Z,hmb]at h;rw[HF1.o];rw[if_pos h]
       have E1:Hid (max xa ya=y/\max y ya=y/\min xb yb=z/\min z yb=z):=gf (by obtain⟨e1,T,e3,e4⟩:=X.o;omega);clear F hK KQ
       go_upto_region 11 with fail
       obtain⟨W4,Sn⟩:=bs (eu wr (n6 #[f8 (fc ⟨Y.K4,p*12+7,fb⟩),fm gL m,fm gL s] 99));rw[<-Sn]at S0 ⊢;rw[<-hya,<-hyb]at B
       obtain⟨Q,hQ⟩:=bs (p*12+7))
     |(obtain⟨ST,F⟩:=bs (λa b W=>KNa C m s k1 k2 Y f p w3.heap.size w N O a b W/\W.heap[wr.heap.size]?=fc (n6 #[f8 (fc ⟨Y.K4,p*12+9,fb⟩),fm gL k1,fm gL k2] 99):Int->Int->ag->Prop)
       have B:Hid (Rnd Y.K4 (p*12+9) wr.heap.size k1 k2 ST):=gf (by
        subst F;have T4:∀a b W,KNa C m s k1 k2 Y f p w3.heap.size w N O a b W->Typ W Y.K4 49:=λa b W h=>h.own.t4.2.2.i λ_ k=>k.1
        exact⟨λa b W K h t=>⟨h.1.on t,(t.k _ (e7 h.2)).t h.2⟩,λa b W h=>(h.1.cell hp).2.2.1,λa b W h=>(h.1.cell hp).2.2.2,λa b W h=>(T4 _ _ _ h.1).e λ_ k=>tO k,λa b W h=>h.2,
         λa b W x h=>⟨h.1.set hp (r:=9) ab x,(aZ ((T4 _ _ _ h.1).ne ⟨_,h.2⟩ ao)).t h.2⟩,λa b W x h=>⟨h.1.set hp (r:=10) ab x,(aZ ((T4 _ _ _ h.1).ne ⟨_,h.2⟩ ao)).t h.2⟩⟩)
       obtain⟨xa,hxa⟩:=bs x9;obtain⟨xb,hxb⟩:=bs NT;obtain⟨ya,hya⟩:=bs k1;obtain⟨yb,hyb⟩:=bs k2;obtain⟨y,Z⟩:=bs m9;obtain⟨z,hmb⟩:=bs J;have S0:Hid (ST xa xb (eu wr (n6 #[f8 (fc ⟨Y.K4,p*12+9,fb⟩),fm gL k1,fm gL k2] 99))):=gf (by rw[hxa,hxb];subst F;exact⟨hK.on ((gg _ _).a (dk _) _),au _ _⟩);have SR:Hid (∀a b W,ST a b W->KNb C m s k1 k2 w W):=gf λa b W h=>by subst F;exact h.1.kb
       have SN:Hid (∀W,y<=z->ST y z W->((fm gL 2=fm gL 0/\KNa C m s k1 k2 Y f p w3.heap.size w x7 x8 x9 NT W)\/(fm gL 2=fm gL 1/\N<=O/\KNa C m s k1 k2 Y f p w3.heap.size w N O x9 NT W)\/(fm gL 2=fm gL 2/\N<=O/\m9<=J/\KNa C m s k1 k2 Y f p w3.heap.size w N O m9 J W))):=gf λW hl h=>by rw[Z,hmb]at hl h;subst F;exact nk (nk ⟨rfl,L,hl,h.1⟩)
       have SF:Hid (z<y->abD (C.x4 p) m s k1 k2=10):=gf λh=>by rw[Z,hmb]at h;rw[HF1.o];rw[if_neg ab,if_pos h]
       have E1:Hid (max xa ya=y/\max y ya=y/\min xb yb=z/\min z yb=z):=gf (by obtain⟨e1,T,e3,e4⟩:=X.o;omega);clear F hK KQ
       go_upto_region 11 with fail
       obtain⟨W4,Sn⟩:=bs (eu wr (n6 #[f8 (fc ⟨Y.K4,p*12+9,fb⟩),fm gL k1,fm gL k2] 99));rw[<-Sn]at S0 ⊢;rw[<-hya,<-hyb]at B
       obtain⟨Q,hQ⟩:=bs (p*12+9))
    rw[<-hQ]at B;clear Sn hxa hxb hya hyb Z hmb hQ q1 q2;obtain⟨P1,hP1⟩:∃P:ag->Prop,P=λW=>∃b,ST y b W:=⟨_,rfl⟩
    obtain⟨P2,hP2⟩:∃P:ag->Prop,P=λW=>∃a,ST a z W:=⟨_,rfl⟩
    obtain⟨CC,hCC⟩:∃P:ag->Prop,P=λW=>∃a b,(a=xa\/a=y)/\(b=xb\/b=z)/\ST a b W:=⟨_,rfl⟩
    obtain⟨LL,hLL⟩:=bs (λW K=>(P1 W->P1 K)/\(P2 W->P2 K):ag->ag->Prop);have CE:Hid (∀W,CC W->∃a b,(a=xa\/a=y)/\(b=xb\/b=z)/\eq W ⟨Y.K4,Q,fb⟩=fc (fm gL a)/\eq W ⟨Y.K4,Q+1,fb⟩=fc (fm gL b)/\(∀o,eE W ⟨Y.K4,o,fb⟩=ac)/\eq W ⟨wr.heap.size,0,fb⟩=fc (f8 (fc ⟨Y.K4,Q,fb⟩))/\eq W ⟨wr.heap.size,1,fb⟩=fc (fm gL ya)/\eq W ⟨wr.heap.size,2,fb⟩=fc (fm gL yb)):=gf λW h=>by
     subst hCC;obtain⟨a,b,h1,h2,h3⟩:=h;obtain⟨e0,e1,T⟩:=ahd (B.o.bx _ _ _ h3);exact⟨a,b,h1,h2,B.o.ca _ _ _ h3,B.o.cb _ _ _ h3,B.o.fz _ _ _ h3,e0,e1,T⟩
    have CO:Hid (∀W K,CC W->bL W K->CC K/\LL W K):=gf λW K h t=>by
     subst hCC hP1 hP2 hLL;obtain⟨a,b,h1,h2,h3⟩:=h;exact⟨⟨a,b,h1,h2,B.o.on _ _ _ _ h3 t⟩,λh=>h.i λ_ h=>B.o.on _ _ _ _ h t,λh=>h.i λ_ h=>B.o.on _ _ _ _ h t⟩
    have CS1:Hid (∀W,CC W->CC (eA W ⟨Y.K4,Q,fb⟩ (fm gL y))/\LL W (eA W ⟨Y.K4,Q,fb⟩ (fm gL y))/\P1 (eA W ⟨Y.K4,Q,fb⟩ (fm gL y))):=gf λW h=>by
     subst hCC hP1 hP2 hLL;obtain⟨a,b,h1,h2,h3⟩:=h;exact⟨⟨_,b,nk rfl,h2,B.o.sa _ _ _ _ h3⟩,⟨λh=>h.i λ_ h=>B.o.sa _ _ _ _ h,fun⟨_,h⟩=>⟨_,B.o.sa _ _ _ _ h⟩⟩,_,B.o.sa _ _ _ _ h3⟩
    have CS2:Hid (∀W,CC W->CC (eA W ⟨Y.K4,Q+1,fb⟩ (fm gL z))/\LL W (eA W ⟨Y.K4,Q+1,fb⟩ (fm gL z))/\P2 (eA W ⟨Y.K4,Q+1,fb⟩ (fm gL z))):=gf λW h=>by
     subst hCC hP1 hP2 hLL;obtain⟨a,b,h1,h2,h3⟩:=h;exact⟨⟨a,_,h1,nk rfl,B.o.sb _ _ _ _ h3⟩,⟨fun⟨_,h⟩=>⟨_,B.o.sb _ _ _ _ h⟩,λh=>h.i λ_ h=>B.o.sb _ _ _ _ h⟩,_,B.o.sb _ _ _ _ h3⟩
    have CN:Hid (∀W,P1 W->P2 W->ST y z W):=gf λW h k=>by
     subst hP1 hP2;obtain⟨b,h⟩:=h;obtain⟨a,k⟩:=k;have:=(B.o.ca _ _ _ h).y.t (B.o.ca _ _ _ k);obtain rfl:y=a:=by simpa using this
     exact k
    have CL:Hid (∀W K,LL W K->(P1 W->P1 K)/\(P2 W->P2 K)):=gf λW K h=>by rw[hLL]at h;exact h
    have CK:Hid (CC W4):=gf (by rw[hCC];exact⟨_,_,ni rfl,ni rfl,S0.o⟩);clear hCC hP1 hP2 hLL S0;refine wp_region_noPanic ?_;refine ig CC LL (λj=>j != 8&&j != 17&&j != 24&&j != 27) (am1 xa y xb z P1 P2) rfl ae (λ_ _ W K L h=>⟨h.1,h.2.1,λe=>(CL.o _ _ L).1 (h.2.2.1 e),λe=>(CL.o _ _ L).2 (h.2.2.2 e)⟩) (λi _ _ vs eX W he _ h=>⟨λe=>by subst e;rw[<-he];exact h.1 rfl,λe=>by subst e;rw[<-he];exact h.2.1 rfl,h.2.2⟩) ?_ ?_
    .exact(CO.o _ _ CK.o (gg _ _).d).1
    .iterate 8 (
      apply aY
      case hE=>rfl
      case h=>
       intro vs W g hd;obtain⟨a,b,I,hb,p7,p8,E,e0,e1,T⟩:=CE.o W g;have H:=(CO.o W W g (gg _ _)).2;clear I hb;go_simp
       first
        |with_reducible exact rfl
        |with_reducible exact⟨rfl,g,H⟩
      case hb=>exact E0)
     apply eH
     case hE=>rfl
     case hb=>exact E0
     case h=>
      intro vs W g hd;obtain⟨a,b,I,hb,p7,p8,E,e0,e1,T⟩:=CE.o W g;have H:=(CO.o W W g (gg _ _)).2;have HPH:Hid (am1 xa y xb z P1 P2 8 (upd vs 8 (fm gL a)) W):=gf ⟨λ_=>by rcases I with rfl|rfl<;>simp[upd],br,br,br⟩;clear I hb;go_simp;exact⟨g,H,HPH.o⟩
     iterate 3 (
      apply aY
      case hE=>rfl
      case h=>
       intro vs W g hd;obtain⟨a,b,I,hb,p7,p8,E,e0,e1,T⟩:=CE.o W g;have H:=(CO.o W W g (gg _ _)).2;clear I hb;go_simp
       first
        |with_reducible exact rfl
        |with_reducible exact⟨rfl,g,H⟩
      case hb=>exact E0)
     apply aY (v:=fm gL y)
     case hE=>rfl
     case hb=>exact E0
     case h=>
      intro vs W g hd;have h8:=(hd ⟨8,oh⟩ (cH.2 ⟨ar,rfl⟩) rfl).1 rfl;have H:=(CO.o W W g (gg _ _)).2;have w1:=E1.o.1;have w2:=E1.o.2.1
      rcases h8 with h8|h8
      .rw[h8];go_simp;first|exact⟨g,H⟩|refine⟨?_,g,H⟩
       all_goals first|(split<;>omega)|(intro _;omega)|omega
      .rw[h8];go_simp;first|exact⟨g,H⟩|refine⟨?_,g,H⟩
       all_goals first|(split<;>omega)|(intro _;omega)|omega
     iterate 4 (
      apply aY
      case hE=>rfl
      case h=>
       intro vs W g hd;obtain⟨a,b,I,hb,p7,p8,E,e0,e1,T⟩:=CE.o W g;have H:=(CO.o W W g (gg _ _)).2;clear I hb;go_simp
       first
        |with_reducible exact rfl
        |with_reducible exact⟨rfl,g,H⟩
      case hb=>exact E0)
     apply eH
     case hE=>rfl
     case hb=>exact E0
     case h=>
      intro vs W g hd;obtain⟨a,b,I,hb,p7,p8,E,e0,e1,T⟩:=CE.o W g;have H:=(CO.o W W g (gg _ _)).2;have HPH:Hid (am1 xa y xb z P1 P2 17 (upd vs 17 (fm gL b)) W):=gf ⟨br,λ_=>by rcases hb with rfl|rfl<;>simp[upd],br,br⟩;clear I hb;go_simp;exact⟨g,H,HPH.o⟩
     iterate 3 (
      apply aY
      case hE=>rfl
      case h=>
       intro vs W g hd;obtain⟨a,b,I,hb,p7,p8,E,e0,e1,T⟩:=CE.o W g;have H:=(CO.o W W g (gg _ _)).2;clear I hb;go_simp
       first
        |with_reducible exact rfl
        |with_reducible exact⟨rfl,g,H⟩
      case hb=>exact E0)
     apply aY (v:=fm gL z)
     case hE=>rfl
     case hb=>exact E0
     case h=>
      intro vs W g hd;have h8:=(hd ⟨17,oh⟩ (cH.2 ⟨ar,rfl⟩) rfl).2.1 rfl;have H:=(CO.o W W g (gg _ _)).2;have w1:=E1.o.2.2.1;have w2:=E1.o.2.2.2
      rcases h8 with h8|h8
      .rw[h8];go_simp;first|exact⟨g,H⟩|refine⟨?_,g,H⟩
       all_goals first|(split<;>omega)|(intro _;omega)|omega
      .rw[h8];go_simp;first|exact⟨g,H⟩|refine⟨?_,g,H⟩
       all_goals first|(split<;>omega)|(intro _;omega)|omega
     iterate 2 (
      apply aY
      case hE=>rfl
      case h=>
       intro vs W g hd;obtain⟨a,b,I,hb,p7,p8,E,e0,e1,T⟩:=CE.o W g;have H:=(CO.o W W g (gg _ _)).2;clear I hb;go_simp
       first
        |with_reducible exact rfl
        |with_reducible exact⟨rfl,g,H⟩
      case hb=>exact E0)
     apply eH
     case hE=>rfl
     case hb=>exact E0
     case h=>
      intro vs W g hd;obtain⟨a,b,I,hb,p7,p8,E,e0,e1,T⟩:=CE.o W g;obtain⟨c1,V,c3⟩:=CS1.o W g;have K9:Hid (CC (eA W ⟨Y.K4,Q,fb⟩ (fm gL y))/\LL W (eA W ⟨Y.K4,Q,fb⟩ (fm gL y))/\am1 xa y xb z P1 P2 24 (upd vs 24 undef) (eA W ⟨Y.K4,Q,fb⟩ (fm gL y))):=gf ⟨c1,V,br,br,λ_=>c3,br⟩;clear I hb c1 V c3;go_simp;exact K9.o
     iterate 2 (
      apply aY
      case hE=>rfl
      case h=>
       intro vs W g hd;obtain⟨a,b,I,hb,p7,p8,E,e0,e1,T⟩:=CE.o W g;have H:=(CO.o W W g (gg _ _)).2;clear I hb;go_simp
       first
        |with_reducible exact rfl
        |with_reducible exact⟨rfl,g,H⟩
      case hb=>exact E0)
     apply eH
     case hE=>rfl
     case hb=>exact E0
     case h=>
      intro vs W g hd;obtain⟨a,b,I,hb,p7,p8,E,e0,e1,T⟩:=CE.o W g;obtain⟨c1,V,c3⟩:=CS2.o W g;have K9:Hid (CC (eA W ⟨Y.K4,Q+1,fb⟩ (fm gL z))/\LL W (eA W ⟨Y.K4,Q+1,fb⟩ (fm gL z))/\am1 xa y xb z P1 P2 27 (upd vs 27 undef) (eA W ⟨Y.K4,Q+1,fb⟩ (fm gL z))):=gf ⟨c1,V,br,br,br,λ_=>c3⟩;clear I hb c1 V c3;go_simp;exact K9.o
     refine cP λvs W g hd=>?_;have S2:=gf (CN.o W ((hd 24 ab rfl).2.2.1 rfl) ((hd 27 ab rfl).2.2.2 rfl));refine NoPanic.normal ?_;clear g hd CE CO CS1 CS2 CN CL CK;obtain⟨e0,e1,T⟩:=ahd (B.o.bx _ _ _ S2.o);have p7:=B.o.ca _ _ _ S2.o;have p8:=B.o.cb _ _ _ S2.o
     go_upto_region 12 with fail
     go_quiet (fail)
     have S3:=gf (B.o.on _ _ _ _ S2.o (below_drewN (gg _ _) nq));clear e0 e1 T p7 p8 S2;by_cases hgt:z<y
     .have KX:=gf (SR.o _ _ _ S3.o);have u:=KX.o.res;obtain⟨y0,y1,y2,y3,y4,y5⟩:=bf u;have E:=tO u;have A:=e7 u;have R:=gf (SF.o hgt);clear u
      go_wp2_with fail
      clear y0 y1 y2 y3 y4 y5 E A;have S:=nC (u0:=fm gL 0) (u1:=fm gL 0) (u2:=fR fb 0 0) (u3:=fR fb 0 0) (u4:=fR fb 0 0) (u5:=fR fb 0 0) KX.o.res;refine a8 (v:=fB #[fJ RX,fm gL 10]) ?_ rfl ⟨ge KX.o.low ab _ _ _ _ _ _,ni ⟨by rw[R.o];decide,by rw[R.o]⟩⟩;obtain⟨c0,c1,V,c3,c4,c5⟩:=bf S;simp[a9,kc,go_sem,c0,c1,V,c3,c4,c5]
     .go_wp2_with fail
      exact⟨SN.o _ ab S3.o,by simp[intOf]⟩
def aez(C:CD)(a b c k1 k2:Int):Int:=if C.b6 (bO a 0 (C.n4-1))=0 then abD (C.x4 a.toNat) b c k1 k2 else C.b6 (bO a 0 (C.n4-1))
def CD.amS(C:CD)(p:Nat)(a b k1 k2:Int):CD:={ C with x4:=λj=>if j=p then abn (C.x4 j) a b k1 k2 else C.x4 j }
def ahe(h:J.b6 (bO L 0 (J.n4-1))=0):J.cx=0/\∃p:Nat,L=p/\p<J.n4:=by
 unfold CD.b6 at h;split at h
 .rename_i hc;split at h
  .rename_i hb;simp only[bO,dd,decide_eq_true_eq]at hb;exact⟨hc,L.toNat,ab,ab⟩
  .cases h
 .rename_i hc;exact absurd h hc
def amT(C:CD)(l a b k1 k2:Int)(w:ag)(h:C.At w):aI PL 17 #[fJ C.val,fm gL l,fJ #[fm gL a,fm gL b],fJ #[fm gL k1,fm gL k2]] w (aaG C (C.amS l.toNat a b k1 k2) (aez C l a b k1 k2) w):=by
 have J:0<w.heap.size:=by have:=h.h2;omega
 by_cases hf:C.b6 (bO l 0 (C.n4-1))=0
 .obtain⟨hc,p,rfl,K⟩:=ahe hf;rw[aez,if_pos hf,pj];refine(ahA C p a b k1 k2 w h hc K).m ?_;rintro e w'⟨c,⟨t,rfl⟩|⟨t,Y,f,rfl,L,F⟩⟩
  .exact aaG.dP t c (bT J c.z)
  .rw[t];refine⟨C.KD Y λj=>if j=p then abn (f j) a b k1 k2 else f j,rfl,F.mem.at_,?_,c,λw0 _=>F.far _⟩;rw[if_pos rfl];refine⟨rfl,rfl,rfl,λ_ _=>rfl,rfl,λ_ _=>rfl,rfl,λi _=>?_,rfl,λ_ _=>rfl⟩;have k:=L.1 i;show((if i=p then abn (f i) a b k1 k2 else f i):iJ).name=((if i=p then abn (C.x4 i) a b k1 k2 else C.x4 i):iJ).name/\(∀j,1<=j->j<=10->((if i=p then abn (f i) a b k1 k2 else f i):iJ).n j=((if i=p then abn (C.x4 i) a b k1 k2 else C.x4 i):iJ).n j)/\((if i=p then abn (f i) a b k1 k2 else f i):iJ).ln=((if i=p then abn (C.x4 i) a b k1 k2 else C.x4 i):iJ).ln/\∀j,j<((if i=p then abn (C.x4 i) a b k1 k2 else C.x4 i):iJ).ln->((if i=p then abn (f i) a b k1 k2 else f i):iJ).lane j=((if i=p then abn (C.x4 i) a b k1 k2 else C.x4 i):iJ).lane j;by_cases e:i=p
   .simp only[e,if_true];rw[e]at k;exact⟨k.name,λj _ _=>by simp only[abn,abd,k.n],k.ln,λj _=>by show(f p).lane j=(C.x4 p).lane j;rw[k.lane]⟩
   .simp only[e,if_false];exact⟨k.name,λj _ _=>by rw[k.n],k.ln,λj _=>by rw[k.lane]⟩
 .rw[aez,if_neg hf];have M:=gf h;have m4:=h.m4;obtain⟨z,u⟩:=bs (bO l 0 (C.n4-1));have IG:Hid (∀W,aI PL 46 #[fJ C.val,fm gL l] W (aO (f6 z) W)):=gf λW=>by rw[u];exact AE C l W m4
  rw[<-u]at hf ⊢;obtain⟨H,m⟩:=bs (C.b6 z);have N:Hid (∀W,C.At W->aI PL 31 #[fJ C.val,f6 z] W (aO (fB #[fJ #[fm gL 0,fm gL 0,fR fb 0 0,fR fb 0 0,fR fb 0 0,fR fb 0 0],fm gL H]) W)):=gf λW O=>by
   have:=Ev C z W O;rw[anF hf,<-m]at this;exact this
  rw[<-m]at hf ⊢;have P:=gf hf;have Q:(H != 0)=aa:=by simpa using hf
  have A4:=gf (agy w (n6 C.val 27) (n6 #[fm gL a,fm gL b] 30) (n6 #[fm gL k1,fm gL k2] 30) (n6 RX 27));clear h u m hf;go_enter (fx ao j5),j6
  go_upto_region 1 with fail
  obtain⟨v,y⟩:=bs (eu (eu (eu (eu w (n6 C.val 27)) (n6 #[fm gL a,fm gL b] 30)) (n6 #[fm gL k1,fm gL k2] 30)) (n6 RX 27));have R:Hid (KNb C a b k1 k2 w v):=gf (by rw[y];exact⟨A4.o.1,A4.o.2.1,A4.o.2.2.1,A4.o.2.2.2.1,A4.o.2.2.2.2⟩);rw[<-y];clear y A4;refine cT 10 (KNb C a b k1 k2 w) LeZ (λj=>j != 8&&j != 9) (awK (w.heap.size+3)) rfl ae ae
   (λi vs W I A h e=>(h e).i λk s=>⟨s.1,s.2.1,A k s.2.2⟩) (λi o ho vs eX W S hd h e=>by subst e;rw[<-S];exact h rfl) (R.o.on (gg _ _).d) ?_
  iterate 8 (
   apply aY
   case hE=>rfl
   case h=>
    intro vs W d hd;obtain⟨T,U,V,X,f4,Z⟩:=bf d.box;go_simp
    first
    |(go_at_call 46;(with_reducible refine(IG.o _).m ?_);rintro e I⟨rfl,c⟩;exact⟨_,rfl,rfl,d.on c,LeZ.on c⟩)
    |(go_at_call 31;(with_reducible refine(N.o _ (M.o.below d.low)).m ?_);rintro e I⟨rfl,c⟩;exact⟨_,rfl,rfl,d.on c,LeZ.on c⟩)
    |exact⟨rfl,LeZ.on (gg _ _)⟩
   case hb=>exact E0)
  apply eH
  case hE=>rfl
  case hb=>exact E0
  case h=>
   intro vs W d hd;go_simp;have c:=(gg W.heap.size W).a (dk _) (n6 #[fm gL 0,fm gL 0,fR fb 0 0,fR fb 0 0,fR fb 0 0,fR fb 0 0] 78);exact⟨d.on c,LeZ.on c,λ_=>⟨W.heap.size,by simp[upd],e7 d.res,_,_,_,_,_,_,au W _⟩⟩
  apply eH
  case hE=>rfl
  case hb=>exact E0
  case h=>
   intro vs W d hd;obtain⟨k,s,r,x0,x1,x2,x3,x4,x5,B⟩:=hd ⟨8,oh⟩ (cH.2 ⟨ar,rfl⟩) rfl rfl;obtain⟨T,U,V,X,f4,Z⟩:=bf B;have fz:=tO B;rw[s];go_simp;refine⟨(((((d.set r _).set r _).set r _).set r _).set r _).set r _,λq D=>?_,br⟩;by_cases e:q=k
   .subst e;exact⟨_,_,_,_,_,_,nC B⟩
   .obtain⟨_,_,_,_,_,_,D⟩:=D;exact⟨_,_,_,_,_,_,(cM e).t D⟩
  refine cP λvs W d hd=>?_;have E:=gf d;clear d hd;obtain⟨y0,y1,y2,y3,y4,y5,fz,hzr⟩:=agx E.o.res;go_wp2;refine aaG.ends E.o.res E.o.low ab P.o rfl λg=>?_;simp[a9,kc,go_sem,g]
def ahf(a b c d:Int)(w:ag):aI PL 51 #[fJ #[fm gL a,fm gL b],fJ #[fm gL c,fm gL d]] w (aO (fJ #[fm gL (max a c),fm gL (min b d)]) w):=by
 obtain⟨x,e⟩:=bs (max a c);obtain⟨y,hy⟩:=bs (min b d);have f:=gf e;have h:=gf hy;rw[<-e,<-hy];clear e hy;go_enter (fx ao Tryz.func51),Tryz.ntmps51;go_wp2
 all_goals (
  first
   |(refine a8 (v:=fJ #[fm gL x,fm gL y]) ?_ rfl ⟨rfl,?_⟩
     .rw[f.o,h.o];simp[a9,Tryz.results51,go_sem]<;>omega
     .exact(((gg _ _).a (dk _) _).a ar _).a (by simp;omega) _))
def abW(x:iJ)(a b c d:Int)(q:Nat)(h:q<12):(aaD (abd x a b c d))[q]?=if q=7 then fc (fm gL a) else if q=8 then fc (fm gL b) else if q=9 then fc (fm gL c) else if q=10 then fc (fm gL d) else(aaD x)[q]?:=by
 by_cases f:q=0
 .subst f;rfl
 by_cases e:q=11
 .subst e;rfl
 rw[aam _ ab ab,aam _ ab ab];simp only[abd];split
 .rfl
 .split
  .rfl
  .split
   .rfl
   .split<;>rfl
structure KRn(C:CD)(w:ag)(z g c p ka kb:Nat)(a1 a2 b1 b2:Int)(s t:Bool)(W:ag):Prop where
 low:bL w W
 res:W.heap[w.heap.size+1+1+1]?=fc (n6 RX 27)
 box:W.heap[z]?=fc (n6 #[fm gL C.l,fm gL C.p,fR C.b2 C.n2 C.c2,fR C.b3 C.n3 C.c3,fR (fc ⟨g,0,fb⟩) C.n4 c,fR C.b5 C.n5 C.c5] 27)
 ba:W.heap[ka]?=fc (n6 #[fm gL a1,fm gL a2] 30)
 bb:W.heap[kb]?=fc (n6 #[fm gL b1,fm gL b2] 30)
 gl:w.heap.size<=g
 row:∃cur,W.heap[g]?=fc (n6 cur 49)/\C.n4*12<=cur.size/\∀j,j<C.n4->∀q,q<12->cur[j*12+q]?=(aaD (if j=p/\(s=aa/\(q=7\/q=8)\/t=aa/\(q=9\/q=10)) then abd (C.x4 j) a1 a2 b1 b2 else C.x4 j))[q]?
section
variable {C:CD}{w:ag}{z g c p ka kb:Nat}{a1 a2 b1 b2:Int}{s t:Bool}{W W':ag}
def KRn.on(h:KRn C w z g c p ka kb a1 a2 b1 b2 s t W)(a:bL W W'):KRn C w z g c p ka kb a1 a2 b1 b2 s t W':=
 ⟨f9 h.low a,(a.k _ (e7 h.res)).t h.res,(a.k _ (e7 h.box)).t h.box,(a.k _ (e7 h.ba)).t h.ba,(a.k _ (e7 h.bb)).t h.bb,h.gl,h.row.i λ_ k=>⟨(a.k _ (e7 k.1)).t k.1,k.2⟩⟩
def KRn.has(h:KRn C w z g c p ka kb a1 a2 b1 b2 s t W)(b:p<C.n4){q:Nat}(d:q<12):∃v,eq W ⟨g,p*12+q,fb⟩=fc v:=by
 obtain⟨a,e,hs,_⟩:=h.row;simp only[eq,e];exact⟨a[p*12+q]' ab,ar⟩
def KRn.ax3(h:KRn C w z g c p ka kb a1 a2 b1 b2 s t W)(x:p<C.n4):KRn C w z g c p ka kb a1 a2 b1 b2 aa t (eA (eA W ⟨g,p*12+7,fb⟩ (fm gL a1)) ⟨g,p*12+8,fb⟩ (fm gL a2)):=by
 obtain⟨d,e,hs,f⟩:=h.row;have l:g≠w.heap.size+1+1+1:=iu e h.res ao;have m:g≠z:=iu e h.box ao;have n:g≠ka:=iu e h.ba ao;have o:g≠kb:=iu e h.bb ao;refine⟨(h.low.s (p:=⟨g,_,fb⟩) h.gl _).s (p:=⟨g,_,fb⟩) h.gl _,(aZ l).t ((aZ l).t h.res),(aZ m).t ((aZ m).t h.box),(aZ n).t ((aZ n).t h.ba),(aZ o).t ((aZ o).t h.bb),h.gl,_,Fe (Fe e),by simpa using hs,λj r q u=>?_⟩;have f:=f j r q u;simp only[eh,o0];by_cases i:j=p/\(q=7\/q=8)
 .obtain⟨rfl,k⟩:=i;have v:j*12+q<d.size:=ab
  rcases k with rfl|rfl<;>simp[v,abW]
 .rw[if_neg ab,if_neg ab,f];congr 3;simp only[eq_iff_iff];constructor
  .rintro⟨b,a|a⟩
   .exact absurd ⟨b,a.2⟩ i
   .exact⟨b,nk a⟩
  .rintro⟨b,a|a⟩
   .exact absurd ⟨b,a.2⟩ i
   .exact⟨b,nk a⟩
def KRn.ax4(h:KRn C w z g c p ka kb a1 a2 b1 b2 s t W)(x:p<C.n4):KRn C w z g c p ka kb a1 a2 b1 b2 s aa (eA (eA W ⟨g,p*12+9,fb⟩ (fm gL b1)) ⟨g,p*12+10,fb⟩ (fm gL b2)):=by
 obtain⟨d,e,hs,f⟩:=h.row;have l:g≠w.heap.size+1+1+1:=iu e h.res ao;have m:g≠z:=iu e h.box ao;have n:g≠ka:=iu e h.ba ao;have o:g≠kb:=iu e h.bb ao;refine⟨(h.low.s (p:=⟨g,_,fb⟩) h.gl _).s (p:=⟨g,_,fb⟩) h.gl _,(aZ l).t ((aZ l).t h.res),(aZ m).t ((aZ m).t h.box),(aZ n).t ((aZ n).t h.ba),(aZ o).t ((aZ o).t h.bb),h.gl,_,Fe (Fe e),by simpa using hs,λj r q u=>?_⟩;have f:=f j r q u;simp only[eh,o0];by_cases i:j=p/\(q=9\/q=10)
 .obtain⟨rfl,k⟩:=i;have v:j*12+q<d.size:=ab
  rcases k with rfl|rfl<;>simp[v,abW]
 .rw[if_neg ab,if_neg ab,f];congr 3;simp only[eq_iff_iff];constructor
  .rintro⟨b,a|a⟩
   .exact⟨b,ni a⟩
   .exact absurd ⟨b,a.2⟩ i
  .rintro⟨b,a|a⟩
   .exact⟨b,ni a⟩
   .exact absurd ⟨b,a.2⟩ i
end
def aeB(C:CD)(p:Nat)(a1 a2 b1 b2:Int)(j:Nat):iJ:=if j=p then abd (C.x4 j) a1 a2 b1 b2 else C.x4 j
def afL(C:CD)(p:Nat)(a1 a2 b1 b2:Int)(i:Nat):aii (C.x4 i) (aeB C p a1 a2 b1 b2 i):=by
 unfold aeB;split
 .exact⟨rfl,rfl,rfl,rfl,rfl,rfl⟩
 .exact⟨rfl,rfl,rfl,rfl,rfl,rfl⟩
def KRn.at_{g c p ka kb:Nat}{a2 b1 b2:Int}{W d:ag}(hA:J.At q)(h:KRn J q C g c p ka kb L a2 b1 b2 aa aa W)(l:bL q d)(hs:W.heap.size<=d.heap.size)(hb:∀b,b≠q.heap.size+1+1+1->d.heap[b]?=W.heap[b]?):(J.afI (aeB J p L a2 b1 b2) g c).At d:=by
 obtain⟨f,e,r,m⟩:=h.row;have n:g≠q.heap.size+1+1+1:=iu e h.res ao;refine anI hA l (afL J p L a2 b1 b2) (bT (e7 e) hs) λj o z k=>?_;have:=m j o z k;have hcell:eq d ⟨g,j*12+z,fb⟩=f[j*12+z]?:=by simp[eq,hb g n,e]
 rw[hcell,this];unfold aeB;by_cases a:j=p
 .rw[if_pos a];by_cases i:(z=7\/z=8)\/z=9\/z=10
  .rw[if_pos ⟨a,i.imp (λh=>⟨rfl,h⟩) λh=>⟨rfl,h⟩⟩]
  .rw[if_neg ab,abW _ _ _ _ _ _ k,if_neg ab,if_neg ab,if_neg ab,if_neg ab]
 .rw[if_neg a,if_neg (λh=>a h.1)]
structure aeC(n0:Nat)(a1 a2:Int)(j:Nat)(vs:Nat->aP)(W:ag):Prop where
 c16:j=16->∃k,vs 16=f8 (fc ⟨k,0,fb⟩)/\n0<=k/\k<W.heap.size/\∃x y,W.heap[k]?=fc (n6 #[x,y] 30)
 c17:j=17->∃k,vs 17=f8 (fc ⟨k,0,fb⟩)/\n0<=k/\k<W.heap.size/\W.heap[k]?=fc (n6 #[fm gL 0,fm gL 0] 30)
 c18:j=18->∃k,vs 16=f8 (fc ⟨k,0,fb⟩)/\W.heap[k]?=fc (n6 #[fm gL a1,fm gL a2] 30)
def eRn(t:Nat):Bool:=t != 16&&t != 17&&t != 18
def asd(i j:Nat)(u v:aP):Prop:=(i=16/\j=17\/i=17/\j=16)->u≠v
def aeC.le{j:Nat}{a2:Int}{W':ag}(h:aeC C L a2 j O q)(f:bL q W'):aeC C L a2 j O W':=
 ⟨λe=>(h.c16 e).i λ_⟨a,b,c,x,y,d⟩=>⟨a,b,bT c f.z,x,y,(f.k _ c).t d⟩,λe=>(h.c17 e).i λ_⟨a,b,c,d⟩=>⟨a,b,bT c f.z,(f.k _ c).t d⟩,λe=>(h.c18 e).i λ_⟨a,d⟩=>⟨a,(f.k _ (e7 d)).t d⟩⟩
def alE{a2:Int}{D:List Nat}{i:Nat}(h:C<=q.heap.size)(hi:i=16\/i=17)(hd:∀j∈D,eRn j=ac->aeC C L a2 j O q) :
 (∀j∈D,eRn j=ac->aeC C L a2 j O (eu q (n6 #[fm gL 0,fm gL 0] 30)))/\aeC C L a2 i (upd O i (f8 (fc ⟨q.heap.size,0,fb⟩))) (eu q (n6 #[fm gL 0,fm gL 0] 30))/\∀j∈D,eRn j=ac->asd j i (O j) (f8 (fc ⟨q.heap.size,0,fb⟩)):=by
 have k:=(gg q.heap.size q).a (dk _) (n6 #[fm gL 0,fm gL 0] 30);refine⟨λj d f=>(hd j d f).le k,⟨λe=>⟨q.heap.size,by simp[upd,e],h,ar,_,_,au _ _⟩,λe=>⟨q.heap.size,by simp[upd,e],h,ar,au _ _⟩,λe=>ab⟩,λj d f e1 e=>?_⟩;obtain⟨n0,a,b⟩:∃n0,O j=f8 (fc ⟨n0,0,fb⟩)/\n0<q.heap.size:=by
  rcases e1 with⟨rfl,_⟩|⟨rfl,_⟩
  .obtain⟨n0,a,_,b,_⟩:=(hd _ d f).c16 rfl;exact⟨n0,a,b⟩
  .obtain⟨n0,a,_,b,_⟩:=(hd _ d f).c17 rfl;exact⟨n0,a,b⟩
 rw[a]at e;cases e;exact dt _ b
def CRn(C:CD)(w:ag)(z g c p ka kb:Nat)(a1 a2 b1 b2:Int)(W:ag):Prop:=∃s,KRn C w z g c p ka kb a1 a2 b1 b2 s ac W
def LRn(C:CD)(w:ag)(z g c p ka kb:Nat)(a1 a2 b1 b2:Int)(W W':ag):Prop:=KRn C w z g c p ka kb a1 a2 b1 b2 aa ac W->KRn C w z g c p ka kb a1 a2 b1 b2 aa ac W'
def ahB(C:CD)(p:Nat)(m r k1 k2:Int)(w:ag)(h:C.At w)(hc:C.cx=0)(J:p<C.n4) :
 aI PL 18 #[fJ C.val,fm gL p,fJ #[fm gL m,fm gL r],fJ #[fm gL k1,fm gL k2]] w (aaG C (C.amS p m r k1 k2) (abD (C.x4 p) m r k1 k2) w):=by
 have HA:=gf h;have m4:=h.m4;have FA:0<w.heap.size:=by have:=h.h2;omega
 have AK:Hid (∀W,C.At W->aI PL 49 #[fJ C.val,fm gL p] W (aO (fm gL 0) W)):=gf λW hW=>Kt (by rw[CD.b6,if_pos hc,if_pos (by simp[bO];omega)]) hW;have A4:=gf (agy w (n6 C.val 27) (n6 #[fm gL m,fm gL r] 30) (n6 #[fm gL k1,fm gL k2] 30) (n6 RX 27));have S4:=gf (h.s4 ab);have r4:Hid (∀W,bL w W->∀j u,C.afs[j]?=fc u->eq W ⟨C.k4,C.o4+j,fb⟩=fc u):=gf λW d=>(h.below d).afs;obtain⟨n7,N⟩:=bs ((C.x4 p).n 7);obtain⟨n8,O⟩:=bs ((C.x4 p).n 8);obtain⟨n9,P⟩:=bs ((C.x4 p).n 9);obtain⟨Q,S⟩:=bs ((C.x4 p).n 10);have PC:Hid (∀W,bL w W->eq W ⟨C.k4,C.o4+p*12+7,fb⟩=fc (fm gL n7)/\eq W ⟨C.k4,C.o4+p*12+8,fb⟩=fc (fm gL n8)/\eq W ⟨C.k4,C.o4+p*12+9,fb⟩=fc (fm gL n9)/\eq W ⟨C.k4,C.o4+p*12+10,fb⟩=fc (fm gL Q)):=gf λW d=>by
  have a:=h.below d;rw[N,O,P,S];exact⟨a.dB p J 7 ab ab,a.dB p J 8 ab ab,a.dB p J 9 ab ab,a.dB p J 10 ab ab⟩
 have pn:(p:Int)<C.n4:=ab;obtain⟨R,hR⟩:=bs (abD (C.x4 p) m r k1 k2);rw[<-hR];unfold abD at hR;rw[<-N,<-O,<-P,<-S]at hR;have HR:=gf hR;have NQ:Hid (abn (C.x4 p) m r k1 k2=abd (C.x4 p) (max n7 m) (min n8 r) (max n9 k1) (min Q k2)):=gf (by rw[N,O,P,S];rfl);have BO1:=gf (ahf n7 n8 m r);have BO2:=gf (ahf n9 Q k1 k2);obtain⟨a1,ha1⟩:=bs (max n7 m);obtain⟨a2,ha2⟩:=bs (min n8 r);obtain⟨b1,lq⟩:=bs (max n9 k1);obtain⟨b2,eP⟩:=bs (min Q k2);rw[<-ha1,<-ha2,<-lq,<-eP]at HR NQ;rw[<-ha1,<-ha2]at BO1;rw[<-lq,<-eP]at BO2;clear h hc hR N O P S ha1 ha2 lq eP;obtain⟨i1,Gu⟩:=bs (eK m r 0 60);obtain⟨i2,Xj⟩:=bs (eK k1 k2 0 60);have U:Hid (∀W,aI PL 50 #[fJ #[fm gL m,fm gL r],fm gL 0,fm gL 60] W (aO (f6 i1) W)):=gf λW=>by rw[Gu];exact kB m r 0 60 W
 have IN2:Hid (∀W,aI PL 50 #[fJ #[fm gL k1,fm gL k2],fm gL 0,fm gL 60] W (aO (f6 i2) W)):=gf λW=>by rw[Xj];exact kB k1 k2 0 60 W
 rw[<-Gu,<-Xj]at HR;clear Gu Xj;go_enter (fx ao kd),ke
 go_upto_region 1 with fail
 obtain⟨W0,kS⟩:=bs (eu (eu (eu (eu w (n6 C.val 27)) (n6 #[fm gL m,fm gL r] 30)) (n6 #[fm gL k1,fm gL k2] 30)) (n6 RX 27));have K0:Hid (KNb C m r k1 k2 w W0):=gf (by rw[kS];exact⟨A4.o.1,A4.o.2.1,A4.o.2.2.1,A4.o.2.2.2.1,A4.o.2.2.2.2⟩);rw[<-kS];clear kS A4;obtain⟨f0,f1,f2,f3,f4,f5⟩:=bf K0.o.box
 go_upto_region 4 with(go_at_call 49;(with_reducible refine(AK.o _ (HA.o.below K0.o.low)).m ?_);rintro e w1⟨rfl,d⟩;have K:=gf (K0.o.on d);clear d f0 f1 f2 f3 f4 f5)
 obtain⟨g0,g1⟩:=H9 K.o.b1;obtain⟨x,y⟩:=H9 K.o.b2
 cases i1 with
 |false=>
  obtain rfl:R=1:=by rw[HR.o];rfl
  go_upto_region 5 with(go_at_call 50;(with_reducible refine(U.o _).m ?_);rintro e w2⟨rfl,d⟩;have L:=gf (K.o.on d);clear d g0 g1 x y)
  obtain⟨y0,y1,y2,y3,y4,y5,M,V⟩:=agx L.o.res;go_wp2;refine aaG.ends L.o.res L.o.low ab ao rfl λg=>?_;simp[a9,kf,go_sem,g]
 |true=>
  cases i2 with
  |false=>
   obtain rfl:R=1:=by rw[HR.o];rfl
   go_upto_region 5 with(first|(go_at_call 50;(with_reducible refine(U.o _).m ?_);rintro e w2⟨rfl,d⟩;have L:=gf (K.o.on d);clear d g0 g1 x y;obtain⟨x,y⟩:=H9 L.o.b2)|(go_at_call 50;(with_reducible refine(IN2.o _).m ?_);rintro e w3⟨rfl,d⟩;have K3:=gf (L.o.on d);clear d x y))
   obtain⟨y0,y1,y2,y3,y4,y5,M,V⟩:=agx K3.o.res;go_wp2;refine aaG.ends K3.o.res K3.o.low ab ao rfl λg=>?_;simp[a9,kf,go_sem,g]
  |true=>
   go_upto_region 6 with(first|(go_at_call 50;(with_reducible refine(U.o _).m ?_);rintro e w2⟨rfl,d⟩;have L:=gf (K.o.on d);clear d g0 g1 x y;obtain⟨x,y⟩:=H9 L.o.b2)|(go_at_call 50;(with_reducible refine(IN2.o _).m ?_);rintro e w3⟨rfl,d⟩;have K3:=gf (L.o.on d);clear d x y))
   clear K0 K L U IN2 AK;refine iL 19 16 (λ_ W=>bL w3 W) (λW W'=>bL W W') eRn (λ_=>aeC w3.heap.size a1 a2) asd (λ_ _ _ _ h e=>(h (e.symm.imp hH hH)).symm) rfl ae ae rfl
    (λ_ i vs W W' hle h=>h.le hle) (λj o ho vs eX W he aaZ _ h=>⟨λe=>by subst e;rw[<-he];exact h.c16 rfl,λe=>by subst e;rw[<-he];exact h.c17 rfl,λe=>?_⟩) (gg _ _).d ?_
   .subst e;have e10:vs 16=eX 16:=by
     simp only[gw,fP,ft,kj]at ho;subst ho;exact aaZ ⟨16,oh⟩ (cH.2 ⟨ar,rfl⟩)
    rw[<-e10];exact h.c18 rfl
   iterate 16 (
    apply iK
    case hE=>rfl
    case h=>
     intro vs W _ f hd;have KK:=K3.o.on f;obtain⟨f0,f1,f2,f3,f4,f5⟩:=bf KK.box;rw[S4.o]at f4;obtain⟨g0,g1⟩:=H9 KK.b1;obtain⟨x,y⟩:=H9 KK.b2;obtain⟨t7,t8,t9,t10⟩:=PC.o W KK.low;clear KK;go_simp
     first
      |(go_at_call 51;(with_reducible refine(BO1.o _).m ?_);rintro e w1⟨rfl,d⟩;exact⟨_,rfl,rfl,f9 f d,d⟩)
      |(go_at_call 51;(with_reducible refine(BO2.o _).m ?_);rintro e w1⟨rfl,d⟩;exact⟨_,rfl,rfl,f9 f d,d⟩)
      |exact⟨rfl,f,gg _ _⟩
      |exact⟨rfl,gg _ _⟩
    case hb=>exact E0)
   iterate 2 (
    apply ey
    case hE=>rfl
    case hb=>exact E0
    case h=>
     intro vs W D _ _ f _ hi _ hd hP;go_simp
     exact⟨f.a f.z _,alE f.z ar hd⟩)
   apply ey
   case hE=>rfl
   case hb=>exact E0
   case h=>
    intro vs W D _ _ f jw hi _ hd hP;have m16:16∈D:=jw ⟨16,oh⟩ (cH.2 ⟨ar,rfl⟩);have m17:17∈D:=jw ⟨17,.phase⟩ (cH.2 ⟨ar,rfl⟩);obtain⟨ka,Du,hla,alY,x0,x1,RI⟩:=(hd 16 m16 rfl).c16 rfl;obtain⟨kb,NZ,Tg,ab0,iC⟩:=(hd 17 m17 rfl).c17 rfl;have bu:ka≠kb:=λe=>hP 16 m16 17 m17 ao rfl rfl (ni ⟨rfl,rfl⟩) (by rw[Du,NZ,e]);have M:=tO RI;rw[Du];obtain⟨t0,t1⟩:=H9 RI;have SB1:Hid (bL w3 (eA (eA W ⟨ka,0,fb⟩ (fm gL a1)) ⟨ka,1,fb⟩ (fm gL a2))):=gf ((f.s (p:=⟨ka,0,fb⟩) hla _).s (p:=⟨ka,1,fb⟩) hla _);have SZ1:Hid ((eA (eA W ⟨ka,0,fb⟩ (fm gL a1)) ⟨ka,1,fb⟩ (fm gL a2)).heap.size=W.heap.size):=gf (by simp only[lj]);have SG1:Hid ((eA (eA W ⟨ka,0,fb⟩ (fm gL a1)) ⟨ka,1,fb⟩ (fm gL a2)).heap[ka]?=fc (n6 #[fm gL a1,fm gL a2] 30)):=gf (Fe (Fe RI));have SO1:Hid ((eA (eA W ⟨ka,0,fb⟩ (fm gL a1)) ⟨ka,1,fb⟩ (fm gL a2)).heap[kb]?=fc (n6 #[fm gL 0,fm gL 0] 30)):=gf ((aZ bu).t ((aZ bu).t iC));have HKA:=gf Du;have HKB:=gf NZ;have HLA:=gf hla;have A:=gf Tg;clear hd hP f iC;go_simp;refine⟨SB1.o,λj hj hE=>?_,⟨br,br,λ_=>⟨ka,by simp[upd,HKA.o],SG1.o⟩⟩,λj _ _ e=>ab⟩;exact⟨λe=>⟨ka,HKA.o,HLA.o,by rw[SZ1.o];exact alY,_,_,SG1.o⟩,λe=>⟨kb,HKB.o,A.o,by rw[SZ1.o];exact ab0,SO1.o⟩,λe=>⟨ka,HKA.o,SG1.o⟩⟩
   refine nv λvs W _ _ f hd hX=>?_;obtain⟨ka,Du,RI⟩:=(hd 18 ab rfl).c18 rfl;obtain⟨kb,NZ,Tg,ab0,iC⟩:=(hd 17 ab rfl).c17 rfl;have NE:Hid (kb≠ka):=gf λe=>hX 16 17 ab ab ab rfl rfl (ni ⟨rfl,rfl⟩) (by rw[Du,NZ,e]);have HBA:=gf RI;have X:=gf iC;have HC:=gf f;have A:=gf Tg;rw[Du,NZ];obtain⟨r0,r1⟩:=H9 iC;have fzb:=tO iC;have lzb:=e7 iC;clear RI iC f hd hX Du NZ Tg ab0
   go_upto_region 7 with fail
   obtain⟨Y,vp⟩:=bs (eA (eA W ⟨kb,0,fb⟩ (fm gL b1)) ⟨kb,1,fb⟩ (fm gL b2));have BA:Hid (Y.heap[ka]?=fc (n6 #[fm gL a1,fm gL a2] 30)):=gf (by rw[vp];exact(aZ NE.o).t ((aZ NE.o).t HBA.o));have BB:Hid (Y.heap[kb]?=fc (n6 #[fm gL b1,fm gL b2] 30)):=gf (by rw[vp];exact Fe (Fe X.o));have B:Hid (KNb C m r k1 k2 w Y):=gf (K3.o.on (by rw[vp];exact(HC.o.s (p:=⟨kb,0,fb⟩) A.o _).s (p:=⟨kb,1,fb⟩) A.o _));rw[<-vp];clear vp r0 r1 fzb lzb HBA X HC A NE K3;obtain⟨t0,t1⟩:=H9 BA.o;obtain⟨r0,r1⟩:=H9 BB.o;have gl:R=if a1 > a2 then 10 else if b1 > b2 then 10 else 0:=HR.o
   have HR':=gf gl;clear gl HR BO1 BO2 PC;by_cases e1:a1 > a2
   .obtain rfl:R=10:=by rw[HR'.o,if_pos e1]
    have e1':decide (a1 > a2)=aa:=decide_eq_true e1;obtain⟨y0,y1,y2,y3,y4,y5,M,V⟩:=agx B.o.res;go_wp2;refine aaG.ends B.o.res B.o.low ab ao rfl λg=>?_;simp[a9,kf,go_sem,g]
   by_cases e2:b1 > b2
   .obtain rfl:R=10:=by rw[HR'.o,if_neg e1,if_pos e2]
    obtain⟨y0,y1,y2,y3,y4,y5,M,V⟩:=agx B.o.res;go_wp2;refine aaG.ends B.o.res B.o.low ab ao rfl λg=>?_;simp[a9,kf,go_sem,g]
   obtain rfl:R=0:=by rw[HR'.o,if_neg e1,if_neg e2]
   obtain⟨f0,f1,f2,f3,f4,f5⟩:=bf B.o.box;have s4:=S4.o;rw[s4]at f4
   go_upto_region 10 with fail
   obtain⟨E,Z⟩:=bs (eu Y (n6 #[fm gL C.l,fm gL C.p,fR C.b2 C.n2 C.c2,fR C.b3 C.n3 C.c3,fR (fc ⟨C.k4,C.o4,fb⟩) C.n4 C.c4,fR C.b5 C.n5 C.c5] 27));obtain⟨z,hz⟩:=bs Y.heap.size;have BZ:Hid (E.heap[z]?=fc (n6 #[fm gL C.l,fm gL C.p,fR C.b2 C.n2 C.c2,fR C.b3 C.n3 C.c3,fR (fc ⟨C.k4,C.o4,fb⟩) C.n4 C.c4,fR C.b5 C.n5 C.c5] 27)):=gf (by rw[Z,hz];exact au _ _);have h23:bL Y E:=by rw[Z];exact(gg _ _).a (dk _) _
   have K5:=gf (B.o.on h23);have F:=gf ((h23.k _ (e7 BA.o)).t BA.o);have H:=gf ((h23.k _ (e7 BB.o)).t BB.o);have zl:w.heap.size<=z:=by rw[hz];exact B.o.low.z
   have z3:w.heap.size+1+1+1≠z:=by have:=e7 B.o.res;omega
   rw[<-Z,<-hz];clear Z hz h23 BA BB B t0 t1 r0 r1 f0 f1 f2 f3 f4 f5;obtain⟨f0,f1,f2,f3,f4,f5⟩:=bf K5.o.box;rw[s4]at f4;have hz3:=e7 BZ.o;have mF:=e7 K5.o.box;have hB4:bL E (eu E (n6 #[] 49)):=(gg _ _).a (dk _) _;have R4:=r4.o _ (f9 K5.o.low hB4);have hn4:C.n4<=1000:=ab;have R4:=gf R4;have HB4:=gf hB4;clear hB4
   go_upto_region 11 with(at_builtin;refine ga (T:=24) (e:=49) VL VM rfl ao ao rfl _ _ rfl E.heap.size E.heap.size rfl (au E (n6 #[] 49)) (dk _) C.k4 C.o4 C.n4 C.c4 C.afs rfl C.acB R4.o C.amI hn4 ?_;intro v1 w4 fO hv hb4;have hb:=HB4.o.t hb4;have X:=gf hb;have B4:Hid (w4.heap[z]?=fc (n6 #[fm gL C.l,fm gL C.p,fR C.b2 C.n2 C.c2,fR C.b3 C.n3 C.c3,fR (fc ⟨C.k4,C.o4,fb⟩) C.n4 C.c4,fR C.b5 C.n5 C.c5] 27)):=gf ((hb.k _ hz3).t BZ.o);have M:=tO B4.o;have hz4:=e7 B4.o;obtain⟨g,c,cur,rfl,hog,hg,SF⟩:=Fc.form (w:=E) ⟨fO,hv⟩;have HG:=gf (hI hog (hI hg SF));clear fO hv hog hg SF hb4 hb f0 f1 f2 f3 f4 f5;obtain⟨g0,g1,x,y,g4,g5⟩:=bf B4.o)
   have hK0:KRn C w z g c p ka kb a1 a2 b1 b2 ac ac (eA w4 ⟨z,4,fb⟩ (fR (fc ⟨g,0,fb⟩) C.n4 c)):=by
    obtain⟨hog,hg,SF⟩:=HG.o;have hlen:=C.acB;rw[<-SF]at hlen;have h12:C.n4*12<=cur.size:=by simp at hlen;omega
    have K6:=K5.o.on X.o
    exact⟨K6.low.s (p:=⟨_,4,fb⟩) zl _,(aZ (gr z3)).t K6.res,Fe B4.o,(aZ (iu B4.o ((X.o.k _ (e7 F.o)).t F.o) ao)).t ((X.o.k _ (e7 F.o)).t F.o),(aZ (iu B4.o ((X.o.k _ (e7 H.o)).t H.o) ao)).t ((X.o.k _ (e7 H.o)).t H.o),da K5.o.low.z hog,cur,(aZ (iu B4.o hg ao)).t hg,h12,λj hj q hq=>by
     rw[if_neg ar,<-C.ant hj hq,<-SF,e6 ab]
     simp⟩
   have K6:=gf hK0;clear hK0 HB4 R4 M hz4 B4 X g0 g1 x y g4 g5 HG BZ F H K5 hz3 mF;obtain⟨W5,hW5⟩:=bs (eA w4 ⟨z,4,fb⟩ (fR (fc ⟨g,0,fb⟩) C.n4 c));rw[<-hW5]at K6 ⊢;clear hW5;refine cT 11 (CRn C w z g c p ka kb a1 a2 b1 b2) (LRn C w z g c p ka kb a1 a2 b1 b2) (λj=>j != 10) (λj _ W=>j=10->KRn C w z g c p ka kb a1 a2 b1 b2 aa ac W) rfl ae ae (λi vs W W' hle h e=>hle (h e)) (λ_ _ _ _ _ _ _ _ h=>h) ⟨_,K6.o.on (gg _ _).d⟩ ?_
   iterate 10 (
    apply aY
    case hE=>rfl
    case h=>
     intro vs W f hd;obtain⟨s,hs⟩:=f;obtain⟨g0,g1,x,y,g4,g5⟩:=bf hs.box;obtain⟨t0,t1⟩:=H9 hs.ba;obtain⟨r0,r1⟩:=H9 hs.bb;have HS:=gf hs;clear hs;go_simp
     first
      |exact⟨rfl,⟨s,HS.o⟩,λh=>h⟩
      |exact⟨rfl,λh=>h⟩
      |exact rfl
    case hb=>exact E0)
   apply eH
   case hE=>rfl
   case hb=>exact E0
   case h=>
    intro vs W f hd;obtain⟨s,hs⟩:=f;have HS:=gf hs;obtain⟨v7,h7⟩:=hs.has J (q:=7) ab;obtain⟨v8,h8⟩:=hs.has J (q:=8) ab;have M:∀o,eE W ⟨g,o,fb⟩=ac:=hs.row.e λ_ k=>tO k.1;have K:=gf (hs.ax3 J);clear hs;go_simp;exact⟨⟨_,K.o⟩,λ_=>K.o,K.o⟩
   refine cP λvs W f hd=>?_;have K7:=gf (hd 10 ab rfl rfl);clear f hd K6;obtain⟨v9,h9⟩:=K7.o.has J (q:=9) ab;obtain⟨v10,tI⟩:=K7.o.has J (q:=10) ab;have M:∀o,eE W ⟨g,o,fb⟩=ac:=K7.o.row.e λ_ k=>tO k.1
   go_upto_region 12 with fail
   have K8:=gf (K7.o.ax4 J);obtain⟨W6,hW6⟩:=bs (eA (eA W ⟨g,p*12+9,fb⟩ (fm gL b1)) ⟨g,p*12+10,fb⟩ (fm gL b2));rw[<-hW6]at K8 ⊢;clear hW6 M h9 tI K7;have BG:=K8.o.res;obtain⟨y0,y1,y2,y3,y4,y5⟩:=bf BG;obtain⟨g0,g1,x,y,g4,g5⟩:=bf K8.o.box;have M:=tO BG;have V:=e7 BG;clear BG;go_wp2;have BG:=K8.o.res;have hWF:=nC (u0:=fm gL C.l) (u1:=fm gL C.p) (u2:=fR C.b2 C.n2 C.c2) (u3:=fR C.b3 C.n3 C.c3) (u4:=fR (fc ⟨g,0,fb⟩) C.n4 c) (u5:=fR C.b5 C.n5 C.c5) BG;refine a8 (v:=fB #[fJ (C.afI (aeB C p a1 a2 b1 b2) g c).val,fm gL 0]) ?_ rfl ⟨C.afI (aeB C p a1 a2 b1 b2) g c,rfl,?_,?_,?_,λw0 hw=>⟨λ_=>ni hw.h2,λ_=>ni hw.h3,λ_=>nk (ni K8.o.gl),λ_=>ni hw.h5,λi hi hl=>ni ?_⟩⟩
   .obtain⟨a0,a1,a2,a3,a4,a5⟩:=bf hWF;simp[a9,kf,go_sem,a0,a1,a2,a3,a4,a5,CD.afI]
   .exact KRn.at_ HA.o K8.o (ge K8.o.low ab _ _ _ _ _ _) (by simp only[lj];exact dk _) λb hb=>cM hb
   .rw[if_pos rfl];have hq:=NQ.o;refine⟨rfl,rfl,rfl,λ_ _=>rfl,rfl,λ_ _=>rfl,rfl,λi _=>?_,rfl,λ_ _=>rfl⟩;have e:(C.afI (aeB C p a1 a2 b1 b2) g c).x4 i=(C.amS p m r k1 k2).x4 i:=by
     show aeB C p a1 a2 b1 b2 i=(if i=p then abn (C.x4 i) m r k1 k2 else C.x4 i)
     unfold aeB;by_cases I:i=p
     .rw[if_pos I,if_pos I,I,hq]
     .rw[if_neg I,if_neg I]
    rw[e];exact⟨rfl,λ_ _ _=>rfl,rfl,λ_ _=>rfl⟩
   .exact ge K8.o.low ab _ _ _ _ _ _
   .have e:=afL C p a1 a2 b1 b2 i;have Ji:0<(aeB C p a1 a2 b1 b2 i).ln:=hl;show(aeB C p a1 a2 b1 b2 i).lk<w0.heap.size;rw[e.ln]at Ji;rw[e.lk];exact(hw.l4 i hi Ji).2
def alF(C:CD)(a b d k1 k2:Int)(w:ag)(h:C.At w):aI PL 18 #[fJ C.val,fm gL a,fJ #[fm gL b,fm gL d],fJ #[fm gL k1,fm gL k2]] w (aaG C (C.amS a.toNat b d k1 k2) (aez C a b d k1 k2) w):=by
 by_cases hf:C.b6 (bO a 0 (C.n4-1))=0
 .obtain⟨hc,p,rfl,o⟩:=ahe hf;rw[aez,if_pos hf,pj];exact ahB C p b d k1 k2 w h hc o
 .rw[aez,if_neg hf];obtain⟨m,f⟩:=bs (C.b6 (bO a 0 (C.n4-1)));have AK:Hid (∀W,C.At W->aI PL 49 #[fJ C.val,fm gL a] W (aO (fm gL m) W)):=gf λW q=>by rw[f];exact uE C a W q
  have r:=gf h;rw[<-f]at hf ⊢;have u:=gf hf;have v:(m != 0)=aa:=by simpa using hf
  have A4:=gf (agy w (n6 C.val 27) (n6 #[fm gL b,fm gL d] 30) (n6 #[fm gL k1,fm gL k2] 30) (n6 RX 27));have H:0<w.heap.size:=by have:=h.h2;omega
  clear h f hf;go_enter (fx ao kd),ke
  go_upto_region 1 with fail
  obtain⟨i,j⟩:=bs (eu (eu (eu (eu w (n6 C.val 27)) (n6 #[fm gL b,fm gL d] 30)) (n6 #[fm gL k1,fm gL k2] 30)) (n6 RX 27));have k:Hid (KNb C b d k1 k2 w i):=gf (by rw[j];exact⟨A4.o.1,A4.o.2.1,A4.o.2.2.1,A4.o.2.2.2.1,A4.o.2.2.2.2⟩);rw[<-j];clear j A4;obtain⟨y,A,B,D,f4,E⟩:=bf k.o.box
  go_upto_region 2 with(go_at_call 49;(with_reducible refine(AK.o _ (r.o.below k.o.low)).m ?_);rintro e w1⟨rfl,n⟩;have l:=gf (k.o.on n);clear n y A B D f4 E)
  obtain⟨y0,y1,y2,y3,y4,I,J,F⟩:=agx l.o.res;go_wp2;refine aaG.ends l.o.res l.o.low ab u.o rfl λg=>?_;simp[a9,kf,go_sem,g]
set_option maxHeartbeats 40000000
def abP{l:List nR}(h:xu q Y l):eN q Y l.length 5 λj=>fm gL (abu (l.getD (j / 5) (0,0,0,0,0)) (j % 5)):=by
 obtain⟨b,c,rfl,h⟩:=h;refine⟨b,c,rfl,λg=>?_⟩;obtain⟨k,o,e,i,hc⟩:=h g;refine⟨k,o,e,i,λj a=>?_⟩;have d:j / 5<l.length:=ab;obtain⟨c0,c1,m,c3,n⟩:=hc (j / 5) d;have hl:l.getD (j / 5) (0,0,0,0,0)=l[j / 5]:=by simp[et,d]
 show eq q ⟨k,o+j,fb⟩=fc (fm gL (abu (l.getD (j / 5) (0,0,0,0,0)) (j % 5)));rw[hl];have f:j % 5<5:=Nat.mod_lt _ ao;have a:j=j / 5*5+j % 5:=ab;generalize j % 5=r at f a;generalize j / 5=W at *;subst a
 match r,f with
 |0,_=>exact c0
 |1,_=>rw[<-m7];exact c1
 |2,_=>rw[<-m7];exact m
 |3,_=>rw[<-m7];exact c3
 |4,_=>rw[<-m7];exact n
def amU:(abU J).length<=20:=by
 unfold abU;split
 .rename_i hc;rw[CD.Cv,alb,afC];exact da (acH _ (FT hc).2 (j7 hc)) ao
 .exact eF _
structure JTr(C:CD)(s1 s2 k1 k2:Int)(w W:ag):Prop where
 box:W.heap[w.heap.size]?=fc (n6 C.val 27)
 b1:W.heap[w.heap.size+1]?=fc (n6 #[fm gL s1,fm gL s2] 30)
 b2:W.heap[w.heap.size+1+1]?=fc (n6 #[fm gL k1,fm gL k2] 30)
 low:bL w W
def JTr.on{c k1 k2:Int}{W d:ag}(h:JTr J L c k1 k2 q W)(a:bL W d):JTr J L c k1 k2 q d:=
 ⟨(a.k _ (e7 h.box)).t h.box,(a.k _ (e7 h.b1)).t h.b1,(a.k _ (e7 h.b2)).t h.b2,f9 h.low a⟩
def JTr.start(C:CD)(a b k1 k2:Int)(w:ag):JTr C a b k1 k2 w (eu (eu (eu w (n6 C.val 27)) (n6 #[fm gL a,fm gL b] 30)) (n6 #[fm gL k1,fm gL k2] 30)):=by
 obtain⟨c,d,e,_,f⟩:=amJ w (n6 C.val 27) (n6 #[fm gL a,fm gL b] 30) (n6 #[fm gL k1,fm gL k2] 30);exact⟨c,d,e,f⟩
theorem JTr.set{C:CD}{a b k1 k2:Int}{w W:ag}(h:JTr C a b k1 k2 w W){k:Nat}(c:w.heap.size+1+1<k)(u0 u1 u2 u3 u4 u5:aP):JTr C a b k1 k2 w (eA (eA (eA (eA (eA (eA W ⟨k,0,fb⟩ u0) ⟨k,1,fb⟩ u1) ⟨k,2,fb⟩ u2) ⟨k,3,fb⟩ u3) ⟨k,4,fb⟩ u4) ⟨k,5,fb⟩ u5):=
 ⟨(cM ab).t h.box,(cM ab).t h.b1,(cM ab).t h.b2,ge h.low ab _ _ _ _ _ _⟩
def anP(m:Nat)(X:CD)(a:Int)(w:ag)(e:eg)(w':ag):Prop:=∃D:CD,e=nb (fB #[fJ #[fm gL D.l,fm gL D.p,fR D.b2 D.n2 D.c2,fR D.b3 D.n3 D.c3,fR D.b4 D.n4 D.c4,fR D.b5 D.n5 D.c5],fm gL a])/\D.At w'/\abc X D/\bL w w'/\D.Far m w.heap.size w'
def agA(hwk:∀w,aI PL 5 #[] w (aO (f6 aa) w))(C:CD)(ds:List Int)(pg J K k1 k2:Int)(v:aP)(w:ag)(h:C.Mem w)(hv:bB w v ds) :
 aI PL 3 #[fJ C.val,v,fm gL pg,fJ #[fm gL J,fm gL K],fJ #[fm gL k1,fm gL k2]] w (aO (f6 aa) w):=by
 have HM:Hid (∀W,bL w W->C.Mem W):=gf λW d=>h.below d;have HV:Hid (∀W,bL w W->bB W v ds):=gf λW d=>hv.on d;have M:=gf (JTr.start C J K k1 k2 w);have HW:=gf hwk;have HG:Hid (∀W,C.Mem W->aI PL 4 #[fJ C.val] W (aO (f6 (!C.small)) W)):=gf λW s=>AK C W s;obtain⟨db,dc,rfl,_⟩:=hv;obtain⟨dn,hdn⟩:=bs ds.length;rw[<-hdn]at HV ⊢;clear h hwk hdn;obtain⟨W0,kS⟩:=bs (eu (eu (eu w (n6 C.val 27)) (n6 #[fm gL J,fm gL K] 30)) (n6 #[fm gL k1,fm gL k2] 30));rw[<-kS]at M
 cases hs:C.small with
 |false=>
  rw[hs]at HG;simp only[gG]at HG;clear hs;go_enter (fx ao kg),kp
  go_upto_region 1 with fail
  rw[<-kS];clear kS;obtain⟨f,g,i,j,f4,m⟩:=bf M.o.box
  go_wp2_with (first
   |(go_at_call 4;refine(HG.o _ (HM.o _ M.o.low)).m ?_;rintro e w1⟨rfl,aL⟩;have K1:=gf (M.o.on aL);clear aL)
   |(go_at_call 5;refine(HW.o _).m ?_;rintro e w2⟨rfl,qA⟩;have K2:=gf (K1.o.on qA);clear qA))
  go_ret;exact⟨rfl,K2.o.low⟩
 |true=>
 rw[hs]at HG;simp only[nd]at HG;by_cases hd:dn<=20
 case neg=>
  have hd':(dn:Int) > 20:=ab;clear hs;go_enter (fx ao kg),kp
  go_upto_region 1 with fail
  rw[<-kS];clear kS;obtain⟨f,g,i,j,f4,m⟩:=bf M.o.box
  go_wp2_with (first
   |(go_at_call 4;refine(HG.o _ (HM.o _ M.o.low)).m ?_;rintro e w1⟨rfl,aL⟩;have K1:=gf (M.o.on aL);clear aL)
   |(go_at_call 5;refine(HW.o _).m ?_;rintro e w2⟨rfl,qA⟩;have K2:=gf (K1.o.on qA);clear qA))
  go_ret;exact⟨rfl,K2.o.low⟩
 have hd':¬(dn:Int) > 20:=ab;have u:Hid (∀W,bL w W->C.At W):=gf λW d=>CD.At.Ri (HM.o W d) hs;clear hs hd;obtain⟨T,hT⟩:=bs (abU C);obtain⟨ck,t⟩:=bs C.cx;obtain⟨sf,hsf⟩:=bs (abx C);obtain⟨L,hL⟩:=bs ((acj C).getD []);obtain⟨so,hso⟩:=bs ((acj C).isSome);obtain⟨fd,hfd⟩:=bs (abm C ds);obtain⟨fn,tK⟩:=bs (aez C pg J K k1 k2);obtain⟨X,hX⟩:=bs (if fd=0 then C.j8 ds else CD.zer);obtain⟨Y,hY⟩:=bs (if fn=0 then C.amS pg.toNat J K k1 k2 else CD.zer);obtain⟨tn,htn⟩:=bs T.length;obtain⟨ln,Tl⟩:=bs L.length;have hTl:T.length<=20:=by rw[hT];exact amU
 have hLl:L.length<=20:=by rw[hL];exact amM C
 have T1:Hid (∀W,C.At W->aI PL 6 #[fJ C.val] W λe w'=>∃b c,e=nb (fB #[fR b tn c,fm gL ck])/\xu w' (fR b tn c) T/\bL W w'):=gf λW s=>by rw[htn,hT,t];exact ahx C W s
 have T2:Hid (∀W,C.At W->aI PL 7 #[fJ C.val] W λe w'=>∃b c,e=nb (fB #[fR b tn c,fm gL ck])/\xu w' (fR b tn c) T/\bL W w'):=gf λW s=>by rw[htn,hT,t];exact ah5 C W s
 have ST:Hid (∀W b c b' c',xu W (fR b tn c) T->xu W (fR b' tn c') T->aI PL 8 #[fR b tn c,fR b' tn c'] W (aO (f6 aa) W)):=gf λW b c b' c' N O=>vS _ _ T.length _ W (abP N) (abP O) hTl;have S1:Hid (∀W,C.At W->aI PL 9 #[fJ C.val] W (aO (fB #[f6 sf,fm gL ck]) W)):=gf λW s=>by rw[hsf,t];exact apk C W s
 have S2:Hid (∀W,C.At W->aI PL 10 #[fJ C.val] W (aO (fB #[f6 sf,fm gL ck]) W)):=gf λW s=>by rw[hsf,t];exact anG C W s
 have D1:Hid (∀W,C.At W->aI PL 11 #[fJ C.val] W λe w'=>∃b c,e=nb (fB #[fR b ln c,f6 so,fm gL ck])/\bB w' (fR b ln c) L/\bL W w'):=gf λW s=>(amN C W s).m (by
  rintro e w'⟨v,rfl,y,d⟩;rw[<-hL]at y;obtain⟨b,c,rfl,_⟩:=id y;rw[<-Tl]at y ⊢
  exact⟨b,c,by rw[hso,t],y,d⟩)
 have D2:Hid (∀W,C.At W->aI PL 12 #[fJ C.val] W λe w'=>∃b c,e=nb (fB #[fR b ln c,f6 so,fm gL ck])/\bB w' (fR b ln c) L/\bL W w'):=gf λW s=>(alA C W s).m (by
  rintro e w'⟨v,rfl,y,d⟩;rw[<-hL]at y;obtain⟨b,c,rfl,_⟩:=id y;rw[<-Tl]at y ⊢
  exact⟨b,c,by rw[hso,t],y,d⟩)
 have SN:Hid (∀W b c b' c',bB W (fR b ln c) L->bB W (fR b' ln c') L->aI PL 13 #[fR b ln c,fR b' ln c'] W (aO (f6 aa) W)):=gf λW b c b' c' N O=>pI _ _ L.length _ W N O hLl;have L1:Hid (∀W,C.At W->bB W (fR db dn dc) ds->aI PL 14 #[fJ C.val,fR db dn dc] W (anP w.heap.size X fd W)):=gf λW s y=>by rw[hX,hfd];exact(alD C ds _ W s y).m λ_ _⟨D,N,O,h3,h4,h5⟩=>⟨D,N,O,h3,h4,h5 w (u.o w (gg _ _))⟩
 have L2:Hid (∀W,C.At W->bB W (fR db dn dc) ds->aI PL 15 #[fJ C.val,fR db dn dc] W (anP w.heap.size X fd W)):=gf λW s y=>by rw[hX,hfd];exact(ahz C ds _ W s y).m λ_ _⟨D,N,O,h3,h4,h5⟩=>⟨D,N,O,h3,h4,h5 w (u.o w (gg _ _))⟩
 have N1:Hid (∀W,C.At W->aI PL 17 #[fJ C.val,fm gL pg,fJ #[fm gL J,fm gL K],fJ #[fm gL k1,fm gL k2]] W (anP w.heap.size Y fn W)):=gf λW s=>by rw[hY,tK];exact(amT C pg J K k1 k2 W s).m λ_ _⟨D,N,O,h3,h4,h5⟩=>⟨D,N,O,h3,h4,h5 w (u.o w (gg _ _))⟩
 have N2:Hid (∀W,C.At W->aI PL 18 #[fJ C.val,fm gL pg,fJ #[fm gL J,fm gL K],fJ #[fm gL k1,fm gL k2]] W (anP w.heap.size Y fn W)):=gf λW s=>by rw[hY,tK];exact(alF C pg J K k1 k2 W s).m λ_ _⟨D,N,O,h3,h4,h5⟩=>⟨D,N,O,h3,h4,h5 w (u.o w (gg _ _))⟩
 have SC:Hid (∀W(Z A B:CD),A.At W->B.At W->abc Z A->abc Z B->aI PL 16 #[fJ #[fm gL A.l,fm gL A.p,fR A.b2 A.n2 A.c2,fR A.b3 A.n3 A.c3,fR A.b4 A.n4 A.c4,fR A.b5 A.n5 A.c5],fJ #[fm gL B.l,fm gL B.p,fR B.b2 B.n2 B.c2,fR B.b3 B.n3 B.c3,fR B.b4 B.n4 B.c4,fR B.b5 B.n5 B.c5]] W (aO (f6 aa) W)):=gf λW Z A B hA d a b=>amO A B W hA d (a.both b);clear hT t hsf hL hso hfd tK hX hY htn Tl hTl hLl;go_enter (fx ao kg),kp
 go_upto_region 1 with fail
 rw[<-kS];clear kS;obtain⟨f,g,i,j,f4,m⟩:=bf M.o.box
 go_upto_region 3 with(go_at_call 4;refine(HG.o _ (HM.o _ M.o.low)).m ?_;rintro e w1⟨rfl,aL⟩;have K1:=gf (M.o.on aL);clear aL f g i j f4 m;obtain⟨f,g,i,j,f4,m⟩:=bf K1.o.box)
 go_upto_region 4 with(go_at_call 6;(with_reducible refine(T1.o _ (u.o _ K1.o.low)).m ?_);rintro e w2⟨b1,c1,rfl,P,d⟩;have K2:=gf (K1.o.on d);have R1:=gf P;clear P d f g i j f4 m;obtain⟨f,g,i,j,f4,m⟩:=bf K2.o.box)
 go_upto_region 5 with(go_at_call 7;(with_reducible refine(T2.o _ (u.o _ K2.o.low)).m ?_);rintro e w3⟨b2,c2,rfl,P,d⟩;have K3:=gf (K2.o.on d);have R2:=gf (R1.o.on d);have R3:=gf P;clear P d f g i j f4 m)
 go_upto_region 7 with(go_at_call 8;(with_reducible refine(ST.o _ _ _ _ _ R2.o R3.o).m ?_);rintro e w4⟨rfl,d⟩;have K4:=gf (K3.o.on d);clear d;obtain⟨f,g,i,j,f4,m⟩:=bf K4.o.box)
 clear M K1 K2 K3 R1 R2 R3 T1 T2 ST
 go_upto_region 8 with(go_at_call 9;(with_reducible refine(S1.o _ (u.o _ K4.o.low)).m ?_);rintro e w5⟨rfl,d⟩;have K5:=gf (K4.o.on d);clear d f g i j f4 m;obtain⟨f,g,i,j,f4,m⟩:=bf K5.o.box)
 go_upto_region 9 with(go_at_call 10;(with_reducible refine(S2.o _ (u.o _ K5.o.low)).m ?_);rintro e w6⟨rfl,d⟩;have K6:=gf (K5.o.on d);clear d f g i j f4 m)
 go_upto_region 11 with fail
 obtain⟨f,g,i,j,f4,m⟩:=bf K6.o.box;clear K4 K5 S1 S2
 go_upto_region 12 with(go_at_call 11;(with_reducible refine(D1.o _ (u.o _ K6.o.low)).m ?_);rintro e w7⟨b3,c3,rfl,P,d⟩;have K7:=gf (K6.o.on d);have R4:=gf P;clear P d f g i j f4 m;obtain⟨f,g,i,j,f4,m⟩:=bf K7.o.box)
 go_upto_region 13 with(go_at_call 12;(with_reducible refine(D2.o _ (u.o _ K7.o.low)).m ?_);rintro e w8⟨b4,c4,rfl,P,d⟩;have K8:=gf (K7.o.on d);have R5:=gf (R4.o.on d);have R6:=gf P;clear P d f g i j f4 m)
 go_upto_region 15 with(go_at_call 13;(with_reducible refine(SN.o _ _ _ _ _ R5.o R6.o).m ?_);rintro e w9⟨rfl,d⟩;have K9:=gf (K8.o.on d);clear d;obtain⟨f,g,i,j,f4,m⟩:=bf K9.o.box)
 clear K6 K7 K8 R4 R5 R6 D1 D2 SN
 go_upto_region 16 with(go_at_call 14;(with_reducible refine(L1.o _ (u.o _ K9.o.low) (HV.o _ K9.o.low)).m ?_);rintro e VD⟨A,rfl,r,Q,d,_⟩;have Ry:=gf (K9.o.on d);have A0:=gf r;have SA:=gf Q;clear r Q d f g i j f4 m)
 obtain⟨W1,mG⟩:=bs (eu VD (n6 #[fm gL A.l,fm gL A.p,fR A.b2 A.n2 A.c2,fR A.b3 A.n3 A.c3,fR A.b4 A.n4 A.c4,fR A.b5 A.n5 A.c5] 27));obtain⟨I,Du⟩:=bs VD.heap.size;have lq:bL VD W1:=by rw[mG];exact(gg _ _).a (dk _) _
 have Tr:=gf (Ry.o.on lq);have A1:=gf (A0.o.below lq);have BA:Hid (W1.heap[I]?=fc (n6 #[fm gL A.l,fm gL A.p,fR A.b2 A.n2 A.c2,fR A.b3 A.n3 A.c3,fR A.b4 A.n4 A.c4,fR A.b5 A.n5 A.c5] 27)):=gf (by rw[mG,Du];exact au _ _);have LA:Hid (w.heap.size+1+1<I):=gf (by rw[Du];exact e7 Ry.o.b2);rw[<-mG,<-Du];clear mG Du lq A0 Ry K9;obtain⟨f,g,i,j,f4,m⟩:=bf Tr.o.box
 go_upto_region 17 with(go_at_call 15;(with_reducible refine(L2.o _ (u.o _ Tr.o.low) (HV.o _ Tr.o.low)).m ?_);rintro e U⟨B,rfl,r,R,d,_⟩;have VC:=gf (Tr.o.on d);have A2:=gf (A1.o.below d);have V:=gf ((d.k _ (e7 BA.o)).t BA.o);have B0:=gf r;have SB:=gf R;clear r R d f g i j f4 m)
 obtain⟨W2,vp⟩:=bs (eu U (n6 #[fm gL B.l,fm gL B.p,fR B.b2 B.n2 B.c2,fR B.b3 B.n3 B.c3,fR B.b4 B.n4 B.c4,fR B.b5 B.n5 B.c5] 27));obtain⟨S,NZ⟩:=bs U.heap.size;have eP:bL U W2:=by rw[vp];exact(gg _ _).a (dk _) _
 have K13:=gf (VC.o.on eP);have A3:=gf (A2.o.below eP);have B3:=gf (B0.o.below eP);have BA3:=gf ((eP.k _ (e7 V.o)).t V.o);have BB3:Hid (W2.heap[S]?=fc (n6 #[fm gL B.l,fm gL B.p,fR B.b2 B.n2 B.c2,fR B.b3 B.n3 B.c3,fR B.b4 B.n4 B.c4,fR B.b5 B.n5 B.c5] 27)):=gf (by rw[vp,NZ];exact au _ _);have LB:Hid (I<S):=gf (by rw[NZ];exact e7 V.o);rw[<-vp,<-NZ];clear vp NZ eP A1 A2 BA V B0 Tr VC;obtain⟨f,g,i,j,f4,m⟩:=bf BA3.o;obtain⟨g0,g1,g2,g3,g4,g5⟩:=bf BB3.o
 go_upto_region 19 with(go_at_call 16;(with_reducible refine(SC.o _ X A B A3.o B3.o SA.o SB.o).m ?_);rintro e w14⟨rfl,d⟩;have Tq:=gf (K13.o.on d);have BA4:=gf ((d.k _ (e7 BA3.o)).t BA3.o);have BB4:=gf ((d.k _ (e7 BB3.o)).t BB3.o);clear d f g i j f4 m g0 g1 g2 g3 g4 g5)
 clear A3 B3 SA SB L1 L2 HV K13 BA3 BB3;obtain⟨f,g,i,j,f4,m⟩:=bf Tq.o.box;obtain⟨g0,g1⟩:=H9 Tq.o.b1;obtain⟨g2,g3⟩:=H9 Tq.o.b2
 go_upto_region 20 with(go_at_call 17;(with_reducible refine(N1.o _ (u.o _ Tq.o.low)).m ?_);rintro e w15⟨o,rfl,r,Q,d,hfa⟩;have FA:=gf hfa;clear hfa;have K15:=gf (Tq.o.on d);have A0:=gf r;have SA:=gf Q;have z:=gf ((d.k _ (e7 BA4.o)).t BA4.o);have BB5:=gf ((d.k _ (e7 BB4.o)).t BB4.o);have lza:=e7 z.o;have fza:=tO z.o;clear r Q d f g i j f4 m g0 g1 g2 g3;obtain⟨f,g,i,j,f4,m⟩:=bf z.o)
 have lA:=e7 BA4.o;have lB:=e7 BB4.o;have hla:=LA.o;have Tg:=LB.o;have OA:=gf (FA.o.off ab lA z.o);have OB:=gf (FA.o.off ab lB BB5.o);obtain⟨W3,E⟩:=bs (eA (eA (eA (eA (eA (eA w15 ⟨I,0,fb⟩ (fm gL o.l)) ⟨I,1,fb⟩ (fm gL o.p)) ⟨I,2,fb⟩ (fR o.b2 o.n2 o.c2)) ⟨I,3,fb⟩ (fR o.b3 o.n3 o.c3)) ⟨I,4,fb⟩ (fR o.b4 o.n4 o.c4)) ⟨I,5,fb⟩ (fR o.b5 o.n5 o.c5));have m9:∀b,b≠I->W3.heap[b]?=w15.heap[b]?:=λb hb=>by rw[E];exact cM hb
 have fW:w15.heap.size<=W3.heap.size:=by rw[E];simp only[lj];exact dk _
 have A1:=gf (OA.o.at_ A0.o fW m9);have BA6:Hid (W3.heap[I]?=fc (n6 #[fm gL o.l,fm gL o.p,fR o.b2 o.n2 o.c2,fR o.b3 o.n3 o.c3,fR o.b4 o.n4 o.c4,fR o.b5 o.n5 o.c5] 27)):=gf (by rw[E];exact nC z.o);have BB6:=gf ((m9 S ab).t BB5.o);have F:Hid (JTr C J K k1 k2 w W3):=gf (by rw[E];exact K15.o.set hla _ _ _ _ _ _);rw[<-E];clear E m9 fW f g i j f4 m lza fza A0 FA OA BA4 BB4 z BB5 Tq K15 lA;obtain⟨f,g,i,j,f4,m⟩:=bf F.o.box;obtain⟨g0,g1⟩:=H9 F.o.b1;obtain⟨g2,g3⟩:=H9 F.o.b2
 go_upto_region 21 with(go_at_call 18;(with_reducible refine(N2.o _ (u.o _ F.o.low)).m ?_);rintro e w17⟨q,rfl,r,R,d,hfb⟩;have K17:=gf (F.o.on d);have A2:=gf (A1.o.below d);have B0:=gf r;have SB:=gf R;have FB:=gf hfb;have BA7:=gf ((d.k _ (e7 BA6.o)).t BA6.o);have H:=gf ((d.k _ (e7 BB6.o)).t BB6.o);have lB:=gf (e7 BB6.o);have lzb:=e7 H.o;have fzb:=tO H.o;clear r R d hfb f g i j f4 m g0 g1 g2 g3;obtain⟨f,g,i,j,f4,m⟩:=bf H.o)
 have OB2:=gf (FB.o.off ab lB.o H.o);obtain⟨W4,Sn⟩:=bs (eA (eA (eA (eA (eA (eA w17 ⟨S,0,fb⟩ (fm gL q.l)) ⟨S,1,fb⟩ (fm gL q.p)) ⟨S,2,fb⟩ (fR q.b2 q.n2 q.c2)) ⟨S,3,fb⟩ (fR q.b3 q.n3 q.c3)) ⟨S,4,fb⟩ (fR q.b4 q.n4 q.c4)) ⟨S,5,fb⟩ (fR q.b5 q.n5 q.c5));have m9:∀b,b≠S->W4.heap[b]?=w17.heap[b]?:=λb hb=>by rw[Sn];exact cM hb
 have fW:w17.heap.size<=W4.heap.size:=by rw[Sn];simp only[lj];exact dk _
 have A3:=gf (OB.o.at_ A2.o fW m9);have B3:=gf (OB2.o.at_ B0.o fW m9);have BB8:Hid (W4.heap[S]?=fc (n6 #[fm gL q.l,fm gL q.p,fR q.b2 q.n2 q.c2,fR q.b3 q.n3 q.c3,fR q.b4 q.n4 q.c4,fR q.b5 q.n5 q.c5] 27)):=gf (by rw[Sn];exact nC H.o);have BA8:=gf ((m9 I ab).t BA7.o);have K18:Hid (JTr C J K k1 k2 w W4):=gf (by rw[Sn];exact K17.o.set ab _ _ _ _ _ _);rw[<-Sn];clear Sn m9 fW f g i j f4 m lzb fzb A1 A2 B0 FB OB OB2 BA6 BB6 BA7 H F K17 lB;obtain⟨f,g,i,j,f4,m⟩:=bf BA8.o;obtain⟨g0,g1,g2,g3,g4,g5⟩:=bf BB8.o
 go_wp2_with (first
  |(go_at_call 16;(with_reducible refine(SC.o _ Y o q A3.o B3.o SA.o SB.o).m ?_);rintro e w19⟨rfl,d⟩;have hB8:=f9 K18.o.low d;clear d)
  |(go_at_call 5;refine(HW.o _).m ?_;rintro e w20⟨rfl,d⟩;have hB9:=f9 hB8 d;clear d))
 go_ret;exact⟨rfl,hB9⟩
end Go.Proofs
namespace Go.Proofs
open Go.bJ Go.Deep Go.RowKit
def afM{H:Type}{enc:aT×aP->H}{W:ag}{cs:Array aP}(h:Td enc W 30 cs.toList):∃a b,cs=#[fm gL a,fm gL b]:=by
 obtain⟨⟨a,c⟩,⟨b,hb⟩⟩:=yy h;have hl:=h.len ks;rw[Kh]at hl;refine⟨a,b,?_⟩;grind
section
variable {H:Type}{enc:aT×aP->H}{W:ag}
def Td.i64{cs:List aP}(h:Td enc W 3 cs):∃m,cs=[fm gL m]:=by
 obtain⟨n,x,h⟩:=h;obtain⟨m,e,_,_⟩:=DataW.trod_int kw h;exact⟨m,e⟩
def alG{u:aP}(h:Td enc W 28 [u]):∃ps,∀w:ag,w.heap=(cV FF W).heap->bB w (rep FF W u) ps:=by
 obtain⟨b,n,c,k,o,e,l,q,al⟩:=kD kx Rk ao h;obtain⟨a,g⟩:∃a:Nat->Int,∀j,j<n->∀w:ag,w.heap=(cV FF W).heap->eq w ⟨k,o+j,fb⟩=fc (fm gL (a j)):=choose_lt (p:=λj(m:Int)=>∀w:ag,w.heap=(cV FF W).heap->eq w ⟨k,o+j,fb⟩=fc (fm gL m)) λj d=>by
  obtain⟨cs,r,s⟩:=al j d;obtain⟨m,rfl⟩:=r.i64;exact⟨m,λw f=>by have:=s 0 _ ao rfl w f;rw[iT,jR]at this;exact this⟩
 refine⟨(gy n).map a,λw f=>⟨b,c,by rw[e];simp,λt=>?_⟩⟩;have i:0<n:=by simpa using t
 refine⟨k,o,l i,by rw[f];exact q,λj d=>?_⟩;have d:j<n:=by simpa using d
 have:=g j d w f;have e:((gy n).map a).getD j 0=a j:=by simp[et,d]
 show eq w ⟨k,o+j,fb⟩=fc (fm gL (((gy n).map a).getD j 0));rw[e];exact this
end
end Go.Proofs
namespace Go.Proofs
open Go.bJ Go.Conc Go.ConcM Go.RowKit
noncomputable abbrev PA:cf:=⟨kG,kY⟩
def U6{f:FuncId}{fn:Func}{tr:Tmp}(hf:FF f=aa)(k:XX f=ac)(K:Tryz.progTables.inits.idxOf? f=fb)(q:cY.funcs[f]?=fc fn)(r:kY[f]?=fc fn)(L:fn.results=#[.tmp tr])
 {W:ag} (O:Tryz.progTables.globals.size<=W.heap.size) (Q:Calm W.tape) {g args:Array aP} (l:VA FF (ox W) g args)
 (law:∀w:ag,w.heap=(cV FF W).heap->aI PL f g w (aO (f6 aa) w)) :
 ∃M last o w' m,runNT PA (M+1) (solo (G (m8 PA f args ol) []) W) #[]=(.ended o w',m)/\runN PA M (solo (G (m8 PA f args ol) []) W)=.next last/\step PA last=.ended o w'/\
  Go.Conc.Good PA (λv a=>v=f6 aa/\bL W { a with os:=W.os }/\OsLater W.os a.os) last o w' m:=by
 let R:aP->ag->Prop:=λv w'=>v=f6 aa/\∀b,b<W.heap.size->w'.heap[b]?=(cV FF W).heap[b]?;have F:∀v w H d,R v w->R v (World.re w H d):=λv w H d h=>h;have i:WR Tryz.progTables.globals.size FF (codeOk kG FF ZZ) (ox W) (cV FF W) W:=wr0 O rfl;have S:Term PC (lQ PC f R) (fH (m8 PC f g ol) [aX PC]) (cV FF W):=by
  refine zD bV (ρ:=ox W) Yr i hf l (R:=R) F λT=>?_;refine(law ((cV FF W).re T 0) rfl).m ?_;rintro e w'⟨rfl,U⟩;exact⟨rfl,λb hb=>U.k b (by show b<(cV FF W).heap.size;rw[mT];omega)⟩
 have c:iE kG cY.funcs FF ZZ (fH (m8 PC f g ol) [aX PC]) (cV FF W):=
  ⟨ox W,fH (m8 PC f args ol) [],W,⟨.alike (fe (bV.same f hf rfl) hf l),⟨[],rfl,.nil,(λx k=>by cases k;rfl),λ_=>fe (bV.same f hf rfl) hf l⟩,rfl,rfl,rfl,rfl,rfl,rfl⟩,Yr,i⟩
 have s:=Yp JN bV (R:=R) F K q r L (U2 f R) S c 0 _ _ (cV FF W).tape (cV FF W).drawn (.zero _ _);have s:kK kG cY.funcs kY FF XX ZZ R (fH (m8 PC f g ol) [aX PC]) (cV FF W):=s;have I:aQ kG FF ZZ cY.funcs kY (ox W) (m8 PC f g ol) (m8 PA f args ol):=fe (JN.same f hf k) hf l;have u:GR kG cY.funcs kY FF XX ZZ (aX PC) (ox W) (fH (m8 PC f g ol) [aX PC]) (fH (m8 PA f args ol) []):=
  ⟨.alike I,⟨[],rfl,.nil,(λx k=>by cases k;rfl),λ_=>I⟩,rfl,rfl,rfl,rfl,rfl,rfl⟩
 obtain⟨N,aJ,v,v',wl,j,y,g1,p,t1,q1,V,J,z,X,Y,Z,r6,r7,r8,r9,TP⟩:=s (ox W) (fH (m8 PA f args ol) []) W #[fH (m8 PA f args ol) []] fb #[] (λ_=>0) (λ_=>False) c u Yr i
  ⟨rfl,leavers_one _ _,past_nil.mono (eF _),λop aB=>by simp at aB⟩ ⟨λ_ h=>h.elim,λ_ h=>h.elim,λ_ h=>h.elim⟩ Q
 obtain⟨rfl,A⟩:=r6;have Dm:=LV (w0:=cV FF W) rfl A r7 r8 r9 TP;obtain rfl:v'=f6 aa:=by cases Z;rfl
 have Eb:∀d,(fun(v:aP)(a:ag)=>v=f6 aa/\bL W { a with os:=W.os }/\OsLater W.os a.os) (f6 aa) (j.at d):=λd=>
  ⟨rfl,⟨rfl,TP.tape,TP.output,TP.size,Dm⟩,TP.os⟩
 obtain⟨C,last,o,w',m,e1,e2,e3,e4⟩:=beside_ends (P:=PA) (Shun:=V) (B:=j.heap.size) (D:=λ_ _ _=>False) (Post:=λv a=>v=f6 aa/\bL W { a with os:=W.os }/\OsLater W.os a.os) (λ_ _ _ h=>h.elim) z.main z.old z.GA (n:=0) (w:=j) (sl:=p)
  (λai⟨d,e⟩=>by subst e;exact⟨X,f6 aa,#[],Y d,(λe he=>by simp at he),Eb d⟩)
 refine⟨N+C,last,o,w',m,?_,?_,e3,e4⟩
 .show runNT PA (N+(C+1)) (crowd _ W fb) #[]=_;have E:runNT PA N (crowd #[G (m8 PA f args ol) []] W fb) #[]=(.next (crowd y j p),t1):=J;rw[Go.runNT_add,E];exact e1
 .show runN PA (N+C) (crowd _ W fb)=_;have E:runN PA N (crowd #[fH (m8 PA f args ol) []] W fb)=.next (crowd y j p):=by rw[<-runNT_fst (t:=#[]),J]
  have h2:runN PA N (crowd #[G (m8 PA f args ol) []] W fb)=.next (crowd y j p):=E;rw[runN_add,h2];exact e2
end Go.Proofs
namespace Go.Proofs.YtoflngejgedgbaaGreat
open Go.ChangeShapes Go.WideShapes Go.ChangeAt Go.RowKit Go.Conc Go.ConcM Go.bJ
variable {q:List ek}
def Tryz.own:ownKnob Tryz.prog.godebug=fb:=ae
def Tryz.laidOut:laidOutB k6=aa:=ae
def SV:Tryz.prog.globals.size<(begin k6 (λ_ _=>0) default).world.heap.size:=of_decide_eq_true ae
def Fw{W:ag}(h:W.ShapedOpen k6):Tryz.progTables.globals.size<=W.heap.size:=by
 obtain⟨_,a⟩:=h;obtain⟨o,_,e,_⟩:=a _ (dk _) SV;exact mH (bE e)
set_option maxRecDepth 100000 in
def agp{f:FuncId}(h:61≠f):cY.funcs[f]?=kY[f]?:=by
 show(hr kY 61 nS)[f]?=_;rw[Array.getElem?_setIfInBounds_ne h]
section
variable {H:Type}{enc:aT×aP->H}{P:cf}{w:ag}{base:Nat}{spare:Nat->Bool}{held:Bool}
def aas{t:aT}{v:aP}{d:DataW H}{ts:List aT}{vs:List aP}{ds:List (DataW H)}{ps:List ek}(h:DataW.Trod enc P w base spare held t v d q)(a:DataW.TrodAll enc P w base spare held ts vs ds ps) :
 DataW.TrodAll enc P w base spare held (t::ts) (v::vs) (d::ds) (q++ps):=⟨q,ps,h,a,rfl⟩
end
section
variable {H:Type}{enc:aT×aP->H}
set_option maxRecDepth 100000 in
def ash{W:ag}(hG:Tryz.progTables.globals.size<=W.heap.size)(lS:Calm W.tape){args:Array aP}{ds gs:List (DataW H)}
 (hval:∀(j:Nat)t v,Tryz.f3.params[j]?=fc t->args[j]?=fc v->fA k6 W .any W.heap.size t v)
 (hW:DataW.Whole enc k6 Tryz.f3.params.toList Rows.fieldTroublesSpec.vars ac W args.toList ds gs q) :
 ∃M last o w' t',runNT k6 (M+1) (solo (G (m8 k6 3 args ol) []) W) #[]=(.ended o w',t')/\runN k6 M (solo (G (m8 k6 3 args ol) []) W)=.next last/\step k6 last=.ended o w'/\
  Go.Conc.Good k6 (λv W'=>Rows.fieldTroublesSpec.post enc k6 k7 ac aa ac ac W args v { W' with os:=W.os }/\OsLater W.os W'.os) last o w' t':=by
 have hW':=hW;obtain⟨p,before,hA0,hV,rfl,_,_⟩:=hW;have hA:DataW.TrodAll enc k6 W 0 (λ_=>aa) aa Tryz.f3.params.toList args.toList ds p:=hA0;rw[Tryz.params3]at hA hval;obtain⟨v0,r0,d0,e0,p0,q0,MW,rfl,rfl,h0,hA0⟩:=na hA;obtain⟨v1,r1,d1,e1,p1,q1,GM,rfl,rfl,h1,hA1⟩:=na hA0;subst GM;obtain⟨v2,r2,d2,e2,p2,q2,Tk,rfl,rfl,h2,hA2⟩:=na hA1;subst Tk;obtain⟨v3,r3,d3,e3,p3,q3,Q8,rfl,rfl,h3,hA3⟩:=na hA2;subst Q8;obtain⟨v4,r4,d4,e4,p4,q4,hr4,rfl,rfl,h4,hA4⟩:=na hA3;subst hr4;obtain⟨rfl,rfl,rfl⟩:=trodAll_nil hA4;obtain rfl:args=#[v0,v1,v2,v3,v4]:=by cases args;simp_all
 obtain⟨rfl,rfl⟩:=trodVars_none hV;obtain⟨n2,rfl,rfl,rfl,b2⟩:=open_int kw (hval 2 3 v2 rfl rfl) h2;obtain⟨cs,rfl,_⟩:∃cs,v0=fJ cs/\_:=by
  have:=hval 0 27 v0 rfl rfl;unfold fA at this;rw[Tryz.underlying27]at this;exact this
 have WB:=h0;have acY:∀x∈p0,x.block<W.heap.size:=λx hx=>hW'.lt x (by simp[hx]);obtain⟨fuel,hf⟩:=h0;obtain⟨C,hC,hM⟩:=EJ (enc:=enc) (W:=W) (cs:=cs.toList) ⟨fuel,_,hf⟩;have apy:v1.cells.toList=[v1]:=by
  have h:Cell.okWide k6 W .any W.heap.size 28 v1:=hval 1 28 v1 rfl rfl;cases v1<;>first|rfl|(exfalso;revert h;simp[Cell.okWide,Cell.ok,kx];done)
 have zz:=h1;have axi:∀x∈p1,x.block<W.heap.size:=λx hx=>hW'.lt x (by simp[hx]);obtain⟨asi,lR⟩:=h1;rw[apy]at lR;obtain⟨ps,hU⟩:=alG (enc:=enc) (W:=W) (u:=v1) ⟨asi,_,lR⟩;obtain⟨cs3,rfl,_⟩:∃cs,v3=fJ cs/\_:=by
  have:=hval 3 30 v3 rfl rfl;unfold fA at this;rw[ks]at this;exact this
 have hk3:=h3;have axj:∀x∈p3,x.block<W.heap.size:=λx hx=>hW'.lt x (by simp[hx]);obtain⟨asj,hf3⟩:=h3;obtain⟨a3,c3,rfl⟩:=afM (enc:=enc) (W:=W) (cs:=cs3) ⟨asj,_,hf3⟩;obtain⟨cs4,rfl,_⟩:∃cs,v4=fJ cs/\_:=by
  have:=hval 4 30 v4 rfl rfl;unfold fA at this;rw[ks]at this;exact this
 have ER:=h4;have axk:∀x∈p4,x.block<W.heap.size:=λx hx=>hW'.lt x (by simp[hx]);obtain⟨asl,hf4⟩:=h4;obtain⟨a4,c4,rfl⟩:=afM (enc:=enc) (W:=W) (cs:=cs4) ⟨asl,_,hf4⟩;have hva:VA FF (ox W) #[fJ C.val,rep FF W v1,fm gL n2,fJ #[fm gL a3,fm gL c3],fJ #[fm gL a4,fm gL c4]] #[fJ cs,v1,fm gL n2,fJ #[fm gL a3,fm gL c3],fJ #[fm gL a4,fm gL c4]]:=by
  refine .cons (.agg ?_) (.cons (oy FF W v1).vr (.cons (.int _ _) (.cons (.agg (.cons (.int _ _) (.cons (.int _ _) .nil))) (.cons (.agg (.cons (.int _ _) (.cons (.int _ _) .nil))) .nil))));rw[hC];exact Je _
 obtain⟨M,last,o,w',t',e1,e2,e3,v,e,⟨rfl,agq,YM⟩,g1,g2,g3,g4⟩:=U6 (f:=3) (fn:=k7) (tr:=10) ao rfl ae ((agp ao).t kg) kg Tryz.results3 hG lS hva
  (λw hw=>agA IV C ps n2 a3 c3 a4 c4 _ w (hM w hw) (hU w hw))
 refine⟨M,last,o,w',t',e1,e2,e3,_,e,⟨?_,YM⟩,g1,g2,g3,g4⟩;exact⟨_,_,_,[],_,[],hW',trodAll_mk1 (shut_bool Tryz.underlying4 _),aas (gj Tryz.laidOut ae (of_decide_eq_true ae) WB agq acY) (aas (gj Tryz.laidOut ae (of_decide_eq_true ae) zz agq axi) (aas (shut_int kw b2) (aas (gj Tryz.laidOut ae (of_decide_eq_true ae) hk3 agq axj) (aas (gj Tryz.laidOut ae (of_decide_eq_true ae) ER agq axk) (trodAll_mk0))))),rfl,agq.frame _,bA⟩
set_option maxRecDepth 100000 in
def abo(os:Os)(started:os.Started)(F:Stop.Interp) :
 ReturnsInLeavingWide Rows.fieldTroublesRow.assume k8 os 3 .any (Rows.fieldTroublesSpec.pre6 enc k6 k7 Rows.fieldTroublesRow.domain ac) ((OpenSpec.ofChange Rows.fieldTroublesSpec).postWith enc k6 k7 F (outsideKept [.timePasses]) ac aa ac):=by
 refine returnsInLeavingWide_of_good (C:=k8) Tryz.own started
  (ChangeSpec.witness6c (enc:=enc) (C:=k8) ⟨#[],#[fJ #[fm gL 0,fm gL 0,fR fb 0 0,fR fb 0 0,fR fb 0 0,fR fb 0 0],fR fb 0 0,fm gL 0,fJ #[fm gL 0,fm gL 0],fJ #[fm gL 0,fm gL 0]],[]⟩ 8 ae ae ae ae) ?_
 intro w tape i _ nV _ Ag Nw abb;obtain⟨_,_,_,dL,amt,_,_,_,_,hval⟩:=Ag;obtain rfl:dL=k7:=mj (amt.y.t kg);obtain⟨⟨ds,gs,before,hw,_⟩,_⟩:=Nw;have qu:=DataW.Whole.of_heap (w':=w.forCall tape i) (by rfl) hw;have hG:=Fw nV;have lS:Calm (w.forCall tape i).tape:=abb.2.1 rfl;obtain⟨M,last,o,w2,t2,h1,h2,h3,v,e,hp,r1,r2,r3,r4⟩:=ash hG lS (λj t v ht hv=>hval j t v ht hv) qu;exact⟨M,last,o,w2,t2,h1,h2,h3,v,e,postWith_blind (postWith_of_post hp.1 hp.2),r1,r2,r3,r4⟩
end
theorem fieldTroubles_holds:Rows.FieldTroublesSaid:=
 OpenClaim.holds_of_wide_leaving_time 3 k7 rfl rfl rfl rfl rfl rfl rfl ⟨rfl,rfl,rfl,rfl,rfl⟩ rfl rfl rfl rfl rfl ae kg ae
  (of_decide_eq_true ae) (by unfold Func.isWrapper;first|(rw[if_pos (by decide +kernel)];kernel_rfl)|(rw[if_neg (by decide +kernel)];exact⟨rfl,rfl⟩))
  (λa started H enc _ F=>abo a started F)
end Go.Proofs.YtoflngejgedgbaaGreat
