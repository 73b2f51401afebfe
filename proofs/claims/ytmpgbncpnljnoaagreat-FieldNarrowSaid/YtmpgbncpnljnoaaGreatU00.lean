/- Part of the proof of FieldNarrow. -/
import Derived.Conc.Events
import Derived.Conc.Listed
import Derived.Laws.Sem
import Derived.RunT
import GoSem.Core.Layout
import GoSem.Dispatch
import GoSem.Step
set_option linter.all false
open Go renaming FuncId->aa,TypeId->ab,Question->ac,Result->ad,MapEntry->ae,Tables->ag,Unsupported->ai,Program->ao,unsupported->ap,newObj->aq,setObj->ar,choose->aw,askRoom->aB,typeInfo->aF,underlying->aH,sizeOf->aL,zeroValue->aS,loadCellsFrom->a5,loadCells->a6,storeCells->a7,loadVar->a8,storeVar->a9,newRow->ba,runtimePanic->bb,BoundsCode->bc,boundsPanic->bd,asAddr->bg,byteOfCell->bi,cellOfByte->bj,cellAtBytes->bm,noView->bo,numberAt->bp,behindNumber->bq,fieldPlace->br,sameAddr->bs,mayBeOne->bt,stringish->bv,samePointer->bx,typeStr->bA,Operand->bL,eqGuard->bM,movedNumber->bR,movedPointer->bT,TypeDesc->b2,convert->b3,callFunc->b4,method->b5,nilAhead->b6,invoke->b8,execOp->b9,Deferred->ca,PanicEntry->cb,FrameMode->cc,exitTo->cd,findLabel->ce,gotoIn->cf,yielded->cg,CallKind->ch,results->ci,doReturn->cl,unwind->cm
open Nat renaming le_add_right->co,lt_irrefl->cp,le_refl->cq,le_trans->ct,zero_mul->cu
open List renaming replicate->cv,mapM_cons->cx,toArray->cB,forIn_cons->cC,filter_cons->cQ,find?_cons->c2,all_cons->c4,zip_cons_cons->c5
open Array renaming toList_push->c6,toList_append->c7,getD_eq_getD_getElem?->c8,replicate->c9,append_assoc->da,mapM_eq_mapM_toList->db,forIn_toList->dd,getElem?_toList->de,toList_modify->df,find?_toList->dj,all_toList->dk,toList_filter->dl,toList_map->dp,range->dq,foldl_toList->dt,toList_zip->du
open Go.World renaming freeze->dv,noCell->dx,cell?->dz,farLoad->dB,shape?->dC
open Go.Sem renaming store->dO,runT->dP,run->dQ,getObj->dT,setObj->dU,bind->d8,program->d9,bind_assoc'->ea,run_bind'->eb,runT_bind'->ec,runT_fst->ed,halt->eg,shape->eh,frozen->ei,mark->ej,pure->ek
open Go.Program renaming mk->el,eqGuardType->em,alikeButTags->en,stoodInAs->ep,stoodInHeld->eq,packedAs->et,packed->eu,holdsPacked->eA,cellsOf->eD,depth->eE,underlying->eF
open Go.Instr renaming sureAddr->eI,alloc->eM,box->eN,loadAt->eP,storeAt->eQ,fill->eS,build->eT,fieldAt->eV,field->eW,index->eX,indexAt->e0,extract->e4,sliceBound->e5,sliceBounds->e6,slice->e7,sliceAt->e8,checkKey->e9,sameNow->fb,findNow->fc,findAsking->fg,findKey->fi,lookup->fl,sameBits->fm,keyThatStays->fo,mapUpdate->fp,makeMap->ft,range->fJ,entry->fO,next->fP,buildSlice->fW,getLoop->fY,yield->fZ,beginRound->f0,endRound->f1,endLoop->f2,enterLoop->f3,takeDeferred->f5
open Bool renaming eq_iff_iff->f6,and_eq_true->f7,noConfusion->f8,false_eq_true->f9
open Go.Op renaming equalIn->gb,eqGuardIn->gc,intArith->gd,intCmp->ge,intBits->gf,intDiv->gg,shift->gj,stringOp->gl,twoPlaces->gr,addrMod->gt,addrCmp->gw,addrSub->gy,equal->gB,maxDepth->gD,unary->gG,mapUpdate->gL,insert->g0
open Go.Builtin renaming unsafeAdd_->g1,lenOf->g2,firstCells->g5,holdsCells->g6,zeroCells->g7,mayShare->g8,append_->g9,len_->hh,max2->hj,min2->hk,max_->ho,min_->hr
open Go.Unsupported renaming addressObserved->ht,unsafePointer->hw
open Option renaming some_inj->hB,bind_some->hC
open Go.Deferred renaming ofValue->hD
open Go.Frame renaming oper?->hE,enter->hG,catches->hH
open Go.GStep renaming after->hJ,go->hK,ended->hL
open Go.stepG renaming apply->hM,oper->hN
open Go.Conc renaming mem_seen->hO
open Or renaming inl->hP,inr->hQ
open Go.Value renaming bool->hR,int->hS,string->hT,agg->hV,pointer->hW,nilIface->hX,nilFunc->hY,func->hZ,slice->h0,map->h3,iface->h4,tuple->h5
open Go.Result renaming ok->h6,halt->h7
open Go.Obj renaming cells->h8,map->h9,stringIter->ib,mapIter->ii,loop->ik,deferred->il
open Go.Halt renaming panic->im,stuck->io,unsupported->ip,blocked->iq,waiting->ix,exit->iB,fatal->iC,throw->iM,goexit->iN
open Go.FrameMode renaming returning->iU,panicking->iY
open Go.CallKind renaming normal->i0
open Go.GoStatus renaming running->i1
open Go.Outcome renaming stuck->i2
namespace Go.bJ
abbrev Ren:=Nat->Nat->Prop
structure Ren.bw(G:Nat)(ρ:Ren):Prop where
 fn:∀{a b b':Nat},ρ a b->ρ a b'->b=b'
 inj:∀{a a' b:Nat},ρ a b->ρ a' b->a=a'
 XS:∀{a b:Nat},ρ a b->(a<G↔b<G)
def Ren.le(ρ σ:Ren):Prop:=∀ ⦃a b:Nat⦄,ρ a b->σ a b
def Ren.ext(ρ:Ren)(r c:Nat):Ren:=λa b=>ρ a b\/(a=r/\b=c)
def Ren.le_refl(ρ:Ren):ρ.le ρ:=λ_ _ h=>h
theorem Ren.le_trans{ρ σ a:Ren}(h:ρ.le σ)(k:σ.le a):ρ.le a:=λ_ _ x=>k (h x)
def Ren.kW(ρ:Ren)(r a:Nat):ρ.le (ρ.ext r a):=λ_ _ h=>hP h
def Ren.IW(ρ:Ren)(r a:Nat):ρ.ext r a r a:=hQ ⟨rfl,rfl⟩
def Ren.bw.ext{G:Nat}{ρ:Ren}(h:ρ.bw G){r c:Nat}(d:∀b,¬ρ r b)(e:∀a,¬ρ a c)(f:G<=r)(g:G<=c):(ρ.ext r c).bw G:=by
 refine⟨λ{a b b'}x y=>?_,λ{a i b}x y=>?_,λ{a b}x=>?_⟩
 ·rcases x with x|⟨rfl,rfl⟩<;>rcases y with y|⟨y1,y2⟩
  ·exact h.fn x y
  ·grind
  ·exact absurd y (d _)
  ·exact y2.symm
 ·rcases x with x|⟨rfl,rfl⟩<;>rcases y with y|⟨y1,y2⟩
  ·exact h.inj x y
  ·grind
  ·exact absurd y (e _)
  ·exact y1.symm
 ·rcases x with x|⟨rfl,rfl⟩
  ·exact h.XS x
  ·omega
def AR(ρ:Ren)(a a':Addr):Prop:=ρ a.block a'.block/\a.off=a'.off/\a.spot=a'.spot
def AR.mono{ρ σ:Ren}(h:ρ.le σ){a a':Addr}(x:AR ρ a a'):AR σ a a':=⟨h x.1,x.2⟩
def AR.add{ρ:Ren}{a a':Addr}(x:AR ρ a a')(n:Nat):AR ρ (a.add n) (a'.add n):=by
 unfold Addr.add
 split
 ·exact x
 ·exact⟨x.1,by show a.off+n=a'.off+n;rw[x.2.1],rfl⟩
def AR.eq_iff{G:Nat}{ρ:Ren}(c:ρ.bw G){a a' b b':Addr}(x:AR ρ a a')(y:AR ρ b b'):(a=b)↔(a'=b'):=by
 obtain⟨k,l,d⟩:=a;obtain⟨m,n,o⟩:=b;obtain⟨e,f,p⟩:=a';obtain⟨g,i,j⟩:=b';obtain⟨x1,x2,x3⟩:=x;obtain⟨y1,y2,y3⟩:=y;simp only at x1 x2 x3 y1 y2 y3;subst x2 x3 y2 y3;constructor
 ·intro h;simp only[Addr.mk.injEq]at h;obtain⟨rfl,rfl,rfl⟩:=h;rw[c.fn x1 y1]
 ·intro h;simp only[Addr.mk.injEq]at h;obtain⟨rfl,rfl,rfl⟩:=h;rw[c.inj x1 y1]
def cn:aa:=1000000
inductive XT(F:aa->Bool)(ρ:Ren):Fn->Fn->Prop
 |func (f:aa) (h:F f=true):XT F ρ (.func f) (.func f)
 |yield {l l':Nat} (h:ρ l l'):XT F ρ (.yield l) (.yield l')
 |spec {l l':Nat} (h:ρ l l'):XT F ρ (.func (cn+l)) (.yield l')
def XU:Value->Bool
 |hR _ | hS .. | hT _ | hV _ | hW none | hX | hY | hZ (.method _) _ _=>false
 |_=>true
def CM(x y:Nat):Nat:=(x+y)*(x+y)+x
def zY{x y u v:Nat}(h:CM x y=CM u v):x=u/\y=v:=by
 unfold CM at h;have a:∀{s t p q:Nat},p<=s->s<t->s*s+p<t*t+q:=by
  intro s t p q c b;have d:(s+1)*(s+1)<=t*t:=Nat.mul_le_mul b b
  grind
 rcases Nat.lt_trichotomy (x+y) (u+v) with g|g|g
 ·have:=a (p:=x) (q:=u) (co x y) g;omega
 ·rw[g]at h;omega
 ·have:=a (p:=u) (q:=x) (co u v) g;omega
def N1(a:Addr):Nat:=CM (CM a.block a.off) (match a.spot with|none=>0|some k=>k+1)
theorem N3{a b:Addr}(h:N1 a=N1 b):a=b:=by
 obtain⟨x,y,z⟩:=a;obtain⟨u,v,w⟩:=b;obtain⟨c,d⟩:=zY h;obtain⟨rfl,rfl⟩:=zY c
 grind
mutual
inductive VR(F:aa->Bool)(ρ:Ren):Value->Value->Prop
 |bool (b:Bool):VR F ρ (hR b) (hR b)
 |int (k:IntKind) (n:Int):VR F ρ (hS k n) (hS k n)
 |string (s:ByteArray):VR F ρ (hT s) (hT s)
 |dS:VR F ρ (hW none) (hW none)
 |ptr {a a':Addr} (h:AR ρ a a'):VR F ρ (hW (some a)) (hW (some a'))
 |di (l c:Nat):VR F ρ (h0 none l c) (h0 none l c)
 |slice {a a':Addr} (l c:Nat) (h:AR ρ a a'):VR F ρ (h0 (some a) l c) (h0 (some a') l c)
 |dK (D:Nat) (a:Addr):VR F ρ (h0 (some ⟨D,N1 a,none⟩) 0 0) (h0 (some a) 0 0)
 |qQ:VR F ρ (h3 none) (h3 none)
 |map {r r':Nat} (h:ρ r r'):VR F ρ (h3 (some r)) (h3 (some r'))
 |func {fn dL:Fn} {a a' b b':Array Value} (h:XT F ρ fn dL) (h1:cU F ρ a.toList a'.toList) (h2:cU F ρ b.toList b'.toList):VR F ρ (hZ fn a b) (hZ dL a' b')
 |nilFunc:VR F ρ hY hY
 |iface (t:ab) {v v':Value} (h:VR F ρ v v'):VR F ρ (h4 t v) (h4 t v')
 |nilIface:VR F ρ hX hX
 |agg {a a':Array Value} (h:cU F ρ a.toList a'.toList):VR F ρ (hV a) (hV a')
 |tuple {a a':Array Value} (h:cU F ρ a.toList a'.toList):VR F ρ (h5 a) (h5 a')
 |hole (v':Value) (h:XU v'=true):VR F ρ (h5 #[]) v'
 |wG (n:String) (f c:Array Value):VR F ρ (hZ (.method "") #[h4 0 hX] #[hZ (.method n) f c]) (hZ (.method n) f c)
inductive cU(F:aa->Bool)(ρ:Ren):List Value->List Value->Prop
 |nil:cU F ρ [] []
 |cons {v v':Value} {l l':List Value} (h:VR F ρ v v') (t:cU F ρ l l'):cU F ρ (v::l) (v'::l')
end
abbrev VA(F:aa->Bool)(ρ:Ren)(a a':Array Value):Prop:=cU F ρ a.toList a'.toList
def XT.mono{F:aa->Bool}{ρ σ:Ren}(h:ρ.le σ){f f':Fn}(x:XT F ρ f f'):XT F σ f f':=by
 cases x with
 |func f hf=>exact .func f hf
 |yield hl=>exact .yield (h hl)
 |spec hl=>exact .spec (h hl)
section
variable {F:aa->Bool}{ρ σ:Ren}
mutual
theorem VR.mono(h:ρ.le σ){v v':Value}(x:VR F ρ v v'):VR F σ v v':=by
 cases x with
 |bool b=>exact .bool b
 |int k n=>exact .int k n
 |string s=>exact .string s
 |dS=>exact .dS
 |ptr a=>exact .ptr (a.mono h)
 |di l c=>exact .di l c
 |slice l c a=>exact .slice l c (a.mono h)
 |dK D a=>exact .dK D a
 |qQ=>exact .qQ
 |map a=>exact .map (h a)
 |func a b c=>exact .func (a.mono h) (cU.mono h b) (cU.mono h c)
 |nilFunc=>exact .nilFunc
 |iface t a=>exact .iface t (VR.mono h a)
 |nilIface=>exact .nilIface
 |agg a=>exact .agg (cU.mono h a)
 |tuple a=>exact .tuple (cU.mono h a)
 |hole v' a=>exact .hole v' a
 |wG n f c=>exact .wG n f c
theorem cU.mono(h:ρ.le σ){l l':List Value}(x:cU F ρ l l'):cU F σ l l':=by
 cases x with
 |nil=>exact .nil
 |cons a b=>exact .cons (VR.mono h a) (cU.mono h b)
end
def cU.length{l l':List Value}(x:cU F ρ l l'):l.length=l'.length:=by
 induction l generalizing l' with
 |nil=>cases x;rfl
 |cons v l a=>cases x with|cons _ t=>simp[a t]
theorem cU.append{l l' m m':List Value}(x:cU F ρ l l')(y:cU F ρ m m'):cU F ρ (l++m) (l'++m'):=by
 induction l generalizing l' with
 |nil=>cases x;exact y
 |cons v l a=>cases x with|cons h t=>exact .cons h (a t)
theorem cU.get?{l l':List Value}(x:cU F ρ l l')(i:Nat):(l[i]?=none/\l'[i]?=none)\/∃v v',l[i]?=some v/\l'[i]?=some v'/\VR F ρ v v':=by
 induction l generalizing l' i with
 |nil=>cases x;exact hP ⟨rfl,rfl⟩
 |cons v l a=>
  cases x with
  |cons h t=>
   grind
theorem cU.set{l l':List Value}(x:cU F ρ l l')(i:Nat){v v':Value}(h:VR F ρ v v'):cU F ρ (l.set i v) (l'.set i v'):=by
 induction l generalizing l' i with
 |nil=>cases x;exact .nil
 |cons u l a=>
  cases x with
  |cons b t=>
   cases i with
   |zero=>exact .cons h t
   |succ i=>exact .cons b (a t i)
theorem cU.take{l l':List Value}(x:cU F ρ l l')(i:Nat):cU F ρ (l.take i) (l'.take i):=by
 induction l generalizing l' i with
 |nil=>cases x;simpa using cU.nil
 |cons u l a=>
  cases x with
  |cons b t=>
   cases i with
   |zero=>exact .nil
   |succ i=>exact .cons b (a t i)
theorem cU.drop{l l':List Value}(x:cU F ρ l l')(i:Nat):cU F ρ (l.drop i) (l'.drop i):=by
 induction l generalizing l' i with
 |nil=>cases x;simpa using cU.nil
 |cons u l a=>
  cases x with
  |cons b t=>
   cases i with
   |zero=>exact .cons b t
   |succ i=>simpa using a t i
theorem cU.replicate{v v':Value}(h:VR F ρ v v')(n:Nat):cU F ρ (cv n v) (cv n v'):=by
 induction n with
 |zero=>exact .nil
 |succ n a=>exact .cons h a
def cU.map{a:Type}(l:List a){f g:a->Value}(h:∀x∈l,VR F ρ (f x) (g x)):cU F ρ (l.map f) (l.map g):=by
 induction l with
 |nil=>exact .nil
 |cons x l b=>exact .cons (h x (by simp)) (b λy hy=>h y (by simp[hy]))
def VR.undef:VR F ρ undef undef:=.tuple .nil
def FM{v:Value}(h:XU v=true):v.cells=#[v]:=by
 cases v<;>first|rfl|cases h
def VR.cells{v v':Value}(h:VR F ρ v v'):VA F ρ v.cells v'.cells:=by
 cases h with
 |hole v' h=>rw[FM h];exact .cons (.hole v' h) .nil
 |wG n f c=>exact .cons (.wG n f c) .nil
 |dK D a=>exact .cons (.dK D a) .nil
 |_=>first|(rename_i h;exact h)|exact .cons (by constructor<;>assumption) .nil
def VA.size{a a':Array Value}(h:VA F ρ a a'):a.size=a'.size:=h.length
def VA.push{a a':Array Value}(h:VA F ρ a a'){v v':Value}(hv:VR F ρ v v'):VA F ρ (a.push v) (a'.push v'):=by
 show cU _ _ _ _;rw[c6,c6];exact cU.append h (.cons hv .nil)
theorem VA.append{a a' b b':Array Value}(h:VA F ρ a a')(k:VA F ρ b b'):VA F ρ (a++b) (a'++b'):=by
 grind[c7,cU.append]
theorem VA.get?{a a':Array Value}(h:VA F ρ a a')(i:Nat):(a[i]?=none/\a'[i]?=none)\/∃v v',a[i]?=some v/\a'[i]?=some v'/\VR F ρ v v':=by
 have:=cU.get? h i;simpa using this
def VA.getD{a a':Array Value}(h:VA F ρ a a')(i:Nat){d d':Value}(hd:VR F ρ d d'):VR F ρ (a.getD i d) (a'.getD i d'):=by
 rw[c8,c8]
 grind[VA.get?]
theorem VA.set{a a':Array Value}(h:VA F ρ a a')(i:Nat){v v':Value}(hv:VR F ρ v v'):VA F ρ (a.setIfInBounds i v) (a'.setIfInBounds i v'):=by
 grind[Array.toList_setIfInBounds,cU.set]
def VA.extract{a a':Array Value}(h:VA F ρ a a')(i j:Nat):VA F ρ (a.extract i j) (a'.extract i j):=by
 grind[Array.toList_extract,cU.take,cU.drop]
theorem VA.replicate{v v':Value}(h:VR F ρ v v')(n:Nat):VA F ρ (c9 n v) (c9 n v'):=by
 grind[Array.toList_replicate,cU.replicate]
def VA.mono(h:ρ.le σ){a a':Array Value}(x:VA F ρ a a'):VA F σ a a':=cU.mono h x
def VA.nil:VA F ρ #[] #[]:=cU.nil
def VA.one{v v':Value}(h:VR F ρ v v'):VA F ρ #[v] #[v']:=cU.cons h cU.nil
def VA.two{v v' u a:Value}(h:VR F ρ v v')(k:VR F ρ u a):VA F ρ #[v,u] #[v',a]:=cU.cons h (cU.cons k cU.nil)
def VA.three{v v' u a x b:Value}(h:VR F ρ v v')(k:VR F ρ u a)(m:VR F ρ x b):VA F ρ #[v,u,x] #[v',a,b]:=cU.cons h (cU.cons k (cU.cons m cU.nil))
end
end Go.bJ
namespace Go
def World.re(w:World)(a:Nat->ac->Nat)(d:Nat):World:={ w with tape:=a,drawn:=d }
def Result.world{a:Type}:ad a->World
 |h6 _ w | h7 _ w=>w
def Result.re{b:Type}(r:ad b)(c:Nat->ac->Nat)(d:Nat):ad b:=match r with
 |h6 a w=>h6 a (w.re c d)
 |h7 h w=>h7 h (w.re c d)
end Go
namespace Go.bJ
structure zo(F:aa->Bool)(ρ:Ren)(e e':ae):Prop where
 key:VR F ρ e.key e'.key
 val:VR F ρ e.val e'.val
 born:e.born=e'.born
def zo.mono{F:aa->Bool}{ρ σ:Ren}(h:ρ.le σ){e e':ae}(x:zo F ρ e e'):zo F σ e e':=⟨x.key.mono h,x.val.mono h,x.born⟩
inductive bD(F:aa->Bool)(ρ:Ren):List ae->List ae->Prop
 |nil:bD F ρ [] []
 |cons {e e':ae} {l l':List ae} (h:zo F ρ e e') (t:bD F ρ l l'):bD F ρ (e::l) (e'::l')
def bD.mono{F:aa->Bool}{ρ σ:Ren}(h:ρ.le σ){l l':List ae}(x:bD F ρ l l'):bD F σ l l':=by
 induction x with
 |nil=>exact .nil
 |cons a _ b=>exact .cons (a.mono h) b
def bD.length{F:aa->Bool}{ρ:Ren}{l l':List ae}(x:bD F ρ l l'):l.length=l'.length:=by
 induction x with
 |nil=>rfl
 |cons _ _ a=>simp[a]
structure CN(F:aa->Bool)(K:Code->Bool)(ρ:Ren)(l l':Loop):Prop where
 state:l.state=l'.state
 pending:l.pending=l'.pending
 FN:∀c,l.pending=some c->K c=true
 fn:l.fn=l'.fn
 mI:F l.fn=true
 tmps:VA F ρ l.tmps l'.tmps
 params:l.params=l'.params
 assign:l.assign=l'.assign
 CP:K l.assign=true
 body:l.body=l'.body
 N6:K l.body=true
 defers:ρ l.defers l'.defers
def CN.mono{F:aa->Bool}{K:Code->Bool}{ρ σ:Ren}(h:ρ.le σ){l l':Loop}(x:CN F K ρ l l'):CN F K σ l l':=
 ⟨x.state,x.pending,x.FN,x.fn,x.mI,cU.mono h x.tmps,x.params,x.assign,x.CP,x.body,x.N6,h x.defers⟩
inductive OR(F:aa->Bool)(K:Code->Bool)(ρ:Ren):Obj->Obj->Prop
 |cells {c c':Array Value} (t:ab) (fz:Nat×Nat) (h:VA F ρ c c'):OR F K ρ (h8 c t fz) (h8 c' t fz)
 |map {es aT:Array ae} (clock:Nat) (h:bD F ρ es.toList aT.toList):OR F K ρ (h9 es clock) (h9 aT clock)
 |stringIter (s:ByteArray) (pos:Nat):OR F K ρ (ib s pos) (ib s pos)
 |mJ (a:Nat) (b:Array Nat) (c:Nat):OR F K ρ (ii none a b c) (ii none a b c)
 |mapIter {m m':Nat} (a:Nat) (b:Array Nat) (c:Nat) (h:ρ m m'):OR F K ρ (ii (some m) a b c) (ii (some m') a b c)
 |loop {l l':Loop} (h:CN F K ρ l l'):OR F K ρ (ik l) (ik l')
 |deferred:OR F K ρ (il (some [])) (il (some []))
 |nW:OR F K ρ (il none) (il none)
 |number {a a':Addr} (lost:Bool) (h:AR ρ a a'):OR F K ρ (.number a lost) (.number a' lost)
def OR.mono{F:aa->Bool}{K:Code->Bool}{ρ σ:Ren}(h:ρ.le σ){o o':Obj}(x:OR F K ρ o o'):OR F K σ o o':=by
 cases x with
 |cells t e a=>exact .cells t e (cU.mono h a)
 |map c a=>exact .map c (a.mono h)
 |stringIter s p=>exact .stringIter s p
 |mJ a b c=>exact .mJ a b c
 |mapIter a b c d=>exact .mapIter a b c (h d)
 |loop a=>exact .loop (a.mono h)
 |deferred=>exact .deferred
 |nW=>exact .nW
 |number l a=>exact .number l (a.mono h)
structure WR(G:Nat)(F:aa->Bool)(K:Code->Bool)(ρ:Ren)(w w':World):Prop where
 pK:G<=w.heap.size
 gN:G<=w'.heap.size
 obj:∀{r r':Nat},ρ r r'->∃o o',w.heap[r]?=some o/\w'.heap[r']?=some o'/\OR F K ρ o o'
section
variable {G:Nat}{F:aa->Bool}{K:Code->Bool}{ρ σ:Ren}{w w':World}
def bE{b:Type}{a:Array b}{i:Nat}{x:b}(h:a[i]?=some x):i<a.size:=by
 grind
def WR.lt(h:WR G F K ρ w w'){r a:Nat}(x:ρ r a):r<w.heap.size/\a<w'.heap.size:=by
 obtain⟨o,b,c,d,_⟩:=h.obj x
 grind
def WR.fresh(h:WR G F K ρ w w'):(∀b,¬ρ w.heap.size b)/\(∀a,¬ρ a w'.heap.size):=
 ⟨λ_ x=>absurd (h.lt x).1 (cp _),λ_ x=>absurd (h.lt x).2 (cp _)⟩
def WR.push(h:WR G F K ρ w w'){o o':Obj}(x:OR F K (ρ.ext w.heap.size w'.heap.size) o o') :
 WR G F K (ρ.ext w.heap.size w'.heap.size) { w with heap:=w.heap.push o } { w' with heap:=w'.heap.push o' }:=by
 refine⟨by have:=h.pK;simp;omega,by have:=h.gN;simp;omega,λ{r f}a=>?_⟩
 rcases a with a|⟨rfl,rfl⟩
 ·obtain⟨p,b,c,d,e⟩:=h.obj a;have g:=bE c;have i:=bE d;exact⟨p,b,by grind,by grind,e.mono (Ren.kW _ _ _)⟩
 grind
def WR.put(h:WR G F K ρ w w')(c:ρ.bw G){r a:Nat}(b:ρ r a){o o':Obj}(x:OR F K ρ o o') :
 WR G F K ρ { w with heap:=w.heap.setIfInBounds r o } { w' with heap:=w'.heap.setIfInBounds a o' }:=by
 refine⟨by simpa using h.pK,by simpa using h.gN,λ{s d}hs=>?_⟩;obtain⟨f,g⟩:=h.lt b;by_cases e:r=s
 ·subst e;obtain rfl:=c.fn b hs
  grind
 ·have i:a≠d:=λy=>e (c.inj b (y▸hs));obtain⟨p,j,k,l,m⟩:=h.obj hs
  grind
def setCell_eq(w:World)(a:Addr)(v:Value){c:Array Value}{t:ab}{b:Nat×Nat}(h:w.heap[a.block]?=some (h8 c t b))(hs:a.spot=none) :
 w.setCell a v={ w with heap:=w.heap.setIfInBounds a.block (h8 (c.setIfInBounds a.off v) t b) }:=by
 unfold World.setCell;congr 1
 grind
def iz(w:World)(a:Addr)(n:Nat)(d:n≠0){c:Array Value}{t:ab}{b hi:Nat}(h:w.heap[a.block]?=some (h8 c t (b,hi))) :
 w.freeze a n={ w with heap:=w.heap.setIfInBounds a.block (h8 c t (if b==hi then(a.off,a.off+n) else(min b a.off,max hi (a.off+n)))) }:=by
 unfold dv;rw[if_neg d];congr 1
 grind
end
def lE(m:Mark):Prop:=m=.noRoom
section
variable (T:ag)(fB fA:Array Func)(F:aa->Bool)(K:Code->Bool)
def dw:ai->Bool
 |.initOrder _=>false
 |_=>true
def ac8{a:Type}(ρ:Ren):Halt->Sem a->Prop
 |im v,b=>∃v',b=eg (im v')/\VR F ρ v v'
 |io _,_=>True
 |ip u,_=>dw u=true
 |_,_=>False
def Lr:Halt->Prop
 |io _=>True
 |ip u=>dw u=true
 |_=>False
def bW{a:Type}:Sem a->Prop
 |eg h=>Lr h
 |d9 k=>bW (k ⟨T,fB⟩)
 |eh _ k=>∀x,bW (k x)
 |ei _ k=>∀x,bW (k x)
 |ej m k=>lE m/\bW k
 |_=>False
def vW(o:Obj):Prop:=∀c t a,o≠h8 c t a
def av{g i:Type}(RA:Ren->g->i->Prop):Ren->Sem g->Sem i->Prop
 |ρ,eg h,c=>ac8 F ρ h c
 |ρ,ek a,c=>∃d,c=ek d/\RA ρ a d
 |ρ,.load m a k,c=>∃m' d k',c=.load m' d k'/\m=.plain/\m'=.plain/\AR ρ a d/\∀v v',VR F ρ v v'->av RA ρ (k v) (k' v')
 |ρ,.store m a v k,c=>∃m' d v' k',c=.store m' d v' k'/\m=.plain/\m'=.plain/\AR ρ a d/\VR F ρ v v'/\av RA ρ k k'
 |ρ,.new o k,c=>∃f k',c=.new f k'/\OR F K ρ o f/\∀r e,(∀b,¬ρ r b)->(∀a,¬ρ a e)->T.globals.size<=r->T.globals.size<=e->av RA (ρ.ext r e) (k r) (k' e)
 |ρ,eh r k,c=>(∃e k',c=eh e k'/\ρ r e/\∀x,av RA ρ (k x) (k' x))\/∀x,bW T fB (k x)
 |ρ,.freeze a n k,c=>∃d k',c=.freeze d n k'/\AR ρ a d/\av RA ρ k k'
 |ρ,ei a k,c=>(∃d k',c=ei d k'/\AR ρ a d/\∀b,av RA ρ (k b) (k' b))\/∀x,bW T fB (k x)
 |ρ,.getObj r k,c=>∃e k',c=.getObj e k'/\ρ r e/\∀o f,OR F K ρ o f->av RA ρ (k o) (k' f)
 |ρ,.setObj r o k,c=>∃e f k',c=.setObj e f k'/\ρ r e/\(OR F K ρ o f/\vW o)/\av RA ρ k k'
 |ρ,.choose q k,c=>∃k',c=.choose q k'/\∀n,av RA ρ (k n) (k' n)
 |_,.sys _ _,_=>False
 |ρ,d9 k,c=>(∃k',c=d9 k'/\av RA ρ (k ⟨T,fB⟩) (k' ⟨T,fA⟩))\/bW T fB (k ⟨T,fB⟩)
 |ρ,ej m k,c=>(∃k',c=ej m k'/\lE m/\av RA ρ k k')\/(lE m/\bW T fB k)
end
section
variable {T:ag}{fB fA:Array Func}{F:aa->Bool}{K:Code->Bool}
def bW.bind{b c:Type}{s:Sem b}{f:b->Sem c}(h:bW T fB s):bW T fB (s.bind f):=by
 induction s with
 |halt _=>exact h
 |program k a=>exact a _ h
 |shape r k a=>exact λx=>a x (h x)
 |frozen r k a=>exact λx=>a x (h x)
 |mark m k a=>exact⟨h.1,a h.2⟩
 |_=>exact h.elim
def bW.run{c:Type}{s:Sem c}(h:bW T fB s)(w:World):∃x,Lr x/\∀b d,s.run ⟨T,fB⟩ (w.re b d)=h7 x (w.re b d):=by
 induction s with
 |halt x=>exact⟨x,h,λ_ _=>rfl⟩
 |program k a=>exact a _ h
 |shape r k a=>exact a (w.shape? r) (h _)
 |frozen r k a=>exact a (w.frozen? r) (h _)
 |mark m k a=>exact a h.2
 |_=>exact h.elim
def Lr.halt{c a:Type}{RA:Ren->c->a->Prop}{ρ:Ren}{h:Halt}(b:Lr h)(s':Sem a):av T fB fA F K RA ρ (eg h) s':=by
 cases h<;>first|exact b.elim|trivial|exact b
def bW.rel{a b:Type}{RA:Ren->a->b->Prop}{ρ:Ren}{s:Sem a}(h:bW T fB s)(s':Sem b):av T fB fA F K RA ρ s s':=by
 cases s with
 |halt x=>exact Lr.halt h s'
 |program k=>exact hQ h
 |shape r k=>exact hQ h
 |frozen r k=>exact hQ h
 |mark m k=>exact hQ h
 |_=>exact h.elim
def av.bind{t u A B:Type}{RA:Ren->t->u->Prop}{C:Ren->A->B->Prop}{s:Sem t} :
 ∀{ρ:Ren}{s':Sem u}{f:t->Sem A}{f':u->Sem B},ρ.bw T.globals.size->av T fB fA F K RA ρ s s'->
  (∀σ:Ren,ρ.le σ->σ.bw T.globals.size->∀a a',RA σ a a'->av T fB fA F K C σ (f a) (f' a'))->av T fB fA F K C ρ (s.bind f) (s'.bind f'):=by
 induction s with
 |pure a=>rintro ρ s' f f' e⟨a',rfl,h⟩hf;exact hf ρ (Ren.le_refl ρ) e a a' h
 |halt h=>
  intro ρ s' f f' e hs hf;cases h<;>first|exact hs|trivial|(obtain⟨v',rfl,hv⟩:=hs;exact⟨v',rfl,hv⟩)
 |load m a k i=>rintro ρ s' f f' e⟨m',a',k',rfl,g,j,l,y⟩hf;exact⟨_,_,_,rfl,g,j,l,λv v' hv=>i v e (y v v' hv) hf⟩
 |store m a v k i=>rintro ρ s' f f' e⟨m',a',v',k',rfl,g,j,l,y,D⟩hf;exact⟨_,_,_,_,rfl,g,j,l,y,i e D hf⟩
 |new o k i=>
  rintro ρ s' f f' e⟨z,k',rfl,g,j⟩hf;exact⟨_,_,rfl,g,λr p a b c d=>i r (e.ext a b c d) (j r p a b c d) λσ E=>hf σ (λ_ _ x=>E (Ren.kW _ _ _ x))⟩
 |shape r k i=>
  rintro ρ s' f f' e(⟨p,k',rfl,g,j⟩|h)hf
  ·exact hP ⟨_,_,rfl,g,λx=>i x e (j x) hf⟩
  ·exact hQ λx=>(h x).bind
 |freeze a n k i=>rintro ρ s' f f' e⟨a',k',rfl,g,j⟩hf;exact⟨_,_,rfl,g,i e j hf⟩
 |frozen a k i=>
  rintro ρ s' f f' e(⟨a',k',rfl,g,j⟩|h)hf
  ·exact hP ⟨_,_,rfl,g,λb=>i b e (j b) hf⟩
  ·exact hQ λx=>(h x).bind
 |getObj r k i=>rintro ρ s' f f' e⟨p,k',rfl,g,j⟩hf;exact⟨_,_,rfl,g,λo z H=>i o e (j o z H) hf⟩
 |setObj r o k i=>rintro ρ s' f f' e⟨p,z,k',rfl,g,j,l⟩hf;exact⟨_,_,_,rfl,g,j,i e l hf⟩
 |choose q k i=>rintro ρ s' f f' e⟨k',rfl,g⟩hf;exact⟨_,rfl,λn=>i n e (g n) hf⟩
 |sys c k i=>intro ρ s' f f' e h;exact h.elim
 |program k i=>
  rintro ρ s' f f' e(⟨k',rfl,g⟩|g)hf
  ·exact hP ⟨_,rfl,i _ e g hf⟩
  ·exact hQ g.bind
 |mark m k i=>
  rintro ρ s' f f' e(⟨k',rfl,g,j⟩|h)hf
  ·exact hP ⟨_,rfl,g,i e j hf⟩
  ·exact hQ ⟨h.1,h.2.bind⟩
def av.mono{t u:Type}{RA y:Ren->t->u->Prop}{s:Sem t}:∀{ρ:Ren}{s':Sem u},av T fB fA F K RA ρ s s'->(∀σ:Ren,ρ.le σ->∀a a',RA σ a a'->y σ a a')->av T fB fA F K y ρ s s':=by
 induction s with
 |pure a=>rintro ρ s'⟨a',rfl,h⟩hf;exact⟨a',rfl,hf ρ (Ren.le_refl ρ) a a' h⟩
 |halt h=>intro ρ s' hs _;exact hs
 |load m a k f=>rintro ρ s'⟨m',a',k',rfl,e,g,i,l⟩hf;exact⟨_,_,_,rfl,e,g,i,λv v' hv=>f v (l v v' hv) hf⟩
 |store m a v k f=>rintro ρ s'⟨m',a',v',k',rfl,e,g,i,l,z⟩hf;exact⟨_,_,_,_,rfl,e,g,i,l,f z hf⟩
 |new o k f=>
  rintro ρ s'⟨p,k',rfl,e,g⟩hf;exact⟨_,_,rfl,e,λr j a b c d=>f r (g r j a b c d) λσ A=>hf σ (λ_ _ x=>A (Ren.kW _ _ _ x))⟩
 |shape r k f=>
  rintro ρ s'(⟨j,k',rfl,e,g⟩|h)hf
  ·exact hP ⟨_,_,rfl,e,λx=>f x (g x) hf⟩
  ·exact hQ h
 |freeze a n k f=>rintro ρ s'⟨a',k',rfl,e,g⟩hf;exact⟨_,_,rfl,e,f g hf⟩
 |frozen a k f=>
  rintro ρ s'(⟨a',k',rfl,e,g⟩|h)hf
  ·exact hP ⟨_,_,rfl,e,λb=>f b (g b) hf⟩
  ·exact hQ h
 |getObj r k f=>rintro ρ s'⟨j,k',rfl,e,g⟩hf;exact⟨_,_,rfl,e,λo p B=>f o (g o p B) hf⟩
 |setObj r o k f=>rintro ρ s'⟨j,p,k',rfl,e,g,i⟩hf;exact⟨_,_,_,rfl,e,g,f i hf⟩
 |choose q k f=>rintro ρ s'⟨k',rfl,e⟩hf;exact⟨_,rfl,λn=>f n (e n) hf⟩
 |sys c k f=>intro ρ s' h;exact h.elim
 |program k f=>
  rintro ρ s'(⟨k',rfl,e⟩|e)hf
  ·exact hP ⟨_,rfl,f _ e hf⟩
  ·exact hQ e
 |mark m k f=>
  rintro ρ s'(⟨k',rfl,e,g⟩|h)hf
  ·exact hP ⟨_,rfl,e,f g hf⟩
  ·exact hQ h
end
def Ls(ρ:Ren)(e:Event):Prop:=
 match e.loc with
 |.cell a=>e.sync=false/\∃r,ρ r a.block
 |.obj b=>e.sync=false/\∃r,ρ r b
 |.mark m=>lE m
 |.output=>False
 |.goroutines=>False
def Ls.mono{ρ a:Ren}(h:ρ.le a){e:Event}(x:Ls ρ e):Ls a e:=by
 obtain⟨l,w,s⟩:=e;cases l<;>simp only[Ls]at x ⊢
 ·exact⟨x.1,x.2.imp λ_ y=>h y⟩
 ·exact⟨x.1,x.2.imp λ_ y=>h y⟩
 ·exact x
def nX(w:World)(a i:Nat):Prop:=∃v,w.cell? ⟨a,i,none⟩=some v/\(v=h5 #[]\/∃c,v=hV c)
structure cE(G:Nat)(F:aa->Bool)(K:Code->Bool)(ρ:Ren)(w w':World)(aJ:Ren)(w1 aP:World)(new:Array Event):Prop where
 le:ρ.le aJ
 inj:aJ.bw G
 wr:WR G F K aJ w1 aP
 tape:w1.tape=aP.tape
 drawn:w1.drawn=aP.drawn
 wH:aP.tape=w'.tape
 XV:aP.os=w'.os
 mK:aP.output=w'.output
 size:w.heap.size<=w1.heap.size
 fV:w'.heap.size<=aP.heap.size
 frame:∀b,b<w'.heap.size->(∀a,¬ρ a b)->aP.heap[b]?=w'.heap[b]?
 N7:∀b,w'.heap.size<=b->b<aP.heap.size->∃a,aJ a b
 only:∀a b,aJ a b->ρ a b\/(w.heap.size<=a/\w'.heap.size<=b)
 ev:∀e∈new,Ls aJ e
 hol:∀a b,ρ a b->∀i,nX w1 a i->nX w a i/\aP.cell? ⟨b,i,none⟩=w'.cell? ⟨b,i,none⟩
section
variable {G:Nat}{F:aa->Bool}{K:Code->Bool}
def cE.refl{ρ:Ren}{w w':World}(a:ρ.bw G)(b:WR G F K ρ w w')(c:w.tape=w'.tape)(hd:w.drawn=w'.drawn):cE G F K ρ w w' ρ w w' #[]:=
 ⟨Ren.le_refl _,a,b,c,hd,rfl,rfl,rfl,cq _,cq _,λ_ _ _=>rfl,λ_ d e=>absurd e (Nat.not_lt.2 d),λ_ _ h=>hP h,by simp,λ_ _ _ _ h=>⟨h,rfl⟩⟩
def cE.trans{ρ d f:Ren}{w w' w1 c w2 g:World}{e1 j:Array Event}(h:cE G F K ρ w w' d w1 c e1)(k:cE G F K d w1 c f w2 g j):cE G F K ρ w w' f w2 g (e1++j):=by
 refine⟨Ren.le_trans h.le k.le,k.inj,k.wr,k.tape,k.drawn,k.wH.trans h.wH,k.XV.trans h.XV,k.mK.trans h.mK,ct h.size k.size,ct h.fV k.fV,λb hb l=>?_,λb m n=>?_,λa b x=>?_,λe o=>?_,λa b x i p=>?_⟩
 ·rw[k.frame b (Nat.lt_of_lt_of_le hb h.fV) (λa x=>?_),h.frame b hb l]
  rcases h.only a b x with y|⟨_,y⟩
  ·exact l a y
  ·omega
 ·rcases Nat.lt_or_ge b c.heap.size with hl|hg
  ·exact(h.N7 b m hl).imp λ_ x=>k.le x
  ·exact k.N7 b hg n
 ·rcases k.only a b x with y|⟨y1,y2⟩
  ·exact h.only a b y
  ·exact hQ ⟨ct h.size y1,ct h.fV y2⟩
 ·rcases Array.mem_append.1 o with x|x
  ·exact(h.ev e x).mono k.le
  ·exact k.ev e x
 ·obtain⟨y,e⟩:=k.hol a b (h.le x) i p;obtain⟨z,q⟩:=h.hol a b x i y;exact⟨z,e.trans q⟩
end
section
variable (G:Nat)(F:aa->Bool)(K:Code->Bool)
def mL{d e:Type}(RA:Ren->d->e->Prop)(ρ:Ren)(w w':World)(f:Array Event)(g:ad e×Array Event):ad d->Prop
 |h6 a w1=>∃b h c new,g=(h6 h c,f++new)/\cE G F K ρ w w' b w1 c new/\RA b a h
 |h7 (im v) w1=>∃b v' c new,g=(h7 (im v') c,f++new)/\cE G F K ρ w w' b w1 c new/\VR F b v v'
 |h7 (io _) _=>True
 |h7 (ip u) _=>dw u=true
 |h7 _ _=>False
def qp{f g:Type}(RA:Ren->f->g->Prop)(ρ:Ren)(w w':World)(h:Array Event)(i:ad g×Array Event):ad f->Prop
 |h6 a w1=>∃b j c new e d,i=(h6 j c,h++new)/\cE G F K ρ w w' b (w1.re e d) c new/\RA b a j
 |h7 (im v) w1=>∃b v' c new e d,i=(h7 (im v') c,h++new)/\cE G F K ρ w w' b (w1.re e d) c new/\VR F b v v'
 |h7 (io _) _=>True
 |h7 (ip u) _=>dw u=true
 |h7 _ _=>False
end
section
variable {T:ag}{fB fA:Array Func}{G:Nat}{F:aa->Bool}{K:Code->Bool}
def mL.step{f g:Type}{RA:Ren->f->g->Prop}{ρ i:Ren}{w w' w1 j:World}{l new:Array Event}{m:ad g×Array Event}{r:ad f}
 (hs:cE G F K ρ w w' i w1 j new) (h:mL G F K RA i w1 j (l++new) m r):mL G F K RA ρ w w' l m r:=by
 match r,h with
 |h6 a w2,⟨b,n,c,d,e,k,o⟩=>exact⟨b,n,c,new++d,by rw[e,da],hs.trans k,o⟩
 |h7 (im v) w2,⟨b,v',c,d,e,k,hv⟩=>exact⟨b,v',c,new++d,by rw[e,da],hs.trans k,hv⟩
 |h7 iq _,h=>exact h
 |h7 ix _,h=>exact h
 |h7 (iB _) _,h=>exact h
 |h7 (iC _) _,h=>exact h
 |h7 (iM _) _,h=>exact h
 |h7 iN _,h=>exact h
 |h7 (ip _) _,h=>exact h
 |h7 (io _) _,_=>trivial
def mL.zu{f g:Type}{RA:Ren->f->g->Prop}{ρ:Ren}{w w':World}{i:Array Event}{j:ad g×Array Event}{r:ad f}(h:mL G F K RA ρ w w' i j r):qp G F K RA ρ w w' i j r:=by
 match r,h with
 |h6 a w2,⟨b,l,c,d,e,k,m⟩=>exact⟨b,l,c,d,w2.tape,w2.drawn,e,k,m⟩
 |h7 (im v) w2,⟨b,v',c,d,e,k,hv⟩=>exact⟨b,v',c,d,w2.tape,w2.drawn,e,k,hv⟩
 |h7 iq _,h=>exact h
 |h7 ix _,h=>exact h
 |h7 (iB _) _,h=>exact h
 |h7 (iC _) _,h=>exact h
 |h7 (iM _) _,h=>exact h
 |h7 iN _,h=>exact h
 |h7 (ip _) _,h=>exact h
 |h7 (io _) _,_=>trivial
def qp.step{i j:Type}{RA:Ren->i->j->Prop}{ρ l:Ren}{w w' w1 m:World}{n new:Array Event}{o:ad j×Array Event}{r:ad i}
 (hs:cE G F K ρ w w' l w1 m new) (h:qp G F K RA l w1 m (n++new) o r):qp G F K RA ρ w w' n o r:=by
 match r,h with
 |h6 a w2,⟨b,p,c,f,g,d,e,k,q⟩=>exact⟨b,p,c,new++f,g,d,by rw[e,da],hs.trans k,q⟩
 |h7 (im v) w2,⟨b,v',c,f,g,d,e,k,hv⟩=>exact⟨b,v',c,new++f,g,d,by rw[e,da],hs.trans k,hv⟩
 |h7 iq _,h=>exact h
 |h7 ix _,h=>exact h
 |h7 (iB _) _,h=>exact h
 |h7 (iC _) _,h=>exact h
 |h7 (iM _) _,h=>exact h
 |h7 iN _,h=>exact h
 |h7 (ip _) _,h=>exact h
 |h7 (io _) _,_=>trivial
theorem run_store{P:ao}{b:Type}(a:Addr)(v:Value)(k:Sem b)(w:World)(d:∀c,v≠hV c)(e:∀c,v≠h5 c) :
 (dO .plain a v k).run P w=match w.cell? a with
  |some _=>if w.frozen? a then h7 (ip (hw "a write to bytes that a string shares")) w else k.run P (w.setCell a v)
  |none=>match w.farStore P a v false with
   |.ok (w,_)=>k.run P w
   |.error h=>h7 h w:=by
 cases v<;>first|rfl|exact absurd rfl (d _)|exact absurd rfl (e _)
def qR{P:ao}{b:Type}(a:Addr)(v:Value)(k:Sem b)(w:World)(es:Array Event)(d:∀c,v≠hV c)(e:∀c,v≠h5 c) :
 (dO .plain a v k).runT P w es=match w.cell? a with
  |some _=>if w.frozen? a then(h7 (ip (hw "a write to bytes that a string shares")) w,es) else k.runT P (w.setCell a v) (es.push ⟨.cell a,true,false⟩)
  |none=>match w.farStore P a v false with
   |.ok (w,f)=>k.runT P w (es++f.toArray.map (⟨.cell ·,true,false⟩))
   |.error h=>(h7 h w,es):=by
 cases v<;>first|rfl|exact absurd rfl (d _)|exact absurd rfl (e _)
def mM{ρ:Ren}{w:World}{a:Addr}{o o':Obj}(h:w.heap[a.block]?=some o)(b:OR F K ρ o o')(s:String):w.noCell a s=io s:=by
 unfold dx;rw[h];cases b<;>rfl
def lF{ρ:Ren}{w w':World}(i:WR G F K ρ w w'){a a':Addr}(e:AR ρ a a') :
 (w.cell? a=none/\∃s:String,∀m,w.farLoad ⟨T,fB⟩ a m=.error (io s))\/∃v v' c c' t d,w.cell? a=some v/\w'.cell? a'=some v'/\VR F ρ v v'/\a.spot=none/\w.heap[a.block]?=some (h8 c t d)/\w'.heap[a'.block]?=some (h8 c' t d)/\VA F ρ c c':=by
 obtain⟨o,l,b,g,j⟩:=i.obj e.1
 cases j with
 |@cells c c' t d hc=>
  by_cases hs:a.spot=none
  ·rcases VA.get? hc a.off with⟨f,h⟩|⟨v,v',f,h,hv⟩
   ·left;refine⟨by simp[dz,b,hs,f],"load: no such cell",λm=>?_⟩;simp only[dB,b,dx]
   ·right;refine⟨v,v',c,c',t,d,by simp[dz,b,hs,f],?_,hv,hs,b,g,hc⟩;have k:a'.spot=none:=by rw[<-e.2.2];exact hs
    simp[dz,g,k,<-e.2.1,h]
  ·left;refine⟨by simp[dz,b,Option.isSome_iff_ne_none.2 hs],"load: no such cell",λm=>?_⟩;simp only[dB,b,dx]
 |_=>
  left;refine⟨by simp[dz,b],"load: no such cell",λm=>?_⟩;simp only[dB,b,dx]
def FP{ρ:Ren}{w w':World}(b:ρ.bw G)(c:WR G F K ρ w w')(d:w.tape=w'.tape)(hd:w.drawn=w'.drawn){e:Event}(f:Ls ρ e):cE G F K ρ w w' ρ w w' #[e]:=
 { cE.refl b c d hd with ev:=λx a=>by simp at a;rw[a];exact f }
def wI{ρ:Ren}{w w':World}(c:WR G F K ρ w w'){a a':Addr}(b:AR ρ a a'):w.frozen? a=w'.frozen? a':=by
 obtain⟨o,g,d,e,f⟩:=c.obj b.1;cases f<;>simp[World.frozen?,d,e,b.2.1]
def Lu{ρ:Ren}{w w':World}(d:WR G F K ρ w w'){r a:Nat}(e:ρ r a):w.shape? r=w'.shape? a:=by
 obtain⟨o,g,b,c,f⟩:=d.obj e
 cases f with
 |cells t h hc=>simp[dC,b,c,VA.size hc]
 |_=>simp[dC,b,c]
def wJ(w:World)(r a i:Nat)(o:Obj):({ w with heap:=w.heap.setIfInBounds r o }:World).cell? ⟨a,i,none⟩=if r=a/\r<w.heap.size then(match o with | h8 c _ _=>c[i]? | _=>none) else w.cell? ⟨a,i,none⟩:=by
 unfold dz
 grind
def tQ(w:World)(o:Obj)(a i:Nat)(h:a<w.heap.size):({ w with heap:=w.heap.push o }:World).cell? ⟨a,i,none⟩=w.cell? ⟨a,i,none⟩:=by
 unfold dz
 grind
def Hol(w w':World)(r d:Nat)(o o':Obj):Prop:=∀c t e,o=h8 c t e->∃b f a,o'=h8 b f a/\∀i,(∃v,c[i]?=some v/\(v=h5 #[]\/∃c,v=hV c))->nX w r i/\b[i]?=w'.cell? ⟨d,i,none⟩
def vW.hol{w w':World}{r a:Nat}{o o':Obj}(h:vW o):Hol w w' r a o o':=λc t b e=>absurd e (h c t b)
def lG{ρ:Ren}{w w':World}(f:ρ.bw G)(k:WR G F K ρ w w')(l:w.tape=w'.tape)(hd:w.drawn=w'.drawn){r g:Nat}(j:ρ r g){o o':Obj}(m:OR F K ρ o o'){new:Array Event}(n:∀e∈new,Ls ρ e)(p:Hol w w' r g o o') :
 cE G F K ρ w w' ρ { w with heap:=w.heap.setIfInBounds r o } { w' with heap:=w'.heap.setIfInBounds g o' } new:=
 ⟨Ren.le_refl _,f,k.put f j m,l,hd,rfl,rfl,rfl,by simp,by simp,λb _ D=>by
   grind,
   λb E q=>by simp at q;omega,λ_ _ h=>hP h,n,λa b x i d=>by
    unfold nX at d;rw[wJ]at d;by_cases e:r=a
    ·subst e;obtain rfl:=f.fn j x;obtain⟨s,u⟩:=k.lt j;rw[if_pos ⟨rfl,s⟩]at d
     cases o with
     |cells c t v=>
      obtain⟨H,I,z,rfl,hc⟩:=p c t v rfl;obtain⟨A,B⟩:=hc i d;refine⟨A,?_⟩;rw[wJ,if_pos ⟨rfl,u⟩];exact B
     |_=>grind
    ·rw[if_neg λh=>e h.1]at d;have C:g≠b:=λy=>e (f.inj j (y▸x));refine⟨d,?_⟩
     rw[wJ,if_neg λh=>C h.1]⟩
def CQ{ρ:Ren}{w w':World}(e:ρ.bw G)(c:WR G F K ρ w w')(f:w.tape=w'.tape)(hd:w.drawn=w'.drawn){o o':Obj}(g:OR F K ρ o o') :
 cE G F K ρ w w' (ρ.ext w.heap.size w'.heap.size) { w with heap:=w.heap.push o } { w' with heap:=w'.heap.push o' } #[]:=
 ⟨Ren.kW _ _ _,e.ext c.fresh.1 c.fresh.2 c.pK c.gN,c.push (g.mono (Ren.kW _ _ _)),f,hd,rfl,rfl,rfl,by simp,by simp,λb hb _=>by
   grind,
   λb m j=>⟨w.heap.size,hQ ⟨rfl,by simp at j;omega⟩⟩,λa b h=>by
    rcases h with h|⟨rfl,rfl⟩
    ·exact hP h
    grind,by simp,λa b x i d=>by
    obtain⟨k,l⟩:=c.lt x;unfold nX at d;rw[tQ _ _ _ _ k]at d
    exact⟨d,tQ _ _ _ _ l⟩⟩
def CR{w w':World}{a a':Addr}{c c':Array Value}{t b:ab}{d fz':Nat×Nat}(f:w.heap[a.block]?=some (h8 c t d))(g:w'.heap[a'.block]?=some (h8 c' b fz'))(v v':Value)(j:∀c,v≠hV c)(k:∀c,v≠h5 c) :
 Hol w w' a.block a'.block (h8 (c.setIfInBounds a.off v) t d) (h8 (c'.setIfInBounds a.off v') b fz'):=by
 rintro _ _ _ e;cases e;refine⟨_,_,_,rfl,λi hi=>?_⟩;by_cases e:a.off=i
 ·grind
 ·rw[Array.getElem?_setIfInBounds_ne e]at hi ⊢;refine⟨?_,?_⟩
  ·obtain⟨u,hi,h⟩:=hi;refine⟨u,?_,h⟩;show(match w.heap[a.block]? with|some (h8 c _ _)=>_|_=>none)=_;rw[f];exact hi
  ·show _=(match w'.heap[a'.block]? with|some (h8 c _ _)=>_|_=>none)
   rw[g];rfl
def IY{w w':World}{a a':Addr}{c c':Array Value}{t b:ab}{d fz':Nat×Nat}(f:w.heap[a.block]?=some (h8 c t d))(g:w'.heap[a'.block]?=some (h8 c' b fz'))(u h:Nat×Nat) :
 Hol w w' a.block a'.block (h8 c t u) (h8 c' b h):=by
 rintro _ _ _ e;cases e;refine⟨_,_,_,rfl,λi hi=>⟨?_,?_⟩⟩
 ·obtain⟨u,hi,j⟩:=hi;refine⟨u,?_,j⟩;show(match w.heap[a.block]? with|some (h8 c _ _)=>_|_=>none)=_;rw[f];exact hi
 ·show _=(match w'.heap[a'.block]? with|some (h8 c _ _)=>_|_=>none)
  rw[g];rfl
def bW.Tu{a b:Type}{RA:Ren->a->b->Prop}{ρ:Ren}{w w':World}{f:Array Event}{g:ad b×Array Event}{s:Sem a}(h:bW T fB s):mL G F K RA ρ w w' f g (s.run ⟨T,fB⟩ w):=by
 obtain⟨x,c,e⟩:=h.run w;have d:=e w.tape w.drawn;rw[show w.re w.tape w.drawn=w from rfl]at d;rw[d]
 cases x with
 |stuck _=>trivial
 |unsupported u=>exact c
 |_=>exact c.elim
def av.run{R S:Type}{RA:Ren->R->S->Prop}{s:Sem R}:∀{ρ:Ren}{s':Sem S}{w w':World}(d:Array Event),av T fB fA F K RA ρ s s'->ρ.bw T.globals.size->WR T.globals.size F K ρ w w'->w.tape=w'.tape->w.drawn=w'.drawn->
 mL T.globals.size F K RA ρ w w' d (s'.runT ⟨T,fA⟩ w' d) (s.run ⟨T,fB⟩ w):=by
 induction s with
 |pure a=>
  rintro ρ s' w w' d⟨z,rfl,h⟩g b f hd;exact⟨ρ,z,w',#[],by simp[dP],cE.refl g b f hd,h⟩
 |halt h=>
  intro ρ s' w w' d hs g b f hd;cases h<;>first|exact hs|trivial|(obtain⟨v',rfl,hv⟩:=hs;exact⟨ρ,v',w',#[],by simp[dP],cE.refl g b f hd,hv⟩)
 |load m a k j=>
  rintro ρ s' w w' d⟨m',z,k',rfl,rfl,rfl,x,l⟩g b f hd
  rcases lF (T:=T) (fB:=fB) b x with⟨E,s,J⟩|⟨v,v',c,U,t,y,E,J,hv,_⟩
  ·simp only[dQ,E,J];trivial
  ·simp only[dQ,E,dP,J];show mL T.globals.size F K RA ρ w w' d ((k' v').runT ⟨T,fA⟩ w' (d.push ⟨.cell z,false,false⟩)) _;exact mL.step (FP g b f hd (e:=⟨.cell z,false,false⟩) ⟨rfl,_,x.1⟩) (by simpa using j v (d.push _) (l v v' hv) g b f hd)
 |store m a v k j=>
  rintro ρ s' w w' d⟨m',z,v',k',rfl,rfl,rfl,x,hv,l⟩g b f hd;have key:(∀c,v≠hV c)->(∀c,v≠h5 c)->(∀c,v'≠hV c)->(∀c,v'≠h5 c)->
   mL T.globals.size F K RA ρ w w' d ((dO .plain z v' k').runT ⟨T,fA⟩ w' d) ((dO .plain a v k).run ⟨T,fB⟩ w):=by
   intro O L Q n4;rw[run_store _ _ _ _ O L,qR _ _ _ _ _ Q n4]
   rcases lF (T:=T) (fB:=fB) b x with⟨E,_⟩|⟨u,u',c,U,t,y,E,J,hu,hs,V,W,hc⟩
   ·rw[E];obtain⟨o,A,B,H,C⟩:=b.obj x.1;have hf:w.farStore ⟨T,fB⟩ a v false=.error (w.noCell a "store: no such cell"):=by
     cases C<;>simp[World.farStore,B]
    simp only[hf,mM B C];trivial
   ·have fR:z.spot=none:=by rw[<-x.2.2];exact hs
    rw[E,J];simp only[<-wI b x]
    split
    ·show dw (hw _)=true;rfl
    ·rw[setCell_eq w a _ V hs,setCell_eq w' z _ W fR,<-x.2.1];have X:=lG g b f hd x.1 (.cells t y (VA.set hc a.off hv)) (new:=#[⟨.cell z,true,false⟩]) (λe M=>by simp at M;subst M;exact⟨rfl,_,x.1⟩) (CR V W v v' O L);exact mL.step X (by simpa using j (d.push ⟨.cell z,true,false⟩) l g X.wr f hd)
  cases hv<;>first|trivial|exact key (by simp) (by simp) (by simp) (by simp)
 |new o k j=>
  rintro ρ s' w w' d⟨A,k',rfl,C,l⟩g b f hd;simp only[dQ,dP];have hs:=CQ g b f hd C;exact mL.step hs (by simpa using j w.heap.size d (l _ _ b.fresh.1 b.fresh.2 b.pK b.gN) hs.inj hs.wr f hd)
 |shape r k j=>
  rintro ρ s' w w' d(⟨D,k',rfl,I,l⟩|h)g b f hd
  ·simp only[dQ,dP,<-Lu b I];exact j _ d (l _) g b f hd
  ·exact bW.Tu (s:=eh r k) h
 |freeze a n k j=>
  rintro ρ s' w w' d⟨z,k',rfl,x,l⟩g b f hd;simp only[dQ,dP];by_cases P:n=0
  ·subst P;have e1:w.freeze a 0=w:=by simp[dv]
   have N:w'.freeze z 0=w':=by simp[dv]
   rw[e1,N];exact j d l g b f hd
  obtain⟨o,A,B,H,C⟩:=b.obj x.1;have idle:∀{w:World}{a:Addr}{o:Obj},w.heap[a.block]?=some o->(∀c t y,o≠h8 c t y)->w.freeze a n=w:=by
   intro w a o h bu;unfold dv;rw[if_neg P];obtain⟨heap,_,_,_,_⟩:=w;congr 1;apply Array.ext_getElem?;intro i;rw[Array.getElem?_modify]
   split
   ·rename_i e;subst e;show Option.map _ heap[a.block]?=heap[a.block]?;have h':heap[a.block]?=some o:=h;rw[h'];cases o<;>first|rfl|exact absurd rfl (bu _ _ _)
   ·rfl
  cases C with
  |@cells c U t y hc=>
   obtain⟨Y,hi⟩:=y;rw[iz w a n P B,iz w' z n P H,<-x.2.1];have hs:=lG g b f hd x.1 (.cells t (if Y==hi then(a.off,a.off+n) else(min Y a.off,max hi (a.off+n))) hc) (new:=#[]) (by simp) (IY B H _ _);exact mL.step hs (by simpa using j d l g hs.wr f hd)
  |_=>
   rw[idle B (by simp),idle H (by simp)];exact j d l g b f hd
 |frozen a k j=>
  rintro ρ s' w w' d(⟨z,k',rfl,x,l⟩|h)g b f hd
  ·simp only[dQ,dP,<-wI b x];exact j _ d (l _) g b f hd
  ·exact bW.Tu (s:=ei a k) h
 |getObj r k j=>
  rintro ρ s' w w' d⟨D,k',rfl,I,l⟩g b f hd;obtain⟨o,A,B,H,C⟩:=b.obj I;have key:(∀c t y,o≠h8 c t y)->(∀c t y,A≠h8 c t y)->A.isChan=false->
   mL T.globals.size F K RA ρ w w' d ((dT D k').runT ⟨T,fA⟩ w' d) ((dT r k).run ⟨T,fB⟩ w):=by
   intro O L Q;have e1:(dT r k).run ⟨T,fB⟩ w=(k o).run ⟨T,fB⟩ w:=by
    simp only[dQ,B]
   have N:(dT D k').runT ⟨T,fA⟩ w' d=(k' A).runT ⟨T,fA⟩ w' (d.push ⟨.obj D,false,false⟩):=by
    simp only[dP,H];cases A<;>first|rfl|exact absurd rfl (L _ _ _)|(simp only[Q])
   rw[e1,N];exact mL.step (FP g b f hd (e:=⟨.obj D,false,false⟩) ⟨rfl,_,I⟩) (by simpa using j o (d.push _) (l o A C) g b f hd)
  cases C with
  |cells t y hc=>simp only[dQ,B];trivial
  |_=>exact key (by simp) (by simp) rfl
 |setObj r o k j=>
  rintro ρ s' w w' d⟨D,A,k',rfl,I,⟨C,N8⟩,l⟩g b f hd;obtain⟨p,p',B,H,hp⟩:=b.obj I;have uQ:A.isChan=false:=by cases C<;>rfl
  have key:(∀c t y,p≠h8 c t y)->(∀c t y,p'≠h8 c t y)->
   mL T.globals.size F K RA ρ w w' d ((dU D A k').runT ⟨T,fA⟩ w' d) ((dU r o k).run ⟨T,fB⟩ w):=by
   intro O L;have e1:(dU r o k).run ⟨T,fB⟩ w=k.run ⟨T,fB⟩ { w with heap:=w.heap.setIfInBounds r o }:=by
    simp only[dQ,B]
   have N:(dU D A k').runT ⟨T,fA⟩ w' d=k'.runT ⟨T,fA⟩ { w' with heap:=w'.heap.setIfInBounds D A } (d.push ⟨.obj D,true,false⟩):=by
    simp only[dP,H,uQ]
   rw[e1,N];have hs:=lG g b f hd I C (new:=#[⟨.obj D,true,false⟩]) (λe M=>by simp at M;subst M;exact⟨rfl,_,I⟩) N8.hol;exact mL.step hs (by simpa using j (d.push _) l g hs.wr f hd)
  cases hp with
  |cells t y hc=>simp only[dQ,B];trivial
  |_=>exact key (by simp) (by simp)
 |choose q k j=>
  rintro ρ s' w w' d⟨k',rfl,l⟩g b f hd;simp only[dQ,dP]
  split
  ·exact j _ d (l _) g b f hd
  ·rw[<-f,<-hd];have Z:WR T.globals.size F K ρ { w with drawn:=w.drawn+1 } { w' with drawn:=w.drawn+1 }:=⟨b.pK,b.gN,b.obj⟩
   have hs:cE T.globals.size F K ρ w w' ρ { w with drawn:=w.drawn+1 } { w' with drawn:=w.drawn+1 } #[]:=
    ⟨Ren.le_refl _,g,Z,f,rfl,rfl,rfl,rfl,cq _,cq _,λ_ _ _=>rfl,λ_ E J=>absurd J (Nat.not_lt.2 E),λ_ _ h=>hP h,by simp,λ_ _ _ _ h=>⟨h,rfl⟩⟩
   have:=j (q.cut (w.tape w.drawn q)) d (l _) g Z f rfl;exact mL.step hs (by simpa[f]using this)
 |sys c k j=>intro ρ s' w w' d h;exact h.elim
 |program k j=>
  rintro ρ s' w w' d(⟨k',rfl,l⟩|CS)g b f hd
  ·simp only[dQ,dP];exact j _ d l g b f hd
  ·exact bW.Tu (s:=d9 k) CS
 |mark m k j=>
  rintro ρ s' w w' d(⟨k',rfl,hm,l⟩|h)g b f hd
  ·simp only[dQ,dP];exact mL.step (FP g b f hd (e:=⟨.mark m,false,true⟩) hm) (by simpa using j (d.push _) l g b f hd)
  ·exact bW.Tu (s:=ej m k) h
end
section
variable {T:ag}{fB fA:Array Func}{F:aa->Bool}{K:Code->Bool}{ρ σ:Ren}
abbrev RV(F:aa->Bool):Ren->Value->Value->Prop:=λρ v v'=>VR F ρ v v'
abbrev fF{b:Type}:Ren->b->b->Prop:=λ_ a c=>a=c
abbrev RVA(F:aa->Bool):Ren->Array Value->Array Value->Prop:=λρ a b=>VA F ρ a b
abbrev RA_:Ren->Addr->Addr->Prop:=λρ a b=>AR ρ a b
theorem ah{b c:Type}{R:Ren->b->c->Prop}{a:b}{a':c}(h:R ρ a a'):av T fB fA F K R ρ (pure a) (pure a'):=⟨a',rfl,h⟩
theorem af{b c d e:Type}{RA:Ren->b->c->Prop}{g:Ren->d->e->Prop}{s:Sem b}{s':Sem c}{f:b->Sem d}{f':c->Sem e}(i:ρ.bw T.globals.size)(h:av T fB fA F K RA ρ s s')
 (hf:∀σ:Ren,ρ.le σ->σ.bw T.globals.size->∀a a',RA σ a a'->av T fB fA F K g σ (f a) (f' a')):av T fB fA F K g ρ (s >>= f) (s' >>= f'):=av.bind i h hf
theorem ak{a b:Type}{R:Ren->a->b->Prop}{m:String}{s':Sem b}:av T fB fA F K R ρ (stuck m:Sem a) s':=trivial
def aA{a b:Type}{R:Ren->a->b->Prop}{u:ai}{s':Sem b}(c:dw u=true:=by rfl):av T fB fA F K R ρ (ap u:Sem a) s':=c
def bz{a b c:Type}{R:Ren->b->c->Prop}{m:String}{f:a->Sem b}{s':Sem c}:av T fB fA F K R ρ ((stuck m:Sem a) >>= f) s':=trivial
def aM{a b c:Type}{R:Ren->b->c->Prop}{u:ai}{f:a->Sem b}{s':Sem c}(d:dw u=true:=by rfl):av T fB fA F K R ρ ((ap u:Sem a) >>= f) s':=d
def IZ{a a':Addr}(h:AR ρ a a'):av T fB fA F K (RV F) ρ (load a) (load a'):=⟨_,_,_,rfl,rfl,rfl,h,λ_ v' hv=>⟨v',rfl,hv⟩⟩
def N9{a a':Addr}(h:AR ρ a a'){v v':Value}(hv:VR F ρ v v'):av T fB fA F K fF ρ (store a v) (store a' v'):=⟨_,_,_,_,rfl,rfl,rfl,h,hv,(),rfl,rfl⟩
def jO{o o':Obj}(h:OR F K ρ o o'):av T fB fA F K (λσ r a=>σ r a) ρ (aq o) (aq o'):=⟨_,_,rfl,h,λ_ a _ _ _ _=>⟨a,rfl,Ren.IW _ _ _⟩⟩
def jS{r a:Nat}(h:ρ r a):av T fB fA F K fF ρ (shape r) (shape a):=hP ⟨_,_,rfl,h,λx=>⟨x,rfl,rfl⟩⟩
def pL{a a':Addr}(h:AR ρ a a'):av T fB fA F K fF ρ (frozen a) (frozen a'):=hP ⟨_,_,rfl,h,λx=>⟨x,rfl,rfl⟩⟩
def dA{r a:Nat}(h:ρ r a):av T fB fA F K (λσ o o'=>OR F K σ o o') ρ (getObj r) (getObj a):=⟨_,_,rfl,h,λ_ o' b=>⟨o',rfl,b⟩⟩
def dV{r a:Nat}(h:ρ r a){o o':Obj}(b:OR F K ρ o o')(c:vW o:=by intro _ _ _ h;cases h):av T fB fA F K fF ρ (ar r o) (ar a o'):=⟨_,_,_,rfl,h,⟨b,c⟩,(),rfl,rfl⟩
def lH(q:ac):av T fB fA F K fF ρ (aw q) (aw q):=⟨_,rfl,λn=>⟨n,rfl,rfl⟩⟩
def bI{a b:Type}{R:Ren->a->b->Prop}{f:ao->Sem a}{f':ao->Sem b}(h:av T fB fA F K R ρ (f ⟨T,fB⟩) (f' ⟨T,fA⟩)):av T fB fA F K R ρ (program >>= f) (program >>= f'):=hP ⟨_,rfl,h⟩
def Lv:av T fB fA F K fF ρ (mark .noRoom) (mark .noRoom):=hP ⟨_,rfl,rfl,(),rfl,rfl⟩
def FQ(n:Nat):av T fB fA F K fF ρ (aB n) (aB n):=by
 unfold aB
 split
 ·exact Lv
 ·exact ah rfl
def aN{a b:Type}{R:Ren->a->b->Prop}{c:Prop}[Decidable c]{s t:Sem a}{s' d:Sem b}(e:c->av T fB fA F K R ρ s s')(f:¬c->av T fB fA F K R ρ t d):av T fB fA F K R ρ (if c then s else t) (if c then s' else d):=by
 grind
def rT{a b:Type}{R:Ren->a->b->Prop}{v v':Value}(h:VR F ρ v v'):av T fB fA F K R ρ (goPanic v:Sem a) (goPanic v':Sem b):=⟨v',rfl,h⟩
def ee(t:ab):av T fB fA F K fF ρ (aF t) (aF t):=by
 unfold aF;refine bI ?_
 grind[ak,ah]
def bk(t:ab):av T fB fA F K fF ρ (aH t) (aH t):=by
 unfold aH;refine bI ?_;show(av T fB fA F K) fF ρ (match(el T fB).underlying t with|some i=>pure i|none=>stuck "no such type") (match(el T fB).underlying t with|some i=>pure i|none=>stuck "no such type")
 cases(el T fB).underlying t with
 |none=>exact ak
 |some i=>exact ah rfl
def bN(b:ρ.bw T.globals.size)(t:ab):av T fB fA F K fF ρ (aL t) (aL t):=af b (ee t) λ_ _ _ a c h=>ah (by rw[h])
def CU(b:ρ.bw T.globals.size)(t:ab):av T fB fA F K fF ρ (isAgg t) (isAgg t):=by
 refine af b (bk t) λσ _ _ a c h=>?_;subst h
 split<;>exact ah rfl
def dM(T:ag)(F:aa->Bool)(Z:ab->Bool):Prop:=(∀t i v,Z t=true->T.info? t=some i->i.zero=some v->VR F (λ_ _=>False) v v)/\∀i,T.info? 0=some i->i.methods.find? (·.name == "")=none
def VR.closed{v:Value}(h:VR F (λ_ _=>False) v v)(ρ:Ren):VR F ρ v v:=h.mono λ_ _ x=>x.elim
def gO{Z:ab->Bool}(b:dM T F Z)(c:ρ.bw T.globals.size){t:ab}(d:Z t=true):av T fB fA F K (λσ v v'=>VR F σ v v'/\v=v') ρ (aS t) (aS t):=by
 unfold aS aF;show(av T fB fA F K) _ ρ ((program >>= λp=>_) >>= _) _;refine af (RA:=λσ(i a:TypeInfo)=>i=a/\T.info? t=some i) c ?_ λσ _ _ i a h=>?_
 ·refine bI ?_
  grind[ak,ah]
 ·obtain⟨rfl,hi⟩:=h
  cases hv:i.zero with
  |none=>simp only;exact aA
  |some v=>simp only;exact ah ⟨VR.closed (b.1 t i v d hi hv) σ,rfl⟩
def tR(f:ρ.bw T.globals.size){a a':Addr}(h:AR ρ a a')(n:Nat):∀(i:Nat){b d:Array Value},VA F ρ b d->av T fB fA F K (RVA F) ρ (a5 a i n b) (a5 a' i n d):=by
 induction n generalizing ρ with
 |zero=>intro i b d e;exact ah e
 |succ n g=>
  intro i b d e;exact af f (IZ (h.add i)) λσ c j v v' hv=>g j (h.mono c) (i+1) (VA.push (VA.mono c e) hv)
def rU(b:ρ.bw T.globals.size){a a':Addr}(h:AR ρ a a')(n:Nat):av T fB fA F K (RVA F) ρ (a6 a n) (a6 a' n):=tR b h n 0 VA.nil
def qD(d:ρ.bw T.globals.size){a a':Addr}(h:AR ρ a a'){vs c:List Value}(hv:cU F ρ vs c):∀i:Nat,av T fB fA F K fF ρ (a7 a vs i) (a7 a' c i):=by
 induction vs generalizing ρ c with
 |nil=>intro i;cases hv;exact ah rfl
 |cons v vs e=>
  intro i
  cases hv with
  |cons f g=>exact af d (N9 (h.add i) f) λσ b j _ _ _=>e j (h.mono b) (cU.mono b g) (i+1)
def wN(e:ρ.bw T.globals.size)(t:ab){a a':Addr}(h:AR ρ a a'):av T fB fA F K (RV F) ρ (a8 t a) (a8 t a'):=by
 refine af e (CU e t) λσ d f b b' hb=>?_;subst hb;refine aN (λ_=>?_) λ_=>IZ (h.mono d);refine af f (bN f t) λk i g n n' j=>?_;subst j;exact af g (rU g ((h.mono d).mono i) n) λ_ _ _ c l hc=>ah (VR.agg hc)
def CV(c:ρ.bw T.globals.size)(t:ab){a a':Addr}(h:AR ρ a a'){v v':Value}(hv:VR F ρ v v'):av T fB fA F K fF ρ (a9 t a v) (a9 t a' v'):=by
 unfold a9;refine af c (bN c t) λσ b d n n' e=>?_;subst e;have hs:=VA.size hv.cells;rw[hs]
 split
 ·exact bz
 ·exact qD d (h.mono b) (cU.mono b hv.cells) 0
def tS(a:ρ.bw T.globals.size)(t:ab){c c':Array Value}(h:VA F ρ c c'):av T fB fA F K RA_ ρ (ba t c) (ba t c'):=
 af a (jO (.cells t (0,0) h)) λ_ _ _ _ _ b=>ah ⟨b,rfl,rfl⟩
def zZ(a:ρ.bw T.globals.size)(t:ab){v v':Value}(h:VR F ρ v v'):av T fB fA F K RA_ ρ (newVar t v) (newVar t v'):=tS a t h.cells
def kI(f:ρ.bw T.globals.size)(t:ab){c c':Array Value}(h:VA F ρ c c')(off:Nat):av T fB fA F K (RV F) ρ (part t c off) (part t c' off):=by
 refine af f (CU f t) λσ a g b b' hb=>?_;subst hb;refine aN (λ_=>?_) λ_=>?_
 ·refine af g (bN g t) λk i l n n' j=>?_;subst j;exact ah (VR.agg (VA.extract (VA.mono i (VA.mono a h)) _ _))
 ·rcases VA.get? (VA.mono a h) off with⟨d,e⟩|⟨v,v',d,e,hv⟩
  ·rw[d,e];exact ak
  ·rw[d,e];exact ah hv
def jT{v v':Value}(h:VR F ρ v v'):av T fB fA F K fF ρ (asIntOf v) (asIntOf v'):=by
 cases h<;>first|exact ah rfl|exact ak|exact aA
def Oa(b:ρ.bw T.globals.size){v v':Value}(h:VR F ρ v v'):av T fB fA F K fF ρ (asInt v) (asInt v'):=af b (jT h) λ_ _ _ a c e=>ah (by rw[e])
def tU{v v':Value}(h:VR F ρ v v'):av T fB fA F K fF ρ (asBool v) (asBool v'):=by
 cases h<;>first|exact ah rfl|exact ak
def Ob{v v':Value}(h:VR F ρ v v'):av T fB fA F K (RVA F) ρ (asAgg v) (asAgg v'):=by
 cases h<;>first|(rename_i h;exact ah h)|exact ak
def cX{a b:Type}{R:Ren->a->b->Prop}(m:String):av T fB fA F K R ρ (bb (.error m):Sem a) (bb (.error m):Sem b):=by
 unfold bb;exact bI (rT (.iface _ (.string _)))
def zv{a b:Type}{R:Ren->a->b->Prop}(m:String):av T fB fA F K R ρ (bb (.plain m):Sem a) (bb (.plain m):Sem b):=by
 unfold bb;exact bI (rT (.iface _ (.string _)))
def nY{a b:Type}{R:Ren->a->b->Prop}:av T fB fA F K R ρ (bb .nilDeref:Sem a) (bb .nilDeref:Sem b):=by
 unfold bb;exact bI (rT (.iface _ (.string _)))
def nZ{a b:Type}{R:Ren->a->b->Prop}(x y:Int)(s:Bool)(c:bc):av T fB fA F K R ρ (bb (.bounds x y s c):Sem a) (bb (.bounds x y s c):Sem b):=by
 unfold bb;exact bI (rT (.iface _ (.agg (.cons (.int _ _) (.cons (.int _ _) (.cons (.bool _) (.cons (.int _ _) .nil)))))))
def dW(d:ρ.bw T.globals.size){a b:Type}{R:Ren->a->b->Prop}(k:IntKind)(x y:Int)(c:bc):av T fB fA F K R ρ (bd k x y c:Sem a) (bd k x y c:Sem b):=by
 unfold bd;refine aN (λ_=>?_) λ_=>nZ _ _ _ _;exact⟨_,rfl,λn=>nZ _ _ _ _⟩
def z7{v v':Value}(h:VR F ρ v v'):av T fB fA F K RA_ ρ (bg v) (bg v'):=by
 cases h<;>first|exact nY|exact ak|(rename_i h;exact ah h)
def iV{v v':Value}(h:VR F ρ v v'):av T fB fA F K RA_ ρ (eI v) (eI v'):=by
 cases h<;>first|exact ak|(rename_i h;exact ah h)
def Oc{Z:ab->Bool}(c:dM T F Z)(a:ρ.bw T.globals.size){t:ab}(d:Z t=true):av T fB fA F K (RV F) ρ (eM t true (h5 #[])) (eM t true (h5 #[])):=by
 unfold eM;refine af a (gO c a d) λσ _ b z f h=>?_;exact af b (zZ b t h.1) λ_ _ _ _ _ e=>ah (.ptr e)
def XY(a:ρ.bw T.globals.size)(t:ab){v v':Value}(h:VR F ρ v v'):av T fB fA F K (RV F) ρ (eN t v) (eN t v'):=
 af a (zZ a t h) λ_ _ _ _ _ b=>ah (.ptr b)
def Lx(a:ρ.bw T.globals.size)(t:ab){v v':Value}(h:VR F ρ v v'):av T fB fA F K (RV F) ρ (eP t v) (eP t v'):=
 af a (iV h) λ_ _ b _ _ c=>wN b t c
def FR(c:ρ.bw T.globals.size)(t:ab){v v' x b:Value}(h:VR F ρ v v')(d:VR F ρ x b):av T fB fA F K fF ρ (eQ t v x) (eQ t v' b):=
 af c (iV h) λ_ a e _ _ f=>CV e t f (d.mono a)
inductive kX(F:aa->Bool)(ρ:Ren):List (Nat×Value)->List (Nat×Value)->Prop
 |nil:kX F ρ [] []
 |cons (i:Nat) {v v':Value} {l l':List (Nat×Value)} (h:VR F ρ v v') (t:kX F ρ l l'):kX F ρ ((i,v)::l) ((i,v')::l')
def kX.mono{l l':List (Nat×Value)}(h:ρ.le σ)(x:kX F ρ l l'):kX F σ l l':=by
 induction x with
 |nil=>exact .nil
 |cons i a _ b=>exact .cons i (a.mono h) b
def Od(off:Nat):∀{l l':List Value}{cs cs':Array Value}(j:Nat),cU F ρ l l'->VA F ρ cs cs'->
 VA F ρ ((l.zipIdx j).foldl (λcs(c,j)=>cs.setIfInBounds (off+j) c) cs) ((l'.zipIdx j).foldl (λcs(c,j)=>cs.setIfInBounds (off+j) c) cs'):=by
 intro l
 induction l with
 |nil=>intro l' cs cs' j h hc;cases h;exact hc
 |cons v l a=>
  intro l' cs cs' j h hc
  cases h with
  |cons b d=>simpa using a (j+1) d (VA.set hc (off+j) b)
def wO(place:Nat->Option (Nat×Nat)):∀{l l':List (Nat×Value)}{cs cs':Array Value},kX F ρ l l'->VA F ρ cs cs'->
 (eS place cs l=none/\eS place cs' l'=none)\/∃r a,eS place cs l=some r/\eS place cs' l'=some a/\VA F ρ r a:=by
 intro l
 induction l with
 |nil=>intro l' cs cs' h hc;cases h;exact hQ ⟨_,_,rfl,rfl,hc⟩
 |cons p l b=>
  intro l' cs cs' h hc
  cases h with
  |@cons i v v' _ l' hv t=>
   simp only[eS]
   cases d:place i with
   |none=>exact hP ⟨rfl,rfl⟩
   |some c=>
    obtain⟨off,size⟩:=c;simp only;rw[<-VA.size hv.cells,<-VA.size hc]
    split
    ·exact hP ⟨rfl,rfl⟩
    ·refine b t ?_;have e:=Od (F:=F) (ρ:=ρ) off 0 hv.cells hc
     grind [Array.toList_zipIdx]
def FU{d i:Type}(e:ρ.bw T.globals.size){f f':d->Sem i}:∀(l:List d),(∀x∈l,∀σ:Ren,ρ.le σ->σ.bw T.globals.size->av T fB fA F K fF σ (f x) (f' x))->av T fB fA F K fF ρ (l.mapM f) (l.mapM f'):=by
 intro l
 induction l generalizing ρ with
 |nil=>intro _;simp only[List.mapM_nil];exact ah rfl
 |cons x l j=>
  intro h;simp only[cx];refine af e (h x (by simp) ρ (Ren.le_refl _) e) λσ c g a p k=>?_;refine af g (j g λy hy m n o=>h y (by simp[hy]) m (Ren.le_trans c n) o) λ_ _ _ b b' hb=>?_;exact ah (by rw[k,hb])
def CW{b c:Type}(d:ρ.bw T.globals.size){f f':b->Sem c}(l:Array b)(h:∀x∈l.toList,∀σ:Ren,ρ.le σ->σ.bw T.globals.size->av T fB fA F K fF σ (f x) (f' x)):av T fB fA F K fF ρ (l.mapM f) (l.mapM f'):=by
 rw[db,db];have:∀(s a:Sem (List c)),av T fB fA F K fF ρ s a->av T fB fA F K fF ρ (Functor.map cB s) (Functor.map cB a):=λs a h=>by
  grind[map_eq_pure_bind,af,ah]
 exact this _ _ (FU d l.toList h)
end
section
variable (T:ag)(f g:Array Func)
def lI(d:Nat):bi ⟨T,f⟩ d=bi ⟨T,g⟩ d:=by
 induction d with
 |zero=>rfl
 |succ d a=>funext t off;simp only[bi,a];rfl
def tV(d:Nat):bj ⟨T,f⟩ d=bj ⟨T,g⟩ d:=by
 induction d with
 |zero=>rfl
 |succ d a=>funext t off;simp only[bj,a];rfl
def rV(d:Nat):bm ⟨T,f⟩ d=bm ⟨T,g⟩ d:=by
 funext e count off bytes;unfold bm;simp only[lI T f g,tV T f g];rfl
def kJ(d:Nat):em ⟨T,f⟩ d=em ⟨T,g⟩ d:=by
 induction d with
 |zero=>rfl
 |succ d a=>funext t;simp only[em,a];rfl
def uR(d:Nat):en ⟨T,f⟩ d=en ⟨T,g⟩ d:=by
 induction d with
 |zero=>rfl
 |succ d a=>funext t u;simp only[en,a]
def vD(t:ab):ep ⟨T,f⟩ t=ep ⟨T,g⟩ t:=by
 simp only[ep,uR T f g];try rfl
def rW(t:ab):eq ⟨T,f⟩ t=eq ⟨T,g⟩ t:=by
 simp only[eq,vD T f g];try rfl
def wP(t:ab):et ⟨T,f⟩ t=et ⟨T,g⟩ t:=by
 simp only[et,uR T f g];try rfl
def Bb(t:ab):eu ⟨T,f⟩ t=eu ⟨T,g⟩ t:=by
 simp only[eu,wP T f g]
def rX(d:Nat):eA ⟨T,f⟩ d=eA ⟨T,g⟩ d:=by
 induction d with
 |zero=>rfl
 |succ d a=>funext t;simp only[eA,a,Bb T f g];rfl
end
section
variable {T:ag}{fB fA:Array Func}{F:aa->Bool}{K:Code->Bool}{ρ σ:Ren}
def Oe{Z:ab->Bool}(v:dM T F Z)(c:ρ.bw T.globals.size){t:ab}(w:Z t=true){ps f:Array (Nat×Value)}(h:kX F ρ ps.toList f.toList):av T fB fA F K (RV F) ρ (eT t ps) (eT t f):=by
 unfold eT;refine af c (gO v c w) λσ m y z H A=>?_;refine af y (bk t) λI q l d J hd=>?_;subst hd;have u:=h.mono (Ren.le_trans m q);have g:=VR.cells (A.1.mono q)
 cases d with
 |struct fields=>
  refine af l (CW l fields λx _ σ _ c=>af c (bN c x.type) λ_ _ _ a L e=>ah (by rw[e])) λo j _ B C D=>?_;subst D
  rcases wO (F:=F) (ρ:=o) (B[·]?) (u.mono j) (VA.mono j g) with⟨b,k⟩|⟨r,E,b,k,p⟩
  ·simp only[b];exact ak
  ·simp only[b,k];exact ah (.agg p)
 |array n elem=>
  refine af l (bN l elem) λo j _ s M hs=>?_;subst hs
  rcases wO (F:=F) (ρ:=o) (λi=>some (i*s,s)) (u.mono j) (VA.mono j g) with⟨b,k⟩|⟨r,E,b,k,p⟩
  ·simp only[b];exact ak
  ·simp only[b,k];exact ah (.agg p)
 |_=>exact ak
def z8(d:ρ.bw T.globals.size){r c:Nat}(h:ρ r c):av T fB fA F K (λ_ a a'=>a=none/\a'=none) ρ (viewAt r) (viewAt c):=by
 unfold viewAt;refine af d (jS h) λσ b f x i e=>?_;subst e;refine aN (λ_=>ah ⟨rfl,rfl⟩) λ_=>?_;refine af f (dA (b h)) λ_ _ _ o j g=>?_;cases g<;>exact ah ⟨rfl,rfl⟩
def tX(b:ρ.bw T.globals.size){a a':Addr}(h:AR ρ a a'):av T fB fA F K fF ρ (bo a) (bo a'):=by
 unfold bo;refine af b (z8 b h.1) λσ c d x f e=>?_;obtain⟨rfl,rfl⟩:=e;exact ah rfl
def uS(f:ρ.bw T.globals.size){r d:Nat}(h:ρ r d) :
 av T fB fA F K (λσ x b=>(x=none/\b=none)\/∃a a' l,x=some (a,l)/\b=some (a',l)/\AR σ a a') ρ (bp r) (bp d):=by
 unfold bp;refine af f (jS h) λσ c g x b e=>?_;subst e;refine aN (λ_=>ah (hP ⟨rfl,rfl⟩)) λ_=>?_;refine af g (dA (c h)) λ_ _ _ o j i=>?_
 cases i with
 |number l a=>exact ah (hQ ⟨_,_,l,rfl,rfl,a⟩)
 |_=>exact ah (hP ⟨rfl,rfl⟩)
def gC(f:ρ.bw T.globals.size){a a':Addr}(h:AR ρ a a'):av T fB fA F K (λσ x c=>AR σ x.1 c.1/\x.2=c.2) ρ (bq a) (bq a'):=by
 unfold bq;refine af f (uS f h.1) λσ d g x c e=>?_
 rcases e with⟨rfl,rfl⟩|⟨b,b',l,rfl,rfl,hb⟩
 ·exact ah ⟨h.mono d,rfl⟩
 ·exact ah ⟨hb,rfl⟩
def iA(d:ρ.bw T.globals.size){a a':Addr}(h:AR ρ a a'):av T fB fA F K fF ρ (byteOf a) (byteOf a'):=by
 unfold byteOf;obtain⟨f,g,i⟩:=h;rw[<-i]
 cases hs:a.spot with
 |some s=>exact ah rfl
 |none=>
  refine bI ?_;refine af d (tX d ⟨f,g,i⟩) λσ c k _ _ _=>?_;refine af k (jS (c f)) λj m o x p e=>?_;subst e
  cases x with
  |none=>exact ak
  |some l=>
   obtain⟨e,n⟩:=l;simp only[<-g,lI T fA fB];show(av T fB fA F K) fF j (if(eD ⟨T,fB⟩ e)=0 then _ else _) (if(eD ⟨T,fB⟩ e)=0 then _ else _);refine aN (λ_=>ah rfl) λ_=>?_;show(av T fB fA F K) fF j (match bi ⟨T,fB⟩ (eE ⟨T,fB⟩) e (a.off % eD ⟨T,fB⟩ e) with|some b=>_|_=>_) (match bi ⟨T,fB⟩ (eE ⟨T,fB⟩) e (a.off % eD ⟨T,fB⟩ e) with|some b=>_|_=>_)
   cases bi ⟨T,fB⟩ (eE ⟨T,fB⟩) e (a.off % eD ⟨T,fB⟩ e) with
   |none=>exact ak
   |some b=>exact ah rfl
def Ly(f:ρ.bw T.globals.size){a a':Addr}(h:AR ρ a a')(c b:Nat):av T fB fA F K RA_ ρ (partAt a c b) (partAt a' c b):=by
 unfold partAt;refine af f (iA f h) λσ d g x k e=>?_;subst e;have i:AR σ { block:=a.block,off:=a.off+c } { block:=a'.block,off:=a'.off+c }:=⟨d h.1,by show a.off+c=a'.off+c;rw[h.2.1],rfl⟩
 refine af g (iA g i) λl j _ y y' e=>?_;subst e;refine ah ?_
 split
 ·exact i.mono j
 ·exact⟨j (d h.1),by show a.off+c=a'.off+c;rw[h.2.1],rfl⟩
def zx(c:ρ.bw T.globals.size){a a':Addr}(h:AR ρ a a')(f:Field):av T fB fA F K RA_ ρ (br a f) (br a' f):=by
 unfold br;refine af c (bN c f.type) λσ b d n n' e=>?_;subst e;exact aN (λ_=>Ly d (h.mono b) _ _) λ_=>ah ((h.mono b).add _)
def FV(g:ρ.bw T.globals.size)(s:ab){v v':Value}(h:VR F ρ v v')(i:Nat):av T fB fA F K (RV F) ρ (eV s v i) (eV s v' i):=by
 unfold eV;refine af g (bk s) λσ b j d l e=>?_;subst e
 cases d with
 |struct fields=>
  simp only
  cases fields[i]? with
  |none=>exact ak
  |some f=>
   simp only;refine af j (iV (h.mono b)) λm n c a o k=>?_;exact af c (zx c k f) λ_ _ _ _ _ hb=>ah (.ptr hb)
 |_=>exact ak
def Of(b:ρ.bw T.globals.size)(s:ab){v v':Value}(h:VR F ρ v v')(i:Nat):av T fB fA F K (RV F) ρ (eW s v i) (eW s v' i):=by
 unfold eW;refine af b (bk s) λσ a c d j e=>?_;subst e
 cases d with
 |struct fields=>
  simp only
  cases fields[i]? with
  |none=>exact ak
  |some f=>exact af c (Ob (h.mono a)) λk _ g _ _ hc=>kI g f.type hc f.offset
 |_=>exact ak
def Og(g:ρ.bw T.globals.size)(t:ab){v v' x f:Value}(h:VR F ρ v v')(j:VR F ρ x f):av T fB fA F K (RV F) ρ (eX t v x) (eX t v' f):=by
 unfold eX;refine af g (jT j) λσ c l o p e=>?_;subst e;obtain⟨k,i⟩:=o;refine af l (bk t) λw q a d y e=>?_;subst e;have hv:=h.mono (Ren.le_trans c q)
 cases d with
 |array n elem=>
  cases hv with
  |agg hc=>
   refine aN (λ_=>?_) λ_=>dW a _ _ _ _;refine af a (bN a elem) λz r u m m' e=>?_;subst e;exact kI u elem (VA.mono r hc) _
  |_=>exact ak
 |string=>
  cases hv with
  |string s=>
   simp only
   cases(if 0<=i then s[i.toNat]? else none) with
   |none=>exact dW a _ _ _ _
   |some b=>exact ah (.int _ _)
  |_=>exact ak
 |_=>exact ak
def FW(z:ρ.bw T.globals.size)(t:ab){v v' x y:Value}(h:VR F ρ v v')(A:VR F ρ x y):av T fB fA F K (RV F) ρ (e0 t v x) (e0 t v' y):=by
 unfold e0;refine af z (jT A) λσ s B C E e=>?_;subst e;obtain⟨k,i⟩:=C;refine af B (bk t) λu H o d M e=>?_;subst e;have hv:=h.mono (Ren.le_trans s H);have b:∀(g:Ren)(p:g.bw T.globals.size)(base q:Option Addr)(len:Nat)(elem:ab),
  (base=none/\q=none)\/(∃a j,base=some a/\q=some j/\(AR g a j\/len=0))->av T fB fA F K (RV F) g
  (do
    let w:=len<=1&&(match<-aH t with | .array ..=>true|_=>false)
    match base with
    |some a=>if 0<=i/\i<len then pure (hW (some (a.add (i.toNat*(<-aL elem))))) else if w then ap (.noEntry "op/indexAddr.an index out of range at an array of length 0 or 1 (ledger 616)") else bd k i len .index
    |none=>bd k i 0 .index)
  (do
    let w:=len<=1&&(match<-aH t with | .array ..=>true|_=>false)
    match q with
    |some a=>if 0<=i/\i<len then pure (hW (some (a.add (i.toNat*(<-aL elem))))) else if w then ap (.noEntry "op/indexAddr.an index out of range at an array of length 0 or 1 (ledger 616)") else bd k i len .index
    |none=>bd k i 0 .index):=by
  intro g p base q len elem hb;refine af p (bk t) λN I r O J e=>?_;subst e
  rcases hb with⟨rfl,rfl⟩|⟨a,j,rfl,rfl,f⟩
  ·exact dW r _ _ _ _
  ·refine aN (λhb=>?_) λ_=>aN (λ_=>aA) λ_=>dW r _ _ _ _
   rcases f with f|rfl
   rotate_left
   ·exact absurd hb (by simp)
   refine af r (bN r elem) λP L _ m m' e=>?_;subst e;exact ah (.ptr (((f.mono I).mono L).add _))
 cases d with
 |array n elem=>
  exact af o (iV hv) λg _ p a j f=>b g p (some a) (some j) n elem (hQ ⟨_,_,rfl,rfl,hP f⟩)
 |slice elem=>
  cases hv with
  |di l c=>exact b u o none none l elem (hP ⟨rfl,rfl⟩)
  |slice l c f=>exact b u o _ _ l elem (hQ ⟨_,_,rfl,rfl,hP f⟩)
  |dK D a=>exact b u o _ _ 0 elem (hQ ⟨_,_,rfl,rfl,hQ rfl⟩)
  |_=>exact bz
 |_=>exact bz
def FX{v v':Value}(h:VR F ρ v v')(i:Nat):av T fB fA F K (RV F) ρ (e4 v i) (e4 v' i):=by
 unfold e4
 cases h with
 |tuple hc=>
  rcases VA.get? hc i with⟨a,b⟩|⟨v,v',a,b,hv⟩
  ·simp only[a];exact ak
  ·simp only[a,b];exact ah hv
 |_=>exact ak
def iQ(b:ρ.bw T.globals.size){x a:Value}(h:VR F ρ x a)(y:Nat)(c:bc):av T fB fA F K fF ρ (e5 x y c) (e5 a y c):=by
 unfold e5;refine af b (jT h) λσ _ d g f e=>?_;subst e;exact aN (λ_=>ah rfl) λ_=>dW d _ _ _ _
inductive lJ(F:aa->Bool)(ρ:Ren):Option Value->Option Value->Prop
 |none:lJ F ρ none none
 |some {v v':Value} (h:VR F ρ v v'):lJ F ρ (some v) (some v')
def lJ.mono(h:ρ.le σ){o o':Option Value}(x:lJ F ρ o o'):lJ F σ o o':=by
 cases x with
 |none=>exact .none
 |some a=>exact .some (a.mono h)
def eY(d:ρ.bw T.globals.size)(b:Bool)(len cap:Nat){l l' h p m m':Option Value}(hl:lJ F ρ l l')(q:lJ F ρ h p)(s:lJ F ρ m m') :
 av T fB fA F K fF ρ (e6 b len cap l h m) (e6 b len cap l' p m'):=by
 unfold e6;have k:∀(σ:Ren)(_:σ.bw T.globals.size)(H M:Nat)(l l':Option Value)(full:Bool),lJ F σ l l'->av T fB fA F K fF σ
  (do
    let n<-match l with
     |some v=>e5 v H (if full then .slice3C else .sliceB)
     |none=>pure 0
    pure (n,H,M))
  (do
    let n<-match l' with
     |some v=>e5 v H (if full then .slice3C else .sliceB)
     |none=>pure 0
    pure (n,H,M)):=by
  intro σ d H M l l' full hl
  cases hl with
  |none=>exact ah rfl
  |some hv=>exact af d (iQ d hv _ _) λ_ _ _ a u e=>ah (by rw[e])
 cases s with
 |none=>
  refine af (RA:=fF) d (ah rfl) λσ c f M t e=>?_;subst e
  cases q with
  |none=>
   refine af (RA:=fF) f (ah rfl) λg i j H r e=>?_;subst e;exact k g j _ _ _ _ false (hl.mono (Ren.le_trans c i))
  |some hv=>
   refine af (RA:=fF) f (iQ f (hv.mono c) _ _) λg i j H r e=>?_;subst e;exact k g j _ _ _ _ false (hl.mono (Ren.le_trans c i))
 |some o=>
  refine af (RA:=fF) d (iQ d o _ _) λσ c f M t e=>?_;subst e
  cases q with
  |none=>exact bz
  |some hv=>
   refine af (RA:=fF) f (iQ f (hv.mono c) _ _) λg i j H r e=>?_;subst e;exact k g j _ _ _ _ true (hl.mono (Ren.le_trans c i))
def gP(d:ρ.bw T.globals.size){x b:Value}(h:VR F ρ x b)(c:bc):av T fB fA F K (λ_ a a'=>a=0/\a'=0) ρ (e5 x 0 c) (e5 b 0 c):=by
 unfold e5;refine af d (jT h) λσ _ f i g e=>?_;subst e;refine aN (λh=>ah ?_) λ_=>dW f _ _ _ _
 grind
def vE(d:ρ.bw T.globals.size)(b:Bool){l l' h p m m':Option Value}(hl:lJ F ρ l l')(q:lJ F ρ h p)(s:lJ F ρ m m') :
 av T fB fA F K (λ_ a a'=>a=(0,0,0)/\a'=(0,0,0)) ρ (e6 b 0 0 l h m) (e6 b 0 0 l' p m'):=by
 unfold e6;have k:∀(σ:Ren)(_:σ.bw T.globals.size)(l l':Option Value)(full:Bool),lJ F σ l l'->av T fB fA F K (λ_ a a'=>a=(0,0,0)/\a'=(0,0,0)) σ
  (do
    let n<-match l with
     |some v=>e5 v 0 (if full then .slice3C else .sliceB)
     |none=>pure 0
    pure (n,0,0))
  (do
    let n<-match l' with
     |some v=>e5 v 0 (if full then .slice3C else .sliceB)
     |none=>pure 0
    pure (n,0,0)):=by
  intro σ d l l' full hl
  cases hl with
  |none=>exact ah ⟨rfl,rfl⟩
  |some hv=>exact af d (gP d hv _) λ_ _ _ a a' e=>ah (by grind)
 cases s with
 |none=>
  refine af (RA:=λ_ a a'=>a=0/\a'=0) d (ah ⟨rfl,rfl⟩) λσ c f M t e=>?_;obtain⟨rfl,rfl⟩:=e
  cases q with
  |none=>
   refine af (RA:=λ_ a a'=>a=0/\a'=0) f (ah ⟨rfl,rfl⟩) λg i j H r e=>?_;obtain⟨rfl,rfl⟩:=e;exact k g j _ _ false (hl.mono (Ren.le_trans c i))
  |some hv=>
   refine af f (gP f (hv.mono c) _) λg i j H r e=>?_;obtain⟨rfl,rfl⟩:=e;exact k g j _ _ false (hl.mono (Ren.le_trans c i))
 |some o=>
  refine af d (gP d o _) λσ c f M t e=>?_;obtain⟨rfl,rfl⟩:=e
  cases q with
  |none=>exact bz
  |some hv=>
   refine af f (gP f (hv.mono c) _) λg i j H r e=>?_;obtain⟨rfl,rfl⟩:=e;exact k g j _ _ true (hl.mono (Ren.le_trans c i))
def Oi(B:ρ.bw T.globals.size)(t:ab){x w:Value}(p:VR F ρ x w){l l' h y m m':Option Value}(hl:lJ F ρ l l')(i:lJ F ρ h y)(j:lJ F ρ m m') :
 av T fB fA F K (RV F) ρ (e7 t x l h m) (e7 t w l' y m'):=by
 unfold e7;refine af B (bk t) λσ f g d C e=>?_;subst e;have p:=p.mono f;have hl:=hl.mono f;have i:=i.mono f;have j:=j.mono f
 cases d with
 |string=>
  cases p with
  |string s=>
   cases j with
   |some _=>exact bz
   |none=>
    refine af g (eY g _ _ _ hl i .none) λ_ _ _ a r e=>?_;subst e;exact ah (.string _)
  |_=>exact ak
 |slice elem=>
  cases p with
  |di len cap=>
   refine af g (eY g _ _ _ hl i j) λu k c a r e=>?_;subst e;refine af c (bN c elem) λ_ _ _ n n' e=>?_;subst e;refine ah ?_;show VR F _ (h0 (if _ then none else none) _ _) (h0 (if _ then none else none) _ _);simp only[ite_self];exact .di _ _
  |slice len cap q=>
   refine af g (eY g _ _ _ hl i j) λu k c a r e=>?_;subst e;refine af c (bN c elem) λ_ o _ n n' e=>?_;subst e;refine ah ?_
   split
   ·exact .slice _ _ ((q.mono k).mono o)
   ·exact .slice _ _ (((q.mono k).mono o).add _)
  |dK D a=>
   refine af g (vE g _ hl i j) λu k c b b' e=>?_;obtain⟨rfl,rfl⟩:=e;refine af c (bN c elem) λ_ o _ n n' e=>?_;subst e;exact ah (.dK D a)
  |_=>exact ak
 |pointer arr=>
  refine af g (z7 p) λu k c a r q=>?_;refine af c (bk arr) λI o z d C e=>?_;subst e
  cases d with
  |array n elem=>
   have v:=Ren.le_trans k o;refine af z (eY z _ _ _ (hl.mono v) (i.mono v) (j.mono v)) λJ E A b b' e=>?_;subst e;refine af A (bN A elem) λ_ H _ n n' e=>?_;subst e;refine ah ?_;have ha':=((q.mono o).mono E).mono H
   split
   ·exact .slice _ _ ha'
   ·exact .slice _ _ (ha'.add _)
  |_=>exact ak
 |_=>exact ak
def FZ(s:ρ.bw T.globals.size)(t:ab){x k:Value}(f:VR F ρ x k){l l' h o m m':Option Value}(hl:lJ F ρ l l')(g:lJ F ρ h o)(i:lJ F ρ m m') :
 av T fB fA F K (RV F) ρ (e8 t x l h m) (e8 t k l' o m'):=by
 unfold e8;refine af s (bk t) λσ c p d y e=>?_;subst e;have f:=f.mono c;have hl:=hl.mono c;have g:=g.mono c;have i:=i.mono c
 cases d with
 |array n elem=>
  refine af p (iV f) λz j q a A u=>?_;refine af q (eY q _ _ _ (hl.mono j) (g.mono j) (i.mono j)) λB v r b b' e=>?_;subst e;refine af r (bN r elem) λ_ w _ n n' e=>?_;subst e;refine ah ?_;have ha':=(u.mono v).mono w
  split
  ·exact .slice _ _ ha'
  ·exact .slice _ _ (ha'.add _)
 |_=>exact Oi p t f hl g i
theorem oa{d a:Type}:∀(l:List d){ρ:Ren}(_:ρ.bw T.globals.size)(b:a){f f':d->a->Sem (ForInStep a)},
 (∀x∈l,∀σ:Ren,ρ.le σ->σ.bw T.globals.size->∀b,av T fB fA F K fF σ (f x b) (f' x b))->av T fB fA F K fF ρ (forIn l b f) (forIn l b f'):=by
 intro l
 induction l with
 |nil=>intro ρ c b f f' _;exact ah rfl
 |cons x l i=>
  intro ρ c b f f' h;rw[cC,cC];refine af c (h x (by simp) ρ (Ren.le_refl _) c b) λσ g j s k e=>?_;subst e
  cases s with
  |done b=>exact ah rfl
  |yield b=>grind[Ren.le_trans]
def Be{c a:Type}(l:Array c)(d:ρ.bw T.globals.size)(b:a){f f':c->a->Sem (ForInStep a)}
 (h:∀x,∀σ:Ren,ρ.le σ->σ.bw T.globals.size->∀b,av T fB fA F K fF σ (f x b) (f' x b)):av T fB fA F K fF ρ (forIn l b f) (forIn l b f'):=by
 rw[<-dd,<-dd];exact oa l.toList d b λx _=>h x
def oc{a:Type}(n:Nat)(c:ρ.bw T.globals.size)(b:a){f f':Nat->a->Sem (ForInStep a)}
 (h:∀x,∀σ:Ren,ρ.le σ->σ.bw T.globals.size->∀b,av T fB fA F K fF σ (f x b) (f' x b)):av T fB fA F K fF ρ (forIn [0:n] b f) (forIn [0:n] b f'):=by
 grind[Std.Legacy.Range.forIn_eq_forIn_range',oa]
def uT(h:ρ.bw T.globals.size){a a' b b':Addr}(i:AR ρ a a')(hb:AR ρ b b'):av T fB fA F K fF ρ (bs a b) (bs a' b'):=by
 have e1:(a.block==b.block)=(a'.block==b'.block):=by
  rw[f6,beq_iff_eq,beq_iff_eq];exact⟨λe=>h.fn i.1 (e▸hb.1),λe=>h.inj i.1 (e▸hb.1)⟩
 have t:(a==b)=(a'==b'):=by
  rw[f6,beq_iff_eq,beq_iff_eq];exact AR.eq_iff h i hb
 unfold bs;rw[e1,t];refine aN (λ_=>ah rfl) λ_=>?_;refine af h (pL i) λσ d m x j e=>?_;subst e;have tail:∀σ:Ren,ρ.le σ->σ.bw T.globals.size->av T fB fA F K fF σ
  (do
    bo a
    bo b
    if<-bt a b then return(<-aw (.extern "sameAddr.stringBytes" 2))==1
    pure false)
  (do
    bo a'
    bo b'
    if<-bt a' b' then return(<-aw (.extern "sameAddr.stringBytes" 2))==1
    pure false):=by
  intro σ d m;refine af m (tX m (i.mono d)) λf g q _ _ _=>?_;have d:=Ren.le_trans d g;refine af q (tX q (hb.mono d)) λf g r _ _ _=>?_;have d:=Ren.le_trans d g;refine af r (RA:=fF) ?_ λf g s x j e=>?_
  ·unfold bt;have str:∀(f:Ren)(_:f.bw T.globals.size)(c k:Addr),AR f c k->av T fB fA F K fF f (bv c) (bv k):=by
    intro f h c k hc;unfold bv;refine af h (pL hc) λσ d m x j e=>?_;subst e;refine aN (λ_=>ah rfl) λ_=>?_;refine af m (jS (d hc.1)) λf g u y y' e=>?_;subst e
    cases y with
    |none=>exact ah rfl
    |some v=>exact pL ⟨g (d hc.1),rfl,rfl⟩
   have o:∀(f:Ren)(_:f.bw T.globals.size)(c k:Addr),AR f c k->av T fB fA F K fF f (do pure ((<-shape c.block) matches some (_,0)):Sem Bool) (do pure ((<-shape k.block) matches some (_,0)):Sem Bool):=by
    intro f h c k hc;exact af h (jS hc.1) λ_ _ _ x j e=>ah (by rw[e])
   refine af r (str _ r a a' (i.mono d)) λf g s x j e=>?_;have d:=Ren.le_trans d g;subst e;refine af s (str _ s b b' (hb.mono d)) λf g p x j e=>?_;have d:=Ren.le_trans d g;subst e;refine af p (o _ p a a' (i.mono d)) λf g l x j e=>?_;have d:=Ren.le_trans d g;subst e;refine af l (o _ l b b' (hb.mono d)) λf g l x j e=>?_;subst e;exact ah rfl
  ·subst e;refine aN (λ_=>?_) λ_=>ah rfl;exact⟨_,rfl,λn=>⟨_,rfl,rfl⟩⟩
 refine af m (pL (hb.mono d)) λf g q y y' e=>?_;subst e;refine aN (λ_=>aM) λ_=>?_;exact tail f (Ren.le_trans d g) q
def wT(d:ρ.bw T.globals.size){v v' u c:Value}(h:VR F ρ v v')(k:VR F ρ u c):∀{a a' b b':Option Addr},v=hW a->v'=hW a'->u=hW b->c=hW b'->av T fB fA F K fF ρ (bx a b) (bx a' b'):=by
 rintro a a' b b' rfl rfl rfl rfl
 cases h with
 |dS=>cases k<;>exact ah rfl
 |ptr e=>
  cases k with
  |dS=>exact ah rfl
  |ptr hb=>exact uT d e hb
def F0(a:ρ.bw T.globals.size)(t:ab):av T fB fA F K fF ρ (bA t) (bA t):=by
 unfold bA;refine af a (ee t) λσ _ _ i b e=>?_;subst e;exact aN (λ_=>aA) λ_=>ah rfl
set_option maxHeartbeats 8000000 in
def qS:∀(d:Nat){ρ:Ren}(_:ρ.bw T.globals.size)(t:ab){x x' y y':Value}(_:VR F ρ x x')(_:VR F ρ y y'),av T fB fA F K fF ρ (gb d t x y) (gb d t x' y'):=by
 intro d
 induction d with
 |zero=>intro ρ hI t x x' y y' _ _;exact aA
 |succ d ih=>
  intro ρ hI t x x' y y' hx hy;unfold gb;refine af hI (bk t) λσ hle bC ds ds' e=>?_;subst e;have hx:=hx.mono hle;have hy:=hy.mono hle
  cases ds with
  |bool=>cases hx<;>cases hy<;>first|exact ah rfl|exact ak
  |int k=>
   cases hx with
   |int k n=>
    cases hy with
    |int k' m=>exact aN (λ_=>ah rfl) λ_=>ak
    |dS=>exact aA
    |ptr _=>
     by_cases hn:n=0
     ·subst hn;exact ah rfl
     ·cases n with
      |ofNat n=>cases n with
       |zero=>exact absurd rfl hn
       |succ n=>exact aA
      |negSucc n=>exact aA
    |_=>exact ak
   |dS=>cases hy<;>exact aA
   |ptr ha=>
    cases hy with
    |int k' m=>
     by_cases hn:m=0
     ·subst hn;exact ah rfl
     ·cases m with
      |ofNat n=>cases n with
       |zero=>exact absurd rfl hn
       |succ n=>exact aA
      |negSucc n=>exact aA
    |ptr hb=>
     refine af bC (gC bC ha) λτ aI gE a a' ha=>?_;refine af gE (gC gE (hb.mono aI)) λυ gp iP b b' hb=>?_;have ha:=ha.1;have hb:=hb.1;have ha:=ha.mono gp;refine bI ?_;have e1:(a.1.block==b.1.block)=(a'.1.block==b'.1.block):=by
      rw[f6,beq_iff_eq,beq_iff_eq];exact⟨λe=>iP.fn ha.1 (e▸hb.1),λe=>iP.inj ha.1 (e▸hb.1)⟩
     have e2:(a.1==b.1)=(a'.1==b'.1):=by
      rw[f6,beq_iff_eq,beq_iff_eq];exact AR.eq_iff iP ha hb
     have e3:decide (a.1.block<T.globals.size)=decide (a'.1.block<T.globals.size):=by
      rw[decide_eq_decide];exact iP.XS ha.1
     have rest:∀(φ:Ren),υ.le φ->φ.bw T.globals.size->av T fB fA F K fF φ
      (do
        let .named "sync.copyChecker" _:=(<-aF t).desc|unsupported ht
        if a.1==b.1 then pure true else ap ht)
      (do
        let .named "sync.copyChecker" _:=(<-aF t).desc|unsupported ht
        if a'.1==b'.1 then pure true else ap ht):=by
      intro φ _ hIf;refine af hIf (ee t) λχ _ _ i i' e=>?_;subst e;rw[e2]
      split
      ·exact aN (λ_=>ah rfl) λ_=>aA
      ·exact aA
     simp only[e1];show(av T fB fA F K) fF υ (if(_&&decide (a.1.block<T.globals.size))=true then _ else _) (if(_&&decide (a'.1.block<T.globals.size))=true then _ else _);rw[e3];refine aN (λ_=>?_) λ_=>rest υ (Ren.le_refl _) iP;refine af iP (iA iP ha) λφ kY qq z z' e=>?_;subst e;refine af qq (iA qq (hb.mono kY)) λ_ _ _ z z' e=>?_;subst e;exact ah rfl
    |_=>exact aA
   |_=>cases hy<;>first|exact ak|exact aA
  |float k=>
   cases hx<;>cases hy<;>first|exact aN (λ_=>ah rfl) (λ_=>ak)|exact ak
  |complex k=>
   cases hx<;>cases hy<;>first|exact aN (λ_=>ah rfl) (λ_=>ak)|exact ak
  |string=>cases hx<;>cases hy<;>first|exact ah rfl|exact ak
  |pointer elem=>
   cases hx with
   |dS=>cases hy<;>first|exact ah rfl|exact ak
   |ptr ha=>
    cases hy with
    |dS=>exact ah rfl
    |ptr hb=>
     refine af bC (bN bC elem) λτ aI gE n n' e=>?_;subst e;refine aN (λ_=>uT gE (ha.mono aI) (hb.mono aI)) λ_=>?_;have e2:(_==_)=(_==_):=Bool.eq_iff_iff.2 ((beq_iff_eq.trans (AR.eq_iff gE (ha.mono aI) (hb.mono aI))).trans beq_iff_eq.symm);rw[e2];refine aN (λ_=>ah rfl) λ_=>?_;exact⟨_,rfl,λn=>⟨_,rfl,rfl⟩⟩
    |_=>exact ak
   |_=>cases hy<;>exact ak
  |unsafePointer=>
   cases hx<;>cases hy<;>first|exact ak|(refine wT bC ?_ ?_ rfl rfl rfl rfl<;>(constructor<;>assumption))
  |chan _ _=>cases hx<;>cases hy<;>exact ak
  |interface ms=>
   cases hx with
   |nilIface=>cases hy<;>first|exact ah rfl|exact ak
   |iface tx hvx=>
    cases hy with
    |nilIface=>exact ah rfl
    |iface ty hvy=>
     refine aN (λ_=>ah rfl) λ_=>?_;refine af bC (ee tx) λτ aI gE i i' e=>?_;subst e;refine aN (λ_=>?_) λ_=>ih gE tx (hvx.mono aI) (hvy.mono aI);refine bI ?_;refine bI ?_;rw[rX T fA fB];show(av T fB fA F K) fF τ (if(eA ⟨T,fB⟩ (eE ⟨T,fB⟩) tx)=true then _ else _) (if(eA ⟨T,fB⟩ (eE ⟨T,fB⟩) tx)=true then _ else _);refine aN (λ_=>aM) λ_=>?_;refine af gE (F0 gE tx) λυ _ _ z z' e=>?_;subst e;exact cX _
    |_=>exact ak
   |_=>cases hy<;>exact ak
  |struct fields=>
   cases hx with
   |agg Tw=>
    cases hy with
    |agg hys=>
     refine bI ?_;rw[rW T fA fB];refine aN (λ_=>aM) λ_=>?_;refine af bC (Be fields bC _ λf τ aI gE b=>?_) λυ _ _ z z' e=>?_
     ·refine aN (λ_=>?_) λ_=>ah rfl;refine af gE (kI gE f.type (VA.mono aI Tw) f.offset) λυ gp iP p p' hp=>?_;refine af iP (kI iP f.type (VA.mono gp (VA.mono aI hys)) f.offset) λφ kY qq q q' hq=>?_;refine af qq (ih qq f.type (hp.mono kY) hq) λ_ _ _ z z' e=>?_;subst e;exact aN (λ_=>ah rfl) λ_=>ah rfl
     ·subst e;obtain⟨z1,z2⟩:=z;cases z1<;>exact ah rfl
    |_=>exact ak
   |_=>cases hy<;>exact ak
  |array len elem=>
   cases hx with
   |agg Tw=>
    cases hy with
    |agg hys=>
     refine af bC (bN bC elem) λτ0 X2 hI0 n n' e=>?_;subst e;have Tw:=VA.mono X2 Tw;have hys:=VA.mono X2 hys;refine af hI0 (oc len hI0 _ λi τ aI gE b=>?_) λυ _ _ z z' e=>?_
     ·refine af gE (kI gE elem (VA.mono aI Tw) (i*n)) λυ gp iP p p' hp=>?_;refine af iP (kI iP elem (VA.mono gp (VA.mono aI hys)) (i*n)) λφ kY qq q q' hq=>?_;refine af qq (ih qq elem (hp.mono kY) hq) λ_ _ _ z z' e=>?_;subst e;exact aN (λ_=>ah rfl) λ_=>ah rfl
     ·subst e;obtain⟨z1,z2⟩:=z;cases z1<;>exact ah rfl
    |_=>exact ak
   |_=>cases hy<;>exact ak
  |slice _=>cases hx<;>cases hy<;>first|exact ah rfl|exact ak
  |map _ _=>cases hx<;>cases hy<;>first|exact ah rfl|exact ak
  |func _ _ _=>cases hx<;>cases hy<;>first|exact ah rfl|exact ak
  |_=>cases hx<;>cases hy<;>exact ak
def CX(a:ρ.bw T.globals.size)(d:Nat)(t:ab):av T fB fA F K fF ρ (gc d t hX hX) (gc d t hX hX):=by
 cases d with
 |zero=>exact aA
 |succ d=>
  unfold gc;refine af a (bk t) λσ b f ds c e=>?_;subst e;cases ds<;>exact ah rfl
def F1(d:ρ.bw T.globals.size)(op:BinOp)(t:ab)(x y:bL){a a' b b':Value}(f:VR F ρ a a')(hb:VR F ρ b b')(g:a≠h5 #[])(c:b≠h5 #[])
 (hg:(op matches .eql | .neq)=true->em ⟨T,fB⟩ (eE ⟨T,fB⟩) t=false):av T fB fA F K fF ρ (bM op t x y a b) (bM op t x y a' b'):=by
 unfold bM;refine aN (λ_=>ah rfl) λj=>?_;have h:em ⟨T,fB⟩ (eE ⟨T,fB⟩) t=false:=hg (by grind)
 cases f with
 |nilIface=>
  cases hb with
  |nilIface=>
   refine aN (λ_=>ah rfl) λ_=>?_;refine af d (CX d _ t) λ_ _ _ z k e=>?_;subst e;exact aN (λ_=>aA) λ_=>ah rfl
  |hole=>exact absurd rfl c
  |_=>exact ah rfl
 |agg l=>
  cases hb with
  |agg i=>
   refine bI (bI ?_);rw[kJ T fA fB];show(av T fB fA F K) fF ρ (if(!em ⟨T,fB⟩ (eE ⟨T,fB⟩) t)=true then _ else _) (if(!em ⟨T,fB⟩ (eE ⟨T,fB⟩) t)=true then _ else _);rw[h];exact ah rfl
  |hole=>exact absurd rfl c
  |_=>exact ah rfl
 |hole=>exact absurd rfl g
 |_=>cases hb with
  |hole=>exact absurd rfl c
  |_=>exact ah rfl
def uU(op:BinOp)(k:IntKind)(a b:Int):av T fB fA F K (RV F) ρ (gd op k a b) (gd op k a b):=by
 cases op<;>first|exact ah (.int _ _)|exact ak
def Lz(op:BinOp)(a b:Int):av T fB fA F K (RV F) ρ (ge op a b) (ge op a b):=by
 cases op<;>first|exact ah (.bool _)|exact ak
def wU(op:BinOp)(k:IntKind)(a b:Int):av T fB fA F K (RV F) ρ (gf op k a b) (gf op k a b):=by
 cases op<;>first|exact ah (.int _ _)|exact ak
def LA(op:BinOp)(k:IntKind)(a b:Int):av T fB fA F K (RV F) ρ (gg op k a b) (gg op k a b):=by
 unfold gg;refine aN (λ_=>cX _) λ_=>?_;cases op<;>first|exact ah (.int _ _)|exact ak
def CY(op:BinOp)(k j:IntKind)(a b:Int):av T fB fA F K (RV F) ρ (gj op k a j b) (gj op k a j b):=by
 unfold gj;refine aN (λ_=>cX _) λ_=>?_;cases op<;>first|exact ah (.int _ _)|exact ak
def oe(op:BinOp)(a b:ByteArray):av T fB fA F K (RV F) ρ (gl op a b) (gl op a b):=by
 unfold gl;cases op<;>first|exact aN (λ_=>aA) (λ_=>ah (.string _))|exact ah (.bool _)|exact ak
def RP:Ren->Value->Value->Prop:=λρ v v'=>∃a b,v=hW (some a)/\v'=hW (some b)/\AR ρ a b
def uV(j:ρ.bw T.globals.size){x f y y':Value}(g:VR F ρ x f)(hy:VR F ρ y y')(ts:Array ab)(t:ab):av T fB fA F K RP ρ (g1 ts t #[x,y]) (g1 ts t #[f,y']):=by
 unfold g1;have main:∀{p k:Option Addr},x=hW p->f=hW k->av T fB fA F K RP ρ (g1 ts t #[x,y]) (g1 ts t #[f,y']):=by
  rintro p k rfl rfl;unfold g1;refine af j (Oa j hy) λσ b h n n' e=>?_;subst e;refine aN (λ_=>?_) λ_=>?_
  ·cases g with
   |dS=>first|exact aA|exact aM
   |ptr d=>
    refine af h (z8 h (b d.1)) λl i _ z m e=>?_;obtain⟨rfl,rfl⟩:=e;exact ah ⟨_,_,rfl,rfl,(d.mono b).mono i⟩
  ·refine aN (λ_=>aM) λ_=>?_
   cases g with
   |dS=>first|exact aA|exact aM
   |@ptr a o d=>
    refine af h (jS (b d.1)) λl i _ z m e=>?_;subst e
    cases z with
    |none=>first|exact aA|exact aM
    |some c=>
     refine bI ?_;have ha':=(d.mono b).mono i;rw[rV T fA fB,<-ha'.2.1];show(av T fB fA F K) RP l (match bm ⟨T,fB⟩ (eE ⟨T,fB⟩) c.1 (c.2 / eD ⟨T,fB⟩ c.1) a.off n with|some off=>_|none=>_) (match bm ⟨T,fB⟩ (eE ⟨T,fB⟩) c.1 (c.2 / eD ⟨T,fB⟩ c.1) a.off n with|some off=>_|none=>_)
     cases bm ⟨T,fB⟩ (eE ⟨T,fB⟩) c.1 (c.2 / eD ⟨T,fB⟩ c.1) a.off n with
     |none=>exact aA
     |some off=>exact ah ⟨_,_,rfl,rfl,ha'.1,rfl,ha'.2.2⟩
 cases g with
 |dS=>exact main rfl rfl
 |ptr d=>exact main rfl rfl
 |_=>first|exact ak|exact bz
def CZ(b:ρ.bw T.globals.size){a a':Addr}(h:AR ρ a a')(l:Bool):av T fB fA F K (RV F) ρ (asNumber a l) (asNumber a' l):=
 af b (jO (.number l h)) λ_ _ _ _ _ c=>ah (.ptr ⟨c,rfl,rfl⟩)
def gQ(c:ρ.bw T.globals.size){x b y y':Value}(d:VR F ρ x b)(hy:VR F ρ y y')(ts:Array ab)(t:ab):av T fB fA F K (RV F) ρ (g1 ts t #[x,y]) (g1 ts t #[b,y']):=
 (uV c d hy ts t).mono λσ _ a f⟨_,_,e1,e,h⟩=>by rw[e1,e];exact .ptr h
def eZ(j:ρ.bw T.globals.size)(t:ab){x g y y':Value}(f:VR F ρ x g)(hy:VR F ρ y y'):av T fB fA F K (RV F) ρ (bR t x y) (bR t g y'):=by
 unfold bR;refine af j (bk t) λσ a b d s e=>?_;subst e;refine aN (λ_=>aM) λ_=>?_;have f:=f.mono a;have hy:=hy.mono a
 cases f with
 |ptr k=>
  refine af b (gC b k) λu l i z m c=>?_;obtain⟨z1,v⟩:=z;obtain⟨n,o⟩:=m;obtain⟨c,e⟩:=c;simp only at c e;subst e;refine af i (uV i (.ptr c) (hy.mono l) _ _) λw A p q B r=>?_;obtain⟨_,_,rfl,rfl,hb⟩:=r;exact CZ p hb _
 |dS=>exact gQ b .dS hy _ _
 |hole _ h=>exact ak
 |_=>exact gQ b (by first|exact .wG _ _ _|exact .dK _ _|(constructor<;>assumption)) hy _ _
def vF(a:ρ.bw T.globals.size)(t:ab){x c y y':Value}(f:VR F ρ x c)(hy:VR F ρ y y'):av T fB fA F K (RV F) ρ (bT t x y) (bT t c y'):=by
 unfold bT
 cases f with
 |ptr d=>
  refine af a (uS a d.1) λj e g z k i=>?_
  rcases i with⟨rfl,rfl⟩|⟨b,b',l,rfl,rfl,hb⟩
  ·exact gQ g (.ptr (d.mono e)) (hy.mono e) #[] t
  ·exact aA
 |dS=>exact gQ a .dS hy #[] t
 |hole _ h=>exact ak
 |_=>exact gQ a (by first|exact .wG _ _ _|exact .dK _ _|(constructor<;>assumption)) hy #[] t
def rY(c:ρ.bw T.globals.size){a a' b b':Addr}(d:AR ρ a a')(hb:AR ρ b b'):av T fB fA F K fF ρ (gr a b) (gr a' b'):=by
 unfold gr;refine bI ?_;have e1:(a.block != b.block)=(a'.block != b'.block):=by
  simp only[bne];congr 1;rw[f6,beq_iff_eq,beq_iff_eq];exact⟨λe=>c.fn d.1 (e▸hb.1),λe=>c.inj d.1 (e▸hb.1)⟩
 have g:decide (a.block>=T.globals.size)=decide (a'.block>=T.globals.size):=by
  rw[decide_eq_decide];have:=c.XS d.1;omega
 show(av T fB fA F K) fF ρ (if(_||decide (a.block>=T.globals.size))=true then _ else _) (if(_||decide (a'.block>=T.globals.size))=true then _ else _);rw[e1,g];refine aN (λ_=>aM) λ_=>?_;refine af c (iA c d) λj h f z i e=>?_;subst e;refine af f (iA f (hb.mono h)) λ_ _ _ z i e=>?_;subst e;exact ah rfl
def qT(f:ρ.bw T.globals.size)(k:IntKind){a a':Addr}(c:AR ρ a a')(n:Int):av T fB fA F K (RV F) ρ (gt k a n) (gt k a' n):=by
 unfold gt;refine af f (jS c.1) λσ b g z h e=>?_;subst e
 cases z with
 |none=>exact aA
 |some j=>
  refine af g (ee j.1) λm l d i o e=>?_;subst e;refine aN (λ_=>aM) λ_=>?_;refine af d (iA d ((c.mono b).mono l)) λ_ _ _ z h e=>?_;subst e;exact ah (.int _ _)
def mN(c:ρ.bw T.globals.size)(op:BinOp){a a' b b':Addr}(d:AR ρ a a')(hb:AR ρ b b'):av T fB fA F K (RV F) ρ (gw op a b) (gw op a' b'):=by
 unfold gw;refine af c (rY c d hb) λ_ _ _ z f e=>?_;subst e;obtain⟨x,y⟩:=z;cases op<;>first|exact ah (.bool _)|exact aA
def F2(c:ρ.bw T.globals.size)(k:IntKind){a a' b b':Addr}(d:AR ρ a a')(hb:AR ρ b b'):av T fB fA F K (RV F) ρ (gy k a b) (gy k a' b'):=by
 unfold gy;refine af c (rY c d hb) λ_ _ _ z f e=>?_;subst e;exact ah (.int _ _)
def wV{d e:Type}{R:Ren->d->e->Prop}(g:ρ.bw T.globals.size){a a' b b':Addr}(l:AR ρ a a')(hb:AR ρ b b'){f:Addr->Addr->Sem d}{c:Addr->Addr->Sem e}
 (h:∀(σ:Ren),ρ.le σ->σ.bw T.globals.size->∀a a' b b',AR σ a a'->AR σ b b'->av T fB fA F K R σ (f a b) (c a' b')) :
 av T fB fA F K R ρ (do f (<-bq a).1 (<-bq b).1) (do c (<-bq a').1 (<-bq b').1):=by
 refine af g (gC g l) λp i j z q m=>?_;refine af j (gC j (hb.mono i)) λn k o y y' hy=>?_;exact h n (Ren.le_trans i k) o _ _ _ _ (m.1.mono k) hy.1
set_option maxHeartbeats 1000000 in
def Oj(hI:ρ.bw T.globals.size)(op:BinOp)(t:ab){a a' b b':Value}(ha:VR F ρ a a')(hb:VR F ρ b b')(na:a≠h5 #[])(nb:b≠h5 #[]):av T fB fA F K (RV F) ρ (binOp op t a b) (binOp op t a' b'):=by
 have eqs:av T fB fA F K (RV F) ρ (do pure (hR (<-gB t a b)):Sem Value) (do pure (hR (<-gB t a' b')):Sem Value):=
  af hI (qS _ hI t ha hb) λ_ _ _ z z' e=>ah (by rw[e];exact .bool _)
 have neqs:av T fB fA F K (RV F) ρ (do pure (hR (!(<-gB t a b))):Sem Value) (do pure (hR (!(<-gB t a' b'))):Sem Value):=
  af hI (qS _ hI t ha hb) λ_ _ _ z z' e=>ah (by rw[e];exact .bool _)
 have plus:∀{x x' y y':Value},VR F ρ x x'->VR F ρ y y'->av T fB fA F K (RV F) ρ (do if(<-aH t) matches .unsafePointer then bT t x y else bR t x y:Sem Value) (do if(<-aH t) matches .unsafePointer then bT t x' y' else bR t x' y':Sem Value):=by
  intro x x' y y' hx hy;refine af hI (bk t) λσ hle bC d d' e=>?_;subst e;exact aN (λ_=>vF bC t (hx.mono hle) (hy.mono hle)) λ_=>eZ bC t (hx.mono hle) (hy.mono hle)
 by_cases h1:∃k i j l,a=hS k i/\b=hS j l
 ·obtain⟨k,i,j,l,rfl,rfl⟩:=h1;cases ha;cases hb
  cases op with
  |shl=>unfold binOp;exact CY _ _ _ _ _
  |shr=>unfold binOp;exact CY _ _ _ _ _
  |_=>
   unfold binOp;refine aN (λ_=>ak) λ_=>?_
   first|exact uU _ _ _ _|exact LA _ _ _ _|exact wU _ _ _ _|exact Lz _ _ _
 by_cases h2:∃s u,a=hT s/\b=hT u
 ·obtain⟨s,u,rfl,rfl⟩:=h2;cases ha;cases hb;cases op<;>(unfold binOp;exact oe _ _ _)
 by_cases he:op=.eql
 ·subst he;cases ha<;>cases hb<;>first|exact absurd rfl na|exact absurd rfl nb|exact eqs|grind|grind
 by_cases hn:op=.neq
 ·subst hn;cases ha<;>cases hb<;>first|exact absurd rfl na|exact absurd rfl nb|exact neqs|grind|grind
 generalize fR:binOp op t a' b'=s';unfold binOp
 split
 ·grind
 ·grind
 ·grind
 ·cases ha
 ·cases ha
 ·grind
 ·exact absurd rfl he
 ·exact absurd rfl hn
 ·cases hb;cases ha<;>(subst fR;first|exact plus .dS (.int _ _)|exact plus (.ptr (by assumption)) (.int _ _))
 ·cases ha;cases hb<;>(subst fR;first|exact eZ hI t .dS (.int _ _)|exact eZ hI t (.ptr (by assumption)) (.int _ _))
 ·cases hb;cases ha<;>(subst fR;first|exact eZ hI t .dS (.int _ _)|exact eZ hI t (.ptr (by assumption)) (.int _ _))
 ·cases ha;cases hb;subst fR;exact wV hI (by assumption) (by assumption) λσ _ bC a a' b b' ha hb=>F2 bC _ ha hb
 ·cases ha;cases hb;subst fR;exact wV hI (by assumption) (by assumption) λσ _ bC a a' b b' ha hb=>mN bC _ ha hb
 ·cases ha;cases hb;subst fR;exact wV hI (by assumption) (by assumption) λσ _ bC a a' b b' ha hb=>mN bC _ ha hb
 ·cases ha;cases hb;subst fR;exact wV hI (by assumption) (by assumption) λσ _ bC a a' b b' ha hb=>mN bC _ ha hb
 ·cases ha;cases hb;subst fR;exact wV hI (by assumption) (by assumption) λσ _ bC a a' b b' ha hb=>mN bC _ ha hb
 ·cases ha;cases hb;subst fR;exact af hI (gC hI (by assumption)) λ_ _ bC z z' hz=>qT bC _ hz.1 _
 ·cases ha;cases hb;subst fR;exact af hI (gC hI (by assumption)) λ_ _ bC z z' hz=>qT bC _ hz.1 _
 ·cases ha;cases hb;subst fR;exact af hI (gC hI (by assumption)) λ_ _ bC z z' hz=>qT bC _ hz.1 _
 ·exact aA
 ·exact aA
 ·exact ak
def wX{a:Type}(t:ab)(g:b2->Sem a):d8 (aH t) g=d9 λp=>match p.underlying t with|some d=>g d|none=>stuck "no such type":=by
 show d9 _=d9 _;congr 1;funext p;show d8 (match p.underlying t with|some d=>pure d|none=>stuck "no such type") g=_;cases p.underlying t<;>rfl
def Ol(t:ab)(b:Value):bW T fB (gB t (h5 #[]) b):=by
 unfold gB gD gb;show bW T fB (d8 (aH t) _);rw[wX];show bW T fB (match eF ⟨T,fB⟩ t with|some d=>_|none=>stuck "no such type")
 cases eF ⟨T,fB⟩ t with
 |none=>trivial
 |some d=>cases d<;>first
  |trivial
  |(cases b<;>first|trivial|rfl|(rename_i o;cases o<;>first|trivial|rfl)|(rename_i o _ _;cases o<;>first|trivial|rfl))
def Om(t:ab)(b:Value):bW T fB (gB t b (h5 #[])):=by
 unfold gB gD gb;show bW T fB (d8 (aH t) _);rw[wX];show bW T fB (match eF ⟨T,fB⟩ t with|some d=>_|none=>stuck "no such type")
 cases eF ⟨T,fB⟩ t with
 |none=>trivial
 |some d=>cases d<;>first
  |trivial
  |(cases b<;>first|trivial|rfl|(rename_i o;cases o<;>first|trivial|rfl)|(rename_i o _ _;cases o<;>first|trivial|rfl))
def X3{a c:Type}{R:Ren->a->c->Prop}(t:ab)(b:Value)(f:Bool->Sem a)(s':Sem c):av T fB fA F K R ρ (gB t (h5 #[]) b >>= f) s':=bW.rel (bW.bind (Ol t b)) s'
def X4{a c:Type}{R:Ren->a->c->Prop}(t:ab)(b:Value)(f:Bool->Sem a)(s':Sem c):av T fB fA F K R ρ (gB t b (h5 #[]) >>= f) s':=bW.rel (bW.bind (Om t b)) s'
def F6(d:ρ.bw T.globals.size)(op:BinOp)(t:ab)(x y:bL){a a' b b':Value}(g:VR F ρ a a')(hb:VR F ρ b b')
 (hg:(op matches .eql | .neq)=true->em ⟨T,fB⟩ (eE ⟨T,fB⟩) t=false):av T fB fA F K (RV F) ρ (do bM op t x y a b;binOp op t a b) (do bM op t x y a' b';binOp op t a' b'):=by
 by_cases e:a=h5 #[]
 ·subst e;generalize(do bM op t x y a' b';binOp op t a' b')=h;cases op<;>first
   |exact X3 t b _ _
   |(cases b<;>first|exact ak|exact(show dw ht=true from rfl)|(rename_i o;cases o<;>first|exact ak|exact(show dw ht=true from rfl)))
 by_cases f:b=h5 #[]
 ·subst f;generalize(do bM op t x y a' b';binOp op t a' b')=h;cases op<;>first
   |(cases a<;>exact X4 t _ _ _)
   |(cases a<;>first|exact ak|exact(show dw ht=true from rfl)|(rename_i o;cases o<;>first|exact ak|exact(show dw ht=true from rfl)))
 exact af d (F1 d op t x y g hb e f hg) λσ c d _ _ _=>Oj d op t (g.mono c) (hb.mono c) e f
end
def tY(T:ag)(t:ab):Option b2:=eF ⟨T,#[]⟩ t
def tZ(T:ag)(t:ab):Bool:=match tY T t with|some (.int _)=>true|_=>false
def og(T:ag):Nat->ab->Bool
 |0,_=>false
 |m+1,t=>match tY T t with
  |some (.interface _)=>false
  |some (.array _ e)=>og T m e
  |some (.struct fs)=>fs.toList.all λf=>og T m f.type
  |_=>true
section
variable {T:ag}{fB fA:Array Func}{F:aa->Bool}{K:Code->Bool}{ρ σ:Ren}
def fG(t:ab):av T fB fA F K (λ_ a a'=>a=a'/\tY T t=some a) ρ (aH t) (aH t):=by
 unfold aH;refine bI ?_;show(av T fB fA F K) _ ρ (match tY T t with|some i=>pure i|none=>stuck "no such type") (match tY T t with|some i=>pure i|none=>stuck "no such type")
 cases h:tY T t with
 |none=>exact ak
 |some d=>exact ah ⟨rfl,rfl⟩
def On{op:UnOp}{x a:Value}(h:VR F ρ x a):av T fB fA F K (RV F) ρ (gG op x) (gG op a):=by
 unfold gG;cases op<;>cases h<;>first|exact ak|exact uU _ _ _ _|exact wU _ _ _ _|exact ah (.bool _)|exact aA
def F8(g:ρ.bw T.globals.size){s d:ab}(hs:tZ T s=true)(hd:tZ T d=true){x f:Value}(h:VR F ρ x f):av T fB fA F K (RV F) ρ (b3 s d x) (b3 s d f):=by
 unfold b3;refine af g (fG s) λσ c i a o e=>?_;obtain⟨rfl,l⟩:=e;refine af i (fG d) λp m q b b' e=>?_;obtain⟨rfl,n⟩:=e;have h:=(h.mono c).mono m;simp only[tZ,l]at hs;simp only[tZ,n]at hd
 cases a with
 |int j=>
  cases b with
  |int k=>cases h<;>first|exact ah (.int _ _)|exact aA
  |_=>exact absurd hd (by simp)
 |_=>exact absurd hs (by simp)
def uW(b:Bool):∀(n:Nat){ρ:Ren}(_:ρ.bw T.globals.size)(m:Nat)(t:ab)(_:og T m t=true){v v':Value}(_:VR F ρ v v'),av T fB fA F K fF ρ (e9 b n t v) (e9 b n t v'):=by
 intro n
 induction n with
 |zero=>intro ρ o m t a v v' hv;exact aA
 |succ n q=>
  intro ρ o m t a v v' hv
  cases m with
  |zero=>simp[og]at a
  |succ m=>
   unfold e9;refine af o (fG t) λσ j h d D e=>?_;obtain⟨rfl,x⟩:=e;have hv:=hv.mono j;simp only[og,x]at a
   cases d with
   |interface E=>exact absurd a (by simp)
   |array len elem=>
    simp only at a
    cases hv with
    |agg hc=>
     refine af h (oc len h _ λi y k c u=>?_) λ_ _ _ z A e=>?_
     ·refine af c (bN c elem) λB r g s H e=>?_;subst e;refine af g (kI g elem (VA.mono r (VA.mono k hc)) _) λI J w p C l=>?_;refine af w (q w m elem a l) λ_ _ _ _ _ _=>ah rfl
     ·exact ah rfl
    |_=>exact ak
   |struct fields=>
    simp only[List.all_eq_true]at a
    cases hv with
    |agg hc=>
     refine af h (RA:=fF) ?_ λ_ _ _ z A e=>ah rfl;rw[<-dd,<-dd];refine oa fields.toList h _ λf hf y k c u=>?_;refine aN (λ_=>?_) λ_=>ah rfl;refine af c (kI c f.type (VA.mono k hc) f.offset) λB r g p C l=>?_;exact af g (q g m f.type (a f hf) l) λ_ _ _ _ _ _=>ah rfl
    |_=>exact ak
   |_=>cases hv<;>exact ah rfl
inductive ua(F:aa->Bool)(ρ:Ren):Option (Nat×Value)->Option (Nat×Value)->Prop
 |none:ua F ρ none none
 |some (i:Nat) {v v':Value} (h:VR F ρ v v'):ua F ρ (some (i,v)) (some (i,v'))
def C3(d:b2){k k' e e':Value}(a:VR F ρ k k')(b:VR F ρ e e'):fb d k e=fb d k' e'\/(fb d k e=none/\(k=h5 #[]\/e=h5 #[])):=by
 cases a with
 |hole=>exact hQ ⟨by cases d<;>rfl,hP rfl⟩
 |_=>cases b with
  |hole=>exact hQ ⟨by cases d<;>rfl,hQ rfl⟩
  |_=>left;cases d<;>rfl
def LC{t:ab}{d:b2}(hd:tY T t=some d){k e:Value}{b:Bool}(h:fb d k e=some b){a:Type}(f:Bool->Sem a)(hf:bW T fB (f b)):bW T fB (d8 (gB t k e) f):=by
 unfold gB gD gb;show bW T fB (d8 (d8 (aH t) _) f);rw[wX];show bW T fB (d8 (match tY T t with|some d=>_|none=>stuck "no such type") f);rw[hd];unfold fb at h
 split at h
 ·split at h
  ·injection h with h
   subst h;rename_i c;simp only[c,if_true];exact hf
  ·cases h
 ·injection h with h;subst h;exact hf
 ·injection h with h;subst h;exact hf
 ·cases h
def C4{t:ab}{d:b2}(hd:tY T t=some d){k k':Value}(j:VR F ρ k k'):∀{es a:List ae}(i:Nat),bD F ρ es a->
 (fc d k es i=none/\fc d k' a i=none)\/(∃r f,fc d k es i=some r/\fc d k' a i=some f/\ua F ρ r f)\/(fc d k es i=none/\bW T fB (fg t k es i)):=by
 intro es
 induction es with
 |nil=>intro a i h;cases h;exact hQ (hP ⟨_,_,rfl,rfl,.none⟩)
 |cons e es l=>
  intro a i h
  cases h with
  |cons g m=>
   rcases C3 d j g.key with hs|⟨hs,c⟩
   ·simp only[fc,<-hs]
    cases hb:fb d k e.key with
    |none=>exact hP ⟨rfl,rfl⟩
    |some b=>cases b with
     |true=>exact hQ (hP ⟨_,_,rfl,rfl,.some i g.val⟩)
     |false=>
      rcases l (i+1) m with h|h|⟨n,o⟩
      ·exact hP h
      ·exact hQ (hP h)
      ·exact hQ (hQ ⟨n,LC hd hb _ o⟩)
   ·refine hQ (hQ ⟨by simp only[fc,hs],?_⟩);show bW T fB (d8 (gB t k e.key) _)
    rcases c with c|c
    ·rw[c];exact(Ol t _).bind
    ·rw[c];exact(Om t _).bind
def zy(t:ab):∀{es c:List ae}{ρ:Ren}(_:ρ.bw T.globals.size){k k':Value}(_:VR F ρ k k')(i:Nat),bD F ρ es c->av T fB fA F K (λσ r j=>ua F σ r j) ρ (fg t k es i) (fg t k' c i):=by
 intro es
 induction es with
 |nil=>intro c ρ d k k' f i h;cases h;exact ah .none
 |cons e es l=>
  intro c ρ d k k' f i h
  cases h with
  |cons g m=>
   refine af d (qS _ d t f g.key) λσ a n b b' e=>?_;subst e;exact aN (λ_=>ah (.some i (g.val.mono a))) λ_=>l n (f.mono a) (i+1) (m.mono a)
def wZ(j:ρ.bw T.globals.size)(t:ab){k k':Value}(f:VR F ρ k k'){es g:List ae}(h:bD F ρ es g):av T fB fA F K (λσ r i=>ua F σ r i) ρ (fi t k es) (fi t k' g):=by
 unfold fi;refine af j (fG t) λσ a l d n e=>?_;obtain⟨rfl,hd⟩:=e
 rcases C4 (fB:=fB) hd (f.mono a) 0 (h.mono a) with⟨b,c⟩|⟨r,i,b,c,m⟩|⟨b,c⟩
 ·rw[b,c];exact zy t l (f.mono a) 0 (h.mono a)
 ·rw[b,c];exact ah m
 ·rw[b];exact c.rel _
def bD.isEmpty{es a:Array ae}(h:bD F ρ es.toList a.toList):es.isEmpty=a.isEmpty:=by
 have:=h.length;simp only[Array.length_toList]at this;simp[Array.isEmpty,this]
theorem bD.get?{l l':List ae}(h:bD F ρ l l')(i:Nat):(l[i]?=none/\l'[i]?=none)\/∃e e',l[i]?=some e/\l'[i]?=some e'/\zo F ρ e e':=by
 induction h generalizing i with
 |nil=>exact hP ⟨rfl,rfl⟩
 |cons a _ b=>
  grind
theorem bD.append{l l' m m':List ae}(x:bD F ρ l l')(y:bD F ρ m m'):bD F ρ (l++m) (l'++m'):=by
 induction x with
 |nil=>exact y
 |cons a _ b=>exact .cons a b
def bD.modify{l l':List ae}(x:bD F ρ l l')(i:Nat){f f':ae->ae}(hf:∀e e',zo F ρ e e'->zo F ρ (f e) (f' e')):bD F ρ (l.modify i f) (l'.modify i f'):=by
 induction x generalizing i with
 |nil=>cases i<;>exact .nil
 |cons a t b=>
  cases i with
  |zero=>exact .cons (hf _ _ a) t
  |succ i=>exact .cons a (b i)
def bD.filter{l l':List ae}(x:bD F ρ l l'){p:ae->Bool}(c:∀e e':ae,e.born=e'.born->p e=p e'):bD F ρ (l.filter p) (l'.filter p):=by
 induction x with
 |nil=>exact .nil
 |cons a t b=>
  rw[cQ,cQ,<-c _ _ a.born]
  split
  ·exact .cons a b
  ·exact b
def bD.find?{l l':List ae}(x:bD F ρ l l'){p:ae->Bool}(b:∀e e':ae,e.born=e'.born->p e=p e'):(l.find? p=none/\l'.find? p=none)\/∃e e',l.find? p=some e/\l'.find? p=some e'/\zo F ρ e e':=by
 induction x with
 |nil=>exact hP ⟨rfl,rfl⟩
 |cons a t c=>
  rw[c2,c2,<-b _ _ a.born]
  grind
def bD.all{l l':List ae}(x:bD F ρ l l'){p:ae->Bool}(b:∀e e':ae,e.born=e'.born->p e=p e'):l.all p=l'.all p:=by
 induction x with
 |nil=>rfl
 |cons a t c=>simp only[c4,b _ _ a.born,c]
def LD{Z:ab->Bool}(E:dM T F Z)(H:ρ.bw T.globals.size)(t:ab){m:Nat}(I:∀k e,tY T t=some (.map k e)->og T m k=true/\Z e=true){x w i i':Value}(q:VR F ρ x w)(hi:VR F ρ i i')(ok:Bool) :
 av T fB fA F K (RV F) ρ (fl t x i ok) (fl t w i' ok):=by
 unfold fl;refine af H (fG t) λσ f y d Q e=>?_;obtain⟨rfl,J⟩:=e;have q:=q.mono f;have hi:=hi.mono f
 cases d with
 |map key elem=>
  obtain⟨zz,L⟩:=I key elem J;have a:∀c:Ren,σ.le c->c.bw T.globals.size->∀es l:Array ae,bD F c es.toList l.toList->av T fB fA F K (RV F) c
   (do
     e9 es.isEmpty 10000 key i
     let(v,s)<-match<-fi key i es.toList with
      |some (_,v)=>pure (v,true)
      |none=>pure (<-aS elem,false)
     pure (if ok then h5 #[v,hR s] else v))
   (do
     e9 l.isEmpty 10000 key i'
     let(v,s)<-match<-fi key i' l.toList with
      |some (_,v)=>pure (v,true)
      |none=>pure (<-aS elem,false)
     pure (if ok then h5 #[v,hR s] else v)):=by
   intro c n p es l A;rw[bD.isEmpty A];refine af p (uW _ _ p m key zz (hi.mono n)) λR B C _ _ _=>?_;refine af C (wZ C key ((hi.mono n).mono B) (A.mono B)) λM S D r U u=>?_;have fin:∀(g:Ren)(v v':Value)(b:Bool),VR F g v v'->av T fB fA F K (RV F) g (pure (if ok then h5 #[v,hR b] else v):Sem Value) (pure (if ok then h5 #[v',hR b] else v'):Sem Value):=by
    intro g v v' b hv;refine ah ?_
    split
    ·exact .tuple (VA.two hv (.bool b))
    ·exact hv
   cases u with
   |none=>
    exact af D (gO E D L) λg _ _ z N O=>fin g z N false O.1
   |some j hv=>exact fin M _ _ true hv
  cases q with
  |qQ=>exact a σ (Ren.le_refl _) y #[] #[] .nil
  |map u=>
   refine af y (dA u) λc n p o V P=>?_
   cases P with
   |map clock h=>exact a c n p _ _ h
   |_=>exact bz
  |_=>exact bz
 |_=>exact ak
def Bf(g:ρ.bw T.globals.size):∀(n:Nat){a a' b b':Value},VR F ρ a a'->VR F ρ b b'->fm n a b=true->fm n a' b'=true:=by
 intro n;have ptr:∀{a a' b b':Addr},AR ρ a a'->AR ρ b b'->(some a==some b)=true->(some a'==some b')=true:=by
  intro a a' b b' c hb;rw[beq_iff_eq,beq_iff_eq,hB,hB];exact(AR.eq_iff g c hb).1
 induction n with
 |zero=>
  intro a a' b b' c hb
  cases c with
  |hole=>intro h;unfold fm at h;cases h
  |_=>cases hb with
   |hole=>intro h;unfold fm at h;cases h
   |_=>first|exact id|(unfold fm;first|exact id|exact ptr (by assumption) (by assumption))|(intro h;unfold fm at h;cases h)
 |succ n f=>
  intro a a' b b' c hb
  cases c with
  |hole=>intro h;unfold fm at h;cases h
  |iface t c=>
   cases hb with
   |iface u hb=>
    simp only[fm,f7];exact fun⟨x,y⟩=>⟨x,f c hb y⟩
   |_=>intro h;unfold fm at h;cases h
  |agg c=>
   cases hb with
   |agg hb=>
    have all:∀{l d m m':List Value},cU F ρ l d->cU F ρ m m'->((l.zip m).all fun(x,y)=>fm n x y)=true->((d.zip m').all fun(x,y)=>fm n x y)=true:=by
     intro l
     induction l with
     |nil=>intro d m m' h _ _;cases h;rfl
     |cons x l e=>
      intro d m m' h k
      cases h with
      |cons i j=>
       cases k with
       |nil=>intro _;rfl
       |cons k1 k2=>
        simp only[c5,c4,f7];exact fun⟨x,y⟩=>⟨f i k1 x,e j k2 y⟩
    simp only[fm,VA.size c,VA.size hb,f7];exact fun⟨x,y⟩=>⟨x,all c hb y⟩
   |_=>intro h;unfold fm at h;cases h
  |_=>cases hb with
   |hole=>intro h;unfold fm at h;cases h
   |_=>first|exact id|(unfold fm;first|exact id|exact ptr (by assumption) (by assumption))|(intro h;unfold fm at h;cases h)
def C5(a b:ByteArray):(a==b)=true↔a=b:=by
 obtain⟨x⟩:=a;obtain⟨y⟩:=b;show(x==y)=true↔_;rw[beq_iff_eq];simp
def C6:∀(n:Nat){a b:Value},fm n a b=true->a=b:=by
 intro n
 induction n with
 |zero=>intro a b h;cases a<;>cases b<;>first|rfl|(unfold fm at h;exact f8 h)|(unfold fm at h;simp only[f7,beq_iff_eq,C5]at h;simp[h])
 |succ n d=>
  intro a b h;have all:∀{l m:List Value},l.length=m.length->((l.zip m).all fun(x,y)=>fm n x y)=true->l=m:=by
   intro l
   induction l with
   |nil=>intro m e _;cases m with
    |nil=>rfl
    |cons _ _=>cases e
   |cons x l c=>
    intro m e k
    cases m with
    |nil=>cases e
    |cons y m=>
     simp only[c5,c4,f7]at k;rw[d k.1,c (by simpa using e) k.2]
  cases a<;>cases b<;>first
   |rfl
   |(unfold fm at h;exact f8 h)
   |(unfold fm at h;simp only[f7,beq_iff_eq]at h;rw[h.1,d h.2];done)
   |(unfold fm at h;simp only[f7,beq_iff_eq]at h;exact congrArg Value.agg (Array.ext' (all (by simpa using h.1) h.2)))
   |(unfold fm at h;simp only[f7,beq_iff_eq,C5]at h;simp[h];done)
def Aa{es c:Array ae}(h:bD F ρ es.toList c.toList)(i:Nat){k k':Value}(f:VR F ρ k k'):VR F ρ (((es[i]?).map (·.key)).getD k) (((c[i]?).map (·.key)).getD k'):=by
 rcases bD.get? h i with⟨a,b⟩|⟨e,g,a,b,d⟩
 ·grind
 ·simp only[de]at a b;rw[a,b];exact d.key
def lK(mapType:ab)(map key:Value):Sem (Nat×Array ae×Nat×Option (Nat×Value)):=do
 let .map keyType _<-aH mapType|stuck "MapUpdate: map type expected"
 match map with
 |h3 none=>bb (.plain "assignment to entry in nil map")
 |h3 (some r)=>
  let h9 es clock<-getObj r|stuck "MapUpdate: map expected"
  e9 false 10000 keyType key
  let f<-fi keyType key es.toList
  pure (r,es,clock,f)
 |_=>stuck "MapUpdate: map expected"
def rZ(key value:Value)(x:Nat×Array ae×Nat×Option (Nat×Value)):Sem Unit:=
 match x.2.2.2 with
 |some (i,_)=>do
  let key<-fo (((x.2.1[i]?).map (·.key)).getD key) key
  ar x.1 (h9 (x.2.1.modify i λe=>{ e with key,val:=value }) x.2.2.1)
 |none=>ar x.1 (h9 (x.2.1.push { key,val:=value,born:=x.2.2.1 }) (x.2.2.1+1))
def jg(t:ab)(m k v:Value):fp t m k v=d8 (lK t m k) (rZ k v):=by
 unfold fp lK;show d8 _ _=d8 (d8 _ _) _;rw[ea];congr 1;funext d;cases d<;>try rfl
 cases m<;>try rfl
 rename_i r
 cases r with
 |none=>rfl
 |some r=>
  show d8 _ _=d8 (d8 _ _) _;rw[ea];congr 1;funext o;cases o<;>try rfl
  show d8 _ _=d8 (d8 _ _) _;rw[ea];congr 1;funext _;show d8 _ _=d8 (d8 _ _) _;rw[ea];congr 1
def acf(F:aa->Bool)(ρ:Ren)(x a:Nat×Array ae×Nat×Option (Nat×Value)):Prop:=ρ x.1 a.1/\bD F ρ x.2.1.toList a.2.1.toList/\x.2.2.1=a.2.2.1/\ua F ρ x.2.2.2 a.2.2.2
def uX(q:ρ.bw T.globals.size)(t:ab){m:Nat}(s:∀k e,tY T t=some (.map k e)->og T m k=true){x h i i':Value}(f:VR F ρ x h)(hi:VR F ρ i i') :
 av T fB fA F K (acf F) ρ (lK t x i) (lK t h i'):=by
 unfold lK;refine af q (fG t) λσ b u d z e=>?_;obtain⟨rfl,v⟩:=e;have f:=f.mono b;have hi:=hi.mono b
 cases d with
 |map key elem=>
  have zz:=s key elem v
  cases f with
  |qQ=>exact zv _
  |map a=>
   refine af u (dA a) λA j l o B w=>?_;have a:=j a;have hi:=hi.mono j
   cases w with
   |map clock c=>
    refine af l (uW _ _ l m key zz hi) λC g n _ _ _=>?_;have a:=g a;have hi:=hi.mono g;have c:=c.mono g;refine af n (wZ n key hi c) λD p E r H y=>?_;exact ah ⟨p a,c.mono p,rfl,y⟩
   |_=>exact ak
  |_=>exact ak
 |_=>exact ak
def LF{c:Type}(P:ao)(r:Nat)(o:Obj)(a:c)(w:World)(b:Nat->ac->Nat)(d:Nat):(dU r o (ek a)).run P (w.re b d)=((dU r o (ek a)).run P w).re b d:=by
 show(match w.heap[r]? with|some (h8 ..)=>_|some _=>_|none=>_)=Result.re (match w.heap[r]? with|some (h8 ..)=>_|some _=>_|none=>_) b d
 cases w.heap[r]? with
 |none=>rfl
 |some o=>cases o<;>rfl
def Oo(d:ρ.bw T.globals.size){w w':World}(o:WR T.globals.size F K ρ w w')(p:w.tape=w'.tape)(hd:w.drawn=w'.drawn){i i' v v':Value}(hi:VR F ρ i i')(hv:VR F ρ v v')
 {x s:Nat×Array ae×Nat×Option (Nat×Value)} (H:acf F ρ x s) (c:Array Event) :
 qp T.globals.size F K fF ρ w w' c ((rZ i' v' s).runT ⟨T,fA⟩ w' c) ((rZ i v x).run ⟨T,fB⟩ w):=by
 obtain⟨r,es,clock,N⟩:=x;obtain⟨E,t,O,I⟩:=s;obtain⟨q,l,hc,m⟩:=H;simp only at q l hc m;subst hc;have put:∀(j:Nat){k k':Value},VR F ρ k k'->av T fB fA F K fF ρ (ar r (h9 (es.modify j λe=>{ e with key:=k,val:=v }) clock)) (ar E (h9 (t.modify j λe=>{ e with key:=k',val:=v' }) clock)):=by
  intro j k k' u;refine dV q (.map _ ?_);rw[df,df];exact bD.modify l j λe J y=>⟨u,hv,y.born⟩
 cases m with
 |none=>
  refine(av.run c ?_ d o p hd).zu;refine dV q (.map _ ?_);rw[c6,c6];exact bD.append l (.cons ⟨hi,hv,rfl⟩ .nil)
 |some j _=>
  have hold:=Aa l j hi;unfold rZ;simp only;generalize(((es[j]?).map (·.key)).getD i)=f at hold;generalize(((t[j]?).map (·.key)).getD i')=z at hold;unfold fo;by_cases A:fm 10000 f i=true
  ·rw[if_pos A,if_pos (Bf d _ hold hi A)];exact(av.run c (put j hi) d o p hd).zu
  ·rw[if_neg A];by_cases g:fm 10000 z i'=true
   ·rw[if_pos g];obtain rfl:=C6 _ g;have one:∀n:Nat,qp T.globals.size F K fF ρ w w' c ((ar E (h9 (t.modify j λe=>{ e with key:=z,val:=v' }) clock)).runT ⟨T,fA⟩ w' c)
     ((ar r (h9 (es.modify j λe=>{ e with key:=if n=0 then i else f,val:=v }) clock)).run ⟨T,fB⟩ (w.re w.tape (w.drawn+1))):=by
     intro n;have h:=av.run c (put j (k:=if n=0 then i else f) (k':=z) (by split<;>assumption)) d o p hd;unfold ar;rw[LF];unfold ar at h;generalize(dU r _ (ek ())).run ⟨T,fB⟩ w=res at h
     match res,h with
     |h6 a w2,⟨B,L,C,D,e,k,M⟩=>exact⟨B,L,C,D,w2.tape,w2.drawn,e,k,M⟩
     |h7 (im v) w2,⟨B,v',C,D,e,k,hv⟩=>exact⟨B,v',C,D,w2.tape,w2.drawn,e,k,hv⟩
     |h7 iq _,h=>exact h
     |h7 ix _,h=>exact h
     |h7 (iB _) _,h=>exact h
     |h7 (iC _) _,h=>exact h
     |h7 (iM _) _,h=>exact h
     |h7 iN _,h=>exact h
     |h7 (ip _) _,h=>exact h
     |h7 (io _) _,_=>trivial
    exact one (Question.cut (.extern "map.whichKeyStays" 2) (w.tape w.drawn (.extern "map.whichKeyStays" 2)))
   ·rw[if_neg g];refine(av.run c ?_ d o p hd).zu;refine av.bind d (RA:=RV F) ?_ λσ b _ k k' u=>?_
    ·refine af d (lH _) λσ b _ n n' e=>?_;subst e;refine ah ?_
     split
     ·exact hi.mono b
     ·exact hold.mono b
    ·refine dV (b q) (.map _ ?_);rw[df,df];exact bD.modify (l.mono b) j λe J y=>⟨u,hv.mono b,y.born⟩
def Ty(c:ρ.bw T.globals.size){w w':World}(l:WR T.globals.size F K ρ w w')(n:w.tape=w'.tape)(hd:w.drawn=w'.drawn)(t:ab){m:Nat}(o:∀k e,tY T t=some (.map k e)->og T m k=true){x d i i' v v':Value}(p:VR F ρ x d)(hi:VR F ρ i i')(hv:VR F ρ v v')(b:Array Event) :
 qp T.globals.size F K fF ρ w w' b ((fp t d i' v').runT ⟨T,fA⟩ w' b) ((fp t x i v).run ⟨T,fB⟩ w):=by
 rw[jg,jg,eb,ec];have h:=av.run b (uX (fB:=fB) (fA:=fA) (F:=F) (K:=K) c t o p hi) c l n hd;generalize(lK t x i).run ⟨T,fB⟩ w=res at h
 match res,h with
 |h6 a w2,⟨f,r,g,j,e,k,q⟩=>
  rw[e];exact qp.step k (Oo k.inj k.wr k.tape k.drawn (hi.mono k.le) (hv.mono k.le) q _)
 |h7 (im v) w2,⟨f,v',g,j,e,k,hv⟩=>
  rw[e];exact⟨f,v',g,j,w2.tape,w2.drawn,rfl,k,hv⟩
 |h7 iq _,h=>exact h
 |h7 ix _,h=>exact h
 |h7 (iB _) _,h=>exact h
 |h7 (iC _) _,h=>exact h
 |h7 (iM _) _,h=>exact h
 |h7 iN _,h=>exact h
 |h7 (ip _) _,h=>exact h
 |h7 (io _) _,_=>trivial
def Ga(a:ρ.bw T.globals.size)(t:ab):av T fB fA F K (RV F) ρ (ft t none) (ft t none):=
 af a (jO (.map 0 .nil)) λ_ _ _ _ _ b=>ah (.map b)
def Oq(g:ρ.bw T.globals.size)(t:ab){x l:Value}(b:VR F ρ x l):av T fB fA F K (RV F) ρ (fJ t x) (fJ t l):=by
 unfold fJ;refine af g (bk t) λσ i j d p e=>?_;subst e;have b:=b.mono i;have fin:∀(a:Ren),a.bw T.globals.size->∀o c,OR F K a o c->av T fB fA F K (RV F) a (do pure (hW (some ⟨<-aq o,0,none⟩)):Sem Value) (do pure (hW (some ⟨<-aq c,0,none⟩)):Sem Value):=
  λa g o c k=>af g (jO k) λ_ _ _ _ _ f=>ah (.ptr ⟨f,rfl,rfl⟩)
 cases d with
 |string=>cases b<;>first|exact fin σ j _ _ (.stringIter _ _)|exact bz
 |map _ _=>
  cases b with
  |qQ=>exact fin σ j _ _ (.mJ _ _ _)
  |map f=>
   refine af j (dA f) λa m n o c k=>?_
   cases k with
   |map clock h=>exact fin a n _ _ (.mapIter _ _ _ (m f))
   |_=>exact bz
  |_=>exact bz
 |_=>exact bz
def Ot(m:ρ.bw T.globals.size){x g:Value}(q:VR F ρ x g):av T fB fA F K (RV F) ρ (fO x) (fO g):=by
 unfold fO
 cases q with
 |@ptr a s t=>
  obtain⟨r,off,sp⟩:=a;obtain⟨E,u,v⟩:=s;obtain⟨i,e1,j⟩:=t;simp only at i e1 j;subst e1 j
  cases off with
  |succ n=>exact ak
  |zero=>
   refine af m (dA i) λσ w y o H z=>?_
   cases z with
   |mapIter a b c A=>
    simp only
    cases b.back? with
    |none=>exact ak
    |some d=>
     refine af y (dA A) λI J L p M B=>?_
     cases B with
     |map clock C=>
      refine aN (λ_=>aM) λ_=>?_;rw[<-dj,<-dj]
      rcases bD.find? C (p:=λe=>e.born==d) (λe D h=>by rw[h]) with⟨f,k⟩|⟨e,D,f,k,l⟩
      ·rw[f];exact aA
      ·rw[f,k];exact ah (.tuple (VA.two l.key l.val))
     |_=>exact ak
   |_=>exact ak
 |_=>exact ak
inductive gS(F:aa->Bool)(ρ:Ren):List (Option ae)->List (Option ae)->Prop
 |nil:gS F ρ [] []
 |no {l l':List (Option ae)} (t:gS F ρ l l'):gS F ρ (none::l) (none::l')
 |yes {e e':ae} {l l':List (Option ae)} (h:zo F ρ e e') (t:gS F ρ l l'):gS F ρ (some e::l) (some e'::l')
def gS.of{l l':List ae}(h:bD F ρ l l'):gS F ρ (l.map some) (l'.map some):=by
 induction h with
 |nil=>exact .nil
 |cons a _ b=>exact .yes a b
theorem gS.append{l l' m m':List (Option ae)}(x:gS F ρ l l')(y:gS F ρ m m'):gS F ρ (l++m) (l'++m'):=by
 induction x with
 |nil=>exact y
 |no _ b=>exact .no b
 |yes a _ b=>exact .yes a b
def gS.length{l l':List (Option ae)}(x:gS F ρ l l'):l.length=l'.length:=by
 induction x with
 |nil=>rfl
 |no _ b=>simp[b]
 |yes a _ b=>simp[b]
theorem gS.get?{l l':List (Option ae)}(x:gS F ρ l l')(i:Nat):(l[i]?=none/\l'[i]?=none)\/(l[i]?=some none/\l'[i]?=some none)\/∃e e',l[i]?=some (some e)/\l'[i]?=some (some e')/\zo F ρ e e':=by
 induction x generalizing i with
 |nil=>exact hP ⟨rfl,rfl⟩
 |no _ b=>
  grind
 |yes a _ b=>
  grind
def Tz(N:ρ.bw T.globals.size){x E:Value}(O:VR F ρ x E)(b:Bool)(t:ab):av T fB fA F K (RV F) ρ (fP x b t) (fP E b t):=by
 unfold fP
 cases O with
 |@ptr a P Q=>
  obtain⟨r,off,sp⟩:=a;obtain⟨Y,R,S⟩:=P;obtain⟨d,e1,H⟩:=Q;simp only at d e1 H;subst e1 H
  cases off with
  |succ n=>exact ak
  |zero=>
   refine af N (dA d) λσ y I o Z U=>?_;have d:=y d;have over:∀f:Ren,av T fB fA F K (RV F) f (pure (h5 #[hR false]):Sem Value) (pure (h5 #[hR false]):Sem Value):=λf=>ah (.tuple (VA.one (.bool _)))
   cases U with
   |stringIter s pos=>
    cases b with
    |true=>
     refine aN (λ_=>?_) λ_=>over _;refine af I (dV d (.stringIter _ _)) λ_ _ _ _ _ _=>?_;exact ah (.tuple (VA.three (.bool _) (.int _ _) (.int _ _)))
    |false=>exact ak
   |mJ a1 b1 c1=>
    grind[ak]
   |@mapIter m m' since seen last g=>
    cases b with
    |true=>exact ak
    |false=>
     refine af I (dA g) λf J V p p' W=>?_
     cases W with
     |@map es i clock z=>
      have g:=J g;have d:=J d;have e1:(!seen.isEmpty && !es.isEmpty&&es.all (·.born>=last))=(!seen.isEmpty && !i.isEmpty&&i.all (·.born>=last)):=by
       rw[bD.isEmpty z,<-dk,<-dk,bD.all z (p:=λe=>decide (e.born>=last)) (λe j h=>by rw[h])]
      simp only[e1];refine aN (λ_=>aM) λ_=>?_;have k:bD F f (es.filter λe=>!seen.contains e.born).toList (i.filter λe=>!seen.contains e.born).toList:=by
       rw[dl,dl];exact bD.filter z λe j h=>by rw[h]
      generalize(es.filter λe=>!seen.contains e.born)=left at k;generalize(i.filter λe=>!seen.contains e.born)=l at k;have hold:bD F f (left.filter (·.born<since)).toList (l.filter (·.born<since)).toList:=by
       rw[dl,dl];exact bD.filter k λe j h=>by rw[h]
      have A:bD F f (left.filter (·.born>=since)).toList (l.filter (·.born>=since)).toList:=by
       rw[dl,dl];exact bD.filter k λe j h=>by rw[h]
      generalize(left.filter (·.born<since))=c at hold;generalize(l.filter (·.born<since))=q at hold;generalize(left.filter (·.born>=since))=new at A;generalize(l.filter (·.born>=since))=L at A;have hc:gS F f ((if c.isEmpty then #[none] else #[])++(c++new).map some).toList ((if q.isEmpty then #[none] else #[])++(q++L).map some).toList:=by
       rw[c7,c7,dp,dp,c7,c7,bD.isEmpty hold];refine gS.append ?_ (gS.of (bD.append hold A))
       split
       ·exact .no .nil
       ·exact .nil
      generalize((if c.isEmpty then #[none] else #[])++(c++new).map some)=B at hc;generalize((if q.isEmpty then #[none] else #[])++(q++L).map some)=C at hc;have hs:B.size=C.size:=by simpa using hc.length
      simp only[hs];refine af V (lH _) λυ u X n n' e=>?_;subst e
      rcases gS.get? hc n with⟨v,w⟩|⟨v,w⟩|⟨e,j,v,w,D⟩
      ·grind [ak]
      ·grind
      ·simp only[de]at v w;rw[v,w];simp only[<-D.born];refine af X (dV (u d) (.mapIter _ _ _ (u g))) λ_ M _ _ _ _=>?_;exact ah (.tuple (VA.three (.bool _) ((D.key.mono u).mono M) ((D.val.mono u).mono M)))
     |_=>exact ak
   |_=>cases b<;>exact ak
 |_=>exact ak
def LG{x b:Value}(d:VR F ρ x b):av T fB fA F K (λ_ n n'=>n=n'/\∀a c,x=h0 a 0 c->n=0) ρ (g2 x) (g2 b):=by
 cases d<;>first|exact ah ⟨rfl,λa c h=>by cases h;rfl⟩|exact ah ⟨rfl,λa c h=>by cases h⟩|exact ak
def Gb(size:Nat){x d:Value}(g:VR F ρ x d):av T fB fA F K (λ_ a a'=>a=#[]/\a'=#[]) ρ (g5 size 0 x) (g5 size 0 d):=by
 have f:∀a a':Addr,av T fB fA F K (λ_ a a'=>a=#[]/\a'=#[]) ρ (a6 a (0*size)) (a6 a' (0*size)):=by
  intro a a';rw[cu];exact ah ⟨rfl,rfl⟩
 cases g with
 |slice l c h=>exact f _ _
 |dK D a=>exact f _ _
 |di l c=>exact ah ⟨rfl,rfl⟩
 |string s=>
  have e:(s.extract 0 0).data.map (λb=>Value.int .u8 b.toNat)=#[]:=by
   simp_all
  refine ah ?_
  grind
 |_=>exact ak
def kZ(d:ρ.bw T.globals.size)(size n:Nat){x b:Value}(e:VR F ρ x b)(f:∀a c,x=h0 a 0 c->n=0):av T fB fA F K (RVA F) ρ (g5 size n x) (g5 size n b):=by
 cases e with
 |dK D a=>
  obtain rfl:=f _ _ rfl;show(av T fB fA F K) (RVA F) ρ (a6 _ (0*size)) (a6 _ (0*size));rw[cu];exact ah VA.nil
 |slice l c g=>exact rU d g _
 |di l c=>exact ah VA.nil
 |string s=>
  refine ah ?_;show cU _ _ _ _;rw[dp];exact cU.map _ λ_ _=>.int _ _
 |_=>exact ak
end
open Builtin in
def jU(elem size d e:Nat)(base:Option Addr)(s x:Value):Sem Value:=do
 let n<-lenOf x;let appended:Sem (Array Value):=firstCells size n x;let b:=d+n
 if b<=e then
  let new<-appended
  if let some a:=base then a7 (a.add (d*size)) new.toList
  pure (h0 base b e)
 else
  if(b:Int) > IntKind.i64.max/\((false:Bool)\/(<-aF elem).bytes=0) then bb (.error "growslice: len out of range")
  if nextslicecap b e*(<-aF elem).bytes > 2 ^ 48 then(if(false:Bool) then bb (.error "growslice: len out of range") else do
   if !(<-mayShare size d n base x) then mark .noRoom
   ap (.resourceLimit "append: a slice or a string whose bytes no memory bears"))
  let f<-aw (.appendCap b e elem)
  aB (f*(<-aF elem).bytes)
  let g<-firstCells size d s;let new<-appended;let c:=zeroCells (<-aS elem).cells (f-b)
  pure (h0 (some (<-ba elem (g++new++c))) b f)
def I7(size n:Nat)(base:Option Addr)(x:Value)(there:Bool):Sem Bool:=
 if(!there)=true then pure true else
 match x with
 |h0 (some b) _ _=>do pure (!(<-g6 b (n*size))||base.any (·.block==b.block))
 |_=>pure false
section
variable {T:ag}{fB fA:Array Func}{F:aa->Bool}{K:Code->Bool}{ρ σ:Ren}
def VA.zeroCells{c:Array Value}(h:VA F ρ c c)(n:Nat):VA F ρ (g7 c n) (g7 c n):=by
 show cU _ _ _ _;unfold g7;rw[dp];refine cU.map _ λi hi=>?_
 rcases Nat.eq_zero_or_pos c.size with a|a
 ·grind
 ·have hl:=Nat.mod_lt i a
  rcases VA.get? h (i % c.size) with⟨b,_⟩|⟨v,v',b,d,hv⟩
  ·grind
  grind
def qV(T:ag)(fB:Array Func){a:Type}:Sem a->Prop
 |ek _=>True
 |d9 k=>qV T fB (k ⟨T,fB⟩)
 |eh _ k=>∀x,qV T fB (k x)
 |ei _ k=>∀x,qV T fB (k x)
 |_=>False
def qV.bind{c d:Type}{s:Sem c}{f:c->Sem d}(h:qV T fB s)(hf:∀a,qV T fB (f a)):qV T fB (s.bind f):=by
 induction s with
 |pure a=>exact hf a
 |program k b=>exact b _ h
 |shape r k b=>exact λx=>b x (h x)
 |frozen r k b=>exact λx=>b x (h x)
 |_=>exact h.elim
def qV.dead{c d:Type}{s:Sem c}{f:c->Sem d}(h:qV T fB s)(hf:∀a,bW T fB (f a)):bW T fB (s.bind f):=by
 induction s with
 |pure a=>exact hf a
 |program k b=>exact b _ h
 |shape r k b=>exact λx=>b x (h x)
 |frozen r k b=>exact λx=>b x (h x)
 |_=>exact h.elim
theorem look_holds(a:Addr)(n:Nat):qV T fB (g6 a n):=λx=>by cases x<;>trivial
def Ab(size n:Nat)(b:Option Addr)(x:Value)(there:Bool):qV T fB (I7 size n b x there):=by
 unfold I7
 split
 ·trivial
 ·split
  ·exact qV.bind (look_holds _ _) λ_=>trivial
  ·trivial
def Gg(size l n:Nat)(b:Option Addr)(x:Value):qV T fB (g8 size l n b x):=by
 cases b with
 |none=>exact Ab size n none x true
 |some p=>
  unfold g8;simp only;exact qV.bind (look_holds _ _) λy=>λz=>Ab size n (some p) x (y && !z)
def zA{Z:ab->Bool}(E:dM T F Z)(f:ρ.bw T.globals.size){elem:ab}(t:Z elem=true)(size l c:Nat){b b':Option Addr}(hs:VR F ρ (h0 b l c) (h0 b' l c)){x v:Value}(g:VR F ρ x v) :
 av T fB fA F K (RV F) ρ (jU elem size l c b (h0 b l c) x) (jU elem size l c b' (h0 b' l c) v):=by
 unfold jU;have u:∀a w,Value.slice b l c=h0 a 0 w->l=0:=λa w h=>by cases h;rfl
 refine af f (LG g) λσ d f n n' e=>?_;obtain⟨rfl,p⟩:=e;have g:=g.mono d;have hs:=hs.mono d;simp only;refine aN (λM=>?_) λ_=>?_
 ·by_cases A:c=0
  ·subst A;obtain rfl:n=0:=by omega
   obtain rfl:l=0:=by omega
   refine af f (Gb size g) λB d f new C o=>?_;obtain⟨rfl,rfl⟩:=o;have hs:=hs.mono d
   cases hs with
   |di=>exact ah (.di _ _)
   |slice _ _ s=>exact ah (.slice _ _ s)
   |dK D a=>exact ah (.dK D a)
  refine af f (kZ f size n g p) λB d f new C o=>?_;have hs:=hs.mono d
  cases hs with
  |dK D a=>exact absurd rfl A
  |di=>exact ah (.di _ _)
  |slice _ _ s=>exact af f (qD f (s.add _) o 0) λm d f _ _ _=>ah (.slice _ _ (s.mono d))
 ·refine af f (ee elem) λB d f i N e=>?_;subst e;have g:=g.mono d;have hs:=hs.mono d;refine aN (λ_=>?_) λ_=>?_
  ·exact af (RA:=λ_ _ _=>False) f (cX _) λ_ _ _ _ _ h=>h.elim
  refine af f (ee elem) λm d f j O e=>?_;subst e;have g:=g.mono d;have hs:=hs.mono d;refine aN (λ_=>?_) λ_=>?_
  ·refine af (RA:=λ_ _ _=>False) f ?_ λ_ _ _ _ _ h=>h.elim;refine aN (λh=>absurd h (by decide)) λ_=>?_;refine bW.rel ?_ _;refine qV.dead (Gg size l n b x) λy=>?_;cases y
   ·exact⟨rfl,rfl⟩
   ·rfl
  refine af f (lH _) λm d f cap H e=>?_;subst e;have g:=g.mono d;have hs:=hs.mono d;refine af f (ee elem) λm d f k k' e=>?_;subst e;have g:=g.mono d;have hs:=hs.mono d;refine af f (FQ _) λm d f _ _ _=>?_;have g:=g.mono d;have hs:=hs.mono d;refine af f (kZ f size l hs u) λm d f I P q=>?_;have g:=g.mono d;refine af f (kZ f size n g p) λm d f new C o=>?_;have q:=VA.mono d q;refine af f (gO E f t) λm d f z Q h=>?_;obtain⟨J,rfl⟩:=h;have q:=VA.mono d q;have o:=VA.mono d o;refine af f (tS f elem (VA.append (VA.append q o) (VA.zeroCells J.cells _))) λm d f r R L=>ah (.slice _ _ L)
def LH{Z:ab->Bool}(J:dM T F Z)(v:ρ.bw T.globals.size){ts:Array ab}(t:ab)(L:∀s,ts[0]?=some s->∀e,tY T s=some (.slice e)->Z e=true)(w:∀s,ts[1]?=some s->∀k,tY T s≠some (.int k))
 {n B:Array Value} (C:VA F ρ n B):av T fB fA F K (RV F) ρ (g9 ts t n) (g9 ts t B):=by
 unfold g9
 rcases VA.get? C 0 with⟨u,E⟩|⟨s,M,u,E,hs⟩
 ·rw[u];cases ts[0]?<;>exact ak
 rcases VA.get? C 1 with⟨k1,k2⟩|⟨x,N,k1,k2,y⟩
 ·rw[u,k1];cases ts[0]?<;>exact ak
 rw[u,E,k1,k2]
 cases O:ts[0]? with
 |none=>exact ak
 |some H=>
  simp only;refine af v (fG H) λσ a m d z e=>?_;obtain⟨rfl,j⟩:=e;have hs:=hs.mono a;have y:=y.mono a
  cases d with
  |slice elem=>
   have A:=L H O elem j;have fin:∀(f:Ren),f.bw T.globals.size->σ.le f->∀(size l c:Nat)(b b':Option Addr),s=h0 b l c->M=h0 b' l c->
    av T fB fA F K (RV F) f (jU elem size l c b (h0 b l c) x) (jU elem size l c b' (h0 b' l c) N):=by
    intro f v a size l c b b' e1 P;subst e1 P;exact zA J v A size l c (hs.mono a) (y.mono a)
   cases hs with
   |di l c=>
    simp only;refine af m (bN m elem) λf g h size I e=>?_;subst e
    cases e1:ts[1]? with
    |none=>exact fin f h g size l c none none rfl rfl
    |some i=>
     refine af h (fG i) λo p r d z e=>?_;obtain⟨rfl,j⟩:=e
     cases d with
     |int k=>exact absurd j (w i e1 k)
     |_=>exact fin o r (Ren.le_trans g p) size l c none none rfl rfl
   |slice l c Q=>
    simp only;refine af m (bN m elem) λf g h size I e=>?_;subst e
    cases e1:ts[1]? with
    |none=>exact fin f h g size l c _ _ rfl rfl
    |some i=>
     refine af h (fG i) λo p r d z e=>?_;obtain⟨rfl,j⟩:=e
     cases d with
     |int k=>exact absurd j (w i e1 k)
     |_=>exact fin o r (Ren.le_trans g p) size l c _ _ rfl rfl
   |dK D q=>
    simp only;refine af m (bN m elem) λf g h size I e=>?_;subst e
    cases e1:ts[1]? with
    |none=>exact fin f h g size 0 0 _ _ rfl rfl
    |some i=>
     refine af h (fG i) λo p r d z e=>?_;obtain⟨rfl,j⟩:=e
     cases d with
     |int k=>exact absurd j (w i e1 k)
     |_=>exact fin o r (Ren.le_trans g p) size 0 0 _ _ rfl rfl
   |_=>exact ak
  |_=>exact ak
end
end Go.bJ
namespace Go.bJ
section
variable {T:ag}{fB fA:Array Func}{F:aa->Bool}{K:Code->Bool}{ρ σ:Ren}
def xg{z:Array Value}(h:VA F ρ z z)(n:Nat):VA F ρ ((dq n).map (z[· % z.size]!)) ((dq n).map (z[· % z.size]!)):=by
 show cU _ _ _ _;rw[dp];refine cU.map _ λi _=>?_;rw[getElem!_def]
 rcases VA.get? h (i % z.size) with⟨a,_⟩|⟨v,v',a,b,hv⟩
 ·rw[a];exact .bool _
 grind
def zB{Z:ab->Bool}(o:dM T F Z)(b:ρ.bw T.globals.size){t:ab}(p:∀e,tY T t=some (.slice e)->Z e=true)(len:Nat){ps f:Array (Nat×Value)}(h:kX F ρ ps.toList f.toList):av T fB fA F K (RV F) ρ (fW t len ps) (fW t len f):=by
 unfold fW;refine af b (fG t) λσ a b d w e=>?_;obtain⟨rfl,q⟩:=e;have h:=h.mono a
 cases d with
 |slice elem=>
  have k:=p elem q;refine af b (bN b elem) λm a b size x e=>?_;subst e;have h:=h.mono a;refine aN (λ_=>aM) λ_=>?_;have c:∀(g:Ren),m.le g->g.bw T.globals.size->∀zero j:Array Value,(VA F g zero j/\zero=j)->
   av T fB fA F K (RV F) g (match eS (λi=>some (i*size,size)) ((dq (len*size)).map (zero[· % zero.size]!)) ps.toList with
    |some cells=>do pure (h0 (some (<-ba elem cells)) len len)
    |_=>stuck "buildSlice: a part of the wrong size" : Sem Value)
    (match eS (λi=>some (i*size,size)) ((dq (len*size)).map (j[· % j.size]!)) f.toList with
    |some cells=>do pure (h0 (some (<-ba elem cells)) len len)
    |_=>stuck "buildSlice: a part of the wrong size" : Sem Value):=by
   rintro g a b zero j⟨hv,rfl⟩
   rcases wO (λi=>some (i*size,size)) (h.mono a) (xg hv (len*size)) with⟨l,n⟩|⟨r,y,l,n,s⟩
   ·rw[l];exact ak
   ·rw[l,n];exact af b (tS b elem s) λ_ _ _ _ _ u=>ah (.slice _ _ u)
  refine aN (λ_=>?_) λ_=>?_
  ·exact c m (Ren.le_refl _) b #[] #[] ⟨VA.nil,rfl⟩
  ·refine af b (gO o b k) λg a b z A v=>?_;obtain⟨hv,rfl⟩:=v;exact c g a b _ _ ⟨hv.cells,rfl⟩
 |_=>exact ak
def X7(b:ρ.bw T.globals.size)(ts:Array ab)(t:ab){f h:Array Value}(m:VA F ρ f h):av T fB fA F K (RV F) ρ (hh ts t f) (hh ts t h):=by
 unfold hh
 rcases VA.get? m 0 with⟨g,i⟩|⟨x,w,g,i,c⟩
 ·rw[g];cases ts[0]?<;>exact ak
 rw[g,i]
 cases ts[0]? with
 |none=>exact ak
 |some s=>
  simp only;refine af b (fG s) λσ a b d p e=>?_;obtain⟨rfl,q⟩:=e;have c:=c.mono a
  cases d with
  |array n e=>exact ah (.int _ _)
  |string=>cases c<;>first|exact ah (.int _ _)|exact ak
  |slice e=>cases c<;>first|exact ah (.int _ _)|exact ak
  |pointer e=>
   refine af b (fG e) λj a b d p e=>?_;obtain⟨rfl,q⟩:=e;cases d<;>first|exact ah (.int _ _)|exact ak
  |map k e=>
   cases c with
   |qQ=>exact ah (.int _ _)
   |map r=>
    refine af b (dA r) λj a b o y u=>?_
    cases u with
    |@map es l clock v=>exact ah (by
     have:es.size=l.size:=by simpa using bD.length v
     show VR F j (goInt es.size) (goInt l.size);rw[this]
     exact .int _ _)
    |_=>exact ak
   |_=>exact ak
  |chan _ _=>cases c<;>exact ak
  |_=>exact ak
def Ac{f:Value->Value->Sem Value}(hf:∀{ρ:Ren}{x a y y':Value},ρ.bw T.globals.size->VR F ρ x a->VR F ρ y y'->av T fB fA F K (RV F) ρ (f x y) (f a y')) :
 ∀{l l':List Value}{ρ:Ren}{x a:Value},ρ.bw T.globals.size->cU F ρ l l'->VR F ρ x a->av T fB fA F K (RV F) ρ (l.foldlM f x) (l'.foldlM f a):=by
 intro l
 induction l with
 |nil=>intro l' ρ x a b h c;cases h;exact ah c
 |cons y l e=>
  intro l' ρ x a b h c
  cases h with
  |cons hy t=>exact af b (hf b c hy) λσ d g z j i=>e g (t.mono d) i
def TC(a:ρ.bw T.globals.size){x c y y':Value}(d:VR F ρ x c)(hy:VR F ρ y y'):av T fB fA F K (RV F) ρ (hj x y) (hj c y'):=by
 cases d<;>cases hy<;>first
  |exact ah (.int _ _)
  |exact ak
  |exact aA
  |skip
 refine af a (oe .geq _ _) λσ f a v v' hv=>?_;exact af a (tU hv) λ_ _ _ b b' e=>ah (by subst e;exact .string _)
def TD(a:ρ.bw T.globals.size){x c y y':Value}(d:VR F ρ x c)(hy:VR F ρ y y'):av T fB fA F K (RV F) ρ (hk x y) (hk c y'):=by
 cases d<;>cases hy<;>first
  |exact ah (.int _ _)
  |exact ak
  |exact aA
  |skip
 refine af a (oe .leq _ _) λσ f a v v' hv=>?_;exact af a (tU hv) λ_ _ _ b b' e=>ah (by subst e;exact .string _)
def X8(d:ρ.bw T.globals.size)(ts:Array ab)(t:ab){a c:Array Value}(b:VA F ρ a c):av T fB fA F K (RV F) ρ (ho ts t a) (ho ts t c):=by
 unfold ho;have b:cU F ρ a.toList c.toList:=b;generalize a.toList=l at b ⊢;generalize c.toList=f at b ⊢
 cases b with
 |nil=>exact ak
 |cons h t=>exact Ac (λd e hy=>TC d e hy) d t h
def X9(d:ρ.bw T.globals.size)(ts:Array ab)(t:ab){a c:Array Value}(b:VA F ρ a c):av T fB fA F K (RV F) ρ (hr ts t a) (hr ts t c):=by
 unfold hr;have b:cU F ρ a.toList c.toList:=b;generalize a.toList=l at b ⊢;generalize c.toList=f at b ⊢
 cases b with
 |nil=>exact ak
 |cons h t=>exact Ac (λd e hy=>TD d e hy) d t h
inductive gT(F:aa->Bool)(K:Code->Bool)(ρ:Ren):Next->Next->Prop
 |value {v v':Value} (h:VR F ρ v v'):gT F K ρ (.value v) (.value v')
 |skip:gT F K ρ .skip .skip
 |enter (f:aa) (hf:F f=true) {a a':Array Value} (h:VA F ρ a a'):gT F K ρ (.enter f a) (.enter f a')
 |round {l l':Nat} (hl:ρ l l') (f:aa) (hf:F f=true) {a a':Array Value} (h:VA F ρ a a') (assign body:Code) (ha:K assign=true) (hb:K body=true):gT F K ρ (.round l f a assign body) (.round l' f a' assign body)
def si(fB fA:Array Func)(F:aa->Bool):Prop:=
 (∀l,fB[cn+l]?=none)/\∀f,F f=true->(∃b,fB[f]?=some b/\b.body.isSome=true/\b.name≠ "runtime.NumGoroutine")/\∃a,fA[f]?=some a/\a.body.isSome=true/\a.name≠ "runtime.NumGoroutine"
def uf{T:ag}{fs:Array Func}{f:aa}{b:Func}(h:fs[f]?=some b)(hb:b.body.isSome=true)(a:b.name≠ "runtime.NumGoroutine")(args:Array Value):∃k,b4 f args=program.bind k/\k ⟨T,fs⟩=pure (.enter f args):=by
 refine⟨_,rfl,?_⟩
 show(match fs[f]? with
  |none=>stuck "call: no such function"
  |some fn=>_)=_
 rw[h];have c:(b.name == "runtime.NumGoroutine")=false:=by simpa using a
 have d:b.body.isNone=false:=by simp_all
 grind
def C8(hF:si fB fA F){f:aa}(hf:F f=true){a a':Array Value}(h:VA F ρ a a'):av T fB fA F K (gT F K) ρ (b4 f a) (b4 f a'):=by
 obtain⟨⟨b,hb,l,d⟩,c,hc,g,e⟩:=hF.2 f hf;unfold b4;refine bI ?_;show(av T fB fA F K) (gT F K) ρ (match fB[f]? with|none=>stuck "call: no such function" | some fn=>_) (match fA[f]? with|none=>stuck "call: no such function" | some fn=>_);rw[hb,hc];have i:(b.name == "runtime.NumGoroutine")=false:=by simpa using d
 have j:b.body.isNone=false:=by simp_all
 have c1:(c.name == "runtime.NumGoroutine")=false:=by simpa using e
 have k:c.body.isNone=false:=by simp_all
 simp only[i,j,c1,k,f9,if_false];exact ah (.enter f hf h)
def jV(a:ρ.bw T.globals.size){l l':Nat}(h:ρ l l'):av T fB fA F K (CN F K) ρ (fY l) (fY l'):=by
 refine af a (dA h) λσ _ _ o c b=>?_
 cases b with
 |loop h=>exact ah h
 |_=>exact ak
def Ov(params:Array Tmp){a a' t c:Array Value}(b:VA F ρ a a')(d:VA F ρ t c) :
 VA F ρ ((params.zip a).foldl (λtmps(t,a)=>tmps.setIfInBounds t a) t) ((params.zip a').foldl (λtmps(t,a)=>tmps.setIfInBounds t a) c):=by
 rw[<-dt,<-dt,du,du];have b:cU F ρ a.toList a'.toList:=b;generalize a.toList=l at b;generalize a'.toList=e at b;generalize params.toList=ps
 induction ps generalizing l e t c with
 |nil=>exact d
 |cons p ps f=>
  cases b with
  |nil=>exact d
  |cons h g=>exact f (VA.set d p h) _ _ g
def Ow(e:ρ.bw T.globals.size){l l':Nat}(h:ρ l l'){a a':Array Value}(d:VA F ρ a a'):av T fB fA F K (gT F K) ρ (fZ l a) (fZ l' a'):=by
 refine af e (jV e h) λσ c e r f b=>?_;have d:=VA.mono c d;rw[VA.size d,b.params];refine aN (λ_=>bz) λ_=>?_;rw[b.fn,b.assign,b.body];exact ah (.round (c h) _ (b.fn▸b.mI) (Ov _ d b.tmps) _ _ (b.assign▸b.CP) (b.body▸b.N6))
def bK{s s':Sem Value}(a:ρ.bw T.globals.size)(h:av T fB fA F K (RV F) ρ s s'):av T fB fA F K (gT F K) ρ (do pure (.value (<-s)):Sem Next) (do pure (.value (<-s')):Sem Next):=
 af a h λ_ _ _ _ _ hv=>ah (.value hv)
def vX{s s':Sem Unit}(a:ρ.bw T.globals.size)(h:av T fB fA F K fF ρ s s'):av T fB fA F K (gT F K) ρ (do s;pure .skip:Sem Next) (do s';pure .skip:Sem Next):=
 af a h λ_ _ _ _ _ _=>ah .skip
def C9(hF:si fB fA F)(l:Nat)(a:Array Value)(s':Sem Next):av T fB fA F K (gT F K) ρ (b4 (cn+l) a) s':=by
 refine hQ ?_;show bW T fB (match fB[cn+l]? with|none=>stuck "call: no such function" | some fn=>_);rw[hF.1 l];trivial
def Ad{a:Type}{Z:ab->Bool}(b:dM T F Z)(g:TypeInfo->Sem a)(hg:∀i,i.methods.find? (·.name == "")=none->bW T fB (g i)):bW T fB (d8 (aF 0) g):=by
 show bW T fB (d8 (match T.info? 0 with|some i=>pure i|none=>stuck "no such type") g)
 cases hi:T.info? 0 with
 |none=>trivial
 |some i=>exact hg i (b.2 i hi)
def Da{Z:ab->Bool}(a:dM T F Z)(v:Value):bW T fB (b5 (T.types.size+Made.depth) 0 v ""):=by
 show bW T fB (b5 ((T.types.size+99)+1) 0 v "");unfold b5;refine Ad a _ λi hi=>?_;simp only[hi];trivial
def Gj{Z:ab->Bool}(a:dM T F Z)(v:Value):bW T fB (b6 (T.types.size+Made.depth) 0 v ""):=by
 show bW T fB (b6 ((T.types.size+99)+1) 0 v "");unfold b6;refine Ad a _ λi hi=>?_;simp only[hi];trivial
def jE{Z:ab->Bool}(i:dM T F Z)(hF:si fB fA F)(j:ρ.bw T.globals.size){f f':Value}(hf:VR F ρ f f'){a a':Array Value}(k:VA F ρ a a') :
 av T fB fA F K (gT F K) ρ (do let d<-hD f a;b8 d.target d.args) (do let d<-hD f' a';b8 d.target d.args):=by
 cases hf with
 |func h l m=>
  have b:=VA.append l k
  cases h with
  |func g hg=>exact C8 hF hg (VA.append b m)
  |yield hl=>exact Ow j hl b
  |spec hl=>exact C9 hF _ _ _
 |wG n f c=>
  refine bW.rel ?_ _;have e:(#[Value.iface 0 hX]++a)[0]?=some (h4 0 hX):=by grind
  unfold hD;simp only[pure_bind];unfold b8;simp only[e];show bW T fB (d8 (b5 (T.types.size+Made.depth) 0 hX "") _);exact bW.bind (Da i _)
 |nilFunc=>exact nY
 |_=>exact ak
end
def Bh(F:aa->Bool):Value->Bool
 |hR _ | hS .. | hT _ | hW none | h0 none _ _ | h3 none | hY | hX=>true
 |hZ (.func f) a b=>F f&&a.toList.isEmpty&&b.toList.isEmpty
 |_=>false
def pM(F:aa->Bool):Nat->Value->Bool
 |0,v=>Bh F v
 |n+1,v=>match v with
  |hV a=>a.toList.all (pM F n)
  |h5 a=>a.toList.all (pM F n)
  |h4 _ v=>pM F n v
  |v=>Bh F v
def cF(F:aa->Bool):bL->Bool
 |.tmp _=>true
 |.const v=>pM F 6 v
 |.global _=>false
 |.func f=>F f
def Gl(T:ag)(F:aa->Bool)(Z:ab->Bool)(c:Call):Bool:=
 c.args.toList.all (cF F)&&match c.callee with
  |.value f=>cF F f
  |.invoke ..=>false
  |.builtin .append=>
   (match c.argTypes[0]? with|none=>true|some s=>match tY T s with|some (.slice e)=>Z e|_=>true) &&
   (match c.argTypes[1]? with|none=>true|some s=>match tY T s with|some (.int _)=>false|_=>true)
  |.builtin .len | .builtin .max | .builtin .min=>true
  |.builtin _=>false
def Db(T:ag)(Z:ab->Bool)(t:ab):Bool:=match tY T t with|some (.map k e)=>og T 8 k&&Z e|_=>true
def Ya:aa:=22
def jh(T:ag)(F:aa->Bool)(Z:ab->Bool):Op->Bool
 |.move x | .assign x | .box _ x | .load _ x | .nilCheck x | .unOp _ _ x | .fieldAddr _ x _ | .field _ x _ | .range _ x | .next x _ | .entry x | .extract x _=>cF F x
 |.pick a b c=>cF F a&&cF F b&&cF F c
 |.alloc t=>Z t
 |.build t ps=>Z t&&ps.toList.all λp=>cF F p.2
 |.buildSlice t _ ps=>(match tY T t with|some (.slice e)=>Z e|_=>true)&&ps.toList.all λp=>cF F p.2
 |.store _ a b | .indexAddr _ a b | .index _ a b=>cF F a&&cF F b
 |.binOp op t a b _=>(cF F a&&cF F b)&&(!(op matches .eql | .neq) || !em ⟨T,#[]⟩ (eE ⟨T,#[]⟩) t)
 |.convert s d x=>tZ T s&&tZ T d&&cF F x
 |.makeFunc (.func f) xs ys=>F f&&xs.toList.all (cF F)&&ys.toList.all (cF F)
 |.makeMap _ none=>true
 |.slice _ x l h m=>cF F x&&l.all (cF F)&&h.all (cF F)&&m.all (cF F)
 |.lookup t a b _=>Db T Z t&&cF F a&&cF F b
 |gL t a b c | g0 t a b c=>F Ya&&(Db T Z t&&cF F a&&cF F b&&cF F c)
 |.call c=>Gl T F Z c
 |_=>false
section
variable {T:ag}{fB fA:Array Func}{F:aa->Bool}{K:Code->Bool}{ρ σ:Ren}
def cU.self{l:List Value}(h:∀v∈l,VR F ρ v v):cU F ρ l l:=by
 induction l with
 |nil=>exact .nil
 |cons v l a=>exact .cons (h v (by simp)) (a λu b=>h u (by simp[b]))
def xh{v:Value}(h:Bh F v=true):VR F ρ v v:=by
 cases v with
 |bool b=>exact .bool b
 |int k n=>exact .int k n
 |string s=>exact .string s
 |pointer a=>cases a with
  |none=>exact .dS
  |some _=>cases h
 |slice a _ _=>cases a with
  |none=>exact .di _ _
  |some _=>cases h
 |map a=>cases a with
  |none=>exact .qQ
  |some _=>cases h
 |nilFunc=>exact .nilFunc
 |nilIface=>exact .nilIface
 |func fn a b=>
  cases fn with
  |func f=>
   simp only[Bh,f7,List.isEmpty_iff]at h;exact .func (.func f h.1.1) (by rw[h.1.2];exact .nil) (by rw[h.2];exact .nil)
  |_=>cases h
 |_=>cases h
def uY(n:Nat):∀{v:Value},pM F n v=true->VR F ρ v v:=by
 induction n with
 |zero=>intro v h;exact xh h
 |succ n b=>
  intro v h
  cases v with
  |agg a=>exact .agg (cU.self λv hv=>b (List.all_eq_true.1 h v hv))
  |tuple a=>exact .tuple (cU.self λv hv=>b (List.all_eq_true.1 h v hv))
  |iface t v=>exact .iface t (b h)
  |_=>exact xh h
def lN(F:aa->Bool)(ρ:Ren)(e e':bL->Value):Prop:=∀x,cF F x=true->VR F ρ (e x) (e' x)
def dD{fr fr':Frame}(h:VA F ρ fr.tmps fr'.tmps):lN F ρ fr.eval fr'.eval:=by
 intro x a
 cases x with
 |tmp t=>exact VA.getD h t VR.undef
 |const v=>exact uY 6 a
 |global g=>cases a
 |func f=>exact .func (.func f a) .nil .nil
def lN.list{e e':bL->Value}(h:lN F ρ e e'){l:List bL}(hl:l.all (cF F)=true):cU F ρ (l.map e) (l.map e'):=
 cU.map l λx a=>h x (List.all_eq_true.1 hl x a)
def lN.arr{e e':bL->Value}(h:lN F ρ e e'){l:Array bL}(hl:l.toList.all (cF F)=true):VA F ρ (l.map e) (l.map e'):=by
 show cU _ _ _ _;rw[dp,dp];exact h.list hl
def lN.opt{e e':bL->Value}(h:lN F ρ e e'){o:Option bL}(a:o.all (cF F)=true):lJ F ρ (o.map e) (o.map e'):=by
 cases o with
 |none=>exact .none
 |some x=>exact .some (h x (by simpa using a))
def lN.parts{e e':bL->Value}(h:lN F ρ e e'){l:Array (Nat×bL)}(hl:(l.toList.all λp=>cF F p.2)=true):kX F ρ (l.map fun(i,x)=>(i,e x)).toList (l.map fun(i,x)=>(i,e' x)).toList:=by
 rw[dp,dp];generalize l.toList=m at hl
 induction m with
 |nil=>exact .nil
 |cons p m a=>
  simp only[c4,f7]at hl;exact .cons p.1 (h _ hl.1) (a hl.2)
def TE{Z:ab->Bool}(h:dM T F Z)(hF:si fB fA F)(a:ρ.bw T.globals.size){e e':bL->Value}(i:lN F ρ e e')(c:Call)(t:ab)(ok:Gl T F Z c=true) :
 av T fB fA F K (gT F K) ρ (do let d<-resolve e c t;b8 d.target d.args) (do let d<-resolve e' c t;b8 d.target d.args):=by
 obtain⟨callee,args,argTypes⟩:=c;simp only[Gl,f7]at ok;obtain⟨g,ok⟩:=ok;have g:=i.arr g
 cases callee with
 |value f=>exact jE h hF a (i f ok) g
 |invoke _ _=>cases ok
 |builtin b=>
  cases b with
  |append=>
   simp only[f7]at ok;refine bK a (LH h a t (λs hs l j=>?_) (λs hs k m=>?_) g)
   ·grind
   grind
  |len=>exact bK a (X7 a argTypes t g)
  |max=>exact bK a (X8 a argTypes t g)
  |min=>exact bK a (X9 a argTypes t g)
  |_=>cases ok
def Dc:Op->Bool
 |gL .. | g0 ..=>true
 |_=>false
def ug{Z:ab->Bool}(q:dM T F Z)(hF:si fB fA F)(g:ρ.bw T.globals.size){e e':bL->Value}(j:lN F ρ e e')(o:Oper)(ok:jh T F Z o.op=true)(w:Dc o.op=false) :
 av T fB fA F K (gT F K) ρ (b9 e o) (b9 e' o):=by
 obtain⟨dst,op,type,pos,after,guard⟩:=o;simp only at ok w;unfold b9
 cases op with
 |move x=>exact ah (.value (j x ok))
 |assign x=>exact ah (.value (j x ok))
 |pick c a b=>
  simp only[jh,f7]at ok;refine af g (tU (j c ok.1.1)) λσ u g b b' e=>ah (.value ?_);subst e;cases b
  ·exact(j _ ok.2).mono u
  ·exact(j _ ok.1.2).mono u
 |alloc t=>exact bK g (Oc q g ok)
 |box t x=>exact bK g (XY g t (j x ok))
 |build t ps=>
  simp only[jh,f7]at ok;exact bK g (Oe q g ok.1 (j.parts ok.2))
 |buildSlice t n ps=>
  simp only[jh,f7]at ok;exact bK g (zB q g (λC D=>by grind) n (j.parts ok.2))
 |load t a=>exact bK g (Lx g t (j a ok))
 |store t a x=>
  simp only[jh,f7]at ok;exact vX g (FR g t (j a ok.1) (j x ok.2))
 |nilCheck x=>
  have A:=j x ok;simp only;generalize e x=v at A;generalize e' x=v' at A
  cases A with
  |func hf E B=>cases hf<;>exact ah (.value (.func (by constructor<;>assumption) E B))
  |wG n f c=>
   refine bW.rel ?_ _;show bW T fB (d8 (b6 (T.types.size+Made.depth) 0 hX "") _);exact bW.bind (Gj q _)
  |hole v' h=>
   cases v' with
   |pointer p=>cases p with
    |none=>cases h
    |some _=>exact ah (.value (.hole _ h))
   |func fn _ _=>cases fn with
    |method _=>cases h
    |_=>exact ah (.value (.hole _ h))
   |agg _=>cases h
   |nilIface=>cases h
   |nilFunc=>cases h
   |_=>exact ah (.value (.hole _ h))
  |_=>first|exact nY|exact ah (.value (by first|exact .wG _ _ _|exact .dK _ _|(constructor<;>assumption)))
 |binOp op t x y I=>
  simp only[jh,f7]at ok;refine bK g (F6 g op t x y (j x ok.1.1) (j y ok.1.2) λh=>?_);have B:=ok.2;have H:em ⟨T,#[]⟩ (eE ⟨T,#[]⟩) t=false:=by
   grind
  rw[kJ T fB #[]];exact H
 |unOp op t x=>exact bK g (On (j x ok))
 |convert s d x=>
  simp only[jh,f7]at ok;exact bK g (F8 g ok.1.1 ok.1.2 (j x ok.2))
 |makeFunc fn xs ys=>
  cases fn with
  |func f=>
   simp only[jh,f7]at ok;exact bK g (ah (.func (.func f ok.1.1) (j.arr ok.1.2) (j.arr ok.2)))
  |_=>cases ok
 |makeMap t r=>
  cases r with
  |none=>exact bK g (Ga g t)
  |some _=>cases ok
 |slice t x l h m=>
  simp only[jh,f7]at ok;exact bK g (FZ g t (j x ok.1.1.1) (j.opt ok.1.1.2) (j.opt ok.1.2) (j.opt ok.2))
 |fieldAddr t x i=>exact bK g (FV g t (j x ok) i)
 |field t x i=>exact bK g (Of g t (j x ok) i)
 |indexAddr t x y=>
  simp only[jh,f7]at ok;exact bK g (FW g t (j x ok.1) (j y ok.2))
 |index t x y=>
  simp only[jh,f7]at ok;exact bK g (Og g t (j x ok.1) (j y ok.2))
 |lookup t x y b=>
  simp only[jh,f7]at ok;refine bK g (LD (m:=8) q g t (λk C h=>?_) (j x ok.1.2) (j y ok.2) b);have:=ok.1.1;simpa[Db,h]using this
 |mapUpdate t x y z=>cases w
 |insert t x y z=>cases w
 |range t x=>exact bK g (Oq g t (j x ok))
 |next x b=>exact bK g (Tz g (j x ok) b type)
 |entry x=>exact bK g (Ot g (j x ok))
 |extract x i=>exact bK g (FX (j x ok) i)
 |call c=>exact TE q hF g j c type ok
 |_=>cases ok
def xj(e:bL->Value)(o:Oper)(h:Dc o.op=true):∃t x y z,(o.op=gL t x y z\/o.op=g0 t x y z)/\b9 e o=d8 (fp t (e x) (e y) (e z)) λ_=>ek .skip:=by
 obtain⟨dst,op,type,pos,after,guard⟩:=o;simp only at h
 cases op with
 |mapUpdate t x y z=>exact⟨_,_,_,_,hP rfl,rfl⟩
 |insert t x y z=>exact⟨_,_,_,_,hQ rfl,rfl⟩
 |_=>cases h
def Dd{Z:ab->Bool}{o:Op}{t:ab}{x y z:bL}(h:o=gL t x y z\/o=g0 t x y z)(ok:jh T F Z o=true) :
 (∀k e,tY T t=some (.map k e)->og T 8 k=true)/\cF F x=true/\cF F y=true/\cF F z=true:=by
 have a:(Db T Z t&&cF F x&&cF F y&&cF F z)=true:=by rcases h with rfl|rfl<;>exact(Bool.and_eq_true_iff.1 ok).2
 simp only[f7]at a;refine⟨λk b h=>?_,a.1.1.2,a.1.2,a.2⟩;have:=a.1.1.1;simp[Db,h]at this;exact this.1
def acm{Z:ab->Bool}{o:Op}(a:F Ya=false)(ok:jh T F Z o=true):Dc o=false:=by
 cases o with
 |mapUpdate t x y z=>simp[jh,a]at ok
 |insert t x y z=>simp[jh,a]at ok
 |_=>rfl
def De{Z:ab->Bool}(q:dM T F Z)(hF:si fB fA F)(f:ρ.bw T.globals.size){w w':World}(n:WR T.globals.size F K ρ w w')(p:w.tape=w'.tape)(hd:w.drawn=w'.drawn){e e':bL->Value}(b:lN F ρ e e')(o:Oper)(ok:jh T F Z o.op=true)(c:Array Event) :
 qp T.globals.size F K (gT F K) ρ w w' c ((b9 e' o).runT ⟨T,fA⟩ w' c) ((b9 e o).run ⟨T,fB⟩ w):=by
 by_cases g:Dc o.op=true
 ·obtain⟨t,x,y,z,r,s⟩:=xj e o g;obtain⟨u,A,y',B,E,C⟩:=xj e' o g;obtain⟨rfl,rfl,rfl,rfl⟩:t=u/\x=A/\y=y'/\z=B:=by
   grind
  obtain⟨k1,k2,k3,D⟩:=Dd r ok;rw[s,C,eb,ec];have h:=Ty (fB:=fB) (fA:=fA) (K:=K) f n p hd t k1 (b x k2) (b y k3) (b z D) c;generalize(fp t (e x) (e y) (e z)).run ⟨T,fB⟩ w=res at h
  match res,h with
  |h6 a w2,⟨i,H,j,l,m,d,e,k,I⟩=>rw[e];exact⟨i,.skip,j,l,m,d,rfl,k,.skip⟩
  |h7 (im v) w2,⟨i,v',j,l,m,d,e,k,hv⟩=>rw[e];exact⟨i,v',j,l,m,d,rfl,k,hv⟩
  |h7 iq _,h=>exact h
  |h7 ix _,h=>exact h
  |h7 (iB _) _,h=>exact h
  |h7 (iC _) _,h=>exact h
  |h7 (iM _) _,h=>exact h
  |h7 iN _,h=>exact h
  |h7 (ip _) _,h=>exact h
  |h7 (io _) _,_=>trivial
 ·exact(av.run c (ug q hF f b o ok (by simpa using g)) f n p hd).zu
end
def codeOk(T:ag)(F:aa->Bool)(Z:ab->Bool):Code->Bool
 |.skip | .exit _ | .label _ | .goto _ | .ret=>true
 |.region _ ops _=>ops.toList.all λo=>jh T F Z o.op
 |.seq a b=>codeOk T F Z a&&codeOk T F Z b
 |.cond c a b=>cF F c&&codeOk T F Z a&&codeOk T F Z b
 |.block _ b | .loop b | .scope b=>codeOk T F Z b
 |.rangeFunc f _ a b=>cF F f&&codeOk T F Z a&&codeOk T F Z b
 |.refuse _=>false
structure Bi(T:ag)(fB fA:Array Func)(F:aa->Bool)(Z:ab->Bool)(f:aa):Prop where
 ex:∃fn c,fB[f]?=some fn/\fA[f]?=some fn/\fn.body=some c/\codeOk T F Z c=true
section
variable (T:ag)(F:aa->Bool)(Z:ab->Bool)
inductive nF(ρ:Ren):Item->Item->Prop
 |code (c:Code) (h:codeOk T F Z c=true):nF ρ (.code c) (.code c)
 |inBlock (id:Nat):nF ρ (.inBlock id) (.inBlock id)
 |inLoop (c:Code) (h:codeOk T F Z c=true):nF ρ (.inLoop c) (.inLoop c)
 |inScope (c:Code) (h:codeOk T F Z c=true):nF ρ (.inScope c) (.inScope c)
 |inRegion (ops:Array Oper) (todo:List Nat) (h:(ops.toList.all λo=>jh T F Z o.op)=true):nF ρ (.inRegion ops todo) (.inRegion ops todo)
 |inRangeFunc {l l':Nat} (h:ρ l l'):nF ρ (.inRangeFunc l) (.inRangeFunc l')
 |endRangeFunc {l l':Nat} (h:ρ l l'):nF ρ (.endRangeFunc l) (.endRangeFunc l')
 |beginRound:nF ρ .beginRound .beginRound
inductive cN(ρ:Ren):List Item->List Item->Prop
 |nil:cN ρ [] []
 |cons {i i':Item} {l l':List Item} (h:nF T F Z ρ i i') (t:cN ρ l l'):cN ρ (i::l) (i'::l')
inductive fS(ρ:Ren):List ca->List ca->Prop
 |nil:fS ρ [] []
 |cons {r r':Nat} {l l':List ca} (h:ρ r r') (t:fS ρ l l'):fS ρ ({ target:=.collected r,args:=#[] }::l) ({ target:=.collected r',args:=#[] }::l')
inductive ji(ρ:Ren):List cb->List cb->Prop
 |nil:ji ρ [] []
 |cons {v v':Value} {l l':List cb} (h:VR F ρ v v') (t:ji ρ l l'):ji ρ ({ v,recovered:=false }::l) ({ v:=v',recovered:=false }::l')
inductive qE(ρ:Ren):cc->cc->Prop
 |run:qE ρ .run .run
 |returning:qE ρ iU iU
 |panicking {c c':List cb} (h:ji F ρ c c'):qE ρ (iY c) (iY c')
inductive om(ρ:Ren):Option Nat->Option Nat->Prop
 |none:om ρ none none
 |some {l l':Nat} (h:ρ l l'):om ρ (some l) (some l')
structure aQ(fB fA:Array Func)(ρ:Ren)(fr fr':Frame):Prop where
 fn:fr'.fn=fr.fn
 same:fr.roundOf=none->Bi T fB fA F Z fr.fn
 mI:F fr.fn=true
 tmps:VA F ρ fr.tmps fr'.tmps
 todo:cN T F Z ρ fr.todo fr'.todo
 defers:fS ρ fr.defers fr'.defers
 mode:qE F ρ fr.mode fr'.mode
 kind:fr.kind=i0
 bX:fr'.kind=i0
 roundOf:om ρ fr.roundOf fr'.roundOf
 ret:fr.mode=iU->fr.roundOf=none
inductive cj(fB fA:Array Func)(ρ:Ren):List Frame->List Frame->Prop
 |nil:cj fB fA ρ [] []
 |cons {f f':Frame} {l l':List Frame} (h:aQ T F Z fB fA ρ f f') (t:cj fB fA ρ l l'):cj fB fA ρ (f::l) (f'::l')
end
section
variable {T:ag}{fB fA:Array Func}{F:aa->Bool}{Z:ab->Bool}{ρ σ:Ren}
def nF.mono(h:ρ.le σ){i i':Item}(x:nF T F Z ρ i i'):nF T F Z σ i i':=by
 cases x with
 |code c a=>exact .code c a
 |inBlock id=>exact .inBlock id
 |inLoop c a=>exact .inLoop c a
 |inScope c a=>exact .inScope c a
 |inRegion ops todo a=>exact .inRegion ops todo a
 |inRangeFunc a=>exact .inRangeFunc (h a)
 |endRangeFunc a=>exact .endRangeFunc (h a)
 |beginRound=>exact .beginRound
def cN.mono(h:ρ.le σ){l l':List Item}(x:cN T F Z ρ l l'):cN T F Z σ l l':=by
 induction x with
 |nil=>exact .nil
 |cons a _ b=>exact .cons (a.mono h) b
theorem cN.append{l l' m m':List Item}(x:cN T F Z ρ l l')(y:cN T F Z ρ m m'):cN T F Z ρ (l++m) (l'++m'):=by
 induction x with
 |nil=>exact y
 |cons a _ b=>exact .cons a b
def fS.mono(h:ρ.le σ){l l':List ca}(x:fS ρ l l'):fS σ l l':=by
 induction x with
 |nil=>exact .nil
 |cons a _ b=>exact .cons (h a) b
theorem fS.append{l l' m m':List ca}(x:fS ρ l l')(y:fS ρ m m'):fS ρ (l++m) (l'++m'):=by
 induction x with
 |nil=>exact y
 |cons a _ b=>exact .cons a b
def ji.mono(h:ρ.le σ){l l':List cb}(x:ji F ρ l l'):ji F σ l l':=by
 induction x with
 |nil=>exact .nil
 |cons a _ b=>exact .cons (a.mono h) b
theorem ji.append{l l' m m':List cb}(x:ji F ρ l l')(y:ji F ρ m m'):ji F ρ (l++m) (l'++m'):=by
 induction x with
 |nil=>exact y
 |cons a _ b=>exact .cons a b
def qE.mono(h:ρ.le σ){m m':cc}(x:qE F ρ m m'):qE F σ m m':=by
 cases x with
 |run=>exact .run
 |returning=>exact .returning
 |panicking a=>exact .panicking (a.mono h)
def om.mono(h:ρ.le σ){m m':Option Nat}(x:om ρ m m'):om σ m m':=by
 cases x with
 |none=>exact .none
 |some a=>exact .some (h a)
def aQ.mono(h:ρ.le σ){f f':Frame}(x:aQ T F Z fB fA ρ f f'):aQ T F Z fB fA σ f f':=
 ⟨x.fn,x.same,x.mI,cU.mono h x.tmps,x.todo.mono h,x.defers.mono h,x.mode.mono h,x.kind,x.bX,x.roundOf.mono h,x.ret⟩
def cj.mono(h:ρ.le σ){l l':List Frame}(x:cj T F Z fB fA ρ l l'):cj T F Z fB fA σ l l':=by
 induction x with
 |nil=>exact .nil
 |cons a _ b=>exact .cons (a.mono h) b
def aQ.oper?{f f':Frame}(x:aQ T F Z fB fA ρ f f'):f'.oper? = f.oper?:=by
 unfold hE;have a:=x.todo;generalize f.todo=l at a;generalize f'.todo=b at a
 cases a with
 |nil=>rfl
 |cons h t=>
  cases h with
  |inRegion ops todo _=>cases todo<;>rfl
  |_=>rfl
def aQ.finish{f f':Frame}(x:aQ T F Z fB fA ρ f f'){v v':Value}(hv:VR F ρ v v'):aQ T F Z fB fA ρ (f.finish v) (f'.finish v'):=by
 obtain⟨fn,tmps,todo,defers,mode,kind,w⟩:=f;obtain⟨y,n,z,A,B,bX,C⟩:=f';obtain⟨o,b,e,a,p,g,j,q,r,k,l⟩:=x;simp only at o b e a p g j q r k l;subst o q r
 cases p with
 |nil=>exact⟨rfl,b,e,a,.nil,g,j,rfl,rfl,k,l⟩
 |cons h t=>
  cases h with
  |inRegion ops u s=>
   cases u with
   |nil=>exact⟨rfl,b,e,a,.cons (.inRegion ops [] s) t,g,j,rfl,rfl,k,l⟩
   |cons i m=>
    refine⟨rfl,b,e,?_,.cons (.inRegion ops m s) t,g,j,rfl,rfl,k,l⟩;show VA F ρ (match(ops[i]?).bind (·.dst) with|some d=>tmps.setIfInBounds d v|none=>tmps) (match(ops[i]?).bind (·.dst) with|some d=>n.setIfInBounds d v'|none=>n)
    cases(ops[i]?).bind (·.dst) with
    |none=>exact a
    |some d=>exact VA.set a d hv
  |inRangeFunc hl=>exact⟨rfl,b,e,a,.cons (.endRangeFunc hl) t,g,j,rfl,rfl,k,l⟩
  |beginRound=>exact⟨rfl,b,e,a,t,g,j,rfl,rfl,k,l⟩
  |code c hc=>exact⟨rfl,b,e,a,.cons (.code c hc) t,g,j,rfl,rfl,k,l⟩
  |inBlock id=>exact⟨rfl,b,e,a,.cons (.inBlock id) t,g,j,rfl,rfl,k,l⟩
  |inLoop c hc=>exact⟨rfl,b,e,a,.cons (.inLoop c hc) t,g,j,rfl,rfl,k,l⟩
  |inScope c hc=>exact⟨rfl,b,e,a,.cons (.inScope c hc) t,g,j,rfl,rfl,k,l⟩
  |endRangeFunc hl=>exact⟨rfl,b,e,a,.cons (.endRangeFunc hl) t,g,j,rfl,rfl,k,l⟩
def aQ.raise{f f':Frame}(x:aQ T F Z fB fA ρ f f'){c c':List cb}(hc:ji F ρ c c'):aQ T F Z fB fA ρ (f.raise c) (f'.raise c'):=by
 obtain⟨fn,tmps,todo,defers,mode,kind,p⟩:=f;obtain⟨q,r,s,t,u,bX,v⟩:=f';obtain⟨a,b,d,g,i,j,n,k,l,m,o⟩:=x;simp only at a b d g i j n k l m o
 cases n with
 |run=>exact⟨a,b,d,g,i,j,.panicking hc,k,l,m,λe=>by cases e⟩
 |returning=>exact⟨a,b,d,g,i,j,.panicking hc,k,l,m,λe=>by cases e⟩
 |panicking h=>exact⟨a,b,d,g,i,j,.panicking (hc.append h),k,l,m,λe=>by cases e⟩
def aQ.lO{f f':Frame}(x:aQ T F Z fB fA ρ f f'){t a:List Item}(h:cN T F Z ρ t a):aQ T F Z fB fA ρ { f with todo:=t } { f' with todo:=a }:=
 ⟨x.fn,x.same,x.mI,x.tmps,h,x.defers,x.mode,x.kind,x.bX,x.roundOf,x.ret⟩
def xo(id:Nat){l l':List Item}(h:cN T F Z ρ l l'):(cd id l=none/\cd id l'=none)\/∃k k',cd id l=some k/\cd id l'=some k'/\cN T F Z ρ k k':=by
 induction h with
 |nil=>exact hP ⟨rfl,rfl⟩
 |cons h t a=>
  cases h with
  |inBlock b=>
   simp only[cd]
   grind
  |_=>exact a
def Bj(l:Nat):∀{c r:Code},codeOk T F Z c=true->ce c l=some r->codeOk T F Z r=true:=by
 intro c
 induction c with
 |seq a b d e=>
  intro r hc h;simp only[codeOk,f7]at hc;simp only[ce]at h
  split at h
  ·rename_i f g;cases h;simp only[codeOk,f7];exact⟨d hc.1 g,hc.2⟩
  ·exact e hc.2 h
 |label i=>
  intro r hc h;simp only[ce]at h
  split at h
  ·cases h;rfl
  ·cases h
 |_=>intro r hc h;simp[ce]at h
def xq(id:Nat){l l':List Item}(h:cN T F Z ρ l l'):(cf id l=none/\cf id l'=none)\/∃k k',cf id l=some k/\cf id l'=some k'/\cN T F Z ρ k k':=by
 induction h with
 |nil=>exact hP ⟨rfl,rfl⟩
 |cons h t a=>
  cases h with
  |inScope c hc=>
   simp only[cf]
   split
   ·rename_i b d;exact hQ ⟨_,_,rfl,rfl,.cons (.code _ (Bj id hc d)) (.cons (.inScope c hc) t)⟩
   ·exact a
  |_=>exact a
def oo(ops:Array Oper){t c:Array Value}(h:VA F ρ t c)(j:Nat):cg ops t j=cg ops c j:=by
 unfold cg
 cases(ops[j]?).bind (·.dst) with
 |none=>rfl
 |some d=>
  rcases VA.get? h d with⟨a,b⟩|⟨v,v',a,b,hv⟩
  ·simp[a,b]
  ·simp only[hC,a,b]
   cases hv with
   |hole v' h=>cases v'<;>first|rfl|cases h
   |_=>rfl
def fe{f:aa}(hs:Bi T fB fA F Z f)(hf:F f=true){a a':Array Value}(h:VA F ρ a a'):aQ T F Z fB fA ρ (hG ⟨T,fB⟩ f a i0) (hG ⟨T,fA⟩ f a' i0):=by
 obtain⟨fn,c,b,d,g,i⟩:=hs.ex;refine⟨rfl,λ_=>hs,hf,?_,?_,.nil,.run,rfl,rfl,.none,λe=>by cases e⟩
 ·show VA F ρ (a++c9 ((fB[f]?.map (·.ntmps)).getD 0-a.size) undef) (a'++c9 ((fA[f]?.map (·.ntmps)).getD 0-a'.size) undef);rw[b,d,VA.size h];exact VA.append h (VA.replicate .undef _)
 ·show cN T F Z ρ [.code ((fB[f]?.bind (·.body)).getD _)] [.code ((fA[f]?.bind (·.body)).getD _)];rw[b,d];simp only[hC,g,Option.getD_some];exact .cons (.code _ i) .nil
end
section
variable (T:ag)(fB fA:Array Func)(F X:aa->Bool)(Z:ab->Bool)(bot:Frame)
inductive Gm(ρ:Ren):Frame->Frame->Prop
 |alike {f f':Frame} (h:aQ T F Z fB fA ρ f f'):Gm ρ f f'
 |enters (x:aa) (hx:X x=true) (hf:F x=true) {a a':Array Value} (h:VA F ρ a a'):Gm ρ (hG ⟨T,fB⟩ x a i0) (hG ⟨T,fA⟩ x a' i0)
def dn(l:List Frame):Prop:=∀f,l.getLast? = some f->f.roundOf=none
structure GR(ρ:Ren)(g g':Goroutine):Prop where
 top:Gm T fB fA F X Z ρ g.frame g'.frame
 callers:∃l,g.callers=l++[bot]/\cj T F Z fB fA ρ l g'.callers/\dn (g.frame::l)/\(l=[]->aQ T F Z fB fA ρ g.frame g'.frame)
 st:g.status=i1
 st':g'.status=i1
 dy:g.dying=none
 Bl:g'.dying=none
 of:g.offers=none
 Bm:g'.offers=none
def ef(ρ:Ren)(w w':World):GStep->GStep->Prop
 |hK f w1 _,g=>∃a b c e h d,g=hK b c e/\cE T.globals.size F (codeOk T F Z) ρ w w' a (w1.re h d) c e/\GR T fB fA F X Z bot a f b
 |hL ..,_=>True
 |_,_=>False
structure Fits:Prop where
 zero:dM T F Z
 fns:si fB fA F
 same:∀f,F f=true->X f=false->Bi T fB fA F Z f
structure Wd(ρ:Ren)(w w':World):Prop where
 inj:ρ.bw T.globals.size
 wr:WR T.globals.size F (codeOk T F Z) ρ w w'
 tape:w.tape=w'.tape
 drawn:w.drawn=w'.drawn
end
section
variable {T:ag}{fB fA:Array Func}{F X:aa->Bool}{Z:ab->Bool}{bot:Frame}{ρ σ:Ren}{w w':World}
def cE.wd{a:Ren}{w1 b:World}{es:Array Event}(h:cE T.globals.size F (codeOk T F Z) ρ w w' a w1 b es):Wd T F Z a w1 b:=⟨h.inj,h.wr,h.tape,h.drawn⟩
def Wd.refl(h:Wd T F Z ρ w w'):cE T.globals.size F (codeOk T F Z) ρ w w' ρ w w' #[]:=cE.refl h.inj h.wr h.tape h.drawn
def cE.less{a:Ren}{w1 b:World}{es c:Array Event}(h:cE T.globals.size F (codeOk T F Z) ρ w w' a w1 b es)(k:∀e∈c,e∈es):cE T.globals.size F (codeOk T F Z) ρ w w' a w1 b c:=
 { h with ev:=λe d=>h.ev e (k e d) }
def dn.push{f:Frame}{l:List Frame}(h:dn (f::l))(g:Frame):dn (g::f::l):=λx a=>h x (by simpa using a)
def dn.top{f g:Frame}{l:List Frame}(h:dn (f::l))(e:g.roundOf=f.roundOf):dn (g::l):=by
 cases l with
 |nil=>intro x b;simp at b;subst b;exact e.trans (h f rfl)
 |cons a l=>exact λx b=>h x (by simpa using b)
def dn.pop{f g:Frame}{l:List Frame}(h:dn (f::g::l)):dn (g::l):=λx a=>h x (by simpa using a)
def bZ(f:Frame)(v:Value):(f.finish v).roundOf=f.roundOf:=by
 unfold Frame.finish
 split<;>rfl
def eC(f:Frame)(c:List cb):(f.raise c).roundOf=f.roundOf:=by
 unfold Frame.raise
 split<;>rfl
def ef.comp{b:Ren}{w1 c:World}{new es a:Array Event}{s s':GStep}(f:cE T.globals.size F (codeOk T F Z) ρ w w' b w1 c new)(h:ef T fB fA F X Z bot b w1 c s s')(g:∀e∈a,e∈new) :
 ef T fB fA F X Z bot ρ w w' (hJ es s) (hJ a s'):=by
 cases s with
 |go p w2 q=>
  obtain⟨i,j,l,m,n,d,e,k,o⟩:=h;subst e;exact⟨i,j,l,a++m,n,d,rfl,(f.less g).trans k,o⟩
 |ended _ _ _=>trivial
 |_=>exact h.elim
def Bo{ops:Array Oper}(h:(ops.toList.all λo=>jh T F Z o.op)=true){i:Nat}{o:Oper}(a:ops[i]?=some o):jh T F Z o.op=true:=by
 grind
def Ae(fit:Fits T fB fA F X Z)(N:Wd T F Z ρ w w'){fr fr':Frame}{cs cs':List Frame}(n:aQ T F Z fB fA ρ fr fr')(hcs:cj T F Z fB fA ρ cs cs')(hb:dn (fr::cs))
 {s s':Sem Next} (p:qp T.globals.size F (codeOk T F Z) (gT F (codeOk T F Z)) ρ w w' #[] (s'.runT ⟨T,fA⟩ w' #[]) (s.run ⟨T,fB⟩ w)) :
 ef T fB fA F X Z bot ρ w w' (hM ⟨T,fB⟩ true fr (cs++[bot]) none s w) (hM ⟨T,fA⟩ true fr' cs' none s' w'):=by
 have z:(s.runT ⟨T,fB⟩ w #[]).1=s.run ⟨T,fB⟩ w:=ed _ _ _ _;have A:(fr'.kind == .early)=false:=by rw[n.bX];rfl
 generalize E:s.runT ⟨T,fB⟩ w #[]=H at z;obtain⟨r,es⟩:=H;simp only at z;rw[<-z]at p;unfold hM;simp only[if_true,E]
 cases r with
 |ok a w1=>
  obtain⟨b,B,C,new,i,d,e1,c,I⟩:=p;rw[e1];simp only[A,f9,if_false];have o:=n.mono c.le;have q:=hcs.mono c.le;have x:∀O:Array Event,cE T.globals.size F (codeOk T F Z) ρ w w' b (w1.re i d) C (seen ⟨T,fA⟩ fr'.fn (#[]++new) ++ #[]):=λ_=>c.less λe J=>by
   grind[hO]
  cases I with
  |value hv=>exact⟨b,_,_,_,i,d,rfl,x #[],.alike (o.finish hv),⟨_,rfl,q,hb.top (bZ _ _),λ_=>o.finish hv⟩,rfl,rfl,rfl,rfl,rfl,rfl⟩
  |skip=>exact⟨b,_,_,_,i,d,rfl,x #[],.alike (o.finish .undef),⟨_,rfl,q,hb.top (bZ _ _),λ_=>o.finish .undef⟩,rfl,rfl,rfl,rfl,rfl,rfl⟩
  |@enter f hf a B y=>
   refine⟨b,_,_,_,i,d,rfl,x #[],?_,⟨fr::cs,rfl,.cons o q,hb.push _,(λe=>by cases e)⟩,rfl,rfl,rfl,rfl,rfl,rfl⟩;have top:∀k k':ch,k=i0->k'=i0->Gm T fB fA F X Z b (hG ⟨T,fB⟩ f a k) (hG ⟨T,fA⟩ f B k'):=by
    rintro k k' rfl rfl
    cases D:X f with
    |true=>exact .enters f D hf y
    |false=>exact .alike (fe (fit.same f hf D) hf y)
   refine top _ _ ?_ ?_
   ·have j:=n.todo;generalize fr.todo=l at j ⊢;generalize fr'.todo=K at j ⊢
    cases j with
    |nil=>rfl
    |cons h t=>cases h<;>rfl
   ·have j:=n.todo;generalize fr.todo=l at j ⊢;generalize fr'.todo=K at j ⊢
    cases j with
    |nil=>rfl
    |cons h t=>cases h<;>rfl
  |round hl f hf y assign body L M=>
   refine⟨b,_,_,_,i,d,rfl,x #[],.alike ?_,⟨fr::cs,rfl,.cons o q,hb.push _,(λe=>by cases e)⟩,rfl,rfl,rfl,rfl,rfl,rfl⟩;exact⟨rfl,(λe=>by cases e),hf,y,.cons (.code _ L) (.cons .beginRound (.cons (.code _ M) .nil)),.nil,.run,rfl,rfl,.some hl,(λe=>by cases e)⟩
 |halt h w1=>
  cases h with
  |panic v=>
   obtain⟨b,v',C,new,i,d,e1,c,hv⟩:=p;rw[e1];simp only[A,f9,if_false];refine⟨b,_,_,_,i,d,rfl,c.less λe J=>?_,.alike ((n.mono c.le).raise (.cons hv .nil)),⟨_,rfl,hcs.mono c.le,hb.top (eC _ _),λ_=>(n.mono c.le).raise (.cons hv .nil)⟩,rfl,rfl,rfl,rfl,rfl,rfl⟩
   grind[hO]
  |stuck m=>trivial
  |unsupported u=>
   cases u with
   |initOrder g=>exact absurd p (by simp[qp,dw])
   |_=>trivial
  |_=>exact p.elim
def Af(fit:Fits T fB fA F X Z)(a:Wd T F Z ρ w w'){fr fr':Frame}{cs cs':List Frame}(b:aQ T F Z fB fA ρ fr fr')(hcs:cj T F Z fB fA ρ cs cs')(hb:dn (fr::cs))
 {s s':Sem Next} (hs:av T fB fA F (codeOk T F Z) (gT F (codeOk T F Z)) ρ s s') :
 ef T fB fA F X Z bot ρ w w' (hM ⟨T,fB⟩ true fr (cs++[bot]) none s w) (hM ⟨T,fA⟩ true fr' cs' none s' w'):=
 Ae fit a b hcs hb (av.run #[] hs a.inj a.wr a.tape a.drawn).zu
def lg(a:ρ.bw T.globals.size){l l':Nat}(h:ρ l l'):av T fB fA F (codeOk T F Z) fF ρ (f0 l) (f0 l'):=by
 refine af a (jV a h) λσ b a r d c=>?_;refine af a (dV (b h) (.loop { c with state:=rfl })) λe b a _ _ _=>?_;rw[<-c.state]
 cases r.state with
 |ready=>exact ah rfl
 |done=>exact cX _
 |busy=>exact cX _
 |exhausted=>exact cX _
def oq(a:ρ.bw T.globals.size){l l':Nat}(h:ρ l l')(j:Option Code)(d:∀c,j=some c->codeOk T F Z c=true):av T fB fA F (codeOk T F Z) (RV F) ρ (f1 l j) (f1 l' j):=by
 refine af a (jV a h) λσ b a r f e=>?_;refine af a (dV (b h) (.loop { e with state:=rfl,pending:=rfl,FN:=d })) λg b a _ _ _=>?_;exact ah (.bool _)
def qW(a:ρ.bw T.globals.size){l l':Nat}(h:ρ l l'):av T fB fA F (codeOk T F Z) (λ_ j e=>j=e/\∀c,j=some c->codeOk T F Z c=true) ρ (f2 l) (f2 l'):=by
 refine af a (jV a h) λσ b a r f d=>?_;rw[<-d.state];refine aN (λ_=>?_) λ_=>?_
 ·exact af (RA:=λ_ _ _=>False) a (cX _) λ_ _ _ _ _ h=>h.elim
 ·refine af a (dV (b h) (.loop { d with state:=rfl })) λg b a _ _ _=>?_;exact ah ⟨d.pending,d.FN⟩
def mO(f:ρ.bw T.globals.size)(fn:aa)(hf:F fn=true){t k:Array Value}(n:VA F ρ t k)(ps:Array Tmp)(a b:Code)(o:codeOk T F Z a=true)(hb:codeOk T F Z b=true){r j:Option Nat}(g:om ρ r j) :
 av T fB fA F (codeOk T F Z) (λσ x i=>σ x.1 i.1/\fS σ x.2 i.2) ρ (f3 fn t ps a b r) (f3 fn k ps a b j):=by
 unfold f3;have fin:∀(σ:Ren),σ.bw T.globals.size->ρ.le σ->∀(d l:Nat)(m m':List ca),σ d l->fS σ m m'->
  av T fB fA F (codeOk T F Z) (λσ x i=>σ x.1 i.1/\fS σ x.2 i.2) σ (do pure (<-aq (ik { state:=.ready,pending:=none,fn,tmps:=t,params:=ps,assign:=a,body:=b,defers:=d }),m):Sem (Nat×List ca))
   (do pure (<-aq (ik { state:=.ready,pending:=none,fn,tmps:=k,params:=ps,assign:=a,body:=b,defers:=l }),m'):Sem (Nat×List ca)):=by
  intro σ f c d l m m' hd p;refine af f (jO (.loop ⟨rfl,rfl,(λ_ e=>by cases e),rfl,hf,VA.mono c n,rfl,rfl,o,rfl,hb,hd⟩)) λs c f x i q=>ah ⟨q,p.mono c⟩
 cases g with
 |some h=>
  refine af f (jV f h) λσ c f r j g=>?_;exact fin σ f c _ _ _ _ g.defers .nil
 |none=>
  refine af f (jO .deferred) λσ c f r j g=>?_;exact fin σ f c _ _ _ _ g (.cons g .nil)
def jj(a:ρ.bw T.globals.size){r c:Nat}(h:ρ r c):av T fB fA F (codeOk T F Z) (λ_ l l'=>l=[]/\l'=[]) ρ (f5 r) (f5 c):=by
 refine af a (dA h) λσ b a o e d=>?_
 cases d with
 |deferred=>exact af a (dV (b h) .nW) λ_ _ _ _ _ _=>ah ⟨rfl,rfl⟩
 |_=>exact ak
def Br{tmps d:Array Value}:∀(l:List ResultVar){ρ:Ren},ρ.bw T.globals.size->VA F ρ tmps d->av T fB fA F (codeOk T F Z) (λσ x e=>cU F σ x e) ρ
 (l.mapM fun | .tmp t=>pure (tmps.getD t undef) | .cell a t=>do a8 t (<-bg (tmps.getD a undef)))
 (l.mapM fun | .tmp t=>pure (d.getD t undef) | .cell a t=>do a8 t (<-bg (d.getD a undef))):=by
 intro l
 induction l with
 |nil=>intro ρ b h;exact ah .nil
 |cons x l f=>
  intro ρ b h;rw[cx,cx];refine af (RA:=RV F) b ?_ λσ c b v v' hv=>?_
  ·cases x with
   |tmp t=>exact ah (VA.getD h t .undef)
   |cell a t=>exact af b (z7 (VA.getD h a .undef)) λσ c b a j g=>wN b t g
  ·refine af b (f b (VA.mono c h)) λk c b vs m i=>ah (.cons (hv.mono c) i)
def mP(b:ρ.bw T.globals.size)(fn:Func){tmps g:Array Value}(h:VA F ρ tmps g):av T fB fA F (codeOk T F Z) (RV F) ρ (ci fn tmps) (ci fn g):=by
 unfold ci;rw[db,db];refine af (RA:=λσ(x i:Array Value)=>VA F σ x i) b (af b (Br fn.results.toList b h) λσ e b vs a c=>ah c) λσ e b vs a c=>?_;refine ah ?_;have hs:=VA.size c;by_cases d:vs.size=1
 ·have f:a.size=1:=hs▸d;show VR F σ (if h:vs.size=1 then vs[0] else _) (if h:a.size=1 then a[0] else _);rw[dif_pos d,dif_pos f]
  rcases VA.get? c 0 with⟨j,_⟩|⟨v,v',j,k,hv⟩
  ·grind
  grind
 ·have f:a.size≠1:=hs▸d;show VR F σ (if h:vs.size=1 then vs[0] else _) (if h:a.size=1 then a[0] else _);rw[dif_neg d,dif_neg f];exact .tuple c
def mQ(b:Wd T F Z ρ w w'){fr fr':Frame}{cs cs':List Frame}(a:aQ T F Z fB fA ρ fr fr')(hcs:cj T F Z fB fA ρ cs cs')(hb:dn (fr::cs)) :
 ef T fB fA F X Z bot ρ w w' (hK { frame:=fr,callers:=cs++[bot],status:=i1,dying:=none } w) (hK { frame:=fr',callers:=cs',status:=i1,dying:=none } w'):=
 ⟨ρ,_,_,_,w.tape,w.drawn,rfl,b.refl,.alike a,⟨cs,rfl,hcs,hb,λ_=>a⟩,rfl,rfl,rfl,rfl,rfl,rfl⟩
def sj(b:Wd T F Z ρ w w'){fr fr':Frame}{cs cs':List Frame}(a:aQ T F Z fB fA ρ fr fr')(hcs:cj T F Z fB fA ρ cs cs')(hb:dn (fr::cs))(c:cs≠[]){v v':Value}(hv:VR F ρ v v') :
 ef T fB fA F X Z bot ρ w w' (cl (el T fB) true fr (cs++[bot]) none v w) (cl (el T fA) true fr' cs' none v' w'):=by
 cases hcs with
 |nil=>exact absurd rfl c
 |@cons f d l e h t=>
  show(ef T fB fA F X Z bot) ρ w w' (cl (el T fB) true fr (f::(l++[bot])) none v w) _;simp only[cl,a.kind,a.bX];exact mQ b (h.finish hv) t (hb.pop.top (bZ _ _))
def sk{i j:Type}{RA:Ren->i->j->Prop}(k:Wd T F Z ρ w w'){s:Sem i}{s':Sem j}(hs:av T fB fA F (codeOk T F Z) RA ρ s s'){f:ad i->GStep}{f':ad j->GStep}(fn p:aa)
 (q:∀(b:Ren)(a:i)(a':j)(w1 c:World)(new:Array Event),cE T.globals.size F (codeOk T F Z) ρ w w' b w1 c new->RA b a a'->ef T fB fA F X Z bot b w1 c (f (h6 a w1)) (f' (h6 a' c)))
 (t:∀(b:Ren)(v v':Value)(w1 c:World)(new:Array Event),cE T.globals.size F (codeOk T F Z) ρ w w' b w1 c new->VR F b v v'->ef T fB fA F X Z bot b w1 c (f (h7 (im v) w1)) (f' (h7 (im v') c)))
 (d:∀m w1,∃o w2 es,f (h7 (io m) w1)=hL o w2 es) (x:∀u w1,dw u=true->∃o w2 es,f (h7 (ip u) w1)=hL o w2 es) :
 ef T fB fA F X Z bot ρ w w' (hJ (seen (el T fB) fn (s.runT (el T fB) w #[]).2) (f (s.runT (el T fB) w #[]).1)) (hJ (seen (el T fA) p (s'.runT (el T fA) w' #[]).2) (f' (s'.runT (el T fA) w' #[]).1)):=by
 have g:=av.run #[] hs k.inj k.wr k.tape k.drawn;rw[ed];generalize s.run (el T fB) w=r at g
 cases r with
 |ok a w1=>
  obtain⟨b,a',c,new,e1,d,l⟩:=g;rw[e1];exact ef.comp d (q b a a' w1 c new d l) λe n=>by simpa using hO n
 |halt h w1=>
  cases h with
  |panic v=>
   obtain⟨b,v',c,new,e1,d,l⟩:=g;rw[e1];exact ef.comp d (t b v v' w1 c new d l) λe n=>by simpa using hO n
  |stuck m=>
   obtain⟨o,w2,es,e⟩:=d m w1;rw[e];trivial
  |unsupported u=>
   obtain⟨o,w2,es,e⟩:=x u w1 g;rw[e];trivial
  |_=>exact g.elim
def mR(p:ao)(main:Bool)(fr:Frame)(callers:List Frame)(dying:Option Dying)(w:World)(jump:Option Code):GStep:=
 match fr.roundOf with
 |none=>if jump matches none|some .ret then hK { frame:={ fr with mode:=iU },callers,status:=i1,dying } w else hL (i2 "exit, goto: no such block or label" (fr.pos p)) w
 |some l=>
  let(r,es):=(f1 l jump).runT p w #[]
  hJ (seen p fr.fn es) <| match r with
  |h6 v w=>cl p main fr callers dying v w
  |h7 _ w=>hL (i2 "range over a function: no such loop" (fr.pos p)) w
def sn:Option Code->Bool
 |none|some .ret=>true
 |_=>false
def iW{p:ao}{main:Bool}{fr:Frame}{callers:List Frame}{dying:Option Dying}{w:World}{jump:Option Code}(h:fr.roundOf=none) :
 mR p main fr callers dying w jump=if sn jump then hK { frame:={ fr with mode:=iU },callers,status:=i1,dying } w else hL (i2 "exit, goto: no such block or label" (fr.pos p)) w:=by
 unfold mR;have e:(jump matches none|some .ret)=sn jump:=by
  cases jump with
  |none=>rfl
  |some c=>cases c<;>rfl
 grind
def iX{p:ao}{main:Bool}{fr:Frame}{callers:List Frame}{dying:Option Dying}{w:World}{jump:Option Code}{l:Nat}(h:fr.roundOf=some l) :
 mR p main fr callers dying w jump=hJ (seen p fr.fn ((f1 l jump).runT p w #[]).2) (match((f1 l jump).runT p w #[]).1 with
 |h6 v w=>cl p main fr callers dying v w
 |h7 _ w=>hL (i2 "range over a function: no such loop" (fr.pos p)) w):=by
 unfold mR
 grind
def jP{r a:Option Nat}(h:om ρ r a):(r=none/\a=none)\/∃l l',r=some l/\a=some l'/\ρ l l':=by
 cases h with
 |none=>exact hP ⟨rfl,rfl⟩
 |some h=>grind
def aQ.returning{fr fr':Frame}(x:aQ T F Z fB fA ρ fr fr')(h:fr.roundOf=none):aQ T F Z fB fA ρ { fr with mode:=iU } { fr' with mode:=iU }:=
 ⟨x.fn,x.same,x.mI,x.tmps,x.todo,x.defers,.returning,x.kind,x.bX,x.roundOf,λ_=>h⟩
def LI(b:Wd T F Z ρ w w'){fr fr':Frame}{cs cs':List Frame}(d:aQ T F Z fB fA ρ fr fr')(hcs:cj T F Z fB fA ρ cs cs')(hb:dn (fr::cs))(j:Option Code)(h:∀c,j=some c->codeOk T F Z c=true) :
 ef T fB fA F X Z bot ρ w w' (mR (el T fB) true fr (cs++[bot]) none w j) (mR (el T fA) true fr' cs' none w' j):=by
 rcases jP d.roundOf with⟨e1,e⟩|⟨l,k,e1,e,hl⟩
 ·rw[iW e1,iW e]
  cases sn j with
  |false=>trivial
  |true=>exact mQ b (d.returning e1) hcs (hb.top rfl)
 ·rw[iX e1,iX e];have i:cs≠[]:=by
   rintro rfl;have:=hb fr rfl;rw[e1]at this;cases this
  exact sk b (oq b.inj hl j h) (f:=λr=>match r with | h6 v w=>cl (el T fB) true fr (cs++[bot]) none v w | h7 _ w=>hL (i2 "range over a function: no such loop" (fr.pos (el T fB))) w)
   (f':=λr=>match r with | h6 v w=>cl (el T fA) true fr' cs' none v w | h7 _ w=>hL (i2 "range over a function: no such loop" (fr'.pos (el T fA))) w) fr.fn fr'.fn
   (λm a n w1 o new g hv=>sj g.wd (d.mono g.le) (hcs.mono g.le) hb i hv) (λ_ _ _ _ _ _ _ _=>trivial) (λ_ _=>⟨_,_,_,rfl⟩) (λ_ _ _=>⟨_,_,_,rfl⟩)
def Ox(fit:Fits T fB fA F X Z)(a:Wd T F Z ρ w w'){fr fr':Frame}{cs cs':List Frame}(b:aQ T F Z fB fA ρ fr fr')(hcs:cj T F Z fB fA ρ cs cs')(hb:dn (fr::cs)){ops:Array Oper}{i:Nat}{rest:List Nat}{k:List Item}
 (f:fr.todo=.inRegion ops (i::rest)::k) (g:(ops.toList.all λo=>jh T F Z o.op)=true) :
 ef T fB fA F X Z bot ρ w w' (hN (el T fB) true fr (cs++[bot]) none w) (hN (el T fA) true fr' cs' none w'):=by
 unfold hN;rw[b.oper?];have e:fr.oper? = ops[i]?:=by unfold hE;rw[f]
 rw[e]
 cases h:ops[i]? with
 |none=>trivial
 |some o=>
  have ok:=Bo g h;simp only;have main:ef T fB fA F X Z bot ρ w w' (hM (el T fB) true fr (cs++[bot]) none (b9 fr.eval o) w) (hM (el T fA) true fr' cs' none (b9 fr'.eval o) w'):=
   Ae fit a b hcs hb (De fit.zero fit.fns a.inj a.wr a.tape a.drawn (dD b.tmps) o ok #[])
  have d:=b.roundOf;generalize e1:fr.roundOf=r at d;generalize l:fr'.roundOf=m at d
  cases d with
  |none=>exact main
  |some hl=>
   cases j:o.op with
   |defer c=>rw[j]at ok;cases ok
   |_=>exact main
def iR{a b:List Item}(h:cN T F Z ρ a b)(P:ao)(fn:aa)(t:Array Value)(d:List ca)(m:cc)(k:ch)(r:Option Nat):hH P { fn:=fn,tmps:=t,todo:=a,defers:=d,mode:=m,kind:=k,roundOf:=r }=false:=by
 unfold hH
 cases h with
 |nil=>cases P.funcs[fn]?<;>rfl
 |cons h t=>cases h<;>cases P.funcs[fn]?<;>rfl
def ot{b a:List Item}(h:cN T F Z ρ b a)(P:ao)(fn:aa)(t:Array Value)(d:List ca)(m:cc)(k:ch)(r:Option Nat):hH P { fn:=fn,tmps:=t,todo:=a,defers:=d,mode:=m,kind:=k,roundOf:=r }=false:=by
 unfold hH
 cases h with
 |nil=>cases P.funcs[fn]?<;>rfl
 |cons h t=>cases h<;>cases P.funcs[fn]?<;>rfl
def Gq(e:Wd T F Z ρ w w'){fr fr':Frame}{cs cs':List Frame}(o:aQ T F Z fB fA ρ fr fr')(hcs:cj T F Z fB fA ρ cs cs')(hb:dn (fr::cs))(B:fr.mode≠.run)(g:fr.defers=[]->cs≠[]) :
 ef T fB fA F X Z bot ρ w w' (cm (el T fB) true fr (cs++[bot]) none w) (cm (el T fA) true fr' cs' none w'):=by
 have hd:=o.defers;obtain⟨fn,tmps,todo,defers,mode,kind,i⟩:=fr;obtain⟨b,j,p,Y,L,k,m⟩:=fr';have M:=o;obtain⟨C,q,D,u,n,N,x,E,H,I,y⟩:=o;simp only at C q D u n N x E H I y B g hd;subst C
 cases hd with
 |@cons r r' ds z O t=>
  unfold cm;simp only;exact sk e (jj e.inj O)
   (f:=λr=>match r with
     |h6 calls w=>hK { frame:={ fn:=b,tmps,todo,defers:=calls++ds,mode,kind,roundOf:=i },callers:=cs++[bot],status:=i1,dying:=none } w
     |h7 _ w=>hL (i2 "the deferred calls of a range-over-func loop have been taken" _) w)
   (f':=λr=>match r with
     |h6 calls w=>hK { frame:={ fn:=b,tmps:=j,todo:=p,defers:=calls++z,mode:=L,kind:=k,roundOf:=m },callers:=cs',status:=i1,dying:=none } w
     |h7 _ w=>hL (i2 "the deferred calls of a range-over-func loop have been taken" _) w) b b
   (λP a Q w1 R new d S=>by
     obtain⟨rfl,rfl⟩:=S
     exact mQ d.wd ⟨rfl,q,D,cU.mono d.le u,n.mono d.le,t.mono d.le,x.mono d.le,E,H,I.mono d.le,y⟩ (hcs.mono d.le) (hb.top rfl))
   (λ_ _ _ _ _ _ _ _=>trivial) (λ_ _=>⟨_,_,_,rfl⟩) (λ_ _ _=>⟨_,_,_,rfl⟩)
 |nil=>
  have g:=g rfl
  cases x with
  |run=>exact absurd rfl B
  |@panicking c A hc=>
   cases hcs with
   |nil=>exact absurd rfl g
   |@cons f J l K h t=>
    show(ef T fB fA F X Z bot) ρ w w' (cm (el T fB) true _ (f::(l++[bot])) none w) _;have e1:cm (el T fB) true { fn:=b,tmps:=tmps,todo:=todo,defers:=[],mode:=iY c,kind:=kind,roundOf:=i } (f::(l++[bot])) none w=hK { frame:=f.raise c,callers:=l++[bot],status:=i1,dying:=none } w:=by
     unfold cm;simp only[iR n (el T fB) b tmps [] (iY c) kind i,f9,if_false]
    have U:cm (el T fA) true { fn:=b,tmps:=j,todo:=p,defers:=[],mode:=iY A,kind:=k,roundOf:=m } (J::K) none w'=hK { frame:=J.raise A,callers:=K,status:=i1,dying:=none } w':=by
     unfold cm;simp only[ot n (el T fA) b j [] (iY A) k m,f9,if_false]
    rw[e1,U];exact mQ e (h.raise hc) t (hb.pop.top (eC _ _))
  |returning=>
   obtain⟨fx,c,V,W,g3,g4⟩:=(q (y rfl)).ex;unfold cm;simp only[V,W]
   exact sk e (mP e.inj fx u) (f:=λr=>match r with
    |h6 v w=>cl (el T fB) true { fn:=b,tmps,todo,defers:=[],mode:=iU,kind,roundOf:=i } (cs++[bot]) none v w
    |h7 (io s) w=>hL (i2 s _) w
    |h7 _ w=>hL (i2 "return: the result variables cannot be read" _) w)
    (f':=λr=>match r with
     |h6 v w=>cl (el T fA) true { fn:=b,tmps:=j,todo:=p,defers:=[],mode:=iU,kind:=k,roundOf:=m } cs' none v w
     |h7 (io s) w=>hL (i2 s _) w
     |h7 _ w=>hL (i2 "return: the result variables cannot be read" _) w) b b
    (λP a Q w1 R new d hv=>sj d.wd (M.mono d.le) (hcs.mono d.le) hb g hv) (λ_ _ _ _ _ _ _ _=>trivial) (λ_ _=>⟨_,_,_,rfl⟩) (λ_ _ _=>⟨_,_,_,rfl⟩)
end
end Go.bJ
