/- Part of the proof of FieldAnyOrder. -/
import Derived.Test.YtnflmiiljmmciaaGreatV10
import Derived.Conc.Events
import Derived.Conc.Listed
import Derived.Laws.Sem
import Derived.RunT
import GoSem.Core.Layout
import GoSem.Dispatch
import GoSem.Step
set_option linter.all false
open Go renaming Addr->aa,FuncId->ac,Value->ad,TypeId->ag,World->ai,Question->aH,Result->aL,MapEntry->a7,Code->a8,Tables->a9,Func->bb,Unsupported->bi,Event->bj,Program->bm,unsupported->bq,newObj->bv,setObj->bL,choose->bM,askRoom->bR,typeInfo->bT,underlying->b8,sizeOf->b9,zeroValue->ca,loadCellsFrom->cb,loadCells->cd,storeCells->ce,loadVar->cf,storeVar->ch,newRow->ci,runtimePanic->cl,BoundsCode->cm,boundsPanic->co,asAddr->cq,byteOfCell->ct,cellOfByte->cv,cellAtBytes->cB,noView->cC,numberAt->cQ,behindNumber->c8,fieldPlace->c9,sameAddr->da,mayBeOne->db,stringish->dd,samePointer->df,typeStr->dk,BinOp->dp,Operand->dq,eqGuard->dt,movedNumber->du,movedPointer->dv,TypeDesc->dx,convert->dC,Next->dO,callFunc->dQ,method->dT,nilAhead->dU,invoke->d8,Frame->d9,resolve->ea,Oper->eb,execOp->ec,Item->ed,Deferred->eg,PanicEntry->eh,FrameMode->ei,exitTo->ej,findLabel->ek,gotoIn->el,yielded->em,Goroutine->ep,GStep->eq,CallKind->et,results->eu,doReturn->eA,unwind->eD,Tape->eE
open Nat renaming le_add_right->eF,lt_irrefl->eI,le_refl->eM,le_trans->eN,lt_or_ge->eP,zero_mul->eQ,sub_self->eS
open List renaming replicate->eT,mapM_cons->eV,toArray->eW,forIn_cons->eX,filter_cons->e6,find?_cons->e7,all_cons->e8,zip_cons_cons->e9,getElem?_append_left->fb
open Array renaming toList_push->fg,toList_append->fi,getD_eq_getD_getElem?->fl,replicate->fm,append_assoc->fo,mapM_eq_mapM_toList->fp,forIn_toList->ft,getElem?_toList->fJ,toList_modify->fO,find?_toList->fP,all_toList->fY,toList_filter->f0,toList_map->f1,range->f2,foldl_toList->f3,toList_zip->f5
open Go.World renaming freeze->f6,noCell->f7,cell?->f8,farLoad->f9,shape?->gc,farStore->gf
open Go.Sem renaming store->gg,runT->gl,run->gr,getObj->gt,setObj->gw,bind->gy,program->gB,bind_assoc'->gD,run_bind'->gG,runT_bind'->gL,runT_fst->g0,choose->g6,halt->g7,shape->g8,frozen->g9,mark->hh,pure->hk
open Go.Program renaming mk->ho,eqGuardType->hr,alikeButTags->hw,stoodInAs->hG,stoodInHeld->hH,packedAs->hJ,packed->hK,holdsPacked->hM,cellsOf->hN,depth->hO,underlying->hS
open Go.Instr renaming sureAddr->hT,alloc->hV,box->hX,loadAt->hY,storeAt->hZ,fill->h6,build->h7,fieldAt->h8,field->ib,index->ii,indexAt->ik,extract->il,sliceBound->im,sliceBounds->io,slice->ip,sliceAt->ix,checkKey->iB,sameNow->iC,findNow->iN,findAsking->iU,findKey->iY,lookup->i0,sameBits->i1,keyThatStays->i2,mapUpdate->i3,makeMap->i4,range->i5,entry->i6,next->i7,buildSlice->i9,getLoop->jf,yield->jk,beginRound->jl,endRound->jn,endLoop->jp,enterLoop->jr,takeDeferred->js
open Bool renaming eq_iff_iff->jt,and_eq_true->jw,noConfusion->jx,false_eq_true->jz,not_true->jD
open Go.Op renaming equalIn->jH,eqGuardIn->jM,intArith->jQ,intCmp->jR,intBits->jX,intDiv->j1,shift->j2,stringOp->j3,twoPlaces->j4,addrMod->j5,addrCmp->j6,addrSub->ka,equal->kb,maxDepth->kc,unary->kd,mapUpdate->ke,insert->kf
open Go.Builtin renaming unsafeAdd_->kg,lenOf->kh,firstCells->ki,holdsCells->kj,zeroCells->km,mayShare->ko,append_->kp,len_->kq,max2->ks,min2->kt,max_->kv,min_->kw
open Go.Unsupported renaming addressObserved->kx,unsafePointer->ky
open Option renaming some_inj->kG,bind_some->kS
open Go.Deferred renaming ofValue->k6
open Go.Frame renaming oper?->k7,enter->k8,raise->k9,catches->la,eval->ld
open Go.GStep renaming after->lf,go->lh,ended->li
open Go.stepG renaming apply->lj,oper->lm,exec->lp
open Go.Conc renaming mem_seen->lr
open Go.Item renaming code->lu,inRegion->lx,inRangeFunc->ly,endRangeFunc->lA,beginRound->lL
open Go.Result renaming ok->lM,halt->lR
open Classical renaming byContradiction->lS
open Or renaming inl->lT,inr->lW
open Go.Fn renaming func->l1,yield->l2,method->l3
open Go.Value renaming bool->l5,int->l6,string->l7,agg->ma,pointer->mc,nilIface->mf,nilFunc->mi,func->mj,slice->mm,map->mn,iface->mr,tuple->my
open Go.Obj renaming cells->mF,map->mG,stringIter->mH,mapIter->m7,loop->m8,deferred->m9
open Go.Halt renaming panic->nd,stuck->nf,unsupported->nl,blocked->nq,waiting->ns,exit->nt,fatal->nE,throw->nV,goexit->n0
open Go.Mode renaming plain->n1
open Go.Next renaming value->n6,skip->n7,enter->n8,round->n9
open Go.FrameMode renaming run->ob,returning->od,panicking->oh
open Go.CallKind renaming normal->oj
open Go.GoStatus renaming running->ol
open Go.Outcome renaming stuck->ov
namespace Go.bJ
abbrev Ren:=Nat->Nat->Prop
structure Ren.bw(G:Nat)(ρ:Ren):Prop where
 fn:∀{a b b':Nat},ρ a b->ρ a b'->b=b'
 inj:∀{a a' b:Nat},ρ a b->ρ a' b->a=a'
 XS:∀{a b:Nat},ρ a b->(a<G↔b<G)
def Ren.le(ρ σ:Ren):Prop:=∀ ⦃a b:Nat⦄,ρ a b->σ a b
def Ren.ext(ρ:Ren)(r c:Nat):Ren:=λa b=>ρ a b\/(a=r/\b=c)
def Ren.le_refl(ρ:Ren):ρ.le ρ:=λ_ _ h=>h
theorem Ren.le_trans{ρ σ a:Ren}(h:ρ.le σ)(k:σ.le a):ρ.le a:=λ_ _ x=>k (h x)
def Ren.kW(ρ:Ren)(r a:Nat):ρ.le (ρ.ext r a):=λ_ _ h=>lT h
def Ren.IW(ρ:Ren)(r a:Nat):ρ.ext r a r a:=lW ⟨rfl,rfl⟩
def Ren.bw.ext{G:Nat}{ρ:Ren}(h:ρ.bw G){r c:Nat}(d:∀b,¬ρ r b)(e:∀a,¬ρ a c)(f:G<=r)(g:G<=c):(ρ.ext r c).bw G:=by
 refine⟨λ{a b b'}x y=>?_,λ{a i b}x y=>?_,λ{a b}x=>?_⟩
 .rcases x with x|⟨rfl,rfl⟩<;>rcases y with y|⟨y1,y2⟩
  .exact h.fn x y
  .grind
  .exact absurd y (d _)
  .exact y2.symm
 .rcases x with x|⟨rfl,rfl⟩<;>rcases y with y|⟨y1,y2⟩
  .exact h.inj x y
  .grind
  .exact absurd y (e _)
  .exact y1.symm
 .rcases x with x|⟨rfl,rfl⟩
  .exact h.XS x
  .omega
def AR(ρ:Ren)(a a':aa):Prop:=ρ a.block a'.block/\a.off=a'.off/\a.spot=a'.spot
def AR.mono{ρ σ:Ren}(h:ρ.le σ){a a':aa}(x:AR ρ a a'):AR σ a a':=⟨h x.1,x.2⟩
def AR.add{ρ:Ren}{a a':aa}(x:AR ρ a a')(n:Nat):AR ρ (a.add n) (a'.add n):=by
 unfold Addr.add;split
 .exact x
 .exact⟨x.1,by show a.off+n=a'.off+n;rw[x.2.1],rfl⟩
def AR.eq_iff{G:Nat}{ρ:Ren}(c:ρ.bw G){a a' b b':aa}(x:AR ρ a a')(y:AR ρ b b'):(a=b)↔(a'=b'):=by
 obtain⟨k,l,d⟩:=a;obtain⟨m,n,o⟩:=b;obtain⟨e,f,p⟩:=a';obtain⟨g,i,j⟩:=b';obtain⟨x1,x2,x3⟩:=x;obtain⟨y1,y2,y3⟩:=y;simp only at x1 x2 x3 y1 y2 y3;subst x2 x3 y2 y3;constructor
 .intro h;simp only[Addr.mk.injEq]at h;obtain⟨rfl,rfl,rfl⟩:=h;rw[c.fn x1 y1]
 .intro h;simp only[Addr.mk.injEq]at h;obtain⟨rfl,rfl,rfl⟩:=h;rw[c.inj x1 y1]
def cn:ac:=1000000
inductive XT(F:ac->Bool)(ρ:Ren):Fn->Fn->Prop
 |func (f:ac) (h:F f=true):XT F ρ (l1 f) (l1 f)
 |yield {l l':Nat} (h:ρ l l'):XT F ρ (l2 l) (l2 l')
 |spec {l l':Nat} (h:ρ l l'):XT F ρ (l1 (cn+l)) (l2 l')
def XU:ad->Bool
 |l5 _ | l6 .. | l7 _ | ma _ | mc none | mf | mi | mj (l3 _) _ _=>false
 |_=>true
def CM(x y:Nat):Nat:=(x+y)*(x+y)+x
def zY{x y u v:Nat}(h:CM x y=CM u v):x=u/\y=v:=by
 unfold CM at h;have a:∀{s t p q:Nat},p<=s->s<t->s*s+p<t*t+q:=by
  intro s t p q c b;have d:(s+1)*(s+1)<=t*t:=Nat.mul_le_mul b b;grind
 rcases Nat.lt_trichotomy (x+y) (u+v) with g|g|g
 .have:=a (p:=x) (q:=u) (eF x y) g;omega
 .rw[g]at h;omega
 .have:=a (p:=u) (q:=x) (eF u v) g;omega
def N1(a:aa):Nat:=CM (CM a.block a.off) (match a.spot with|none=>0|some k=>k+1)
theorem N3{a b:aa}(h:N1 a=N1 b):a=b:=by
 obtain⟨x,y,z⟩:=a;obtain⟨u,v,w⟩:=b;obtain⟨c,d⟩:=zY h;obtain⟨rfl,rfl⟩:=zY c;grind
mutual
inductive VR(F:ac->Bool)(ρ:Ren):ad->ad->Prop
 |bool (b:Bool):VR F ρ (l5 b) (l5 b)
 |int (k:IntKind) (n:Int):VR F ρ (l6 k n) (l6 k n)
 |string (s:ByteArray):VR F ρ (l7 s) (l7 s)
 |dS:VR F ρ (mc none) (mc none)
 |ptr {a a':aa} (h:AR ρ a a'):VR F ρ (mc (some a)) (mc (some a'))
 |di (l c:Nat):VR F ρ (mm none l c) (mm none l c)
 |slice {a a':aa} (l c:Nat) (h:AR ρ a a'):VR F ρ (mm (some a) l c) (mm (some a') l c)
 |dK (D:Nat) (a:aa):VR F ρ (mm (some ⟨D,N1 a,none⟩) 0 0) (mm (some a) 0 0)
 |qQ:VR F ρ (mn none) (mn none)
 |map {r r':Nat} (h:ρ r r'):VR F ρ (mn (some r)) (mn (some r'))
 |func {fn dL:Fn} {a a' b b':Array ad} (h:XT F ρ fn dL) (h1:cU F ρ a.toList a'.toList) (h2:cU F ρ b.toList b'.toList):VR F ρ (mj fn a b) (mj dL a' b')
 |nilFunc:VR F ρ mi mi
 |iface (t:ag) {v v':ad} (h:VR F ρ v v'):VR F ρ (mr t v) (mr t v')
 |nilIface:VR F ρ mf mf
 |agg {a a':Array ad} (h:cU F ρ a.toList a'.toList):VR F ρ (ma a) (ma a')
 |tuple {a a':Array ad} (h:cU F ρ a.toList a'.toList):VR F ρ (my a) (my a')
 |hole (v':ad) (h:XU v'=true):VR F ρ (my #[]) v'
 |wG (n:String) (f c:Array ad):VR F ρ (mj (l3 "") #[mr 0 mf] #[mj (l3 n) f c]) (mj (l3 n) f c)
inductive cU(F:ac->Bool)(ρ:Ren):List ad->List ad->Prop
 |nil:cU F ρ [] []
 |cons {v v':ad} {l l':List ad} (h:VR F ρ v v') (t:cU F ρ l l'):cU F ρ (v::l) (v'::l')
end
abbrev VA(F:ac->Bool)(ρ:Ren)(a a':Array ad):Prop:=cU F ρ a.toList a'.toList
def XT.mono{F:ac->Bool}{ρ σ:Ren}(h:ρ.le σ){f f':Fn}(x:XT F ρ f f'):XT F σ f f':=by
 cases x with
 |func f hf=>exact .func f hf
 |yield hl=>exact .yield (h hl)
 |spec hl=>exact .spec (h hl)
section
variable {F:ac->Bool}{ρ σ:Ren}
mutual
theorem VR.mono(h:ρ.le σ){v v':ad}(x:VR F ρ v v'):VR F σ v v':=by
 cases x with
 |bool b=>exact .bool b
 |int k n=>exact .int k n
 |string s=>exact .string s
 |dS=>exact .dS
 |ptr a=>exact .ptr (a.mono h)
 |di l c=>exact .di l c
 |slice l c a=>exact .slice l c (a.mono h)
 |dK D a=>exact .dK D a
 |qQ=>exact .qQ
 |map a=>exact .map (h a)
 |func a b c=>exact .func (a.mono h) (cU.mono h b) (cU.mono h c)
 |nilFunc=>exact .nilFunc
 |iface t a=>exact .iface t (VR.mono h a)
 |nilIface=>exact .nilIface
 |agg a=>exact .agg (cU.mono h a)
 |tuple a=>exact .tuple (cU.mono h a)
 |hole v' a=>exact .hole v' a
 |wG n f c=>exact .wG n f c
theorem cU.mono(h:ρ.le σ){l l':List ad}(x:cU F ρ l l'):cU F σ l l':=by
 cases x with
 |nil=>exact .nil
 |cons a b=>exact .cons (VR.mono h a) (cU.mono h b)
end
def cU.length{l l':List ad}(x:cU F ρ l l'):l.length=l'.length:=by
 induction l generalizing l' with
 |nil=>cases x;rfl
 |cons v l a=>cases x with|cons _ t=>simp[a t]
theorem cU.append{l l' m m':List ad}(x:cU F ρ l l')(y:cU F ρ m m'):cU F ρ (l++m) (l'++m'):=by
 induction l generalizing l' with
 |nil=>cases x;exact y
 |cons v l a=>cases x with|cons h t=>exact .cons h (a t)
theorem cU.get?{l l':List ad}(x:cU F ρ l l')(i:Nat):(l[i]?=none/\l'[i]?=none)\/∃v v',l[i]?=some v/\l'[i]?=some v'/\VR F ρ v v':=by
 induction l generalizing l' i with
 |nil=>cases x;exact lT ⟨rfl,rfl⟩
 |cons v l a=>
  cases x with
  |cons h t=>
   grind
theorem cU.set{l l':List ad}(x:cU F ρ l l')(i:Nat){v v':ad}(h:VR F ρ v v'):cU F ρ (l.set i v) (l'.set i v'):=by
 induction l generalizing l' i with
 |nil=>cases x;exact .nil
 |cons u l a=>
  cases x with
  |cons b t=>
   cases i with
   |zero=>exact .cons h t
   |succ i=>exact .cons b (a t i)
theorem cU.take{l l':List ad}(x:cU F ρ l l')(i:Nat):cU F ρ (l.take i) (l'.take i):=by
 induction l generalizing l' i with
 |nil=>cases x;simpa using cU.nil
 |cons u l a=>
  cases x with
  |cons b t=>
   cases i with
   |zero=>exact .nil
   |succ i=>exact .cons b (a t i)
theorem cU.drop{l l':List ad}(x:cU F ρ l l')(i:Nat):cU F ρ (l.drop i) (l'.drop i):=by
 induction l generalizing l' i with
 |nil=>cases x;simpa using cU.nil
 |cons u l a=>
  cases x with
  |cons b t=>
   cases i with
   |zero=>exact .cons b t
   |succ i=>simpa using a t i
theorem cU.replicate{v v':ad}(h:VR F ρ v v')(n:Nat):cU F ρ (eT n v) (eT n v'):=by
 induction n with
 |zero=>exact .nil
 |succ n a=>exact .cons h a
def cU.map{a:Type}(l:List a){f g:a->ad}(h:∀x∈l,VR F ρ (f x) (g x)):cU F ρ (l.map f) (l.map g):=by
 induction l with
 |nil=>exact .nil
 |cons x l b=>exact .cons (h x ar) (b λy hy=>h y (by simp[hy]))
def VR.undef:VR F ρ undef undef:=.tuple .nil
def FM{v:ad}(h:XU v=true):v.cells=#[v]:=by
 cases v<;>first|rfl|cases h
def VR.cells{v v':ad}(h:VR F ρ v v'):VA F ρ v.cells v'.cells:=by
 cases h with
 |hole v' h=>rw[FM h];exact .cons (.hole v' h) .nil
 |wG n f c=>exact .cons (.wG n f c) .nil
 |dK D a=>exact .cons (.dK D a) .nil
 |_=>first|(rename_i h;exact h)|exact .cons (by constructor<;>assumption) .nil
def VA.size{a a':Array ad}(h:VA F ρ a a'):a.size=a'.size:=h.length
def VA.push{a a':Array ad}(h:VA F ρ a a'){v v':ad}(hv:VR F ρ v v'):VA F ρ (a.push v) (a'.push v'):=by
 show cU _ _ _ _;rw[fg,fg];exact cU.append h (.cons hv .nil)
theorem VA.append{a a' b b':Array ad}(h:VA F ρ a a')(k:VA F ρ b b'):VA F ρ (a++b) (a'++b'):=by
 grind[fi,cU.append]
theorem VA.get?{a a':Array ad}(h:VA F ρ a a')(i:Nat):(a[i]?=none/\a'[i]?=none)\/∃v v',a[i]?=some v/\a'[i]?=some v'/\VR F ρ v v':=by
 have:=cU.get? h i;simpa using this
def VA.getD{a a':Array ad}(h:VA F ρ a a')(i:Nat){d d':ad}(hd:VR F ρ d d'):VR F ρ (a.getD i d) (a'.getD i d'):=by
 rw[fl,fl];grind[VA.get?]
theorem VA.set{a a':Array ad}(h:VA F ρ a a')(i:Nat){v v':ad}(hv:VR F ρ v v'):VA F ρ (a.setIfInBounds i v) (a'.setIfInBounds i v'):=by
 grind[Array.toList_setIfInBounds,cU.set]
def VA.extract{a a':Array ad}(h:VA F ρ a a')(i j:Nat):VA F ρ (a.extract i j) (a'.extract i j):=by
 grind[Array.toList_extract,cU.take,cU.drop]
theorem VA.replicate{v v':ad}(h:VR F ρ v v')(n:Nat):VA F ρ (fm n v) (fm n v'):=by
 grind[Array.toList_replicate,cU.replicate]
def VA.mono(h:ρ.le σ){a a':Array ad}(x:VA F ρ a a'):VA F σ a a':=cU.mono h x
def VA.nil:VA F ρ #[] #[]:=cU.nil
def VA.one{v v':ad}(h:VR F ρ v v'):VA F ρ #[v] #[v']:=cU.cons h cU.nil
def VA.two{v v' u a:ad}(h:VR F ρ v v')(k:VR F ρ u a):VA F ρ #[v,u] #[v',a]:=cU.cons h (cU.cons k cU.nil)
def VA.three{v v' u a x b:ad}(h:VR F ρ v v')(k:VR F ρ u a)(m:VR F ρ x b):VA F ρ #[v,u,x] #[v',a,b]:=cU.cons h (cU.cons k (cU.cons m cU.nil))
end
end Go.bJ
namespace Go
def World.re(w:ai)(a:Nat->aH->Nat)(d:Nat):ai:={ w with tape:=a,drawn:=d }
def Result.world{a:Type}:aL a->ai
 |lM _ w | lR _ w=>w
def Result.re{b:Type}(r:aL b)(c:Nat->aH->Nat)(d:Nat):aL b:=match r with
 |lM a w=>lM a (w.re c d)
 |lR h w=>lR h (w.re c d)
end Go
namespace Go.bJ
structure zo(F:ac->Bool)(ρ:Ren)(e e':a7):Prop where
 key:VR F ρ e.key e'.key
 val:VR F ρ e.val e'.val
 born:e.born=e'.born
def zo.mono{F:ac->Bool}{ρ σ:Ren}(h:ρ.le σ){e e':a7}(x:zo F ρ e e'):zo F σ e e':=⟨x.key.mono h,x.val.mono h,x.born⟩
inductive bD(F:ac->Bool)(ρ:Ren):List a7->List a7->Prop
 |nil:bD F ρ [] []
 |cons {e e':a7} {l l':List a7} (h:zo F ρ e e') (t:bD F ρ l l'):bD F ρ (e::l) (e'::l')
def bD.mono{F:ac->Bool}{ρ σ:Ren}(h:ρ.le σ){l l':List a7}(x:bD F ρ l l'):bD F σ l l':=by
 induction x with
 |nil=>exact .nil
 |cons a _ b=>exact .cons (a.mono h) b
def bD.length{F:ac->Bool}{ρ:Ren}{l l':List a7}(x:bD F ρ l l'):l.length=l'.length:=by
 induction x with
 |nil=>rfl
 |cons _ _ a=>simp[a]
structure CN(F:ac->Bool)(K:a8->Bool)(ρ:Ren)(l l':Loop):Prop where
 state:l.state=l'.state
 pending:l.pending=l'.pending
 FN:∀c,l.pending=some c->K c=true
 fn:l.fn=l'.fn
 mI:F l.fn=true
 tmps:VA F ρ l.tmps l'.tmps
 params:l.params=l'.params
 assign:l.assign=l'.assign
 CP:K l.assign=true
 body:l.body=l'.body
 N6:K l.body=true
 defers:ρ l.defers l'.defers
def CN.mono{F:ac->Bool}{K:a8->Bool}{ρ σ:Ren}(h:ρ.le σ){l l':Loop}(x:CN F K ρ l l'):CN F K σ l l':=
 ⟨x.state,x.pending,x.FN,x.fn,x.mI,cU.mono h x.tmps,x.params,x.assign,x.CP,x.body,x.N6,h x.defers⟩
inductive OR(F:ac->Bool)(K:a8->Bool)(ρ:Ren):Obj->Obj->Prop
 |cells {c c':Array ad} (t:ag) (fz:Nat×Nat) (h:VA F ρ c c'):OR F K ρ (mF c t fz) (mF c' t fz)
 |map {es aT:Array a7} (clock:Nat) (h:bD F ρ es.toList aT.toList):OR F K ρ (mG es clock) (mG aT clock)
 |stringIter (s:ByteArray) (pos:Nat):OR F K ρ (mH s pos) (mH s pos)
 |mJ (a:Nat) (b:Array Nat) (c:Nat):OR F K ρ (m7 none a b c) (m7 none a b c)
 |mapIter {m m':Nat} (a:Nat) (b:Array Nat) (c:Nat) (h:ρ m m'):OR F K ρ (m7 (some m) a b c) (m7 (some m') a b c)
 |loop {l l':Loop} (h:CN F K ρ l l'):OR F K ρ (m8 l) (m8 l')
 |deferred:OR F K ρ (m9 (some [])) (m9 (some []))
 |nW:OR F K ρ (m9 none) (m9 none)
 |number {a a':aa} (lost:Bool) (h:AR ρ a a'):OR F K ρ (.number a lost) (.number a' lost)
def OR.mono{F:ac->Bool}{K:a8->Bool}{ρ σ:Ren}(h:ρ.le σ){o o':Obj}(x:OR F K ρ o o'):OR F K σ o o':=by
 cases x with
 |cells t e a=>exact .cells t e (cU.mono h a)
 |map c a=>exact .map c (a.mono h)
 |stringIter s p=>exact .stringIter s p
 |mJ a b c=>exact .mJ a b c
 |mapIter a b c d=>exact .mapIter a b c (h d)
 |loop a=>exact .loop (a.mono h)
 |deferred=>exact .deferred
 |nW=>exact .nW
 |number l a=>exact .number l (a.mono h)
structure WR(G:Nat)(F:ac->Bool)(K:a8->Bool)(ρ:Ren)(w w':ai):Prop where
 pK:G<=w.heap.size
 gN:G<=w'.heap.size
 obj:∀{r r':Nat},ρ r r'->∃o o',w.heap[r]?=some o/\w'.heap[r']?=some o'/\OR F K ρ o o'
section
variable {G:Nat}{F:ac->Bool}{K:a8->Bool}{ρ σ:Ren}{w w':ai}
def bE{b:Type}{a:Array b}{i:Nat}{x:b}(h:a[i]?=some x):i<a.size:=by
 grind
def WR.lt(h:WR G F K ρ w w'){r a:Nat}(x:ρ r a):r<w.heap.size/\a<w'.heap.size:=by
 obtain⟨o,b,c,d,_⟩:=h.obj x;grind
def WR.fresh(h:WR G F K ρ w w'):(∀b,¬ρ w.heap.size b)/\(∀a,¬ρ a w'.heap.size):=
 ⟨λ_ x=>absurd (h.lt x).1 (eI _),λ_ x=>absurd (h.lt x).2 (eI _)⟩
def WR.push(h:WR G F K ρ w w'){o o':Obj}(x:OR F K (ρ.ext w.heap.size w'.heap.size) o o') :
 WR G F K (ρ.ext w.heap.size w'.heap.size) { w with heap:=w.heap.push o } { w' with heap:=w'.heap.push o' }:=by
 refine⟨by have:=h.pK;simp;omega,by have:=h.gN;simp;omega,λ{r f}a=>?_⟩
 rcases a with a|⟨rfl,rfl⟩
 .obtain⟨p,b,c,d,e⟩:=h.obj a;have g:=bE c;have i:=bE d;exact⟨p,b,aS,aS,e.mono (Ren.kW _ _ _)⟩
 grind
def WR.put(h:WR G F K ρ w w')(c:ρ.bw G){r a:Nat}(b:ρ r a){o o':Obj}(x:OR F K ρ o o') :
 WR G F K ρ { w with heap:=w.heap.setIfInBounds r o } { w' with heap:=w'.heap.setIfInBounds a o' }:=by
 refine⟨by simpa using h.pK,by simpa using h.gN,λ{s d}hs=>?_⟩;obtain⟨f,g⟩:=h.lt b;by_cases e:r=s
 .subst e;obtain rfl:=c.fn b hs;grind
 .have i:a≠d:=λy=>e (c.inj b (y▸hs));obtain⟨p,j,k,l,m⟩:=h.obj hs;grind
def setCell_eq(w:ai)(a:aa)(v:ad){c:Array ad}{t:ag}{b:Nat×Nat}(h:w.heap[a.block]?=some (mF c t b))(hs:a.spot=none) :
 w.setCell a v={ w with heap:=w.heap.setIfInBounds a.block (mF (c.setIfInBounds a.off v) t b) }:=by
 unfold World.setCell;congr 1;grind
def iz(w:ai)(a:aa)(n:Nat)(d:n≠0){c:Array ad}{t:ag}{b hi:Nat}(h:w.heap[a.block]?=some (mF c t (b,hi))) :
 w.freeze a n={ w with heap:=w.heap.setIfInBounds a.block (mF c t (if b==hi then(a.off,a.off+n) else(min b a.off,max hi (a.off+n)))) }:=by
 unfold f6;rw[if_neg d];congr 1;grind
end
def lE(m:Mark):Prop:=m=.noRoom
section
variable (T:a9)(fB fA:Array bb)(F:ac->Bool)(K:a8->Bool)
def dw:bi->Bool
 |.initOrder _=>false
 |_=>true
def ac8{a:Type}(ρ:Ren):Halt->Sem a->Prop
 |nd v,b=>∃v',b=g7 (nd v')/\VR F ρ v v'
 |nf _,_=>True
 |nl u,_=>dw u=true
 |_,_=>False
def Lr:Halt->Prop
 |nf _=>True
 |nl u=>dw u=true
 |_=>False
def bW{a:Type}:Sem a->Prop
 |g7 h=>Lr h
 |gB k=>bW (k ⟨T,fB⟩)
 |g8 _ k=>∀x,bW (k x)
 |g9 _ k=>∀x,bW (k x)
 |hh m k=>lE m/\bW k
 |_=>False
def vW(o:Obj):Prop:=∀c t a,o≠mF c t a
def av{g i:Type}(RA:Ren->g->i->Prop):Ren->Sem g->Sem i->Prop
 |ρ,g7 h,c=>ac8 F ρ h c
 |ρ,hk a,c=>∃d,c=hk d/\RA ρ a d
 |ρ,.load m a k,c=>∃m' d k',c=.load m' d k'/\m=n1/\m'=n1/\AR ρ a d/\∀v v',VR F ρ v v'->av RA ρ (k v) (k' v')
 |ρ,.store m a v k,c=>∃m' d v' k',c=.store m' d v' k'/\m=n1/\m'=n1/\AR ρ a d/\VR F ρ v v'/\av RA ρ k k'
 |ρ,.new o k,c=>∃f k',c=.new f k'/\OR F K ρ o f/\∀r e,(∀b,¬ρ r b)->(∀a,¬ρ a e)->T.globals.size<=r->T.globals.size<=e->av RA (ρ.ext r e) (k r) (k' e)
 |ρ,g8 r k,c=>(∃e k',c=g8 e k'/\ρ r e/\∀x,av RA ρ (k x) (k' x))\/∀x,bW T fB (k x)
 |ρ,.freeze a n k,c=>∃d k',c=.freeze d n k'/\AR ρ a d/\av RA ρ k k'
 |ρ,g9 a k,c=>(∃d k',c=g9 d k'/\AR ρ a d/\∀b,av RA ρ (k b) (k' b))\/∀x,bW T fB (k x)
 |ρ,.getObj r k,c=>∃e k',c=.getObj e k'/\ρ r e/\∀o f,OR F K ρ o f->av RA ρ (k o) (k' f)
 |ρ,.setObj r o k,c=>∃e f k',c=.setObj e f k'/\ρ r e/\(OR F K ρ o f/\vW o)/\av RA ρ k k'
 |ρ,.choose q k,c=>∃k',c=.choose q k'/\∀n,av RA ρ (k n) (k' n)
 |_,.sys _ _,_=>False
 |ρ,gB k,c=>(∃k',c=gB k'/\av RA ρ (k ⟨T,fB⟩) (k' ⟨T,fA⟩))\/bW T fB (k ⟨T,fB⟩)
 |ρ,hh m k,c=>(∃k',c=hh m k'/\lE m/\av RA ρ k k')\/(lE m/\bW T fB k)
end
section
variable {T:a9}{fB fA:Array bb}{F:ac->Bool}{K:a8->Bool}
def bW.bind{b c:Type}{s:Sem b}{f:b->Sem c}(h:bW T fB s):bW T fB (s.bind f):=by
 induction s with
 |halt _=>exact h
 |program k a=>exact a _ h
 |shape r k a=>exact λx=>a x (h x)
 |frozen r k a=>exact λx=>a x (h x)
 |mark m k a=>exact⟨h.1,a h.2⟩
 |_=>exact h.elim
def bW.run{c:Type}{s:Sem c}(h:bW T fB s)(w:ai):∃x,Lr x/\∀b d,s.run ⟨T,fB⟩ (w.re b d)=lR x (w.re b d):=by
 induction s with
 |halt x=>exact⟨x,h,λ_ _=>rfl⟩
 |program k a=>exact a _ h
 |shape r k a=>exact a (w.shape? r) (h _)
 |frozen r k a=>exact a (w.frozen? r) (h _)
 |mark m k a=>exact a h.2
 |_=>exact h.elim
def Lr.halt{c a:Type}{RA:Ren->c->a->Prop}{ρ:Ren}{h:Halt}(b:Lr h)(s':Sem a):av T fB fA F K RA ρ (g7 h) s':=by
 cases h<;>first|exact b.elim|trivial|exact b
def bW.rel{a b:Type}{RA:Ren->a->b->Prop}{ρ:Ren}{s:Sem a}(h:bW T fB s)(s':Sem b):av T fB fA F K RA ρ s s':=by
 cases s with
 |halt x=>exact Lr.halt h s'
 |program k=>exact lW h
 |shape r k=>exact lW h
 |frozen r k=>exact lW h
 |mark m k=>exact lW h
 |_=>exact h.elim
def av.bind{t u A B:Type}{RA:Ren->t->u->Prop}{C:Ren->A->B->Prop}{s:Sem t} :
 ∀{ρ:Ren}{s':Sem u}{f:t->Sem A}{f':u->Sem B},ρ.bw T.globals.size->av T fB fA F K RA ρ s s'->
  (∀σ:Ren,ρ.le σ->σ.bw T.globals.size->∀a a',RA σ a a'->av T fB fA F K C σ (f a) (f' a'))->av T fB fA F K C ρ (s.bind f) (s'.bind f'):=by
 induction s with
 |pure a=>rintro ρ s' f f' e⟨a',rfl,h⟩hf;exact hf ρ (Ren.le_refl ρ) e a a' h
 |halt h=>
  intro ρ s' f f' e hs hf;cases h<;>first|exact hs|trivial|(obtain⟨v',rfl,hv⟩:=hs;exact⟨v',rfl,hv⟩)
 |load m a k i=>rintro ρ s' f f' e⟨m',a',k',rfl,g,j,l,y⟩hf;exact⟨_,_,_,rfl,g,j,l,λv v' hv=>i v e (y v v' hv) hf⟩
 |store m a v k i=>rintro ρ s' f f' e⟨m',a',v',k',rfl,g,j,l,y,D⟩hf;exact⟨_,_,_,_,rfl,g,j,l,y,i e D hf⟩
 |new o k i=>
  rintro ρ s' f f' e⟨z,k',rfl,g,j⟩hf;exact⟨_,_,rfl,g,λr p a b c d=>i r (e.ext a b c d) (j r p a b c d) λσ E=>hf σ (λ_ _ x=>E (Ren.kW _ _ _ x))⟩
 |shape r k i=>
  rintro ρ s' f f' e(⟨p,k',rfl,g,j⟩|h)hf
  .exact lT ⟨_,_,rfl,g,λx=>i x e (j x) hf⟩
  .exact lW λx=>(h x).bind
 |freeze a n k i=>rintro ρ s' f f' e⟨a',k',rfl,g,j⟩hf;exact⟨_,_,rfl,g,i e j hf⟩
 |frozen a k i=>
  rintro ρ s' f f' e(⟨a',k',rfl,g,j⟩|h)hf
  .exact lT ⟨_,_,rfl,g,λb=>i b e (j b) hf⟩
  .exact lW λx=>(h x).bind
 |getObj r k i=>rintro ρ s' f f' e⟨p,k',rfl,g,j⟩hf;exact⟨_,_,rfl,g,λo z H=>i o e (j o z H) hf⟩
 |setObj r o k i=>rintro ρ s' f f' e⟨p,z,k',rfl,g,j,l⟩hf;exact⟨_,_,_,rfl,g,j,i e l hf⟩
 |choose q k i=>rintro ρ s' f f' e⟨k',rfl,g⟩hf;exact⟨_,rfl,λn=>i n e (g n) hf⟩
 |sys c k i=>intro ρ s' f f' e h;exact h.elim
 |program k i=>
  rintro ρ s' f f' e(⟨k',rfl,g⟩|g)hf
  .exact lT ⟨_,rfl,i _ e g hf⟩
  .exact lW g.bind
 |mark m k i=>
  rintro ρ s' f f' e(⟨k',rfl,g,j⟩|h)hf
  .exact lT ⟨_,rfl,g,i e j hf⟩
  .exact lW ⟨h.1,h.2.bind⟩
def av.mono{t u:Type}{RA y:Ren->t->u->Prop}{s:Sem t}:∀{ρ:Ren}{s':Sem u},av T fB fA F K RA ρ s s'->(∀σ:Ren,ρ.le σ->∀a a',RA σ a a'->y σ a a')->av T fB fA F K y ρ s s':=by
 induction s with
 |pure a=>rintro ρ s'⟨a',rfl,h⟩hf;exact⟨a',rfl,hf ρ (Ren.le_refl ρ) a a' h⟩
 |halt h=>intro ρ s' hs _;exact hs
 |load m a k f=>rintro ρ s'⟨m',a',k',rfl,e,g,i,l⟩hf;exact⟨_,_,_,rfl,e,g,i,λv v' hv=>f v (l v v' hv) hf⟩
 |store m a v k f=>rintro ρ s'⟨m',a',v',k',rfl,e,g,i,l,z⟩hf;exact⟨_,_,_,_,rfl,e,g,i,l,f z hf⟩
 |new o k f=>
  rintro ρ s'⟨p,k',rfl,e,g⟩hf;exact⟨_,_,rfl,e,λr j a b c d=>f r (g r j a b c d) λσ A=>hf σ (λ_ _ x=>A (Ren.kW _ _ _ x))⟩
 |shape r k f=>
  rintro ρ s'(⟨j,k',rfl,e,g⟩|h)hf
  .exact lT ⟨_,_,rfl,e,λx=>f x (g x) hf⟩
  .exact lW h
 |freeze a n k f=>rintro ρ s'⟨a',k',rfl,e,g⟩hf;exact⟨_,_,rfl,e,f g hf⟩
 |frozen a k f=>
  rintro ρ s'(⟨a',k',rfl,e,g⟩|h)hf
  .exact lT ⟨_,_,rfl,e,λb=>f b (g b) hf⟩
  .exact lW h
 |getObj r k f=>rintro ρ s'⟨j,k',rfl,e,g⟩hf;exact⟨_,_,rfl,e,λo p B=>f o (g o p B) hf⟩
 |setObj r o k f=>rintro ρ s'⟨j,p,k',rfl,e,g,i⟩hf;exact⟨_,_,_,rfl,e,g,f i hf⟩
 |choose q k f=>rintro ρ s'⟨k',rfl,e⟩hf;exact⟨_,rfl,λn=>f n (e n) hf⟩
 |sys c k f=>intro ρ s' h;exact h.elim
 |program k f=>
  rintro ρ s'(⟨k',rfl,e⟩|e)hf
  .exact lT ⟨_,rfl,f _ e hf⟩
  .exact lW e
 |mark m k f=>
  rintro ρ s'(⟨k',rfl,e,g⟩|h)hf
  .exact lT ⟨_,rfl,e,f g hf⟩
  .exact lW h
end
def Ls(ρ:Ren)(e:bj):Prop:=
 match e.loc with
 |.cell a=>e.sync=false/\∃r,ρ r a.block
 |.obj b=>e.sync=false/\∃r,ρ r b
 |.mark m=>lE m
 |.output=>False
 |.goroutines=>False
def Ls.mono{ρ a:Ren}(h:ρ.le a){e:bj}(x:Ls ρ e):Ls a e:=by
 obtain⟨l,w,s⟩:=e;cases l<;>simp only[Ls]at x ⊢
 .exact⟨x.1,x.2.imp λ_ y=>h y⟩
 .exact⟨x.1,x.2.imp λ_ y=>h y⟩
 .exact x
def nX(w:ai)(a i:Nat):Prop:=∃v,w.cell? ⟨a,i,none⟩=some v/\(v=my #[]\/∃c,v=ma c)
structure cE(G:Nat)(F:ac->Bool)(K:a8->Bool)(ρ:Ren)(w w':ai)(aJ:Ren)(w1 aP:ai)(new:Array bj):Prop where
 le:ρ.le aJ
 inj:aJ.bw G
 wr:WR G F K aJ w1 aP
 tape:w1.tape=aP.tape
 drawn:w1.drawn=aP.drawn
 wH:aP.tape=w'.tape
 XV:aP.os=w'.os
 mK:aP.output=w'.output
 size:w.heap.size<=w1.heap.size
 fV:w'.heap.size<=aP.heap.size
 frame:∀b,b<w'.heap.size->(∀a,¬ρ a b)->aP.heap[b]?=w'.heap[b]?
 N7:∀b,w'.heap.size<=b->b<aP.heap.size->∃a,aJ a b
 only:∀a b,aJ a b->ρ a b\/(w.heap.size<=a/\w'.heap.size<=b)
 ev:∀e∈new,Ls aJ e
 hol:∀a b,ρ a b->∀i,nX w1 a i->nX w a i/\aP.cell? ⟨b,i,none⟩=w'.cell? ⟨b,i,none⟩
section
variable {G:Nat}{F:ac->Bool}{K:a8->Bool}
def cE.refl{ρ:Ren}{w w':ai}(a:ρ.bw G)(b:WR G F K ρ w w')(c:w.tape=w'.tape)(hd:w.drawn=w'.drawn):cE G F K ρ w w' ρ w w' #[]:=
 ⟨Ren.le_refl _,a,b,c,hd,rfl,rfl,rfl,eM _,eM _,λ_ _ _=>rfl,λ_ d e=>absurd e (Nat.not_lt.2 d),λ_ _ h=>lT h,ar,λ_ _ _ _ h=>⟨h,rfl⟩⟩
def cE.trans{ρ d f:Ren}{w w' w1 c w2 g:ai}{e1 j:Array bj}(h:cE G F K ρ w w' d w1 c e1)(k:cE G F K d w1 c f w2 g j):cE G F K ρ w w' f w2 g (e1++j):=by
 refine⟨Ren.le_trans h.le k.le,k.inj,k.wr,k.tape,k.drawn,k.wH.trans h.wH,k.XV.trans h.XV,k.mK.trans h.mK,eN h.size k.size,eN h.fV k.fV,λb hb l=>?_,λb m n=>?_,λa b x=>?_,λe o=>?_,λa b x i p=>?_⟩
 .rw[k.frame b (Nat.lt_of_lt_of_le hb h.fV) (λa x=>?_),h.frame b hb l]
  rcases h.only a b x with y|⟨_,y⟩
  .exact l a y
  .omega
 .rcases eP b c.heap.size with hl|hg
  .exact(h.N7 b m hl).imp λ_ x=>k.le x
  .exact k.N7 b hg n
 .rcases k.only a b x with y|⟨y1,y2⟩
  .exact h.only a b y
  .exact lW ⟨eN h.size y1,eN h.fV y2⟩
 .rcases Array.mem_append.1 o with x|x
  .exact(h.ev e x).mono k.le
  .exact k.ev e x
 .obtain⟨y,e⟩:=k.hol a b (h.le x) i p;obtain⟨z,q⟩:=h.hol a b x i y;exact⟨z,e.trans q⟩
end
section
variable (G:Nat)(F:ac->Bool)(K:a8->Bool)
def mL{d e:Type}(RA:Ren->d->e->Prop)(ρ:Ren)(w w':ai)(f:Array bj)(g:aL e×Array bj):aL d->Prop
 |lM a w1=>∃b h c new,g=(lM h c,f++new)/\cE G F K ρ w w' b w1 c new/\RA b a h
 |lR (nd v) w1=>∃b v' c new,g=(lR (nd v') c,f++new)/\cE G F K ρ w w' b w1 c new/\VR F b v v'
 |lR (nf _) _=>True
 |lR (nl u) _=>dw u=true
 |lR _ _=>False
def qp{f g:Type}(RA:Ren->f->g->Prop)(ρ:Ren)(w w':ai)(h:Array bj)(i:aL g×Array bj):aL f->Prop
 |lM a w1=>∃b j c new e d,i=(lM j c,h++new)/\cE G F K ρ w w' b (w1.re e d) c new/\RA b a j
 |lR (nd v) w1=>∃b v' c new e d,i=(lR (nd v') c,h++new)/\cE G F K ρ w w' b (w1.re e d) c new/\VR F b v v'
 |lR (nf _) _=>True
 |lR (nl u) _=>dw u=true
 |lR _ _=>False
end
section
variable {T:a9}{fB fA:Array bb}{G:Nat}{F:ac->Bool}{K:a8->Bool}
def mL.step{f g:Type}{RA:Ren->f->g->Prop}{ρ i:Ren}{w w' w1 j:ai}{l new:Array bj}{m:aL g×Array bj}{r:aL f}
 (hs:cE G F K ρ w w' i w1 j new) (h:mL G F K RA i w1 j (l++new) m r):mL G F K RA ρ w w' l m r:=by
 match r,h with
 |lM a w2,⟨b,n,c,d,e,k,o⟩=>exact⟨b,n,c,new++d,by rw[e,fo],hs.trans k,o⟩
 |lR (nd v) w2,⟨b,v',c,d,e,k,hv⟩=>exact⟨b,v',c,new++d,by rw[e,fo],hs.trans k,hv⟩
 |lR nq _,h=>exact h
 |lR ns _,h=>exact h
 |lR (nt _) _,h=>exact h
 |lR (nE _) _,h=>exact h
 |lR (nV _) _,h=>exact h
 |lR n0 _,h=>exact h
 |lR (nl _) _,h=>exact h
 |lR (nf _) _,_=>trivial
def mL.zu{f g:Type}{RA:Ren->f->g->Prop}{ρ:Ren}{w w':ai}{i:Array bj}{j:aL g×Array bj}{r:aL f}(h:mL G F K RA ρ w w' i j r):qp G F K RA ρ w w' i j r:=by
 match r,h with
 |lM a w2,⟨b,l,c,d,e,k,m⟩=>exact⟨b,l,c,d,w2.tape,w2.drawn,e,k,m⟩
 |lR (nd v) w2,⟨b,v',c,d,e,k,hv⟩=>exact⟨b,v',c,d,w2.tape,w2.drawn,e,k,hv⟩
 |lR nq _,h=>exact h
 |lR ns _,h=>exact h
 |lR (nt _) _,h=>exact h
 |lR (nE _) _,h=>exact h
 |lR (nV _) _,h=>exact h
 |lR n0 _,h=>exact h
 |lR (nl _) _,h=>exact h
 |lR (nf _) _,_=>trivial
def qp.step{i j:Type}{RA:Ren->i->j->Prop}{ρ l:Ren}{w w' w1 m:ai}{n new:Array bj}{o:aL j×Array bj}{r:aL i}
 (hs:cE G F K ρ w w' l w1 m new) (h:qp G F K RA l w1 m (n++new) o r):qp G F K RA ρ w w' n o r:=by
 match r,h with
 |lM a w2,⟨b,p,c,f,g,d,e,k,q⟩=>exact⟨b,p,c,new++f,g,d,by rw[e,fo],hs.trans k,q⟩
 |lR (nd v) w2,⟨b,v',c,f,g,d,e,k,hv⟩=>exact⟨b,v',c,new++f,g,d,by rw[e,fo],hs.trans k,hv⟩
 |lR nq _,h=>exact h
 |lR ns _,h=>exact h
 |lR (nt _) _,h=>exact h
 |lR (nE _) _,h=>exact h
 |lR (nV _) _,h=>exact h
 |lR n0 _,h=>exact h
 |lR (nl _) _,h=>exact h
 |lR (nf _) _,_=>trivial
theorem run_store{P:bm}{b:Type}(a:aa)(v:ad)(k:Sem b)(w:ai)(d:∀c,v≠ma c)(e:∀c,v≠my c) :
 (gg n1 a v k).run P w=match w.cell? a with
  |some _=>if w.frozen? a then lR (nl (ky "a write to bytes that a string shares")) w else k.run P (w.setCell a v)
  |none=>match w.farStore P a v false with
   |.ok (w,_)=>k.run P w
   |.error h=>lR h w:=by
 cases v<;>first|rfl|exact absurd rfl (d _)|exact absurd rfl (e _)
def qR{P:bm}{b:Type}(a:aa)(v:ad)(k:Sem b)(w:ai)(es:Array bj)(d:∀c,v≠ma c)(e:∀c,v≠my c) :
 (gg n1 a v k).runT P w es=match w.cell? a with
  |some _=>if w.frozen? a then(lR (nl (ky "a write to bytes that a string shares")) w,es) else k.runT P (w.setCell a v) (es.push ⟨.cell a,true,false⟩)
  |none=>match w.farStore P a v false with
   |.ok (w,f)=>k.runT P w (es++f.toArray.map (⟨.cell ·,true,false⟩))
   |.error h=>(lR h w,es):=by
 cases v<;>first|rfl|exact absurd rfl (d _)|exact absurd rfl (e _)
def mM{ρ:Ren}{w:ai}{a:aa}{o o':Obj}(h:w.heap[a.block]?=some o)(b:OR F K ρ o o')(s:String):w.noCell a s=nf s:=by
 unfold f7;rw[h];cases b<;>rfl
def lF{ρ:Ren}{w w':ai}(i:WR G F K ρ w w'){a a':aa}(e:AR ρ a a') :
 (w.cell? a=none/\∃s:String,∀m,w.farLoad ⟨T,fB⟩ a m=.error (nf s))\/∃v v' c c' t d,w.cell? a=some v/\w'.cell? a'=some v'/\VR F ρ v v'/\a.spot=none/\w.heap[a.block]?=some (mF c t d)/\w'.heap[a'.block]?=some (mF c' t d)/\VA F ρ c c':=by
 obtain⟨o,l,b,g,j⟩:=i.obj e.1
 cases j with
 |@cells c c' t d hc=>
  by_cases hs:a.spot=none
  .rcases VA.get? hc a.off with⟨f,h⟩|⟨v,v',f,h,hv⟩
   .left;refine⟨by simp[f8,b,hs,f],"load: no such cell",λm=>?_⟩;simp only[f9,b,f7]
   .right;refine⟨v,v',c,c',t,d,by simp[f8,b,hs,f],?_,hv,hs,b,g,hc⟩;have k:a'.spot=none:=by rw[<-e.2.2];exact hs
    simp[f8,g,k,<-e.2.1,h]
  .left;refine⟨by simp[f8,b,Option.isSome_iff_ne_none.2 hs],"load: no such cell",λm=>?_⟩;simp only[f9,b,f7]
 |_=>
  left;refine⟨by simp[f8,b],"load: no such cell",λm=>?_⟩;simp only[f9,b,f7]
def FP{ρ:Ren}{w w':ai}(b:ρ.bw G)(c:WR G F K ρ w w')(d:w.tape=w'.tape)(hd:w.drawn=w'.drawn){e:bj}(f:Ls ρ e):cE G F K ρ w w' ρ w w' #[e]:=
 { cE.refl b c d hd with ev:=λx a=>by simp at a;rw[a];exact f }
def wI{ρ:Ren}{w w':ai}(c:WR G F K ρ w w'){a a':aa}(b:AR ρ a a'):w.frozen? a=w'.frozen? a':=by
 obtain⟨o,g,d,e,f⟩:=c.obj b.1;cases f<;>simp[World.frozen?,d,e,b.2.1]
def Lu{ρ:Ren}{w w':ai}(d:WR G F K ρ w w'){r a:Nat}(e:ρ r a):w.shape? r=w'.shape? a:=by
 obtain⟨o,g,b,c,f⟩:=d.obj e
 cases f with
 |cells t h hc=>simp[gc,b,c,VA.size hc]
 |_=>simp[gc,b,c]
def wJ(w:ai)(r a i:Nat)(o:Obj):({ w with heap:=w.heap.setIfInBounds r o }:ai).cell? ⟨a,i,none⟩=if r=a/\r<w.heap.size then(match o with | mF c _ _=>c[i]? | _=>none) else w.cell? ⟨a,i,none⟩:=by
 unfold f8;grind
def tQ(w:ai)(o:Obj)(a i:Nat)(h:a<w.heap.size):({ w with heap:=w.heap.push o }:ai).cell? ⟨a,i,none⟩=w.cell? ⟨a,i,none⟩:=by
 unfold f8;grind
def Hol(w w':ai)(r d:Nat)(o o':Obj):Prop:=∀c t e,o=mF c t e->∃b f a,o'=mF b f a/\∀i,(∃v,c[i]?=some v/\(v=my #[]\/∃c,v=ma c))->nX w r i/\b[i]?=w'.cell? ⟨d,i,none⟩
def vW.hol{w w':ai}{r a:Nat}{o o':Obj}(h:vW o):Hol w w' r a o o':=λc t b e=>absurd e (h c t b)
def lG{ρ:Ren}{w w':ai}(f:ρ.bw G)(k:WR G F K ρ w w')(l:w.tape=w'.tape)(hd:w.drawn=w'.drawn){r g:Nat}(j:ρ r g){o o':Obj}(m:OR F K ρ o o'){new:Array bj}(n:∀e∈new,Ls ρ e)(p:Hol w w' r g o o') :
 cE G F K ρ w w' ρ { w with heap:=w.heap.setIfInBounds r o } { w' with heap:=w'.heap.setIfInBounds g o' } new:=
 ⟨Ren.le_refl _,f,k.put f j m,l,hd,rfl,rfl,rfl,ar,ar,λb _ D=>by
   grind,
   λb E q=>by simp at q;omega,λ_ _ h=>lT h,n,λa b x i d=>by
    unfold nX at d;rw[wJ]at d;by_cases e:r=a
    .subst e;obtain rfl:=f.fn j x;obtain⟨s,u⟩:=k.lt j;rw[if_pos ⟨rfl,s⟩]at d
     cases o with
     |cells c t v=>
      obtain⟨H,I,z,rfl,hc⟩:=p c t v rfl;obtain⟨A,B⟩:=hc i d;refine⟨A,?_⟩;rw[wJ,if_pos ⟨rfl,u⟩];exact B
     |_=>grind
    .rw[if_neg λh=>e h.1]at d;have C:g≠b:=λy=>e (f.inj j (y▸x));refine⟨d,?_⟩
     rw[wJ,if_neg λh=>C h.1]⟩
def CQ{ρ:Ren}{w w':ai}(e:ρ.bw G)(c:WR G F K ρ w w')(f:w.tape=w'.tape)(hd:w.drawn=w'.drawn){o o':Obj}(g:OR F K ρ o o') :
 cE G F K ρ w w' (ρ.ext w.heap.size w'.heap.size) { w with heap:=w.heap.push o } { w' with heap:=w'.heap.push o' } #[]:=
 ⟨Ren.kW _ _ _,e.ext c.fresh.1 c.fresh.2 c.pK c.gN,c.push (g.mono (Ren.kW _ _ _)),f,hd,rfl,rfl,rfl,ar,ar,λb hb _=>by
   grind,
   λb m j=>⟨w.heap.size,lW ⟨rfl,by simp at j;omega⟩⟩,λa b h=>by
    rcases h with h|⟨rfl,rfl⟩
    .exact lT h
    grind,ar,λa b x i d=>by
    obtain⟨k,l⟩:=c.lt x;unfold nX at d;rw[tQ _ _ _ _ k]at d
    exact⟨d,tQ _ _ _ _ l⟩⟩
def CR{w w':ai}{a a':aa}{c c':Array ad}{t b:ag}{d fz':Nat×Nat}(f:w.heap[a.block]?=some (mF c t d))(g:w'.heap[a'.block]?=some (mF c' b fz'))(v v':ad)(j:∀c,v≠ma c)(k:∀c,v≠my c) :
 Hol w w' a.block a'.block (mF (c.setIfInBounds a.off v) t d) (mF (c'.setIfInBounds a.off v') b fz'):=by
 rintro _ _ _ e;cases e;refine⟨_,_,_,rfl,λi hi=>?_⟩;by_cases e:a.off=i
 .grind
 .rw[Array.getElem?_setIfInBounds_ne e]at hi ⊢;refine⟨?_,?_⟩
  .obtain⟨u,hi,h⟩:=hi;refine⟨u,?_,h⟩;show(match w.heap[a.block]? with|some (mF c _ _)=>_|_=>none)=_;rw[f];exact hi
  .show _=(match w'.heap[a'.block]? with|some (mF c _ _)=>_|_=>none)
   rw[g];rfl
def IY{w w':ai}{a a':aa}{c c':Array ad}{t b:ag}{d fz':Nat×Nat}(f:w.heap[a.block]?=some (mF c t d))(g:w'.heap[a'.block]?=some (mF c' b fz'))(u h:Nat×Nat) :
 Hol w w' a.block a'.block (mF c t u) (mF c' b h):=by
 rintro _ _ _ e;cases e;refine⟨_,_,_,rfl,λi hi=>⟨?_,?_⟩⟩
 .obtain⟨u,hi,j⟩:=hi;refine⟨u,?_,j⟩;show(match w.heap[a.block]? with|some (mF c _ _)=>_|_=>none)=_;rw[f];exact hi
 .show _=(match w'.heap[a'.block]? with|some (mF c _ _)=>_|_=>none)
  rw[g];rfl
def bW.Tu{a b:Type}{RA:Ren->a->b->Prop}{ρ:Ren}{w w':ai}{f:Array bj}{g:aL b×Array bj}{s:Sem a}(h:bW T fB s):mL G F K RA ρ w w' f g (s.run ⟨T,fB⟩ w):=by
 obtain⟨x,c,e⟩:=h.run w;have d:=e w.tape w.drawn;rw[show w.re w.tape w.drawn=w from rfl]at d;rw[d]
 cases x with
 |stuck _=>trivial
 |unsupported u=>exact c
 |_=>exact c.elim
def av.run{R S:Type}{RA:Ren->R->S->Prop}{s:Sem R}:∀{ρ:Ren}{s':Sem S}{w w':ai}(d:Array bj),av T fB fA F K RA ρ s s'->ρ.bw T.globals.size->WR T.globals.size F K ρ w w'->w.tape=w'.tape->w.drawn=w'.drawn->
 mL T.globals.size F K RA ρ w w' d (s'.runT ⟨T,fA⟩ w' d) (s.run ⟨T,fB⟩ w):=by
 induction s with
 |pure a=>
  rintro ρ s' w w' d⟨z,rfl,h⟩g b f hd;exact⟨ρ,z,w',#[],by simp[gl],cE.refl g b f hd,h⟩
 |halt h=>
  intro ρ s' w w' d hs g b f hd;cases h<;>first|exact hs|trivial|(obtain⟨v',rfl,hv⟩:=hs;exact⟨ρ,v',w',#[],by simp[gl],cE.refl g b f hd,hv⟩)
 |load m a k j=>
  rintro ρ s' w w' d⟨m',z,k',rfl,rfl,rfl,x,l⟩g b f hd
  rcases lF (T:=T) (fB:=fB) b x with⟨E,s,J⟩|⟨v,v',c,U,t,y,E,J,hv,_⟩
  .simp only[gr,E,J];trivial
  .simp only[gr,E,gl,J];show mL T.globals.size F K RA ρ w w' d ((k' v').runT ⟨T,fA⟩ w' (d.push ⟨.cell z,false,false⟩)) _;exact mL.step (FP g b f hd (e:=⟨.cell z,false,false⟩) ⟨rfl,_,x.1⟩) (by simpa using j v (d.push _) (l v v' hv) g b f hd)
 |store m a v k j=>
  rintro ρ s' w w' d⟨m',z,v',k',rfl,rfl,rfl,x,hv,l⟩g b f hd;have key:(∀c,v≠ma c)->(∀c,v≠my c)->(∀c,v'≠ma c)->(∀c,v'≠my c)->
   mL T.globals.size F K RA ρ w w' d ((gg n1 z v' k').runT ⟨T,fA⟩ w' d) ((gg n1 a v k).run ⟨T,fB⟩ w):=by
   intro O L Q n4;rw[run_store _ _ _ _ O L,qR _ _ _ _ _ Q n4]
   rcases lF (T:=T) (fB:=fB) b x with⟨E,_⟩|⟨u,u',c,U,t,y,E,J,hu,hs,V,W,hc⟩
   .rw[E];obtain⟨o,A,B,H,C⟩:=b.obj x.1;have hf:w.farStore ⟨T,fB⟩ a v false=.error (w.noCell a "store: no such cell"):=by
     cases C<;>simp[gf,B]
    simp only[hf,mM B C];trivial
   .have fR:z.spot=none:=by rw[<-x.2.2];exact hs
    rw[E,J];simp only[<-wI b x];split
    .show dw (ky _)=true;rfl
    .rw[setCell_eq w a _ V hs,setCell_eq w' z _ W fR,<-x.2.1];have X:=lG g b f hd x.1 (.cells t y (VA.set hc a.off hv)) (new:=#[⟨.cell z,true,false⟩]) (λe M=>by simp at M;subst M;exact⟨rfl,_,x.1⟩) (CR V W v v' O L);exact mL.step X (by simpa using j (d.push ⟨.cell z,true,false⟩) l g X.wr f hd)
  cases hv<;>first|trivial|exact key ar ar ar ar
 |new o k j=>
  rintro ρ s' w w' d⟨A,k',rfl,C,l⟩g b f hd;simp only[gr,gl];have hs:=CQ g b f hd C;exact mL.step hs (by simpa using j w.heap.size d (l _ _ b.fresh.1 b.fresh.2 b.pK b.gN) hs.inj hs.wr f hd)
 |shape r k j=>
  rintro ρ s' w w' d(⟨D,k',rfl,I,l⟩|h)g b f hd
  .simp only[gr,gl,<-Lu b I];exact j _ d (l _) g b f hd
  .exact bW.Tu (s:=g8 r k) h
 |freeze a n k j=>
  rintro ρ s' w w' d⟨z,k',rfl,x,l⟩g b f hd;simp only[gr,gl];by_cases P:n=0
  .subst P;have e1:w.freeze a 0=w:=by simp[f6]
   have N:w'.freeze z 0=w':=by simp[f6]
   rw[e1,N];exact j d l g b f hd
  obtain⟨o,A,B,H,C⟩:=b.obj x.1;have idle:∀{w:ai}{a:aa}{o:Obj},w.heap[a.block]?=some o->(∀c t y,o≠mF c t y)->w.freeze a n=w:=by
   intro w a o h bu;unfold f6;rw[if_neg P];obtain⟨heap,_,_,_,_⟩:=w;congr 1;apply Array.ext_getElem?;intro i;rw[Array.getElem?_modify];split
   .rename_i e;subst e;show Option.map _ heap[a.block]?=heap[a.block]?;have h':heap[a.block]?=some o:=h;rw[h'];cases o<;>first|rfl|exact absurd rfl (bu _ _ _)
   .rfl
  cases C with
  |@cells c U t y hc=>
   obtain⟨Y,hi⟩:=y;rw[iz w a n P B,iz w' z n P H,<-x.2.1];have hs:=lG g b f hd x.1 (.cells t (if Y==hi then(a.off,a.off+n) else(min Y a.off,max hi (a.off+n))) hc) (new:=#[]) ar (IY B H _ _);exact mL.step hs (by simpa using j d l g hs.wr f hd)
  |_=>
   rw[idle B ar,idle H ar];exact j d l g b f hd
 |frozen a k j=>
  rintro ρ s' w w' d(⟨z,k',rfl,x,l⟩|h)g b f hd
  .simp only[gr,gl,<-wI b x];exact j _ d (l _) g b f hd
  .exact bW.Tu (s:=g9 a k) h
 |getObj r k j=>
  rintro ρ s' w w' d⟨D,k',rfl,I,l⟩g b f hd;obtain⟨o,A,B,H,C⟩:=b.obj I;have key:(∀c t y,o≠mF c t y)->(∀c t y,A≠mF c t y)->A.isChan=false->
   mL T.globals.size F K RA ρ w w' d ((gt D k').runT ⟨T,fA⟩ w' d) ((gt r k).run ⟨T,fB⟩ w):=by
   intro O L Q;have e1:(gt r k).run ⟨T,fB⟩ w=(k o).run ⟨T,fB⟩ w:=by
    simp only[gr,B]
   have N:(gt D k').runT ⟨T,fA⟩ w' d=(k' A).runT ⟨T,fA⟩ w' (d.push ⟨.obj D,false,false⟩):=by
    simp only[gl,H];cases A<;>first|rfl|exact absurd rfl (L _ _ _)|(simp only[Q])
   rw[e1,N];exact mL.step (FP g b f hd (e:=⟨.obj D,false,false⟩) ⟨rfl,_,I⟩) (by simpa using j o (d.push _) (l o A C) g b f hd)
  cases C with
  |cells t y hc=>simp only[gr,B];trivial
  |_=>exact key ar ar rfl
 |setObj r o k j=>
  rintro ρ s' w w' d⟨D,A,k',rfl,I,⟨C,N8⟩,l⟩g b f hd;obtain⟨p,p',B,H,hp⟩:=b.obj I;have uQ:A.isChan=false:=by cases C<;>rfl
  have key:(∀c t y,p≠mF c t y)->(∀c t y,p'≠mF c t y)->
   mL T.globals.size F K RA ρ w w' d ((gw D A k').runT ⟨T,fA⟩ w' d) ((gw r o k).run ⟨T,fB⟩ w):=by
   intro O L;have e1:(gw r o k).run ⟨T,fB⟩ w=k.run ⟨T,fB⟩ { w with heap:=w.heap.setIfInBounds r o }:=by
    simp only[gr,B]
   have N:(gw D A k').runT ⟨T,fA⟩ w' d=k'.runT ⟨T,fA⟩ { w' with heap:=w'.heap.setIfInBounds D A } (d.push ⟨.obj D,true,false⟩):=by
    simp only[gl,H,uQ]
   rw[e1,N];have hs:=lG g b f hd I C (new:=#[⟨.obj D,true,false⟩]) (λe M=>by simp at M;subst M;exact⟨rfl,_,I⟩) N8.hol;exact mL.step hs (by simpa using j (d.push _) l g hs.wr f hd)
  cases hp with
  |cells t y hc=>simp only[gr,B];trivial
  |_=>exact key ar ar
 |choose q k j=>
  rintro ρ s' w w' d⟨k',rfl,l⟩g b f hd;simp only[gr,gl];split
  .exact j _ d (l _) g b f hd
  .rw[<-f,<-hd];have Z:WR T.globals.size F K ρ { w with drawn:=w.drawn+1 } { w' with drawn:=w.drawn+1 }:=⟨b.pK,b.gN,b.obj⟩
   have hs:cE T.globals.size F K ρ w w' ρ { w with drawn:=w.drawn+1 } { w' with drawn:=w.drawn+1 } #[]:=
    ⟨Ren.le_refl _,g,Z,f,rfl,rfl,rfl,rfl,eM _,eM _,λ_ _ _=>rfl,λ_ E J=>absurd J (Nat.not_lt.2 E),λ_ _ h=>lT h,ar,λ_ _ _ _ h=>⟨h,rfl⟩⟩
   have:=j (q.cut (w.tape w.drawn q)) d (l _) g Z f rfl;exact mL.step hs (by simpa[f]using this)
 |sys c k j=>intro ρ s' w w' d h;exact h.elim
 |program k j=>
  rintro ρ s' w w' d(⟨k',rfl,l⟩|CS)g b f hd
  .simp only[gr,gl];exact j _ d l g b f hd
  .exact bW.Tu (s:=gB k) CS
 |mark m k j=>
  rintro ρ s' w w' d(⟨k',rfl,hm,l⟩|h)g b f hd
  .simp only[gr,gl];exact mL.step (FP g b f hd (e:=⟨.mark m,false,true⟩) hm) (by simpa using j (d.push _) l g b f hd)
  .exact bW.Tu (s:=hh m k) h
end
section
variable {T:a9}{fB fA:Array bb}{F:ac->Bool}{K:a8->Bool}{ρ σ:Ren}
abbrev RV(F:ac->Bool):Ren->ad->ad->Prop:=λρ v v'=>VR F ρ v v'
abbrev fF{b:Type}:Ren->b->b->Prop:=λ_ a c=>a=c
abbrev RVA(F:ac->Bool):Ren->Array ad->Array ad->Prop:=λρ a b=>VA F ρ a b
abbrev RA_:Ren->aa->aa->Prop:=λρ a b=>AR ρ a b
theorem ah{b c:Type}{R:Ren->b->c->Prop}{a:b}{a':c}(h:R ρ a a'):av T fB fA F K R ρ (pure a) (pure a'):=⟨a',rfl,h⟩
theorem af{b c d e:Type}{RA:Ren->b->c->Prop}{g:Ren->d->e->Prop}{s:Sem b}{s':Sem c}{f:b->Sem d}{f':c->Sem e}(i:ρ.bw T.globals.size)(h:av T fB fA F K RA ρ s s')
 (hf:∀σ:Ren,ρ.le σ->σ.bw T.globals.size->∀a a',RA σ a a'->av T fB fA F K g σ (f a) (f' a')):av T fB fA F K g ρ (s >>= f) (s' >>= f'):=av.bind i h hf
theorem ak{a b:Type}{R:Ren->a->b->Prop}{m:String}{s':Sem b}:av T fB fA F K R ρ (stuck m:Sem a) s':=trivial
def aA{a b:Type}{R:Ren->a->b->Prop}{u:bi}{s':Sem b}(c:dw u=true:=by rfl):av T fB fA F K R ρ (bq u:Sem a) s':=c
def bz{a b c:Type}{R:Ren->b->c->Prop}{m:String}{f:a->Sem b}{s':Sem c}:av T fB fA F K R ρ ((stuck m:Sem a) >>= f) s':=trivial
def aM{a b c:Type}{R:Ren->b->c->Prop}{u:bi}{f:a->Sem b}{s':Sem c}(d:dw u=true:=by rfl):av T fB fA F K R ρ ((bq u:Sem a) >>= f) s':=d
def IZ{a a':aa}(h:AR ρ a a'):av T fB fA F K (RV F) ρ (load a) (load a'):=⟨_,_,_,rfl,rfl,rfl,h,λ_ v' hv=>⟨v',rfl,hv⟩⟩
def N9{a a':aa}(h:AR ρ a a'){v v':ad}(hv:VR F ρ v v'):av T fB fA F K fF ρ (store a v) (store a' v'):=⟨_,_,_,_,rfl,rfl,rfl,h,hv,(),rfl,rfl⟩
def jO{o o':Obj}(h:OR F K ρ o o'):av T fB fA F K (λσ r a=>σ r a) ρ (bv o) (bv o'):=⟨_,_,rfl,h,λ_ a _ _ _ _=>⟨a,rfl,Ren.IW _ _ _⟩⟩
def jS{r a:Nat}(h:ρ r a):av T fB fA F K fF ρ (shape r) (shape a):=lT ⟨_,_,rfl,h,λx=>⟨x,rfl,rfl⟩⟩
def pL{a a':aa}(h:AR ρ a a'):av T fB fA F K fF ρ (frozen a) (frozen a'):=lT ⟨_,_,rfl,h,λx=>⟨x,rfl,rfl⟩⟩
def dA{r a:Nat}(h:ρ r a):av T fB fA F K (λσ o o'=>OR F K σ o o') ρ (getObj r) (getObj a):=⟨_,_,rfl,h,λ_ o' b=>⟨o',rfl,b⟩⟩
def dV{r a:Nat}(h:ρ r a){o o':Obj}(b:OR F K ρ o o')(c:vW o:=by intro _ _ _ h;cases h):av T fB fA F K fF ρ (bL r o) (bL a o'):=⟨_,_,_,rfl,h,⟨b,c⟩,(),rfl,rfl⟩
def lH(q:aH):av T fB fA F K fF ρ (bM q) (bM q):=⟨_,rfl,λn=>⟨n,rfl,rfl⟩⟩
def bI{a b:Type}{R:Ren->a->b->Prop}{f:bm->Sem a}{f':bm->Sem b}(h:av T fB fA F K R ρ (f ⟨T,fB⟩) (f' ⟨T,fA⟩)):av T fB fA F K R ρ (program >>= f) (program >>= f'):=lT ⟨_,rfl,h⟩
def Lv:av T fB fA F K fF ρ (mark .noRoom) (mark .noRoom):=lT ⟨_,rfl,rfl,(),rfl,rfl⟩
def FQ(n:Nat):av T fB fA F K fF ρ (bR n) (bR n):=by
 unfold bR;split
 .exact Lv
 .exact ah rfl
def aN{a b:Type}{R:Ren->a->b->Prop}{c:Prop}[Decidable c]{s t:Sem a}{s' d:Sem b}(e:c->av T fB fA F K R ρ s s')(f:¬c->av T fB fA F K R ρ t d):av T fB fA F K R ρ (if c then s else t) (if c then s' else d):=by
 grind
def rT{a b:Type}{R:Ren->a->b->Prop}{v v':ad}(h:VR F ρ v v'):av T fB fA F K R ρ (goPanic v:Sem a) (goPanic v':Sem b):=⟨v',rfl,h⟩
def ee(t:ag):av T fB fA F K fF ρ (bT t) (bT t):=by
 unfold bT;refine bI ?_;grind[ak,ah]
def bk(t:ag):av T fB fA F K fF ρ (b8 t) (b8 t):=by
 unfold b8;refine bI ?_;show(av T fB fA F K) fF ρ (match(ho T fB).underlying t with|some i=>pure i|none=>stuck "no such type") (match(ho T fB).underlying t with|some i=>pure i|none=>stuck "no such type")
 cases(ho T fB).underlying t with
 |none=>exact ak
 |some i=>exact ah rfl
def bN(b:ρ.bw T.globals.size)(t:ag):av T fB fA F K fF ρ (b9 t) (b9 t):=af b (ee t) λ_ _ _ a c h=>ah (by rw[h])
def CU(b:ρ.bw T.globals.size)(t:ag):av T fB fA F K fF ρ (isAgg t) (isAgg t):=by
 refine af b (bk t) λσ _ _ a c h=>?_;subst h;split<;>exact ah rfl
def dM(T:a9)(F:ac->Bool)(Z:ag->Bool):Prop:=(∀t i v,Z t=true->T.info? t=some i->i.zero=some v->VR F (λ_ _=>False) v v)/\∀i,T.info? 0=some i->i.methods.find? (·.name == "")=none
def VR.closed{v:ad}(h:VR F (λ_ _=>False) v v)(ρ:Ren):VR F ρ v v:=h.mono λ_ _ x=>x.elim
def gO{Z:ag->Bool}(b:dM T F Z)(c:ρ.bw T.globals.size){t:ag}(d:Z t=true):av T fB fA F K (λσ v v'=>VR F σ v v'/\v=v') ρ (ca t) (ca t):=by
 unfold ca bT;show(av T fB fA F K) _ ρ ((program >>= λp=>_) >>= _) _;refine af (RA:=λσ(i a:TypeInfo)=>i=a/\T.info? t=some i) c ?_ λσ _ _ i a h=>?_
 .refine bI ?_;grind[ak,ah]
 .obtain⟨rfl,hi⟩:=h
  cases hv:i.zero with
  |none=>simp only;exact aA
  |some v=>simp only;exact ah ⟨VR.closed (b.1 t i v d hi hv) σ,rfl⟩
def tR(f:ρ.bw T.globals.size){a a':aa}(h:AR ρ a a')(n:Nat):∀(i:Nat){b d:Array ad},VA F ρ b d->av T fB fA F K (RVA F) ρ (cb a i n b) (cb a' i n d):=by
 induction n generalizing ρ with
 |zero=>intro i b d e;exact ah e
 |succ n g=>
  intro i b d e;exact af f (IZ (h.add i)) λσ c j v v' hv=>g j (h.mono c) (i+1) (VA.push (VA.mono c e) hv)
def rU(b:ρ.bw T.globals.size){a a':aa}(h:AR ρ a a')(n:Nat):av T fB fA F K (RVA F) ρ (cd a n) (cd a' n):=tR b h n 0 VA.nil
def qD(d:ρ.bw T.globals.size){a a':aa}(h:AR ρ a a'){vs c:List ad}(hv:cU F ρ vs c):∀i:Nat,av T fB fA F K fF ρ (ce a vs i) (ce a' c i):=by
 induction vs generalizing ρ c with
 |nil=>intro i;cases hv;exact ah rfl
 |cons v vs e=>
  intro i
  cases hv with
  |cons f g=>exact af d (N9 (h.add i) f) λσ b j _ _ _=>e j (h.mono b) (cU.mono b g) (i+1)
def wN(e:ρ.bw T.globals.size)(t:ag){a a':aa}(h:AR ρ a a'):av T fB fA F K (RV F) ρ (cf t a) (cf t a'):=by
 refine af e (CU e t) λσ d f b b' hb=>?_;subst hb;refine aN (λ_=>?_) λ_=>IZ (h.mono d);refine af f (bN f t) λk i g n n' j=>?_;subst j;exact af g (rU g ((h.mono d).mono i) n) λ_ _ _ c l hc=>ah (VR.agg hc)
def CV(c:ρ.bw T.globals.size)(t:ag){a a':aa}(h:AR ρ a a'){v v':ad}(hv:VR F ρ v v'):av T fB fA F K fF ρ (ch t a v) (ch t a' v'):=by
 unfold ch;refine af c (bN c t) λσ b d n n' e=>?_;subst e;have hs:=VA.size hv.cells;rw[hs];split
 .exact bz
 .exact qD d (h.mono b) (cU.mono b hv.cells) 0
def tS(a:ρ.bw T.globals.size)(t:ag){c c':Array ad}(h:VA F ρ c c'):av T fB fA F K RA_ ρ (ci t c) (ci t c'):=
 af a (jO (.cells t (0,0) h)) λ_ _ _ _ _ b=>ah ⟨b,rfl,rfl⟩
def zZ(a:ρ.bw T.globals.size)(t:ag){v v':ad}(h:VR F ρ v v'):av T fB fA F K RA_ ρ (newVar t v) (newVar t v'):=tS a t h.cells
def kI(f:ρ.bw T.globals.size)(t:ag){c c':Array ad}(h:VA F ρ c c')(off:Nat):av T fB fA F K (RV F) ρ (part t c off) (part t c' off):=by
 refine af f (CU f t) λσ a g b b' hb=>?_;subst hb;refine aN (λ_=>?_) λ_=>?_
 .refine af g (bN g t) λk i l n n' j=>?_;subst j;exact ah (VR.agg (VA.extract (VA.mono i (VA.mono a h)) _ _))
 .rcases VA.get? (VA.mono a h) off with⟨d,e⟩|⟨v,v',d,e,hv⟩
  .rw[d,e];exact ak
  .rw[d,e];exact ah hv
def jT{v v':ad}(h:VR F ρ v v'):av T fB fA F K fF ρ (asIntOf v) (asIntOf v'):=by
 cases h<;>first|exact ah rfl|exact ak|exact aA
def Oa(b:ρ.bw T.globals.size){v v':ad}(h:VR F ρ v v'):av T fB fA F K fF ρ (asInt v) (asInt v'):=af b (jT h) λ_ _ _ a c e=>ah (by rw[e])
def tU{v v':ad}(h:VR F ρ v v'):av T fB fA F K fF ρ (asBool v) (asBool v'):=by
 cases h<;>first|exact ah rfl|exact ak
def Ob{v v':ad}(h:VR F ρ v v'):av T fB fA F K (RVA F) ρ (asAgg v) (asAgg v'):=by
 cases h<;>first|(rename_i h;exact ah h)|exact ak
def cX{a b:Type}{R:Ren->a->b->Prop}(m:String):av T fB fA F K R ρ (cl (.error m):Sem a) (cl (.error m):Sem b):=by
 unfold cl;exact bI (rT (.iface _ (.string _)))
def zv{a b:Type}{R:Ren->a->b->Prop}(m:String):av T fB fA F K R ρ (cl (.plain m):Sem a) (cl (.plain m):Sem b):=by
 unfold cl;exact bI (rT (.iface _ (.string _)))
def nY{a b:Type}{R:Ren->a->b->Prop}:av T fB fA F K R ρ (cl .nilDeref:Sem a) (cl .nilDeref:Sem b):=by
 unfold cl;exact bI (rT (.iface _ (.string _)))
def nZ{a b:Type}{R:Ren->a->b->Prop}(x y:Int)(s:Bool)(c:cm):av T fB fA F K R ρ (cl (.bounds x y s c):Sem a) (cl (.bounds x y s c):Sem b):=by
 unfold cl;exact bI (rT (.iface _ (.agg (.cons (.int _ _) (.cons (.int _ _) (.cons (.bool _) (.cons (.int _ _) .nil)))))))
def dW(d:ρ.bw T.globals.size){a b:Type}{R:Ren->a->b->Prop}(k:IntKind)(x y:Int)(c:cm):av T fB fA F K R ρ (co k x y c:Sem a) (co k x y c:Sem b):=by
 unfold co;refine aN (λ_=>?_) λ_=>nZ _ _ _ _;exact⟨_,rfl,λn=>nZ _ _ _ _⟩
def z7{v v':ad}(h:VR F ρ v v'):av T fB fA F K RA_ ρ (cq v) (cq v'):=by
 cases h<;>first|exact nY|exact ak|(rename_i h;exact ah h)
def iV{v v':ad}(h:VR F ρ v v'):av T fB fA F K RA_ ρ (hT v) (hT v'):=by
 cases h<;>first|exact ak|(rename_i h;exact ah h)
def Oc{Z:ag->Bool}(c:dM T F Z)(a:ρ.bw T.globals.size){t:ag}(d:Z t=true):av T fB fA F K (RV F) ρ (hV t true (my #[])) (hV t true (my #[])):=by
 unfold hV;refine af a (gO c a d) λσ _ b z f h=>?_;exact af b (zZ b t h.1) λ_ _ _ _ _ e=>ah (.ptr e)
def XY(a:ρ.bw T.globals.size)(t:ag){v v':ad}(h:VR F ρ v v'):av T fB fA F K (RV F) ρ (hX t v) (hX t v'):=
 af a (zZ a t h) λ_ _ _ _ _ b=>ah (.ptr b)
def Lx(a:ρ.bw T.globals.size)(t:ag){v v':ad}(h:VR F ρ v v'):av T fB fA F K (RV F) ρ (hY t v) (hY t v'):=
 af a (iV h) λ_ _ b _ _ c=>wN b t c
def FR(c:ρ.bw T.globals.size)(t:ag){v v' x b:ad}(h:VR F ρ v v')(d:VR F ρ x b):av T fB fA F K fF ρ (hZ t v x) (hZ t v' b):=
 af c (iV h) λ_ a e _ _ f=>CV e t f (d.mono a)
inductive kX(F:ac->Bool)(ρ:Ren):List (Nat×ad)->List (Nat×ad)->Prop
 |nil:kX F ρ [] []
 |cons (i:Nat) {v v':ad} {l l':List (Nat×ad)} (h:VR F ρ v v') (t:kX F ρ l l'):kX F ρ ((i,v)::l) ((i,v')::l')
def kX.mono{l l':List (Nat×ad)}(h:ρ.le σ)(x:kX F ρ l l'):kX F σ l l':=by
 induction x with
 |nil=>exact .nil
 |cons i a _ b=>exact .cons i (a.mono h) b
def Od(off:Nat):∀{l l':List ad}{cs cs':Array ad}(j:Nat),cU F ρ l l'->VA F ρ cs cs'->
 VA F ρ ((l.zipIdx j).foldl (λcs(c,j)=>cs.setIfInBounds (off+j) c) cs) ((l'.zipIdx j).foldl (λcs(c,j)=>cs.setIfInBounds (off+j) c) cs'):=by
 intro l
 induction l with
 |nil=>intro l' cs cs' j h hc;cases h;exact hc
 |cons v l a=>
  intro l' cs cs' j h hc
  cases h with
  |cons b d=>simpa using a (j+1) d (VA.set hc (off+j) b)
def wO(place:Nat->Option (Nat×Nat)):∀{l l':List (Nat×ad)}{cs cs':Array ad},kX F ρ l l'->VA F ρ cs cs'->
 (h6 place cs l=none/\h6 place cs' l'=none)\/∃r a,h6 place cs l=some r/\h6 place cs' l'=some a/\VA F ρ r a:=by
 intro l
 induction l with
 |nil=>intro l' cs cs' h hc;cases h;exact lW ⟨_,_,rfl,rfl,hc⟩
 |cons p l b=>
  intro l' cs cs' h hc
  cases h with
  |@cons i v v' _ l' hv t=>
   simp only[h6]
   cases d:place i with
   |none=>exact lT ⟨rfl,rfl⟩
   |some c=>
    obtain⟨off,size⟩:=c;simp only;rw[<-VA.size hv.cells,<-VA.size hc];split
    .exact lT ⟨rfl,rfl⟩
    .refine b t ?_;have e:=Od (F:=F) (ρ:=ρ) off 0 hv.cells hc;grind [Array.toList_zipIdx]
def FU{d i:Type}(e:ρ.bw T.globals.size){f f':d->Sem i}:∀(l:List d),(∀x∈l,∀σ:Ren,ρ.le σ->σ.bw T.globals.size->av T fB fA F K fF σ (f x) (f' x))->av T fB fA F K fF ρ (l.mapM f) (l.mapM f'):=by
 intro l
 induction l generalizing ρ with
 |nil=>intro _;simp only[List.mapM_nil];exact ah rfl
 |cons x l j=>
  intro h;simp only[eV];refine af e (h x ar ρ (Ren.le_refl _) e) λσ c g a p k=>?_;refine af g (j g λy hy m n o=>h y (by simp[hy]) m (Ren.le_trans c n) o) λ_ _ _ b b' hb=>?_;exact ah (by rw[k,hb])
def CW{b c:Type}(d:ρ.bw T.globals.size){f f':b->Sem c}(l:Array b)(h:∀x∈l.toList,∀σ:Ren,ρ.le σ->σ.bw T.globals.size->av T fB fA F K fF σ (f x) (f' x)):av T fB fA F K fF ρ (l.mapM f) (l.mapM f'):=by
 rw[fp,fp];have:∀(s a:Sem (List c)),av T fB fA F K fF ρ s a->av T fB fA F K fF ρ (Functor.map eW s) (Functor.map eW a):=λs a h=>by
  grind[map_eq_pure_bind,af,ah]
 exact this _ _ (FU d l.toList h)
end
section
variable (T:a9)(f g:Array bb)
def lI(d:Nat):ct ⟨T,f⟩ d=ct ⟨T,g⟩ d:=by
 induction d with
 |zero=>rfl
 |succ d a=>funext t off;simp only[ct,a];rfl
def tV(d:Nat):cv ⟨T,f⟩ d=cv ⟨T,g⟩ d:=by
 induction d with
 |zero=>rfl
 |succ d a=>funext t off;simp only[cv,a];rfl
def rV(d:Nat):cB ⟨T,f⟩ d=cB ⟨T,g⟩ d:=by
 funext e count off bytes;unfold cB;simp only[lI T f g,tV T f g];rfl
def kJ(d:Nat):hr ⟨T,f⟩ d=hr ⟨T,g⟩ d:=by
 induction d with
 |zero=>rfl
 |succ d a=>funext t;simp only[hr,a];rfl
def uR(d:Nat):hw ⟨T,f⟩ d=hw ⟨T,g⟩ d:=by
 induction d with
 |zero=>rfl
 |succ d a=>funext t u;simp only[hw,a]
def vD(t:ag):hG ⟨T,f⟩ t=hG ⟨T,g⟩ t:=by
 simp only[hG,uR T f g];try rfl
def rW(t:ag):hH ⟨T,f⟩ t=hH ⟨T,g⟩ t:=by
 simp only[hH,vD T f g];try rfl
def wP(t:ag):hJ ⟨T,f⟩ t=hJ ⟨T,g⟩ t:=by
 simp only[hJ,uR T f g];try rfl
def Bb(t:ag):hK ⟨T,f⟩ t=hK ⟨T,g⟩ t:=by
 simp only[hK,wP T f g]
def rX(d:Nat):hM ⟨T,f⟩ d=hM ⟨T,g⟩ d:=by
 induction d with
 |zero=>rfl
 |succ d a=>funext t;simp only[hM,a,Bb T f g];rfl
end
section
variable {T:a9}{fB fA:Array bb}{F:ac->Bool}{K:a8->Bool}{ρ σ:Ren}
def Oe{Z:ag->Bool}(v:dM T F Z)(c:ρ.bw T.globals.size){t:ag}(w:Z t=true){ps f:Array (Nat×ad)}(h:kX F ρ ps.toList f.toList):av T fB fA F K (RV F) ρ (h7 t ps) (h7 t f):=by
 unfold h7;refine af c (gO v c w) λσ m y z H A=>?_;refine af y (bk t) λI q l d J hd=>?_;subst hd;have u:=h.mono (Ren.le_trans m q);have g:=VR.cells (A.1.mono q)
 cases d with
 |struct fields=>
  refine af l (CW l fields λx _ σ _ c=>af c (bN c x.type) λ_ _ _ a L e=>ah (by rw[e])) λo j _ B C D=>?_;subst D
  rcases wO (F:=F) (ρ:=o) (B[·]?) (u.mono j) (VA.mono j g) with⟨b,k⟩|⟨r,E,b,k,p⟩
  .simp only[b];exact ak
  .simp only[b,k];exact ah (.agg p)
 |array n elem=>
  refine af l (bN l elem) λo j _ s M hs=>?_;subst hs
  rcases wO (F:=F) (ρ:=o) (λi=>some (i*s,s)) (u.mono j) (VA.mono j g) with⟨b,k⟩|⟨r,E,b,k,p⟩
  .simp only[b];exact ak
  .simp only[b,k];exact ah (.agg p)
 |_=>exact ak
def z8(d:ρ.bw T.globals.size){r c:Nat}(h:ρ r c):av T fB fA F K (λ_ a a'=>a=none/\a'=none) ρ (viewAt r) (viewAt c):=by
 unfold viewAt;refine af d (jS h) λσ b f x i e=>?_;subst e;refine aN (λ_=>ah ⟨rfl,rfl⟩) λ_=>?_;refine af f (dA (b h)) λ_ _ _ o j g=>?_;cases g<;>exact ah ⟨rfl,rfl⟩
def tX(b:ρ.bw T.globals.size){a a':aa}(h:AR ρ a a'):av T fB fA F K fF ρ (cC a) (cC a'):=by
 unfold cC;refine af b (z8 b h.1) λσ c d x f e=>?_;obtain⟨rfl,rfl⟩:=e;exact ah rfl
def uS(f:ρ.bw T.globals.size){r d:Nat}(h:ρ r d) :
 av T fB fA F K (λσ x b=>(x=none/\b=none)\/∃a a' l,x=some (a,l)/\b=some (a',l)/\AR σ a a') ρ (cQ r) (cQ d):=by
 unfold cQ;refine af f (jS h) λσ c g x b e=>?_;subst e;refine aN (λ_=>ah (lT ⟨rfl,rfl⟩)) λ_=>?_;refine af g (dA (c h)) λ_ _ _ o j i=>?_
 cases i with
 |number l a=>exact ah (lW ⟨_,_,l,rfl,rfl,a⟩)
 |_=>exact ah (lT ⟨rfl,rfl⟩)
def gC(f:ρ.bw T.globals.size){a a':aa}(h:AR ρ a a'):av T fB fA F K (λσ x c=>AR σ x.1 c.1/\x.2=c.2) ρ (c8 a) (c8 a'):=by
 unfold c8;refine af f (uS f h.1) λσ d g x c e=>?_
 rcases e with⟨rfl,rfl⟩|⟨b,b',l,rfl,rfl,hb⟩
 .exact ah ⟨h.mono d,rfl⟩
 .exact ah ⟨hb,rfl⟩
def iA(d:ρ.bw T.globals.size){a a':aa}(h:AR ρ a a'):av T fB fA F K fF ρ (byteOf a) (byteOf a'):=by
 unfold byteOf;obtain⟨f,g,i⟩:=h;rw[<-i]
 cases hs:a.spot with
 |some s=>exact ah rfl
 |none=>
  refine bI ?_;refine af d (tX d ⟨f,g,i⟩) λσ c k _ _ _=>?_;refine af k (jS (c f)) λj m o x p e=>?_;subst e
  cases x with
  |none=>exact ak
  |some l=>
   obtain⟨e,n⟩:=l;simp only[<-g,lI T fA fB];show(av T fB fA F K) fF j (if(hN ⟨T,fB⟩ e)=0 then _ else _) (if(hN ⟨T,fB⟩ e)=0 then _ else _);refine aN (λ_=>ah rfl) λ_=>?_;show(av T fB fA F K) fF j (match ct ⟨T,fB⟩ (hO ⟨T,fB⟩) e (a.off % hN ⟨T,fB⟩ e) with|some b=>_|_=>_) (match ct ⟨T,fB⟩ (hO ⟨T,fB⟩) e (a.off % hN ⟨T,fB⟩ e) with|some b=>_|_=>_)
   cases ct ⟨T,fB⟩ (hO ⟨T,fB⟩) e (a.off % hN ⟨T,fB⟩ e) with
   |none=>exact ak
   |some b=>exact ah rfl
def Ly(f:ρ.bw T.globals.size){a a':aa}(h:AR ρ a a')(c b:Nat):av T fB fA F K RA_ ρ (partAt a c b) (partAt a' c b):=by
 unfold partAt;refine af f (iA f h) λσ d g x k e=>?_;subst e;have i:AR σ { block:=a.block,off:=a.off+c } { block:=a'.block,off:=a'.off+c }:=⟨d h.1,by show a.off+c=a'.off+c;rw[h.2.1],rfl⟩
 refine af g (iA g i) λl j _ y y' e=>?_;subst e;refine ah ?_;split
 .exact i.mono j
 .exact⟨j (d h.1),by show a.off+c=a'.off+c;rw[h.2.1],rfl⟩
def zx(c:ρ.bw T.globals.size){a a':aa}(h:AR ρ a a')(f:Field):av T fB fA F K RA_ ρ (c9 a f) (c9 a' f):=by
 unfold c9;refine af c (bN c f.type) λσ b d n n' e=>?_;subst e;exact aN (λ_=>Ly d (h.mono b) _ _) λ_=>ah ((h.mono b).add _)
def FV(g:ρ.bw T.globals.size)(s:ag){v v':ad}(h:VR F ρ v v')(i:Nat):av T fB fA F K (RV F) ρ (h8 s v i) (h8 s v' i):=by
 unfold h8;refine af g (bk s) λσ b j d l e=>?_;subst e
 cases d with
 |struct fields=>
  simp only
  cases fields[i]? with
  |none=>exact ak
  |some f=>
   simp only;refine af j (iV (h.mono b)) λm n c a o k=>?_;exact af c (zx c k f) λ_ _ _ _ _ hb=>ah (.ptr hb)
 |_=>exact ak
def Of(b:ρ.bw T.globals.size)(s:ag){v v':ad}(h:VR F ρ v v')(i:Nat):av T fB fA F K (RV F) ρ (ib s v i) (ib s v' i):=by
 unfold ib;refine af b (bk s) λσ a c d j e=>?_;subst e
 cases d with
 |struct fields=>
  simp only
  cases fields[i]? with
  |none=>exact ak
  |some f=>exact af c (Ob (h.mono a)) λk _ g _ _ hc=>kI g f.type hc f.offset
 |_=>exact ak
def Og(g:ρ.bw T.globals.size)(t:ag){v v' x f:ad}(h:VR F ρ v v')(j:VR F ρ x f):av T fB fA F K (RV F) ρ (ii t v x) (ii t v' f):=by
 unfold ii;refine af g (jT j) λσ c l o p e=>?_;subst e;obtain⟨k,i⟩:=o;refine af l (bk t) λw q a d y e=>?_;subst e;have hv:=h.mono (Ren.le_trans c q)
 cases d with
 |array n elem=>
  cases hv with
  |agg hc=>
   refine aN (λ_=>?_) λ_=>dW a _ _ _ _;refine af a (bN a elem) λz r u m m' e=>?_;subst e;exact kI u elem (VA.mono r hc) _
  |_=>exact ak
 |string=>
  cases hv with
  |string s=>
   simp only
   cases(if 0<=i then s[i.toNat]? else none) with
   |none=>exact dW a _ _ _ _
   |some b=>exact ah (.int _ _)
  |_=>exact ak
 |_=>exact ak
def FW(z:ρ.bw T.globals.size)(t:ag){v v' x y:ad}(h:VR F ρ v v')(A:VR F ρ x y):av T fB fA F K (RV F) ρ (ik t v x) (ik t v' y):=by
 unfold ik;refine af z (jT A) λσ s B C E e=>?_;subst e;obtain⟨k,i⟩:=C;refine af B (bk t) λu H o d M e=>?_;subst e;have hv:=h.mono (Ren.le_trans s H);have b:∀(g:Ren)(p:g.bw T.globals.size)(base q:Option aa)(len:Nat)(elem:ag),
  (base=none/\q=none)\/(∃a j,base=some a/\q=some j/\(AR g a j\/len=0))->av T fB fA F K (RV F) g
  (do
    let w:=len<=1&&(match<-b8 t with | .array ..=>true|_=>false)
    match base with
    |some a=>if 0<=i/\i<len then pure (mc (some (a.add (i.toNat*(<-b9 elem))))) else if w then bq (.noEntry "op/indexAddr.an index out of range at an array of length 0 or 1 (ledger 616)") else co k i len .index
    |none=>co k i 0 .index)
  (do
    let w:=len<=1&&(match<-b8 t with | .array ..=>true|_=>false)
    match q with
    |some a=>if 0<=i/\i<len then pure (mc (some (a.add (i.toNat*(<-b9 elem))))) else if w then bq (.noEntry "op/indexAddr.an index out of range at an array of length 0 or 1 (ledger 616)") else co k i len .index
    |none=>co k i 0 .index):=by
  intro g p base q len elem hb;refine af p (bk t) λN I r O J e=>?_;subst e
  rcases hb with⟨rfl,rfl⟩|⟨a,j,rfl,rfl,f⟩
  .exact dW r _ _ _ _
  .refine aN (λhb=>?_) λ_=>aN (λ_=>aA) λ_=>dW r _ _ _ _
   rcases f with f|rfl
   rotate_left
   .exact absurd hb ar
   refine af r (bN r elem) λP L _ m m' e=>?_;subst e;exact ah (.ptr (((f.mono I).mono L).add _))
 cases d with
 |array n elem=>
  exact af o (iV hv) λg _ p a j f=>b g p (some a) (some j) n elem (lW ⟨_,_,rfl,rfl,lT f⟩)
 |slice elem=>
  cases hv with
  |di l c=>exact b u o none none l elem (lT ⟨rfl,rfl⟩)
  |slice l c f=>exact b u o _ _ l elem (lW ⟨_,_,rfl,rfl,lT f⟩)
  |dK D a=>exact b u o _ _ 0 elem (lW ⟨_,_,rfl,rfl,lW rfl⟩)
  |_=>exact bz
 |_=>exact bz
def FX{v v':ad}(h:VR F ρ v v')(i:Nat):av T fB fA F K (RV F) ρ (il v i) (il v' i):=by
 unfold il
 cases h with
 |tuple hc=>
  rcases VA.get? hc i with⟨a,b⟩|⟨v,v',a,b,hv⟩
  .simp only[a];exact ak
  .simp only[a,b];exact ah hv
 |_=>exact ak
def iQ(b:ρ.bw T.globals.size){x a:ad}(h:VR F ρ x a)(y:Nat)(c:cm):av T fB fA F K fF ρ (im x y c) (im a y c):=by
 unfold im;refine af b (jT h) λσ _ d g f e=>?_;subst e;exact aN (λ_=>ah rfl) λ_=>dW d _ _ _ _
inductive lJ(F:ac->Bool)(ρ:Ren):Option ad->Option ad->Prop
 |none:lJ F ρ none none
 |some {v v':ad} (h:VR F ρ v v'):lJ F ρ (some v) (some v')
def lJ.mono(h:ρ.le σ){o o':Option ad}(x:lJ F ρ o o'):lJ F σ o o':=by
 cases x with
 |none=>exact .none
 |some a=>exact .some (a.mono h)
def eY(d:ρ.bw T.globals.size)(b:Bool)(len cap:Nat){l l' h p m m':Option ad}(hl:lJ F ρ l l')(q:lJ F ρ h p)(s:lJ F ρ m m') :
 av T fB fA F K fF ρ (io b len cap l h m) (io b len cap l' p m'):=by
 unfold io;have k:∀(σ:Ren)(_:σ.bw T.globals.size)(H M:Nat)(l l':Option ad)(full:Bool),lJ F σ l l'->av T fB fA F K fF σ
  (do
    let n<-match l with
     |some v=>im v H (if full then .slice3C else .sliceB)
     |none=>pure 0
    pure (n,H,M))
  (do
    let n<-match l' with
     |some v=>im v H (if full then .slice3C else .sliceB)
     |none=>pure 0
    pure (n,H,M)):=by
  intro σ d H M l l' full hl
  cases hl with
  |none=>exact ah rfl
  |some hv=>exact af d (iQ d hv _ _) λ_ _ _ a u e=>ah (by rw[e])
 cases s with
 |none=>
  refine af (RA:=fF) d (ah rfl) λσ c f M t e=>?_;subst e
  cases q with
  |none=>
   refine af (RA:=fF) f (ah rfl) λg i j H r e=>?_;subst e;exact k g j _ _ _ _ false (hl.mono (Ren.le_trans c i))
  |some hv=>
   refine af (RA:=fF) f (iQ f (hv.mono c) _ _) λg i j H r e=>?_;subst e;exact k g j _ _ _ _ false (hl.mono (Ren.le_trans c i))
 |some o=>
  refine af (RA:=fF) d (iQ d o _ _) λσ c f M t e=>?_;subst e
  cases q with
  |none=>exact bz
  |some hv=>
   refine af (RA:=fF) f (iQ f (hv.mono c) _ _) λg i j H r e=>?_;subst e;exact k g j _ _ _ _ true (hl.mono (Ren.le_trans c i))
def gP(d:ρ.bw T.globals.size){x b:ad}(h:VR F ρ x b)(c:cm):av T fB fA F K (λ_ a a'=>a=0/\a'=0) ρ (im x 0 c) (im b 0 c):=by
 unfold im;refine af d (jT h) λσ _ f i g e=>?_;subst e;refine aN (λh=>ah ?_) λ_=>dW f _ _ _ _;grind
def vE(d:ρ.bw T.globals.size)(b:Bool){l l' h p m m':Option ad}(hl:lJ F ρ l l')(q:lJ F ρ h p)(s:lJ F ρ m m') :
 av T fB fA F K (λ_ a a'=>a=(0,0,0)/\a'=(0,0,0)) ρ (io b 0 0 l h m) (io b 0 0 l' p m'):=by
 unfold io;have k:∀(σ:Ren)(_:σ.bw T.globals.size)(l l':Option ad)(full:Bool),lJ F σ l l'->av T fB fA F K (λ_ a a'=>a=(0,0,0)/\a'=(0,0,0)) σ
  (do
    let n<-match l with
     |some v=>im v 0 (if full then .slice3C else .sliceB)
     |none=>pure 0
    pure (n,0,0))
  (do
    let n<-match l' with
     |some v=>im v 0 (if full then .slice3C else .sliceB)
     |none=>pure 0
    pure (n,0,0)):=by
  intro σ d l l' full hl
  cases hl with
  |none=>exact ah ⟨rfl,rfl⟩
  |some hv=>exact af d (gP d hv _) λ_ _ _ a a' e=>ah aS
 cases s with
 |none=>
  refine af (RA:=λ_ a a'=>a=0/\a'=0) d (ah ⟨rfl,rfl⟩) λσ c f M t e=>?_;obtain⟨rfl,rfl⟩:=e
  cases q with
  |none=>
   refine af (RA:=λ_ a a'=>a=0/\a'=0) f (ah ⟨rfl,rfl⟩) λg i j H r e=>?_;obtain⟨rfl,rfl⟩:=e;exact k g j _ _ false (hl.mono (Ren.le_trans c i))
  |some hv=>
   refine af f (gP f (hv.mono c) _) λg i j H r e=>?_;obtain⟨rfl,rfl⟩:=e;exact k g j _ _ false (hl.mono (Ren.le_trans c i))
 |some o=>
  refine af d (gP d o _) λσ c f M t e=>?_;obtain⟨rfl,rfl⟩:=e
  cases q with
  |none=>exact bz
  |some hv=>
   refine af f (gP f (hv.mono c) _) λg i j H r e=>?_;obtain⟨rfl,rfl⟩:=e;exact k g j _ _ true (hl.mono (Ren.le_trans c i))
def Oi(B:ρ.bw T.globals.size)(t:ag){x w:ad}(p:VR F ρ x w){l l' h y m m':Option ad}(hl:lJ F ρ l l')(i:lJ F ρ h y)(j:lJ F ρ m m') :
 av T fB fA F K (RV F) ρ (ip t x l h m) (ip t w l' y m'):=by
 unfold ip;refine af B (bk t) λσ f g d C e=>?_;subst e;have p:=p.mono f;have hl:=hl.mono f;have i:=i.mono f;have j:=j.mono f
 cases d with
 |string=>
  cases p with
  |string s=>
   cases j with
   |some _=>exact bz
   |none=>
    refine af g (eY g _ _ _ hl i .none) λ_ _ _ a r e=>?_;subst e;exact ah (.string _)
  |_=>exact ak
 |slice elem=>
  cases p with
  |di len cap=>
   refine af g (eY g _ _ _ hl i j) λu k c a r e=>?_;subst e;refine af c (bN c elem) λ_ _ _ n n' e=>?_;subst e;refine ah ?_;show VR F _ (mm (if _ then none else none) _ _) (mm (if _ then none else none) _ _);simp only[ite_self];exact .di _ _
  |slice len cap q=>
   refine af g (eY g _ _ _ hl i j) λu k c a r e=>?_;subst e;refine af c (bN c elem) λ_ o _ n n' e=>?_;subst e;refine ah ?_;split
   .exact .slice _ _ ((q.mono k).mono o)
   .exact .slice _ _ (((q.mono k).mono o).add _)
  |dK D a=>
   refine af g (vE g _ hl i j) λu k c b b' e=>?_;obtain⟨rfl,rfl⟩:=e;refine af c (bN c elem) λ_ o _ n n' e=>?_;subst e;exact ah (.dK D a)
  |_=>exact ak
 |pointer arr=>
  refine af g (z7 p) λu k c a r q=>?_;refine af c (bk arr) λI o z d C e=>?_;subst e
  cases d with
  |array n elem=>
   have v:=Ren.le_trans k o;refine af z (eY z _ _ _ (hl.mono v) (i.mono v) (j.mono v)) λJ E A b b' e=>?_;subst e;refine af A (bN A elem) λ_ H _ n n' e=>?_;subst e;refine ah ?_;have ha':=((q.mono o).mono E).mono H;split
   .exact .slice _ _ ha'
   .exact .slice _ _ (ha'.add _)
  |_=>exact ak
 |_=>exact ak
def FZ(s:ρ.bw T.globals.size)(t:ag){x k:ad}(f:VR F ρ x k){l l' h o m m':Option ad}(hl:lJ F ρ l l')(g:lJ F ρ h o)(i:lJ F ρ m m') :
 av T fB fA F K (RV F) ρ (ix t x l h m) (ix t k l' o m'):=by
 unfold ix;refine af s (bk t) λσ c p d y e=>?_;subst e;have f:=f.mono c;have hl:=hl.mono c;have g:=g.mono c;have i:=i.mono c
 cases d with
 |array n elem=>
  refine af p (iV f) λz j q a A u=>?_;refine af q (eY q _ _ _ (hl.mono j) (g.mono j) (i.mono j)) λB v r b b' e=>?_;subst e;refine af r (bN r elem) λ_ w _ n n' e=>?_;subst e;refine ah ?_;have ha':=(u.mono v).mono w;split
  .exact .slice _ _ ha'
  .exact .slice _ _ (ha'.add _)
 |_=>exact Oi p t f hl g i
theorem oa{d a:Type}:∀(l:List d){ρ:Ren}(_:ρ.bw T.globals.size)(b:a){f f':d->a->Sem (ForInStep a)},
 (∀x∈l,∀σ:Ren,ρ.le σ->σ.bw T.globals.size->∀b,av T fB fA F K fF σ (f x b) (f' x b))->av T fB fA F K fF ρ (forIn l b f) (forIn l b f'):=by
 intro l
 induction l with
 |nil=>intro ρ c b f f' _;exact ah rfl
 |cons x l i=>
  intro ρ c b f f' h;rw[eX,eX];refine af c (h x ar ρ (Ren.le_refl _) c b) λσ g j s k e=>?_;subst e
  cases s with
  |done b=>exact ah rfl
  |yield b=>grind[Ren.le_trans]
def Be{c a:Type}(l:Array c)(d:ρ.bw T.globals.size)(b:a){f f':c->a->Sem (ForInStep a)}
 (h:∀x,∀σ:Ren,ρ.le σ->σ.bw T.globals.size->∀b,av T fB fA F K fF σ (f x b) (f' x b)):av T fB fA F K fF ρ (forIn l b f) (forIn l b f'):=by
 rw[<-ft,<-ft];exact oa l.toList d b λx _=>h x
def oc{a:Type}(n:Nat)(c:ρ.bw T.globals.size)(b:a){f f':Nat->a->Sem (ForInStep a)}
 (h:∀x,∀σ:Ren,ρ.le σ->σ.bw T.globals.size->∀b,av T fB fA F K fF σ (f x b) (f' x b)):av T fB fA F K fF ρ (forIn [0:n] b f) (forIn [0:n] b f'):=by
 grind[Std.Legacy.Range.forIn_eq_forIn_range',oa]
def uT(h:ρ.bw T.globals.size){a a' b b':aa}(i:AR ρ a a')(hb:AR ρ b b'):av T fB fA F K fF ρ (da a b) (da a' b'):=by
 have e1:(a.block==b.block)=(a'.block==b'.block):=by
  rw[jt,beq_iff_eq,beq_iff_eq];exact⟨λe=>h.fn i.1 (e▸hb.1),λe=>h.inj i.1 (e▸hb.1)⟩
 have t:(a==b)=(a'==b'):=by
  rw[jt,beq_iff_eq,beq_iff_eq];exact AR.eq_iff h i hb
 unfold da;rw[e1,t];refine aN (λ_=>ah rfl) λ_=>?_;refine af h (pL i) λσ d m x j e=>?_;subst e;have tail:∀σ:Ren,ρ.le σ->σ.bw T.globals.size->av T fB fA F K fF σ
  (do
    cC a
    cC b
    if<-db a b then return(<-bM (.extern "sameAddr.stringBytes" 2))==1
    pure false)
  (do
    cC a'
    cC b'
    if<-db a' b' then return(<-bM (.extern "sameAddr.stringBytes" 2))==1
    pure false):=by
  intro σ d m;refine af m (tX m (i.mono d)) λf g q _ _ _=>?_;have d:=Ren.le_trans d g;refine af q (tX q (hb.mono d)) λf g r _ _ _=>?_;have d:=Ren.le_trans d g;refine af r (RA:=fF) ?_ λf g s x j e=>?_
  .unfold db;have str:∀(f:Ren)(_:f.bw T.globals.size)(c k:aa),AR f c k->av T fB fA F K fF f (dd c) (dd k):=by
    intro f h c k hc;unfold dd;refine af h (pL hc) λσ d m x j e=>?_;subst e;refine aN (λ_=>ah rfl) λ_=>?_;refine af m (jS (d hc.1)) λf g u y y' e=>?_;subst e
    cases y with
    |none=>exact ah rfl
    |some v=>exact pL ⟨g (d hc.1),rfl,rfl⟩
   have o:∀(f:Ren)(_:f.bw T.globals.size)(c k:aa),AR f c k->av T fB fA F K fF f (do pure ((<-shape c.block) matches some (_,0)):Sem Bool) (do pure ((<-shape k.block) matches some (_,0)):Sem Bool):=by
    intro f h c k hc;exact af h (jS hc.1) λ_ _ _ x j e=>ah (by rw[e])
   refine af r (str _ r a a' (i.mono d)) λf g s x j e=>?_;have d:=Ren.le_trans d g;subst e;refine af s (str _ s b b' (hb.mono d)) λf g p x j e=>?_;have d:=Ren.le_trans d g;subst e;refine af p (o _ p a a' (i.mono d)) λf g l x j e=>?_;have d:=Ren.le_trans d g;subst e;refine af l (o _ l b b' (hb.mono d)) λf g l x j e=>?_;subst e;exact ah rfl
  .subst e;refine aN (λ_=>?_) λ_=>ah rfl;exact⟨_,rfl,λn=>⟨_,rfl,rfl⟩⟩
 refine af m (pL (hb.mono d)) λf g q y y' e=>?_;subst e;refine aN (λ_=>aM) λ_=>?_;exact tail f (Ren.le_trans d g) q
def wT(d:ρ.bw T.globals.size){v v' u c:ad}(h:VR F ρ v v')(k:VR F ρ u c):∀{a a' b b':Option aa},v=mc a->v'=mc a'->u=mc b->c=mc b'->av T fB fA F K fF ρ (df a b) (df a' b'):=by
 rintro a a' b b' rfl rfl rfl rfl
 cases h with
 |dS=>cases k<;>exact ah rfl
 |ptr e=>
  cases k with
  |dS=>exact ah rfl
  |ptr hb=>exact uT d e hb
def F0(a:ρ.bw T.globals.size)(t:ag):av T fB fA F K fF ρ (dk t) (dk t):=by
 unfold dk;refine af a (ee t) λσ _ _ i b e=>?_;subst e;exact aN (λ_=>aA) λ_=>ah rfl
set_option maxHeartbeats 8000000 in
def qS:∀(d:Nat){ρ:Ren}(_:ρ.bw T.globals.size)(t:ag){x x' y y':ad}(_:VR F ρ x x')(_:VR F ρ y y'),av T fB fA F K fF ρ (jH d t x y) (jH d t x' y'):=by
 intro d
 induction d with
 |zero=>intro ρ hI t x x' y y' _ _;exact aA
 |succ d ih=>
  intro ρ hI t x x' y y' hx hy;unfold jH;refine af hI (bk t) λσ hle bC ds ds' e=>?_;subst e;have hx:=hx.mono hle;have hy:=hy.mono hle
  cases ds with
  |bool=>cases hx<;>cases hy<;>first|exact ah rfl|exact ak
  |int k=>
   cases hx with
   |int k n=>
    cases hy with
    |int k' m=>exact aN (λ_=>ah rfl) λ_=>ak
    |dS=>exact aA
    |ptr _=>
     by_cases hn:n=0
     .subst hn;exact ah rfl
     .cases n with
      |ofNat n=>cases n with
       |zero=>exact absurd rfl hn
       |succ n=>exact aA
      |negSucc n=>exact aA
    |_=>exact ak
   |dS=>cases hy<;>exact aA
   |ptr ha=>
    cases hy with
    |int k' m=>
     by_cases hn:m=0
     .subst hn;exact ah rfl
     .cases m with
      |ofNat n=>cases n with
       |zero=>exact absurd rfl hn
       |succ n=>exact aA
      |negSucc n=>exact aA
    |ptr hb=>
     refine af bC (gC bC ha) λτ aI gE a a' ha=>?_;refine af gE (gC gE (hb.mono aI)) λυ gp iP b b' hb=>?_;have ha:=ha.1;have hb:=hb.1;have ha:=ha.mono gp;refine bI ?_;have e1:(a.1.block==b.1.block)=(a'.1.block==b'.1.block):=by
      rw[jt,beq_iff_eq,beq_iff_eq];exact⟨λe=>iP.fn ha.1 (e▸hb.1),λe=>iP.inj ha.1 (e▸hb.1)⟩
     have e2:(a.1==b.1)=(a'.1==b'.1):=by
      rw[jt,beq_iff_eq,beq_iff_eq];exact AR.eq_iff iP ha hb
     have e3:decide (a.1.block<T.globals.size)=decide (a'.1.block<T.globals.size):=by
      rw[decide_eq_decide];exact iP.XS ha.1
     have rest:∀(φ:Ren),υ.le φ->φ.bw T.globals.size->av T fB fA F K fF φ
      (do
        let .named "sync.copyChecker" _:=(<-bT t).desc|unsupported kx
        if a.1==b.1 then pure true else bq kx)
      (do
        let .named "sync.copyChecker" _:=(<-bT t).desc|unsupported kx
        if a'.1==b'.1 then pure true else bq kx):=by
      intro φ _ hIf;refine af hIf (ee t) λχ _ _ i i' e=>?_;subst e;rw[e2];split
      .exact aN (λ_=>ah rfl) λ_=>aA
      .exact aA
     simp only[e1];show(av T fB fA F K) fF υ (if(_&&decide (a.1.block<T.globals.size))=true then _ else _) (if(_&&decide (a'.1.block<T.globals.size))=true then _ else _);rw[e3];refine aN (λ_=>?_) λ_=>rest υ (Ren.le_refl _) iP;refine af iP (iA iP ha) λφ kY qq z z' e=>?_;subst e;refine af qq (iA qq (hb.mono kY)) λ_ _ _ z z' e=>?_;subst e;exact ah rfl
    |_=>exact aA
   |_=>cases hy<;>first|exact ak|exact aA
  |float k=>
   cases hx<;>cases hy<;>first|exact aN (λ_=>ah rfl) (λ_=>ak)|exact ak
  |complex k=>
   cases hx<;>cases hy<;>first|exact aN (λ_=>ah rfl) (λ_=>ak)|exact ak
  |string=>cases hx<;>cases hy<;>first|exact ah rfl|exact ak
  |pointer elem=>
   cases hx with
   |dS=>cases hy<;>first|exact ah rfl|exact ak
   |ptr ha=>
    cases hy with
    |dS=>exact ah rfl
    |ptr hb=>
     refine af bC (bN bC elem) λτ aI gE n n' e=>?_;subst e;refine aN (λ_=>uT gE (ha.mono aI) (hb.mono aI)) λ_=>?_;have e2:(_==_)=(_==_):=Bool.eq_iff_iff.2 ((beq_iff_eq.trans (AR.eq_iff gE (ha.mono aI) (hb.mono aI))).trans beq_iff_eq.symm);rw[e2];refine aN (λ_=>ah rfl) λ_=>?_;exact⟨_,rfl,λn=>⟨_,rfl,rfl⟩⟩
    |_=>exact ak
   |_=>cases hy<;>exact ak
  |unsafePointer=>
   cases hx<;>cases hy<;>first|exact ak|(refine wT bC ?_ ?_ rfl rfl rfl rfl<;>(constructor<;>assumption))
  |chan _ _=>cases hx<;>cases hy<;>exact ak
  |interface ms=>
   cases hx with
   |nilIface=>cases hy<;>first|exact ah rfl|exact ak
   |iface tx hvx=>
    cases hy with
    |nilIface=>exact ah rfl
    |iface ty hvy=>
     refine aN (λ_=>ah rfl) λ_=>?_;refine af bC (ee tx) λτ aI gE i i' e=>?_;subst e;refine aN (λ_=>?_) λ_=>ih gE tx (hvx.mono aI) (hvy.mono aI);refine bI ?_;refine bI ?_;rw[rX T fA fB];show(av T fB fA F K) fF τ (if(hM ⟨T,fB⟩ (hO ⟨T,fB⟩) tx)=true then _ else _) (if(hM ⟨T,fB⟩ (hO ⟨T,fB⟩) tx)=true then _ else _);refine aN (λ_=>aM) λ_=>?_;refine af gE (F0 gE tx) λυ _ _ z z' e=>?_;subst e;exact cX _
    |_=>exact ak
   |_=>cases hy<;>exact ak
  |struct fields=>
   cases hx with
   |agg Tw=>
    cases hy with
    |agg hys=>
     refine bI ?_;rw[rW T fA fB];refine aN (λ_=>aM) λ_=>?_;refine af bC (Be fields bC _ λf τ aI gE b=>?_) λυ _ _ z z' e=>?_
     .refine aN (λ_=>?_) λ_=>ah rfl;refine af gE (kI gE f.type (VA.mono aI Tw) f.offset) λυ gp iP p p' hp=>?_;refine af iP (kI iP f.type (VA.mono gp (VA.mono aI hys)) f.offset) λφ kY qq q q' hq=>?_;refine af qq (ih qq f.type (hp.mono kY) hq) λ_ _ _ z z' e=>?_;subst e;exact aN (λ_=>ah rfl) λ_=>ah rfl
     .subst e;obtain⟨z1,z2⟩:=z;cases z1<;>exact ah rfl
    |_=>exact ak
   |_=>cases hy<;>exact ak
  |array len elem=>
   cases hx with
   |agg Tw=>
    cases hy with
    |agg hys=>
     refine af bC (bN bC elem) λτ0 X2 hI0 n n' e=>?_;subst e;have Tw:=VA.mono X2 Tw;have hys:=VA.mono X2 hys;refine af hI0 (oc len hI0 _ λi τ aI gE b=>?_) λυ _ _ z z' e=>?_
     .refine af gE (kI gE elem (VA.mono aI Tw) (i*n)) λυ gp iP p p' hp=>?_;refine af iP (kI iP elem (VA.mono gp (VA.mono aI hys)) (i*n)) λφ kY qq q q' hq=>?_;refine af qq (ih qq elem (hp.mono kY) hq) λ_ _ _ z z' e=>?_;subst e;exact aN (λ_=>ah rfl) λ_=>ah rfl
     .subst e;obtain⟨z1,z2⟩:=z;cases z1<;>exact ah rfl
    |_=>exact ak
   |_=>cases hy<;>exact ak
  |slice _=>cases hx<;>cases hy<;>first|exact ah rfl|exact ak
  |map _ _=>cases hx<;>cases hy<;>first|exact ah rfl|exact ak
  |func _ _ _=>cases hx<;>cases hy<;>first|exact ah rfl|exact ak
  |_=>cases hx<;>cases hy<;>exact ak
def CX(a:ρ.bw T.globals.size)(d:Nat)(t:ag):av T fB fA F K fF ρ (jM d t mf mf) (jM d t mf mf):=by
 cases d with
 |zero=>exact aA
 |succ d=>
  unfold jM;refine af a (bk t) λσ b f ds c e=>?_;subst e;cases ds<;>exact ah rfl
def F1(d:ρ.bw T.globals.size)(op:dp)(t:ag)(x y:dq){a a' b b':ad}(f:VR F ρ a a')(hb:VR F ρ b b')(g:a≠my #[])(c:b≠my #[])
 (hg:(op matches .eql | .neq)=true->hr ⟨T,fB⟩ (hO ⟨T,fB⟩) t=false):av T fB fA F K fF ρ (dt op t x y a b) (dt op t x y a' b'):=by
 unfold dt;refine aN (λ_=>ah rfl) λj=>?_;have h:hr ⟨T,fB⟩ (hO ⟨T,fB⟩) t=false:=hg aS
 cases f with
 |nilIface=>
  cases hb with
  |nilIface=>
   refine aN (λ_=>ah rfl) λ_=>?_;refine af d (CX d _ t) λ_ _ _ z k e=>?_;subst e;exact aN (λ_=>aA) λ_=>ah rfl
  |hole=>exact absurd rfl c
  |_=>exact ah rfl
 |agg l=>
  cases hb with
  |agg i=>
   refine bI (bI ?_);rw[kJ T fA fB];show(av T fB fA F K) fF ρ (if(!hr ⟨T,fB⟩ (hO ⟨T,fB⟩) t)=true then _ else _) (if(!hr ⟨T,fB⟩ (hO ⟨T,fB⟩) t)=true then _ else _);rw[h];exact ah rfl
  |hole=>exact absurd rfl c
  |_=>exact ah rfl
 |hole=>exact absurd rfl g
 |_=>cases hb with
  |hole=>exact absurd rfl c
  |_=>exact ah rfl
def uU(op:dp)(k:IntKind)(a b:Int):av T fB fA F K (RV F) ρ (jQ op k a b) (jQ op k a b):=by
 cases op<;>first|exact ah (.int _ _)|exact ak
def Lz(op:dp)(a b:Int):av T fB fA F K (RV F) ρ (jR op a b) (jR op a b):=by
 cases op<;>first|exact ah (.bool _)|exact ak
def wU(op:dp)(k:IntKind)(a b:Int):av T fB fA F K (RV F) ρ (jX op k a b) (jX op k a b):=by
 cases op<;>first|exact ah (.int _ _)|exact ak
def LA(op:dp)(k:IntKind)(a b:Int):av T fB fA F K (RV F) ρ (j1 op k a b) (j1 op k a b):=by
 unfold j1;refine aN (λ_=>cX _) λ_=>?_;cases op<;>first|exact ah (.int _ _)|exact ak
def CY(op:dp)(k j:IntKind)(a b:Int):av T fB fA F K (RV F) ρ (j2 op k a j b) (j2 op k a j b):=by
 unfold j2;refine aN (λ_=>cX _) λ_=>?_;cases op<;>first|exact ah (.int _ _)|exact ak
def oe(op:dp)(a b:ByteArray):av T fB fA F K (RV F) ρ (j3 op a b) (j3 op a b):=by
 unfold j3;cases op<;>first|exact aN (λ_=>aA) (λ_=>ah (.string _))|exact ah (.bool _)|exact ak
def RP:Ren->ad->ad->Prop:=λρ v v'=>∃a b,v=mc (some a)/\v'=mc (some b)/\AR ρ a b
def uV(j:ρ.bw T.globals.size){x f y y':ad}(g:VR F ρ x f)(hy:VR F ρ y y')(ts:Array ag)(t:ag):av T fB fA F K RP ρ (kg ts t #[x,y]) (kg ts t #[f,y']):=by
 unfold kg;have main:∀{p k:Option aa},x=mc p->f=mc k->av T fB fA F K RP ρ (kg ts t #[x,y]) (kg ts t #[f,y']):=by
  rintro p k rfl rfl;unfold kg;refine af j (Oa j hy) λσ b h n n' e=>?_;subst e;refine aN (λ_=>?_) λ_=>?_
  .cases g with
   |dS=>first|exact aA|exact aM
   |ptr d=>
    refine af h (z8 h (b d.1)) λl i _ z m e=>?_;obtain⟨rfl,rfl⟩:=e;exact ah ⟨_,_,rfl,rfl,(d.mono b).mono i⟩
  .refine aN (λ_=>aM) λ_=>?_
   cases g with
   |dS=>first|exact aA|exact aM
   |@ptr a o d=>
    refine af h (jS (b d.1)) λl i _ z m e=>?_;subst e
    cases z with
    |none=>first|exact aA|exact aM
    |some c=>
     refine bI ?_;have ha':=(d.mono b).mono i;rw[rV T fA fB,<-ha'.2.1];show(av T fB fA F K) RP l (match cB ⟨T,fB⟩ (hO ⟨T,fB⟩) c.1 (c.2 / hN ⟨T,fB⟩ c.1) a.off n with|some off=>_|none=>_) (match cB ⟨T,fB⟩ (hO ⟨T,fB⟩) c.1 (c.2 / hN ⟨T,fB⟩ c.1) a.off n with|some off=>_|none=>_)
     cases cB ⟨T,fB⟩ (hO ⟨T,fB⟩) c.1 (c.2 / hN ⟨T,fB⟩ c.1) a.off n with
     |none=>exact aA
     |some off=>exact ah ⟨_,_,rfl,rfl,ha'.1,rfl,ha'.2.2⟩
 cases g with
 |dS=>exact main rfl rfl
 |ptr d=>exact main rfl rfl
 |_=>first|exact ak|exact bz
def CZ(b:ρ.bw T.globals.size){a a':aa}(h:AR ρ a a')(l:Bool):av T fB fA F K (RV F) ρ (asNumber a l) (asNumber a' l):=
 af b (jO (.number l h)) λ_ _ _ _ _ c=>ah (.ptr ⟨c,rfl,rfl⟩)
def gQ(c:ρ.bw T.globals.size){x b y y':ad}(d:VR F ρ x b)(hy:VR F ρ y y')(ts:Array ag)(t:ag):av T fB fA F K (RV F) ρ (kg ts t #[x,y]) (kg ts t #[b,y']):=
 (uV c d hy ts t).mono λσ _ a f⟨_,_,e1,e,h⟩=>by rw[e1,e];exact .ptr h
def eZ(j:ρ.bw T.globals.size)(t:ag){x g y y':ad}(f:VR F ρ x g)(hy:VR F ρ y y'):av T fB fA F K (RV F) ρ (du t x y) (du t g y'):=by
 unfold du;refine af j (bk t) λσ a b d s e=>?_;subst e;refine aN (λ_=>aM) λ_=>?_;have f:=f.mono a;have hy:=hy.mono a
 cases f with
 |ptr k=>
  refine af b (gC b k) λu l i z m c=>?_;obtain⟨z1,v⟩:=z;obtain⟨n,o⟩:=m;obtain⟨c,e⟩:=c;simp only at c e;subst e;refine af i (uV i (.ptr c) (hy.mono l) _ _) λw A p q B r=>?_;obtain⟨_,_,rfl,rfl,hb⟩:=r;exact CZ p hb _
 |dS=>exact gQ b .dS hy _ _
 |hole _ h=>exact ak
 |_=>exact gQ b (by first|exact .wG _ _ _|exact .dK _ _|(constructor<;>assumption)) hy _ _
def vF(a:ρ.bw T.globals.size)(t:ag){x c y y':ad}(f:VR F ρ x c)(hy:VR F ρ y y'):av T fB fA F K (RV F) ρ (dv t x y) (dv t c y'):=by
 unfold dv
 cases f with
 |ptr d=>
  refine af a (uS a d.1) λj e g z k i=>?_
  rcases i with⟨rfl,rfl⟩|⟨b,b',l,rfl,rfl,hb⟩
  .exact gQ g (.ptr (d.mono e)) (hy.mono e) #[] t
  .exact aA
 |dS=>exact gQ a .dS hy #[] t
 |hole _ h=>exact ak
 |_=>exact gQ a (by first|exact .wG _ _ _|exact .dK _ _|(constructor<;>assumption)) hy #[] t
def rY(c:ρ.bw T.globals.size){a a' b b':aa}(d:AR ρ a a')(hb:AR ρ b b'):av T fB fA F K fF ρ (j4 a b) (j4 a' b'):=by
 unfold j4;refine bI ?_;have e1:(a.block != b.block)=(a'.block != b'.block):=by
  simp only[bne];congr 1;rw[jt,beq_iff_eq,beq_iff_eq];exact⟨λe=>c.fn d.1 (e▸hb.1),λe=>c.inj d.1 (e▸hb.1)⟩
 have g:decide (a.block>=T.globals.size)=decide (a'.block>=T.globals.size):=by
  rw[decide_eq_decide];have:=c.XS d.1;omega
 show(av T fB fA F K) fF ρ (if(_||decide (a.block>=T.globals.size))=true then _ else _) (if(_||decide (a'.block>=T.globals.size))=true then _ else _);rw[e1,g];refine aN (λ_=>aM) λ_=>?_;refine af c (iA c d) λj h f z i e=>?_;subst e;refine af f (iA f (hb.mono h)) λ_ _ _ z i e=>?_;subst e;exact ah rfl
def qT(f:ρ.bw T.globals.size)(k:IntKind){a a':aa}(c:AR ρ a a')(n:Int):av T fB fA F K (RV F) ρ (j5 k a n) (j5 k a' n):=by
 unfold j5;refine af f (jS c.1) λσ b g z h e=>?_;subst e
 cases z with
 |none=>exact aA
 |some j=>
  refine af g (ee j.1) λm l d i o e=>?_;subst e;refine aN (λ_=>aM) λ_=>?_;refine af d (iA d ((c.mono b).mono l)) λ_ _ _ z h e=>?_;subst e;exact ah (.int _ _)
def mN(c:ρ.bw T.globals.size)(op:dp){a a' b b':aa}(d:AR ρ a a')(hb:AR ρ b b'):av T fB fA F K (RV F) ρ (j6 op a b) (j6 op a' b'):=by
 unfold j6;refine af c (rY c d hb) λ_ _ _ z f e=>?_;subst e;obtain⟨x,y⟩:=z;cases op<;>first|exact ah (.bool _)|exact aA
def F2(c:ρ.bw T.globals.size)(k:IntKind){a a' b b':aa}(d:AR ρ a a')(hb:AR ρ b b'):av T fB fA F K (RV F) ρ (ka k a b) (ka k a' b'):=by
 unfold ka;refine af c (rY c d hb) λ_ _ _ z f e=>?_;subst e;exact ah (.int _ _)
def wV{d e:Type}{R:Ren->d->e->Prop}(g:ρ.bw T.globals.size){a a' b b':aa}(l:AR ρ a a')(hb:AR ρ b b'){f:aa->aa->Sem d}{c:aa->aa->Sem e}
 (h:∀(σ:Ren),ρ.le σ->σ.bw T.globals.size->∀a a' b b',AR σ a a'->AR σ b b'->av T fB fA F K R σ (f a b) (c a' b')) :
 av T fB fA F K R ρ (do f (<-c8 a).1 (<-c8 b).1) (do c (<-c8 a').1 (<-c8 b').1):=by
 refine af g (gC g l) λp i j z q m=>?_;refine af j (gC j (hb.mono i)) λn k o y y' hy=>?_;exact h n (Ren.le_trans i k) o _ _ _ _ (m.1.mono k) hy.1
set_option maxHeartbeats 1000000 in
def Oj(hI:ρ.bw T.globals.size)(op:dp)(t:ag){a a' b b':ad}(ha:VR F ρ a a')(hb:VR F ρ b b')(na:a≠my #[])(nb:b≠my #[]):av T fB fA F K (RV F) ρ (binOp op t a b) (binOp op t a' b'):=by
 have eqs:av T fB fA F K (RV F) ρ (do pure (l5 (<-kb t a b)):Sem ad) (do pure (l5 (<-kb t a' b')):Sem ad):=
  af hI (qS _ hI t ha hb) λ_ _ _ z z' e=>ah (by rw[e];exact .bool _)
 have neqs:av T fB fA F K (RV F) ρ (do pure (l5 (!(<-kb t a b))):Sem ad) (do pure (l5 (!(<-kb t a' b'))):Sem ad):=
  af hI (qS _ hI t ha hb) λ_ _ _ z z' e=>ah (by rw[e];exact .bool _)
 have plus:∀{x x' y y':ad},VR F ρ x x'->VR F ρ y y'->av T fB fA F K (RV F) ρ (do if(<-b8 t) matches .unsafePointer then dv t x y else du t x y:Sem ad) (do if(<-b8 t) matches .unsafePointer then dv t x' y' else du t x' y':Sem ad):=by
  intro x x' y y' hx hy;refine af hI (bk t) λσ hle bC d d' e=>?_;subst e;exact aN (λ_=>vF bC t (hx.mono hle) (hy.mono hle)) λ_=>eZ bC t (hx.mono hle) (hy.mono hle)
 by_cases h1:∃k i j l,a=l6 k i/\b=l6 j l
 .obtain⟨k,i,j,l,rfl,rfl⟩:=h1;cases ha;cases hb
  cases op with
  |shl=>unfold binOp;exact CY _ _ _ _ _
  |shr=>unfold binOp;exact CY _ _ _ _ _
  |_=>
   unfold binOp;refine aN (λ_=>ak) λ_=>?_
   first|exact uU _ _ _ _|exact LA _ _ _ _|exact wU _ _ _ _|exact Lz _ _ _
 by_cases h2:∃s u,a=l7 s/\b=l7 u
 .obtain⟨s,u,rfl,rfl⟩:=h2;cases ha;cases hb;cases op<;>(unfold binOp;exact oe _ _ _)
 by_cases he:op=.eql
 .subst he;cases ha<;>cases hb<;>first|exact absurd rfl na|exact absurd rfl nb|exact eqs|grind|grind
 by_cases hn:op=.neq
 .subst hn;cases ha<;>cases hb<;>first|exact absurd rfl na|exact absurd rfl nb|exact neqs|grind|grind
 generalize fR:binOp op t a' b'=s';unfold binOp;split
 .grind
 .grind
 .grind
 .cases ha
 .cases ha
 .grind
 .exact absurd rfl he
 .exact absurd rfl hn
 .cases hb;cases ha<;>(subst fR;first|exact plus .dS (.int _ _)|exact plus (.ptr ba) (.int _ _))
 .cases ha;cases hb<;>(subst fR;first|exact eZ hI t .dS (.int _ _)|exact eZ hI t (.ptr ba) (.int _ _))
 .cases hb;cases ha<;>(subst fR;first|exact eZ hI t .dS (.int _ _)|exact eZ hI t (.ptr ba) (.int _ _))
 .cases ha;cases hb;subst fR;exact wV hI ba ba λσ _ bC a a' b b' ha hb=>F2 bC _ ha hb
 .cases ha;cases hb;subst fR;exact wV hI ba ba λσ _ bC a a' b b' ha hb=>mN bC _ ha hb
 .cases ha;cases hb;subst fR;exact wV hI ba ba λσ _ bC a a' b b' ha hb=>mN bC _ ha hb
 .cases ha;cases hb;subst fR;exact wV hI ba ba λσ _ bC a a' b b' ha hb=>mN bC _ ha hb
 .cases ha;cases hb;subst fR;exact wV hI ba ba λσ _ bC a a' b b' ha hb=>mN bC _ ha hb
 .cases ha;cases hb;subst fR;exact af hI (gC hI ba) λ_ _ bC z z' hz=>qT bC _ hz.1 _
 .cases ha;cases hb;subst fR;exact af hI (gC hI ba) λ_ _ bC z z' hz=>qT bC _ hz.1 _
 .cases ha;cases hb;subst fR;exact af hI (gC hI ba) λ_ _ bC z z' hz=>qT bC _ hz.1 _
 .exact aA
 .exact aA
 .exact ak
def wX{a:Type}(t:ag)(g:dx->Sem a):gy (b8 t) g=gB λp=>match p.underlying t with|some d=>g d|none=>stuck "no such type":=by
 show gB _=gB _;congr 1;funext p;show gy (match p.underlying t with|some d=>pure d|none=>stuck "no such type") g=_;cases p.underlying t<;>rfl
def Ol(t:ag)(b:ad):bW T fB (kb t (my #[]) b):=by
 unfold kb kc jH;show bW T fB (gy (b8 t) _);rw[wX];show bW T fB (match hS ⟨T,fB⟩ t with|some d=>_|none=>stuck "no such type")
 cases hS ⟨T,fB⟩ t with
 |none=>trivial
 |some d=>cases d<;>first
  |trivial
  |(cases b<;>first|trivial|rfl|(rename_i o;cases o<;>first|trivial|rfl)|(rename_i o _ _;cases o<;>first|trivial|rfl))
def Om(t:ag)(b:ad):bW T fB (kb t b (my #[])):=by
 unfold kb kc jH;show bW T fB (gy (b8 t) _);rw[wX];show bW T fB (match hS ⟨T,fB⟩ t with|some d=>_|none=>stuck "no such type")
 cases hS ⟨T,fB⟩ t with
 |none=>trivial
 |some d=>cases d<;>first
  |trivial
  |(cases b<;>first|trivial|rfl|(rename_i o;cases o<;>first|trivial|rfl)|(rename_i o _ _;cases o<;>first|trivial|rfl))
def X3{a c:Type}{R:Ren->a->c->Prop}(t:ag)(b:ad)(f:Bool->Sem a)(s':Sem c):av T fB fA F K R ρ (kb t (my #[]) b >>= f) s':=bW.rel (bW.bind (Ol t b)) s'
def X4{a c:Type}{R:Ren->a->c->Prop}(t:ag)(b:ad)(f:Bool->Sem a)(s':Sem c):av T fB fA F K R ρ (kb t b (my #[]) >>= f) s':=bW.rel (bW.bind (Om t b)) s'
def F6(d:ρ.bw T.globals.size)(op:dp)(t:ag)(x y:dq){a a' b b':ad}(g:VR F ρ a a')(hb:VR F ρ b b')
 (hg:(op matches .eql | .neq)=true->hr ⟨T,fB⟩ (hO ⟨T,fB⟩) t=false):av T fB fA F K (RV F) ρ (do dt op t x y a b;binOp op t a b) (do dt op t x y a' b';binOp op t a' b'):=by
 by_cases e:a=my #[]
 .subst e;generalize(do dt op t x y a' b';binOp op t a' b')=h;cases op<;>first
   |exact X3 t b _ _
   |(cases b<;>first|exact ak|exact(show dw kx=true from rfl)|(rename_i o;cases o<;>first|exact ak|exact(show dw kx=true from rfl)))
 by_cases f:b=my #[]
 .subst f;generalize(do dt op t x y a' b';binOp op t a' b')=h;cases op<;>first
   |(cases a<;>exact X4 t _ _ _)
   |(cases a<;>first|exact ak|exact(show dw kx=true from rfl)|(rename_i o;cases o<;>first|exact ak|exact(show dw kx=true from rfl)))
 exact af d (F1 d op t x y g hb e f hg) λσ c d _ _ _=>Oj d op t (g.mono c) (hb.mono c) e f
end
def tY(T:a9)(t:ag):Option dx:=hS ⟨T,#[]⟩ t
def tZ(T:a9)(t:ag):Bool:=match tY T t with|some (.int _)=>true|_=>false
def og(T:a9):Nat->ag->Bool
 |0,_=>false
 |m+1,t=>match tY T t with
  |some (.interface _)=>false
  |some (.array _ e)=>og T m e
  |some (.struct fs)=>fs.toList.all λf=>og T m f.type
  |_=>true
section
variable {T:a9}{fB fA:Array bb}{F:ac->Bool}{K:a8->Bool}{ρ σ:Ren}
def fG(t:ag):av T fB fA F K (λ_ a a'=>a=a'/\tY T t=some a) ρ (b8 t) (b8 t):=by
 unfold b8;refine bI ?_;show(av T fB fA F K) _ ρ (match tY T t with|some i=>pure i|none=>stuck "no such type") (match tY T t with|some i=>pure i|none=>stuck "no such type")
 cases h:tY T t with
 |none=>exact ak
 |some d=>exact ah ⟨rfl,rfl⟩
def On{op:UnOp}{x a:ad}(h:VR F ρ x a):av T fB fA F K (RV F) ρ (kd op x) (kd op a):=by
 unfold kd;cases op<;>cases h<;>first|exact ak|exact uU _ _ _ _|exact wU _ _ _ _|exact ah (.bool _)|exact aA
def F8(g:ρ.bw T.globals.size){s d:ag}(hs:tZ T s=true)(hd:tZ T d=true){x f:ad}(h:VR F ρ x f):av T fB fA F K (RV F) ρ (dC s d x) (dC s d f):=by
 unfold dC;refine af g (fG s) λσ c i a o e=>?_;obtain⟨rfl,l⟩:=e;refine af i (fG d) λp m q b b' e=>?_;obtain⟨rfl,n⟩:=e;have h:=(h.mono c).mono m;simp only[tZ,l]at hs;simp only[tZ,n]at hd
 cases a with
 |int j=>
  cases b with
  |int k=>cases h<;>first|exact ah (.int _ _)|exact aA
  |_=>exact absurd hd ar
 |_=>exact absurd hs ar
def uW(b:Bool):∀(n:Nat){ρ:Ren}(_:ρ.bw T.globals.size)(m:Nat)(t:ag)(_:og T m t=true){v v':ad}(_:VR F ρ v v'),av T fB fA F K fF ρ (iB b n t v) (iB b n t v'):=by
 intro n
 induction n with
 |zero=>intro ρ o m t a v v' hv;exact aA
 |succ n q=>
  intro ρ o m t a v v' hv
  cases m with
  |zero=>simp[og]at a
  |succ m=>
   unfold iB;refine af o (fG t) λσ j h d D e=>?_;obtain⟨rfl,x⟩:=e;have hv:=hv.mono j;simp only[og,x]at a
   cases d with
   |interface E=>exact absurd a ar
   |array len elem=>
    simp only at a
    cases hv with
    |agg hc=>
     refine af h (oc len h _ λi y k c u=>?_) λ_ _ _ z A e=>?_
     .refine af c (bN c elem) λB r g s H e=>?_;subst e;refine af g (kI g elem (VA.mono r (VA.mono k hc)) _) λI J w p C l=>?_;refine af w (q w m elem a l) λ_ _ _ _ _ _=>ah rfl
     .exact ah rfl
    |_=>exact ak
   |struct fields=>
    simp only[List.all_eq_true]at a
    cases hv with
    |agg hc=>
     refine af h (RA:=fF) ?_ λ_ _ _ z A e=>ah rfl;rw[<-ft,<-ft];refine oa fields.toList h _ λf hf y k c u=>?_;refine aN (λ_=>?_) λ_=>ah rfl;refine af c (kI c f.type (VA.mono k hc) f.offset) λB r g p C l=>?_;exact af g (q g m f.type (a f hf) l) λ_ _ _ _ _ _=>ah rfl
    |_=>exact ak
   |_=>cases hv<;>exact ah rfl
inductive ua(F:ac->Bool)(ρ:Ren):Option (Nat×ad)->Option (Nat×ad)->Prop
 |none:ua F ρ none none
 |some (i:Nat) {v v':ad} (h:VR F ρ v v'):ua F ρ (some (i,v)) (some (i,v'))
def C3(d:dx){k k' e e':ad}(a:VR F ρ k k')(b:VR F ρ e e'):iC d k e=iC d k' e'\/(iC d k e=none/\(k=my #[]\/e=my #[])):=by
 cases a with
 |hole=>exact lW ⟨by cases d<;>rfl,lT rfl⟩
 |_=>cases b with
  |hole=>exact lW ⟨by cases d<;>rfl,lW rfl⟩
  |_=>left;cases d<;>rfl
def LC{t:ag}{d:dx}(hd:tY T t=some d){k e:ad}{b:Bool}(h:iC d k e=some b){a:Type}(f:Bool->Sem a)(hf:bW T fB (f b)):bW T fB (gy (kb t k e) f):=by
 unfold kb kc jH;show bW T fB (gy (gy (b8 t) _) f);rw[wX];show bW T fB (gy (match tY T t with|some d=>_|none=>stuck "no such type") f);rw[hd];unfold iC at h;split at h
 .split at h
  .injection h with h
   subst h;rename_i c;simp only[c,if_true];exact hf
  .cases h
 .injection h with h;subst h;exact hf
 .injection h with h;subst h;exact hf
 .cases h
def C4{t:ag}{d:dx}(hd:tY T t=some d){k k':ad}(j:VR F ρ k k'):∀{es a:List a7}(i:Nat),bD F ρ es a->
 (iN d k es i=none/\iN d k' a i=none)\/(∃r f,iN d k es i=some r/\iN d k' a i=some f/\ua F ρ r f)\/(iN d k es i=none/\bW T fB (iU t k es i)):=by
 intro es
 induction es with
 |nil=>intro a i h;cases h;exact lW (lT ⟨_,_,rfl,rfl,.none⟩)
 |cons e es l=>
  intro a i h
  cases h with
  |cons g m=>
   rcases C3 d j g.key with hs|⟨hs,c⟩
   .simp only[iN,<-hs]
    cases hb:iC d k e.key with
    |none=>exact lT ⟨rfl,rfl⟩
    |some b=>cases b with
     |true=>exact lW (lT ⟨_,_,rfl,rfl,.some i g.val⟩)
     |false=>
      rcases l (i+1) m with h|h|⟨n,o⟩
      .exact lT h
      .exact lW (lT h)
      .exact lW (lW ⟨n,LC hd hb _ o⟩)
   .refine lW (lW ⟨by simp only[iN,hs],?_⟩);show bW T fB (gy (kb t k e.key) _)
    rcases c with c|c
    .rw[c];exact(Ol t _).bind
    .rw[c];exact(Om t _).bind
def zy(t:ag):∀{es c:List a7}{ρ:Ren}(_:ρ.bw T.globals.size){k k':ad}(_:VR F ρ k k')(i:Nat),bD F ρ es c->av T fB fA F K (λσ r j=>ua F σ r j) ρ (iU t k es i) (iU t k' c i):=by
 intro es
 induction es with
 |nil=>intro c ρ d k k' f i h;cases h;exact ah .none
 |cons e es l=>
  intro c ρ d k k' f i h
  cases h with
  |cons g m=>
   refine af d (qS _ d t f g.key) λσ a n b b' e=>?_;subst e;exact aN (λ_=>ah (.some i (g.val.mono a))) λ_=>l n (f.mono a) (i+1) (m.mono a)
def wZ(j:ρ.bw T.globals.size)(t:ag){k k':ad}(f:VR F ρ k k'){es g:List a7}(h:bD F ρ es g):av T fB fA F K (λσ r i=>ua F σ r i) ρ (iY t k es) (iY t k' g):=by
 unfold iY;refine af j (fG t) λσ a l d n e=>?_;obtain⟨rfl,hd⟩:=e
 rcases C4 (fB:=fB) hd (f.mono a) 0 (h.mono a) with⟨b,c⟩|⟨r,i,b,c,m⟩|⟨b,c⟩
 .rw[b,c];exact zy t l (f.mono a) 0 (h.mono a)
 .rw[b,c];exact ah m
 .rw[b];exact c.rel _
def bD.isEmpty{es a:Array a7}(h:bD F ρ es.toList a.toList):es.isEmpty=a.isEmpty:=by
 have:=h.length;simp only[Array.length_toList]at this;simp[Array.isEmpty,this]
theorem bD.get?{l l':List a7}(h:bD F ρ l l')(i:Nat):(l[i]?=none/\l'[i]?=none)\/∃e e',l[i]?=some e/\l'[i]?=some e'/\zo F ρ e e':=by
 induction h generalizing i with
 |nil=>exact lT ⟨rfl,rfl⟩
 |cons a _ b=>
  grind
theorem bD.append{l l' m m':List a7}(x:bD F ρ l l')(y:bD F ρ m m'):bD F ρ (l++m) (l'++m'):=by
 induction x with
 |nil=>exact y
 |cons a _ b=>exact .cons a b
def bD.modify{l l':List a7}(x:bD F ρ l l')(i:Nat){f f':a7->a7}(hf:∀e e',zo F ρ e e'->zo F ρ (f e) (f' e')):bD F ρ (l.modify i f) (l'.modify i f'):=by
 induction x generalizing i with
 |nil=>cases i<;>exact .nil
 |cons a t b=>
  cases i with
  |zero=>exact .cons (hf _ _ a) t
  |succ i=>exact .cons a (b i)
def bD.filter{l l':List a7}(x:bD F ρ l l'){p:a7->Bool}(c:∀e e':a7,e.born=e'.born->p e=p e'):bD F ρ (l.filter p) (l'.filter p):=by
 induction x with
 |nil=>exact .nil
 |cons a t b=>
  rw[e6,e6,<-c _ _ a.born];split
  .exact .cons a b
  .exact b
def bD.find?{l l':List a7}(x:bD F ρ l l'){p:a7->Bool}(b:∀e e':a7,e.born=e'.born->p e=p e'):(l.find? p=none/\l'.find? p=none)\/∃e e',l.find? p=some e/\l'.find? p=some e'/\zo F ρ e e':=by
 induction x with
 |nil=>exact lT ⟨rfl,rfl⟩
 |cons a t c=>
  rw[e7,e7,<-b _ _ a.born];grind
def bD.all{l l':List a7}(x:bD F ρ l l'){p:a7->Bool}(b:∀e e':a7,e.born=e'.born->p e=p e'):l.all p=l'.all p:=by
 induction x with
 |nil=>rfl
 |cons a t c=>simp only[e8,b _ _ a.born,c]
def LD{Z:ag->Bool}(H:dM T F Z)(I:ρ.bw T.globals.size)(t:ag){m:Nat}(J:∀k e,tY T t=some (.map k e)->og T m k=true/\Z e=true){x y i l:ad}(s:VR F ρ x y)(hi:VR F ρ i l)(ok:Bool) :
 av T fB fA F K (RV F) ρ (i0 t x i ok) (i0 t y l ok):=by
 unfold i0;refine af I (fG t) λσ f A d R e=>?_;obtain⟨rfl,L⟩:=e;have s:=s.mono f;have hi:=hi.mono f
 cases d with
 |map key elem=>
  obtain⟨zz,M⟩:=J key elem L;have a:∀c:Ren,σ.le c->c.bw T.globals.size->∀es n:Array a7,bD F c es.toList n.toList->av T fB fA F K (RV F) c
   (do
     iB es.isEmpty 10000 key i
     let(v,u)<-match<-iY key i es.toList with
      |some (_,v)=>pure (v,true)
      |none=>pure (<-ca elem,false)
     pure (if ok then my #[v,l5 u] else v))
   (do
     iB n.isEmpty 10000 key l
     let(v,u)<-match<-iY key l n.toList with
      |some (_,v)=>pure (v,true)
      |none=>pure (<-ca elem,false)
     pure (if ok then my #[v,l5 u] else v)):=by
   intro c p q es n B;rw[bD.isEmpty B];refine af q (uW _ _ q m key zz (hi.mono p)) λS C D _ _ _=>?_;refine af D (wZ D key ((hi.mono p).mono C) (B.mono C)) λN U E r V w=>?_;have fin:∀(g:Ren)(v v':ad)(b:Bool),VR F g v v'->av T fB fA F K (RV F) g (pure (if ok then my #[v,l5 b] else v):Sem ad) (pure (if ok then my #[v',l5 b] else v'):Sem ad):=by
    intro g v v' b hv;refine ah ?_;split
    .exact .tuple (VA.two hv (.bool b))
    .exact hv
   cases w with
   |none=>
    exact af E (gO H E M) λg _ _ z O P=>fin g z O false P.1
   |some j hv=>exact fin N _ _ true hv
  cases s with
  |qQ=>exact a σ (Ren.le_refl _) A #[] #[] .nil
  |map w=>
   refine af A (dA w) λc p q o W Q=>?_
   cases Q with
   |map clock h=>exact a c p q _ _ h
   |_=>exact bz
  |_=>exact bz
 |_=>exact ak
def Bf(g:ρ.bw T.globals.size):∀(n:Nat){a a' b b':ad},VR F ρ a a'->VR F ρ b b'->i1 n a b=true->i1 n a' b'=true:=by
 intro n;have ptr:∀{a a' b b':aa},AR ρ a a'->AR ρ b b'->(some a==some b)=true->(some a'==some b')=true:=by
  intro a a' b b' c hb;rw[beq_iff_eq,beq_iff_eq,kG,kG];exact(AR.eq_iff g c hb).1
 induction n with
 |zero=>
  intro a a' b b' c hb
  cases c with
  |hole=>intro h;unfold i1 at h;cases h
  |_=>cases hb with
   |hole=>intro h;unfold i1 at h;cases h
   |_=>first|exact id|(unfold i1;first|exact id|exact ptr ba ba)|(intro h;unfold i1 at h;cases h)
 |succ n f=>
  intro a a' b b' c hb
  cases c with
  |hole=>intro h;unfold i1 at h;cases h
  |iface t c=>
   cases hb with
   |iface u hb=>
    simp only[i1,jw];exact fun⟨x,y⟩=>⟨x,f c hb y⟩
   |_=>intro h;unfold i1 at h;cases h
  |agg c=>
   cases hb with
   |agg hb=>
    have all:∀{l d m m':List ad},cU F ρ l d->cU F ρ m m'->((l.zip m).all fun(x,y)=>i1 n x y)=true->((d.zip m').all fun(x,y)=>i1 n x y)=true:=by
     intro l
     induction l with
     |nil=>intro d m m' h _ _;cases h;rfl
     |cons x l e=>
      intro d m m' h k
      cases h with
      |cons i j=>
       cases k with
       |nil=>intro _;rfl
       |cons k1 k2=>
        simp only[e9,e8,jw];exact fun⟨x,y⟩=>⟨f i k1 x,e j k2 y⟩
    simp only[i1,VA.size c,VA.size hb,jw];exact fun⟨x,y⟩=>⟨x,all c hb y⟩
   |_=>intro h;unfold i1 at h;cases h
  |_=>cases hb with
   |hole=>intro h;unfold i1 at h;cases h
   |_=>first|exact id|(unfold i1;first|exact id|exact ptr ba ba)|(intro h;unfold i1 at h;cases h)
def C5(a b:ByteArray):(a==b)=true↔a=b:=by
 obtain⟨x⟩:=a;obtain⟨y⟩:=b;show(x==y)=true↔_;rw[beq_iff_eq];simp
def C6:∀(n:Nat){a b:ad},i1 n a b=true->a=b:=by
 intro n
 induction n with
 |zero=>intro a b h;cases a<;>cases b<;>first|rfl|(unfold i1 at h;exact jx h)|(unfold i1 at h;simp only[jw,beq_iff_eq,C5]at h;simp[h])
 |succ n d=>
  intro a b h;have all:∀{l m:List ad},l.length=m.length->((l.zip m).all fun(x,y)=>i1 n x y)=true->l=m:=by
   intro l
   induction l with
   |nil=>intro m e _;cases m with
    |nil=>rfl
    |cons _ _=>cases e
   |cons x l c=>
    intro m e k
    cases m with
    |nil=>cases e
    |cons y m=>
     simp only[e9,e8,jw]at k;rw[d k.1,c (by simpa using e) k.2]
  cases a<;>cases b<;>first
   |rfl
   |(unfold i1 at h;exact jx h)
   |(unfold i1 at h;simp only[jw,beq_iff_eq]at h;rw[h.1,d h.2];done)
   |(unfold i1 at h;simp only[jw,beq_iff_eq]at h;exact congrArg Value.agg (Array.ext' (all (by simpa using h.1) h.2)))
   |(unfold i1 at h;simp only[jw,beq_iff_eq,C5]at h;simp[h];done)
def Aa{es c:Array a7}(h:bD F ρ es.toList c.toList)(i:Nat){k k':ad}(f:VR F ρ k k'):VR F ρ (((es[i]?).map (·.key)).getD k) (((c[i]?).map (·.key)).getD k'):=by
 rcases bD.get? h i with⟨a,b⟩|⟨e,g,a,b,d⟩
 .grind
 .simp only[fJ]at a b;rw[a,b];exact d.key
def lK(mapType:ag)(map key:ad):Sem (Nat×Array a7×Nat×Option (Nat×ad)):=do
 let .map keyType _<-b8 mapType|stuck "MapUpdate: map type expected"
 match map with
 |mn none=>cl (.plain "assignment to entry in nil map")
 |mn (some r)=>
  let mG es clock<-getObj r|stuck "MapUpdate: map expected"
  iB false 10000 keyType key
  let f<-iY keyType key es.toList
  pure (r,es,clock,f)
 |_=>stuck "MapUpdate: map expected"
def rZ(key value:ad)(x:Nat×Array a7×Nat×Option (Nat×ad)):Sem Unit:=
 match x.2.2.2 with
 |some (i,_)=>do
  let key<-i2 (((x.2.1[i]?).map (·.key)).getD key) key
  bL x.1 (mG (x.2.1.modify i λe=>{ e with key,val:=value }) x.2.2.1)
 |none=>bL x.1 (mG (x.2.1.push { key,val:=value,born:=x.2.2.1 }) (x.2.2.1+1))
def jg(t:ag)(m k v:ad):i3 t m k v=gy (lK t m k) (rZ k v):=by
 unfold i3 lK;show gy _ _=gy (gy _ _) _;rw[gD];congr 1;funext d;cases d<;>try rfl
 cases m<;>try rfl
 rename_i r
 cases r with
 |none=>rfl
 |some r=>
  show gy _ _=gy (gy _ _) _;rw[gD];congr 1;funext o;cases o<;>try rfl
  show gy _ _=gy (gy _ _) _;rw[gD];congr 1;funext _;show gy _ _=gy (gy _ _) _;rw[gD];congr 1
def acf(F:ac->Bool)(ρ:Ren)(x a:Nat×Array a7×Nat×Option (Nat×ad)):Prop:=ρ x.1 a.1/\bD F ρ x.2.1.toList a.2.1.toList/\x.2.2.1=a.2.2.1/\ua F ρ x.2.2.2 a.2.2.2
def uX(s:ρ.bw T.globals.size)(t:ag){m:Nat}(u:∀k e,tY T t=some (.map k e)->og T m k=true){x h i j:ad}(f:VR F ρ x h)(hi:VR F ρ i j) :
 av T fB fA F K (acf F) ρ (lK t x i) (lK t h j):=by
 unfold lK;refine af s (fG t) λσ b v d A e=>?_;obtain⟨rfl,w⟩:=e;have f:=f.mono b;have hi:=hi.mono b
 cases d with
 |map key elem=>
  have zz:=u key elem w
  cases f with
  |qQ=>exact zv _
  |map a=>
   refine af v (dA a) λB l n o C y=>?_;have a:=l a;have hi:=hi.mono l
   cases y with
   |map clock c=>
    refine af n (uW _ _ n m key zz hi) λD g p _ _ _=>?_;have a:=g a;have hi:=hi.mono g;have c:=c.mono g;refine af p (wZ p key hi c) λE q H r I z=>?_;exact ah ⟨q a,c.mono q,rfl,z⟩
   |_=>exact ak
  |_=>exact ak
 |_=>exact ak
def LF{c:Type}(P:bm)(r:Nat)(o:Obj)(a:c)(w:ai)(b:Nat->aH->Nat)(d:Nat):(gw r o (hk a)).run P (w.re b d)=((gw r o (hk a)).run P w).re b d:=by
 show(match w.heap[r]? with|some (mF ..)=>_|some _=>_|none=>_)=Result.re (match w.heap[r]? with|some (mF ..)=>_|some _=>_|none=>_) b d
 cases w.heap[r]? with
 |none=>rfl
 |some o=>cases o<;>rfl
def Oo(d:ρ.bw T.globals.size){w w':ai}(o:WR T.globals.size F K ρ w w')(p:w.tape=w'.tape)(hd:w.drawn=w'.drawn){i q v v':ad}(hi:VR F ρ i q)(hv:VR F ρ v v')
 {x t:Nat×Array a7×Nat×Option (Nat×ad)} (I:acf F ρ x t) (c:Array bj) :
 qp T.globals.size F K fF ρ w w' c ((rZ q v' t).runT ⟨T,fA⟩ w' c) ((rZ i v x).run ⟨T,fB⟩ w):=by
 obtain⟨r,es,clock,O⟩:=x;obtain⟨H,u,P,J⟩:=t;obtain⟨s,l,hc,m⟩:=I;simp only at s l hc m;subst hc;have put:∀(j:Nat){k k':ad},VR F ρ k k'->av T fB fA F K fF ρ (bL r (mG (es.modify j λe=>{ e with key:=k,val:=v }) clock)) (bL H (mG (u.modify j λe=>{ e with key:=k',val:=v' }) clock)):=by
  intro j k k' y;refine dV s (.map _ ?_);rw[fO,fO];exact bD.modify l j λe L z=>⟨y,hv,z.born⟩
 cases m with
 |none=>
  refine(av.run c ?_ d o p hd).zu;refine dV s (.map _ ?_);rw[fg,fg];exact bD.append l (.cons ⟨hi,hv,rfl⟩ .nil)
 |some j _=>
  have hold:=Aa l j hi;unfold rZ;simp only;generalize(((es[j]?).map (·.key)).getD i)=f at hold;generalize(((u[j]?).map (·.key)).getD q)=A at hold;unfold i2;by_cases B:i1 10000 f i=true
  .rw[if_pos B,if_pos (Bf d _ hold hi B)];exact(av.run c (put j hi) d o p hd).zu
  .rw[if_neg B];by_cases g:i1 10000 A q=true
   .rw[if_pos g];obtain rfl:=C6 _ g;have one:∀n:Nat,qp T.globals.size F K fF ρ w w' c ((bL H (mG (u.modify j λe=>{ e with key:=A,val:=v' }) clock)).runT ⟨T,fA⟩ w' c)
     ((bL r (mG (es.modify j λe=>{ e with key:=if n=0 then i else f,val:=v }) clock)).run ⟨T,fB⟩ (w.re w.tape (w.drawn+1))):=by
     intro n;have h:=av.run c (put j (k:=if n=0 then i else f) (k':=A) (by split<;>assumption)) d o p hd;unfold bL;rw[LF];unfold bL at h;generalize(gw r _ (hk ())).run ⟨T,fB⟩ w=res at h
     match res,h with
     |lM a w2,⟨C,M,D,E,e,k,N⟩=>exact⟨C,M,D,E,w2.tape,w2.drawn,e,k,N⟩
     |lR (nd v) w2,⟨C,v',D,E,e,k,hv⟩=>exact⟨C,v',D,E,w2.tape,w2.drawn,e,k,hv⟩
     |lR nq _,h=>exact h
     |lR ns _,h=>exact h
     |lR (nt _) _,h=>exact h
     |lR (nE _) _,h=>exact h
     |lR (nV _) _,h=>exact h
     |lR n0 _,h=>exact h
     |lR (nl _) _,h=>exact h
     |lR (nf _) _,_=>trivial
    exact one (Question.cut (.extern "map.whichKeyStays" 2) (w.tape w.drawn (.extern "map.whichKeyStays" 2)))
   .rw[if_neg g];refine(av.run c ?_ d o p hd).zu;refine av.bind d (RA:=RV F) ?_ λσ b _ k k' y=>?_
    .refine af d (lH _) λσ b _ n n' e=>?_;subst e;refine ah ?_;split
     .exact hi.mono b
     .exact hold.mono b
    .refine dV (b s) (.map _ ?_);rw[fO,fO];exact bD.modify (l.mono b) j λe L z=>⟨y,hv.mono b,z.born⟩
def Ty(c:ρ.bw T.globals.size){w w':ai}(n:WR T.globals.size F K ρ w w')(o:w.tape=w'.tape)(hd:w.drawn=w'.drawn)(t:ag){m:Nat}(p:∀k e,tY T t=some (.map k e)->og T m k=true){x d i f v v':ad}(q:VR F ρ x d)(hi:VR F ρ i f)(hv:VR F ρ v v')(b:Array bj) :
 qp T.globals.size F K fF ρ w w' b ((i3 t d f v').runT ⟨T,fA⟩ w' b) ((i3 t x i v).run ⟨T,fB⟩ w):=by
 rw[jg,jg,gG,gL];have h:=av.run b (uX (fB:=fB) (fA:=fA) (F:=F) (K:=K) c t p q hi) c n o hd;generalize(lK t x i).run ⟨T,fB⟩ w=res at h
 match res,h with
 |lM a w2,⟨g,s,j,l,e,k,r⟩=>
  rw[e];exact qp.step k (Oo k.inj k.wr k.tape k.drawn (hi.mono k.le) (hv.mono k.le) r _)
 |lR (nd v) w2,⟨g,v',j,l,e,k,hv⟩=>
  rw[e];exact⟨g,v',j,l,w2.tape,w2.drawn,rfl,k,hv⟩
 |lR nq _,h=>exact h
 |lR ns _,h=>exact h
 |lR (nt _) _,h=>exact h
 |lR (nE _) _,h=>exact h
 |lR (nV _) _,h=>exact h
 |lR n0 _,h=>exact h
 |lR (nl _) _,h=>exact h
 |lR (nf _) _,_=>trivial
def Ga(a:ρ.bw T.globals.size)(t:ag):av T fB fA F K (RV F) ρ (i4 t none) (i4 t none):=
 af a (jO (.map 0 .nil)) λ_ _ _ _ _ b=>ah (.map b)
def Oq(g:ρ.bw T.globals.size)(t:ag){x l:ad}(b:VR F ρ x l):av T fB fA F K (RV F) ρ (i5 t x) (i5 t l):=by
 unfold i5;refine af g (bk t) λσ i j d p e=>?_;subst e;have b:=b.mono i;have fin:∀(a:Ren),a.bw T.globals.size->∀o c,OR F K a o c->av T fB fA F K (RV F) a (do pure (mc (some ⟨<-bv o,0,none⟩)):Sem ad) (do pure (mc (some ⟨<-bv c,0,none⟩)):Sem ad):=
  λa g o c k=>af g (jO k) λ_ _ _ _ _ f=>ah (.ptr ⟨f,rfl,rfl⟩)
 cases d with
 |string=>cases b<;>first|exact fin σ j _ _ (.stringIter _ _)|exact bz
 |map _ _=>
  cases b with
  |qQ=>exact fin σ j _ _ (.mJ _ _ _)
  |map f=>
   refine af j (dA f) λa m n o c k=>?_
   cases k with
   |map clock h=>exact fin a n _ _ (.mapIter _ _ _ (m f))
   |_=>exact bz
  |_=>exact bz
 |_=>exact bz
def Ot(m:ρ.bw T.globals.size){x g:ad}(q:VR F ρ x g):av T fB fA F K (RV F) ρ (i6 x) (i6 g):=by
 unfold i6
 cases q with
 |@ptr a s t=>
  obtain⟨r,off,sp⟩:=a;obtain⟨E,u,v⟩:=s;obtain⟨i,e1,j⟩:=t;simp only at i e1 j;subst e1 j
  cases off with
  |succ n=>exact ak
  |zero=>
   refine af m (dA i) λσ w y o H z=>?_
   cases z with
   |mapIter a b c A=>
    simp only
    cases b.back? with
    |none=>exact ak
    |some d=>
     refine af y (dA A) λI J L p M B=>?_
     cases B with
     |map clock C=>
      refine aN (λ_=>aM) λ_=>?_;rw[<-fP,<-fP]
      rcases bD.find? C (p:=λe=>e.born==d) (λe D h=>by rw[h]) with⟨f,k⟩|⟨e,D,f,k,l⟩
      .rw[f];exact aA
      .rw[f,k];exact ah (.tuple (VA.two l.key l.val))
     |_=>exact ak
   |_=>exact ak
 |_=>exact ak
inductive gS(F:ac->Bool)(ρ:Ren):List (Option a7)->List (Option a7)->Prop
 |nil:gS F ρ [] []
 |no {l l':List (Option a7)} (t:gS F ρ l l'):gS F ρ (none::l) (none::l')
 |yes {e e':a7} {l l':List (Option a7)} (h:zo F ρ e e') (t:gS F ρ l l'):gS F ρ (some e::l) (some e'::l')
def gS.of{l l':List a7}(h:bD F ρ l l'):gS F ρ (l.map some) (l'.map some):=by
 induction h with
 |nil=>exact .nil
 |cons a _ b=>exact .yes a b
theorem gS.append{l l' m m':List (Option a7)}(x:gS F ρ l l')(y:gS F ρ m m'):gS F ρ (l++m) (l'++m'):=by
 induction x with
 |nil=>exact y
 |no _ b=>exact .no b
 |yes a _ b=>exact .yes a b
def gS.length{l l':List (Option a7)}(x:gS F ρ l l'):l.length=l'.length:=by
 induction x with
 |nil=>rfl
 |no _ b=>simp[b]
 |yes a _ b=>simp[b]
theorem gS.get?{l l':List (Option a7)}(x:gS F ρ l l')(i:Nat):(l[i]?=none/\l'[i]?=none)\/(l[i]?=some none/\l'[i]?=some none)\/∃e e',l[i]?=some (some e)/\l'[i]?=some (some e')/\zo F ρ e e':=by
 induction x generalizing i with
 |nil=>exact lT ⟨rfl,rfl⟩
 |no _ b=>
  grind
 |yes a _ b=>
  grind
def Tz(N:ρ.bw T.globals.size){x E:ad}(O:VR F ρ x E)(b:Bool)(t:ag):av T fB fA F K (RV F) ρ (i7 x b t) (i7 E b t):=by
 unfold i7
 cases O with
 |@ptr a P Q=>
  obtain⟨r,off,sp⟩:=a;obtain⟨Y,R,S⟩:=P;obtain⟨d,e1,H⟩:=Q;simp only at d e1 H;subst e1 H
  cases off with
  |succ n=>exact ak
  |zero=>
   refine af N (dA d) λσ y I o Z U=>?_;have d:=y d;have over:∀f:Ren,av T fB fA F K (RV F) f (pure (my #[l5 false]):Sem ad) (pure (my #[l5 false]):Sem ad):=λf=>ah (.tuple (VA.one (.bool _)))
   cases U with
   |stringIter s pos=>
    cases b with
    |true=>
     refine aN (λ_=>?_) λ_=>over _;refine af I (dV d (.stringIter _ _)) λ_ _ _ _ _ _=>?_;exact ah (.tuple (VA.three (.bool _) (.int _ _) (.int _ _)))
    |false=>exact ak
   |mJ a1 b1 c1=>
    grind[ak]
   |@mapIter m m' since seen last g=>
    cases b with
    |true=>exact ak
    |false=>
     refine af I (dA g) λf J V p p' W=>?_
     cases W with
     |@map es i clock z=>
      have g:=J g;have d:=J d;have e1:(!seen.isEmpty && !es.isEmpty&&es.all (·.born>=last))=(!seen.isEmpty && !i.isEmpty&&i.all (·.born>=last)):=by
       rw[bD.isEmpty z,<-fY,<-fY,bD.all z (p:=λe=>decide (e.born>=last)) (λe j h=>by rw[h])]
      simp only[e1];refine aN (λ_=>aM) λ_=>?_;have k:bD F f (es.filter λe=>!seen.contains e.born).toList (i.filter λe=>!seen.contains e.born).toList:=by
       rw[f0,f0];exact bD.filter z λe j h=>by rw[h]
      generalize(es.filter λe=>!seen.contains e.born)=left at k;generalize(i.filter λe=>!seen.contains e.born)=l at k;have hold:bD F f (left.filter (·.born<since)).toList (l.filter (·.born<since)).toList:=by
       rw[f0,f0];exact bD.filter k λe j h=>by rw[h]
      have A:bD F f (left.filter (·.born>=since)).toList (l.filter (·.born>=since)).toList:=by
       rw[f0,f0];exact bD.filter k λe j h=>by rw[h]
      generalize(left.filter (·.born<since))=c at hold;generalize(l.filter (·.born<since))=q at hold;generalize(left.filter (·.born>=since))=new at A;generalize(l.filter (·.born>=since))=L at A;have hc:gS F f ((if c.isEmpty then #[none] else #[])++(c++new).map some).toList ((if q.isEmpty then #[none] else #[])++(q++L).map some).toList:=by
       rw[fi,fi,f1,f1,fi,fi,bD.isEmpty hold];refine gS.append ?_ (gS.of (bD.append hold A));split
       .exact .no .nil
       .exact .nil
      generalize((if c.isEmpty then #[none] else #[])++(c++new).map some)=B at hc;generalize((if q.isEmpty then #[none] else #[])++(q++L).map some)=C at hc;have hs:B.size=C.size:=by simpa using hc.length
      simp only[hs];refine af V (lH _) λυ u X n n' e=>?_;subst e
      rcases gS.get? hc n with⟨v,w⟩|⟨v,w⟩|⟨e,j,v,w,D⟩
      .grind [ak]
      .grind
      .simp only[fJ]at v w;rw[v,w];simp only[<-D.born];refine af X (dV (u d) (.mapIter _ _ _ (u g))) λ_ M _ _ _ _=>?_;exact ah (.tuple (VA.three (.bool _) ((D.key.mono u).mono M) ((D.val.mono u).mono M)))
     |_=>exact ak
   |_=>cases b<;>exact ak
 |_=>exact ak
def LG{x b:ad}(d:VR F ρ x b):av T fB fA F K (λ_ n n'=>n=n'/\∀a c,x=mm a 0 c->n=0) ρ (kh x) (kh b):=by
 cases d<;>first|exact ah ⟨rfl,λa c h=>by cases h;rfl⟩|exact ah ⟨rfl,λa c h=>by cases h⟩|exact ak
def Gb(size:Nat){x d:ad}(g:VR F ρ x d):av T fB fA F K (λ_ a a'=>a=#[]/\a'=#[]) ρ (ki size 0 x) (ki size 0 d):=by
 have f:∀a a':aa,av T fB fA F K (λ_ a a'=>a=#[]/\a'=#[]) ρ (cd a (0*size)) (cd a' (0*size)):=by
  intro a a';rw[eQ];exact ah ⟨rfl,rfl⟩
 cases g with
 |slice l c h=>exact f _ _
 |dK D a=>exact f _ _
 |di l c=>exact ah ⟨rfl,rfl⟩
 |string s=>
  have e:(s.extract 0 0).data.map (λb=>Value.int .u8 b.toNat)=#[]:=by
   simp_all
  refine ah ?_;grind
 |_=>exact ak
def kZ(d:ρ.bw T.globals.size)(size n:Nat){x b:ad}(e:VR F ρ x b)(f:∀a c,x=mm a 0 c->n=0):av T fB fA F K (RVA F) ρ (ki size n x) (ki size n b):=by
 cases e with
 |dK D a=>
  obtain rfl:=f _ _ rfl;show(av T fB fA F K) (RVA F) ρ (cd _ (0*size)) (cd _ (0*size));rw[eQ];exact ah VA.nil
 |slice l c g=>exact rU d g _
 |di l c=>exact ah VA.nil
 |string s=>
  refine ah ?_;show cU _ _ _ _;rw[f1];exact cU.map _ λ_ _=>.int _ _
 |_=>exact ak
end
open Builtin in
def jU(elem size d e:Nat)(base:Option aa)(s x:ad):Sem ad:=do
 let n<-lenOf x;let appended:Sem (Array ad):=firstCells size n x;let b:=d+n
 if b<=e then
  let new<-appended
  if let some a:=base then ce (a.add (d*size)) new.toList
  pure (mm base b e)
 else
  if(b:Int) > IntKind.i64.max/\((false:Bool)\/(<-bT elem).bytes=0) then cl (.error "growslice: len out of range")
  if nextslicecap b e*(<-bT elem).bytes > 2 ^ 48 then(if(false:Bool) then cl (.error "growslice: len out of range") else do
   if !(<-mayShare size d n base x) then mark .noRoom
   bq (.resourceLimit "append: a slice or a string whose bytes no memory bears"))
  let f<-bM (.appendCap b e elem)
  bR (f*(<-bT elem).bytes)
  let g<-firstCells size d s;let new<-appended;let c:=zeroCells (<-ca elem).cells (f-b)
  pure (mm (some (<-ci elem (g++new++c))) b f)
def I7(size n:Nat)(base:Option aa)(x:ad)(there:Bool):Sem Bool:=
 if(!there)=true then pure true else
 match x with
 |mm (some b) _ _=>do pure (!(<-kj b (n*size))||base.any (·.block==b.block))
 |_=>pure false
section
variable {T:a9}{fB fA:Array bb}{F:ac->Bool}{K:a8->Bool}{ρ σ:Ren}
def VA.zeroCells{c:Array ad}(h:VA F ρ c c)(n:Nat):VA F ρ (km c n) (km c n):=by
 show cU _ _ _ _;unfold km;rw[f1];refine cU.map _ λi hi=>?_
 rcases Nat.eq_zero_or_pos c.size with a|a
 .grind
 .have hl:=Nat.mod_lt i a
  rcases VA.get? h (i % c.size) with⟨b,_⟩|⟨v,v',b,d,hv⟩
  .grind
  grind
def qV(T:a9)(fB:Array bb){a:Type}:Sem a->Prop
 |hk _=>True
 |gB k=>qV T fB (k ⟨T,fB⟩)
 |g8 _ k=>∀x,qV T fB (k x)
 |g9 _ k=>∀x,qV T fB (k x)
 |_=>False
def qV.bind{c d:Type}{s:Sem c}{f:c->Sem d}(h:qV T fB s)(hf:∀a,qV T fB (f a)):qV T fB (s.bind f):=by
 induction s with
 |pure a=>exact hf a
 |program k b=>exact b _ h
 |shape r k b=>exact λx=>b x (h x)
 |frozen r k b=>exact λx=>b x (h x)
 |_=>exact h.elim
def qV.dead{c d:Type}{s:Sem c}{f:c->Sem d}(h:qV T fB s)(hf:∀a,bW T fB (f a)):bW T fB (s.bind f):=by
 induction s with
 |pure a=>exact hf a
 |program k b=>exact b _ h
 |shape r k b=>exact λx=>b x (h x)
 |frozen r k b=>exact λx=>b x (h x)
 |_=>exact h.elim
theorem look_holds(a:aa)(n:Nat):qV T fB (kj a n):=λx=>by cases x<;>trivial
def Ab(size n:Nat)(b:Option aa)(x:ad)(there:Bool):qV T fB (I7 size n b x there):=by
 unfold I7;split
 .trivial
 .split
  .exact qV.bind (look_holds _ _) λ_=>trivial
  .trivial
def Gg(size l n:Nat)(b:Option aa)(x:ad):qV T fB (ko size l n b x):=by
 cases b with
 |none=>exact Ab size n none x true
 |some p=>
  unfold ko;simp only;exact qV.bind (look_holds _ _) λy=>λz=>Ab size n (some p) x (y && !z)
def zA{Z:ag->Bool}(E:dM T F Z)(f:ρ.bw T.globals.size){elem:ag}(t:Z elem=true)(size l c:Nat){b b':Option aa}(hs:VR F ρ (mm b l c) (mm b' l c)){x v:ad}(g:VR F ρ x v) :
 av T fB fA F K (RV F) ρ (jU elem size l c b (mm b l c) x) (jU elem size l c b' (mm b' l c) v):=by
 unfold jU;have u:∀a w,Value.slice b l c=mm a 0 w->l=0:=λa w h=>by cases h;rfl
 refine af f (LG g) λσ d f n n' e=>?_;obtain⟨rfl,p⟩:=e;have g:=g.mono d;have hs:=hs.mono d;simp only;refine aN (λM=>?_) λ_=>?_
 .by_cases A:c=0
  .subst A;obtain rfl:n=0:=ab;obtain rfl:l=0:=ab;refine af f (Gb size g) λB d f new C o=>?_;obtain⟨rfl,rfl⟩:=o;have hs:=hs.mono d
   cases hs with
   |di=>exact ah (.di _ _)
   |slice _ _ s=>exact ah (.slice _ _ s)
   |dK D a=>exact ah (.dK D a)
  refine af f (kZ f size n g p) λB d f new C o=>?_;have hs:=hs.mono d
  cases hs with
  |dK D a=>exact absurd rfl A
  |di=>exact ah (.di _ _)
  |slice _ _ s=>exact af f (qD f (s.add _) o 0) λm d f _ _ _=>ah (.slice _ _ (s.mono d))
 .refine af f (ee elem) λB d f i N e=>?_;subst e;have g:=g.mono d;have hs:=hs.mono d;refine aN (λ_=>?_) λ_=>?_
  .exact af (RA:=λ_ _ _=>False) f (cX _) λ_ _ _ _ _ h=>h.elim
  refine af f (ee elem) λm d f j O e=>?_;subst e;have g:=g.mono d;have hs:=hs.mono d;refine aN (λ_=>?_) λ_=>?_
  .refine af (RA:=λ_ _ _=>False) f ?_ λ_ _ _ _ _ h=>h.elim;refine aN (bp) λ_=>?_;refine bW.rel ?_ _;refine qV.dead (Gg size l n b x) λy=>?_;cases y
   .exact⟨rfl,rfl⟩
   .rfl
  refine af f (lH _) λm d f cap H e=>?_;subst e;have g:=g.mono d;have hs:=hs.mono d;refine af f (ee elem) λm d f k k' e=>?_;subst e;have g:=g.mono d;have hs:=hs.mono d;refine af f (FQ _) λm d f _ _ _=>?_;have g:=g.mono d;have hs:=hs.mono d;refine af f (kZ f size l hs u) λm d f I P q=>?_;have g:=g.mono d;refine af f (kZ f size n g p) λm d f new C o=>?_;have q:=VA.mono d q;refine af f (gO E f t) λm d f z Q h=>?_;obtain⟨J,rfl⟩:=h;have q:=VA.mono d q;have o:=VA.mono d o;refine af f (tS f elem (VA.append (VA.append q o) (VA.zeroCells J.cells _))) λm d f r R L=>ah (.slice _ _ L)
def LH{Z:ag->Bool}(J:dM T F Z)(v:ρ.bw T.globals.size){ts:Array ag}(t:ag)(L:∀s,ts[0]?=some s->∀e,tY T s=some (.slice e)->Z e=true)(w:∀s,ts[1]?=some s->∀k,tY T s≠some (.int k))
 {n B:Array ad} (C:VA F ρ n B):av T fB fA F K (RV F) ρ (kp ts t n) (kp ts t B):=by
 unfold kp
 rcases VA.get? C 0 with⟨u,E⟩|⟨s,M,u,E,hs⟩
 .rw[u];cases ts[0]?<;>exact ak
 rcases VA.get? C 1 with⟨k1,k2⟩|⟨x,N,k1,k2,y⟩
 .rw[u,k1];cases ts[0]?<;>exact ak
 rw[u,E,k1,k2]
 cases O:ts[0]? with
 |none=>exact ak
 |some H=>
  simp only;refine af v (fG H) λσ a m d z e=>?_;obtain⟨rfl,j⟩:=e;have hs:=hs.mono a;have y:=y.mono a
  cases d with
  |slice elem=>
   have A:=L H O elem j;have fin:∀(f:Ren),f.bw T.globals.size->σ.le f->∀(size l c:Nat)(b b':Option aa),s=mm b l c->M=mm b' l c->
    av T fB fA F K (RV F) f (jU elem size l c b (mm b l c) x) (jU elem size l c b' (mm b' l c) N):=by
    intro f v a size l c b b' e1 P;subst e1 P;exact zA J v A size l c (hs.mono a) (y.mono a)
   cases hs with
   |di l c=>
    simp only;refine af m (bN m elem) λf g h size I e=>?_;subst e
    cases e1:ts[1]? with
    |none=>exact fin f h g size l c none none rfl rfl
    |some i=>
     refine af h (fG i) λo p r d z e=>?_;obtain⟨rfl,j⟩:=e
     cases d with
     |int k=>exact absurd j (w i e1 k)
     |_=>exact fin o r (Ren.le_trans g p) size l c none none rfl rfl
   |slice l c Q=>
    simp only;refine af m (bN m elem) λf g h size I e=>?_;subst e
    cases e1:ts[1]? with
    |none=>exact fin f h g size l c _ _ rfl rfl
    |some i=>
     refine af h (fG i) λo p r d z e=>?_;obtain⟨rfl,j⟩:=e
     cases d with
     |int k=>exact absurd j (w i e1 k)
     |_=>exact fin o r (Ren.le_trans g p) size l c _ _ rfl rfl
   |dK D q=>
    simp only;refine af m (bN m elem) λf g h size I e=>?_;subst e
    cases e1:ts[1]? with
    |none=>exact fin f h g size 0 0 _ _ rfl rfl
    |some i=>
     refine af h (fG i) λo p r d z e=>?_;obtain⟨rfl,j⟩:=e
     cases d with
     |int k=>exact absurd j (w i e1 k)
     |_=>exact fin o r (Ren.le_trans g p) size 0 0 _ _ rfl rfl
   |_=>exact ak
  |_=>exact ak
end
end Go.bJ
namespace Go.bJ
section
variable {T:a9}{fB fA:Array bb}{F:ac->Bool}{K:a8->Bool}{ρ σ:Ren}
def xg{z:Array ad}(h:VA F ρ z z)(n:Nat):VA F ρ ((f2 n).map (z[· % z.size]!)) ((f2 n).map (z[· % z.size]!)):=by
 show cU _ _ _ _;rw[f1];refine cU.map _ λi _=>?_;rw[getElem!_def]
 rcases VA.get? h (i % z.size) with⟨a,_⟩|⟨v,v',a,b,hv⟩
 .rw[a];exact .bool _
 grind
def zB{Z:ag->Bool}(o:dM T F Z)(b:ρ.bw T.globals.size){t:ag}(p:∀e,tY T t=some (.slice e)->Z e=true)(len:Nat){ps f:Array (Nat×ad)}(h:kX F ρ ps.toList f.toList):av T fB fA F K (RV F) ρ (i9 t len ps) (i9 t len f):=by
 unfold i9;refine af b (fG t) λσ a b d w e=>?_;obtain⟨rfl,q⟩:=e;have h:=h.mono a
 cases d with
 |slice elem=>
  have k:=p elem q;refine af b (bN b elem) λm a b size x e=>?_;subst e;have h:=h.mono a;refine aN (λ_=>aM) λ_=>?_;have c:∀(g:Ren),m.le g->g.bw T.globals.size->∀zero j:Array ad,(VA F g zero j/\zero=j)->
   av T fB fA F K (RV F) g (match h6 (λi=>some (i*size,size)) ((f2 (len*size)).map (zero[· % zero.size]!)) ps.toList with
    |some cells=>do pure (mm (some (<-ci elem cells)) len len)
    |_=>stuck "buildSlice: a part of the wrong size" : Sem ad)
    (match h6 (λi=>some (i*size,size)) ((f2 (len*size)).map (j[· % j.size]!)) f.toList with
    |some cells=>do pure (mm (some (<-ci elem cells)) len len)
    |_=>stuck "buildSlice: a part of the wrong size" : Sem ad):=by
   rintro g a b zero j⟨hv,rfl⟩
   rcases wO (λi=>some (i*size,size)) (h.mono a) (xg hv (len*size)) with⟨l,n⟩|⟨r,y,l,n,s⟩
   .rw[l];exact ak
   .rw[l,n];exact af b (tS b elem s) λ_ _ _ _ _ u=>ah (.slice _ _ u)
  refine aN (λ_=>?_) λ_=>?_
  .exact c m (Ren.le_refl _) b #[] #[] ⟨VA.nil,rfl⟩
  .refine af b (gO o b k) λg a b z A v=>?_;obtain⟨hv,rfl⟩:=v;exact c g a b _ _ ⟨hv.cells,rfl⟩
 |_=>exact ak
def X7(b:ρ.bw T.globals.size)(ts:Array ag)(t:ag){f h:Array ad}(m:VA F ρ f h):av T fB fA F K (RV F) ρ (kq ts t f) (kq ts t h):=by
 unfold kq
 rcases VA.get? m 0 with⟨g,i⟩|⟨x,w,g,i,c⟩
 .rw[g];cases ts[0]?<;>exact ak
 rw[g,i]
 cases ts[0]? with
 |none=>exact ak
 |some s=>
  simp only;refine af b (fG s) λσ a b d p e=>?_;obtain⟨rfl,q⟩:=e;have c:=c.mono a
  cases d with
  |array n e=>exact ah (.int _ _)
  |string=>cases c<;>first|exact ah (.int _ _)|exact ak
  |slice e=>cases c<;>first|exact ah (.int _ _)|exact ak
  |pointer e=>
   refine af b (fG e) λj a b d p e=>?_;obtain⟨rfl,q⟩:=e;cases d<;>first|exact ah (.int _ _)|exact ak
  |map k e=>
   cases c with
   |qQ=>exact ah (.int _ _)
   |map r=>
    refine af b (dA r) λj a b o y u=>?_
    cases u with
    |@map es l clock v=>exact ah (by
     have:es.size=l.size:=by simpa using bD.length v
     show VR F j (goInt es.size) (goInt l.size);rw[this]
     exact .int _ _)
    |_=>exact ak
   |_=>exact ak
  |chan _ _=>cases c<;>exact ak
  |_=>exact ak
def Ac{f:ad->ad->Sem ad}(hf:∀{ρ:Ren}{x a y y':ad},ρ.bw T.globals.size->VR F ρ x a->VR F ρ y y'->av T fB fA F K (RV F) ρ (f x y) (f a y')) :
 ∀{l l':List ad}{ρ:Ren}{x a:ad},ρ.bw T.globals.size->cU F ρ l l'->VR F ρ x a->av T fB fA F K (RV F) ρ (l.foldlM f x) (l'.foldlM f a):=by
 intro l
 induction l with
 |nil=>intro l' ρ x a b h c;cases h;exact ah c
 |cons y l e=>
  intro l' ρ x a b h c
  cases h with
  |cons hy t=>exact af b (hf b c hy) λσ d g z j i=>e g (t.mono d) i
def TC(a:ρ.bw T.globals.size){x c y y':ad}(d:VR F ρ x c)(hy:VR F ρ y y'):av T fB fA F K (RV F) ρ (ks x y) (ks c y'):=by
 cases d<;>cases hy<;>first
  |exact ah (.int _ _)
  |exact ak
  |exact aA
  |skip
 refine af a (oe .geq _ _) λσ f a v v' hv=>?_;exact af a (tU hv) λ_ _ _ b b' e=>ah (by subst e;exact .string _)
def TD(a:ρ.bw T.globals.size){x c y y':ad}(d:VR F ρ x c)(hy:VR F ρ y y'):av T fB fA F K (RV F) ρ (kt x y) (kt c y'):=by
 cases d<;>cases hy<;>first
  |exact ah (.int _ _)
  |exact ak
  |exact aA
  |skip
 refine af a (oe .leq _ _) λσ f a v v' hv=>?_;exact af a (tU hv) λ_ _ _ b b' e=>ah (by subst e;exact .string _)
def X8(d:ρ.bw T.globals.size)(ts:Array ag)(t:ag){a c:Array ad}(b:VA F ρ a c):av T fB fA F K (RV F) ρ (kv ts t a) (kv ts t c):=by
 unfold kv;have b:cU F ρ a.toList c.toList:=b;generalize a.toList=l at b ⊢;generalize c.toList=f at b ⊢
 cases b with
 |nil=>exact ak
 |cons h t=>exact Ac (λd e hy=>TC d e hy) d t h
def X9(d:ρ.bw T.globals.size)(ts:Array ag)(t:ag){a c:Array ad}(b:VA F ρ a c):av T fB fA F K (RV F) ρ (kw ts t a) (kw ts t c):=by
 unfold kw;have b:cU F ρ a.toList c.toList:=b;generalize a.toList=l at b ⊢;generalize c.toList=f at b ⊢
 cases b with
 |nil=>exact ak
 |cons h t=>exact Ac (λd e hy=>TD d e hy) d t h
inductive gT(F:ac->Bool)(K:a8->Bool)(ρ:Ren):dO->dO->Prop
 |value {v v':ad} (h:VR F ρ v v'):gT F K ρ (n6 v) (n6 v')
 |skip:gT F K ρ n7 n7
 |enter (f:ac) (hf:F f=true) {a a':Array ad} (h:VA F ρ a a'):gT F K ρ (n8 f a) (n8 f a')
 |round {l l':Nat} (hl:ρ l l') (f:ac) (hf:F f=true) {a a':Array ad} (h:VA F ρ a a') (assign body:a8) (ha:K assign=true) (hb:K body=true):gT F K ρ (n9 l f a assign body) (n9 l' f a' assign body)
def si(fB fA:Array bb)(F:ac->Bool):Prop:=
 (∀l,fB[cn+l]?=none)/\∀f,F f=true->(∃b,fB[f]?=some b/\b.body.isSome=true/\b.name≠ "runtime.NumGoroutine")/\∃a,fA[f]?=some a/\a.body.isSome=true/\a.name≠ "runtime.NumGoroutine"
def uf{T:a9}{fs:Array bb}{f:ac}{b:bb}(h:fs[f]?=some b)(hb:b.body.isSome=true)(a:b.name≠ "runtime.NumGoroutine")(args:Array ad):∃k,dQ f args=program.bind k/\k ⟨T,fs⟩=pure (n8 f args):=by
 refine⟨_,rfl,?_⟩
 show(match fs[f]? with
  |none=>stuck "call: no such function"
  |some fn=>_)=_
 rw[h];have c:(b.name == "runtime.NumGoroutine")=false:=by simpa using a
 have d:b.body.isNone=false:=bo;grind
def C8(hF:si fB fA F){f:ac}(hf:F f=true){a a':Array ad}(h:VA F ρ a a'):av T fB fA F K (gT F K) ρ (dQ f a) (dQ f a'):=by
 obtain⟨⟨b,hb,l,d⟩,c,hc,g,e⟩:=hF.2 f hf;unfold dQ;refine bI ?_;show(av T fB fA F K) (gT F K) ρ (match fB[f]? with|none=>stuck "call: no such function" | some fn=>_) (match fA[f]? with|none=>stuck "call: no such function" | some fn=>_);rw[hb,hc];have i:(b.name == "runtime.NumGoroutine")=false:=by simpa using d
 have j:b.body.isNone=false:=bo;have c1:(c.name == "runtime.NumGoroutine")=false:=by simpa using e
 have k:c.body.isNone=false:=bo;simp only[i,j,c1,k,jz,if_false];exact ah (.enter f hf h)
def jV(a:ρ.bw T.globals.size){l l':Nat}(h:ρ l l'):av T fB fA F K (CN F K) ρ (jf l) (jf l'):=by
 refine af a (dA h) λσ _ _ o c b=>?_
 cases b with
 |loop h=>exact ah h
 |_=>exact ak
def Ov(params:Array Tmp){a a' t c:Array ad}(b:VA F ρ a a')(d:VA F ρ t c) :
 VA F ρ ((params.zip a).foldl (λtmps(t,a)=>tmps.setIfInBounds t a) t) ((params.zip a').foldl (λtmps(t,a)=>tmps.setIfInBounds t a) c):=by
 rw[<-f3,<-f3,f5,f5];have b:cU F ρ a.toList a'.toList:=b;generalize a.toList=l at b;generalize a'.toList=e at b;generalize params.toList=ps
 induction ps generalizing l e t c with
 |nil=>exact d
 |cons p ps f=>
  cases b with
  |nil=>exact d
  |cons h g=>exact f (VA.set d p h) _ _ g
def Ow(e:ρ.bw T.globals.size){l l':Nat}(h:ρ l l'){a a':Array ad}(d:VA F ρ a a'):av T fB fA F K (gT F K) ρ (jk l a) (jk l' a'):=by
 refine af e (jV e h) λσ c e r f b=>?_;have d:=VA.mono c d;rw[VA.size d,b.params];refine aN (λ_=>bz) λ_=>?_;rw[b.fn,b.assign,b.body];exact ah (.round (c h) _ (b.fn▸b.mI) (Ov _ d b.tmps) _ _ (b.assign▸b.CP) (b.body▸b.N6))
def bK{s s':Sem ad}(a:ρ.bw T.globals.size)(h:av T fB fA F K (RV F) ρ s s'):av T fB fA F K (gT F K) ρ (do pure (n6 (<-s)):Sem dO) (do pure (n6 (<-s')):Sem dO):=
 af a h λ_ _ _ _ _ hv=>ah (.value hv)
def vX{s s':Sem Unit}(a:ρ.bw T.globals.size)(h:av T fB fA F K fF ρ s s'):av T fB fA F K (gT F K) ρ (do s;pure n7:Sem dO) (do s';pure n7:Sem dO):=
 af a h λ_ _ _ _ _ _=>ah .skip
def C9(hF:si fB fA F)(l:Nat)(a:Array ad)(s':Sem dO):av T fB fA F K (gT F K) ρ (dQ (cn+l) a) s':=by
 refine lW ?_;show bW T fB (match fB[cn+l]? with|none=>stuck "call: no such function" | some fn=>_);rw[hF.1 l];trivial
def Ad{a:Type}{Z:ag->Bool}(b:dM T F Z)(g:TypeInfo->Sem a)(hg:∀i,i.methods.find? (·.name == "")=none->bW T fB (g i)):bW T fB (gy (bT 0) g):=by
 show bW T fB (gy (match T.info? 0 with|some i=>pure i|none=>stuck "no such type") g)
 cases hi:T.info? 0 with
 |none=>trivial
 |some i=>exact hg i (b.2 i hi)
def Da{Z:ag->Bool}(a:dM T F Z)(v:ad):bW T fB (dT (T.types.size+Made.depth) 0 v ""):=by
 show bW T fB (dT ((T.types.size+99)+1) 0 v "");unfold dT;refine Ad a _ λi hi=>?_;simp only[hi];trivial
def Gj{Z:ag->Bool}(a:dM T F Z)(v:ad):bW T fB (dU (T.types.size+Made.depth) 0 v ""):=by
 show bW T fB (dU ((T.types.size+99)+1) 0 v "");unfold dU;refine Ad a _ λi hi=>?_;simp only[hi];trivial
def jE{Z:ag->Bool}(i:dM T F Z)(hF:si fB fA F)(j:ρ.bw T.globals.size){f f':ad}(hf:VR F ρ f f'){a a':Array ad}(k:VA F ρ a a') :
 av T fB fA F K (gT F K) ρ (do let d<-k6 f a;d8 d.target d.args) (do let d<-k6 f' a';d8 d.target d.args):=by
 cases hf with
 |func h l m=>
  have b:=VA.append l k
  cases h with
  |func g hg=>exact C8 hF hg (VA.append b m)
  |yield hl=>exact Ow j hl b
  |spec hl=>exact C9 hF _ _ _
 |wG n f c=>
  refine bW.rel ?_ _;have e:(#[Value.iface 0 mf]++a)[0]?=some (mr 0 mf):=aS;unfold k6;simp only[pure_bind];unfold d8;simp only[e];show bW T fB (gy (dT (T.types.size+Made.depth) 0 mf "") _);exact bW.bind (Da i _)
 |nilFunc=>exact nY
 |_=>exact ak
end
def Bh(F:ac->Bool):ad->Bool
 |l5 _ | l6 .. | l7 _ | mc none | mm none _ _ | mn none | mi | mf=>true
 |mj (l1 f) a b=>F f&&a.toList.isEmpty&&b.toList.isEmpty
 |_=>false
def pM(F:ac->Bool):Nat->ad->Bool
 |0,v=>Bh F v
 |n+1,v=>match v with
  |ma a=>a.toList.all (pM F n)
  |my a=>a.toList.all (pM F n)
  |mr _ v=>pM F n v
  |v=>Bh F v
def cF(F:ac->Bool):dq->Bool
 |.tmp _=>true
 |.const v=>pM F 6 v
 |.global _=>false
 |.func f=>F f
def Gl(T:a9)(F:ac->Bool)(Z:ag->Bool)(c:Call):Bool:=
 c.args.toList.all (cF F)&&match c.callee with
  |.value f=>cF F f
  |.invoke ..=>false
  |.builtin .append=>
   (match c.argTypes[0]? with|none=>true|some s=>match tY T s with|some (.slice e)=>Z e|_=>true) &&
   (match c.argTypes[1]? with|none=>true|some s=>match tY T s with|some (.int _)=>false|_=>true)
  |.builtin .len | .builtin .max | .builtin .min=>true
  |.builtin _=>false
def Db(T:a9)(Z:ag->Bool)(t:ag):Bool:=match tY T t with|some (.map k e)=>og T 8 k&&Z e|_=>true
def Ya:ac:=22
def jh(T:a9)(F:ac->Bool)(Z:ag->Bool):Op->Bool
 |.move x | .assign x | .box _ x | .load _ x | .nilCheck x | .unOp _ _ x | .fieldAddr _ x _ | .field _ x _ | .range _ x | .next x _ | .entry x | .extract x _=>cF F x
 |.pick a b c=>cF F a&&cF F b&&cF F c
 |.alloc t=>Z t
 |.build t ps=>Z t&&ps.toList.all λp=>cF F p.2
 |.buildSlice t _ ps=>(match tY T t with|some (.slice e)=>Z e|_=>true)&&ps.toList.all λp=>cF F p.2
 |.store _ a b | .indexAddr _ a b | .index _ a b=>cF F a&&cF F b
 |.binOp op t a b _=>(cF F a&&cF F b)&&(!(op matches .eql | .neq) || !hr ⟨T,#[]⟩ (hO ⟨T,#[]⟩) t)
 |.convert s d x=>tZ T s&&tZ T d&&cF F x
 |.makeFunc (l1 f) xs ys=>F f&&xs.toList.all (cF F)&&ys.toList.all (cF F)
 |.makeMap _ none=>true
 |.slice _ x l h m=>cF F x&&l.all (cF F)&&h.all (cF F)&&m.all (cF F)
 |.lookup t a b _=>Db T Z t&&cF F a&&cF F b
 |ke t a b c | kf t a b c=>F Ya&&(Db T Z t&&cF F a&&cF F b&&cF F c)
 |.call c=>Gl T F Z c
 |_=>false
section
variable {T:a9}{fB fA:Array bb}{F:ac->Bool}{K:a8->Bool}{ρ σ:Ren}
def cU.self{l:List ad}(h:∀v∈l,VR F ρ v v):cU F ρ l l:=by
 induction l with
 |nil=>exact .nil
 |cons v l a=>exact .cons (h v ar) (a λu b=>h u (by simp[b]))
def xh{v:ad}(h:Bh F v=true):VR F ρ v v:=by
 cases v with
 |bool b=>exact .bool b
 |int k n=>exact .int k n
 |string s=>exact .string s
 |pointer a=>cases a with
  |none=>exact .dS
  |some _=>cases h
 |slice a _ _=>cases a with
  |none=>exact .di _ _
  |some _=>cases h
 |map a=>cases a with
  |none=>exact .qQ
  |some _=>cases h
 |nilFunc=>exact .nilFunc
 |nilIface=>exact .nilIface
 |func fn a b=>
  cases fn with
  |func f=>
   simp only[Bh,jw,List.isEmpty_iff]at h;exact .func (.func f h.1.1) (by rw[h.1.2];exact .nil) (by rw[h.2];exact .nil)
  |_=>cases h
 |_=>cases h
def uY(n:Nat):∀{v:ad},pM F n v=true->VR F ρ v v:=by
 induction n with
 |zero=>intro v h;exact xh h
 |succ n b=>
  intro v h
  cases v with
  |agg a=>exact .agg (cU.self λv hv=>b (List.all_eq_true.1 h v hv))
  |tuple a=>exact .tuple (cU.self λv hv=>b (List.all_eq_true.1 h v hv))
  |iface t v=>exact .iface t (b h)
  |_=>exact xh h
def lN(F:ac->Bool)(ρ:Ren)(e e':dq->ad):Prop:=∀x,cF F x=true->VR F ρ (e x) (e' x)
def dD{fr fr':d9}(h:VA F ρ fr.tmps fr'.tmps):lN F ρ fr.eval fr'.eval:=by
 intro x a
 cases x with
 |tmp t=>exact VA.getD h t VR.undef
 |const v=>exact uY 6 a
 |global g=>cases a
 |func f=>exact .func (.func f a) .nil .nil
def lN.list{e e':dq->ad}(h:lN F ρ e e'){l:List dq}(hl:l.all (cF F)=true):cU F ρ (l.map e) (l.map e'):=
 cU.map l λx a=>h x (List.all_eq_true.1 hl x a)
def lN.arr{e e':dq->ad}(h:lN F ρ e e'){l:Array dq}(hl:l.toList.all (cF F)=true):VA F ρ (l.map e) (l.map e'):=by
 show cU _ _ _ _;rw[f1,f1];exact h.list hl
def lN.opt{e e':dq->ad}(h:lN F ρ e e'){o:Option dq}(a:o.all (cF F)=true):lJ F ρ (o.map e) (o.map e'):=by
 cases o with
 |none=>exact .none
 |some x=>exact .some (h x (by simpa using a))
def lN.parts{e e':dq->ad}(h:lN F ρ e e'){l:Array (Nat×dq)}(hl:(l.toList.all λp=>cF F p.2)=true):kX F ρ (l.map fun(i,x)=>(i,e x)).toList (l.map fun(i,x)=>(i,e' x)).toList:=by
 rw[f1,f1];generalize l.toList=m at hl
 induction m with
 |nil=>exact .nil
 |cons p m a=>
  simp only[e8,jw]at hl;exact .cons p.1 (h _ hl.1) (a hl.2)
def TE{Z:ag->Bool}(h:dM T F Z)(hF:si fB fA F)(a:ρ.bw T.globals.size){e e':dq->ad}(i:lN F ρ e e')(c:Call)(t:ag)(ok:Gl T F Z c=true) :
 av T fB fA F K (gT F K) ρ (do let d<-ea e c t;d8 d.target d.args) (do let d<-ea e' c t;d8 d.target d.args):=by
 obtain⟨callee,args,argTypes⟩:=c;simp only[Gl,jw]at ok;obtain⟨g,ok⟩:=ok;have g:=i.arr g
 cases callee with
 |value f=>exact jE h hF a (i f ok) g
 |invoke _ _=>cases ok
 |builtin b=>
  cases b with
  |append=>
   simp only[jw]at ok;refine bK a (LH h a t (λs hs l j=>?_) (λs hs k m=>?_) g)
   .grind
   grind
  |len=>exact bK a (X7 a argTypes t g)
  |max=>exact bK a (X8 a argTypes t g)
  |min=>exact bK a (X9 a argTypes t g)
  |_=>cases ok
def Dc:Op->Bool
 |ke .. | kf ..=>true
 |_=>false
def ug{Z:ag->Bool}(q:dM T F Z)(hF:si fB fA F)(g:ρ.bw T.globals.size){e e':dq->ad}(j:lN F ρ e e')(o:eb)(ok:jh T F Z o.op=true)(w:Dc o.op=false) :
 av T fB fA F K (gT F K) ρ (ec e o) (ec e' o):=by
 obtain⟨dst,op,type,pos,after,guard⟩:=o;simp only at ok w;unfold ec
 cases op with
 |move x=>exact ah (.value (j x ok))
 |assign x=>exact ah (.value (j x ok))
 |pick c a b=>
  simp only[jh,jw]at ok;refine af g (tU (j c ok.1.1)) λσ u g b b' e=>ah (.value ?_);subst e;cases b
  .exact(j _ ok.2).mono u
  .exact(j _ ok.1.2).mono u
 |alloc t=>exact bK g (Oc q g ok)
 |box t x=>exact bK g (XY g t (j x ok))
 |build t ps=>
  simp only[jh,jw]at ok;exact bK g (Oe q g ok.1 (j.parts ok.2))
 |buildSlice t n ps=>
  simp only[jh,jw]at ok;exact bK g (zB q g (λC D=>aS) n (j.parts ok.2))
 |load t a=>exact bK g (Lx g t (j a ok))
 |store t a x=>
  simp only[jh,jw]at ok;exact vX g (FR g t (j a ok.1) (j x ok.2))
 |nilCheck x=>
  have A:=j x ok;simp only;generalize e x=v at A;generalize e' x=v' at A
  cases A with
  |func hf E B=>cases hf<;>exact ah (.value (.func (by constructor<;>assumption) E B))
  |wG n f c=>
   refine bW.rel ?_ _;show bW T fB (gy (dU (T.types.size+Made.depth) 0 mf "") _);exact bW.bind (Gj q _)
  |hole v' h=>
   cases v' with
   |pointer p=>cases p with
    |none=>cases h
    |some _=>exact ah (.value (.hole _ h))
   |func fn _ _=>cases fn with
    |method _=>cases h
    |_=>exact ah (.value (.hole _ h))
   |agg _=>cases h
   |nilIface=>cases h
   |nilFunc=>cases h
   |_=>exact ah (.value (.hole _ h))
  |_=>first|exact nY|exact ah (.value (by first|exact .wG _ _ _|exact .dK _ _|(constructor<;>assumption)))
 |binOp op t x y I=>
  simp only[jh,jw]at ok;refine bK g (F6 g op t x y (j x ok.1.1) (j y ok.1.2) λh=>?_);have B:=ok.2;have H:hr ⟨T,#[]⟩ (hO ⟨T,#[]⟩) t=false:=by
   grind
  rw[kJ T fB #[]];exact H
 |unOp op t x=>exact bK g (On (j x ok))
 |convert s d x=>
  simp only[jh,jw]at ok;exact bK g (F8 g ok.1.1 ok.1.2 (j x ok.2))
 |makeFunc fn xs ys=>
  cases fn with
  |func f=>
   simp only[jh,jw]at ok;exact bK g (ah (.func (.func f ok.1.1) (j.arr ok.1.2) (j.arr ok.2)))
  |_=>cases ok
 |makeMap t r=>
  cases r with
  |none=>exact bK g (Ga g t)
  |some _=>cases ok
 |slice t x l h m=>
  simp only[jh,jw]at ok;exact bK g (FZ g t (j x ok.1.1.1) (j.opt ok.1.1.2) (j.opt ok.1.2) (j.opt ok.2))
 |fieldAddr t x i=>exact bK g (FV g t (j x ok) i)
 |field t x i=>exact bK g (Of g t (j x ok) i)
 |indexAddr t x y=>
  simp only[jh,jw]at ok;exact bK g (FW g t (j x ok.1) (j y ok.2))
 |index t x y=>
  simp only[jh,jw]at ok;exact bK g (Og g t (j x ok.1) (j y ok.2))
 |lookup t x y b=>
  simp only[jh,jw]at ok;refine bK g (LD (m:=8) q g t (λk C h=>?_) (j x ok.1.2) (j y ok.2) b);have:=ok.1.1;simpa[Db,h]using this
 |mapUpdate t x y z=>cases w
 |insert t x y z=>cases w
 |range t x=>exact bK g (Oq g t (j x ok))
 |next x b=>exact bK g (Tz g (j x ok) b type)
 |entry x=>exact bK g (Ot g (j x ok))
 |extract x i=>exact bK g (FX (j x ok) i)
 |call c=>exact TE q hF g j c type ok
 |_=>cases ok
def xj(e:dq->ad)(o:eb)(h:Dc o.op=true):∃t x y z,(o.op=ke t x y z\/o.op=kf t x y z)/\ec e o=gy (i3 t (e x) (e y) (e z)) λ_=>hk n7:=by
 obtain⟨dst,op,type,pos,after,guard⟩:=o;simp only at h
 cases op with
 |mapUpdate t x y z=>exact⟨_,_,_,_,lT rfl,rfl⟩
 |insert t x y z=>exact⟨_,_,_,_,lW rfl,rfl⟩
 |_=>cases h
def Dd{Z:ag->Bool}{o:Op}{t:ag}{x y z:dq}(h:o=ke t x y z\/o=kf t x y z)(ok:jh T F Z o=true) :
 (∀k e,tY T t=some (.map k e)->og T 8 k=true)/\cF F x=true/\cF F y=true/\cF F z=true:=by
 have a:(Db T Z t&&cF F x&&cF F y&&cF F z)=true:=by rcases h with rfl|rfl<;>exact(Bool.and_eq_true_iff.1 ok).2
 simp only[jw]at a;refine⟨λk b h=>?_,a.1.1.2,a.1.2,a.2⟩;have:=a.1.1.1;simp[Db,h]at this;exact this.1
def acm{Z:ag->Bool}{o:Op}(a:F Ya=false)(ok:jh T F Z o=true):Dc o=false:=by
 cases o with
 |mapUpdate t x y z=>simp[jh,a]at ok
 |insert t x y z=>simp[jh,a]at ok
 |_=>rfl
def De{Z:ag->Bool}(q:dM T F Z)(hF:si fB fA F)(f:ρ.bw T.globals.size){w w':ai}(n:WR T.globals.size F K ρ w w')(p:w.tape=w'.tape)(hd:w.drawn=w'.drawn){e e':dq->ad}(b:lN F ρ e e')(o:eb)(ok:jh T F Z o.op=true)(c:Array bj) :
 qp T.globals.size F K (gT F K) ρ w w' c ((ec e' o).runT ⟨T,fA⟩ w' c) ((ec e o).run ⟨T,fB⟩ w):=by
 by_cases g:Dc o.op=true
 .obtain⟨t,x,y,z,r,s⟩:=xj e o g;obtain⟨u,A,y',B,E,C⟩:=xj e' o g;obtain⟨rfl,rfl,rfl,rfl⟩:t=u/\x=A/\y=y'/\z=B:=by
   grind
  obtain⟨k1,k2,k3,D⟩:=Dd r ok;rw[s,C,gG,gL];have h:=Ty (fB:=fB) (fA:=fA) (K:=K) f n p hd t k1 (b x k2) (b y k3) (b z D) c;generalize(i3 t (e x) (e y) (e z)).run ⟨T,fB⟩ w=res at h
  match res,h with
  |lM a w2,⟨i,H,j,l,m,d,e,k,I⟩=>rw[e];exact⟨i,n7,j,l,m,d,rfl,k,.skip⟩
  |lR (nd v) w2,⟨i,v',j,l,m,d,e,k,hv⟩=>rw[e];exact⟨i,v',j,l,m,d,rfl,k,hv⟩
  |lR nq _,h=>exact h
  |lR ns _,h=>exact h
  |lR (nt _) _,h=>exact h
  |lR (nE _) _,h=>exact h
  |lR (nV _) _,h=>exact h
  |lR n0 _,h=>exact h
  |lR (nl _) _,h=>exact h
  |lR (nf _) _,_=>trivial
 .exact(av.run c (ug q hF f b o ok (by simpa using g)) f n p hd).zu
end
def codeOk(T:a9)(F:ac->Bool)(Z:ag->Bool):a8->Bool
 |.skip | .exit _ | .label _ | .goto _ | .ret=>true
 |.region _ ops _=>ops.toList.all λo=>jh T F Z o.op
 |.seq a b=>codeOk T F Z a&&codeOk T F Z b
 |.cond c a b=>cF F c&&codeOk T F Z a&&codeOk T F Z b
 |.block _ b | .loop b | .scope b=>codeOk T F Z b
 |.rangeFunc f _ a b=>cF F f&&codeOk T F Z a&&codeOk T F Z b
 |.refuse _=>false
structure Bi(T:a9)(fB fA:Array bb)(F:ac->Bool)(Z:ag->Bool)(f:ac):Prop where
 ex:∃fn c,fB[f]?=some fn/\fA[f]?=some fn/\fn.body=some c/\codeOk T F Z c=true
section
variable (T:a9)(F:ac->Bool)(Z:ag->Bool)
inductive nF(ρ:Ren):ed->ed->Prop
 |code (c:a8) (h:codeOk T F Z c=true):nF ρ (lu c) (lu c)
 |inBlock (id:Nat):nF ρ (.inBlock id) (.inBlock id)
 |inLoop (c:a8) (h:codeOk T F Z c=true):nF ρ (.inLoop c) (.inLoop c)
 |inScope (c:a8) (h:codeOk T F Z c=true):nF ρ (.inScope c) (.inScope c)
 |inRegion (ops:Array eb) (todo:List Nat) (h:(ops.toList.all λo=>jh T F Z o.op)=true):nF ρ (lx ops todo) (lx ops todo)
 |inRangeFunc {l l':Nat} (h:ρ l l'):nF ρ (ly l) (ly l')
 |endRangeFunc {l l':Nat} (h:ρ l l'):nF ρ (lA l) (lA l')
 |beginRound:nF ρ lL lL
inductive cN(ρ:Ren):List ed->List ed->Prop
 |nil:cN ρ [] []
 |cons {i i':ed} {l l':List ed} (h:nF T F Z ρ i i') (t:cN ρ l l'):cN ρ (i::l) (i'::l')
inductive fS(ρ:Ren):List eg->List eg->Prop
 |nil:fS ρ [] []
 |cons {r r':Nat} {l l':List eg} (h:ρ r r') (t:fS ρ l l'):fS ρ ({ target:=.collected r,args:=#[] }::l) ({ target:=.collected r',args:=#[] }::l')
inductive ji(ρ:Ren):List eh->List eh->Prop
 |nil:ji ρ [] []
 |cons {v v':ad} {l l':List eh} (h:VR F ρ v v') (t:ji ρ l l'):ji ρ ({ v,recovered:=false }::l) ({ v:=v',recovered:=false }::l')
inductive qE(ρ:Ren):ei->ei->Prop
 |run:qE ρ ob ob
 |returning:qE ρ od od
 |panicking {c c':List eh} (h:ji F ρ c c'):qE ρ (oh c) (oh c')
inductive om(ρ:Ren):Option Nat->Option Nat->Prop
 |none:om ρ none none
 |some {l l':Nat} (h:ρ l l'):om ρ (some l) (some l')
structure aQ(fB fA:Array bb)(ρ:Ren)(fr fr':d9):Prop where
 fn:fr'.fn=fr.fn
 same:fr.roundOf=none->Bi T fB fA F Z fr.fn
 mI:F fr.fn=true
 tmps:VA F ρ fr.tmps fr'.tmps
 todo:cN T F Z ρ fr.todo fr'.todo
 defers:fS ρ fr.defers fr'.defers
 mode:qE F ρ fr.mode fr'.mode
 kind:fr.kind=oj
 bX:fr'.kind=oj
 roundOf:om ρ fr.roundOf fr'.roundOf
 ret:fr.mode=od->fr.roundOf=none
inductive cj(fB fA:Array bb)(ρ:Ren):List d9->List d9->Prop
 |nil:cj fB fA ρ [] []
 |cons {f f':d9} {l l':List d9} (h:aQ T F Z fB fA ρ f f') (t:cj fB fA ρ l l'):cj fB fA ρ (f::l) (f'::l')
end
section
variable {T:a9}{fB fA:Array bb}{F:ac->Bool}{Z:ag->Bool}{ρ σ:Ren}
def nF.mono(h:ρ.le σ){i b:ed}(x:nF T F Z ρ i b):nF T F Z σ i b:=by
 cases x with
 |code c a=>exact .code c a
 |inBlock id=>exact .inBlock id
 |inLoop c a=>exact .inLoop c a
 |inScope c a=>exact .inScope c a
 |inRegion ops todo a=>exact .inRegion ops todo a
 |inRangeFunc a=>exact .inRangeFunc (h a)
 |endRangeFunc a=>exact .endRangeFunc (h a)
 |beginRound=>exact .beginRound
def cN.mono(h:ρ.le σ){l l':List ed}(x:cN T F Z ρ l l'):cN T F Z σ l l':=by
 induction x with
 |nil=>exact .nil
 |cons a _ b=>exact .cons (a.mono h) b
theorem cN.append{l l' m m':List ed}(x:cN T F Z ρ l l')(y:cN T F Z ρ m m'):cN T F Z ρ (l++m) (l'++m'):=by
 induction x with
 |nil=>exact y
 |cons a _ b=>exact .cons a b
def fS.mono(h:ρ.le σ){l l':List eg}(x:fS ρ l l'):fS σ l l':=by
 induction x with
 |nil=>exact .nil
 |cons a _ b=>exact .cons (h a) b
theorem fS.append{l l' m m':List eg}(x:fS ρ l l')(y:fS ρ m m'):fS ρ (l++m) (l'++m'):=by
 induction x with
 |nil=>exact y
 |cons a _ b=>exact .cons a b
def ji.mono(h:ρ.le σ){l l':List eh}(x:ji F ρ l l'):ji F σ l l':=by
 induction x with
 |nil=>exact .nil
 |cons a _ b=>exact .cons (a.mono h) b
theorem ji.append{l l' m m':List eh}(x:ji F ρ l l')(y:ji F ρ m m'):ji F ρ (l++m) (l'++m'):=by
 induction x with
 |nil=>exact y
 |cons a _ b=>exact .cons a b
def qE.mono(h:ρ.le σ){m m':ei}(x:qE F ρ m m'):qE F σ m m':=by
 cases x with
 |run=>exact .run
 |returning=>exact .returning
 |panicking a=>exact .panicking (a.mono h)
def om.mono(h:ρ.le σ){m m':Option Nat}(x:om ρ m m'):om σ m m':=by
 cases x with
 |none=>exact .none
 |some a=>exact .some (h a)
def aQ.mono(h:ρ.le σ){f f':d9}(x:aQ T F Z fB fA ρ f f'):aQ T F Z fB fA σ f f':=
 ⟨x.fn,x.same,x.mI,cU.mono h x.tmps,x.todo.mono h,x.defers.mono h,x.mode.mono h,x.kind,x.bX,x.roundOf.mono h,x.ret⟩
def cj.mono(h:ρ.le σ){l l':List d9}(x:cj T F Z fB fA ρ l l'):cj T F Z fB fA σ l l':=by
 induction x with
 |nil=>exact .nil
 |cons a _ b=>exact .cons (a.mono h) b
def aQ.oper?{f f':d9}(x:aQ T F Z fB fA ρ f f'):f'.oper? = f.oper?:=by
 unfold k7;have a:=x.todo;generalize f.todo=l at a;generalize f'.todo=b at a
 cases a with
 |nil=>rfl
 |cons h t=>
  cases h with
  |inRegion ops todo _=>cases todo<;>rfl
  |_=>rfl
def aQ.finish{f f':d9}(x:aQ T F Z fB fA ρ f f'){v v':ad}(hv:VR F ρ v v'):aQ T F Z fB fA ρ (f.finish v) (f'.finish v'):=by
 obtain⟨fn,tmps,todo,defers,mode,kind,w⟩:=f;obtain⟨y,n,z,A,B,bX,C⟩:=f';obtain⟨o,b,e,a,p,g,j,q,r,k,l⟩:=x;simp only at o b e a p g j q r k l;subst o q r
 cases p with
 |nil=>exact⟨rfl,b,e,a,.nil,g,j,rfl,rfl,k,l⟩
 |cons h t=>
  cases h with
  |inRegion ops u s=>
   cases u with
   |nil=>exact⟨rfl,b,e,a,.cons (.inRegion ops [] s) t,g,j,rfl,rfl,k,l⟩
   |cons i m=>
    refine⟨rfl,b,e,?_,.cons (.inRegion ops m s) t,g,j,rfl,rfl,k,l⟩;show VA F ρ (match(ops[i]?).bind (·.dst) with|some d=>tmps.setIfInBounds d v|none=>tmps) (match(ops[i]?).bind (·.dst) with|some d=>n.setIfInBounds d v'|none=>n)
    cases(ops[i]?).bind (·.dst) with
    |none=>exact a
    |some d=>exact VA.set a d hv
  |inRangeFunc hl=>exact⟨rfl,b,e,a,.cons (.endRangeFunc hl) t,g,j,rfl,rfl,k,l⟩
  |beginRound=>exact⟨rfl,b,e,a,t,g,j,rfl,rfl,k,l⟩
  |code c hc=>exact⟨rfl,b,e,a,.cons (.code c hc) t,g,j,rfl,rfl,k,l⟩
  |inBlock id=>exact⟨rfl,b,e,a,.cons (.inBlock id) t,g,j,rfl,rfl,k,l⟩
  |inLoop c hc=>exact⟨rfl,b,e,a,.cons (.inLoop c hc) t,g,j,rfl,rfl,k,l⟩
  |inScope c hc=>exact⟨rfl,b,e,a,.cons (.inScope c hc) t,g,j,rfl,rfl,k,l⟩
  |endRangeFunc hl=>exact⟨rfl,b,e,a,.cons (.endRangeFunc hl) t,g,j,rfl,rfl,k,l⟩
def aQ.raise{f f':d9}(x:aQ T F Z fB fA ρ f f'){c c':List eh}(hc:ji F ρ c c'):aQ T F Z fB fA ρ (f.raise c) (f'.raise c'):=by
 obtain⟨fn,tmps,todo,defers,mode,kind,p⟩:=f;obtain⟨q,r,s,t,u,bX,v⟩:=f';obtain⟨a,b,d,g,i,j,n,k,l,m,o⟩:=x;simp only at a b d g i j n k l m o
 cases n with
 |run=>exact⟨a,b,d,g,i,j,.panicking hc,k,l,m,bs⟩
 |returning=>exact⟨a,b,d,g,i,j,.panicking hc,k,l,m,bs⟩
 |panicking h=>exact⟨a,b,d,g,i,j,.panicking (hc.append h),k,l,m,bs⟩
def aQ.lO{f f':d9}(x:aQ T F Z fB fA ρ f f'){t a:List ed}(h:cN T F Z ρ t a):aQ T F Z fB fA ρ { f with todo:=t } { f' with todo:=a }:=
 ⟨x.fn,x.same,x.mI,x.tmps,h,x.defers,x.mode,x.kind,x.bX,x.roundOf,x.ret⟩
def xo(id:Nat){l l':List ed}(h:cN T F Z ρ l l'):(ej id l=none/\ej id l'=none)\/∃k k',ej id l=some k/\ej id l'=some k'/\cN T F Z ρ k k':=by
 induction h with
 |nil=>exact lT ⟨rfl,rfl⟩
 |cons h t a=>
  cases h with
  |inBlock b=>
   simp only[ej];grind
  |_=>exact a
def Bj(l:Nat):∀{c r:a8},codeOk T F Z c=true->ek c l=some r->codeOk T F Z r=true:=by
 intro c
 induction c with
 |seq a b d e=>
  intro r hc h;simp only[codeOk,jw]at hc;simp only[ek]at h;split at h
  .rename_i f g;cases h;simp only[codeOk,jw];exact⟨d hc.1 g,hc.2⟩
  .exact e hc.2 h
 |label i=>
  intro r hc h;simp only[ek]at h;split at h
  .cases h;rfl
  .cases h
 |_=>intro r hc h;simp[ek]at h
def xq(id:Nat){l l':List ed}(h:cN T F Z ρ l l'):(el id l=none/\el id l'=none)\/∃k k',el id l=some k/\el id l'=some k'/\cN T F Z ρ k k':=by
 induction h with
 |nil=>exact lT ⟨rfl,rfl⟩
 |cons h t a=>
  cases h with
  |inScope c hc=>
   simp only[el];split
   .rename_i b d;exact lW ⟨_,_,rfl,rfl,.cons (.code _ (Bj id hc d)) (.cons (.inScope c hc) t)⟩
   .exact a
  |_=>exact a
def oo(ops:Array eb){t c:Array ad}(h:VA F ρ t c)(j:Nat):em ops t j=em ops c j:=by
 unfold em
 cases(ops[j]?).bind (·.dst) with
 |none=>rfl
 |some d=>
  rcases VA.get? h d with⟨a,b⟩|⟨v,v',a,b,hv⟩
  .simp[a,b]
  .simp only[kS,a,b]
   cases hv with
   |hole v' h=>cases v'<;>first|rfl|cases h
   |_=>rfl
def fe{f:ac}(hs:Bi T fB fA F Z f)(hf:F f=true){a a':Array ad}(h:VA F ρ a a'):aQ T F Z fB fA ρ (k8 ⟨T,fB⟩ f a oj) (k8 ⟨T,fA⟩ f a' oj):=by
 obtain⟨fn,c,b,d,g,i⟩:=hs.ex;refine⟨rfl,λ_=>hs,hf,?_,?_,.nil,.run,rfl,rfl,.none,bs⟩
 .show VA F ρ (a++fm ((fB[f]?.map (·.ntmps)).getD 0-a.size) undef) (a'++fm ((fA[f]?.map (·.ntmps)).getD 0-a'.size) undef);rw[b,d,VA.size h];exact VA.append h (VA.replicate .undef _)
 .show cN T F Z ρ [lu ((fB[f]?.bind (·.body)).getD _)] [lu ((fA[f]?.bind (·.body)).getD _)];rw[b,d];simp only[kS,g,Option.getD_some];exact .cons (.code _ i) .nil
end
section
variable (T:a9)(fB fA:Array bb)(F X:ac->Bool)(Z:ag->Bool)(bot:d9)
inductive Gm(ρ:Ren):d9->d9->Prop
 |alike {f f':d9} (h:aQ T F Z fB fA ρ f f'):Gm ρ f f'
 |enters (x:ac) (hx:X x=true) (hf:F x=true) {a a':Array ad} (h:VA F ρ a a'):Gm ρ (k8 ⟨T,fB⟩ x a oj) (k8 ⟨T,fA⟩ x a' oj)
def dn(l:List d9):Prop:=∀f,l.getLast? = some f->f.roundOf=none
structure GR(ρ:Ren)(g g':ep):Prop where
 top:Gm T fB fA F X Z ρ g.frame g'.frame
 callers:∃l,g.callers=l++[bot]/\cj T F Z fB fA ρ l g'.callers/\dn (g.frame::l)/\(l=[]->aQ T F Z fB fA ρ g.frame g'.frame)
 st:g.status=ol
 st':g'.status=ol
 dy:g.dying=none
 Bl:g'.dying=none
 of:g.offers=none
 Bm:g'.offers=none
def ef(ρ:Ren)(w w':ai):eq->eq->Prop
 |lh f w1 _,g=>∃a b c e h d,g=lh b c e/\cE T.globals.size F (codeOk T F Z) ρ w w' a (w1.re h d) c e/\GR T fB fA F X Z bot a f b
 |li ..,_=>True
 |_,_=>False
structure Fits:Prop where
 zero:dM T F Z
 fns:si fB fA F
 same:∀f,F f=true->X f=false->Bi T fB fA F Z f
structure Wd(ρ:Ren)(w w':ai):Prop where
 inj:ρ.bw T.globals.size
 wr:WR T.globals.size F (codeOk T F Z) ρ w w'
 tape:w.tape=w'.tape
 drawn:w.drawn=w'.drawn
end
section
variable {T:a9}{fB fA:Array bb}{F X:ac->Bool}{Z:ag->Bool}{bot:d9}{ρ σ:Ren}{w w':ai}
def cE.wd{a:Ren}{w1 b:ai}{es:Array bj}(h:cE T.globals.size F (codeOk T F Z) ρ w w' a w1 b es):Wd T F Z a w1 b:=⟨h.inj,h.wr,h.tape,h.drawn⟩
def Wd.refl(h:Wd T F Z ρ w w'):cE T.globals.size F (codeOk T F Z) ρ w w' ρ w w' #[]:=cE.refl h.inj h.wr h.tape h.drawn
def cE.less{a:Ren}{w1 b:ai}{es c:Array bj}(h:cE T.globals.size F (codeOk T F Z) ρ w w' a w1 b es)(k:∀e∈c,e∈es):cE T.globals.size F (codeOk T F Z) ρ w w' a w1 b c:=
 { h with ev:=λe d=>h.ev e (k e d) }
def dn.push{f:d9}{l:List d9}(h:dn (f::l))(g:d9):dn (g::f::l):=λx a=>h x (by simpa using a)
def dn.top{f g:d9}{l:List d9}(h:dn (f::l))(e:g.roundOf=f.roundOf):dn (g::l):=by
 cases l with
 |nil=>intro x b;simp at b;subst b;exact e.trans (h f rfl)
 |cons a l=>exact λx b=>h x (by simpa using b)
def dn.pop{f g:d9}{l:List d9}(h:dn (f::g::l)):dn (g::l):=λx a=>h x (by simpa using a)
def bZ(f:d9)(v:ad):(f.finish v).roundOf=f.roundOf:=by
 unfold Frame.finish;split<;>rfl
def eC(f:d9)(c:List eh):(f.raise c).roundOf=f.roundOf:=by
 unfold k9;split<;>rfl
def ef.comp{b:Ren}{w1 c:ai}{new es a:Array bj}{s s':eq}(f:cE T.globals.size F (codeOk T F Z) ρ w w' b w1 c new)(h:ef T fB fA F X Z bot b w1 c s s')(g:∀e∈a,e∈new) :
 ef T fB fA F X Z bot ρ w w' (lf es s) (lf a s'):=by
 cases s with
 |go p w2 q=>
  obtain⟨i,j,l,m,n,d,e,k,o⟩:=h;subst e;exact⟨i,j,l,a++m,n,d,rfl,(f.less g).trans k,o⟩
 |ended _ _ _=>trivial
 |_=>exact h.elim
def Bo{ops:Array eb}(h:(ops.toList.all λo=>jh T F Z o.op)=true){i:Nat}{o:eb}(a:ops[i]?=some o):jh T F Z o.op=true:=by
 grind
def Ae(fit:Fits T fB fA F X Z)(N:Wd T F Z ρ w w'){fr fr':d9}{cs cs':List d9}(n:aQ T F Z fB fA ρ fr fr')(hcs:cj T F Z fB fA ρ cs cs')(hb:dn (fr::cs))
 {s s':Sem dO} (p:qp T.globals.size F (codeOk T F Z) (gT F (codeOk T F Z)) ρ w w' #[] (s'.runT ⟨T,fA⟩ w' #[]) (s.run ⟨T,fB⟩ w)) :
 ef T fB fA F X Z bot ρ w w' (lj ⟨T,fB⟩ true fr (cs++[bot]) none s w) (lj ⟨T,fA⟩ true fr' cs' none s' w'):=by
 have z:(s.runT ⟨T,fB⟩ w #[]).1=s.run ⟨T,fB⟩ w:=g0 _ _ _ _;have A:(fr'.kind == .early)=false:=by rw[n.bX];rfl
 generalize E:s.runT ⟨T,fB⟩ w #[]=H at z;obtain⟨r,es⟩:=H;simp only at z;rw[<-z]at p;unfold lj;simp only[if_true,E]
 cases r with
 |ok a w1=>
  obtain⟨b,B,C,new,i,d,e1,c,I⟩:=p;rw[e1];simp only[A,jz,if_false];have o:=n.mono c.le;have q:=hcs.mono c.le;have x:∀O:Array bj,cE T.globals.size F (codeOk T F Z) ρ w w' b (w1.re i d) C (seen ⟨T,fA⟩ fr'.fn (#[]++new) ++ #[]):=λ_=>c.less λe J=>by
   grind[lr]
  cases I with
  |value hv=>exact⟨b,_,_,_,i,d,rfl,x #[],.alike (o.finish hv),⟨_,rfl,q,hb.top (bZ _ _),λ_=>o.finish hv⟩,rfl,rfl,rfl,rfl,rfl,rfl⟩
  |skip=>exact⟨b,_,_,_,i,d,rfl,x #[],.alike (o.finish .undef),⟨_,rfl,q,hb.top (bZ _ _),λ_=>o.finish .undef⟩,rfl,rfl,rfl,rfl,rfl,rfl⟩
  |@enter f hf a B y=>
   refine⟨b,_,_,_,i,d,rfl,x #[],?_,⟨fr::cs,rfl,.cons o q,hb.push _,(bs)⟩,rfl,rfl,rfl,rfl,rfl,rfl⟩;have top:∀k k':et,k=oj->k'=oj->Gm T fB fA F X Z b (k8 ⟨T,fB⟩ f a k) (k8 ⟨T,fA⟩ f B k'):=by
    rintro k k' rfl rfl
    cases D:X f with
    |true=>exact .enters f D hf y
    |false=>exact .alike (fe (fit.same f hf D) hf y)
   refine top _ _ ?_ ?_
   .have j:=n.todo;generalize fr.todo=l at j ⊢;generalize fr'.todo=K at j ⊢
    cases j with
    |nil=>rfl
    |cons h t=>cases h<;>rfl
   .have j:=n.todo;generalize fr.todo=l at j ⊢;generalize fr'.todo=K at j ⊢
    cases j with
    |nil=>rfl
    |cons h t=>cases h<;>rfl
  |round hl f hf y assign body L M=>
   refine⟨b,_,_,_,i,d,rfl,x #[],.alike ?_,⟨fr::cs,rfl,.cons o q,hb.push _,(bs)⟩,rfl,rfl,rfl,rfl,rfl,rfl⟩;exact⟨rfl,(bs),hf,y,.cons (.code _ L) (.cons .beginRound (.cons (.code _ M) .nil)),.nil,.run,rfl,rfl,.some hl,(bs)⟩
 |halt h w1=>
  cases h with
  |panic v=>
   obtain⟨b,v',C,new,i,d,e1,c,hv⟩:=p;rw[e1];simp only[A,jz,if_false];refine⟨b,_,_,_,i,d,rfl,c.less λe J=>?_,.alike ((n.mono c.le).raise (.cons hv .nil)),⟨_,rfl,hcs.mono c.le,hb.top (eC _ _),λ_=>(n.mono c.le).raise (.cons hv .nil)⟩,rfl,rfl,rfl,rfl,rfl,rfl⟩;grind[lr]
  |stuck m=>trivial
  |unsupported u=>
   cases u with
   |initOrder g=>exact absurd p (by simp[qp,dw])
   |_=>trivial
  |_=>exact p.elim
def Af(fit:Fits T fB fA F X Z)(a:Wd T F Z ρ w w'){fr fr':d9}{cs cs':List d9}(b:aQ T F Z fB fA ρ fr fr')(hcs:cj T F Z fB fA ρ cs cs')(hb:dn (fr::cs))
 {s s':Sem dO} (hs:av T fB fA F (codeOk T F Z) (gT F (codeOk T F Z)) ρ s s') :
 ef T fB fA F X Z bot ρ w w' (lj ⟨T,fB⟩ true fr (cs++[bot]) none s w) (lj ⟨T,fA⟩ true fr' cs' none s' w'):=
 Ae fit a b hcs hb (av.run #[] hs a.inj a.wr a.tape a.drawn).zu
def lg(a:ρ.bw T.globals.size){l l':Nat}(h:ρ l l'):av T fB fA F (codeOk T F Z) fF ρ (jl l) (jl l'):=by
 refine af a (jV a h) λσ b a r d c=>?_;refine af a (dV (b h) (.loop { c with state:=rfl })) λe b a _ _ _=>?_;rw[<-c.state]
 cases r.state with
 |ready=>exact ah rfl
 |done=>exact cX _
 |busy=>exact cX _
 |exhausted=>exact cX _
def oq(a:ρ.bw T.globals.size){l l':Nat}(h:ρ l l')(j:Option a8)(d:∀c,j=some c->codeOk T F Z c=true):av T fB fA F (codeOk T F Z) (RV F) ρ (jn l j) (jn l' j):=by
 refine af a (jV a h) λσ b a r f e=>?_;refine af a (dV (b h) (.loop { e with state:=rfl,pending:=rfl,FN:=d })) λg b a _ _ _=>?_;exact ah (.bool _)
def qW(a:ρ.bw T.globals.size){l l':Nat}(h:ρ l l'):av T fB fA F (codeOk T F Z) (λ_ j e=>j=e/\∀c,j=some c->codeOk T F Z c=true) ρ (jp l) (jp l'):=by
 refine af a (jV a h) λσ b a r f d=>?_;rw[<-d.state];refine aN (λ_=>?_) λ_=>?_
 .exact af (RA:=λ_ _ _=>False) a (cX _) λ_ _ _ _ _ h=>h.elim
 .refine af a (dV (b h) (.loop { d with state:=rfl })) λg b a _ _ _=>?_;exact ah ⟨d.pending,d.FN⟩
def mO(f:ρ.bw T.globals.size)(fn:ac)(hf:F fn=true){t k:Array ad}(n:VA F ρ t k)(ps:Array Tmp)(a b:a8)(o:codeOk T F Z a=true)(hb:codeOk T F Z b=true){r j:Option Nat}(g:om ρ r j) :
 av T fB fA F (codeOk T F Z) (λσ x i=>σ x.1 i.1/\fS σ x.2 i.2) ρ (jr fn t ps a b r) (jr fn k ps a b j):=by
 unfold jr;have fin:∀(σ:Ren),σ.bw T.globals.size->ρ.le σ->∀(d l:Nat)(m m':List eg),σ d l->fS σ m m'->
  av T fB fA F (codeOk T F Z) (λσ x i=>σ x.1 i.1/\fS σ x.2 i.2) σ (do pure (<-bv (m8 { state:=.ready,pending:=none,fn,tmps:=t,params:=ps,assign:=a,body:=b,defers:=d }),m):Sem (Nat×List eg))
   (do pure (<-bv (m8 { state:=.ready,pending:=none,fn,tmps:=k,params:=ps,assign:=a,body:=b,defers:=l }),m'):Sem (Nat×List eg)):=by
  intro σ f c d l m m' hd p;refine af f (jO (.loop ⟨rfl,rfl,(λ_ e=>by cases e),rfl,hf,VA.mono c n,rfl,rfl,o,rfl,hb,hd⟩)) λs c f x i q=>ah ⟨q,p.mono c⟩
 cases g with
 |some h=>
  refine af f (jV f h) λσ c f r j g=>?_;exact fin σ f c _ _ _ _ g.defers .nil
 |none=>
  refine af f (jO .deferred) λσ c f r j g=>?_;exact fin σ f c _ _ _ _ g (.cons g .nil)
def jj(a:ρ.bw T.globals.size){r c:Nat}(h:ρ r c):av T fB fA F (codeOk T F Z) (λ_ l l'=>l=[]/\l'=[]) ρ (js r) (js c):=by
 refine af a (dA h) λσ b a o e d=>?_
 cases d with
 |deferred=>exact af a (dV (b h) .nW) λ_ _ _ _ _ _=>ah ⟨rfl,rfl⟩
 |_=>exact ak
def Br{tmps d:Array ad}:∀(l:List ResultVar){ρ:Ren},ρ.bw T.globals.size->VA F ρ tmps d->av T fB fA F (codeOk T F Z) (λσ x e=>cU F σ x e) ρ
 (l.mapM fun | .tmp t=>pure (tmps.getD t undef) | .cell a t=>do cf t (<-cq (tmps.getD a undef)))
 (l.mapM fun | .tmp t=>pure (d.getD t undef) | .cell a t=>do cf t (<-cq (d.getD a undef))):=by
 intro l
 induction l with
 |nil=>intro ρ b h;exact ah .nil
 |cons x l f=>
  intro ρ b h;rw[eV,eV];refine af (RA:=RV F) b ?_ λσ c b v v' hv=>?_
  .cases x with
   |tmp t=>exact ah (VA.getD h t .undef)
   |cell a t=>exact af b (z7 (VA.getD h a .undef)) λσ c b a j g=>wN b t g
  .refine af b (f b (VA.mono c h)) λk c b vs m i=>ah (.cons (hv.mono c) i)
def mP(b:ρ.bw T.globals.size)(fn:bb){tmps g:Array ad}(h:VA F ρ tmps g):av T fB fA F (codeOk T F Z) (RV F) ρ (eu fn tmps) (eu fn g):=by
 unfold eu;rw[fp,fp];refine af (RA:=λσ(x i:Array ad)=>VA F σ x i) b (af b (Br fn.results.toList b h) λσ e b vs a c=>ah c) λσ e b vs a c=>?_;refine ah ?_;have hs:=VA.size c;by_cases d:vs.size=1
 .have f:a.size=1:=hs▸d;show VR F σ (if h:vs.size=1 then vs[0] else _) (if h:a.size=1 then a[0] else _);rw[dif_pos d,dif_pos f]
  rcases VA.get? c 0 with⟨j,_⟩|⟨v,v',j,k,hv⟩
  .grind
  grind
 .have f:a.size≠1:=hs▸d;show VR F σ (if h:vs.size=1 then vs[0] else _) (if h:a.size=1 then a[0] else _);rw[dif_neg d,dif_neg f];exact .tuple c
def mQ(b:Wd T F Z ρ w w'){fr fr':d9}{cs cs':List d9}(a:aQ T F Z fB fA ρ fr fr')(hcs:cj T F Z fB fA ρ cs cs')(hb:dn (fr::cs)) :
 ef T fB fA F X Z bot ρ w w' (lh { frame:=fr,callers:=cs++[bot],status:=ol,dying:=none } w) (lh { frame:=fr',callers:=cs',status:=ol,dying:=none } w'):=
 ⟨ρ,_,_,_,w.tape,w.drawn,rfl,b.refl,.alike a,⟨cs,rfl,hcs,hb,λ_=>a⟩,rfl,rfl,rfl,rfl,rfl,rfl⟩
def sj(b:Wd T F Z ρ w w'){fr fr':d9}{cs cs':List d9}(a:aQ T F Z fB fA ρ fr fr')(hcs:cj T F Z fB fA ρ cs cs')(hb:dn (fr::cs))(c:cs≠[]){v v':ad}(hv:VR F ρ v v') :
 ef T fB fA F X Z bot ρ w w' (eA (ho T fB) true fr (cs++[bot]) none v w) (eA (ho T fA) true fr' cs' none v' w'):=by
 cases hcs with
 |nil=>exact absurd rfl c
 |@cons f d l e h t=>
  show(ef T fB fA F X Z bot) ρ w w' (eA (ho T fB) true fr (f::(l++[bot])) none v w) _;simp only[eA,a.kind,a.bX];exact mQ b (h.finish hv) t (hb.pop.top (bZ _ _))
def sk{i j:Type}{RA:Ren->i->j->Prop}(k:Wd T F Z ρ w w'){s:Sem i}{s':Sem j}(hs:av T fB fA F (codeOk T F Z) RA ρ s s'){f:aL i->eq}{f':aL j->eq}(fn p:ac)
 (q:∀(b:Ren)(a:i)(a':j)(w1 c:ai)(new:Array bj),cE T.globals.size F (codeOk T F Z) ρ w w' b w1 c new->RA b a a'->ef T fB fA F X Z bot b w1 c (f (lM a w1)) (f' (lM a' c)))
 (t:∀(b:Ren)(v v':ad)(w1 c:ai)(new:Array bj),cE T.globals.size F (codeOk T F Z) ρ w w' b w1 c new->VR F b v v'->ef T fB fA F X Z bot b w1 c (f (lR (nd v) w1)) (f' (lR (nd v') c)))
 (d:∀m w1,∃o w2 es,f (lR (nf m) w1)=li o w2 es) (x:∀u w1,dw u=true->∃o w2 es,f (lR (nl u) w1)=li o w2 es) :
 ef T fB fA F X Z bot ρ w w' (lf (seen (ho T fB) fn (s.runT (ho T fB) w #[]).2) (f (s.runT (ho T fB) w #[]).1)) (lf (seen (ho T fA) p (s'.runT (ho T fA) w' #[]).2) (f' (s'.runT (ho T fA) w' #[]).1)):=by
 have g:=av.run #[] hs k.inj k.wr k.tape k.drawn;rw[g0];generalize s.run (ho T fB) w=r at g
 cases r with
 |ok a w1=>
  obtain⟨b,a',c,new,e1,d,l⟩:=g;rw[e1];exact ef.comp d (q b a a' w1 c new d l) λe n=>by simpa using lr n
 |halt h w1=>
  cases h with
  |panic v=>
   obtain⟨b,v',c,new,e1,d,l⟩:=g;rw[e1];exact ef.comp d (t b v v' w1 c new d l) λe n=>by simpa using lr n
  |stuck m=>
   obtain⟨o,w2,es,e⟩:=d m w1;rw[e];trivial
  |unsupported u=>
   obtain⟨o,w2,es,e⟩:=x u w1 g;rw[e];trivial
  |_=>exact g.elim
def mR(p:bm)(main:Bool)(fr:d9)(callers:List d9)(dying:Option Dying)(w:ai)(jump:Option a8):eq:=
 match fr.roundOf with
 |none=>if jump matches none|some .ret then lh { frame:={ fr with mode:=od },callers,status:=ol,dying } w else li (ov "exit, goto: no such block or label" (fr.pos p)) w
 |some l=>
  let(r,es):=(jn l jump).runT p w #[]
  lf (seen p fr.fn es) <| match r with
  |lM v w=>eA p main fr callers dying v w
  |lR _ w=>li (ov "range over a function: no such loop" (fr.pos p)) w
def sn:Option a8->Bool
 |none|some .ret=>true
 |_=>false
def iW{p:bm}{main:Bool}{fr:d9}{callers:List d9}{dying:Option Dying}{w:ai}{jump:Option a8}(h:fr.roundOf=none) :
 mR p main fr callers dying w jump=if sn jump then lh { frame:={ fr with mode:=od },callers,status:=ol,dying } w else li (ov "exit, goto: no such block or label" (fr.pos p)) w:=by
 unfold mR;have e:(jump matches none|some .ret)=sn jump:=by
  cases jump with
  |none=>rfl
  |some c=>cases c<;>rfl
 grind
def iX{p:bm}{main:Bool}{fr:d9}{callers:List d9}{dying:Option Dying}{w:ai}{jump:Option a8}{l:Nat}(h:fr.roundOf=some l) :
 mR p main fr callers dying w jump=lf (seen p fr.fn ((jn l jump).runT p w #[]).2) (match((jn l jump).runT p w #[]).1 with
 |lM v w=>eA p main fr callers dying v w
 |lR _ w=>li (ov "range over a function: no such loop" (fr.pos p)) w):=by
 unfold mR;grind
def jP{r a:Option Nat}(h:om ρ r a):(r=none/\a=none)\/∃l l',r=some l/\a=some l'/\ρ l l':=by
 cases h with
 |none=>exact lT ⟨rfl,rfl⟩
 |some h=>grind
def aQ.returning{fr fr':d9}(x:aQ T F Z fB fA ρ fr fr')(h:fr.roundOf=none):aQ T F Z fB fA ρ { fr with mode:=od } { fr' with mode:=od }:=
 ⟨x.fn,x.same,x.mI,x.tmps,x.todo,x.defers,.returning,x.kind,x.bX,x.roundOf,λ_=>h⟩
def LI(b:Wd T F Z ρ w w'){fr fr':d9}{cs cs':List d9}(d:aQ T F Z fB fA ρ fr fr')(hcs:cj T F Z fB fA ρ cs cs')(hb:dn (fr::cs))(j:Option a8)(h:∀c,j=some c->codeOk T F Z c=true) :
 ef T fB fA F X Z bot ρ w w' (mR (ho T fB) true fr (cs++[bot]) none w j) (mR (ho T fA) true fr' cs' none w' j):=by
 rcases jP d.roundOf with⟨e1,e⟩|⟨l,k,e1,e,hl⟩
 .rw[iW e1,iW e]
  cases sn j with
  |false=>trivial
  |true=>exact mQ b (d.returning e1) hcs (hb.top rfl)
 .rw[iX e1,iX e];have i:cs≠[]:=by
   rintro rfl;have:=hb fr rfl;rw[e1]at this;cases this
  exact sk b (oq b.inj hl j h) (f:=λr=>match r with | lM v w=>eA (ho T fB) true fr (cs++[bot]) none v w | lR _ w=>li (ov "range over a function: no such loop" (fr.pos (ho T fB))) w)
   (f':=λr=>match r with | lM v w=>eA (ho T fA) true fr' cs' none v w | lR _ w=>li (ov "range over a function: no such loop" (fr'.pos (ho T fA))) w) fr.fn fr'.fn
   (λm a n w1 o new g hv=>sj g.wd (d.mono g.le) (hcs.mono g.le) hb i hv) (λ_ _ _ _ _ _ _ _=>trivial) (λ_ _=>⟨_,_,_,rfl⟩) (λ_ _ _=>⟨_,_,_,rfl⟩)
def Ox(fit:Fits T fB fA F X Z)(a:Wd T F Z ρ w w'){fr fr':d9}{cs cs':List d9}(b:aQ T F Z fB fA ρ fr fr')(hcs:cj T F Z fB fA ρ cs cs')(hb:dn (fr::cs)){ops:Array eb}{i:Nat}{rest:List Nat}{k:List ed}
 (f:fr.todo=lx ops (i::rest)::k) (g:(ops.toList.all λo=>jh T F Z o.op)=true) :
 ef T fB fA F X Z bot ρ w w' (lm (ho T fB) true fr (cs++[bot]) none w) (lm (ho T fA) true fr' cs' none w'):=by
 unfold lm;rw[b.oper?];have e:fr.oper? = ops[i]?:=by unfold k7;rw[f]
 rw[e]
 cases h:ops[i]? with
 |none=>trivial
 |some o=>
  have ok:=Bo g h;simp only;have main:ef T fB fA F X Z bot ρ w w' (lj (ho T fB) true fr (cs++[bot]) none (ec fr.eval o) w) (lj (ho T fA) true fr' cs' none (ec fr'.eval o) w'):=
   Ae fit a b hcs hb (De fit.zero fit.fns a.inj a.wr a.tape a.drawn (dD b.tmps) o ok #[])
  have d:=b.roundOf;generalize e1:fr.roundOf=r at d;generalize l:fr'.roundOf=m at d
  cases d with
  |none=>exact main
  |some hl=>
   cases j:o.op with
   |defer c=>rw[j]at ok;cases ok
   |_=>exact main
def iR{a b:List ed}(h:cN T F Z ρ a b)(P:bm)(fn:ac)(t:Array ad)(d:List eg)(m:ei)(k:et)(r:Option Nat):la P { fn:=fn,tmps:=t,todo:=a,defers:=d,mode:=m,kind:=k,roundOf:=r }=false:=by
 unfold la
 cases h with
 |nil=>cases P.funcs[fn]?<;>rfl
 |cons h t=>cases h<;>cases P.funcs[fn]?<;>rfl
def ot{b a:List ed}(h:cN T F Z ρ b a)(P:bm)(fn:ac)(t:Array ad)(d:List eg)(m:ei)(k:et)(r:Option Nat):la P { fn:=fn,tmps:=t,todo:=a,defers:=d,mode:=m,kind:=k,roundOf:=r }=false:=by
 unfold la
 cases h with
 |nil=>cases P.funcs[fn]?<;>rfl
 |cons h t=>cases h<;>cases P.funcs[fn]?<;>rfl
def Gq(e:Wd T F Z ρ w w'){fr fr':d9}{cs cs':List d9}(o:aQ T F Z fB fA ρ fr fr')(hcs:cj T F Z fB fA ρ cs cs')(hb:dn (fr::cs))(B:fr.mode≠ob)(g:fr.defers=[]->cs≠[]) :
 ef T fB fA F X Z bot ρ w w' (eD (ho T fB) true fr (cs++[bot]) none w) (eD (ho T fA) true fr' cs' none w'):=by
 have hd:=o.defers;obtain⟨fn,tmps,todo,defers,mode,kind,i⟩:=fr;obtain⟨b,j,p,Y,L,k,m⟩:=fr';have M:=o;obtain⟨C,q,D,u,n,N,x,E,H,I,y⟩:=o;simp only at C q D u n N x E H I y B g hd;subst C
 cases hd with
 |@cons r r' ds z O t=>
  unfold eD;simp only;exact sk e (jj e.inj O)
   (f:=λr=>match r with
     |lM calls w=>lh { frame:={ fn:=b,tmps,todo,defers:=calls++ds,mode,kind,roundOf:=i },callers:=cs++[bot],status:=ol,dying:=none } w
     |lR _ w=>li (ov "the deferred calls of a range-over-func loop have been taken" _) w)
   (f':=λr=>match r with
     |lM calls w=>lh { frame:={ fn:=b,tmps:=j,todo:=p,defers:=calls++z,mode:=L,kind:=k,roundOf:=m },callers:=cs',status:=ol,dying:=none } w
     |lR _ w=>li (ov "the deferred calls of a range-over-func loop have been taken" _) w) b b
   (λP a Q w1 R new d S=>by
     obtain⟨rfl,rfl⟩:=S
     exact mQ d.wd ⟨rfl,q,D,cU.mono d.le u,n.mono d.le,t.mono d.le,x.mono d.le,E,H,I.mono d.le,y⟩ (hcs.mono d.le) (hb.top rfl))
   (λ_ _ _ _ _ _ _ _=>trivial) (λ_ _=>⟨_,_,_,rfl⟩) (λ_ _ _=>⟨_,_,_,rfl⟩)
 |nil=>
  have g:=g rfl
  cases x with
  |run=>exact absurd rfl B
  |@panicking c A hc=>
   cases hcs with
   |nil=>exact absurd rfl g
   |@cons f J l K h t=>
    show(ef T fB fA F X Z bot) ρ w w' (eD (ho T fB) true _ (f::(l++[bot])) none w) _;have e1:eD (ho T fB) true { fn:=b,tmps:=tmps,todo:=todo,defers:=[],mode:=oh c,kind:=kind,roundOf:=i } (f::(l++[bot])) none w=lh { frame:=f.raise c,callers:=l++[bot],status:=ol,dying:=none } w:=by
     unfold eD;simp only[iR n (ho T fB) b tmps [] (oh c) kind i,jz,if_false]
    have U:eD (ho T fA) true { fn:=b,tmps:=j,todo:=p,defers:=[],mode:=oh A,kind:=k,roundOf:=m } (J::K) none w'=lh { frame:=J.raise A,callers:=K,status:=ol,dying:=none } w':=by
     unfold eD;simp only[ot n (ho T fA) b j [] (oh A) k m,jz,if_false]
    rw[e1,U];exact mQ e (h.raise hc) t (hb.pop.top (eC _ _))
  |returning=>
   obtain⟨fx,c,V,W,g3,g4⟩:=(q (y rfl)).ex;unfold eD;simp only[V,W]
   exact sk e (mP e.inj fx u) (f:=λr=>match r with
    |lM v w=>eA (ho T fB) true { fn:=b,tmps,todo,defers:=[],mode:=od,kind,roundOf:=i } (cs++[bot]) none v w
    |lR (nf s) w=>li (ov s _) w
    |lR _ w=>li (ov "return: the result variables cannot be read" _) w)
    (f':=λr=>match r with
     |lM v w=>eA (ho T fA) true { fn:=b,tmps:=j,todo:=p,defers:=[],mode:=od,kind:=k,roundOf:=m } cs' none v w
     |lR (nf s) w=>li (ov s _) w
     |lR _ w=>li (ov "return: the result variables cannot be read" _) w) b b
    (λP a Q w1 R new d hv=>sj d.wd (M.mono d.le) (hcs.mono d.le) hb g hv) (λ_ _ _ _ _ _ _ _=>trivial) (λ_ _=>⟨_,_,_,rfl⟩) (λ_ _ _=>⟨_,_,_,rfl⟩)
def ou(c:Wd T F Z ρ w w')(q:aH):∃n f w1 d,(bM q).run (ho T fB) w=lM n w1/\(bM q).run (ho T fA) w'=lM n d/\cE T.globals.size F (codeOk T F Z) ρ w w' f w1 d #[]:=by
 have e:∀(P:bm)(w:ai),(bM q).run P w=if q.forced then lM 0 w else lM (q.cut (w.tape w.drawn q)) { w with drawn:=w.drawn+1 }:=λP w=>rfl
 rw[e,e,c.tape,c.drawn]
 cases q.forced with
 |true=>exact⟨0,ρ,w,w',rfl,rfl,c.refl⟩
 |false=>
  have hb:=c.refl;refine⟨_,ρ,_,_,rfl,rfl,?_⟩;exact⟨hb.le,hb.inj,⟨c.wr.pK,c.wr.gN,c.wr.obj⟩,rfl,rfl,rfl,rfl,rfl,eM _,eM _,λ_ _ _=>rfl,λ_ a b=>absurd b (Nat.not_lt.2 a),λ_ _ h=>lT h,ar,λ_ _ _ _ h=>⟨h,rfl⟩⟩
def ef.Oy{a:Ren}{w1 b:ai}{s s':eq}(c:cE T.globals.size F (codeOk T F Z) ρ w w' a w1 b #[])(h:ef T fB fA F X Z bot a w1 b s s'):ef T fB fA F X Z bot ρ w w' s s':=by
 cases s with
 |go n w2 o=>
  obtain⟨f,g,i,j,l,d,e,k,m⟩:=h;exact⟨f,g,i,j,l,d,e,by simpa using c.trans k,m⟩
 |ended _ _ _=>trivial
 |_=>exact h.elim
def Oz(fit:Fits T fB fA F X Z)(p:Wd T F Z ρ w w'){fr fr':d9}{cs cs':List d9}(o:aQ T F Z fB fA ρ fr fr')(hcs:cj T F Z fB fA ρ cs cs')(hb:dn (fr::cs)) :
 ef T fB fA F X Z bot ρ w w' (lp (ho T fB) true true fr (cs++[bot]) none w) (lp (ho T fA) true true fr' cs' none w'):=by
 obtain⟨fn,tmps,todo,defers,mode,kind,x⟩:=fr;obtain⟨q,u,S,y,z,A,B⟩:=fr';have U:cN T F Z ρ todo S:=o.todo;have to:∀{N O:List ed},cN T F Z ρ N O->ef T fB fA F X Z bot ρ w w' (lh { frame:=⟨fn,tmps,N,defers,mode,kind,x⟩,callers:=cs++[bot],status:=ol,dying:=none } w) (lh { frame:=⟨q,u,O,y,z,A,B⟩,callers:=cs',status:=ol,dying:=none } w'):=
  λh=>mQ p (o.lO h) hcs (hb.top rfl)
 have lv:=λj V=>LI (bot:=bot) (X:=X) p o hcs hb j V;unfold lp
 cases U with
 |nil=>exact lv none (λc e=>by cases e)
 |@cons i i' k k' h t=>
  cases h with
  |inBlock id=>exact to t
  |inLoop c hc=>exact to (.cons (.code c hc) (.cons (.inLoop c hc) t))
  |inScope c hc=>exact to t
  |inRangeFunc hl=>trivial
  |beginRound=>
   refine Af fit p o hcs hb (vX p.inj ?_)
   rcases jP o.roundOf with⟨C,D⟩|⟨l,E,C,D,hl⟩
   .simp only at C D;subst C D;exact ak
   .simp only at C D;subst C D;exact lg p.inj hl
  |@endRangeFunc l E hl=>
   exact sk p (qW p.inj hl)
    (f:=λr=>match r with
      |lM jump w=>lh { frame:=⟨fn,tmps,(jump.map lu).toList++k,defers,mode,kind,x⟩,callers:=cs++[bot],status:=ol,dying:=none } w
      |lR (nd v) w=>lh { frame:=k9 ⟨fn,tmps,lA l::k,defers,mode,kind,x⟩ [{ v,recovered:=false }],callers:=cs++[bot],status:=ol,dying:=none } w
      |lR _ w=>li (ov "range over a function: no such loop" _) w)
    (f':=λr=>match r with
      |lM jump w=>lh { frame:=⟨q,u,(jump.map lu).toList++k',y,z,A,B⟩,callers:=cs',status:=ol,dying:=none } w
      |lR (nd v) w=>lh { frame:=k9 ⟨q,u,lA E::k',y,z,A,B⟩ [{ v,recovered:=false }],callers:=cs',status:=ol,dying:=none } w
      |lR _ w=>li (ov "range over a function: no such loop" _) w) fn q
    (λH a P w1 J new g K=>by
      obtain⟨rfl,W⟩:=K;refine mQ g.wd ((o.mono g.le).lO (cN.append ?_ (t.mono g.le))) (hcs.mono g.le) (hb.top rfl)
      cases a with
      |none=>exact .nil
      |some c=>exact .cons (.code c (W c rfl)) .nil)
    (λH v v' w1 J new g hv=>mQ g.wd ((o.mono g.le).raise (.cons hv .nil)) (hcs.mono g.le) (hb.top (eC _ _)))
    (λ_ _=>⟨_,_,_,rfl⟩) (λ_ _ _=>⟨_,_,_,rfl⟩)
  |inRegion ops todo Y=>
   cases todo with
   |nil=>exact to t
   |cons i Q=>
    simp only;rw[show em ops u=em ops tmps from funext λj=>(oo ops o.tmps j).symm]
    cases((ops[i]?).map (Region.wanted · (em ops tmps))).getD false with
    |true=>exact Ox fit p o hcs hb rfl Y
    |false=>exact mQ p (o.finish .undef) hcs (hb.top (bZ _ _))
  |code c hc=>
   cases c with
   |ret=>exact lv (some .ret) (λc e=>by cases e;rfl)
   |skip=>exact to t
   |label _=>exact to t
   |seq a b=>
    simp only[codeOk,jw]at hc;exact to (.cons (.code a hc.1) (.cons (.code b hc.2) t))
   |cond c a b=>
    simp only[codeOk,jw]at hc;have hv:=dD o.tmps c hc.1.1;simp only;generalize ld _ c=v at hv ⊢;generalize ld _ c=v' at hv ⊢
    cases hv with
    |bool b'=>
     cases b' with
     |true=>exact to (.cons (.code a hc.1.2) t)
     |false=>exact to (.cons (.code b hc.2) t)
    |_=>trivial
   |block id b=>exact to (.cons (.code b hc) (.cons (.inBlock id) t))
   |loop b=>exact to (.cons (.code b hc) (.cons (.inLoop b hc) t))
   |scope b=>exact to (.cons (.code b hc) (.cons (.inScope b hc) t))
   |exit id=>
    simp only
    rcases xo id t with⟨x1,x2⟩|⟨m,m',x1,x2,L⟩
    .rw[x1,x2];exact lv (some (.exit id)) (λc e=>by cases e;rfl)
    .rw[x1,x2];exact to L
   |goto id=>
    simp only
    rcases xq id t with⟨x1,x2⟩|⟨m,m',x1,x2,L⟩
    .rw[x1,x2];exact lv (some (.goto id)) (λc e=>by cases e;rfl)
    .rw[x1,x2];exact to L
   |refuse why=>cases hc
   |rangeFunc f params assign body=>
    simp only[codeOk,jw]at hc;simp only;have I:=o.fn;simp only at I;subst I;have hs:=mO (T:=T) (fB:=fB) (fA:=fA) (Z:=Z) p.inj q o.mI o.tmps params assign body hc.1.2 hc.2 o.roundOf;exact sk p hs
     (f:=λr=>match r with
       |lM (l,mark) w=>
        let fr:d9:=⟨q,tmps,ly l::k,mark++defers,mode,kind,x⟩
        let call:Call:={ callee:=.value f,args:=#[.const (mj (l2 l) #[] #[])],argTypes:=#[] }
        lj (ho T fB) true fr (cs++[bot]) none (do let d<-ea fr.eval call 0;d8 d.target d.args) w
       |lR _ w=>li (ov "range over a function: no such loop" _) w)
     (f':=λr=>match r with
       |lM (l,mark) w=>
        let fr:d9:=⟨q,u,ly l::k',mark++y,z,A,B⟩
        let call:Call:={ callee:=.value f,args:=#[.const (mj (l2 l) #[] #[])],argTypes:=#[] }
        lj (ho T fA) true fr cs' none (do let d<-ea fr.eval call 0;d8 d.target d.args) w
       |lR _ w=>li (ov "range over a function: no such loop" _) w) q q
     (λH a P w1 J new g K=>by
       obtain⟨l,mark⟩:=a;obtain⟨E,OA⟩:=P;obtain⟨hl,M⟩:=K;have s:=o.mono g.le;have R:aQ T F Z fB fA H ⟨q,tmps,ly l::k,mark++defers,mode,kind,x⟩ ⟨q,u,ly E::k',OA++y,z,A,B⟩:=
        ⟨s.fn,s.same,s.mI,s.tmps,.cons (.inRangeFunc hl) (t.mono g.le),fS.append M s.defers,s.mode,s.kind,s.bX,s.roundOf,s.ret⟩
       exact Af fit g.wd R (hcs.mono g.le) (hb.top rfl) (jE fit.zero fit.fns g.inj (dD R.tmps f hc.1.1) (by
        have hv:cU F H [mj (l2 l) #[] #[]] [mj (l2 E) #[] #[]]:=.cons (.func (.yield hl) .nil .nil) .nil
        simpa[ld]using hv)))
     (λ_ _ _ _ _ _ _ _=>trivial) (λ_ _=>⟨_,_,_,rfl⟩) (λ_ _ _=>⟨_,_,_,rfl⟩)
   |region id ops draw=>
    simp only
    cases draw with
    |false=>exact to (.cons (.inRegion ops _ hc) t)
    |true=>
     simp only[jD,jz,if_false];obtain⟨n,H,w1,J,c1,c2,g⟩:=ou (fB:=fB) (fA:=fA) p (.order fn id);have I:=o.fn;simp only at I;subst I;rw[c1,c2];exact ef.Oy g (mQ g.wd ((o.mono g.le).lO (.cons (.inRegion ops _ hc) (t.mono g.le))) (hcs.mono g.le) (hb.top rfl))
def sr(fit:Fits T fB fA F X Z)(f:Wd T F Z ρ w w'){g g':ep}(hg:GR T fB fA F X Z bot ρ g g')(b:aQ T F Z fB fA ρ g.frame g'.frame)
 (i:g.frame.mode≠ob->g.frame.defers=[]->g.callers≠[bot]):ef T fB fA F X Z bot ρ w w' (stepG (ho T fB) true g w) (stepG (ho T fA) true g' w'):=by
 obtain⟨_,⟨l,hl,hcs,hb,_⟩,st,a,j,k,of,m⟩:=hg;obtain⟨fr,cs,status,dying,offers⟩:=g;obtain⟨c,cs',q,r,s⟩:=g';simp only at st a j k of m hl hcs b hb i;subst st a j k of m hl;have d:=Oz (bot:=bot) fit f b hcs hb;have n:=λh=>Gq (bot:=bot) (X:=X) f b hcs hb h (λhd e=>by subst e;exact i h hd rfl);obtain⟨fn,tmps,todo,defers,mode,kind,t⟩:=fr;obtain⟨u,v,x,y,o,z,A⟩:=c;have p:qE F ρ mode o:=b.mode;unfold stepG
 cases p with
 |run=>exact d
 |returning=>exact n ar
 |panicking _=>exact n ar
end
def dN{b:Type}(f:ai->aL b)(w:ai):Prop:=
 w.drawn<=(f w).world.drawn/\(f w).world.tape=w.tape/\
  ∀(a:eE)(d:Nat),(∀i,i<(f w).world.drawn-w.drawn->a (d+i)=w.tape (w.drawn+i))->f (w.re a d)=(f w).re a (d+((f w).world.drawn-w.drawn))
def dN.pass{j:Type}{f g:ai->aL j}{w w1:ai}(i:f w=g w1)(hd:w1.drawn=w.drawn)(k:w1.tape=w.tape)(l:∀e d,f (w.re e d)=g (w1.re e d))(h:dN g w1):dN f w:=by
 obtain⟨a,b,c⟩:=h;refine⟨by rw[i,<-hd];exact a,by rw[i,<-k];exact b,λe d m=>?_⟩;grind
def dN.stop{e:Type}{f:ai->aL e}{w:ai}{h:Halt}(c:∀a d,f (w.re a d)=lR h (w.re a d)):dN f w:=by
 have b:f w=lR h w:=c w.tape w.drawn;refine⟨by rw[b];exact eM _,by rw[b];rfl,λa d _=>?_⟩;rw[b,c];show Result.halt h (w.re a d)=lR h (w.re a (d+(w.drawn-w.drawn)));rw[eS];rfl
section
variable {T:a9}{fB fA:Array bb}{G:Nat}{F:ac->Bool}{K:a8->Bool}
def bW.TF{a:Type}{s:Sem a}(h:bW T fB s){w:ai}:dN (s.run ⟨T,fB⟩) w:=by
 obtain⟨x,_,e⟩:=h.run w;exact dN.stop e
def av.loc{W X:Type}{RA:Ren->W->X->Prop}{s:Sem W}:∀{ρ:Ren}{s':Sem X}{w w':ai},av T fB fA F K RA ρ s s'->ρ.bw T.globals.size->WR T.globals.size F K ρ w w'->w.tape=w'.tape->w.drawn=w'.drawn->
 dN (s.run ⟨T,fB⟩) w:=by
 induction s with
 |pure a=>
  rintro ρ s' w w' _ l f j hd;refine⟨eM _,rfl,λe d _=>?_⟩;show lM a (w.re e d)=lM a (w.re e (d+(w.drawn-w.drawn)));rw[eS];rfl
 |halt h=>intro ρ s' w w' hs l f j hd;exact dN.stop λ_ _=>rfl
 |load m a k x=>
  rintro ρ s' w w'⟨m',J,k',rfl,rfl,rfl,C,y⟩l f j hd
  rcases lF (T:=T) (fB:=fB) f C with⟨D,s,S⟩|⟨v,v',c,Y,t,z,D,S,hv,_⟩
  .refine dN.stop (h:=nf s) λe d=>?_;have e1:(w.re e d).cell? a=none:=D;have I:∀m,(w.re e d).farLoad ⟨T,fB⟩ a m=.error (nf s):=S;simp only[gr,e1,I]
  .exact dN.pass (g:=(k v).run ⟨T,fB⟩) (w1:=w) (by simp only[gr,D]) rfl rfl (λe d=>by have e1:(w.re e d).cell? a=some v:=D;simp only[gr,e1]) (x v (y v v' hv) l f j hd)
 |store m a v k x=>
  rintro ρ s' w w'⟨m',J,v',k',rfl,rfl,rfl,C,hv,y⟩l f j hd;have key:(∀c,v≠ma c)->(∀c,v≠my c)->dN ((gg n1 a v k).run ⟨T,fB⟩) w:=by
   intro H L
   rcases lF (T:=T) (fB:=fB) f C with⟨D,_⟩|⟨u,u',c,Y,t,z,D,S,hu,hs,Z,h4,hc⟩
   .obtain⟨o,M,A,P,B⟩:=f.obj C.1;refine dN.stop (h:=nf "store: no such cell") λe d=>?_;rw[run_store _ _ _ _ H L];have e1:(w.re e d).cell? a=none:=D;have E:(w.re e d).heap[a.block]?=some o:=A;have hf:(w.re e d).farStore ⟨T,fB⟩ a v false=.error ((w.re e d).noCell a "store: no such cell"):=by
     cases B<;>simp[gf,E]
    rw[e1];simp only[hf,mM E B]
   .cases hz:w.frozen? a with
    |true=>
     refine dN.stop (h:=nl (ky "a write to bytes that a string shares")) λe d=>?_;rw[run_store _ _ _ _ H L];have e1:(w.re e d).cell? a=some u:=D;have I:(w.re e d).frozen? a=true:=hz;grind
    |false=>
     have fR:J.spot=none:=by rw[<-C.2.2];exact hs
     have aF:=lG l f j hd C.1 (.cells t z (VA.set hc a.off hv)) (new:=#[]) ar (CR Z h4 v v' H L);refine dN.pass (g:=k.run ⟨T,fB⟩) (w1:=w.setCell a v) ?_ rfl rfl (λe d=>?_) ?_
     .rw[run_store _ _ _ _ H L,D];grind
     .have e1:(w.re e d).cell? a=some u:=D;have I:(w.re e d).frozen? a=false:=hz;rw[run_store _ _ _ _ H L,e1];simp only[I,jz,if_false];rfl
     .rw[setCell_eq w a _ Z hs];exact x y l aF.wr j hd
  cases hv with
  |agg _=>exact dN.stop λ_ _=>rfl
  |tuple _=>exact dN.stop λ_ _=>rfl
  |hole _ _=>exact dN.stop λ_ _=>rfl
  |_=>exact key ar ar
 |new o k x=>
  rintro ρ s' w w'⟨M,k',rfl,B,y⟩l f j hd;have hs:=CQ l f j hd B;exact dN.pass (g:=(k w.heap.size).run ⟨T,fB⟩) (w1:={ w with heap:=w.heap.push o }) rfl rfl rfl (λe d=>rfl) (x w.heap.size (y _ _ f.fresh.1 f.fresh.2 f.pK f.gN) hs.inj hs.wr j hd)
 |shape r k x=>
  rintro ρ s' w w'(⟨r',k',rfl,N,y⟩|h)l f j hd;rotate_left
  .exact bW.TF (s:=g8 r k) h
  exact dN.pass (g:=(k (w.shape? r)).run ⟨T,fB⟩) (w1:=w) rfl rfl rfl (λe d=>rfl) (x _ (y _) l f j hd)
 |freeze a n k x=>
  rintro ρ s' w w'⟨J,k',rfl,C,y⟩l f j hd;have fr:∀e d,(w.re e d).freeze a n=(w.freeze a n).re e d:=λe d=>by unfold f6;split<;>rfl
  have fd:(w.freeze a n).drawn=w.drawn/\(w.freeze a n).tape=w.tape:=by unfold f6;grind
  refine dN.pass (g:=k.run ⟨T,fB⟩) (w1:=w.freeze a n) rfl fd.1 fd.2 (λe d=>by simp only[gr,fr]) ?_;by_cases U:n=0
  .subst U;have e1:w.freeze a 0=w:=by simp[f6]
   grind
  obtain⟨o,M,A,P,B⟩:=f.obj C.1;have idle:(∀c t z,o≠mF c t z)->w.freeze a n=w:=by
   intro bu;unfold f6;rw[if_neg U];obtain⟨heap,_,_,_,_⟩:=w;congr 1;grind
  cases B with
  |@cells c Y t z hc=>
   obtain⟨lo,hi⟩:=z;rw[iz w a n U A];have hs:=lG l f j hd C.1 (.cells t (if lo==hi then(a.off,a.off+n) else(min lo a.off,max hi (a.off+n))) hc) (new:=#[]) ar (IY A P _ _);exact x y l hs.wr j hd
  |_=>
   rw[idle ar];exact x y l f j hd
 |frozen a k x=>
  rintro ρ s' w w'(⟨J,k',rfl,C,y⟩|h)l f j hd;rotate_left
  .exact bW.TF (s:=g9 a k) h
  exact dN.pass (g:=(k (w.frozen? a)).run ⟨T,fB⟩) (w1:=w) rfl rfl rfl (λe d=>rfl) (x _ (y _) l f j hd)
 |getObj r k x=>
  rintro ρ s' w w'⟨r',k',rfl,N,y⟩l f j hd;obtain⟨o,M,A,P,B⟩:=f.obj N;have key:(∀c t z,o≠mF c t z)->dN ((gt r k).run ⟨T,fB⟩) w:=by
   intro H;refine dN.pass (g:=(k o).run ⟨T,fB⟩) (w1:=w) ?_ rfl rfl (λe d=>?_) (x o (y o M B) l f j hd)
   .simp only[gr,A]
   .have E:(w.re e d).heap[r]?=some o:=A;simp only[gr,E]
  cases B with
  |cells t z hc=>
   refine dN.stop (h:=nf "getObj: a row of cells") λe d=>?_
   .have E:(w.re e d).heap[r]?=_:=A;simp only[gr,E]
  |_=>exact key ar
 |setObj r o k x=>
  rintro ρ s' w w'⟨r',M,k',rfl,N,⟨B,N8⟩,y⟩l f j hd;obtain⟨p,p',A,P,hp⟩:=f.obj N;have hs:=lG l f j hd N B (new:=#[]) ar N8.hol;have key:(∀c t z,p≠mF c t z)->dN ((gw r o k).run ⟨T,fB⟩) w:=by
   intro H;refine dN.pass (g:=k.run ⟨T,fB⟩) (w1:={ w with heap:=w.heap.setIfInBounds r o }) ?_ rfl rfl (λe d=>?_) (x y l hs.wr j hd)
   .simp only[gr,A]
   .have E:(w.re e d).heap[r]?=some p:=A;simp only[gr,E];rfl
  cases hp with
  |cells t z hc=>
   refine dN.stop (h:=nf "setObj: a row of cells") λe d=>?_
   .have E:(w.re e d).heap[r]?=_:=A;simp only[gr,E]
  |_=>exact key ar
 |choose q k x=>
  rintro ρ s' w w'⟨k',rfl,y⟩l f j hd
  cases hf:q.forced with
  |true=>exact dN.pass (g:=(k 0).run ⟨T,fB⟩) (w1:=w) (by simp only[gr,hf,if_true]) rfl rfl (λe d=>by simp only[gr,hf,if_true]) (x _ (y _) l f j hd)
  |false=>
   have wK:WR T.globals.size F K ρ { w with drawn:=w.drawn+1 } { w' with drawn:=w'.drawn+1 }:=⟨f.pK,f.gN,f.obj⟩
   obtain⟨a,b,c⟩:=x (q.cut (w.tape w.drawn q)) (y _) l wK j (by simp only[hd]);have Q:(g6 q k).run ⟨T,fB⟩ w=(k (q.cut (w.tape w.drawn q))).run ⟨T,fB⟩ { w with drawn:=w.drawn+1 }:=by simp only[gr,hf,jz,if_false]
   generalize hR:(k (q.cut (w.tape w.drawn q))).run ⟨T,fB⟩ { w with drawn:=w.drawn+1 }=R at a b c Q;have J:w.drawn+1<=R.world.drawn:=a;refine⟨by rw[Q];omega,by rw[Q];exact b,λe d V=>?_⟩;rw[Q]at V ⊢;have O:=V 0 ab;simp only[Nat.add_zero]at O;have e1:(g6 q k).run ⟨T,fB⟩ (w.re e d)=(k (q.cut (e d q))).run ⟨T,fB⟩ (w.re e (d+1)):=by
    simp only[gr,hf,jz,if_false];rfl
   rw[e1,O]
   have:=c e (d+1) (λi hi=>by
    have mS:i<R.world.drawn-(w.drawn+1):=hi;show e (d+1+i)=w.tape (w.drawn+1+i);have:=V (1+i) ab
    grind)
   have I:d+1+(R.world.drawn-(w.drawn+1))=d+(R.world.drawn-w.drawn):=ab;rw[<-I];exact this
 |sys c k x=>intro ρ s' w w' h;exact h.elim
 |program k x=>
  rintro ρ s' w w'(⟨k',rfl,y⟩|CS)l f j hd
  .exact dN.pass (g:=(k ⟨T,fB⟩).run ⟨T,fB⟩) (w1:=w) rfl rfl rfl (λe d=>rfl) (x _ y l f j hd)
  .exact bW.TF (s:=gB k) CS
 |mark m k x=>
  rintro ρ s' w w'(⟨k',rfl,hm,y⟩|h)l f j hd
  .exact dN.pass (g:=k.run ⟨T,fB⟩) (w1:=w) rfl rfl rfl (λe d=>rfl) (x y l f j hd)
  .exact bW.TF (s:=hh m k) h
def dN.bind{l m:Type}{P:bm}{s:Sem l}{f:l->Sem m}{w:ai}(hs:dN (s.run P) w)(hf:∀a w1,s.run P w=lM a w1->dN ((f a).run P) w1):dN ((s.bind f).run P) w:=by
 obtain⟨a,b,c⟩:=hs
 cases j:s.run P w with
 |halt h w1=>
  rw[j]at a b c;have e:(s.bind f).run P w=lR h w1:=by rw[gG,j];rfl
  refine⟨by rw[e];exact a,by rw[e];exact b,λk d g=>?_⟩;rw[e]at g ⊢;rw[gG,c k d g];rfl
 |ok x w1=>
  rw[j]at a b c;obtain⟨a2,n,o⟩:=hf x w1 j;have e:(s.bind f).run P w=(f x).run P w1:=by rw[gG,j];rfl
  have r:w.drawn<=w1.drawn:=a;have b':w1.tape=w.tape:=b;refine⟨aS,by rw[e];exact n.trans b',λk d g=>?_⟩;rw[e]at g ⊢;have p:=c k d (λi hi=>g i (by have:i<w1.drawn-w.drawn:=hi;omega))
  have q:=o k (d+(w1.drawn-w.drawn)) (λi hi=>by
   have:=g ((w1.drawn-w.drawn)+i) ab
   grind)
  rw[gG,p];show(f x).run P (w1.re k (d+(w1.drawn-w.drawn)))=_;rw[q];congr 1;omega
def TG{ρ:Ren}(o:ρ.bw T.globals.size){w w':ai}(y:WR T.globals.size F K ρ w w')(z:w.tape=w'.tape)(hd:w.drawn=w'.drawn)(t:ag){m:Nat}(C:∀k e,tY T t=some (.map k e)->og T m k=true){x D i f v v':ad}(E:VR F ρ x D)(hi:VR F ρ i f)(hv:VR F ρ v v') :
 dN ((i3 t x i v).run ⟨T,fB⟩) w:=by
 rw[jg];have A:=uX (fB:=fB) (fA:=fB) (F:=F) (K:=K) o t C E hi;refine dN.bind (av.loc A o y z hd) λa w1 e=>?_;have h:=av.run #[] A o y z hd;rw[e]at h;obtain⟨H,I,O,new,_,k,J⟩:=h;obtain⟨r,es,clock,P⟩:=a;obtain⟨p,g,Q,L⟩:=I;obtain⟨q,l,hc,d⟩:=J;simp only at q l hc d;subst hc;have hi:=hi.mono k.le;have hv:=hv.mono k.le;have put:∀(j:Nat){c:Ren}{k k':ad},H.le c->VR F c k k'->av T fB fB F K fF c (bL r (mG (es.modify j λe=>{ e with key:=k,val:=v }) clock)) (bL p (mG (g.modify j λe=>{ e with key:=k',val:=v' }) clock)):=by
  intro j c k k' b s;refine dV (b q) (.map _ ?_);rw[fO,fO];exact bD.modify (l.mono b) j λe R M=>⟨s,hv.mono b,M.born⟩
 cases d with
 |none=>
  refine av.loc (fA:=fB) (s':=bL p (mG (g.push { key:=f,val:=v',born:=clock }) (clock+1))) (dV q (.map _ ?_)) k.inj k.wr k.tape k.drawn;rw[fg,fg];exact bD.append l (.cons ⟨hi,hv,rfl⟩ .nil)
 |some j _=>
  have hold:=Aa l j hi;unfold rZ;simp only;generalize(((es[j]?).map (·.key)).getD i)=u at hold;generalize(((g[j]?).map (·.key)).getD f)=N at hold;unfold i2;by_cases B:i1 10000 u i=true
  .rw[if_pos B];exact av.loc (put j (Ren.le_refl _) hi) k.inj k.wr k.tape k.drawn
  .rw[if_neg B];refine av.loc (fA:=fB) (RA:=fF) (s':=gy (do pure (if(<-bM (.extern "map.whichKeyStays" 2))=0 then f else N)) λk'=>bL p (mG (g.modify j λe=>{ e with key:=k',val:=v' }) clock)) ?_ k.inj k.wr k.tape k.drawn;refine av.bind k.inj (RA:=RV F) ?_ λc b _ k k' s=>put j b s;refine af k.inj (lH _) λc b _ n n' e=>?_;subst e;refine ah ?_;split
   .exact hi.mono b
   .exact hold.mono b
def OC{c:Type}(P:bm)(a:c)(w:ai):dN ((Sem.pure a).run P) w:=by
 refine⟨eM _,rfl,λb d _=>?_⟩;show lM a (w.re b d)=lM a (w.re b (d+(w.drawn-w.drawn)));rw[eS];rfl
def Yg{Z:ag->Bool}(g:dM T F Z)(hF:si fB fA F){ρ:Ren}(b:ρ.bw T.globals.size){w w':ai}(c:WR T.globals.size F K ρ w w')(d:w.tape=w'.tape)(hd:w.drawn=w'.drawn){e e':dq->ad}(a:lN F ρ e e')(o:eb)(ok:jh T F Z o.op=true) :
 dN ((ec e o).run ⟨T,fB⟩) w:=by
 by_cases f:Dc o.op=true
 .obtain⟨t,x,y,z,h,i⟩:=xj e o f;obtain⟨k1,k2,k3,j⟩:=Dd h ok;rw[i];exact dN.bind (TG b c d hd t k1 (a x k2) (a y k3) (a z j)) λ_ _ _=>OC _ _ _
 .exact av.loc (ug (fA:=fA) g hF b a o ok (by simpa using f)) b c d hd
end
def gq(f:ai->eq)(w:ai):Prop:=
 ∀b w1 es,f w=lh b w1 es->w.drawn<=w1.drawn/\w1.tape=w.tape/\
  ∀(a:eE)(d:Nat),(∀i,i<w1.drawn-w.drawn->a (d+i)=w.tape (w.drawn+i))->∃c,f (w.re a d)=lh b (w1.re a (d+(w1.drawn-w.drawn))) c
@[simp] def vZ(w:ai):w.re w.tape w.drawn=w:=rfl
def gq.pure{f:ai->eq}{w:ai}(G:ep)(h:∀a d,∃es,f (w.re a d)=lh G (w.re a d) es):gq f w:=by
 intro c w1 es e;obtain⟨b,g⟩:=h w.tape w.drawn;simp_all
def gq.never{f:ai->eq}{w:ai}(h:∀a w1 es,f w≠lh a w1 es):gq f w:=λa w1 es e=>absurd e (h a w1 es)
section
variable {T:a9}{fB fA:Array bb}{F X:ac->Bool}{Z:ag->Bool}{bot:d9}{ρ σ:Ren}{w w':ai}
def qp.ends{c d:Type}{RA:Ren->c->d->Prop}{s:Sem c}{f:aL d×Array bj}(b:qp T.globals.size F (codeOk T F Z) RA ρ w w' #[] f (s.run (ho T fB) w)) :
 (∃a w1,s.run (ho T fB) w=lM a w1/\∃e a',RA e a a')\/(∃v w1,s.run (ho T fB) w=lR (nd v) w1)\/(∃m w1,s.run (ho T fB) w=lR (nf m) w1)\/∃u w1,s.run (ho T fB) w=lR (nl u) w1/\dw u=true:=by
 generalize s.run (ho T fB) w=r at b
 cases r with
 |ok a w1=>
  obtain⟨e,a',g,new,_,_,e1,i,j⟩:=b;grind
 |halt h w1=>
  cases h with
  |panic v=>grind
  |stuck m=>grind
  |unsupported u=>exact lW (lW (lW ⟨u,w1,rfl,b⟩))
  |_=>exact b.elim
def SR.ends{c d:Type}{RA:Ren->c->d->Prop}(b:Wd T F Z ρ w w'){s:Sem c}{s':Sem d}(hs:av T fB fA F (codeOk T F Z) RA ρ s s') :
 (∃a w1,s.run (ho T fB) w=lM a w1/\∃e a',RA e a a')\/(∃v w1,s.run (ho T fB) w=lR (nd v) w1)\/(∃m w1,s.run (ho T fB) w=lR (nf m) w1)\/∃u w1,s.run (ho T fB) w=lR (nl u) w1/\dw u=true:=
 qp.ends (av.run #[] hs b.inj b.wr b.tape b.drawn).zu
def iD{a:Type}(P:bm)(s:Sem a)(w:ai){r:aL a}(h:s.run P w=r):s.runT P w #[]=(r,(s.runT P w #[]).2):=Prod.ext ((g0 P s w #[]).trans h) rfl
section
variable {P:bm}{fr:d9}{cs:List d9}{s:Sem dO}{w w1:ai}
def Df{v:ad}(h:s.run P w=lM (n6 v) w1):∃es,lj P true fr cs none s w=lh { frame:=fr.finish v,callers:=cs,status:=ol,dying:=none } w1 es:=by
 unfold lj;simp only[if_true];rw[iD P s w h];exact⟨_,rfl⟩
def Gr(h:s.run P w=lM n7 w1):∃es,lj P true fr cs none s w=lh { frame:=fr.finish undef,callers:=cs,status:=ol,dying:=none } w1 es:=by
 unfold lj;simp only[if_true];rw[iD P s w h];exact⟨_,rfl⟩
def Dg{f:ac}{a:Array ad}(h:s.run P w=lM (n8 f a) w1):∃es,lj P true fr cs none s w=lh { frame:=k8 P f a (match fr.todo with | .call _ true _ _::_=>.wrapped|_=>oj),callers:=fr::cs,status:=ol,dying:=none } w1 es:=by
 unfold lj;simp only[if_true];rw[iD P s w h];exact⟨_,rfl⟩
def Dh{l:Nat}{f:ac}{a:Array ad}{c d:a8}(h:s.run P w=lM (n9 l f a c d) w1):∃es,lj P true fr cs none s w=lh { frame:=Frame.round l f a c d oj,callers:=fr::cs,status:=ol,dying:=none } w1 es:=by
 unfold lj;simp only[if_true];rw[iD P s w h];exact⟨_,rfl⟩
def Di{v:ad}(h:s.run P w=lR (nd v) w1):∃es,lj P true fr cs none s w=lh { frame:=fr.raise [{ v,recovered:=false }],callers:=cs,status:=ol,dying:=none } w1 es:=by
 unfold lj;simp only[if_true];rw[iD P s w h];exact⟨_,rfl⟩
def Dj{m:String}(h:s.run P w=lR (nf m) w1):∃o w2 es,lj P true fr cs none s w=li o w2 es:=by
 unfold lj;simp only[if_true];rw[iD P s w h];exact⟨_,_,_,rfl⟩
def su{u:bi}(h:s.run P w=lR (nl u) w1)(a:dw u=true):∃o w2 es,lj P true fr cs none s w=li o w2 es:=by
 unfold lj;simp only[if_true];rw[iD P s w h];cases u<;>first|exact⟨_,_,_,rfl⟩|cases a
end
def gq.from{l:Type}{P:bm}{s:Sem l}{w:ai}(hs:dN (s.run P) w){f:ai->eq}
 (h:(∃g r,s.run P w=r/\∀i d,s.run P (w.re i d)=r.re i (d+(r.world.drawn-w.drawn))->∃es,f (w.re i d)=lh g (r.world.re i (d+(r.world.drawn-w.drawn))) es)\/∀k w1 es,f w≠lh k w1 es):gq f w:=by
 obtain⟨a,b,c⟩:=hs
 rcases h with⟨g,r,m,h⟩|n
 .subst m;intro k w1 es e
  have j:=h w.tape w.drawn (by
   grind)
  have o:w.drawn+((s.run P w).world.drawn-w.drawn)=(s.run P w).world.drawn:=ab;obtain⟨p,j⟩:=j;rw[vZ,e,o,<-b,vZ]at j;cases j;exact⟨a,b,λi d q=>h i d (c i d q)⟩
 .exact gq.never n
def xy{fr:d9}{cs:List d9}{s:Sem dO}{g:aL dO×Array bj}(hl:dN (s.run (ho T fB)) w)(i:qp T.globals.size F (codeOk T F Z) (gT F (codeOk T F Z)) ρ w w' #[] g (s.run (ho T fB) w)) :
 gq (λw=>lj (ho T fB) true fr cs none s w) w:=by
 refine gq.from hl ?_
 rcases qp.ends i with⟨a,w1,h,n,p,j⟩|⟨v,w1,h⟩|⟨m,w1,h⟩|⟨u,w1,h,k⟩
 .cases j with
  |value hv=>exact lT ⟨_,_,h,λb d e=>Df e⟩
  |skip=>exact lT ⟨_,_,h,λb d e=>Gr e⟩
  |enter f hf l=>exact lT ⟨_,_,h,λb d e=>Dg e⟩
  |round hl f hf l c d q r=>exact lT ⟨_,_,h,λb d e=>Dh e⟩
 .exact lT ⟨_,_,h,λb d e=>Di e⟩
 .obtain⟨o,w2,es,e⟩:=Dj (fr:=fr) (cs:=cs) h;grind
 .obtain⟨o,w2,es,e⟩:=su (fr:=fr) (cs:=cs) h k;grind
def Ah(a:Wd T F Z ρ w w'){fr:d9}{cs:List d9}{s s':Sem dO}(hs:av T fB fA F (codeOk T F Z) (gT F (codeOk T F Z)) ρ s s') :
 gq (λw=>lj (ho T fB) true fr cs none s w) w:=
 xy (av.loc hs a.inj a.wr a.tape a.drawn) (av.run #[] hs a.inj a.wr a.tape a.drawn).zu
def wh{j l:Type}{RA:Ren->j->l->Prop}(k:Wd T F Z ρ w w'){s:Sem j}{s':Sem l}(hs:av T fB fA F (codeOk T F Z) RA ρ s s'){f:aL j->eq}(fn:ac)
 (t:∀(n:Ren)(a:j)(a':l)(w1:ai),s.run (ho T fB) w=lM a w1->RA n a a'->(∃g,∀w,∃es,f (lM a w)=lh g w es)\/∀w c w1 es,f (lM a w)≠lh c w1 es)
 (x:∀v,(∃g,∀w,∃es,f (lR (nd v) w)=lh g w es)\/∀w c w1 es,f (lR (nd v) w)≠lh c w1 es)
 (y:∀m w1,∃o w2 es,f (lR (nf m) w1)=li o w2 es) (z:∀u w1,dw u=true->∃o w2 es,f (lR (nl u) w1)=li o w2 es) :
 gq (λw=>lf (seen (ho T fB) fn (s.runT (ho T fB) w #[]).2) (f (s.runT (ho T fB) w #[]).1)) w:=by
 refine gq.from (av.loc hs k.inj k.wr k.tape k.drawn) ?_;have no:∀(r:aL j),s.run (ho T fB) w=r->(∀c w1 es,f r≠lh c w1 es)->∀c w1 es,lf (seen (ho T fB) fn (s.runT (ho T fB) w #[]).2) (f (s.runT (ho T fB) w #[]).1)≠lh c w1 es:=by
  intro r p i c w1 es e;rw[g0,p]at e
  cases q:f r with
  |go C w2 D=>exact i _ _ _ q
  |_=>rw[q]at e;cases e
 have yes:∀(r:aL j)(g:ep),s.run (ho T fB) w=r->(∀(b:eE)(d:Nat),∃es,f (r.re b d)=lh g (r.world.re b d) es)->
  ∀b d,s.run (ho T fB) (w.re b d)=r.re b (d+(r.world.drawn-w.drawn))->∃es,lf (seen (ho T fB) fn (s.runT (ho T fB) (w.re b d) #[]).2) (f (s.runT (ho T fB) (w.re b d) #[]).1)=lh g (r.world.re b (d+(r.world.drawn-w.drawn))) es:=by
  intro r g p hy b d e;rw[g0,e];obtain⟨es,A⟩:=hy b (d+(r.world.drawn-w.drawn));rw[A];exact⟨_,rfl⟩
 rcases SR.ends k hs with⟨a,w1,h,n,a',i⟩|⟨v,w1,h⟩|⟨m,w1,h⟩|⟨u,w1,h,B⟩
 .rcases t n a a' w1 h i with⟨g,hg⟩|i
  .exact lT ⟨g,_,h,yes _ g h λb d=>hg _⟩
  .exact lW (no _ h (i _))
 .rcases x v with⟨g,hg⟩|i
  .exact lT ⟨g,_,h,yes _ g h λb d=>hg _⟩
  .exact lW (no _ h (i _))
 .obtain⟨o,w2,es,e⟩:=y m w1;grind
 .obtain⟨o,w2,es,e⟩:=z u w1 B;grind
end
section
variable {T:a9}{fB fA:Array bb}{F X:ac->Bool}{Z:ag->Bool}{bot:d9}{ρ σ:Ren}{w w':ai}
def Bu(g:ep):gq (λw=>lh g w) w:=gq.pure g λ_ _=>⟨_,rfl⟩
def pN(f:ai->eq)(h:∀w,∃o w2 es,f w=li o w2 es):gq f w:=gq.never λb w1 es e=>by
 obtain⟨o,w2,c,a⟩:=h w;rw[a]at e;cases e
def gq.seq{n:Type}{P:bm}{s:Sem n}(hs:dN (s.run P) w){f:ai->eq}{g:n->ai->eq}(o:Outcome)(h:∀a w1,s.run P w=lM a w1->gq (g a) w1)
 (hf:∀k d,∃es,f (w.re k d)=lf es (match s.run P (w.re k d) with | lM a w=>g a w | lR _ w=>li o w)):gq f w:=by
 obtain⟨a,b,c⟩:=hs;intro B w2 es e;obtain⟨q,j⟩:=hf w.tape w.drawn;rw[vZ,e]at j
 cases m:s.run P w with
 |halt h w1=>rw[m]at j;cases j
 |ok x w1=>
  rw[m]at j a b c;have r:w.drawn<=w1.drawn:=a;have b':w1.tape=w.tape:=b
  cases hg:g x w1 with
  |go C w3 D=>
   simp only[hg]at j;cases j;obtain⟨a2,t,u⟩:=h x w1 m _ _ _ hg;refine⟨eN r a2,t.trans b',λk d p=>?_⟩;have v:=c k d (λi hi=>p i (by have E:i<w1.drawn-w.drawn:=hi;omega))
   obtain⟨y,z⟩:=u k (d+(w1.drawn-w.drawn)) (λi hi=>by
    have:=p ((w1.drawn-w.drawn)+i) ab
    grind)
   obtain⟨l,A⟩:=hf k d;rw[A,v];show∃H,lf l (g x (w1.re k (d+(w1.drawn-w.drawn))))=_;rw[z];refine⟨l++y,?_⟩;show GStep.go _ _ _=_;congr 2;omega
  |_=>simp only[hg]at j;cases j
def va{P:bm}{fr f:d9}{cs:List d9}(a:fr.kind=oj)(v:ad):∃g,∀w,∃es,eA P true fr (f::cs) none v w=lh g w es:=
 ⟨_,λw=>⟨#[],by simp only[eA,a];rfl⟩⟩
def LM(d:Wd T F Z ρ w w'){fr fr':d9}{cs:List d9}(g:aQ T F Z fB fA ρ fr fr')(hb:dn (fr::cs))(j:Option a8)(h:∀c,j=some c->codeOk T F Z c=true) :
 gq (λw=>mR (ho T fB) true fr (cs++[bot]) none w j) w:=by
 rcases jP g.roundOf with⟨e1,i⟩|⟨l,m,e1,i,hl⟩
 .simp only[iW e1]
  cases sn j with
  |false=>exact pN _ λw=>⟨_,_,_,rfl⟩
  |true=>exact Bu _
 .simp only[iX e1];have k:cs≠[]:=by
   rintro rfl;have:=hb fr rfl;rw[e1]at this;cases this
  obtain⟨f,b,rfl⟩:∃f b,cs=f::b:=by
   cases cs with
   |nil=>exact absurd rfl k
   |cons f b=>exact⟨f,b,rfl⟩
  exact wh d (oq (T:=T) (fB:=fB) (fA:=fA) (Z:=Z) d.inj hl j h) (f:=λr=>match r with | lM v w=>eA (ho T fB) true fr (f::(b++[bot])) none v w | lR _ w=>li (ov "range over a function: no such loop" (fr.pos (ho T fB))) w) fr.fn
   (λ_ a _ _ _ _=>lT (va g.kind a)) (λ_=>lW λ_ _ _ _ e=>by cases e) (λ_ _=>⟨_,_,_,rfl⟩) (λ_ _ _=>⟨_,_,_,rfl⟩)
def OD(fit:Fits T fB fA F X Z)(a:Wd T F Z ρ w w'){fr fr':d9}{cs:List d9}(b:aQ T F Z fB fA ρ fr fr'){ops:Array eb}{i:Nat}{rest:List Nat}{k:List ed}
 (f:fr.todo=lx ops (i::rest)::k) (g:(ops.toList.all λo=>jh T F Z o.op)=true) :
 gq (λw=>lm (ho T fB) true fr (cs++[bot]) none w) w:=by
 unfold lm;have e:fr.oper? = ops[i]?:=by unfold k7;rw[f]
 rw[e]
 cases h:ops[i]? with
 |none=>exact pN _ λw=>⟨_,_,_,rfl⟩
 |some o=>
  have ok:=Bo g h;simp only;have main:gq (λw=>lj (ho T fB) true fr (cs++[bot]) none (ec fr.eval o) w) w:=
   xy (Yg fit.zero fit.fns a.inj a.wr a.tape a.drawn (dD b.tmps) o ok) (De (fA:=fA) fit.zero fit.fns a.inj a.wr a.tape a.drawn (dD b.tmps) o ok #[])
  have d:=b.roundOf;generalize e1:fr.roundOf=r at d;generalize l:fr'.roundOf=m at d
  cases d with
  |none=>exact main
  |some hl=>
   cases j:o.op with
   |defer c=>rw[j]at ok;cases ok
   |_=>exact main
def OE(fit:Fits T fB fA F X Z)(o:Wd T F Z ρ w w'){fr fr':d9}{cs:List d9}(s:aQ T F Z fB fA ρ fr fr')(hb:dn (fr::cs)) :
 gq (λw=>lp (ho T fB) true true fr (cs++[bot]) none w) w:=by
 obtain⟨fn,tmps,todo,defers,mode,kind,p⟩:=fr;obtain⟨q,K,L,M,N,O,C⟩:=fr';have P:cN T F Z ρ todo L:=s.todo;have to:∀D:List ed,gq (λw=>lh { frame:=⟨fn,tmps,D,defers,mode,kind,p⟩,callers:=cs++[bot],status:=ol,dying:=none } w) w:=λD=>Bu _;have lv:=λj Q=>LM (bot:=bot) o s hb j Q;unfold lp
 cases P with
 |nil=>exact lv none (λc e=>by cases e)
 |@cons i i' k k' h t=>
  cases h with
  |inBlock id=>exact to _
  |inLoop c hc=>exact to _
  |inScope c hc=>exact to _
  |inRangeFunc hl=>exact pN _ λw=>⟨_,_,_,rfl⟩
  |beginRound=>
   refine Ah (fA:=fA) o (s':=do(C.elim (stuck "beginRound: no round") jl);pure n7) (vX o.inj ?_)
   rcases jP s.roundOf with⟨u,y⟩|⟨l,R,u,y,hl⟩
   .simp only at u y;subst u y;exact ak
   .simp only at u y;subst u y;exact lg (fA:=fA) o.inj hl
  |@endRangeFunc l R hl=>
   exact wh o (qW (fA:=fA) o.inj hl)
    (f:=λr=>match r with
      |lM jump w=>lh { frame:=⟨fn,tmps,(jump.map lu).toList++k,defers,mode,kind,p⟩,callers:=cs++[bot],status:=ol,dying:=none } w
      |lR (nd v) w=>lh { frame:=k9 ⟨fn,tmps,lA l::k,defers,mode,kind,p⟩ [{ v,recovered:=false }],callers:=cs++[bot],status:=ol,dying:=none } w
      |lR _ w=>li (ov "range over a function: no such loop" _) w) fn
    (λ_ _ _ _ _ _=>lT ⟨_,λ_=>⟨_,rfl⟩⟩) (λ_=>lT ⟨_,λ_=>⟨_,rfl⟩⟩) (λ_ _=>⟨_,_,_,rfl⟩) (λ_ _ _=>⟨_,_,_,rfl⟩)
  |inRegion ops todo S=>
   cases todo with
   |nil=>exact to _
   |cons i E=>
    simp only
    cases((ops[i]?).map (Region.wanted · (em ops tmps))).getD false with
    |true=>exact OD fit o s rfl S
    |false=>exact Bu _
  |code c hc=>
   cases c with
   |ret=>exact lv (some .ret) (λc e=>by cases e;rfl)
   |skip=>exact to _
   |label _=>exact to _
   |seq a b=>exact to _
   |cond c a b=>
    simp only
    cases ld _ c with
    |bool b'=>exact Bu _
    |_=>exact pN _ λw=>⟨_,_,_,rfl⟩
   |block id b=>exact to _
   |loop b=>exact to _
   |scope b=>exact to _
   |exit id=>
    simp only
    cases ej id k with
    |none=>exact lv (some (.exit id)) (λc e=>by cases e;rfl)
    |some m=>exact to _
   |goto id=>
    simp only
    cases el id k with
    |none=>exact lv (some (.goto id)) (λc e=>by cases e;rfl)
    |some m=>exact to _
   |refuse U=>cases hc
   |rangeFunc f params assign body=>
    simp only[codeOk,jw]at hc;simp only;have H:=s.fn;simp only at H;subst H;have hs:=mO (T:=T) (fB:=fB) (fA:=fA) (Z:=Z) o.inj q s.mI s.tmps params assign body hc.1.2 hc.2 s.roundOf
    refine gq.seq (av.loc hs o.inj o.wr o.tape o.drawn) (g:=fun(x:Nat×List eg)w=>
     let fr:d9:=⟨q,tmps,ly x.1::k,x.2++defers,mode,kind,p⟩
     let call:Call:={ callee:=.value f,args:=#[.const (mj (l2 x.1) #[] #[])],argTypes:=#[] }
     lj (ho T fB) true fr (cs++[bot]) none (do let d<-ea fr.eval call 0;d8 d.target d.args) w) (ov "range over a function: no such loop" (Frame.pos (ho T fB) ⟨q,tmps,lu (.rangeFunc f params assign body)::k,defers,mode,kind,p⟩)) ?_ (λB d=>?_)
    .intro x w1 V;have I:=av.run #[] hs o.inj o.wr o.tape o.drawn;rw[V]at I;obtain⟨J,z,W,new,e1,A,hl,Y⟩:=I;have h0:=s.mono A.le;have hv:cU F J [mj (l2 x.1) #[] #[]] [mj (l2 z.1) #[] #[]]:=.cons (.func (.yield hl) .nil .nil) .nil;have he:=dD (fr:=⟨q,tmps,ly x.1::k,x.2++defers,mode,kind,p⟩) (fr':=⟨q,K,ly z.1::k',z.2++M,N,O,C⟩) h0.tmps f hc.1.1;exact Ah (fA:=fA) A.wd (jE (a:=#[Operand.const (mj (l2 x.1) #[] #[])].map (ld ⟨q,tmps,ly x.1::k,x.2++defers,mode,kind,p⟩)) (a':=#[mj (l2 z.1) #[] #[]]) fit.zero fit.fns A.inj he (by simpa[ld]using hv))
    .refine⟨seen (ho T fB) q ((jr q tmps params assign body p).runT (ho T fB) (w.re B d) #[]).2,?_⟩;show lf (seen (ho T fB) q ((jr q tmps params assign body p).runT (ho T fB) (w.re B d) #[]).2) _=_;grind[g0]
   |region id ops draw=>
    simp only
    cases draw with
    |false=>exact to _
    |true=>
     simp only[jD,jz,if_false];have hs:av T fB fA F (codeOk T F Z) fF ρ (bM (.order fn id)) (bM (.order fn id)):=lH _;have hl:=av.loc hs o.inj o.wr o.tape o.drawn;refine gq.from hl (lT ?_);obtain⟨n,J,w1,W,c1,c2,A⟩:=ou (fB:=fB) (fA:=fA) o (.order fn id);refine⟨{ frame:=⟨fn,tmps,lx ops (Region.schedule (Tables.follows T .mixedOrders) ops n)::k,defers,mode,kind,p⟩,callers:=cs++[bot],status:=ol,dying:=none },lM n w1,c1,λB d e=>?_⟩;rw[e];exact⟨#[],rfl⟩
def Gs(h:Wd T F Z ρ w w'){fr fr':d9}{cs cs':List d9}(j:aQ T F Z fB fA ρ fr fr')(hcs:cj T F Z fB fA ρ cs cs')(k:fr.mode≠ob)(l:fr.defers=[]->cs≠[]) :
 gq (λw=>eD (ho T fB) true fr (cs++[bot]) none w) w:=by
 have hd:=j.defers;obtain⟨fn,tmps,todo,defers,mode,kind,i⟩:=fr;obtain⟨g,H,I,J,K,L,M⟩:=fr';obtain⟨m,n,y,o,p,z,q,u,A,B,x⟩:=j;simp only at m n y o p z q u A B x k l hd;subst m
 cases hd with
 |@cons r N ds C D t=>
  unfold eD;simp only;exact wh h (jj (fB:=fB) (fA:=fA) h.inj D)
   (f:=λr=>match r with
     |lM calls w=>lh { frame:={ fn:=g,tmps,todo,defers:=calls++ds,mode,kind,roundOf:=i },callers:=cs++[bot],status:=ol,dying:=none } w
     |lR _ w=>li (ov "the deferred calls of a range-over-func loop have been taken" _) w) g
   (λ_ _ _ _ _ _=>lT ⟨_,λ_=>⟨_,rfl⟩⟩) (λ_=>lW λ_ _ _ _ e=>by cases e) (λ_ _=>⟨_,_,_,rfl⟩) (λ_ _ _=>⟨_,_,_,rfl⟩)
 |nil=>
  obtain⟨f,b,rfl⟩:∃f b,cs=f::b:=by
   cases cs with
   |nil=>exact absurd rfl (l rfl)
   |cons f b=>exact⟨f,b,rfl⟩
  cases q with
  |run=>exact absurd rfl k
  |@panicking c O hc=>
   refine gq.pure { frame:=f.raise c,callers:=b++[bot],status:=ol,dying:=none } λP d=>⟨#[],?_⟩
   show eD (ho T fB) true _ (f::(b++[bot])) none _=_;unfold eD;simp only[iR p (ho T fB) g tmps [] (oh c) kind i,jz,if_false]
  |returning=>
   obtain⟨fx,c,E,Q,R,S⟩:=(n (x rfl)).ex;unfold eD;simp only[E]
   exact wh h (mP (fB:=fB) (fA:=fA) (Z:=Z) h.inj fx o) (f:=λr=>match r with
    |lM v w=>eA (ho T fB) true { fn:=g,tmps,todo,defers:=[],mode:=od,kind,roundOf:=i } (f::(b++[bot])) none v w
    |lR (nf s) w=>li (ov s _) w
    |lR _ w=>li (ov "return: the result variables cannot be read" _) w) g
    (λ_ a _ _ _ _=>lT (va u a)) (λ_=>lW λ_ _ _ _ e=>by cases e) (λ_ _=>⟨_,_,_,rfl⟩) (λ_ _ _=>⟨_,_,_,rfl⟩)
def OG(fit:Fits T fB fA F X Z)(d:Wd T F Z ρ w w'){g g':ep}(hg:GR T fB fA F X Z bot ρ g g')(b:aQ T F Z fB fA ρ g.frame g'.frame)
 (f:g.frame.mode≠ob->g.frame.defers=[]->g.callers≠[bot]):gq (λw=>stepG (ho T fB) true g w) w:=by
 obtain⟨_,⟨l,hl,hcs,hb,_⟩,st,a,i,j,of,k⟩:=hg;obtain⟨fr,cs,status,dying,offers⟩:=g;obtain⟨c,cs',o,p,q⟩:=g';simp only at st a i j of k hl hcs b hb f;subst st a i j of k hl;have m:=OE (bot:=bot) fit d b hb;have r:=λh=>Gs (bot:=bot) d b hcs h (λhd e=>by subst e;exact f h hd rfl);obtain⟨fn,tmps,todo,defers,mode,kind,s⟩:=fr;obtain⟨t,u,v,x,n,y,z⟩:=c;have A:qE F ρ mode n:=b.mode;unfold stepG;grind
end
inductive Term(P:bm)(Good:ep->ai->Prop):ep->ai->Prop
 |done {g:ep} {w:ai} (h:Good g w):Term P Good g w
 |step {g:ep} {w:ai} (G1:eE->Nat->ep) (W1:eE->Nat->ai) (h:∀τ d,∃es,stepG P true g (w.re τ d)=lh (G1 τ d) (W1 τ d) es) (k:∀τ d,Term P Good (G1 τ d) (W1 τ d)):Term P Good g w
inductive cy(P:bm):Nat->ep->ai->ep->ai->Prop
 |zero (g:ep) (w:ai):cy P 0 g w g w
 |succ {n:Nat} {g g1 g2:ep} {w w1 w2:ai} {es:Array bj} (h:cy P n g w g1 w1) (k:stepG P true g1 w1=lh g2 w2 es):cy P (n+1) g w g2 w2
def cy.det{P:bm}{n:Nat}{g b a:ep}{w w1 w2:ai}(h:cy P n g w b w1)(k:cy P n g w a w2):b=a/\w1=w2:=by
 induction h generalizing a w2 with
 |zero=>cases k;exact⟨rfl,rfl⟩
 |succ h k1 c=>
  cases k with
  |succ d k'=>
   grind
def cy.hd00{P:bm}{n m:Nat}{g a:ep}{w w2:ai}(h:cy P n g w a w2)(d:m<=n):∃b w1,cy P m g w b w1:=by
 induction h with
 |zero=>
  obtain rfl:m=0:=ab;exact⟨_,_,.zero _ _⟩
 |@succ n _ _ _ _ _ _ _ h k c=>
  rcases eP m (n+1) with hl|hg
  .exact c ab
  .obtain rfl:m=n+1:=ab;exact⟨_,_,.succ h k⟩
def cy.next{P:bm}{n m:Nat}{g a c:ep}{w w1 w2:ai}(h:cy P n g w c w2)(k:cy P m g w a w1)(d:m<n):∃b w3 es,stepG P true a w1=lh b w3 es:=by
 obtain⟨b,w3,hc⟩:=h.hd00 (m:=m+1) d
 cases hc with
 |succ e k'=>
  obtain⟨rfl,rfl⟩:=e.det k;exact⟨_,_,_,k'⟩
def cy.suffix{P:bm}{m:Nat}:∀{n:Nat}{g a b:ep}{w w1 w2:ai},cy P (m+n) g w b w2->cy P m g w a w1->cy P n a w1 b w2:=by
 intro n
 induction n with
 |zero=>
  intro g a b w w1 w2 h k;obtain⟨rfl,rfl⟩:=h.det k;exact .zero _ _
 |succ n c=>
  intro g a b w w1 w2 h k
  cases h with
  |succ d k'=>exact .succ (c d k) k'
def jW(L:List (aH->Nat))(a:eE):Prop:=∀i x,L[i]?=some x->a i=x
theorem jW.of_append{L M:List (aH->Nat)}{a:eE}(h:jW (L++M) a):jW L a:=λi x b=>h i x (by
 grind)
section
variable {P:bm}{Good:ep->ai->Prop}{Inv:ep->ai->Prop}{Stop:ep->Prop}
def Bv(u:∀g w c d,Inv g w->Inv g (w.re c d))(O:∀g w f w1 es,Inv g w->¬Stop g->stepG P true g w=lh f w1 es->Inv f w1)
 (D:∀g w,Inv g w->¬Stop g->gq (stepG P true g) w)
 (Q:∀g w E w2 m,Inv g w->Stop g->cy P (m+1) g w E w2->¬Good E w2) (R:∀g w c d,Good g w->Good g (w.re c d))
 {o:ep} {w0:ai} (S:Inv o w0) (runs:∀a:eE,∃n g w,cy P n o (w0.re a 0) g w/\Good g w):Term P Good o w0:=by
 classical
 apply lS;intro T;have Dk:∀g(w:ai)c d,Good g (w.re c d)->Good g w:=λg w c d h=>R g (w.re c d) w.tape w.drawn h;have bad:∀g w,¬Term P Good g w->¬Good g w/\∃c d,∀f w1 es,stepG P true g (w.re c d)=lh f w1 es->¬Term P Good f w1:=by
  intro g w h;refine⟨λhg=>h (.done hg),lS λhn=>h ?_⟩;have v:∀c d,∃f w1 es,stepG P true g (w.re c d)=lh f w1 es/\Term P Good f w1:=by
   simp_all
  exact .step (λc d=>(v c d).choose) (λc d=>(v c d).choose_spec.choose) (λc d=>⟨_,(v c d).choose_spec.choose_spec.choose_spec.1⟩) (λc d=>(v c d).choose_spec.choose_spec.choose_spec.2)
 let St (k:Nat):={ x:ep×ai×List (aH->Nat) // Inv x.1 x.2.1/\¬Term P Good x.1 x.2.1/\∀a,jW x.2.2 a->cy P k o (w0.re a 0) x.1 (x.2.1.re a x.2.2.length) }
 have next:∀k(s:St k),(∀j,j<=k->∀a,jW s.1.2.2 a->∀g w,cy P j o (w0.re a 0) g w->¬Good g w)->
  ∃F:St (k+1),(∃M,F.1.2.2=s.1.2.2++M)/\(∀j,j<=k+1->∀a,jW F.1.2.2 a->∀g w,cy P j o (w0.re a 0) g w->¬Good g w):=by
  rintro k⟨⟨g,w,L⟩,hi,hb,hc⟩U;simp only at hi hb hc U;obtain⟨hg,c,d,V⟩:=bad g w hb;let a:eE:=λi=>if h:i<L.length then L[i] else c (d+(i-L.length))
  have p:jW L a:=λi x r=>by
   grind
  obtain⟨n,ge,we,H,W⟩:=runs a;have X:k<n:=by
   grind
  have y:¬Stop g:=λhs=>by
   obtain⟨m,rfl⟩:∃m,n=k+(m+1):=⟨n-k-1,ab⟩
   exact Q _ _ _ _ _ (u _ _ _ _ hi) hs (H.suffix (hc a p)) W
  have z:∃f w1 es,stepG P true g (w.re c d)=lh f w1 es:=by
   obtain⟨Y,w3,es,e⟩:=H.next (hc a p) X;obtain⟨_,_,hl⟩:=D g (w.re a L.length) (u _ _ _ _ hi) y Y w3 es e
   obtain⟨I,A⟩:=hl c d (λi _=>by
    show c (d+i)=a (L.length+i)
    grind)
   exact⟨_,_,_,A⟩
  obtain⟨f,w1,es,e⟩:=z;obtain⟨hd,ht,hl⟩:=D g (w.re c d) (u _ _ _ _ hi) y f w1 es e;have Z:d<=w1.drawn:=hd;let M:List (aH->Nat):=(List.range (w1.drawn-d)).map λi=>c (d+i);have B:M.length=w1.drawn-d:=by simp[M]
  have Gu:=O _ _ _ _ _ (u _ _ c d hi) y e;have J:∀a,jW (L++M) a->cy P (k+1) o (w0.re a 0) f (w1.re a (L++M).length):=by
   intro a p;have h1:=hc a p.of_append
   obtain⟨I,A⟩:=hl a L.length (λi hi=>by
    have mS:i<w1.drawn-d:=hi;show a (L.length+i)=c (d+i);refine p _ _ ?_
    grind)
   have t:stepG P true g (w.re a L.length)=lh f (w1.re a (L++M).length) I:=by
    rw[List.length_append,B];exact A
   exact .succ h1 t
  have lq:=V f w1 es e;refine⟨⟨(f,w1,L++M),Gu,lq,J⟩,⟨M,rfl⟩,λj hj a p gj wj C hgj=>?_⟩
  rcases eP j (k+1) with Wk|Wk
  .grind[jW.of_append]
  .obtain rfl:j=k+1:=ab;obtain⟨e1,t⟩:=C.det (J a p);grind
 let K (k:Nat):={ s:St k // ∀j,j<=k->∀a,jW s.1.2.2 a->∀g w,cy P j o (w0.re a 0) g w->¬Good g w }
 let s0:K 0:=⟨⟨(o,w0,[]),S,T,λa _=>.zero _ _⟩,λj hj a _ g w hc hg=>by
  obtain rfl:j=0:=ab;cases hc
  grind⟩
 let l:∀k,K k:=λk=>Nat.rec s0 (λk s=>⟨(next k s.1 s.2).choose,(next k s.1 s.2).choose_spec.2⟩) k;have grow:∀k,∃M,(l (k+1)).1.1.2.2=(l k).1.1.2.2++M:=λk=>(next k (l k).1 (l k).2).choose_spec.1;have N:∀k m,∃M,(l (k+m)).1.1.2.2=(l k).1.1.2.2++M:=by
  intro k m
  induction m with
  |zero=>exact⟨[],ar⟩
  |succ m ih=>
   obtain⟨M,q⟩:=ih;obtain⟨M',OL⟩:=grow (k+m);exact⟨M++M',by rw[<-Nat.add_assoc,OL,q,List.append_assoc]⟩
 let a:eE:=λi=>if h:∃k,i<(l k).1.1.2.2.length then(l h.choose).1.1.2.2[i]'h.choose_spec else λ_=>0
 have p:∀k,jW (l k).1.1.2.2 a:=by
  intro k i x r;obtain⟨hl,Gt⟩:=List.getElem?_eq_some_iff.1 r;have b:∃k,i<(l k).1.1.2.2.length:=⟨k,hl⟩
  have e1:a i=(l b.choose).1.1.2.2[i]'b.choose_spec:=by simp only[a,dif_pos b]
  have t:(l b.choose).1.1.2.2[i]?=some x:=by
   rcases Nat.le_total k b.choose with h|h
   .obtain⟨M,q⟩:=N k (b.choose-k);rw[show k+(b.choose-k)=b.choose by omega]at q;rw[q,fb hl,r]
   .obtain⟨M,q⟩:=N b.choose (k-b.choose);rw[show b.choose+(k-b.choose)=k by omega]at q;rw[q,fb b.choose_spec]at r;exact r
  rw[e1];rw[List.getElem?_eq_getElem b.choose_spec]at t;exact Option.some.inj t
 obtain⟨n,g,w,hc,hg⟩:=runs a;exact(l n).2 n (eM _) a (p n) g w hc hg
end
end Go.bJ
