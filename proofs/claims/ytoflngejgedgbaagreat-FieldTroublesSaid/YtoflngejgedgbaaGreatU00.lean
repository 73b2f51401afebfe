/- Part of the proof of FieldTroubles. -/
import Derived.Test.YtoflngejgedgbaaGreatU06
import Derived.Conc.FxBegin
import Derived.Conc.HoldsTime
import Derived.Test.YtoflngejgedgbaaGreatProg
set_option linter.all false
noncomputable section
open Go renaming Addr->aa,FuncId->ac,Value->ad,TypeId->ag,World->ai,Question->aH,Result->aL,MapEntry->a7,Code->a8,Loop->a9,Tables->bd,Func->bi,Unsupported->bj,Event->bm,Program->bq,unsupported->bv,newObj->b8,setObj->b9,choose->ce,askRoom->cf,typeInfo->ch,underlying->ci,sizeOf->cl,zeroValue->co,loadCellsFrom->cq,loadCells->ct,storeCells->c8,loadVar->c9,storeVar->db,newRow->dc,runtimePanic->dx,BoundsCode->dO,boundsPanic->d8,asAddr->d9,byteOfCell->ea,cellOfByte->eb,cellAtBytes->ec,noView->ed,numberAt->ek,behindNumber->el,fieldPlace->em,sameAddr->ep,mayBeOne->eq,stringish->eu,samePointer->eA,typeStr->eD,BinOp->eE,Operand->eN,eqGuard->eX,movedNumber->e7,movedPointer->e8,TypeDesc->e9,convert->fb,Next->fc,callFunc->fm,method->fp,nilAhead->fJ,invoke->fO,Frame->f0,resolve->f1,Oper->f6,execOp->f7,Item->f8,Deferred->f9,PanicEntry->gc,FrameMode->gf,exitTo->gg,findLabel->gt,gotoIn->gy,yielded->gL,Goroutine->g0,GStep->g6,CallKind->g7,results->g8,doReturn->g9,unwind->hh,Tape->hk,Trace->ho
open Bool renaming true->hw,false->hG,eq_iff_iff->hH,noConfusion->hJ,and_true->hK
open Option renaming none->hN,some->hO,map->hT,some_inj->hV
open Nat renaming le_add_right->hX,lt_or_ge->hY,mod_lt->h6,succ_pos->h7,add_mod_right->h8
open List renaming replicate->ii,mapM_cons->io,toArray->ip,forIn_cons->ix,filter_cons->iC,find?_cons->i0,all_cons->i1,zip_cons_cons->i2,range->i3
open Array renaming toList_push->i4,toList_append->i5,setIfInBounds->i6,replicate->i7,append_assoc->i9,getElem?_setIfInBounds_ne->jf,mapM_eq_mapM_toList->jn,forIn_toList->jp,toList_modify->jr,find?_toList->jt,all_toList->jw,toList_filter->jH,toList_map->jM,range->jQ,toList_zip->j1,getElem?_eq_getElem->j2,getElem?_map->j4,getElem?_eq_none->j5
open Go.World renaming setCell->j6,freeze->ka,frozen?->kc,cell?->kd,noCell->ke,farLoad->kf,shape?->kg,farStore->kp
open Go.Sem renaming store->kq,runT->ks,run->kt,getObj->kw,setObj->kx,bind->kG,program->kS,bind_assoc'->k6,run_bind'->k7,runT_bind'->k8,runT_fst->k9,choose->la,halt->ld,shape->li,frozen->lm,mark->lp,pure->lA
open Go.Program renaming mk->lL,eqGuardType->lM,alikeButTags->lT,stoodInAs->lW,stoodInHeld->l1,packedAs->l2,packed->l3,holdsPacked->l5,cellsOf->mc,depth->mm,underlying->mF
open Go.Instr renaming sureAddr->mG,alloc->m7,box->m8,loadAt->m9,storeAt->ni,fill->nk,build->nl,fieldAt->nq,field->nt,index->nV,indexAt->n0,extract->n6,sliceBound->n7,sliceBounds->n8,slice->n9,sliceAt->ob,checkKey->oh,sameNow->ol,findNow->ow,findAsking->o6,findKey->pg,lookup->pi,sameBits->pk,keyThatStays->pm,mapUpdate->pp,makeMap->pu,range->pv,entry->pz,next->p0,buildSlice->p7,getLoop->qi,yield->qr,beginRound->qt,endRound->qu,endLoop->qv,enterLoop->qx,takeDeferred->qA
open Go.Op renaming equalIn->qG,eqGuardIn->qH,intArith->qN,intCmp->qU,intBits->q7,intDiv->q8,shift->q9,stringOp->rf,twoPlaces->rh,addrMod->rk,addrCmp->rm,addrSub->ro,equal->rq,maxDepth->rr,unary->rs,move->rt,load->rx,field->rI,build->rL,indexAddr->rN,binOp->rP,mapUpdate->rR,insert->rS,call->sd
open Go.Builtin renaming unsafeAdd_->se,lenOf->sg,firstCells->sm,holdsCells->sq,zeroCells->ss,mayShare->sw,append_->sx,len_->sy,max2->sN,min2->sQ,max_->sT,min_->sV,len->sW
open Go.Unsupported renaming addressObserved->s6,unsafePointer->ta
open Go.Deferred renaming ofValue->tc
open Go.Frame renaming oper?->te,finish->ti,enter->tj,raise->tk,catches->tm,eval->tp
open Go.GStep renaming after->tq,go->tt,ended->tu
open Go.stepG renaming apply->tz,oper->tH,exec->tK
open Go.Conc renaming mem_seen->tL,Leavers->t0,Past->t6,runT_crowd_go->t7,woken_quitsD->t8,Deaf_other->t9,mem_ofEvents->ub,seenStep->ud,seen_def->ue
open Go.Item renaming code->ui,inRegion->ul,inRangeFunc->ur,endRangeFunc->ut,beginRound->uB
open Go.Result renaming halt->uZ,ok->u1
open Go.MemAct renaming ofEvent->u2,touch?->u3
open Go.ConcX renaming runNT_trans->u4
open SizeOf renaming sizeOf->u5
open Go.Proofs.Tryz renaming progTables->u6,funcs->u7
open Go.IntKind renaming wrap->u9,i64->vb
open Or renaming inl->vc,inr->vd
open Go.Fn renaming func->ve,yield->vp,method->vt
open Go.Value renaming bool->vu,int->vw,string->vx,agg->vy,pointer->vz,nilIface->vG,nilFunc->vI,func->vJ,slice->vL,map->v0,iface->v2,tuple->v3
open Go.Obj renaming cells->v4,map->v8,stringIter->v9,mapIter->wa,loop->wb,deferred->wc
open Go.Mark renaming noRoom->wg
open Go.Halt renaming panic->wk,stuck->wl,unsupported->wn,blocked->wo,waiting->wq,exit->wx,fatal->wy,throw->wC,goexit->wD
open Go.Mode renaming plain->wL
open Go.Loc renaming cell->wQ,obj->wS,mark->w8
open Except renaming error->w9
open Go.BinOp renaming eql->xa,leq->xb,xor->xc,add->xd,lss->xe
open Go.Next renaming value->xf,skip->xi,enter->xk,round->xl
open Go.Operand renaming tmp->xm,const->xn
open Go.Callee renaming value->xp,builtin->xr
open Go.Code renaming exit->xt,ret->xv,region->xw,seq->xx,rangeFunc->xB
open Go.FrameMode renaming run->xC,returning->xF,panicking->xT
open Go.CallKind renaming normal->xZ,early->x6
open Go.GoStatus renaming running->x7
open Go.Outcome renaming stuck->x8
namespace Go.bJ
variable {J:Nat}{L O:aa}{C R:List ad}{M Y q:ad}
abbrev Ren:=Nat->Nat->Prop
structure Ren.bw(G:Nat)(ρ:Ren):Prop where
 fn:∀{a b b':Nat},ρ a b->ρ a b'->b=b'
 inj:∀{a a' b:Nat},ρ a b->ρ a' b->a=a'
 XS:∀{a b:Nat},ρ a b->(a<G↔b<G)
def Ren.le(ρ σ:Ren):Prop:=∀ ⦃a b:Nat⦄,ρ a b->σ a b
def Ren.ext(ρ:Ren)(r c:Nat):Ren:=λa b=>ρ a b\/(a=r/\b=c)
def Ren.le_refl(ρ:Ren):ρ.le ρ:=λ_ _ h=>h
theorem Ren.le_trans{ρ σ a:Ren}(h:ρ.le σ)(k:σ.le a):ρ.le a:=λ_ _ x=>k (h x)
def Ren.kW(ρ:Ren)(r a:Nat):ρ.le (ρ.ext r a):=λ_ _ h=>vc h
def Ren.IW(ρ:Ren)(r a:Nat):ρ.ext r a r a:=vd ⟨rfl,rfl⟩
def Ren.bw.ext{G:Nat}{ρ:Ren}(h:ρ.bw G){r c:Nat}(d:∀b,¬ρ r b)(e:∀a,¬ρ a c)(f:G<=r)(g:G<=c):(ρ.ext r c).bw G:=by
 refine⟨λ{a b b'}x y=>?_,λ{a i b}x y=>?_,λ{a b}x=>?_⟩
 .rcases x with x|⟨rfl,rfl⟩<;>rcases y with y|⟨y1,y2⟩
  .exact h.fn x y
  .grind
  .exact absurd y (d _)
  .exact y2.y
 .rcases x with x|⟨rfl,rfl⟩<;>rcases y with y|⟨y1,y2⟩
  .exact h.inj x y
  .grind
  .exact absurd y (e _)
  .exact y1.y
 .rcases x with x|⟨rfl,rfl⟩
  .exact h.XS x
  .omega
def AR(ρ:Ren)(a a':aa):Prop:=ρ a.block a'.block/\a.off=a'.off/\a.spot=a'.spot
def AR.mono{ρ σ:Ren}(h:ρ.le σ){a a':aa}(x:AR ρ a a'):AR σ a a':=⟨h x.1,x.2⟩
def AR.add{ρ:Ren}{a a':aa}(x:AR ρ a a')(n:Nat):AR ρ (a.add n) (a'.add n):=by
 unfold Addr.add;split
 .exact x
 .exact⟨x.1,by show a.off+n=a'.off+n;rw[x.2.1],rfl⟩
def AR.eq_iff{ρ:Ren}(c:ρ.bw J){b b':aa}(x:AR ρ L O)(y:AR ρ b b'):(L=b)↔(O=b'):=by
 obtain⟨k,l,d⟩:=L;obtain⟨m,n,o⟩:=b;obtain⟨e,f,p⟩:=O;obtain⟨g,i,j⟩:=b';obtain⟨x1,x2,x3⟩:=x;obtain⟨y1,y2,y3⟩:=y;simp only at x1 x2 x3 y1 y2 y3;subst x2 x3 y2 y3;constructor
 .intro h;simp only[Addr.mk.injEq]at h;obtain⟨rfl,rfl,rfl⟩:=h;rw[c.fn x1 y1]
 .intro h;simp only[Addr.mk.injEq]at h;obtain⟨rfl,rfl,rfl⟩:=h;rw[c.inj x1 y1]
def cn:ac:=1000000
inductive XT(F:ac->Bool)(ρ:Ren):Fn->Fn->Prop
 |func (f:ac) (h:F f=hw):XT F ρ (ve f) (ve f)
 |yield {l l':Nat} (h:ρ l l'):XT F ρ (vp l) (vp l')
 |spec {l l':Nat} (h:ρ l l'):XT F ρ (ve (cn+l)) (vp l')
def XU:ad->Bool
 |vu _ | vw .. | vx _ | vy _ | vz hN | vG | vI | vJ (vt _) _ _=>hG
 |_=>hw
def CM(x y:Nat):Nat:=(x+y)*(x+y)+x
def zY{y u v:Nat}(h:CM J y=CM u v):J=u/\y=v:=by
 unfold CM at h;have a:∀{s t p q:Nat},p<=s->s<t->s*s+p<t*t+q:=by
  intro s t p q c b;have d:(s+1)*(s+1)<=t*t:=ns b b;grind
 rcases qb (J+y) (u+v) with g|g|g
 .have:=a (p:=J) (q:=u) (hX J y) g;omega
 .rw[g]at h;omega
 .have:=a (p:=u) (q:=J) (hX u v) g;omega
def N1(a:aa):Nat:=CM (CM a.block a.off) (match a.spot with|none=>0|some k=>k+1)
theorem N3(h:N1 L=N1 O):L=O:=by
 obtain⟨x,y,z⟩:=L;obtain⟨u,v,w⟩:=O;obtain⟨c,d⟩:=zY h;obtain⟨rfl,rfl⟩:=zY c;grind
mutual
inductive VR(F:ac->Bool)(ρ:Ren):ad->ad->Prop
 |bool (b:Bool):VR F ρ (vu b) (vu b)
 |int (k:IntKind) (n:Int):VR F ρ (vw k n) (vw k n)
 |string (s:ByteArray):VR F ρ (vx s) (vx s)
 |dS:VR F ρ (vz hN) (vz hN)
 |ptr {a a':aa} (h:AR ρ a a'):VR F ρ (vz (hO a)) (vz (hO a'))
 |di (l c:Nat):VR F ρ (vL hN l c) (vL hN l c)
 |slice {a a':aa} (l c:Nat) (h:AR ρ a a'):VR F ρ (vL (hO a) l c) (vL (hO a') l c)
 |dK (D:Nat) (a:aa):VR F ρ (vL (hO ⟨D,N1 a,hN⟩) 0 0) (vL (hO a) 0 0)
 |qQ:VR F ρ (v0 hN) (v0 hN)
 |map {r r':Nat} (h:ρ r r'):VR F ρ (v0 (hO r)) (v0 (hO r'))
 |func {fn dL:Fn} {a a' b b':Array ad} (h:XT F ρ fn dL) (h1:cU F ρ a.toList a'.toList) (h2:cU F ρ b.toList b'.toList):VR F ρ (vJ fn a b) (vJ dL a' b')
 |nilFunc:VR F ρ vI vI
 |iface (t:ag) {v v':ad} (h:VR F ρ v v'):VR F ρ (v2 t v) (v2 t v')
 |nilIface:VR F ρ vG vG
 |agg {a a':Array ad} (h:cU F ρ a.toList a'.toList):VR F ρ (vy a) (vy a')
 |tuple {a a':Array ad} (h:cU F ρ a.toList a'.toList):VR F ρ (v3 a) (v3 a')
 |hole (v':ad) (h:XU v'=hw):VR F ρ (v3 #[]) v'
 |wG (n:String) (f c:Array ad):VR F ρ (vJ (vt "") #[v2 0 vG] #[vJ (vt n) f c]) (vJ (vt n) f c)
inductive cU(F:ac->Bool)(ρ:Ren):List ad->List ad->Prop
 |nil:cU F ρ [] []
 |cons {v v':ad} {l l':List ad} (h:VR F ρ v v') (t:cU F ρ l l'):cU F ρ (v::l) (v'::l')
end
abbrev VA(F:ac->Bool)(ρ:Ren)(a a':Array ad):Prop:=cU F ρ a.toList a'.toList
def XT.mono{F:ac->Bool}{ρ σ:Ren}(h:ρ.le σ){f f':Fn}(x:XT F ρ f f'):XT F σ f f':=by
 cases x with
 |func f hf=>exact .func f hf
 |yield hl=>exact .yield (h hl)
 |spec hl=>exact .spec (h hl)
section
variable {F:ac->Bool}{ρ σ:Ren}
mutual
theorem VR.mono(h:ρ.le σ){v v':ad}(x:VR F ρ v v'):VR F σ v v':=by
 cases x with
 |bool b=>exact .bool b
 |int k n=>exact .int k n
 |string s=>exact .string s
 |dS=>exact .dS
 |ptr a=>exact .ptr (a.mono h)
 |di l c=>exact .di l c
 |slice l c a=>exact .slice l c (a.mono h)
 |dK D a=>exact .dK D a
 |qQ=>exact .qQ
 |map a=>exact .map (h a)
 |func a b c=>exact .func (a.mono h) (cU.mono h b) (cU.mono h c)
 |nilFunc=>exact .nilFunc
 |iface t a=>exact .iface t (VR.mono h a)
 |nilIface=>exact .nilIface
 |agg a=>exact .agg (cU.mono h a)
 |tuple a=>exact .tuple (cU.mono h a)
 |hole v' a=>exact .hole v' a
 |wG n f c=>exact .wG n f c
theorem cU.mono(h:ρ.le σ){l l':List ad}(x:cU F ρ l l'):cU F σ l l':=by
 cases x with
 |nil=>exact .nil
 |cons a b=>exact .cons (VR.mono h a) (cU.mono h b)
end
def cU.length{l l':List ad}(x:cU F ρ l l'):l.length=l'.length:=by
 induction l generalizing l' with
 |nil=>cases x;rfl
 |cons v l a=>cases x with|cons _ t=>simp[a t]
theorem cU.append{m m':List ad}(x:cU F ρ C R)(y:cU F ρ m m'):cU F ρ (C++m) (R++m'):=by
 induction C generalizing R with
 |nil=>cases x;exact y
 |cons v C a=>cases x with|cons h t=>exact .cons h (a t)
theorem cU.get?(x:cU F ρ C R)(i:Nat):(C[i]?=hN/\R[i]?=hN)\/∃v v',C[i]?=hO v/\R[i]?=hO v'/\VR F ρ v v':=by
 induction C generalizing R i with
 |nil=>cases x;exact vc ⟨rfl,rfl⟩
 |cons v C a=>
  cases x with
  |cons h t=>
   grind
theorem cU.set{l l':List ad}(x:cU F ρ l l')(i:Nat){v v':ad}(h:VR F ρ v v'):cU F ρ (l.set i v) (l'.set i v'):=by
 induction l generalizing l' i with
 |nil=>cases x;exact .nil
 |cons u l a=>
  cases x with
  |cons b t=>
   cases i with
   |zero=>exact .cons h t
   |succ i=>exact .cons b (a t i)
theorem cU.take{l l':List ad}(x:cU F ρ l l')(i:Nat):cU F ρ (l.take i) (l'.take i):=by
 induction l generalizing l' i with
 |nil=>cases x;simpa using cU.nil
 |cons u l a=>
  cases x with
  |cons b t=>
   cases i with
   |zero=>exact .nil
   |succ i=>exact .cons b (a t i)
theorem cU.drop{l l':List ad}(x:cU F ρ l l')(i:Nat):cU F ρ (l.drop i) (l'.drop i):=by
 induction l generalizing l' i with
 |nil=>cases x;simpa using cU.nil
 |cons u l a=>
  cases x with
  |cons b t=>
   cases i with
   |zero=>exact .cons b t
   |succ i=>simpa using a t i
theorem cU.replicate(h:VR F ρ q M)(n:Nat):cU F ρ (ii n q) (ii n M):=by
 induction n with
 |zero=>exact .nil
 |succ n a=>exact .cons h a
def cU.map{a:Type}(l:List a){f g:a->ad}(h:∀x∈l,VR F ρ (f x) (g x)):cU F ρ (l.map f) (l.map g):=by
 induction l with
 |nil=>exact .nil
 |cons x l b=>exact .cons (h x ar) (b λy hy=>h y (by simp[hy]))
def VR.undef:VR F ρ undef undef:=.tuple .nil
def FM(h:XU q=hw):q.cells=#[q]:=by
 cases q<;>first|rfl|cases h
def VR.cells{v v':ad}(h:VR F ρ v v'):VA F ρ v.cells v'.cells:=by
 cases h with
 |hole v' h=>rw[FM h];exact .cons (.hole v' h) .nil
 |wG n f c=>exact .cons (.wG n f c) .nil
 |dK D a=>exact .cons (.dK D a) .nil
 |_=>first|(rename_i h;exact h)|exact .cons (by constructor<;>assumption) .nil
def VA.size{a a':Array ad}(h:VA F ρ a a'):a.size=a'.size:=h.length
def VA.push{a a':Array ad}(h:VA F ρ a a'){v v':ad}(hv:VR F ρ v v'):VA F ρ (a.push v) (a'.push v'):=by
 show cU _ _ _ _;rw[i4,i4];exact cU.append h (.cons hv .nil)
theorem VA.append{a a' b b':Array ad}(h:VA F ρ a a')(k:VA F ρ b b'):VA F ρ (a++b) (a'++b'):=by
 grind[i5,cU.append]
theorem VA.get?{a a':Array ad}(h:VA F ρ a a')(i:Nat):(a[i]?=hN/\a'[i]?=hN)\/∃v v',a[i]?=hO v/\a'[i]?=hO v'/\VR F ρ v v':=by
 have:=cU.get? h i;simpa using this
def VA.getD{a a':Array ad}(h:VA F ρ a a')(i:Nat){d d':ad}(hd:VR F ρ d d'):VR F ρ (a.getD i d) (a'.getD i d'):=by
 rw[bM,bM];grind[VA.get?]
theorem VA.set{a a':Array ad}(h:VA F ρ a a')(i:Nat){v v':ad}(hv:VR F ρ v v'):VA F ρ (i6 a i v) (i6 a' i v'):=by
 grind[Array.toList_setIfInBounds,cU.set]
def VA.extract{a a':Array ad}(h:VA F ρ a a')(i j:Nat):VA F ρ (a.extract i j) (a'.extract i j):=by
 grind[Array.toList_extract,cU.take,cU.drop]
theorem VA.replicate{v v':ad}(h:VR F ρ v v')(n:Nat):VA F ρ (i7 n v) (i7 n v'):=by
 grind[Array.toList_replicate,cU.replicate]
def VA.mono(h:ρ.le σ){a a':Array ad}(x:VA F ρ a a'):VA F σ a a':=cU.mono h x
def VA.nil:VA F ρ #[] #[]:=cU.nil
def VA.one{v v':ad}(h:VR F ρ v v'):VA F ρ #[v] #[v']:=cU.cons h cU.nil
def VA.two{a:ad}(h:VR F ρ q M)(k:VR F ρ Y a):VA F ρ #[q,Y] #[M,a]:=cU.cons h (cU.cons k cU.nil)
def VA.three{a x b:ad}(h:VR F ρ q M)(k:VR F ρ Y a)(m:VR F ρ x b):VA F ρ #[q,Y,x] #[M,a,b]:=cU.cons h (cU.cons k (cU.cons m cU.nil))
end
end Go.bJ
namespace Go
def World.re(w:ai)(a:Nat->aH->Nat)(d:Nat):ai:={ w with tape:=a,drawn:=d }
def Result.world{a:Type}:aL a->ai
 |u1 _ w | uZ _ w=>w
def Result.re{b:Type}(r:aL b)(c:Nat->aH->Nat)(d:Nat):aL b:=match r with
 |u1 a w=>u1 a (w.re c d)
 |uZ h w=>uZ h (w.re c d)
end Go
namespace Go.bJ
variable {C Y:Type}{O:Nat}{M:Array ad}{R:ag}{J:aa}{L q:ad}
structure zo(F:ac->Bool)(ρ:Ren)(e e':a7):Prop where
 key:VR F ρ e.key e'.key
 val:VR F ρ e.val e'.val
 born:e.born=e'.born
def zo.mono{F:ac->Bool}{ρ σ:Ren}(h:ρ.le σ){e e':a7}(x:zo F ρ e e'):zo F σ e e':=⟨x.key.mono h,x.val.mono h,x.born⟩
inductive bD(F:ac->Bool)(ρ:Ren):List a7->List a7->Prop
 |nil:bD F ρ [] []
 |cons {e e':a7} {l l':List a7} (h:zo F ρ e e') (t:bD F ρ l l'):bD F ρ (e::l) (e'::l')
def bD.mono{F:ac->Bool}{ρ σ:Ren}(h:ρ.le σ){l l':List a7}(x:bD F ρ l l'):bD F σ l l':=by
 induction x with
 |nil=>exact .nil
 |cons a _ b=>exact .cons (a.mono h) b
def bD.length{F:ac->Bool}{ρ:Ren}{l l':List a7}(x:bD F ρ l l'):l.length=l'.length:=by
 induction x with
 |nil=>rfl
 |cons _ _ a=>simp[a]
structure CN(F:ac->Bool)(K:a8->Bool)(ρ:Ren)(l l':a9):Prop where
 state:l.state=l'.state
 pending:l.pending=l'.pending
 FN:∀c,l.pending=hO c->K c=hw
 fn:l.fn=l'.fn
 mI:F l.fn=hw
 tmps:VA F ρ l.tmps l'.tmps
 params:l.params=l'.params
 assign:l.assign=l'.assign
 CP:K l.assign=hw
 body:l.body=l'.body
 N6:K l.body=hw
 defers:ρ l.defers l'.defers
def CN.mono{F:ac->Bool}{K:a8->Bool}{ρ σ:Ren}(h:ρ.le σ){l l':a9}(x:CN F K ρ l l'):CN F K σ l l':=
 ⟨x.state,x.pending,x.FN,x.fn,x.mI,cU.mono h x.tmps,x.params,x.assign,x.CP,x.body,x.N6,h x.defers⟩
inductive OR(F:ac->Bool)(K:a8->Bool)(ρ:Ren):Obj->Obj->Prop
 |cells {c c':Array ad} (t:ag) (fz:Nat×Nat) (h:VA F ρ c c'):OR F K ρ (v4 c t fz) (v4 c' t fz)
 |map {es aT:Array a7} (clock:Nat) (h:bD F ρ es.toList aT.toList):OR F K ρ (v8 es clock) (v8 aT clock)
 |stringIter (s:ByteArray) (pos:Nat):OR F K ρ (v9 s pos) (v9 s pos)
 |mJ (a:Nat) (b:Array Nat) (c:Nat):OR F K ρ (wa hN a b c) (wa hN a b c)
 |mapIter {m m':Nat} (a:Nat) (b:Array Nat) (c:Nat) (h:ρ m m'):OR F K ρ (wa (hO m) a b c) (wa (hO m') a b c)
 |loop {l l':a9} (h:CN F K ρ l l'):OR F K ρ (wb l) (wb l')
 |deferred:OR F K ρ (wc (hO [])) (wc (hO []))
 |nW:OR F K ρ (wc hN) (wc hN)
 |number {a a':aa} (lost:Bool) (h:AR ρ a a'):OR F K ρ (.number a lost) (.number a' lost)
def OR.mono{F:ac->Bool}{K:a8->Bool}{ρ σ:Ren}(h:ρ.le σ){o o':Obj}(x:OR F K ρ o o'):OR F K σ o o':=by
 cases x with
 |cells t e a=>exact .cells t e (cU.mono h a)
 |map c a=>exact .map c (a.mono h)
 |stringIter s p=>exact .stringIter s p
 |mJ a b c=>exact .mJ a b c
 |mapIter a b c d=>exact .mapIter a b c (h d)
 |loop a=>exact .loop (a.mono h)
 |deferred=>exact .deferred
 |nW=>exact .nW
 |number l a=>exact .number l (a.mono h)
structure WR(G:Nat)(F:ac->Bool)(K:a8->Bool)(ρ:Ren)(w w':ai):Prop where
 pK:G<=w.heap.size
 gN:G<=w'.heap.size
 obj:∀{r r':Nat},ρ r r'->∃o o',w.heap[r]?=hO o/\w'.heap[r']?=hO o'/\OR F K ρ o o'
section
variable {G:Nat}{F:ac->Bool}{K:a8->Bool}{ρ σ:Ren}{w w':ai}
def bE{a:Array C}{x:C}(h:a[O]?=hO x):O<a.size:=by
 grind
def WR.lt(h:WR G F K ρ w w'){a:Nat}(x:ρ O a):O<w.heap.size/\a<w'.heap.size:=by
 obtain⟨o,b,c,d,_⟩:=h.obj x;grind
def WR.fresh(h:WR G F K ρ w w'):(∀b,¬ρ w.heap.size b)/\(∀a,¬ρ a w'.heap.size):=
 ⟨λ_ x=>absurd (h.lt x).1 (dt _),λ_ x=>absurd (h.lt x).2 (dt _)⟩
def WR.push(h:WR G F K ρ w w'){o o':Obj}(x:OR F K (ρ.ext w.heap.size w'.heap.size) o o') :
 WR G F K (ρ.ext w.heap.size w'.heap.size) { w with heap:=w.heap.push o } { w' with heap:=w'.heap.push o' }:=by
 refine⟨by have:=h.pK;simp;omega,by have:=h.gN;simp;omega,λ{r f}a=>?_⟩
 rcases a with a|⟨rfl,rfl⟩
 .obtain⟨p,b,c,d,e⟩:=h.obj a;have g:=bE c;have i:=bE d;exact⟨p,b,aS,aS,e.mono (Ren.kW _ _ _)⟩
 grind
def WR.put(h:WR G F K ρ w w')(c:ρ.bw G){r a:Nat}(b:ρ r a){o o':Obj}(x:OR F K ρ o o') :
 WR G F K ρ { w with heap:=i6 w.heap r o } { w' with heap:=i6 w'.heap a o' }:=by
 refine⟨by simpa using h.pK,by simpa using h.gN,λ{s d}hs=>?_⟩;obtain⟨f,g⟩:=h.lt b;by_cases e:r=s
 .subst e;obtain rfl:=c.fn b hs;grind
 .have i:a≠d:=λy=>e (c.inj b (y▸hs));obtain⟨p,j,k,l,m⟩:=h.obj hs;grind
def setCell_eq(w:ai)(a:aa)(v:ad){b:Nat×Nat}(h:w.heap[a.block]?=hO (v4 M R b))(hs:a.spot=hN) :
 j6 w a v={ w with heap:=i6 w.heap a.block (v4 (i6 M a.off v) R b) }:=by
 unfold j6;congr 1;grind
def iz(w:ai)(a:aa)(n:Nat)(d:n≠0){hi:Nat}(h:w.heap[a.block]?=hO (v4 M R (O,hi))) :
 w.freeze a n={ w with heap:=i6 w.heap a.block (v4 M R (if O==hi then(a.off,a.off+n) else(min O a.off,max hi (a.off+n)))) }:=by
 unfold ka;rw[if_neg d];congr 1;grind
end
def lE(m:Mark):Prop:=m=wg
section
variable (T:bd)(fB fA:Array bi)(F:ac->Bool)(K:a8->Bool)
def dw:bj->Bool
 |.initOrder _=>hG
 |_=>hw
def ac8(ρ:Ren):Halt->Sem C->Prop
 |wk v,b=>∃v',b=ld (wk v')/\VR F ρ v v'
 |wl _,_=>True
 |wn u,_=>dw u=hw
 |_,_=>False
def Lr:Halt->Prop
 |wl _=>True
 |wn u=>dw u=hw
 |_=>False
def bW{a:Type}:Sem a->Prop
 |ld h=>Lr h
 |kS k=>bW (k ⟨T,fB⟩)
 |li _ k=>∀x,bW (k x)
 |lm _ k=>∀x,bW (k x)
 |lp m k=>lE m/\bW k
 |_=>False
def vW(o:Obj):Prop:=∀c t a,o≠v4 c t a
def av{g i:Type}(RA:Ren->g->i->Prop):Ren->Sem g->Sem i->Prop
 |ρ,ld h,c=>ac8 F ρ h c
 |ρ,lA a,c=>∃d,c=lA d/\RA ρ a d
 |ρ,.load m a k,c=>∃m' d k',c=.load m' d k'/\m=wL/\m'=wL/\AR ρ a d/\∀v v',VR F ρ v v'->av RA ρ (k v) (k' v')
 |ρ,.store m a v k,c=>∃m' d v' k',c=.store m' d v' k'/\m=wL/\m'=wL/\AR ρ a d/\VR F ρ v v'/\av RA ρ k k'
 |ρ,.new o k,c=>∃f k',c=.new f k'/\OR F K ρ o f/\∀r e,(∀b,¬ρ r b)->(∀a,¬ρ a e)->T.globals.size<=r->T.globals.size<=e->av RA (ρ.ext r e) (k r) (k' e)
 |ρ,li r k,c=>(∃e k',c=li e k'/\ρ r e/\∀x,av RA ρ (k x) (k' x))\/∀x,bW T fB (k x)
 |ρ,.freeze a n k,c=>∃d k',c=.freeze d n k'/\AR ρ a d/\av RA ρ k k'
 |ρ,lm a k,c=>(∃d k',c=lm d k'/\AR ρ a d/\∀b,av RA ρ (k b) (k' b))\/∀x,bW T fB (k x)
 |ρ,.getObj r k,c=>∃e k',c=.getObj e k'/\ρ r e/\∀o f,OR F K ρ o f->av RA ρ (k o) (k' f)
 |ρ,.setObj r o k,c=>∃e f k',c=.setObj e f k'/\ρ r e/\(OR F K ρ o f/\vW o)/\av RA ρ k k'
 |ρ,.choose q k,c=>∃k',c=.choose q k'/\∀n,av RA ρ (k n) (k' n)
 |_,.sys _ _,_=>False
 |ρ,kS k,c=>(∃k',c=kS k'/\av RA ρ (k ⟨T,fB⟩) (k' ⟨T,fA⟩))\/bW T fB (k ⟨T,fB⟩)
 |ρ,lp m k,c=>(∃k',c=lp m k'/\lE m/\av RA ρ k k')\/(lE m/\bW T fB k)
end
section
variable {T:bd}{fB fA:Array bi}{F:ac->Bool}{K:a8->Bool}
def bW.bind{b c:Type}{s:Sem b}{f:b->Sem c}(h:bW T fB s):bW T fB (s.bind f):=by
 induction s with
 |halt _=>exact h
 |program k a=>exact a _ h
 |shape r k a=>exact λx=>a x (h x)
 |frozen r k a=>exact λx=>a x (h x)
 |mark m k a=>exact⟨h.1,a h.2⟩
 |_=>exact h.elim
def bW.run{c:Type}{s:Sem c}(h:bW T fB s)(w:ai):∃x,Lr x/\∀b d,s.run ⟨T,fB⟩ (w.re b d)=uZ x (w.re b d):=by
 induction s with
 |halt x=>exact⟨x,h,λ_ _=>rfl⟩
 |program k a=>exact a _ h
 |shape r k a=>exact a (w.shape? r) (h _)
 |frozen r k a=>exact a (kc w r) (h _)
 |mark m k a=>exact a h.2
 |_=>exact h.elim
def Lr.halt{RA:Ren->C->Y->Prop}{ρ:Ren}{h:Halt}(b:Lr h)(s':Sem Y):av T fB fA F K RA ρ (ld h) s':=by
 cases h<;>first|exact b.elim|trivial|exact b
def bW.rel{RA:Ren->C->Y->Prop}{ρ:Ren}{s:Sem C}(h:bW T fB s)(s':Sem Y):av T fB fA F K RA ρ s s':=by
 cases s with
 |halt x=>exact Lr.halt h s'
 |program k=>exact vd h
 |shape r k=>exact vd h
 |frozen r k=>exact vd h
 |mark m k=>exact vd h
 |_=>exact h.elim
def av.bind{t u A B:Type}{RA:Ren->t->u->Prop}{C:Ren->A->B->Prop}{s:Sem t} :
 ∀{ρ:Ren}{s':Sem u}{f:t->Sem A}{f':u->Sem B},ρ.bw T.globals.size->av T fB fA F K RA ρ s s'->
  (∀σ:Ren,ρ.le σ->σ.bw T.globals.size->∀a a',RA σ a a'->av T fB fA F K C σ (f a) (f' a'))->av T fB fA F K C ρ (s.bind f) (s'.bind f'):=by
 induction s with
 |pure a=>rintro ρ s' f f' e⟨a',rfl,h⟩hf;exact hf ρ (Ren.le_refl ρ) e a a' h
 |halt h=>
  intro ρ s' f f' e hs hf;cases h<;>first|exact hs|trivial|(obtain⟨v',rfl,hv⟩:=hs;exact⟨v',rfl,hv⟩)
 |load m a k i=>rintro ρ s' f f' e⟨m',a',k',rfl,g,j,l,y⟩hf;exact⟨_,_,_,rfl,g,j,l,λv v' hv=>i v e (y v v' hv) hf⟩
 |store m a v k i=>rintro ρ s' f f' e⟨m',a',v',k',rfl,g,j,l,y,D⟩hf;exact⟨_,_,_,_,rfl,g,j,l,y,i e D hf⟩
 |new o k i=>
  rintro ρ s' f f' e⟨z,k',rfl,g,j⟩hf;exact⟨_,_,rfl,g,λr p a b c d=>i r (e.ext a b c d) (j r p a b c d) λσ E=>hf σ (λ_ _ x=>E (Ren.kW _ _ _ x))⟩
 |shape r k i=>
  rintro ρ s' f f' e(⟨p,k',rfl,g,j⟩|h)hf
  .exact vc ⟨_,_,rfl,g,λx=>i x e (j x) hf⟩
  .exact vd λx=>(h x).bind
 |freeze a n k i=>rintro ρ s' f f' e⟨a',k',rfl,g,j⟩hf;exact⟨_,_,rfl,g,i e j hf⟩
 |frozen a k i=>
  rintro ρ s' f f' e(⟨a',k',rfl,g,j⟩|h)hf
  .exact vc ⟨_,_,rfl,g,λb=>i b e (j b) hf⟩
  .exact vd λx=>(h x).bind
 |getObj r k i=>rintro ρ s' f f' e⟨p,k',rfl,g,j⟩hf;exact⟨_,_,rfl,g,λo z H=>i o e (j o z H) hf⟩
 |setObj r o k i=>rintro ρ s' f f' e⟨p,z,k',rfl,g,j,l⟩hf;exact⟨_,_,_,rfl,g,j,i e l hf⟩
 |choose q k i=>rintro ρ s' f f' e⟨k',rfl,g⟩hf;exact⟨_,rfl,λn=>i n e (g n) hf⟩
 |sys c k i=>intro ρ s' f f' e h;exact h.elim
 |program k i=>
  rintro ρ s' f f' e(⟨k',rfl,g⟩|g)hf
  .exact vc ⟨_,rfl,i _ e g hf⟩
  .exact vd g.bind
 |mark m k i=>
  rintro ρ s' f f' e(⟨k',rfl,g,j⟩|h)hf
  .exact vc ⟨_,rfl,g,i e j hf⟩
  .exact vd ⟨h.1,h.2.bind⟩
def av.mono{t u:Type}{RA y:Ren->t->u->Prop}{s:Sem t}:∀{ρ:Ren}{s':Sem u},av T fB fA F K RA ρ s s'->(∀σ:Ren,ρ.le σ->∀a a',RA σ a a'->y σ a a')->av T fB fA F K y ρ s s':=by
 induction s with
 |pure a=>rintro ρ s'⟨a',rfl,h⟩hf;exact⟨a',rfl,hf ρ (Ren.le_refl ρ) a a' h⟩
 |halt h=>intro ρ s' hs _;exact hs
 |load m a k f=>rintro ρ s'⟨m',a',k',rfl,e,g,i,l⟩hf;exact⟨_,_,_,rfl,e,g,i,λv v' hv=>f v (l v v' hv) hf⟩
 |store m a v k f=>rintro ρ s'⟨m',a',v',k',rfl,e,g,i,l,z⟩hf;exact⟨_,_,_,_,rfl,e,g,i,l,f z hf⟩
 |new o k f=>
  rintro ρ s'⟨p,k',rfl,e,g⟩hf;exact⟨_,_,rfl,e,λr j a b c d=>f r (g r j a b c d) λσ A=>hf σ (λ_ _ x=>A (Ren.kW _ _ _ x))⟩
 |shape r k f=>
  rintro ρ s'(⟨j,k',rfl,e,g⟩|h)hf
  .exact vc ⟨_,_,rfl,e,λx=>f x (g x) hf⟩
  .exact vd h
 |freeze a n k f=>rintro ρ s'⟨a',k',rfl,e,g⟩hf;exact⟨_,_,rfl,e,f g hf⟩
 |frozen a k f=>
  rintro ρ s'(⟨a',k',rfl,e,g⟩|h)hf
  .exact vc ⟨_,_,rfl,e,λb=>f b (g b) hf⟩
  .exact vd h
 |getObj r k f=>rintro ρ s'⟨j,k',rfl,e,g⟩hf;exact⟨_,_,rfl,e,λo p B=>f o (g o p B) hf⟩
 |setObj r o k f=>rintro ρ s'⟨j,p,k',rfl,e,g,i⟩hf;exact⟨_,_,_,rfl,e,g,f i hf⟩
 |choose q k f=>rintro ρ s'⟨k',rfl,e⟩hf;exact⟨_,rfl,λn=>f n (e n) hf⟩
 |sys c k f=>intro ρ s' h;exact h.elim
 |program k f=>
  rintro ρ s'(⟨k',rfl,e⟩|e)hf
  .exact vc ⟨_,rfl,f _ e hf⟩
  .exact vd e
 |mark m k f=>
  rintro ρ s'(⟨k',rfl,e,g⟩|h)hf
  .exact vc ⟨_,rfl,e,f g hf⟩
  .exact vd h
end
def Ls(ρ:Ren)(e:bm):Prop:=
 match e.loc with
 |wQ a=>e.sync=hG/\∃r,ρ r a.block
 |wS b=>e.sync=hG/\∃r,ρ r b
 |w8 m=>lE m
 |.output=>False
 |.goroutines=>False
def Ls.mono{ρ a:Ren}(h:ρ.le a){e:bm}(x:Ls ρ e):Ls a e:=by
 obtain⟨l,w,s⟩:=e;cases l<;>simp only[Ls]at x ⊢
 .exact⟨x.1,x.2.i λ_ y=>h y⟩
 .exact⟨x.1,x.2.i λ_ y=>h y⟩
 .exact x
def nX(w:ai)(a i:Nat):Prop:=∃v,kd w ⟨a,i,hN⟩=hO v/\(v=v3 #[]\/∃c,v=vy c)
structure cE(G:Nat)(F:ac->Bool)(K:a8->Bool)(ρ:Ren)(w w':ai)(aJ:Ren)(w1 aP:ai)(new:Array bm):Prop where
 le:ρ.le aJ
 inj:aJ.bw G
 wr:WR G F K aJ w1 aP
 tape:w1.tape=aP.tape
 drawn:w1.drawn=aP.drawn
 wH:aP.tape=w'.tape
 XV:aP.os=w'.os
 mK:aP.output=w'.output
 size:w.heap.size<=w1.heap.size
 fV:w'.heap.size<=aP.heap.size
 frame:∀b,b<w'.heap.size->(∀a,¬ρ a b)->aP.heap[b]?=w'.heap[b]?
 N7:∀b,w'.heap.size<=b->b<aP.heap.size->∃a,aJ a b
 only:∀a b,aJ a b->ρ a b\/(w.heap.size<=a/\w'.heap.size<=b)
 ev:∀e∈new,Ls aJ e
 hol:∀a b,ρ a b->∀i,nX w1 a i->nX w a i/\kd aP ⟨b,i,hN⟩=kd w' ⟨b,i,hN⟩
section
variable {G:Nat}{F:ac->Bool}{K:a8->Bool}
def cE.refl{ρ:Ren}{w w':ai}(a:ρ.bw G)(b:WR G F K ρ w w')(c:w.tape=w'.tape)(hd:w.drawn=w'.drawn):cE G F K ρ w w' ρ w w' #[]:=
 ⟨Ren.le_refl _,a,b,c,hd,rfl,rfl,rfl,dk _,dk _,λ_ _ _=>rfl,λ_ d e=>absurd e (Nat.not_lt.2 d),λ_ _ h=>vc h,ar,λ_ _ _ _ h=>⟨h,rfl⟩⟩
def cE.trans{ρ d f:Ren}{w w' w1 c w2 g:ai}{e1 j:Array bm}(h:cE G F K ρ w w' d w1 c e1)(k:cE G F K d w1 c f w2 g j):cE G F K ρ w w' f w2 g (e1++j):=by
 refine⟨Ren.le_trans h.le k.le,k.inj,k.wr,k.tape,k.drawn,k.wH.t h.wH,k.XV.t h.XV,k.mK.t h.mK,da h.size k.size,da h.fV k.fV,λb hb l=>?_,λb m n=>?_,λa b x=>?_,λe o=>?_,λa b x i p=>?_⟩
 .rw[k.frame b (bT hb h.fV) (λa x=>?_),h.frame b hb l]
  rcases h.only a b x with y|⟨_,y⟩
  .exact l a y
  .omega
 .rcases hY b c.heap.size with hl|hg
  .exact(h.N7 b m hl).i λ_ x=>k.le x
  .exact k.N7 b hg n
 .rcases k.only a b x with y|⟨y1,y2⟩
  .exact h.only a b y
  .exact vd ⟨da h.size y1,da h.fV y2⟩
 .rcases Array.mem_append.1 o with x|x
  .exact(h.ev e x).mono k.le
  .exact k.ev e x
 .obtain⟨y,e⟩:=k.hol a b (h.le x) i p;obtain⟨z,q⟩:=h.hol a b x i y;exact⟨z,e.t q⟩
end
section
variable (G:Nat)(F:ac->Bool)(K:a8->Bool)
def mL(RA:Ren->C->Y->Prop)(ρ:Ren)(w w':ai)(f:Array bm)(g:aL Y×Array bm):aL C->Prop
 |u1 a w1=>∃b h c new,g=(u1 h c,f++new)/\cE G F K ρ w w' b w1 c new/\RA b a h
 |uZ (wk v) w1=>∃b v' c new,g=(uZ (wk v') c,f++new)/\cE G F K ρ w w' b w1 c new/\VR F b v v'
 |uZ (wl _) _=>True
 |uZ (wn u) _=>dw u=hw
 |uZ _ _=>False
def qp(RA:Ren->C->Y->Prop)(ρ:Ren)(w w':ai)(h:Array bm)(i:aL Y×Array bm):aL C->Prop
 |u1 a w1=>∃b j c new e d,i=(u1 j c,h++new)/\cE G F K ρ w w' b (w1.re e d) c new/\RA b a j
 |uZ (wk v) w1=>∃b v' c new e d,i=(uZ (wk v') c,h++new)/\cE G F K ρ w w' b (w1.re e d) c new/\VR F b v v'
 |uZ (wl _) _=>True
 |uZ (wn u) _=>dw u=hw
 |uZ _ _=>False
end
section
variable {T:bd}{fB fA:Array bi}{G:Nat}{F:ac->Bool}{K:a8->Bool}
def mL.step{f g:Type}{RA:Ren->f->g->Prop}{ρ i:Ren}{w w' w1 j:ai}{l new:Array bm}{m:aL g×Array bm}{r:aL f}
 (hs:cE G F K ρ w w' i w1 j new) (h:mL G F K RA i w1 j (l++new) m r):mL G F K RA ρ w w' l m r:=by
 match r,h with
 |u1 a w2,⟨b,n,c,d,e,k,o⟩=>exact⟨b,n,c,new++d,by rw[e,i9],hs.trans k,o⟩
 |uZ (wk v) w2,⟨b,v',c,d,e,k,hv⟩=>exact⟨b,v',c,new++d,by rw[e,i9],hs.trans k,hv⟩
 |uZ wo _,h=>exact h
 |uZ wq _,h=>exact h
 |uZ (wx _) _,h=>exact h
 |uZ (wy _) _,h=>exact h
 |uZ (wC _) _,h=>exact h
 |uZ wD _,h=>exact h
 |uZ (wn _) _,h=>exact h
 |uZ (wl _) _,_=>trivial
def mL.zu{f g:Type}{RA:Ren->f->g->Prop}{ρ:Ren}{w w':ai}{i:Array bm}{j:aL g×Array bm}{r:aL f}(h:mL G F K RA ρ w w' i j r):qp G F K RA ρ w w' i j r:=by
 match r,h with
 |u1 a w2,⟨b,l,c,d,e,k,m⟩=>exact⟨b,l,c,d,w2.tape,w2.drawn,e,k,m⟩
 |uZ (wk v) w2,⟨b,v',c,d,e,k,hv⟩=>exact⟨b,v',c,d,w2.tape,w2.drawn,e,k,hv⟩
 |uZ wo _,h=>exact h
 |uZ wq _,h=>exact h
 |uZ (wx _) _,h=>exact h
 |uZ (wy _) _,h=>exact h
 |uZ (wC _) _,h=>exact h
 |uZ wD _,h=>exact h
 |uZ (wn _) _,h=>exact h
 |uZ (wl _) _,_=>trivial
def qp.step{i j:Type}{RA:Ren->i->j->Prop}{ρ l:Ren}{w w' w1 m:ai}{n new:Array bm}{o:aL j×Array bm}{r:aL i}
 (hs:cE G F K ρ w w' l w1 m new) (h:qp G F K RA l w1 m (n++new) o r):qp G F K RA ρ w w' n o r:=by
 match r,h with
 |u1 a w2,⟨b,p,c,f,g,d,e,k,q⟩=>exact⟨b,p,c,new++f,g,d,by rw[e,i9],hs.trans k,q⟩
 |uZ (wk v) w2,⟨b,v',c,f,g,d,e,k,hv⟩=>exact⟨b,v',c,new++f,g,d,by rw[e,i9],hs.trans k,hv⟩
 |uZ wo _,h=>exact h
 |uZ wq _,h=>exact h
 |uZ (wx _) _,h=>exact h
 |uZ (wy _) _,h=>exact h
 |uZ (wC _) _,h=>exact h
 |uZ wD _,h=>exact h
 |uZ (wn _) _,h=>exact h
 |uZ (wl _) _,_=>trivial
theorem run_store{P:bq}(a:aa)(v:ad)(k:Sem C)(w:ai)(d:∀c,v≠vy c)(e:∀c,v≠v3 c) :
 (kq wL a v k).run P w=match w.cell? a with
  |some _=>if w.frozen? a then uZ (wn (ta "a write to bytes that a string shares")) w else k.run P (j6 w a v)
  |none=>match w.farStore P a v hG with
   |.ok (w,_)=>k.run P w
   |w9 h=>uZ h w:=by
 cases v<;>first|rfl|exact absurd rfl (d _)|exact absurd rfl (e _)
def qR{P:bq}(a:aa)(v:ad)(k:Sem C)(w:ai)(es:Array bm)(d:∀c,v≠vy c)(e:∀c,v≠v3 c) :
 (kq wL a v k).runT P w es=match w.cell? a with
  |some _=>if w.frozen? a then(uZ (wn (ta "a write to bytes that a string shares")) w,es) else k.runT P (j6 w a v) (es.push ⟨wQ a,hw,hG⟩)
  |none=>match w.farStore P a v hG with
   |.ok (w,f)=>k.runT P w (es++f.toArray.map (⟨.cell ·,hw,hG⟩))
   |w9 h=>(uZ h w,es):=by
 cases v<;>first|rfl|exact absurd rfl (d _)|exact absurd rfl (e _)
def mM{ρ:Ren}{w:ai}{o o':Obj}(h:w.heap[J.block]?=hO o)(b:OR F K ρ o o')(s:String):w.noCell J s=wl s:=by
 unfold ke;rw[h];cases b<;>rfl
def lF{ρ:Ren}{w w':ai}(i:WR G F K ρ w w'){a a':aa}(e:AR ρ a a') :
 (kd w a=hN/\∃s:String,∀m,w.farLoad ⟨T,fB⟩ a m=w9 (wl s))\/∃v v' c c' t d,kd w a=hO v/\kd w' a'=hO v'/\VR F ρ v v'/\a.spot=hN/\w.heap[a.block]?=hO (v4 c t d)/\w'.heap[a'.block]?=hO (v4 c' t d)/\VA F ρ c c':=by
 obtain⟨o,l,b,g,j⟩:=i.obj e.1
 cases j with
 |@cells c c' t d hc=>
  by_cases hs:a.spot=hN
  .rcases VA.get? hc a.off with⟨f,h⟩|⟨v,v',f,h,hv⟩
   .left;refine⟨by simp[kd,b,hs,f],"load: no such cell",λm=>?_⟩;simp only[kf,b,ke]
   .right;refine⟨v,v',c,c',t,d,by simp[kd,b,hs,f],?_,hv,hs,b,g,hc⟩;have k:a'.spot=hN:=by rw[<-e.2.2];exact hs
    simp[kd,g,k,<-e.2.1,h]
  .left;refine⟨by simp[kd,b,Option.isSome_iff_ne_none.2 hs],"load: no such cell",λm=>?_⟩;simp only[kf,b,ke]
 |_=>
  left;refine⟨by simp[kd,b],"load: no such cell",λm=>?_⟩;simp only[kf,b,ke]
def FP{ρ:Ren}{w w':ai}(b:ρ.bw G)(c:WR G F K ρ w w')(d:w.tape=w'.tape)(hd:w.drawn=w'.drawn){e:bm}(f:Ls ρ e):cE G F K ρ w w' ρ w w' #[e]:=
 { cE.refl b c d hd with ev:=λx a=>by simp at a;rw[a];exact f }
def wI{ρ:Ren}{w w':ai}(c:WR G F K ρ w w'){a':aa}(b:AR ρ J a'):kc w J=kc w' a':=by
 obtain⟨o,g,d,e,f⟩:=c.obj b.1;cases f<;>simp[kc,d,e,b.2.1]
def Lu{ρ:Ren}{w w':ai}(d:WR G F K ρ w w'){a:Nat}(e:ρ O a):w.shape? O=w'.shape? a:=by
 obtain⟨o,g,b,c,f⟩:=d.obj e
 cases f with
 |cells t h hc=>simp[kg,b,c,VA.size hc]
 |_=>simp[kg,b,c]
def wJ(w:ai)(r a i:Nat)(o:Obj):kd ({ w with heap:=i6 w.heap r o }:ai) ⟨a,i,hN⟩=if r=a/\r<w.heap.size then(match o with | v4 c _ _=>c[i]? | _=>hN) else w.cell? ⟨a,i,hN⟩:=by
 unfold kd;grind
def tQ(w:ai)(o:Obj)(a i:Nat)(h:a<w.heap.size):kd ({ w with heap:=w.heap.push o }:ai) ⟨a,i,hN⟩=kd w ⟨a,i,hN⟩:=by
 unfold kd;grind
def Hol(w w':ai)(r d:Nat)(o o':Obj):Prop:=∀c t e,o=v4 c t e->∃b f a,o'=v4 b f a/\∀i,(∃v,c[i]?=hO v/\(v=v3 #[]\/∃c,v=vy c))->nX w r i/\b[i]?=kd w' ⟨d,i,hN⟩
def vW.hol{w w':ai}{a:Nat}{o o':Obj}(h:vW o):Hol w w' O a o o':=λc t b e=>absurd e (h c t b)
def lG{ρ:Ren}{w w':ai}(f:ρ.bw G)(k:WR G F K ρ w w')(l:w.tape=w'.tape)(hd:w.drawn=w'.drawn){r g:Nat}(j:ρ r g){o o':Obj}(m:OR F K ρ o o'){new:Array bm}(n:∀e∈new,Ls ρ e)(p:Hol w w' r g o o') :
 cE G F K ρ w w' ρ { w with heap:=i6 w.heap r o } { w' with heap:=i6 w'.heap g o' } new:=
 ⟨Ren.le_refl _,f,k.put f j m,l,hd,rfl,rfl,rfl,ar,ar,λb _ D=>by
   grind,
   λb E q=>by simp at q;omega,λ_ _ h=>vc h,n,λa b x i d=>by
    unfold nX at d;rw[wJ]at d;by_cases e:r=a
    .subst e;obtain rfl:=f.fn j x;obtain⟨s,u⟩:=k.lt j;rw[if_pos ⟨rfl,s⟩]at d
     cases o with
     |cells c t v=>
      obtain⟨H,I,z,rfl,hc⟩:=p c t v rfl;obtain⟨A,B⟩:=hc i d;refine⟨A,?_⟩;rw[wJ,if_pos ⟨rfl,u⟩];exact B
     |_=>grind
    .rw[if_neg λh=>e h.1]at d;have C:g≠b:=λy=>e (f.inj j (y▸x));refine⟨d,?_⟩
     rw[wJ,if_neg λh=>C h.1]⟩
def CQ{ρ:Ren}{w w':ai}(e:ρ.bw G)(c:WR G F K ρ w w')(f:w.tape=w'.tape)(hd:w.drawn=w'.drawn){o o':Obj}(g:OR F K ρ o o') :
 cE G F K ρ w w' (ρ.ext w.heap.size w'.heap.size) { w with heap:=w.heap.push o } { w' with heap:=w'.heap.push o' } #[]:=
 ⟨Ren.kW _ _ _,e.ext c.fresh.1 c.fresh.2 c.pK c.gN,c.push (g.mono (Ren.kW _ _ _)),f,hd,rfl,rfl,rfl,ar,ar,λb hb _=>by
   grind,
   λb m j=>⟨w.heap.size,vd ⟨rfl,by simp at j;omega⟩⟩,λa b h=>by
    rcases h with h|⟨rfl,rfl⟩
    .exact vc h
    grind,ar,λa b x i d=>by
    obtain⟨k,l⟩:=c.lt x;unfold nX at d;rw[tQ _ _ _ _ k]at d
    exact⟨d,tQ _ _ _ _ l⟩⟩
def CR{w w':ai}{a':aa}{c':Array ad}{b:ag}{d fz':Nat×Nat}(f:w.heap[J.block]?=hO (v4 M R d))(g:w'.heap[a'.block]?=hO (v4 c' b fz'))(v v':ad)(j:∀M,v≠vy M)(k:∀M,v≠v3 M) :
 Hol w w' J.block a'.block (v4 (i6 M J.off v) R d) (v4 (i6 c' J.off v') b fz'):=by
 rintro _ _ _ e;cases e;refine⟨_,_,_,rfl,λi hi=>?_⟩;by_cases e:J.off=i
 .grind
 .rw[jf e]at hi ⊢;refine⟨?_,?_⟩
  .obtain⟨u,hi,h⟩:=hi;refine⟨u,?_,h⟩;show(match w.heap[J.block]? with|some (v4 M _ _)=>_|_=>hN)=_;rw[f];exact hi
  .show _=(match w'.heap[a'.block]? with|some (v4 M _ _)=>_|_=>hN)
   rw[g];rfl
def IY{w w':ai}{a':aa}{c':Array ad}{b:ag}{d fz':Nat×Nat}(f:w.heap[J.block]?=hO (v4 M R d))(g:w'.heap[a'.block]?=hO (v4 c' b fz'))(u h:Nat×Nat) :
 Hol w w' J.block a'.block (v4 M R u) (v4 c' b h):=by
 rintro _ _ _ e;cases e;refine⟨_,_,_,rfl,λi hi=>⟨?_,?_⟩⟩
 .obtain⟨u,hi,j⟩:=hi;refine⟨u,?_,j⟩;show(match w.heap[J.block]? with|some (v4 M _ _)=>_|_=>hN)=_;rw[f];exact hi
 .show _=(match w'.heap[a'.block]? with|some (v4 M _ _)=>_|_=>hN)
  rw[g];rfl
def bW.Tu{a b:Type}{RA:Ren->a->b->Prop}{ρ:Ren}{w w':ai}{f:Array bm}{g:aL b×Array bm}{s:Sem a}(h:bW T fB s):mL G F K RA ρ w w' f g (s.run ⟨T,fB⟩ w):=by
 obtain⟨x,c,e⟩:=h.run w;have d:=e w.tape w.drawn;rw[show w.re w.tape w.drawn=w from rfl]at d;rw[d]
 cases x with
 |stuck _=>trivial
 |unsupported u=>exact c
 |_=>exact c.elim
def av.run{R S:Type}{RA:Ren->R->S->Prop}{s:Sem R}:∀{ρ:Ren}{s':Sem S}{w w':ai}(d:Array bm),av T fB fA F K RA ρ s s'->ρ.bw T.globals.size->WR T.globals.size F K ρ w w'->w.tape=w'.tape->w.drawn=w'.drawn->
 mL T.globals.size F K RA ρ w w' d (s'.runT ⟨T,fA⟩ w' d) (s.run ⟨T,fB⟩ w):=by
 induction s with
 |pure a=>
  rintro ρ s' w w' d⟨z,rfl,h⟩g b f hd;exact⟨ρ,z,w',#[],by simp[ks],cE.refl g b f hd,h⟩
 |halt h=>
  intro ρ s' w w' d hs g b f hd;cases h<;>first|exact hs|trivial|(obtain⟨v',rfl,hv⟩:=hs;exact⟨ρ,v',w',#[],by simp[ks],cE.refl g b f hd,hv⟩)
 |load m a k j=>
  rintro ρ s' w w' d⟨m',z,k',rfl,rfl,rfl,x,l⟩g b f hd
  rcases lF (T:=T) (fB:=fB) b x with⟨E,s,J⟩|⟨v,v',c,U,t,y,E,J,hv,_⟩
  .simp only[kt,E,J];trivial
  .simp only[kt,E,ks,J];show mL T.globals.size F K RA ρ w w' d ((k' v').runT ⟨T,fA⟩ w' (d.push ⟨wQ z,hG,hG⟩)) _;exact mL.step (FP g b f hd (e:=⟨wQ z,hG,hG⟩) ⟨rfl,_,x.1⟩) (by simpa using j v (d.push _) (l v v' hv) g b f hd)
 |store m a v k j=>
  rintro ρ s' w w' d⟨m',z,v',k',rfl,rfl,rfl,x,hv,l⟩g b f hd;have key:(∀c,v≠vy c)->(∀c,v≠v3 c)->(∀c,v'≠vy c)->(∀c,v'≠v3 c)->
   mL T.globals.size F K RA ρ w w' d ((kq wL z v' k').runT ⟨T,fA⟩ w' d) ((kq wL a v k).run ⟨T,fB⟩ w):=by
   intro O L Q n4;rw[run_store _ _ _ _ O L,qR _ _ _ _ _ Q n4]
   rcases lF (T:=T) (fB:=fB) b x with⟨E,_⟩|⟨u,u',c,U,t,y,E,J,hu,hs,V,W,hc⟩
   .rw[E];obtain⟨o,A,B,H,C⟩:=b.obj x.1;have hf:w.farStore ⟨T,fB⟩ a v hG=w9 (w.noCell a "store: no such cell"):=by
     cases C<;>simp[kp,B]
    simp only[hf,mM B C];trivial
   .have fR:z.spot=hN:=by rw[<-x.2.2];exact hs
    rw[E,J];simp only[<-wI b x];split
    .show dw (ta _)=hw;rfl
    .rw[setCell_eq w a _ V hs,setCell_eq w' z _ W fR,<-x.2.1];have X:=lG g b f hd x.1 (.cells t y (VA.set hc a.off hv)) (new:=#[⟨wQ z,hw,hG⟩]) (λe M=>by simp at M;subst M;exact⟨rfl,_,x.1⟩) (CR V W v v' O L);exact mL.step X (by simpa using j (d.push ⟨wQ z,hw,hG⟩) l g X.wr f hd)
  cases hv<;>first|trivial|exact key ar ar ar ar
 |new o k j=>
  rintro ρ s' w w' d⟨A,k',rfl,C,l⟩g b f hd;simp only[kt,ks];have hs:=CQ g b f hd C;exact mL.step hs (by simpa using j w.heap.size d (l _ _ b.fresh.1 b.fresh.2 b.pK b.gN) hs.inj hs.wr f hd)
 |shape r k j=>
  rintro ρ s' w w' d(⟨D,k',rfl,I,l⟩|h)g b f hd
  .simp only[kt,ks,<-Lu b I];exact j _ d (l _) g b f hd
  .exact bW.Tu (s:=li r k) h
 |freeze a n k j=>
  rintro ρ s' w w' d⟨z,k',rfl,x,l⟩g b f hd;simp only[kt,ks];by_cases P:n=0
  .subst P;have e1:w.freeze a 0=w:=by simp[ka]
   have N:w'.freeze z 0=w':=by simp[ka]
   rw[e1,N];exact j d l g b f hd
  obtain⟨o,A,B,H,C⟩:=b.obj x.1;have idle:∀{w:ai}{a:aa}{o:Obj},w.heap[a.block]?=hO o->(∀c t y,o≠v4 c t y)->w.freeze a n=w:=by
   intro w a o h bu;unfold ka;rw[if_neg P];obtain⟨heap,_,_,_,_⟩:=w;congr 1;apply eV;intro i;rw[dq];split
   .rename_i e;subst e;show hT _ heap[a.block]?=heap[a.block]?;have h':heap[a.block]?=hO o:=h;rw[h'];cases o<;>first|rfl|exact absurd rfl (bu _ _ _)
   .rfl
  cases C with
  |@cells c U t y hc=>
   obtain⟨Y,hi⟩:=y;rw[iz w a n P B,iz w' z n P H,<-x.2.1];have hs:=lG g b f hd x.1 (.cells t (if Y==hi then(a.off,a.off+n) else(min Y a.off,max hi (a.off+n))) hc) (new:=#[]) ar (IY B H _ _);exact mL.step hs (by simpa using j d l g hs.wr f hd)
  |_=>
   rw[idle B ar,idle H ar];exact j d l g b f hd
 |frozen a k j=>
  rintro ρ s' w w' d(⟨z,k',rfl,x,l⟩|h)g b f hd
  .simp only[kt,ks,<-wI b x];exact j _ d (l _) g b f hd
  .exact bW.Tu (s:=lm a k) h
 |getObj r k j=>
  rintro ρ s' w w' d⟨D,k',rfl,I,l⟩g b f hd;obtain⟨o,A,B,H,C⟩:=b.obj I;have key:(∀c t y,o≠v4 c t y)->(∀c t y,A≠v4 c t y)->A.isChan=hG->
   mL T.globals.size F K RA ρ w w' d ((kw D k').runT ⟨T,fA⟩ w' d) ((kw r k).run ⟨T,fB⟩ w):=by
   intro O L Q;have e1:(kw r k).run ⟨T,fB⟩ w=(k o).run ⟨T,fB⟩ w:=by
    simp only[kt,B]
   have N:(kw D k').runT ⟨T,fA⟩ w' d=(k' A).runT ⟨T,fA⟩ w' (d.push ⟨wS D,hG,hG⟩):=by
    simp only[ks,H];cases A<;>first|rfl|exact absurd rfl (L _ _ _)|(simp only[Q])
   rw[e1,N];exact mL.step (FP g b f hd (e:=⟨wS D,hG,hG⟩) ⟨rfl,_,I⟩) (by simpa using j o (d.push _) (l o A C) g b f hd)
  cases C with
  |cells t y hc=>simp only[kt,B];trivial
  |_=>exact key ar ar rfl
 |setObj r o k j=>
  rintro ρ s' w w' d⟨D,A,k',rfl,I,⟨C,N8⟩,l⟩g b f hd;obtain⟨p,p',B,H,hp⟩:=b.obj I;have uQ:A.isChan=hG:=by cases C<;>rfl
  have key:(∀c t y,p≠v4 c t y)->(∀c t y,p'≠v4 c t y)->
   mL T.globals.size F K RA ρ w w' d ((kx D A k').runT ⟨T,fA⟩ w' d) ((kx r o k).run ⟨T,fB⟩ w):=by
   intro O L;have e1:(kx r o k).run ⟨T,fB⟩ w=k.run ⟨T,fB⟩ { w with heap:=i6 w.heap r o }:=by
    simp only[kt,B]
   have N:(kx D A k').runT ⟨T,fA⟩ w' d=k'.runT ⟨T,fA⟩ { w' with heap:=i6 w'.heap D A } (d.push ⟨wS D,hw,hG⟩):=by
    simp only[ks,H,uQ]
   rw[e1,N];have hs:=lG g b f hd I C (new:=#[⟨wS D,hw,hG⟩]) (λe M=>by simp at M;subst M;exact⟨rfl,_,I⟩) N8.hol;exact mL.step hs (by simpa using j (d.push _) l g hs.wr f hd)
  cases hp with
  |cells t y hc=>simp only[kt,B];trivial
  |_=>exact key ar ar
 |choose q k j=>
  rintro ρ s' w w' d⟨k',rfl,l⟩g b f hd;simp only[kt,ks];split
  .exact j _ d (l _) g b f hd
  .rw[<-f,<-hd];have Z:WR T.globals.size F K ρ { w with drawn:=w.drawn+1 } { w' with drawn:=w.drawn+1 }:=⟨b.pK,b.gN,b.obj⟩
   have hs:cE T.globals.size F K ρ w w' ρ { w with drawn:=w.drawn+1 } { w' with drawn:=w.drawn+1 } #[]:=
    ⟨Ren.le_refl _,g,Z,f,rfl,rfl,rfl,rfl,dk _,dk _,λ_ _ _=>rfl,λ_ E J=>absurd J (Nat.not_lt.2 E),λ_ _ h=>vc h,ar,λ_ _ _ _ h=>⟨h,rfl⟩⟩
   have:=j (q.cut (w.tape w.drawn q)) d (l _) g Z f rfl;exact mL.step hs (by simpa[f]using this)
 |sys c k j=>intro ρ s' w w' d h;exact h.elim
 |program k j=>
  rintro ρ s' w w' d(⟨k',rfl,l⟩|CS)g b f hd
  .simp only[kt,ks];exact j _ d l g b f hd
  .exact bW.Tu (s:=kS k) CS
 |mark m k j=>
  rintro ρ s' w w' d(⟨k',rfl,hm,l⟩|h)g b f hd
  .simp only[kt,ks];exact mL.step (FP g b f hd (e:=⟨w8 m,hG,hw⟩) hm) (by simpa using j (d.push _) l g b f hd)
  .exact bW.Tu (s:=lp m k) h
end
section
variable {T:bd}{fB fA:Array bi}{F:ac->Bool}{K:a8->Bool}{ρ σ:Ren}
abbrev RV(F:ac->Bool):Ren->ad->ad->Prop:=λρ v v'=>VR F ρ v v'
abbrev fF{b:Type}:Ren->b->b->Prop:=λ_ a c=>a=c
abbrev RVA(F:ac->Bool):Ren->Array ad->Array ad->Prop:=λρ a b=>VA F ρ a b
abbrev RA_:Ren->aa->aa->Prop:=λρ a b=>AR ρ a b
theorem ah{R:Ren->C->Y->Prop}{a:C}{a':Y}(h:R ρ a a'):av T fB fA F K R ρ (pure a) (pure a'):=⟨a',rfl,h⟩
theorem af{b c d e:Type}{RA:Ren->b->c->Prop}{g:Ren->d->e->Prop}{s:Sem b}{s':Sem c}{f:b->Sem d}{f':c->Sem e}(i:ρ.bw T.globals.size)(h:av T fB fA F K RA ρ s s')
 (hf:∀σ:Ren,ρ.le σ->σ.bw T.globals.size->∀a a',RA σ a a'->av T fB fA F K g σ (f a) (f' a')):av T fB fA F K g ρ (s >>= f) (s' >>= f'):=av.bind i h hf
theorem ak{R:Ren->C->Y->Prop}{m:String}{s':Sem Y}:av T fB fA F K R ρ (stuck m:Sem C) s':=trivial
def aA{R:Ren->C->Y->Prop}{u:bj}{s':Sem Y}(c:dw u=hw:=by rfl):av T fB fA F K R ρ (bv u:Sem C) s':=c
def bz{c:Type}{R:Ren->Y->c->Prop}{m:String}{f:C->Sem Y}{s':Sem c}:av T fB fA F K R ρ ((stuck m:Sem C) >>= f) s':=trivial
def aM{c:Type}{R:Ren->Y->c->Prop}{u:bj}{f:C->Sem Y}{s':Sem c}(d:dw u=hw:=by rfl):av T fB fA F K R ρ ((bv u:Sem C) >>= f) s':=d
def IZ{a':aa}(h:AR ρ J a'):av T fB fA F K (RV F) ρ (load J) (load a'):=⟨_,_,_,rfl,rfl,rfl,h,λ_ v' hv=>⟨v',rfl,hv⟩⟩
def N9{a':aa}(h:AR ρ J a')(hv:VR F ρ q L):av T fB fA F K fF ρ (store J q) (store a' L):=⟨_,_,_,_,rfl,rfl,rfl,h,hv,(),rfl,rfl⟩
def jO{o o':Obj}(h:OR F K ρ o o'):av T fB fA F K (λσ r a=>σ r a) ρ (b8 o) (b8 o'):=⟨_,_,rfl,h,λ_ a _ _ _ _=>⟨a,rfl,Ren.IW _ _ _⟩⟩
def jS{a:Nat}(h:ρ O a):av T fB fA F K fF ρ (shape O) (shape a):=vc ⟨_,_,rfl,h,λx=>⟨x,rfl,rfl⟩⟩
def pL{a':aa}(h:AR ρ J a'):av T fB fA F K fF ρ (frozen J) (frozen a'):=vc ⟨_,_,rfl,h,λx=>⟨x,rfl,rfl⟩⟩
def dA{a:Nat}(h:ρ O a):av T fB fA F K (λσ o o'=>OR F K σ o o') ρ (getObj O) (getObj a):=⟨_,_,rfl,h,λ_ o' b=>⟨o',rfl,b⟩⟩
def dV{a:Nat}(h:ρ O a){o o':Obj}(b:OR F K ρ o o')(c:vW o:=by intro _ _ _ h;cases h):av T fB fA F K fF ρ (b9 O o) (b9 a o'):=⟨_,_,_,rfl,h,⟨b,c⟩,(),rfl,rfl⟩
def lH(q:aH):av T fB fA F K fF ρ (ce q) (ce q):=⟨_,rfl,λn=>⟨n,rfl,rfl⟩⟩
def bI{R:Ren->C->Y->Prop}{f:bq->Sem C}{f':bq->Sem Y}(h:av T fB fA F K R ρ (f ⟨T,fB⟩) (f' ⟨T,fA⟩)):av T fB fA F K R ρ (program >>= f) (program >>= f'):=vc ⟨_,rfl,h⟩
def Lv:av T fB fA F K fF ρ (mark wg) (mark wg):=vc ⟨_,rfl,rfl,(),rfl,rfl⟩
def FQ(n:Nat):av T fB fA F K fF ρ (cf n) (cf n):=by
 unfold cf;split
 .exact Lv
 .exact ah rfl
def aN{R:Ren->C->Y->Prop}{c:Prop}[Decidable c]{s t:Sem C}{s' d:Sem Y}(e:c->av T fB fA F K R ρ s s')(f:¬c->av T fB fA F K R ρ t d):av T fB fA F K R ρ (if c then s else t) (if c then s' else d):=by
 grind
def rT{R:Ren->C->Y->Prop}(h:VR F ρ q L):av T fB fA F K R ρ (goPanic q:Sem C) (goPanic L:Sem Y):=⟨L,rfl,h⟩
def ee(t:ag):av T fB fA F K fF ρ (ch t) (ch t):=by
 unfold ch;refine bI ?_;grind[ak,ah]
def bk(t:ag):av T fB fA F K fF ρ (ci t) (ci t):=by
 unfold ci;refine bI ?_;show(av T fB fA F K) fF ρ (match(lL T fB).underlying t with|some i=>pure i|none=>stuck "no such type") (match(lL T fB).underlying t with|some i=>pure i|none=>stuck "no such type")
 cases(lL T fB).underlying t with
 |none=>exact ak
 |some i=>exact ah rfl
def bN(b:ρ.bw T.globals.size)(t:ag):av T fB fA F K fF ρ (cl t) (cl t):=af b (ee t) λ_ _ _ a c h=>ah (by rw[h])
def CU(b:ρ.bw T.globals.size)(t:ag):av T fB fA F K fF ρ (isAgg t) (isAgg t):=by
 refine af b (bk t) λσ _ _ a c h=>?_;subst h;split<;>exact ah rfl
def dM(T:bd)(F:ac->Bool)(Z:ag->Bool):Prop:=(∀t i v,Z t=hw->T.info? t=hO i->i.zero=hO v->VR F (λ_ _=>False) v v)/\∀i,T.info? 0=hO i->i.methods.find? (·.name == "")=hN
def VR.closed(h:VR F (λ_ _=>False) q q)(ρ:Ren):VR F ρ q q:=h.mono λ_ _ x=>x.elim
def gO{Z:ag->Bool}(b:dM T F Z)(c:ρ.bw T.globals.size)(d:Z R=hw):av T fB fA F K (λσ v v'=>VR F σ v v'/\v=v') ρ (co R) (co R):=by
 unfold co ch;show(av T fB fA F K) _ ρ ((program >>= λp=>_) >>= _) _;refine af (RA:=λσ(i a:TypeInfo)=>i=a/\T.info? R=hO i) c ?_ λσ _ _ i a h=>?_
 .refine bI ?_;grind[ak,ah]
 .obtain⟨rfl,hi⟩:=h
  cases hv:i.zero with
  |none=>simp only;exact aA
  |some v=>simp only;exact ah ⟨VR.closed (b.1 R i v d hi hv) σ,rfl⟩
def tR(f:ρ.bw T.globals.size){a':aa}(h:AR ρ J a')(n:Nat):∀(i:Nat){b d:Array ad},VA F ρ b d->av T fB fA F K (RVA F) ρ (cq J i n b) (cq a' i n d):=by
 induction n generalizing ρ with
 |zero=>intro i b d e;exact ah e
 |succ n g=>
  intro i b d e;exact af f (IZ (h.add i)) λσ c j v v' hv=>g j (h.mono c) (i+1) (VA.push (VA.mono c e) hv)
def rU(b:ρ.bw T.globals.size){a':aa}(h:AR ρ J a')(n:Nat):av T fB fA F K (RVA F) ρ (ct J n) (ct a' n):=tR b h n 0 VA.nil
def qD(d:ρ.bw T.globals.size){a':aa}(h:AR ρ J a'){vs c:List ad}(hv:cU F ρ vs c):∀i:Nat,av T fB fA F K fF ρ (c8 J vs i) (c8 a' c i):=by
 induction vs generalizing ρ c with
 |nil=>intro i;cases hv;exact ah rfl
 |cons v vs e=>
  intro i
  cases hv with
  |cons f g=>exact af d (N9 (h.add i) f) λσ b j _ _ _=>e j (h.mono b) (cU.mono b g) (i+1)
def wN(e:ρ.bw T.globals.size)(t:ag){a':aa}(h:AR ρ J a'):av T fB fA F K (RV F) ρ (c9 t J) (c9 t a'):=by
 refine af e (CU e t) λσ d f b b' hb=>?_;subst hb;refine aN (λ_=>?_) λ_=>IZ (h.mono d);refine af f (bN f t) λk i g n n' j=>?_;subst j;exact af g (rU g ((h.mono d).mono i) n) λ_ _ _ c l hc=>ah (VR.agg hc)
def CV(c:ρ.bw T.globals.size)(t:ag){a':aa}(h:AR ρ J a')(hv:VR F ρ q L):av T fB fA F K fF ρ (db t J q) (db t a' L):=by
 unfold db;refine af c (bN c t) λσ b d n n' e=>?_;subst e;have hs:=VA.size hv.cells;rw[hs];split
 .exact bz
 .exact qD d (h.mono b) (cU.mono b hv.cells) 0
def tS(a:ρ.bw T.globals.size)(t:ag){c':Array ad}(h:VA F ρ M c'):av T fB fA F K RA_ ρ (dc t M) (dc t c'):=
 af a (jO (.cells t (0,0) h)) λ_ _ _ _ _ b=>ah ⟨b,rfl,rfl⟩
def zZ(a:ρ.bw T.globals.size)(t:ag)(h:VR F ρ q L):av T fB fA F K RA_ ρ (newVar t q) (newVar t L):=tS a t h.cells
def kI(f:ρ.bw T.globals.size)(t:ag){c':Array ad}(h:VA F ρ M c')(off:Nat):av T fB fA F K (RV F) ρ (part t M off) (part t c' off):=by
 refine af f (CU f t) λσ a g b b' hb=>?_;subst hb;refine aN (λ_=>?_) λ_=>?_
 .refine af g (bN g t) λk i l n n' j=>?_;subst j;exact ah (VR.agg (VA.extract (VA.mono i (VA.mono a h)) _ _))
 .rcases VA.get? (VA.mono a h) off with⟨d,e⟩|⟨v,v',d,e,hv⟩
  .rw[d,e];exact ak
  .rw[d,e];exact ah hv
def jT(h:VR F ρ q L):av T fB fA F K fF ρ (asIntOf q) (asIntOf L):=by
 cases h<;>first|exact ah rfl|exact ak|exact aA
def Oa(b:ρ.bw T.globals.size)(h:VR F ρ q L):av T fB fA F K fF ρ (asInt q) (asInt L):=af b (jT h) λ_ _ _ a c e=>ah (by rw[e])
def tU(h:VR F ρ q L):av T fB fA F K fF ρ (asBool q) (asBool L):=by
 cases h<;>first|exact ah rfl|exact ak
def Ob(h:VR F ρ q L):av T fB fA F K (RVA F) ρ (asAgg q) (asAgg L):=by
 cases h<;>first|(rename_i h;exact ah h)|exact ak
def cX{R:Ren->C->Y->Prop}(m:String):av T fB fA F K R ρ (dx (.error m):Sem C) (dx (.error m):Sem Y):=by
 unfold dx;exact bI (rT (.iface _ (.string _)))
def zv{R:Ren->C->Y->Prop}(m:String):av T fB fA F K R ρ (dx (.plain m):Sem C) (dx (.plain m):Sem Y):=by
 unfold dx;exact bI (rT (.iface _ (.string _)))
def nY{R:Ren->C->Y->Prop}:av T fB fA F K R ρ (dx .nilDeref:Sem C) (dx .nilDeref:Sem Y):=by
 unfold dx;exact bI (rT (.iface _ (.string _)))
def nZ{R:Ren->C->Y->Prop}(x y:Int)(s:Bool)(c:dO):av T fB fA F K R ρ (dx (.bounds x y s c):Sem C) (dx (.bounds x y s c):Sem Y):=by
 unfold dx;exact bI (rT (.iface _ (.agg (.cons (.int _ _) (.cons (.int _ _) (.cons (.bool _) (.cons (.int _ _) .nil)))))))
def dW(d:ρ.bw T.globals.size){R:Ren->C->Y->Prop}(k:IntKind)(x y:Int)(c:dO):av T fB fA F K R ρ (d8 k x y c:Sem C) (d8 k x y c:Sem Y):=by
 unfold d8;refine aN (λ_=>?_) λ_=>nZ _ _ _ _;exact⟨_,rfl,λn=>nZ _ _ _ _⟩
def z7(h:VR F ρ q L):av T fB fA F K RA_ ρ (d9 q) (d9 L):=by
 cases h<;>first|exact nY|exact ak|(rename_i h;exact ah h)
def iV(h:VR F ρ q L):av T fB fA F K RA_ ρ (mG q) (mG L):=by
 cases h<;>first|exact ak|(rename_i h;exact ah h)
def Oc{Z:ag->Bool}(c:dM T F Z)(a:ρ.bw T.globals.size)(d:Z R=hw):av T fB fA F K (RV F) ρ (m7 R hw (v3 #[])) (m7 R hw (v3 #[])):=by
 unfold m7;refine af a (gO c a d) λσ _ b z f h=>?_;exact af b (zZ b R h.1) λ_ _ _ _ _ e=>ah (.ptr e)
def XY(a:ρ.bw T.globals.size)(t:ag)(h:VR F ρ q L):av T fB fA F K (RV F) ρ (m8 t q) (m8 t L):=
 af a (zZ a t h) λ_ _ _ _ _ b=>ah (.ptr b)
def Lx(a:ρ.bw T.globals.size)(t:ag)(h:VR F ρ q L):av T fB fA F K (RV F) ρ (m9 t q) (m9 t L):=
 af a (iV h) λ_ _ b _ _ c=>wN b t c
def FR(c:ρ.bw T.globals.size)(t:ag){x b:ad}(h:VR F ρ q L)(d:VR F ρ x b):av T fB fA F K fF ρ (ni t q x) (ni t L b):=
 af c (iV h) λ_ a e _ _ f=>CV e t f (d.mono a)
inductive kX(F:ac->Bool)(ρ:Ren):List (Nat×ad)->List (Nat×ad)->Prop
 |nil:kX F ρ [] []
 |cons (i:Nat) {v v':ad} {l l':List (Nat×ad)} (h:VR F ρ v v') (t:kX F ρ l l'):kX F ρ ((i,v)::l) ((i,v')::l')
def kX.mono{l l':List (Nat×ad)}(h:ρ.le σ)(x:kX F ρ l l'):kX F σ l l':=by
 induction x with
 |nil=>exact .nil
 |cons i a _ b=>exact .cons i (a.mono h) b
def Od(off:Nat):∀{l l':List ad}{cs cs':Array ad}(j:Nat),cU F ρ l l'->VA F ρ cs cs'->
 VA F ρ ((l.zipIdx j).foldl (λcs(c,j)=>i6 cs (off+j) c) cs) ((l'.zipIdx j).foldl (λcs(c,j)=>i6 cs (off+j) c) cs'):=by
 intro l
 induction l with
 |nil=>intro l' cs cs' j h hc;cases h;exact hc
 |cons v l a=>
  intro l' cs cs' j h hc
  cases h with
  |cons b d=>simpa using a (j+1) d (VA.set hc (off+j) b)
def wO(place:Nat->Option (Nat×Nat)):∀{l l':List (Nat×ad)}{cs cs':Array ad},kX F ρ l l'->VA F ρ cs cs'->
 (nk place cs l=hN/\nk place cs' l'=hN)\/∃r a,nk place cs l=hO r/\nk place cs' l'=hO a/\VA F ρ r a:=by
 intro l
 induction l with
 |nil=>intro l' cs cs' h hc;cases h;exact vd ⟨_,_,rfl,rfl,hc⟩
 |cons p l b=>
  intro l' cs cs' h hc
  cases h with
  |@cons i v v' _ l' hv t=>
   simp only[nk]
   cases d:place i with
   |none=>exact vc ⟨rfl,rfl⟩
   |some c=>
    obtain⟨off,size⟩:=c;simp only;rw[<-VA.size hv.cells,<-VA.size hc];split
    .exact vc ⟨rfl,rfl⟩
    .refine b t ?_;have e:=Od (F:=F) (ρ:=ρ) off 0 hv.cells hc;grind [Array.toList_zipIdx]
def FU(e:ρ.bw T.globals.size){f f':C->Sem Y}:∀(l:List C),(∀x∈l,∀σ:Ren,ρ.le σ->σ.bw T.globals.size->av T fB fA F K fF σ (f x) (f' x))->av T fB fA F K fF ρ (l.mapM f) (l.mapM f'):=by
 intro l
 induction l generalizing ρ with
 |nil=>intro _;simp only[List.mapM_nil];exact ah rfl
 |cons x l j=>
  intro h;simp only[io];refine af e (h x ar ρ (Ren.le_refl _) e) λσ c g a p k=>?_;refine af g (j g λy hy m n o=>h y (by simp[hy]) m (Ren.le_trans c n) o) λ_ _ _ b b' hb=>?_;exact ah (by rw[k,hb])
def CW(d:ρ.bw T.globals.size){f f':C->Sem Y}(l:Array C)(h:∀x∈l.toList,∀σ:Ren,ρ.le σ->σ.bw T.globals.size->av T fB fA F K fF σ (f x) (f' x)):av T fB fA F K fF ρ (l.mapM f) (l.mapM f'):=by
 rw[jn,jn];have:∀(s a:Sem (List Y)),av T fB fA F K fF ρ s a->av T fB fA F K fF ρ (Functor.map ip s) (Functor.map ip a):=λs a h=>by
  grind[map_eq_pure_bind,af,ah]
 exact this _ _ (FU d l.toList h)
end
section
variable (T:bd)(f g:Array bi)
def lI(d:Nat):ea ⟨T,f⟩ d=ea ⟨T,g⟩ d:=by
 induction d with
 |zero=>rfl
 |succ d a=>funext t off;simp only[ea,a];rfl
def tV(d:Nat):eb ⟨T,f⟩ d=eb ⟨T,g⟩ d:=by
 induction d with
 |zero=>rfl
 |succ d a=>funext t off;simp only[eb,a];rfl
def rV(d:Nat):ec ⟨T,f⟩ d=ec ⟨T,g⟩ d:=by
 funext e count off bytes;unfold ec;simp only[lI T f g,tV T f g];rfl
def kJ(d:Nat):lM ⟨T,f⟩ d=lM ⟨T,g⟩ d:=by
 induction d with
 |zero=>rfl
 |succ d a=>funext t;simp only[lM,a];rfl
def uR(d:Nat):lT ⟨T,f⟩ d=lT ⟨T,g⟩ d:=by
 induction d with
 |zero=>rfl
 |succ d a=>funext t u;simp only[lT,a]
def vD(t:ag):lW ⟨T,f⟩ t=lW ⟨T,g⟩ t:=by
 simp only[lW,uR T f g];try rfl
def rW(t:ag):l1 ⟨T,f⟩ t=l1 ⟨T,g⟩ t:=by
 simp only[l1,vD T f g];try rfl
def wP(t:ag):l2 ⟨T,f⟩ t=l2 ⟨T,g⟩ t:=by
 simp only[l2,uR T f g];try rfl
def Bb(t:ag):l3 ⟨T,f⟩ t=l3 ⟨T,g⟩ t:=by
 simp only[l3,wP T f g]
def rX(d:Nat):l5 ⟨T,f⟩ d=l5 ⟨T,g⟩ d:=by
 induction d with
 |zero=>rfl
 |succ d a=>funext t;simp only[l5,a,Bb T f g];rfl
end
section
variable {T:bd}{fB fA:Array bi}{F:ac->Bool}{K:a8->Bool}{ρ σ:Ren}
def Oe{Z:ag->Bool}(v:dM T F Z)(c:ρ.bw T.globals.size)(w:Z R=hw){ps f:Array (Nat×ad)}(h:kX F ρ ps.toList f.toList):av T fB fA F K (RV F) ρ (nl R ps) (nl R f):=by
 unfold nl;refine af c (gO v c w) λσ m y z H A=>?_;refine af y (bk R) λI q l d J hd=>?_;subst hd;have u:=h.mono (Ren.le_trans m q);have g:=VR.cells (A.1.mono q)
 cases d with
 |struct fields=>
  refine af l (CW l fields λx _ σ _ c=>af c (bN c x.type) λ_ _ _ a L e=>ah (by rw[e])) λo j _ B C D=>?_;subst D
  rcases wO (F:=F) (ρ:=o) (B[·]?) (u.mono j) (VA.mono j g) with⟨b,k⟩|⟨r,E,b,k,p⟩
  .simp only[b];exact ak
  .simp only[b,k];exact ah (.agg p)
 |array n elem=>
  refine af l (bN l elem) λo j _ s M hs=>?_;subst hs
  rcases wO (F:=F) (ρ:=o) (λi=>hO (i*s,s)) (u.mono j) (VA.mono j g) with⟨b,k⟩|⟨r,E,b,k,p⟩
  .simp only[b];exact ak
  .simp only[b,k];exact ah (.agg p)
 |_=>exact ak
def z8(d:ρ.bw T.globals.size){c:Nat}(h:ρ O c):av T fB fA F K (λ_ a a'=>a=hN/\a'=hN) ρ (viewAt O) (viewAt c):=by
 unfold viewAt;refine af d (jS h) λσ b f x i e=>?_;subst e;refine aN (λ_=>ah ⟨rfl,rfl⟩) λ_=>?_;refine af f (dA (b h)) λ_ _ _ o j g=>?_;cases g<;>exact ah ⟨rfl,rfl⟩
def tX(b:ρ.bw T.globals.size){a':aa}(h:AR ρ J a'):av T fB fA F K fF ρ (ed J) (ed a'):=by
 unfold ed;refine af b (z8 b h.1) λσ c d x f e=>?_;obtain⟨rfl,rfl⟩:=e;exact ah rfl
def uS(f:ρ.bw T.globals.size){d:Nat}(h:ρ O d) :
 av T fB fA F K (λσ x b=>(x=hN/\b=hN)\/∃a a' l,x=hO (a,l)/\b=hO (a',l)/\AR σ a a') ρ (ek O) (ek d):=by
 unfold ek;refine af f (jS h) λσ c g x b e=>?_;subst e;refine aN (λ_=>ah (vc ⟨rfl,rfl⟩)) λ_=>?_;refine af g (dA (c h)) λ_ _ _ o j i=>?_
 cases i with
 |number l a=>exact ah (vd ⟨_,_,l,rfl,rfl,a⟩)
 |_=>exact ah (vc ⟨rfl,rfl⟩)
def gC(f:ρ.bw T.globals.size){a':aa}(h:AR ρ J a'):av T fB fA F K (λσ x c=>AR σ x.1 c.1/\x.2=c.2) ρ (el J) (el a'):=by
 unfold el;refine af f (uS f h.1) λσ d g x c e=>?_
 rcases e with⟨rfl,rfl⟩|⟨b,b',l,rfl,rfl,hb⟩
 .exact ah ⟨h.mono d,rfl⟩
 .exact ah ⟨hb,rfl⟩
def iA(d:ρ.bw T.globals.size){a':aa}(h:AR ρ J a'):av T fB fA F K fF ρ (byteOf J) (byteOf a'):=by
 unfold byteOf;obtain⟨f,g,i⟩:=h;rw[<-i]
 cases hs:J.spot with
 |some s=>exact ah rfl
 |none=>
  refine bI ?_;refine af d (tX d ⟨f,g,i⟩) λσ c k _ _ _=>?_;refine af k (jS (c f)) λj m o x p e=>?_;subst e
  cases x with
  |none=>exact ak
  |some l=>
   obtain⟨e,n⟩:=l;simp only[<-g,lI T fA fB];show(av T fB fA F K) fF j (if(mc ⟨T,fB⟩ e)=0 then _ else _) (if(mc ⟨T,fB⟩ e)=0 then _ else _);refine aN (λ_=>ah rfl) λ_=>?_;show(av T fB fA F K) fF j (match ea ⟨T,fB⟩ (mm ⟨T,fB⟩) e (J.off % mc ⟨T,fB⟩ e) with|some b=>_|_=>_) (match ea ⟨T,fB⟩ (mm ⟨T,fB⟩) e (J.off % mc ⟨T,fB⟩ e) with|some b=>_|_=>_)
   cases ea ⟨T,fB⟩ (mm ⟨T,fB⟩) e (J.off % mc ⟨T,fB⟩ e) with
   |none=>exact ak
   |some b=>exact ah rfl
def Ly(f:ρ.bw T.globals.size){a':aa}(h:AR ρ J a')(c b:Nat):av T fB fA F K RA_ ρ (partAt J c b) (partAt a' c b):=by
 unfold partAt;refine af f (iA f h) λσ d g x k e=>?_;subst e;have i:AR σ { block:=J.block,off:=J.off+c } { block:=a'.block,off:=a'.off+c }:=⟨d h.1,by show J.off+c=a'.off+c;rw[h.2.1],rfl⟩
 refine af g (iA g i) λl j _ y y' e=>?_;subst e;refine ah ?_;split
 .exact i.mono j
 .exact⟨j (d h.1),by show J.off+c=a'.off+c;rw[h.2.1],rfl⟩
def zx(c:ρ.bw T.globals.size){a':aa}(h:AR ρ J a')(f:Field):av T fB fA F K RA_ ρ (em J f) (em a' f):=by
 unfold em;refine af c (bN c f.type) λσ b d n n' e=>?_;subst e;exact aN (λ_=>Ly d (h.mono b) _ _) λ_=>ah ((h.mono b).add _)
def FV(g:ρ.bw T.globals.size)(s:ag)(h:VR F ρ q L)(i:Nat):av T fB fA F K (RV F) ρ (nq s q i) (nq s L i):=by
 unfold nq;refine af g (bk s) λσ b j d l e=>?_;subst e
 cases d with
 |struct fields=>
  simp only
  cases fields[i]? with
  |none=>exact ak
  |some f=>
   simp only;refine af j (iV (h.mono b)) λm n c a o k=>?_;exact af c (zx c k f) λ_ _ _ _ _ hb=>ah (.ptr hb)
 |_=>exact ak
def Of(b:ρ.bw T.globals.size)(s:ag)(h:VR F ρ q L)(i:Nat):av T fB fA F K (RV F) ρ (nt s q i) (nt s L i):=by
 unfold nt;refine af b (bk s) λσ a c d j e=>?_;subst e
 cases d with
 |struct fields=>
  simp only
  cases fields[i]? with
  |none=>exact ak
  |some f=>exact af c (Ob (h.mono a)) λk _ g _ _ hc=>kI g f.type hc f.offset
 |_=>exact ak
def Og(g:ρ.bw T.globals.size)(t:ag){x f:ad}(h:VR F ρ q L)(j:VR F ρ x f):av T fB fA F K (RV F) ρ (nV t q x) (nV t L f):=by
 unfold nV;refine af g (jT j) λσ c l o p e=>?_;subst e;obtain⟨k,i⟩:=o;refine af l (bk t) λw v' a d y e=>?_;subst e;have hv:=h.mono (Ren.le_trans c v')
 cases d with
 |array n elem=>
  cases hv with
  |agg hc=>
   refine aN (λ_=>?_) λ_=>dW a _ _ _ _;refine af a (bN a elem) λz r u m m' e=>?_;subst e;exact kI u elem (VA.mono r hc) _
  |_=>exact ak
 |string=>
  cases hv with
  |string s=>
   simp only
   cases(if 0<=i then s[i.toNat]? else hN) with
   |none=>exact dW a _ _ _ _
   |some b=>exact ah (.int _ _)
  |_=>exact ak
 |_=>exact ak
def FW(z:ρ.bw T.globals.size)(t:ag){x y:ad}(h:VR F ρ q L)(A:VR F ρ x y):av T fB fA F K (RV F) ρ (n0 t q x) (n0 t L y):=by
 unfold n0;refine af z (jT A) λσ s B C E e=>?_;subst e;obtain⟨k,i⟩:=C;refine af B (bk t) λu H o d M e=>?_;subst e;have hv:=h.mono (Ren.le_trans s H);have b:∀(g:Ren)(p:g.bw T.globals.size)(base v:Option aa)(len:Nat)(elem:ag),
  (base=hN/\v=hN)\/(∃a j,base=hO a/\v=hO j/\(AR g a j\/len=0))->av T fB fA F K (RV F) g
  (do
    let w:=len<=1&&(match<-ci t with | .array ..=>hw|_=>hG)
    match base with
    |some a=>if 0<=i/\i<len then pure (vz (hO (a.add (i.toNat*(<-cl elem))))) else if w then bv (.noEntry "op/indexAddr.an index out of range at an array of length 0 or 1 (ledger 616)") else d8 k i len .index
    |none=>d8 k i 0 .index)
  (do
    let w:=len<=1&&(match<-ci t with | .array ..=>hw|_=>hG)
    match v with
    |some a=>if 0<=i/\i<len then pure (vz (hO (a.add (i.toNat*(<-cl elem))))) else if w then bv (.noEntry "op/indexAddr.an index out of range at an array of length 0 or 1 (ledger 616)") else d8 k i len .index
    |none=>d8 k i 0 .index):=by
  intro g p base v len elem hb;refine af p (bk t) λN I r O J e=>?_;subst e
  rcases hb with⟨rfl,rfl⟩|⟨a,j,rfl,rfl,f⟩
  .exact dW r _ _ _ _
  .refine aN (λhb=>?_) λ_=>aN (λ_=>aA) λ_=>dW r _ _ _ _
   rcases f with f|rfl
   rotate_left
   .exact absurd hb ar
   refine af r (bN r elem) λP v' _ m m' e=>?_;subst e;exact ah (.ptr (((f.mono I).mono v').add _))
 cases d with
 |array n elem=>
  exact af o (iV hv) λg _ p a j f=>b g p (hO a) (hO j) n elem (vd ⟨_,_,rfl,rfl,vc f⟩)
 |slice elem=>
  cases hv with
  |di l c=>exact b u o hN hN l elem (vc ⟨rfl,rfl⟩)
  |slice l c f=>exact b u o _ _ l elem (vd ⟨_,_,rfl,rfl,vc f⟩)
  |dK D a=>exact b u o _ _ 0 elem (vd ⟨_,_,rfl,rfl,vd rfl⟩)
  |_=>exact bz
 |_=>exact bz
def FX{v':ad}(h:VR F ρ q v')(i:Nat):av T fB fA F K (RV F) ρ (n6 q i) (n6 v' i):=by
 unfold n6
 cases h with
 |tuple hc=>
  rcases VA.get? hc i with⟨a,b⟩|⟨q,v',a,b,hv⟩
  .simp only[a];exact ak
  .simp only[a,b];exact ah hv
 |_=>exact ak
def iQ(b:ρ.bw T.globals.size)(h:VR F ρ q L)(y:Nat)(c:dO):av T fB fA F K fF ρ (n7 q y c) (n7 L y c):=by
 unfold n7;refine af b (jT h) λσ _ d g f e=>?_;subst e;exact aN (λ_=>ah rfl) λ_=>dW d _ _ _ _
inductive lJ(F:ac->Bool)(ρ:Ren):Option ad->Option ad->Prop
 |none:lJ F ρ hN hN
 |some {v v':ad} (h:VR F ρ v v'):lJ F ρ (hO v) (hO v')
def lJ.mono(h:ρ.le σ){o o':Option ad}(x:lJ F ρ o o'):lJ F σ o o':=by
 cases x with
 |none=>exact .none
 |some a=>exact .some (a.mono h)
def eY(d:ρ.bw T.globals.size)(b:Bool)(len cap:Nat){l l' h p m m':Option ad}(hl:lJ F ρ l l')(q:lJ F ρ h p)(s:lJ F ρ m m') :
 av T fB fA F K fF ρ (n8 b len cap l h m) (n8 b len cap l' p m'):=by
 unfold n8;have k:∀(σ:Ren)(_:σ.bw T.globals.size)(H M:Nat)(l l':Option ad)(full:Bool),lJ F σ l l'->av T fB fA F K fF σ
  (do
    let n<-match l with
     |some v=>n7 v H (if full then .slice3C else .sliceB)
     |none=>pure 0
    pure (n,H,M))
  (do
    let n<-match l' with
     |some v=>n7 v H (if full then .slice3C else .sliceB)
     |none=>pure 0
    pure (n,H,M)):=by
  intro σ d H M l l' full hl
  cases hl with
  |none=>exact ah rfl
  |some hv=>exact af d (iQ d hv _ _) λ_ _ _ a u e=>ah (by rw[e])
 cases s with
 |none=>
  refine af (RA:=fF) d (ah rfl) λσ c f M t e=>?_;subst e
  cases q with
  |none=>
   refine af (RA:=fF) f (ah rfl) λg i j H r e=>?_;subst e;exact k g j _ _ _ _ hG (hl.mono (Ren.le_trans c i))
  |some hv=>
   refine af (RA:=fF) f (iQ f (hv.mono c) _ _) λg i j H r e=>?_;subst e;exact k g j _ _ _ _ hG (hl.mono (Ren.le_trans c i))
 |some o=>
  refine af (RA:=fF) d (iQ d o _ _) λσ c f M t e=>?_;subst e
  cases q with
  |none=>exact bz
  |some hv=>
   refine af (RA:=fF) f (iQ f (hv.mono c) _ _) λg i j H r e=>?_;subst e;exact k g j _ _ _ _ hw (hl.mono (Ren.le_trans c i))
def gP(d:ρ.bw T.globals.size)(h:VR F ρ q L)(c:dO):av T fB fA F K (λ_ a a'=>a=0/\a'=0) ρ (n7 q 0 c) (n7 L 0 c):=by
 unfold n7;refine af d (jT h) λσ _ f i g e=>?_;subst e;refine aN (λh=>ah ?_) λ_=>dW f _ _ _ _;grind
def vE(d:ρ.bw T.globals.size)(b:Bool){l l' h p m m':Option ad}(hl:lJ F ρ l l')(q:lJ F ρ h p)(s:lJ F ρ m m') :
 av T fB fA F K (λ_ a a'=>a=(0,0,0)/\a'=(0,0,0)) ρ (n8 b 0 0 l h m) (n8 b 0 0 l' p m'):=by
 unfold n8;have k:∀(σ:Ren)(_:σ.bw T.globals.size)(l l':Option ad)(full:Bool),lJ F σ l l'->av T fB fA F K (λ_ a a'=>a=(0,0,0)/\a'=(0,0,0)) σ
  (do
    let n<-match l with
     |some v=>n7 v 0 (if full then .slice3C else .sliceB)
     |none=>pure 0
    pure (n,0,0))
  (do
    let n<-match l' with
     |some v=>n7 v 0 (if full then .slice3C else .sliceB)
     |none=>pure 0
    pure (n,0,0)):=by
  intro σ d l l' full hl
  cases hl with
  |none=>exact ah ⟨rfl,rfl⟩
  |some hv=>exact af d (gP d hv _) λ_ _ _ a a' e=>ah aS
 cases s with
 |none=>
  refine af (RA:=λ_ a a'=>a=0/\a'=0) d (ah ⟨rfl,rfl⟩) λσ c f M t e=>?_;obtain⟨rfl,rfl⟩:=e
  cases q with
  |none=>
   refine af (RA:=λ_ a a'=>a=0/\a'=0) f (ah ⟨rfl,rfl⟩) λg i j H r e=>?_;obtain⟨rfl,rfl⟩:=e;exact k g j _ _ hG (hl.mono (Ren.le_trans c i))
  |some hv=>
   refine af f (gP f (hv.mono c) _) λg i j H r e=>?_;obtain⟨rfl,rfl⟩:=e;exact k g j _ _ hG (hl.mono (Ren.le_trans c i))
 |some o=>
  refine af d (gP d o _) λσ c f M t e=>?_;obtain⟨rfl,rfl⟩:=e
  cases q with
  |none=>exact bz
  |some hv=>
   refine af f (gP f (hv.mono c) _) λg i j H r e=>?_;obtain⟨rfl,rfl⟩:=e;exact k g j _ _ hw (hl.mono (Ren.le_trans c i))
def Oi(B:ρ.bw T.globals.size)(t:ag)(p:VR F ρ q L){l l' h y m m':Option ad}(hl:lJ F ρ l l')(i:lJ F ρ h y)(j:lJ F ρ m m') :
 av T fB fA F K (RV F) ρ (n9 t q l h m) (n9 t L l' y m'):=by
 unfold n9;refine af B (bk t) λσ f g d C e=>?_;subst e;have p:=p.mono f;have hl:=hl.mono f;have i:=i.mono f;have j:=j.mono f
 cases d with
 |string=>
  cases p with
  |string s=>
   cases j with
   |some _=>exact bz
   |none=>
    refine af g (eY g _ _ _ hl i .none) λ_ _ _ a r e=>?_;subst e;exact ah (.string _)
  |_=>exact ak
 |slice elem=>
  cases p with
  |di len cap=>
   refine af g (eY g _ _ _ hl i j) λu k c a r e=>?_;subst e;refine af c (bN c elem) λ_ _ _ n n' e=>?_;subst e;refine ah ?_;show VR F _ (vL (if _ then hN else hN) _ _) (vL (if _ then hN else hN) _ _);simp only[ite_self];exact .di _ _
  |slice len cap w=>
   refine af g (eY g _ _ _ hl i j) λu k c a r e=>?_;subst e;refine af c (bN c elem) λ_ o _ n n' e=>?_;subst e;refine ah ?_;split
   .exact .slice _ _ ((w.mono k).mono o)
   .exact .slice _ _ (((w.mono k).mono o).add _)
  |dK D a=>
   refine af g (vE g _ hl i j) λu k c b b' e=>?_;obtain⟨rfl,rfl⟩:=e;refine af c (bN c elem) λ_ o _ n n' e=>?_;subst e;exact ah (.dK D a)
  |_=>exact ak
 |pointer arr=>
  refine af g (z7 p) λu k c a r w=>?_;refine af c (bk arr) λI o z d C e=>?_;subst e
  cases d with
  |array n elem=>
   have v:=Ren.le_trans k o;refine af z (eY z _ _ _ (hl.mono v) (i.mono v) (j.mono v)) λJ E A b b' e=>?_;subst e;refine af A (bN A elem) λ_ H _ n n' e=>?_;subst e;refine ah ?_;have ha':=((w.mono o).mono E).mono H;split
   .exact .slice _ _ ha'
   .exact .slice _ _ (ha'.add _)
  |_=>exact ak
 |_=>exact ak
def FZ(s:ρ.bw T.globals.size)(t:ag)(f:VR F ρ q L){l l' h o m m':Option ad}(hl:lJ F ρ l l')(g:lJ F ρ h o)(i:lJ F ρ m m') :
 av T fB fA F K (RV F) ρ (ob t q l h m) (ob t L l' o m'):=by
 unfold ob;refine af s (bk t) λσ c p d y e=>?_;subst e;have f:=f.mono c;have hl:=hl.mono c;have g:=g.mono c;have i:=i.mono c
 cases d with
 |array n elem=>
  refine af p (iV f) λz j k a A u=>?_;refine af k (eY k _ _ _ (hl.mono j) (g.mono j) (i.mono j)) λB v r b b' e=>?_;subst e;refine af r (bN r elem) λ_ w _ n n' e=>?_;subst e;refine ah ?_;have ha':=(u.mono v).mono w;split
  .exact .slice _ _ ha'
  .exact .slice _ _ (ha'.add _)
 |_=>exact Oi p t f hl g i
theorem oa:∀(l:List C){ρ:Ren}(_:ρ.bw T.globals.size)(b:Y){f f':C->Y->Sem (ForInStep Y)},
 (∀x∈l,∀σ:Ren,ρ.le σ->σ.bw T.globals.size->∀b,av T fB fA F K fF σ (f x b) (f' x b))->av T fB fA F K fF ρ (forIn l b f) (forIn l b f'):=by
 intro l
 induction l with
 |nil=>intro ρ c b f f' _;exact ah rfl
 |cons x l i=>
  intro ρ c b f f' h;rw[ix,ix];refine af c (h x ar ρ (Ren.le_refl _) c b) λσ g j s k e=>?_;subst e
  cases s with
  |done b=>exact ah rfl
  |yield b=>grind[Ren.le_trans]
def Be(l:Array C)(d:ρ.bw T.globals.size)(b:Y){f f':C->Y->Sem (ForInStep Y)}
 (h:∀x,∀σ:Ren,ρ.le σ->σ.bw T.globals.size->∀b,av T fB fA F K fF σ (f x b) (f' x b)):av T fB fA F K fF ρ (forIn l b f) (forIn l b f'):=by
 rw[<-jp,<-jp];exact oa l.toList d b λx _=>h x
def oc(n:Nat)(c:ρ.bw T.globals.size)(b:C){f f':Nat->C->Sem (ForInStep C)}
 (h:∀x,∀σ:Ren,ρ.le σ->σ.bw T.globals.size->∀b,av T fB fA F K fF σ (f x b) (f' x b)):av T fB fA F K fF ρ (forIn [0:n] b f) (forIn [0:n] b f'):=by
 grind[Std.Legacy.Range.forIn_eq_forIn_range',oa]
def uT(h:ρ.bw T.globals.size){a' b b':aa}(i:AR ρ J a')(hb:AR ρ b b'):av T fB fA F K fF ρ (ep J b) (ep a' b'):=by
 have e1:(J.block==b.block)=(a'.block==b'.block):=by
  rw[hH,beq_iff_eq,beq_iff_eq];exact⟨λe=>h.fn i.1 (e▸hb.1),λe=>h.inj i.1 (e▸hb.1)⟩
 have t:(J==b)=(a'==b'):=by
  rw[hH,beq_iff_eq,beq_iff_eq];exact AR.eq_iff h i hb
 unfold ep;rw[e1,t];refine aN (λ_=>ah rfl) λ_=>?_;refine af h (pL i) λσ d m x j e=>?_;subst e;have tail:∀σ:Ren,ρ.le σ->σ.bw T.globals.size->av T fB fA F K fF σ
  (do
    ed J
    ed b
    if<-eq J b then return(<-ce (.extern "sameAddr.stringBytes" 2))==1
    pure hG)
  (do
    ed a'
    ed b'
    if<-eq a' b' then return(<-ce (.extern "sameAddr.stringBytes" 2))==1
    pure hG):=by
  intro σ d m;refine af m (tX m (i.mono d)) λf g q _ _ _=>?_;have d:=Ren.le_trans d g;refine af q (tX q (hb.mono d)) λf g r _ _ _=>?_;have d:=Ren.le_trans d g;refine af r (RA:=fF) ?_ λf g s x j e=>?_
  .unfold eq;have str:∀(f:Ren)(_:f.bw T.globals.size)(c k:aa),AR f c k->av T fB fA F K fF f (eu c) (eu k):=by
    intro f h c k hc;unfold eu;refine af h (pL hc) λσ d m x j e=>?_;subst e;refine aN (λ_=>ah rfl) λ_=>?_;refine af m (jS (d hc.1)) λf g u y y' e=>?_;subst e
    cases y with
    |none=>exact ah rfl
    |some v=>exact pL ⟨g (d hc.1),rfl,rfl⟩
   have o:∀(f:Ren)(_:f.bw T.globals.size)(c k:aa),AR f c k->av T fB fA F K fF f (do pure ((<-shape c.block) matches hO (_,0)):Sem Bool) (do pure ((<-shape k.block) matches hO (_,0)):Sem Bool):=by
    intro f h c k hc;exact af h (jS hc.1) λ_ _ _ x j e=>ah (by rw[e])
   refine af r (str _ r J a' (i.mono d)) λf g s x j e=>?_;have d:=Ren.le_trans d g;subst e;refine af s (str _ s b b' (hb.mono d)) λf g p x j e=>?_;have d:=Ren.le_trans d g;subst e;refine af p (o _ p J a' (i.mono d)) λf g l x j e=>?_;have d:=Ren.le_trans d g;subst e;refine af l (o _ l b b' (hb.mono d)) λf g l x j e=>?_;subst e;exact ah rfl
  .subst e;refine aN (λ_=>?_) λ_=>ah rfl;exact⟨_,rfl,λn=>⟨_,rfl,rfl⟩⟩
 refine af m (pL (hb.mono d)) λf g q y y' e=>?_;subst e;refine aN (λ_=>aM) λ_=>?_;exact tail f (Ren.le_trans d g) q
def wT(d:ρ.bw T.globals.size){u c:ad}(h:VR F ρ q L)(k:VR F ρ u c):∀{a a' b b':Option aa},q=vz a->L=vz a'->u=vz b->c=vz b'->av T fB fA F K fF ρ (eA a b) (eA a' b'):=by
 rintro a a' b b' rfl rfl rfl rfl
 cases h with
 |dS=>cases k<;>exact ah rfl
 |ptr e=>
  cases k with
  |dS=>exact ah rfl
  |ptr hb=>exact uT d e hb
def F0(a:ρ.bw T.globals.size)(t:ag):av T fB fA F K fF ρ (eD t) (eD t):=by
 unfold eD;refine af a (ee t) λσ _ _ i b e=>?_;subst e;exact aN (λ_=>aA) λ_=>ah rfl
set_option maxHeartbeats 8000000 in
def qS:∀(d:Nat){ρ:Ren}(_:ρ.bw T.globals.size)(t:ag){x x' y y':ad}(_:VR F ρ x x')(_:VR F ρ y y'),av T fB fA F K fF ρ (qG d t x y) (qG d t x' y'):=by
 intro d
 induction d with
 |zero=>intro ρ hI t x x' y y' _ _;exact aA
 |succ d ih=>
  intro ρ hI t x x' y y' hx hy;unfold qG;refine af hI (bk t) λσ hle bC ds ds' e=>?_;subst e;have hx:=hx.mono hle;have hy:=hy.mono hle
  cases ds with
  |bool=>cases hx<;>cases hy<;>first|exact ah rfl|exact ak
  |int k=>
   cases hx with
   |int k n=>
    cases hy with
    |int k' m=>exact aN (λ_=>ah rfl) λ_=>ak
    |dS=>exact aA
    |ptr _=>
     by_cases hn:n=0
     .subst hn;exact ah rfl
     .cases n with
      |ofNat n=>cases n with
       |zero=>exact absurd rfl hn
       |succ n=>exact aA
      |negSucc n=>exact aA
    |_=>exact ak
   |dS=>cases hy<;>exact aA
   |ptr ha=>
    cases hy with
    |int k' m=>
     by_cases hn:m=0
     .subst hn;exact ah rfl
     .cases m with
      |ofNat n=>cases n with
       |zero=>exact absurd rfl hn
       |succ n=>exact aA
      |negSucc n=>exact aA
    |ptr hb=>
     refine af bC (gC bC ha) λτ aI gE a a' ha=>?_;refine af gE (gC gE (hb.mono aI)) λυ gp iP b b' hb=>?_;have ha:=ha.1;have hb:=hb.1;have ha:=ha.mono gp;refine bI ?_;have e1:(a.1.block==b.1.block)=(a'.1.block==b'.1.block):=by
      rw[hH,beq_iff_eq,beq_iff_eq];exact⟨λe=>iP.fn ha.1 (e▸hb.1),λe=>iP.inj ha.1 (e▸hb.1)⟩
     have e2:(a.1==b.1)=(a'.1==b'.1):=by
      rw[hH,beq_iff_eq,beq_iff_eq];exact AR.eq_iff iP ha hb
     have e3:decide (a.1.block<T.globals.size)=decide (a'.1.block<T.globals.size):=by
      rw[decide_eq_decide];exact iP.XS ha.1
     have rest:∀(φ:Ren),υ.le φ->φ.bw T.globals.size->av T fB fA F K fF φ
      (do
        let .named "sync.copyChecker" _:=(<-ch t).desc|unsupported s6
        if a.1==b.1 then pure hw else bv s6)
      (do
        let .named "sync.copyChecker" _:=(<-ch t).desc|unsupported s6
        if a'.1==b'.1 then pure hw else bv s6):=by
      intro φ _ hIf;refine af hIf (ee t) λχ _ _ i i' e=>?_;subst e;rw[e2];split
      .exact aN (λ_=>ah rfl) λ_=>aA
      .exact aA
     simp only[e1];show(av T fB fA F K) fF υ (if(_&&decide (a.1.block<T.globals.size))=hw then _ else _) (if(_&&decide (a'.1.block<T.globals.size))=hw then _ else _);rw[e3];refine aN (λ_=>?_) λ_=>rest υ (Ren.le_refl _) iP;refine af iP (iA iP ha) λφ kY qq z z' e=>?_;subst e;refine af qq (iA qq (hb.mono kY)) λ_ _ _ z z' e=>?_;subst e;exact ah rfl
    |_=>exact aA
   |_=>cases hy<;>first|exact ak|exact aA
  |float k=>
   cases hx<;>cases hy<;>first|exact aN (λ_=>ah rfl) (λ_=>ak)|exact ak
  |complex k=>
   cases hx<;>cases hy<;>first|exact aN (λ_=>ah rfl) (λ_=>ak)|exact ak
  |string=>cases hx<;>cases hy<;>first|exact ah rfl|exact ak
  |pointer elem=>
   cases hx with
   |dS=>cases hy<;>first|exact ah rfl|exact ak
   |ptr ha=>
    cases hy with
    |dS=>exact ah rfl
    |ptr hb=>
     refine af bC (bN bC elem) λτ aI gE n n' e=>?_;subst e;refine aN (λ_=>uT gE (ha.mono aI) (hb.mono aI)) λ_=>?_;have e2:(_==_)=(_==_):=Bool.eq_iff_iff.2 ((beq_iff_eq.trans (AR.eq_iff gE (ha.mono aI) (hb.mono aI))).trans beq_iff_eq.symm);rw[e2];refine aN (λ_=>ah rfl) λ_=>?_;exact⟨_,rfl,λn=>⟨_,rfl,rfl⟩⟩
    |_=>exact ak
   |_=>cases hy<;>exact ak
  |unsafePointer=>
   cases hx<;>cases hy<;>first|exact ak|(refine wT bC ?_ ?_ rfl rfl rfl rfl<;>(constructor<;>assumption))
  |chan _ _=>cases hx<;>cases hy<;>exact ak
  |interface ms=>
   cases hx with
   |nilIface=>cases hy<;>first|exact ah rfl|exact ak
   |iface tx hvx=>
    cases hy with
    |nilIface=>exact ah rfl
    |iface ty hvy=>
     refine aN (λ_=>ah rfl) λ_=>?_;refine af bC (ee tx) λτ aI gE i i' e=>?_;subst e;refine aN (λ_=>?_) λ_=>ih gE tx (hvx.mono aI) (hvy.mono aI);refine bI ?_;refine bI ?_;rw[rX T fA fB];show(av T fB fA F K) fF τ (if(l5 ⟨T,fB⟩ (mm ⟨T,fB⟩) tx)=hw then _ else _) (if(l5 ⟨T,fB⟩ (mm ⟨T,fB⟩) tx)=hw then _ else _);refine aN (λ_=>aM) λ_=>?_;refine af gE (F0 gE tx) λυ _ _ z z' e=>?_;subst e;exact cX _
    |_=>exact ak
   |_=>cases hy<;>exact ak
  |struct fields=>
   cases hx with
   |agg Tw=>
    cases hy with
    |agg hys=>
     refine bI ?_;rw[rW T fA fB];refine aN (λ_=>aM) λ_=>?_;refine af bC (Be fields bC _ λf τ aI gE b=>?_) λυ _ _ z z' e=>?_
     .refine aN (λ_=>?_) λ_=>ah rfl;refine af gE (kI gE f.type (VA.mono aI Tw) f.offset) λυ gp iP p p' hp=>?_;refine af iP (kI iP f.type (VA.mono gp (VA.mono aI hys)) f.offset) λφ kY qq q q' hq=>?_;refine af qq (ih qq f.type (hp.mono kY) hq) λ_ _ _ z z' e=>?_;subst e;exact aN (λ_=>ah rfl) λ_=>ah rfl
     .subst e;obtain⟨z1,z2⟩:=z;cases z1<;>exact ah rfl
    |_=>exact ak
   |_=>cases hy<;>exact ak
  |array len elem=>
   cases hx with
   |agg Tw=>
    cases hy with
    |agg hys=>
     refine af bC (bN bC elem) λτ0 X2 hI0 n n' e=>?_;subst e;have Tw:=VA.mono X2 Tw;have hys:=VA.mono X2 hys;refine af hI0 (oc len hI0 _ λi τ aI gE b=>?_) λυ _ _ z z' e=>?_
     .refine af gE (kI gE elem (VA.mono aI Tw) (i*n)) λυ gp iP p p' hp=>?_;refine af iP (kI iP elem (VA.mono gp (VA.mono aI hys)) (i*n)) λφ kY qq q q' hq=>?_;refine af qq (ih qq elem (hp.mono kY) hq) λ_ _ _ z z' e=>?_;subst e;exact aN (λ_=>ah rfl) λ_=>ah rfl
     .subst e;obtain⟨z1,z2⟩:=z;cases z1<;>exact ah rfl
    |_=>exact ak
   |_=>cases hy<;>exact ak
  |slice _=>cases hx<;>cases hy<;>first|exact ah rfl|exact ak
  |map _ _=>cases hx<;>cases hy<;>first|exact ah rfl|exact ak
  |func _ _ _=>cases hx<;>cases hy<;>first|exact ah rfl|exact ak
  |_=>cases hx<;>cases hy<;>exact ak
def CX(a:ρ.bw T.globals.size)(d:Nat)(t:ag):av T fB fA F K fF ρ (qH d t vG vG) (qH d t vG vG):=by
 cases d with
 |zero=>exact aA
 |succ d=>
  unfold qH;refine af a (bk t) λσ b f ds c e=>?_;subst e;cases ds<;>exact ah rfl
def F1(d:ρ.bw T.globals.size)(op:eE)(t:ag)(x y:eN){b b':ad}(f:VR F ρ q L)(hb:VR F ρ b b')(g:q≠v3 #[])(c:b≠v3 #[])
 (hg:(op matches xa | .neq)=hw->lM ⟨T,fB⟩ (mm ⟨T,fB⟩) t=hG):av T fB fA F K fF ρ (eX op t x y q b) (eX op t x y L b'):=by
 unfold eX;refine aN (λ_=>ah rfl) λj=>?_;have h:lM ⟨T,fB⟩ (mm ⟨T,fB⟩) t=hG:=hg aS
 cases f with
 |nilIface=>
  cases hb with
  |nilIface=>
   refine aN (λ_=>ah rfl) λ_=>?_;refine af d (CX d _ t) λ_ _ _ z k e=>?_;subst e;exact aN (λ_=>aA) λ_=>ah rfl
  |hole=>exact absurd rfl c
  |_=>exact ah rfl
 |agg l=>
  cases hb with
  |agg i=>
   refine bI (bI ?_);rw[kJ T fA fB];show(av T fB fA F K) fF ρ (if(!lM ⟨T,fB⟩ (mm ⟨T,fB⟩) t)=hw then _ else _) (if(!lM ⟨T,fB⟩ (mm ⟨T,fB⟩) t)=hw then _ else _);rw[h];exact ah rfl
  |hole=>exact absurd rfl c
  |_=>exact ah rfl
 |hole=>exact absurd rfl g
 |_=>cases hb with
  |hole=>exact absurd rfl c
  |_=>exact ah rfl
def uU(op:eE)(k:IntKind)(a b:Int):av T fB fA F K (RV F) ρ (qN op k a b) (qN op k a b):=by
 cases op<;>first|exact ah (.int _ _)|exact ak
def Lz(op:eE)(a b:Int):av T fB fA F K (RV F) ρ (qU op a b) (qU op a b):=by
 cases op<;>first|exact ah (.bool _)|exact ak
def wU(op:eE)(k:IntKind)(a b:Int):av T fB fA F K (RV F) ρ (q7 op k a b) (q7 op k a b):=by
 cases op<;>first|exact ah (.int _ _)|exact ak
def LA(op:eE)(k:IntKind)(a b:Int):av T fB fA F K (RV F) ρ (q8 op k a b) (q8 op k a b):=by
 unfold q8;refine aN (λ_=>cX _) λ_=>?_;cases op<;>first|exact ah (.int _ _)|exact ak
def CY(op:eE)(k j:IntKind)(a b:Int):av T fB fA F K (RV F) ρ (q9 op k a j b) (q9 op k a j b):=by
 unfold q9;refine aN (λ_=>cX _) λ_=>?_;cases op<;>first|exact ah (.int _ _)|exact ak
def oe(op:eE)(a b:ByteArray):av T fB fA F K (RV F) ρ (rf op a b) (rf op a b):=by
 unfold rf;cases op<;>first|exact aN (λ_=>aA) (λ_=>ah (.string _))|exact ah (.bool _)|exact ak
def RP:Ren->ad->ad->Prop:=λρ v v'=>∃a b,v=vz (hO a)/\v'=vz (hO b)/\AR ρ a b
def uV(j:ρ.bw T.globals.size){y y':ad}(g:VR F ρ q L)(hy:VR F ρ y y')(ts:Array ag)(t:ag):av T fB fA F K RP ρ (se ts t #[q,y]) (se ts t #[L,y']):=by
 unfold se;have main:∀{p k:Option aa},q=vz p->L=vz k->av T fB fA F K RP ρ (se ts t #[q,y]) (se ts t #[L,y']):=by
  rintro p k rfl rfl;unfold se;refine af j (Oa j hy) λσ b h n n' e=>?_;subst e;refine aN (λ_=>?_) λ_=>?_
  .cases g with
   |dS=>first|exact aA|exact aM
   |ptr d=>
    refine af h (z8 h (b d.1)) λl i _ z m e=>?_;obtain⟨rfl,rfl⟩:=e;exact ah ⟨_,_,rfl,rfl,(d.mono b).mono i⟩
  .refine aN (λ_=>aM) λ_=>?_
   cases g with
   |dS=>first|exact aA|exact aM
   |@ptr a o d=>
    refine af h (jS (b d.1)) λl i _ z m e=>?_;subst e
    cases z with
    |none=>first|exact aA|exact aM
    |some c=>
     refine bI ?_;have ha':=(d.mono b).mono i;rw[rV T fA fB,<-ha'.2.1];show(av T fB fA F K) RP l (match ec ⟨T,fB⟩ (mm ⟨T,fB⟩) c.1 (c.2 / mc ⟨T,fB⟩ c.1) a.off n with|some off=>_|none=>_) (match ec ⟨T,fB⟩ (mm ⟨T,fB⟩) c.1 (c.2 / mc ⟨T,fB⟩ c.1) a.off n with|some off=>_|none=>_)
     cases ec ⟨T,fB⟩ (mm ⟨T,fB⟩) c.1 (c.2 / mc ⟨T,fB⟩ c.1) a.off n with
     |none=>exact aA
     |some off=>exact ah ⟨_,_,rfl,rfl,ha'.1,rfl,ha'.2.2⟩
 cases g with
 |dS=>exact main rfl rfl
 |ptr d=>exact main rfl rfl
 |_=>first|exact ak|exact bz
def CZ(b:ρ.bw T.globals.size){a':aa}(h:AR ρ J a')(l:Bool):av T fB fA F K (RV F) ρ (asNumber J l) (asNumber a' l):=
 af b (jO (.number l h)) λ_ _ _ _ _ c=>ah (.ptr ⟨c,rfl,rfl⟩)
def gQ(c:ρ.bw T.globals.size){y y':ad}(d:VR F ρ q L)(hy:VR F ρ y y')(ts:Array ag)(t:ag):av T fB fA F K (RV F) ρ (se ts t #[q,y]) (se ts t #[L,y']):=
 (uV c d hy ts t).mono λσ _ a f⟨_,_,e1,e,h⟩=>by rw[e1,e];exact .ptr h
def eZ(j:ρ.bw T.globals.size)(t:ag){y y':ad}(f:VR F ρ q L)(hy:VR F ρ y y'):av T fB fA F K (RV F) ρ (e7 t q y) (e7 t L y'):=by
 unfold e7;refine af j (bk t) λσ a b d s e=>?_;subst e;refine aN (λ_=>aM) λ_=>?_;have f:=f.mono a;have hy:=hy.mono a
 cases f with
 |ptr k=>
  refine af b (gC b k) λu l i z m c=>?_;obtain⟨z1,v⟩:=z;obtain⟨n,o⟩:=m;obtain⟨c,e⟩:=c;simp only at c e;subst e;refine af i (uV i (.ptr c) (hy.mono l) _ _) λw A p x B r=>?_;obtain⟨_,_,rfl,rfl,hb⟩:=r;exact CZ p hb _
 |dS=>exact gQ b .dS hy _ _
 |hole _ h=>exact ak
 |_=>exact gQ b (by first|exact .wG _ _ _|exact .dK _ _|(constructor<;>assumption)) hy _ _
def vF(a:ρ.bw T.globals.size)(t:ag){y y':ad}(f:VR F ρ q L)(hy:VR F ρ y y'):av T fB fA F K (RV F) ρ (e8 t q y) (e8 t L y'):=by
 unfold e8
 cases f with
 |ptr d=>
  refine af a (uS a d.1) λj e g z k i=>?_
  rcases i with⟨rfl,rfl⟩|⟨b,b',l,rfl,rfl,hb⟩
  .exact gQ g (.ptr (d.mono e)) (hy.mono e) #[] t
  .exact aA
 |dS=>exact gQ a .dS hy #[] t
 |hole _ h=>exact ak
 |_=>exact gQ a (by first|exact .wG _ _ _|exact .dK _ _|(constructor<;>assumption)) hy #[] t
def rY(c:ρ.bw T.globals.size){a' b b':aa}(d:AR ρ J a')(hb:AR ρ b b'):av T fB fA F K fF ρ (rh J b) (rh a' b'):=by
 unfold rh;refine bI ?_;have e1:(J.block != b.block)=(a'.block != b'.block):=by
  simp only[bne];congr 1;rw[hH,beq_iff_eq,beq_iff_eq];exact⟨λe=>c.fn d.1 (e▸hb.1),λe=>c.inj d.1 (e▸hb.1)⟩
 have g:decide (J.block>=T.globals.size)=decide (a'.block>=T.globals.size):=by
  rw[decide_eq_decide];have:=c.XS d.1;omega
 show(av T fB fA F K) fF ρ (if(_||decide (J.block>=T.globals.size))=hw then _ else _) (if(_||decide (a'.block>=T.globals.size))=hw then _ else _);rw[e1,g];refine aN (λ_=>aM) λ_=>?_;refine af c (iA c d) λj h f z i e=>?_;subst e;refine af f (iA f (hb.mono h)) λ_ _ _ z i e=>?_;subst e;exact ah rfl
def qT(f:ρ.bw T.globals.size)(k:IntKind){a':aa}(c:AR ρ J a')(n:Int):av T fB fA F K (RV F) ρ (rk k J n) (rk k a' n):=by
 unfold rk;refine af f (jS c.1) λσ b g z h e=>?_;subst e
 cases z with
 |none=>exact aA
 |some j=>
  refine af g (ee j.1) λm l d i o e=>?_;subst e;refine aN (λ_=>aM) λ_=>?_;refine af d (iA d ((c.mono b).mono l)) λ_ _ _ z h e=>?_;subst e;exact ah (.int _ _)
def mN(c:ρ.bw T.globals.size)(op:eE){a' b b':aa}(d:AR ρ J a')(hb:AR ρ b b'):av T fB fA F K (RV F) ρ (rm op J b) (rm op a' b'):=by
 unfold rm;refine af c (rY c d hb) λ_ _ _ z f e=>?_;subst e;obtain⟨x,y⟩:=z;cases op<;>first|exact ah (.bool _)|exact aA
def F2(c:ρ.bw T.globals.size)(k:IntKind){a' b b':aa}(d:AR ρ J a')(hb:AR ρ b b'):av T fB fA F K (RV F) ρ (ro k J b) (ro k a' b'):=by
 unfold ro;refine af c (rY c d hb) λ_ _ _ z f e=>?_;subst e;exact ah (.int _ _)
def wV{R:Ren->C->Y->Prop}(g:ρ.bw T.globals.size){a' b b':aa}(l:AR ρ J a')(hb:AR ρ b b'){f:aa->aa->Sem C}{c:aa->aa->Sem Y}
 (h:∀(σ:Ren),ρ.le σ->σ.bw T.globals.size->∀J a' b b',AR σ J a'->AR σ b b'->av T fB fA F K R σ (f J b) (c a' b')) :
 av T fB fA F K R ρ (do f (<-el J).1 (<-el b).1) (do c (<-el a').1 (<-el b').1):=by
 refine af g (gC g l) λp i j z q m=>?_;refine af j (gC j (hb.mono i)) λn k o y y' hy=>?_;exact h n (Ren.le_trans i k) o _ _ _ _ (m.1.mono k) hy.1
set_option maxHeartbeats 1000000 in
def Oj(hI:ρ.bw T.globals.size)(op:eE)(t:ag){b b':ad}(ha:VR F ρ q L)(hb:VR F ρ b b')(na:q≠v3 #[])(nb:b≠v3 #[]):av T fB fA F K (RV F) ρ (binOp op t q b) (binOp op t L b'):=by
 have eqs:av T fB fA F K (RV F) ρ (do pure (vu (<-rq t q b)):Sem ad) (do pure (vu (<-rq t L b')):Sem ad):=
  af hI (qS _ hI t ha hb) λ_ _ _ z z' e=>ah (by rw[e];exact .bool _)
 have neqs:av T fB fA F K (RV F) ρ (do pure (vu (!(<-rq t q b))):Sem ad) (do pure (vu (!(<-rq t L b'))):Sem ad):=
  af hI (qS _ hI t ha hb) λ_ _ _ z z' e=>ah (by rw[e];exact .bool _)
 have plus:∀{x x' y y':ad},VR F ρ x x'->VR F ρ y y'->av T fB fA F K (RV F) ρ (do if(<-ci t) matches .unsafePointer then e8 t x y else e7 t x y:Sem ad) (do if(<-ci t) matches .unsafePointer then e8 t x' y' else e7 t x' y':Sem ad):=by
  intro x x' y y' hx hy;refine af hI (bk t) λσ hle bC d d' e=>?_;subst e;exact aN (λ_=>vF bC t (hx.mono hle) (hy.mono hle)) λ_=>eZ bC t (hx.mono hle) (hy.mono hle)
 by_cases h1:∃k i j l,q=vw k i/\b=vw j l
 .obtain⟨k,i,j,l,rfl,rfl⟩:=h1;cases ha;cases hb
  cases op with
  |shl=>unfold binOp;exact CY _ _ _ _ _
  |shr=>unfold binOp;exact CY _ _ _ _ _
  |_=>
   unfold binOp;refine aN (λ_=>ak) λ_=>?_
   first|exact uU _ _ _ _|exact LA _ _ _ _|exact wU _ _ _ _|exact Lz _ _ _
 by_cases h2:∃s u,q=vx s/\b=vx u
 .obtain⟨s,u,rfl,rfl⟩:=h2;cases ha;cases hb;cases op<;>(unfold binOp;exact oe _ _ _)
 by_cases he:op=xa
 .subst he;cases ha<;>cases hb<;>first|exact absurd rfl na|exact absurd rfl nb|exact eqs|grind|grind
 by_cases hn:op=.neq
 .subst hn;cases ha<;>cases hb<;>first|exact absurd rfl na|exact absurd rfl nb|exact neqs|grind|grind
 generalize fR:binOp op t L b'=s';unfold binOp;split
 .grind
 .grind
 .grind
 .cases ha
 .cases ha
 .grind
 .exact absurd rfl he
 .exact absurd rfl hn
 .cases hb;cases ha<;>(subst fR;first|exact plus .dS (.int _ _)|exact plus (.ptr bo) (.int _ _))
 .cases ha;cases hb<;>(subst fR;first|exact eZ hI t .dS (.int _ _)|exact eZ hI t (.ptr bo) (.int _ _))
 .cases hb;cases ha<;>(subst fR;first|exact eZ hI t .dS (.int _ _)|exact eZ hI t (.ptr bo) (.int _ _))
 .cases ha;cases hb;subst fR;exact wV hI bo bo λσ _ bC q L b b' ha hb=>F2 bC _ ha hb
 .cases ha;cases hb;subst fR;exact wV hI bo bo λσ _ bC q L b b' ha hb=>mN bC _ ha hb
 .cases ha;cases hb;subst fR;exact wV hI bo bo λσ _ bC q L b b' ha hb=>mN bC _ ha hb
 .cases ha;cases hb;subst fR;exact wV hI bo bo λσ _ bC q L b b' ha hb=>mN bC _ ha hb
 .cases ha;cases hb;subst fR;exact wV hI bo bo λσ _ bC q L b b' ha hb=>mN bC _ ha hb
 .cases ha;cases hb;subst fR;exact af hI (gC hI bo) λ_ _ bC z z' hz=>qT bC _ hz.1 _
 .cases ha;cases hb;subst fR;exact af hI (gC hI bo) λ_ _ bC z z' hz=>qT bC _ hz.1 _
 .cases ha;cases hb;subst fR;exact af hI (gC hI bo) λ_ _ bC z z' hz=>qT bC _ hz.1 _
 .exact aA
 .exact aA
 .exact ak
def wX(t:ag)(g:e9->Sem C):kG (ci t) g=kS λp=>match p.underlying t with|some d=>g d|none=>stuck "no such type":=by
 show kS _=kS _;congr 1;funext p;show kG (match p.underlying t with|some d=>pure d|none=>stuck "no such type") g=_;cases p.underlying t<;>rfl
def Ol(t:ag)(b:ad):bW T fB (rq t (v3 #[]) b):=by
 unfold rq rr qG;show bW T fB (kG (ci t) _);rw[wX];show bW T fB (match mF ⟨T,fB⟩ t with|some d=>_|none=>stuck "no such type")
 cases mF ⟨T,fB⟩ t with
 |none=>trivial
 |some d=>cases d<;>first
  |trivial
  |(cases b<;>first|trivial|rfl|(rename_i o;cases o<;>first|trivial|rfl)|(rename_i o _ _;cases o<;>first|trivial|rfl))
def Om(t:ag)(b:ad):bW T fB (rq t b (v3 #[])):=by
 unfold rq rr qG;show bW T fB (kG (ci t) _);rw[wX];show bW T fB (match mF ⟨T,fB⟩ t with|some d=>_|none=>stuck "no such type")
 cases mF ⟨T,fB⟩ t with
 |none=>trivial
 |some d=>cases d<;>first
  |trivial
  |(cases b<;>first|trivial|rfl|(rename_i o;cases o<;>first|trivial|rfl)|(rename_i o _ _;cases o<;>first|trivial|rfl))
def X3{R:Ren->C->Y->Prop}(t:ag)(b:ad)(f:Bool->Sem C)(s':Sem Y):av T fB fA F K R ρ (rq t (v3 #[]) b >>= f) s':=bW.rel (bW.bind (Ol t b)) s'
def X4{R:Ren->C->Y->Prop}(t:ag)(b:ad)(f:Bool->Sem C)(s':Sem Y):av T fB fA F K R ρ (rq t b (v3 #[]) >>= f) s':=bW.rel (bW.bind (Om t b)) s'
def F6(d:ρ.bw T.globals.size)(op:eE)(t:ag)(x y:eN){b b':ad}(g:VR F ρ q L)(hb:VR F ρ b b')
 (hg:(op matches xa | .neq)=hw->lM ⟨T,fB⟩ (mm ⟨T,fB⟩) t=hG):av T fB fA F K (RV F) ρ (do eX op t x y q b;binOp op t q b) (do eX op t x y L b';binOp op t L b'):=by
 by_cases e:q=v3 #[]
 .subst e;generalize(do eX op t x y L b';binOp op t L b')=h;cases op<;>first
   |exact X3 t b _ _
   |(cases b<;>first|exact ak|exact(show dw s6=hw from rfl)|(rename_i o;cases o<;>first|exact ak|exact(show dw s6=hw from rfl)))
 by_cases f:b=v3 #[]
 .subst f;generalize(do eX op t x y L b';binOp op t L b')=h;cases op<;>first
   |(cases q<;>exact X4 t _ _ _)
   |(cases q<;>first|exact ak|exact(show dw s6=hw from rfl)|(rename_i o;cases o<;>first|exact ak|exact(show dw s6=hw from rfl)))
 exact af d (F1 d op t x y g hb e f hg) λσ c d _ _ _=>Oj d op t (g.mono c) (hb.mono c) e f
end
def tY(T:bd)(t:ag):Option e9:=mF ⟨T,#[]⟩ t
def tZ(T:bd)(t:ag):Bool:=match tY T t with|some (.int _)=>hw|_=>hG
def og(T:bd):Nat->ag->Bool
 |0,_=>hG
 |m+1,t=>match tY T t with
  |some (.interface _)=>hG
  |some (.array _ e)=>og T m e
  |some (.struct fs)=>fs.toList.all λf=>og T m f.type
  |_=>hw
section
variable {T:bd}{fB fA:Array bi}{F:ac->Bool}{K:a8->Bool}{ρ σ:Ren}
def fG(t:ag):av T fB fA F K (λ_ a a'=>a=a'/\tY T t=hO a) ρ (ci t) (ci t):=by
 unfold ci;refine bI ?_;show(av T fB fA F K) _ ρ (match tY T t with|some i=>pure i|none=>stuck "no such type") (match tY T t with|some i=>pure i|none=>stuck "no such type")
 cases h:tY T t with
 |none=>exact ak
 |some d=>exact ah ⟨rfl,rfl⟩
def On{op:UnOp}(h:VR F ρ q L):av T fB fA F K (RV F) ρ (rs op q) (rs op L):=by
 unfold rs;cases op<;>cases h<;>first|exact ak|exact uU _ _ _ _|exact wU _ _ _ _|exact ah (.bool _)|exact aA
def F8(g:ρ.bw T.globals.size){d:ag}(hs:tZ T R=hw)(hd:tZ T d=hw)(h:VR F ρ q L):av T fB fA F K (RV F) ρ (fb R d q) (fb R d L):=by
 unfold fb;refine af g (fG R) λσ c i a o e=>?_;obtain⟨rfl,l⟩:=e;refine af i (fG d) λp m f b b' e=>?_;obtain⟨rfl,n⟩:=e;have h:=(h.mono c).mono m;simp only[tZ,l]at hs;simp only[tZ,n]at hd
 cases a with
 |int j=>
  cases b with
  |int k=>cases h<;>first|exact ah (.int _ _)|exact aA
  |_=>exact absurd hd ar
 |_=>exact absurd hs ar
def uW(b:Bool):∀(n:Nat){ρ:Ren}(_:ρ.bw T.globals.size)(m:Nat)(t:ag)(_:og T m t=hw){v v':ad}(_:VR F ρ v v'),av T fB fA F K fF ρ (oh b n t v) (oh b n t v'):=by
 intro n
 induction n with
 |zero=>intro ρ o m t a v v' hv;exact aA
 |succ n q=>
  intro ρ o m t a v v' hv
  cases m with
  |zero=>simp[og]at a
  |succ m=>
   unfold oh;refine af o (fG t) λσ j h d D e=>?_;obtain⟨rfl,x⟩:=e;have hv:=hv.mono j;simp only[og,x]at a
   cases d with
   |interface E=>exact absurd a ar
   |array len elem=>
    simp only at a
    cases hv with
    |agg hc=>
     refine af h (oc len h _ λi y k c u=>?_) λ_ _ _ z A e=>?_
     .refine af c (bN c elem) λB r g s H e=>?_;subst e;refine af g (kI g elem (VA.mono r (VA.mono k hc)) _) λI J w p C l=>?_;refine af w (q w m elem a l) λ_ _ _ _ _ _=>ah rfl
     .exact ah rfl
    |_=>exact ak
   |struct fields=>
    simp only[df]at a
    cases hv with
    |agg hc=>
     refine af h (RA:=fF) ?_ λ_ _ _ z A e=>ah rfl;rw[<-jp,<-jp];refine oa fields.toList h _ λf hf y k c u=>?_;refine aN (λ_=>?_) λ_=>ah rfl;refine af c (kI c f.type (VA.mono k hc) f.offset) λB r g p C l=>?_;exact af g (q g m f.type (a f hf) l) λ_ _ _ _ _ _=>ah rfl
    |_=>exact ak
   |_=>cases hv<;>exact ah rfl
inductive ua(F:ac->Bool)(ρ:Ren):Option (Nat×ad)->Option (Nat×ad)->Prop
 |none:ua F ρ hN hN
 |some (i:Nat) {v v':ad} (h:VR F ρ v v'):ua F ρ (hO (i,v)) (hO (i,v'))
def C3(d:e9){e e':ad}(a:VR F ρ q L)(b:VR F ρ e e'):ol d q e=ol d L e'\/(ol d q e=hN/\(q=v3 #[]\/e=v3 #[])):=by
 cases a with
 |hole=>exact vd ⟨by cases d<;>rfl,vc rfl⟩
 |_=>cases b with
  |hole=>exact vd ⟨by cases d<;>rfl,vd rfl⟩
  |_=>left;cases d<;>rfl
def LC{d:e9}(hd:tY T R=hO d){b:Bool}(h:ol d q L=hO b)(f:Bool->Sem C)(hf:bW T fB (f b)):bW T fB (kG (rq R q L) f):=by
 unfold rq rr qG;show bW T fB (kG (kG (ci R) _) f);rw[wX];show bW T fB (kG (match tY T R with|some d=>_|none=>stuck "no such type") f);rw[hd];unfold ol at h;split at h
 .split at h
  .injection h with h
   subst h;rename_i c;simp only[c,if_true];exact hf
  .cases h
 .injection h with h;subst h;exact hf
 .injection h with h;subst h;exact hf
 .cases h
def C4{t:ag}{d:e9}(hd:tY T t=hO d){k k':ad}(j:VR F ρ k k'):∀{es a:List a7}(i:Nat),bD F ρ es a->
 (ow d k es i=hN/\ow d k' a i=hN)\/(∃r f,ow d k es i=hO r/\ow d k' a i=hO f/\ua F ρ r f)\/(ow d k es i=hN/\bW T fB (o6 t k es i)):=by
 intro es
 induction es with
 |nil=>intro a i h;cases h;exact vd (vc ⟨_,_,rfl,rfl,.none⟩)
 |cons e es l=>
  intro a i h
  cases h with
  |cons g m=>
   rcases C3 d j g.key with hs|⟨hs,c⟩
   .simp only[ow,<-hs]
    cases hb:ol d k e.key with
    |none=>exact vc ⟨rfl,rfl⟩
    |some b=>cases b with
     |true=>exact vd (vc ⟨_,_,rfl,rfl,.some i g.val⟩)
     |false=>
      rcases l (i+1) m with h|h|⟨n,o⟩
      .exact vc h
      .exact vd (vc h)
      .exact vd (vd ⟨n,LC hd hb _ o⟩)
   .refine vd (vd ⟨by simp only[ow,hs],?_⟩);show bW T fB (kG (rq t k e.key) _)
    rcases c with c|c
    .rw[c];exact(Ol t _).bind
    .rw[c];exact(Om t _).bind
def zy(t:ag):∀{es c:List a7}{ρ:Ren}(_:ρ.bw T.globals.size){k k':ad}(_:VR F ρ k k')(i:Nat),bD F ρ es c->av T fB fA F K (λσ r j=>ua F σ r j) ρ (o6 t k es i) (o6 t k' c i):=by
 intro es
 induction es with
 |nil=>intro c ρ d k k' f i h;cases h;exact ah .none
 |cons e es l=>
  intro c ρ d k k' f i h
  cases h with
  |cons g m=>
   refine af d (qS _ d t f g.key) λσ a n b b' e=>?_;subst e;exact aN (λ_=>ah (.some i (g.val.mono a))) λ_=>l n (f.mono a) (i+1) (m.mono a)
def wZ(j:ρ.bw T.globals.size)(t:ag)(f:VR F ρ q L){es g:List a7}(h:bD F ρ es g):av T fB fA F K (λσ r i=>ua F σ r i) ρ (pg t q es) (pg t L g):=by
 unfold pg;refine af j (fG t) λσ a l d n e=>?_;obtain⟨rfl,hd⟩:=e
 rcases C4 (fB:=fB) hd (f.mono a) 0 (h.mono a) with⟨b,c⟩|⟨r,i,b,c,m⟩|⟨b,c⟩
 .rw[b,c];exact zy t l (f.mono a) 0 (h.mono a)
 .rw[b,c];exact ah m
 .rw[b];exact c.rel _
def bD.isEmpty{es a:Array a7}(h:bD F ρ es.toList a.toList):es.isEmpty=a.isEmpty:=by
 have:=h.length;simp only[qh]at this;simp[Array.isEmpty,this]
theorem bD.get?{l l':List a7}(h:bD F ρ l l')(i:Nat):(l[i]?=hN/\l'[i]?=hN)\/∃e e',l[i]?=hO e/\l'[i]?=hO e'/\zo F ρ e e':=by
 induction h generalizing i with
 |nil=>exact vc ⟨rfl,rfl⟩
 |cons a _ b=>
  grind
theorem bD.append{l l' m m':List a7}(x:bD F ρ l l')(y:bD F ρ m m'):bD F ρ (l++m) (l'++m'):=by
 induction x with
 |nil=>exact y
 |cons a _ b=>exact .cons a b
def bD.modify{l l':List a7}(x:bD F ρ l l')(i:Nat){f f':a7->a7}(hf:∀e e',zo F ρ e e'->zo F ρ (f e) (f' e')):bD F ρ (l.modify i f) (l'.modify i f'):=by
 induction x generalizing i with
 |nil=>cases i<;>exact .nil
 |cons a t b=>
  cases i with
  |zero=>exact .cons (hf _ _ a) t
  |succ i=>exact .cons a (b i)
def bD.filter{l l':List a7}(x:bD F ρ l l'){p:a7->Bool}(c:∀e e':a7,e.born=e'.born->p e=p e'):bD F ρ (l.filter p) (l'.filter p):=by
 induction x with
 |nil=>exact .nil
 |cons a t b=>
  rw[iC,iC,<-c _ _ a.born];split
  .exact .cons a b
  .exact b
def bD.find?{l l':List a7}(x:bD F ρ l l'){p:a7->Bool}(b:∀e e':a7,e.born=e'.born->p e=p e'):(l.find? p=hN/\l'.find? p=hN)\/∃e e',l.find? p=hO e/\l'.find? p=hO e'/\zo F ρ e e':=by
 induction x with
 |nil=>exact vc ⟨rfl,rfl⟩
 |cons a t c=>
  rw[i0,i0,<-b _ _ a.born];grind
def bD.all{l l':List a7}(x:bD F ρ l l'){p:a7->Bool}(b:∀e e':a7,e.born=e'.born->p e=p e'):l.all p=l'.all p:=by
 induction x with
 |nil=>rfl
 |cons a t c=>simp only[i1,b _ _ a.born,c]
def LD{Z:ag->Bool}(E:dM T F Z)(H:ρ.bw T.globals.size)(t:ag){m:Nat}(I:∀k e,tY T t=hO (.map k e)->og T m k=hw/\Z e=hw){x w i i':ad}(q:VR F ρ x w)(hi:VR F ρ i i')(ok:Bool) :
 av T fB fA F K (RV F) ρ (pi t x i ok) (pi t w i' ok):=by
 unfold pi;refine af H (fG t) λσ f y d Q e=>?_;obtain⟨rfl,J⟩:=e;have q:=q.mono f;have hi:=hi.mono f
 cases d with
 |map key elem=>
  obtain⟨zz,L⟩:=I key elem J;have a:∀c:Ren,σ.le c->c.bw T.globals.size->∀es l:Array a7,bD F c es.toList l.toList->av T fB fA F K (RV F) c
   (do
     oh es.isEmpty 10000 key i
     let(v,s)<-match<-pg key i es.toList with
      |some (_,v)=>pure (v,hw)
      |none=>pure (<-co elem,hG)
     pure (if ok then v3 #[v,vu s] else v))
   (do
     oh l.isEmpty 10000 key i'
     let(v,s)<-match<-pg key i' l.toList with
      |some (_,v)=>pure (v,hw)
      |none=>pure (<-co elem,hG)
     pure (if ok then v3 #[v,vu s] else v)):=by
   intro c n p es l A;rw[bD.isEmpty A];refine af p (uW _ _ p m key zz (hi.mono n)) λR B C _ _ _=>?_;refine af C (wZ C key ((hi.mono n).mono B) (A.mono B)) λM S D r U u=>?_;have fin:∀(g:Ren)(v v':ad)(b:Bool),VR F g v v'->av T fB fA F K (RV F) g (pure (if ok then v3 #[v,vu b] else v):Sem ad) (pure (if ok then v3 #[v',vu b] else v'):Sem ad):=by
    intro g v v' b hv;refine ah ?_;split
    .exact .tuple (VA.two hv (.bool b))
    .exact hv
   cases u with
   |none=>
    exact af D (gO E D L) λg _ _ z N O=>fin g z N hG O.1
   |some j hv=>exact fin M _ _ hw hv
  cases q with
  |qQ=>exact a σ (Ren.le_refl _) y #[] #[] .nil
  |map u=>
   refine af y (dA u) λc n p o V P=>?_
   cases P with
   |map clock h=>exact a c n p _ _ h
   |_=>exact bz
  |_=>exact bz
 |_=>exact ak
def Bf(g:ρ.bw T.globals.size):∀(n:Nat){a a' b b':ad},VR F ρ a a'->VR F ρ b b'->pk n a b=hw->pk n a' b'=hw:=by
 intro n;have ptr:∀{a a' b b':aa},AR ρ a a'->AR ρ b b'->(hO a==hO b)=hw->(hO a'==hO b')=hw:=by
  intro a a' b b' c hb;rw[beq_iff_eq,beq_iff_eq,hV,hV];exact(AR.eq_iff g c hb).1
 induction n with
 |zero=>
  intro a a' b b' c hb
  cases c with
  |hole=>intro h;unfold pk at h;cases h
  |_=>cases hb with
   |hole=>intro h;unfold pk at h;cases h
   |_=>first|exact id|(unfold pk;first|exact id|exact ptr bo bo)|(intro h;unfold pk at h;cases h)
 |succ n f=>
  intro a a' b b' c hb
  cases c with
  |hole=>intro h;unfold pk at h;cases h
  |iface t c=>
   cases hb with
   |iface u hb=>
    simp only[pk,dd];exact fun⟨x,y⟩=>⟨x,f c hb y⟩
   |_=>intro h;unfold pk at h;cases h
  |agg c=>
   cases hb with
   |agg hb=>
    have all:∀{l d m m':List ad},cU F ρ l d->cU F ρ m m'->((l.zip m).all fun(x,y)=>pk n x y)=hw->((d.zip m').all fun(x,y)=>pk n x y)=hw:=by
     intro l
     induction l with
     |nil=>intro d m m' h _ _;cases h;rfl
     |cons x l e=>
      intro d m m' h k
      cases h with
      |cons i j=>
       cases k with
       |nil=>intro _;rfl
       |cons k1 k2=>
        simp only[i2,i1,dd];exact fun⟨x,y⟩=>⟨f i k1 x,e j k2 y⟩
    simp only[pk,VA.size c,VA.size hb,dd];exact fun⟨x,y⟩=>⟨x,all c hb y⟩
   |_=>intro h;unfold pk at h;cases h
  |_=>cases hb with
   |hole=>intro h;unfold pk at h;cases h
   |_=>first|exact id|(unfold pk;first|exact id|exact ptr bo bo)|(intro h;unfold pk at h;cases h)
def C5(a b:ByteArray):(a==b)=hw↔a=b:=by
 obtain⟨x⟩:=a;obtain⟨y⟩:=b;show(x==y)=hw↔_;rw[beq_iff_eq];simp
def C6:∀(n:Nat){a b:ad},pk n a b=hw->a=b:=by
 intro n
 induction n with
 |zero=>intro a b h;cases a<;>cases b<;>first|rfl|(unfold pk at h;exact hJ h)|(unfold pk at h;simp only[dd,beq_iff_eq,C5]at h;simp[h])
 |succ n d=>
  intro a b h;have all:∀{l m:List ad},l.length=m.length->((l.zip m).all fun(x,y)=>pk n x y)=hw->l=m:=by
   intro l
   induction l with
   |nil=>intro m e _;cases m with
    |nil=>rfl
    |cons _ _=>cases e
   |cons x l c=>
    intro m e k
    cases m with
    |nil=>cases e
    |cons y m=>
     simp only[i2,i1,dd]at k;rw[d k.1,c (by simpa using e) k.2]
  cases a<;>cases b<;>first
   |rfl
   |(unfold pk at h;exact hJ h)
   |(unfold pk at h;simp only[dd,beq_iff_eq]at h;rw[h.1,d h.2];done)
   |(unfold pk at h;simp only[dd,beq_iff_eq]at h;exact congrArg Value.agg (Array.ext' (all (by simpa using h.1) h.2)))
   |(unfold pk at h;simp only[dd,beq_iff_eq,C5]at h;simp[h];done)
def Aa{es c:Array a7}(h:bD F ρ es.toList c.toList)(i:Nat)(f:VR F ρ q L):VR F ρ (((es[i]?).map (·.key)).getD q) (((c[i]?).map (·.key)).getD L):=by
 rcases bD.get? h i with⟨a,b⟩|⟨e,g,a,b,d⟩
 .grind
 .simp only[ib]at a b;rw[a,b];exact d.key
def lK(mapType:ag)(map key:ad):Sem (Nat×Array a7×Nat×Option (Nat×ad)):=do
 let .map keyType _<-ci mapType|stuck "MapUpdate: map type expected"
 match map with
 |v0 hN=>dx (.plain "assignment to entry in nil map")
 |v0 (hO r)=>
  let v8 es clock<-getObj r|stuck "MapUpdate: map expected"
  oh hG 10000 keyType key
  let f<-pg keyType key es.toList
  pure (r,es,clock,f)
 |_=>stuck "MapUpdate: map expected"
def rZ(key value:ad)(x:Nat×Array a7×Nat×Option (Nat×ad)):Sem Unit:=
 match x.2.2.2 with
 |some (i,_)=>do
  let key<-pm (((x.2.1[i]?).map (·.key)).getD key) key
  b9 x.1 (v8 (x.2.1.modify i λe=>{ e with key,val:=value }) x.2.2.1)
 |none=>b9 x.1 (v8 (x.2.1.push { key,val:=value,born:=x.2.2.1 }) (x.2.2.1+1))
def jg(t:ag)(m k v:ad):pp t m k v=kG (lK t m k) (rZ k v):=by
 unfold pp lK;show kG _ _=kG (kG _ _) _;rw[k6];congr 1;funext d;cases d<;>try rfl
 cases m<;>try rfl
 rename_i r
 cases r with
 |none=>rfl
 |some r=>
  show kG _ _=kG (kG _ _) _;rw[k6];congr 1;funext o;cases o<;>try rfl
  show kG _ _=kG (kG _ _) _;rw[k6];congr 1;funext _;show kG _ _=kG (kG _ _) _;rw[k6];congr 1
def acf(F:ac->Bool)(ρ:Ren)(x a:Nat×Array a7×Nat×Option (Nat×ad)):Prop:=ρ x.1 a.1/\bD F ρ x.2.1.toList a.2.1.toList/\x.2.2.1=a.2.2.1/\ua F ρ x.2.2.2 a.2.2.2
def uX(q:ρ.bw T.globals.size)(t:ag){m:Nat}(s:∀k e,tY T t=hO (.map k e)->og T m k=hw){x h i i':ad}(f:VR F ρ x h)(hi:VR F ρ i i') :
 av T fB fA F K (acf F) ρ (lK t x i) (lK t h i'):=by
 unfold lK;refine af q (fG t) λσ b u d z e=>?_;obtain⟨rfl,v⟩:=e;have f:=f.mono b;have hi:=hi.mono b
 cases d with
 |map key elem=>
  have zz:=s key elem v
  cases f with
  |qQ=>exact zv _
  |map a=>
   refine af u (dA a) λA j l o B w=>?_;have a:=j a;have hi:=hi.mono j
   cases w with
   |map clock c=>
    refine af l (uW _ _ l m key zz hi) λC g n _ _ _=>?_;have a:=g a;have hi:=hi.mono g;have c:=c.mono g;refine af n (wZ n key hi c) λD p E r H y=>?_;exact ah ⟨p a,c.mono p,rfl,y⟩
   |_=>exact ak
  |_=>exact ak
 |_=>exact ak
def LF(P:bq)(r:Nat)(o:Obj)(a:C)(w:ai)(b:Nat->aH->Nat)(d:Nat):(kx r o (lA a)).run P (w.re b d)=((kx r o (lA a)).run P w).re b d:=by
 show(match w.heap[r]? with|some (v4 ..)=>_|some _=>_|none=>_)=Result.re (match w.heap[r]? with|some (v4 ..)=>_|some _=>_|none=>_) b d
 cases w.heap[r]? with
 |none=>rfl
 |some o=>cases o<;>rfl
def Oo(d:ρ.bw T.globals.size){w w':ai}(o:WR T.globals.size F K ρ w w')(p:w.tape=w'.tape)(hd:w.drawn=w'.drawn){v v':ad}(hi:VR F ρ q L)(hv:VR F ρ v v')
 {x s:Nat×Array a7×Nat×Option (Nat×ad)} (H:acf F ρ x s) (c:Array bm) :
 qp T.globals.size F K fF ρ w w' c ((rZ L v' s).runT ⟨T,fA⟩ w' c) ((rZ q v x).run ⟨T,fB⟩ w):=by
 obtain⟨r,es,clock,N⟩:=x;obtain⟨E,t,O,I⟩:=s;obtain⟨i,l,hc,m⟩:=H;simp only at i l hc m;subst hc;have put:∀(j:Nat){k k':ad},VR F ρ k k'->av T fB fA F K fF ρ (b9 r (v8 (es.modify j λe=>{ e with key:=k,val:=v }) clock)) (b9 E (v8 (t.modify j λe=>{ e with key:=k',val:=v' }) clock)):=by
  intro j k k' u;refine dV i (.map _ ?_);rw[jr,jr];exact bD.modify l j λe J y=>⟨u,hv,y.born⟩
 cases m with
 |none=>
  refine(av.run c ?_ d o p hd).zu;refine dV i (.map _ ?_);rw[i4,i4];exact bD.append l (.cons ⟨hi,hv,rfl⟩ .nil)
 |some j _=>
  have hold:=Aa l j hi;unfold rZ;simp only;generalize(((es[j]?).map (·.key)).getD q)=f at hold;generalize(((t[j]?).map (·.key)).getD L)=z at hold;unfold pm;by_cases A:pk 10000 f q=hw
  .rw[if_pos A,if_pos (Bf d _ hold hi A)];exact(av.run c (put j hi) d o p hd).zu
  .rw[if_neg A];by_cases g:pk 10000 z L=hw
   .rw[if_pos g];obtain rfl:=C6 _ g;have one:∀n:Nat,qp T.globals.size F K fF ρ w w' c ((b9 E (v8 (t.modify j λe=>{ e with key:=z,val:=v' }) clock)).runT ⟨T,fA⟩ w' c)
     ((b9 r (v8 (es.modify j λe=>{ e with key:=if n=0 then q else f,val:=v }) clock)).run ⟨T,fB⟩ (w.re w.tape (w.drawn+1))):=by
     intro n;have h:=av.run c (put j (k:=if n=0 then q else f) (k':=z) (by split<;>assumption)) d o p hd;unfold b9;rw[LF];unfold b9 at h;generalize(kx r _ (lA ())).run ⟨T,fB⟩ w=res at h
     match res,h with
     |u1 a w2,⟨B,i',C,D,e,k,M⟩=>exact⟨B,i',C,D,w2.tape,w2.drawn,e,k,M⟩
     |uZ (wk v) w2,⟨B,v',C,D,e,k,hv⟩=>exact⟨B,v',C,D,w2.tape,w2.drawn,e,k,hv⟩
     |uZ wo _,h=>exact h
     |uZ wq _,h=>exact h
     |uZ (wx _) _,h=>exact h
     |uZ (wy _) _,h=>exact h
     |uZ (wC _) _,h=>exact h
     |uZ wD _,h=>exact h
     |uZ (wn _) _,h=>exact h
     |uZ (wl _) _,_=>trivial
    exact one (Question.cut (.extern "map.whichKeyStays" 2) (w.tape w.drawn (.extern "map.whichKeyStays" 2)))
   .rw[if_neg g];refine(av.run c ?_ d o p hd).zu;refine av.bind d (RA:=RV F) ?_ λσ b _ k k' u=>?_
    .refine af d (lH _) λσ b _ n n' e=>?_;subst e;refine ah ?_;split
     .exact hi.mono b
     .exact hold.mono b
    .refine dV (b i) (.map _ ?_);rw[jr,jr];exact bD.modify (l.mono b) j λe J y=>⟨u,hv.mono b,y.born⟩
def Ty(c:ρ.bw T.globals.size){w w':ai}(l:WR T.globals.size F K ρ w w')(n:w.tape=w'.tape)(hd:w.drawn=w'.drawn)(t:ag){m:Nat}(o:∀k e,tY T t=hO (.map k e)->og T m k=hw){x d i i' v v':ad}(p:VR F ρ x d)(hi:VR F ρ i i')(hv:VR F ρ v v')(b:Array bm) :
 qp T.globals.size F K fF ρ w w' b ((pp t d i' v').runT ⟨T,fA⟩ w' b) ((pp t x i v).run ⟨T,fB⟩ w):=by
 rw[jg,jg,k7,k8];have h:=av.run b (uX (fB:=fB) (fA:=fA) (F:=F) (K:=K) c t o p hi) c l n hd;generalize(lK t x i).run ⟨T,fB⟩ w=res at h
 match res,h with
 |u1 a w2,⟨f,r,g,j,e,k,q⟩=>
  rw[e];exact qp.step k (Oo k.inj k.wr k.tape k.drawn (hi.mono k.le) (hv.mono k.le) q _)
 |uZ (wk v) w2,⟨f,v',g,j,e,k,hv⟩=>
  rw[e];exact⟨f,v',g,j,w2.tape,w2.drawn,rfl,k,hv⟩
 |uZ wo _,h=>exact h
 |uZ wq _,h=>exact h
 |uZ (wx _) _,h=>exact h
 |uZ (wy _) _,h=>exact h
 |uZ (wC _) _,h=>exact h
 |uZ wD _,h=>exact h
 |uZ (wn _) _,h=>exact h
 |uZ (wl _) _,_=>trivial
def Ga(a:ρ.bw T.globals.size)(t:ag):av T fB fA F K (RV F) ρ (pu t hN) (pu t hN):=
 af a (jO (.map 0 .nil)) λ_ _ _ _ _ b=>ah (.map b)
def Oq(g:ρ.bw T.globals.size)(t:ag)(b:VR F ρ q L):av T fB fA F K (RV F) ρ (pv t q) (pv t L):=by
 unfold pv;refine af g (bk t) λσ i j d p e=>?_;subst e;have b:=b.mono i;have fin:∀(a:Ren),a.bw T.globals.size->∀o c,OR F K a o c->av T fB fA F K (RV F) a (do pure (vz (hO ⟨<-b8 o,0,hN⟩)):Sem ad) (do pure (vz (hO ⟨<-b8 c,0,hN⟩)):Sem ad):=
  λa g o c k=>af g (jO k) λ_ _ _ _ _ f=>ah (.ptr ⟨f,rfl,rfl⟩)
 cases d with
 |string=>cases b<;>first|exact fin σ j _ _ (.stringIter _ _)|exact bz
 |map _ _=>
  cases b with
  |qQ=>exact fin σ j _ _ (.mJ _ _ _)
  |map f=>
   refine af j (dA f) λa m n o c k=>?_
   cases k with
   |map clock h=>exact fin a n _ _ (.mapIter _ _ _ (m f))
   |_=>exact bz
  |_=>exact bz
 |_=>exact bz
def Ot(m:ρ.bw T.globals.size)(g:VR F ρ q L):av T fB fA F K (RV F) ρ (pz q) (pz L):=by
 unfold pz
 cases g with
 |@ptr a s t=>
  obtain⟨r,off,sp⟩:=a;obtain⟨E,u,v⟩:=s;obtain⟨i,e1,j⟩:=t;simp only at i e1 j;subst e1 j
  cases off with
  |succ n=>exact ak
  |zero=>
   refine af m (dA i) λσ w y o H z=>?_
   cases z with
   |mapIter a b c A=>
    simp only
    cases b.back? with
    |none=>exact ak
    |some d=>
     refine af y (dA A) λI J x p M B=>?_
     cases B with
     |map clock C=>
      refine aN (λ_=>aM) λ_=>?_;rw[<-jt,<-jt]
      rcases bD.find? C (p:=λe=>e.born==d) (λe D h=>by rw[h]) with⟨f,k⟩|⟨e,D,f,k,l⟩
      .rw[f];exact aA
      .rw[f,k];exact ah (.tuple (VA.two l.key l.val))
     |_=>exact ak
   |_=>exact ak
 |_=>exact ak
inductive gS(F:ac->Bool)(ρ:Ren):List (Option a7)->List (Option a7)->Prop
 |nil:gS F ρ [] []
 |no {l l':List (Option a7)} (t:gS F ρ l l'):gS F ρ (hN::l) (hN::l')
 |yes {e e':a7} {l l':List (Option a7)} (h:zo F ρ e e') (t:gS F ρ l l'):gS F ρ (hO e::l) (hO e'::l')
def gS.of{l l':List a7}(h:bD F ρ l l'):gS F ρ (l.map hO) (l'.map hO):=by
 induction h with
 |nil=>exact .nil
 |cons a _ b=>exact .yes a b
theorem gS.append{l l' m m':List (Option a7)}(x:gS F ρ l l')(y:gS F ρ m m'):gS F ρ (l++m) (l'++m'):=by
 induction x with
 |nil=>exact y
 |no _ b=>exact .no b
 |yes a _ b=>exact .yes a b
def gS.length{l l':List (Option a7)}(x:gS F ρ l l'):l.length=l'.length:=by
 induction x with
 |nil=>rfl
 |no _ b=>simp[b]
 |yes a _ b=>simp[b]
theorem gS.get?{l l':List (Option a7)}(x:gS F ρ l l')(i:Nat):(l[i]?=hN/\l'[i]?=hN)\/(l[i]?=hO hN/\l'[i]?=hO hN)\/∃e e',l[i]?=hO (hO e)/\l'[i]?=hO (hO e')/\zo F ρ e e':=by
 induction x generalizing i with
 |nil=>exact vc ⟨rfl,rfl⟩
 |no _ b=>
  grind
 |yes a _ b=>
  grind
def Tz(N:ρ.bw T.globals.size)(O:VR F ρ q L)(b:Bool)(t:ag):av T fB fA F K (RV F) ρ (p0 q b t) (p0 L b t):=by
 unfold p0
 cases O with
 |@ptr a P Q=>
  obtain⟨r,off,sp⟩:=a;obtain⟨Y,R,S⟩:=P;obtain⟨d,e1,H⟩:=Q;simp only at d e1 H;subst e1 H
  cases off with
  |succ n=>exact ak
  |zero=>
   refine af N (dA d) λσ y I o Z U=>?_;have d:=y d;have over:∀f:Ren,av T fB fA F K (RV F) f (pure (v3 #[vu hG]):Sem ad) (pure (v3 #[vu hG]):Sem ad):=λf=>ah (.tuple (VA.one (.bool _)))
   cases U with
   |stringIter s pos=>
    cases b with
    |true=>
     refine aN (λ_=>?_) λ_=>over _;refine af I (dV d (.stringIter _ _)) λ_ _ _ _ _ _=>?_;exact ah (.tuple (VA.three (.bool _) (.int _ _) (.int _ _)))
    |false=>exact ak
   |mJ a1 b1 c1=>
    grind[ak]
   |@mapIter m m' since seen last g=>
    cases b with
    |true=>exact ak
    |false=>
     refine af I (dA g) λf J V p p' W=>?_
     cases W with
     |@map es i clock z=>
      have g:=J g;have d:=J d;have e1:(!seen.isEmpty && !es.isEmpty&&es.all (·.born>=last))=(!seen.isEmpty && !i.isEmpty&&i.all (·.born>=last)):=by
       rw[bD.isEmpty z,<-jw,<-jw,bD.all z (p:=λe=>decide (e.born>=last)) (λe j h=>by rw[h])]
      simp only[e1];refine aN (λ_=>aM) λ_=>?_;have k:bD F f (es.filter λe=>!seen.contains e.born).toList (i.filter λe=>!seen.contains e.born).toList:=by
       rw[jH,jH];exact bD.filter z λe j h=>by rw[h]
      generalize(es.filter λe=>!seen.contains e.born)=left at k;generalize(i.filter λe=>!seen.contains e.born)=l at k;have hold:bD F f (left.filter (·.born<since)).toList (l.filter (·.born<since)).toList:=by
       rw[jH,jH];exact bD.filter k λe j h=>by rw[h]
      have A:bD F f (left.filter (·.born>=since)).toList (l.filter (·.born>=since)).toList:=by
       rw[jH,jH];exact bD.filter k λe j h=>by rw[h]
      generalize(left.filter (·.born<since))=c at hold;generalize(l.filter (·.born<since))=E at hold;generalize(left.filter (·.born>=since))=new at A;generalize(l.filter (·.born>=since))=x at A;have hc:gS F f ((if c.isEmpty then #[hN] else #[])++(c++new).map hO).toList ((if E.isEmpty then #[hN] else #[])++(E++x).map hO).toList:=by
       rw[i5,i5,jM,jM,i5,i5,bD.isEmpty hold];refine gS.append ?_ (gS.of (bD.append hold A));split
       .exact .no .nil
       .exact .nil
      generalize((if c.isEmpty then #[hN] else #[])++(c++new).map hO)=B at hc;generalize((if E.isEmpty then #[hN] else #[])++(E++x).map hO)=C at hc;have hs:B.size=C.size:=by simpa using hc.length
      simp only[hs];refine af V (lH _) λυ u X n n' e=>?_;subst e
      rcases gS.get? hc n with⟨v,w⟩|⟨v,w⟩|⟨e,j,v,w,D⟩
      .grind [ak]
      .grind
      .simp only[ib]at v w;rw[v,w];simp only[<-D.born];refine af X (dV (u d) (.mapIter _ _ _ (u g))) λ_ M _ _ _ _=>?_;exact ah (.tuple (VA.three (.bool _) ((D.key.mono u).mono M) ((D.val.mono u).mono M)))
     |_=>exact ak
   |_=>cases b<;>exact ak
 |_=>exact ak
def LG(d:VR F ρ q L):av T fB fA F K (λ_ n n'=>n=n'/\∀a c,q=vL a 0 c->n=0) ρ (sg q) (sg L):=by
 cases d<;>first|exact ah ⟨rfl,λa c h=>by cases h;rfl⟩|exact ah ⟨rfl,λa c h=>by cases h⟩|exact ak
def Gb(size:Nat)(g:VR F ρ q L):av T fB fA F K (λ_ a a'=>a=#[]/\a'=#[]) ρ (sm size 0 q) (sm size 0 L):=by
 have f:∀a a':aa,av T fB fA F K (λ_ a a'=>a=#[]/\a'=#[]) ρ (ct a (0*size)) (ct a' (0*size)):=by
  intro a a';rw[jD];exact ah ⟨rfl,rfl⟩
 cases g with
 |slice l c h=>exact f _ _
 |dK D a=>exact f _ _
 |di l c=>exact ah ⟨rfl,rfl⟩
 |string s=>
  have e:(s.extract 0 0).data.map (λb=>Value.int .u8 b.toNat)=#[]:=by
   simp_all
  refine ah ?_;grind
 |_=>exact ak
def kZ(d:ρ.bw T.globals.size)(size n:Nat)(e:VR F ρ q L)(f:∀a c,q=vL a 0 c->n=0):av T fB fA F K (RVA F) ρ (sm size n q) (sm size n L):=by
 cases e with
 |dK D a=>
  obtain rfl:=f _ _ rfl;show(av T fB fA F K) (RVA F) ρ (ct _ (0*size)) (ct _ (0*size));rw[jD];exact ah VA.nil
 |slice l c g=>exact rU d g _
 |di l c=>exact ah VA.nil
 |string s=>
  refine ah ?_;show cU _ _ _ _;rw[jM];exact cU.map _ λ_ _=>.int _ _
 |_=>exact ak
end
open Builtin in
def jU(elem size d e:Nat)(base:Option aa)(s x:ad):Sem ad:=do
 let n<-lenOf x;let appended:Sem (Array ad):=firstCells size n x;let b:=d+n
 if b<=e then
  let new<-appended
  if let hO a:=base then c8 (a.add (d*size)) new.toList
  pure (vL base b e)
 else
  if(b:Int) > IntKind.i64.max/\((hG:Bool)\/(<-ch elem).bytes=0) then dx (.error "growslice: len out of range")
  if nextslicecap b e*(<-ch elem).bytes > 2 ^ 48 then(if(hG:Bool) then dx (.error "growslice: len out of range") else do
   if !(<-mayShare size d n base x) then mark wg
   bv (.resourceLimit "append: a slice or a string whose bytes no memory bears"))
  let f<-ce (.appendCap b e elem)
  cf (f*(<-ch elem).bytes)
  let g<-firstCells size d s;let new<-appended;let c:=zeroCells (<-co elem).cells (f-b)
  pure (vL (hO (<-dc elem (g++new++c))) b f)
def I7(size n:Nat)(base:Option aa)(x:ad)(there:Bool):Sem Bool:=
 if(!there)=hw then pure hw else
 match x with
 |vL (hO b) _ _=>do pure (!(<-sq b (n*size))||base.any (·.block==b.block))
 |_=>pure hG
section
variable {T:bd}{fB fA:Array bi}{F:ac->Bool}{K:a8->Bool}{ρ σ:Ren}
def VA.zeroCells(h:VA F ρ M M)(n:Nat):VA F ρ (ss M n) (ss M n):=by
 show cU _ _ _ _;unfold ss;rw[jM];refine cU.map _ λi hi=>?_
 rcases cd M.size with a|a
 .grind
 .have hl:=h6 i a
  rcases VA.get? h (i % M.size) with⟨b,_⟩|⟨v,v',b,d,hv⟩
  .grind
  grind
def qV(T:bd)(fB:Array bi){a:Type}:Sem a->Prop
 |lA _=>True
 |kS k=>qV T fB (k ⟨T,fB⟩)
 |li _ k=>∀x,qV T fB (k x)
 |lm _ k=>∀x,qV T fB (k x)
 |_=>False
def qV.bind{c d:Type}{s:Sem c}{f:c->Sem d}(h:qV T fB s)(hf:∀a,qV T fB (f a)):qV T fB (s.bind f):=by
 induction s with
 |pure a=>exact hf a
 |program k b=>exact b _ h
 |shape r k b=>exact λx=>b x (h x)
 |frozen r k b=>exact λx=>b x (h x)
 |_=>exact h.elim
def qV.dead{s:Sem C}{f:C->Sem Y}(h:qV T fB s)(hf:∀a,bW T fB (f a)):bW T fB (s.bind f):=by
 induction s with
 |pure a=>exact hf a
 |program k b=>exact b _ h
 |shape r k b=>exact λx=>b x (h x)
 |frozen r k b=>exact λx=>b x (h x)
 |_=>exact h.elim
theorem look_holds(a:aa)(n:Nat):qV T fB (sq a n):=λx=>by cases x<;>trivial
def Ab(size n:Nat)(b:Option aa)(x:ad)(there:Bool):qV T fB (I7 size n b x there):=by
 unfold I7;split
 .trivial
 .split
  .exact qV.bind (look_holds _ _) λ_=>trivial
  .trivial
def Gg(size l n:Nat)(b:Option aa)(x:ad):qV T fB (sw size l n b x):=by
 cases b with
 |none=>exact Ab size n hN x hw
 |some p=>
  unfold sw;simp only;exact qV.bind (look_holds _ _) λy=>λz=>Ab size n (hO p) x (y && !z)
def zA{Z:ag->Bool}(E:dM T F Z)(f:ρ.bw T.globals.size)(t:Z R=hw)(size l c:Nat){b b':Option aa}(hs:VR F ρ (vL b l c) (vL b' l c))(g:VR F ρ q L) :
 av T fB fA F K (RV F) ρ (jU R size l c b (vL b l c) q) (jU R size l c b' (vL b' l c) L):=by
 unfold jU;have u:∀a w,Value.slice b l c=vL a 0 w->l=0:=λa w h=>by cases h;rfl
 refine af f (LG g) λσ d f n n' e=>?_;obtain⟨rfl,p⟩:=e;have g:=g.mono d;have hs:=hs.mono d;simp only;refine aN (λM=>?_) λ_=>?_
 .by_cases A:c=0
  .subst A;obtain rfl:n=0:=ab;obtain rfl:l=0:=ab;refine af f (Gb size g) λB d f new C o=>?_;obtain⟨rfl,rfl⟩:=o;have hs:=hs.mono d
   cases hs with
   |di=>exact ah (.di _ _)
   |slice _ _ s=>exact ah (.slice _ _ s)
   |dK D a=>exact ah (.dK D a)
  refine af f (kZ f size n g p) λB d f new C o=>?_;have hs:=hs.mono d
  cases hs with
  |dK D a=>exact absurd rfl A
  |di=>exact ah (.di _ _)
  |slice _ _ s=>exact af f (qD f (s.add _) o 0) λm d f _ _ _=>ah (.slice _ _ (s.mono d))
 .refine af f (ee R) λB d f i N e=>?_;subst e;have g:=g.mono d;have hs:=hs.mono d;refine aN (λ_=>?_) λ_=>?_
  .exact af (RA:=λ_ _ _=>False) f (cX _) λ_ _ _ _ _ h=>h.elim
  refine af f (ee R) λm d f j O e=>?_;subst e;have g:=g.mono d;have hs:=hs.mono d;refine aN (λ_=>?_) λ_=>?_
  .refine af (RA:=λ_ _ _=>False) f ?_ λ_ _ _ _ _ h=>h.elim;refine aN (br) λ_=>?_;refine bW.rel ?_ _;refine qV.dead (Gg size l n b q) λy=>?_;cases y
   .exact⟨rfl,rfl⟩
   .rfl
  refine af f (lH _) λm d f cap H e=>?_;subst e;have g:=g.mono d;have hs:=hs.mono d;refine af f (ee R) λm d f k k' e=>?_;subst e;have g:=g.mono d;have hs:=hs.mono d;refine af f (FQ _) λm d f _ _ _=>?_;have g:=g.mono d;have hs:=hs.mono d;refine af f (kZ f size l hs u) λm d f I P v=>?_;have g:=g.mono d;refine af f (kZ f size n g p) λm d f new C o=>?_;have v:=VA.mono d v;refine af f (gO E f t) λm d f z Q h=>?_;obtain⟨J,rfl⟩:=h;have v:=VA.mono d v;have o:=VA.mono d o;refine af f (tS f R (VA.append (VA.append v o) (VA.zeroCells J.cells _))) λm d f r x elem=>ah (.slice _ _ elem)
def LH{Z:ag->Bool}(J:dM T F Z)(v:ρ.bw T.globals.size){ts:Array ag}(t:ag)(L:∀s,ts[0]?=hO s->∀e,tY T s=hO (.slice e)->Z e=hw)(w:∀s,ts[1]?=hO s->∀k,tY T s≠hO (.int k))
 {B:Array ad} (C:VA F ρ M B):av T fB fA F K (RV F) ρ (sx ts t M) (sx ts t B):=by
 unfold sx
 rcases VA.get? C 0 with⟨u,E⟩|⟨s,n,u,E,hs⟩
 .rw[u];cases ts[0]?<;>exact ak
 rcases VA.get? C 1 with⟨k1,k2⟩|⟨x,N,k1,k2,y⟩
 .rw[u,k1];cases ts[0]?<;>exact ak
 rw[u,E,k1,k2]
 cases O:ts[0]? with
 |none=>exact ak
 |some H=>
  simp only;refine af v (fG H) λσ a m d z e=>?_;obtain⟨rfl,j⟩:=e;have hs:=hs.mono a;have y:=y.mono a
  cases d with
  |slice elem=>
   have A:=L H O elem j;have fin:∀(f:Ren),f.bw T.globals.size->σ.le f->∀(size l c:Nat)(b b':Option aa),s=vL b l c->n=vL b' l c->
    av T fB fA F K (RV F) f (jU elem size l c b (vL b l c) x) (jU elem size l c b' (vL b' l c) N):=by
    intro f v a size l c b b' e1 P;subst e1 P;exact zA J v A size l c (hs.mono a) (y.mono a)
   cases hs with
   |di l c=>
    simp only;refine af m (bN m elem) λf g h size I e=>?_;subst e
    cases e1:ts[1]? with
    |none=>exact fin f h g size l c hN hN rfl rfl
    |some i=>
     refine af h (fG i) λo p r d z e=>?_;obtain⟨rfl,j⟩:=e
     cases d with
     |int k=>exact absurd j (w i e1 k)
     |_=>exact fin o r (Ren.le_trans g p) size l c hN hN rfl rfl
   |slice l c Q=>
    simp only;refine af m (bN m elem) λf g h size I e=>?_;subst e
    cases e1:ts[1]? with
    |none=>exact fin f h g size l c _ _ rfl rfl
    |some i=>
     refine af h (fG i) λo p r d z e=>?_;obtain⟨rfl,j⟩:=e
     cases d with
     |int k=>exact absurd j (w i e1 k)
     |_=>exact fin o r (Ren.le_trans g p) size l c _ _ rfl rfl
   |dK D q=>
    simp only;refine af m (bN m elem) λf g h size I e=>?_;subst e
    cases e1:ts[1]? with
    |none=>exact fin f h g size 0 0 _ _ rfl rfl
    |some i=>
     refine af h (fG i) λo p r d z e=>?_;obtain⟨rfl,j⟩:=e
     cases d with
     |int k=>exact absurd j (w i e1 k)
     |_=>exact fin o r (Ren.le_trans g p) size 0 0 _ _ rfl rfl
   |_=>exact ak
  |_=>exact ak
end
end Go.bJ
namespace Go.bJ
variable {C:Array ad}{L:ag->Bool}{M:Nat}{Y:eN->ad}{O:List f8}{J:f0}{R:ai}{q:List f0}
section
variable {T:bd}{fB fA:Array bi}{F:ac->Bool}{K:a8->Bool}{ρ σ:Ren}
def xg(h:VA F ρ C C)(n:Nat):VA F ρ ((jQ n).map (C[· % C.size]!)) ((jQ n).map (C[· % C.size]!)):=by
 show cU _ _ _ _;rw[jM];refine cU.map _ λi _=>?_;rw[getElem!_def]
 rcases VA.get? h (i % C.size) with⟨a,_⟩|⟨v,v',a,b,hv⟩
 .rw[a];exact .bool _
 grind
def zB(o:dM T F L)(b:ρ.bw T.globals.size){t:ag}(p:∀e,tY T t=hO (.slice e)->L e=hw)(len:Nat){ps f:Array (Nat×ad)}(h:kX F ρ ps.toList f.toList):av T fB fA F K (RV F) ρ (p7 t len ps) (p7 t len f):=by
 unfold p7;refine af b (fG t) λσ a b d w e=>?_;obtain⟨rfl,q⟩:=e;have h:=h.mono a
 cases d with
 |slice elem=>
  have k:=p elem q;refine af b (bN b elem) λm a b size x e=>?_;subst e;have h:=h.mono a;refine aN (λ_=>aM) λ_=>?_;have c:∀(g:Ren),m.le g->g.bw T.globals.size->∀zero j:Array ad,(VA F g zero j/\zero=j)->
   av T fB fA F K (RV F) g (match nk (λi=>hO (i*size,size)) ((jQ (len*size)).map (zero[· % zero.size]!)) ps.toList with
    |some cells=>do pure (vL (hO (<-dc elem cells)) len len)
    |_=>stuck "buildSlice: a part of the wrong size" : Sem ad)
    (match nk (λi=>hO (i*size,size)) ((jQ (len*size)).map (j[· % j.size]!)) f.toList with
    |some cells=>do pure (vL (hO (<-dc elem cells)) len len)
    |_=>stuck "buildSlice: a part of the wrong size" : Sem ad):=by
   rintro g a b zero j⟨hv,rfl⟩
   rcases wO (λi=>hO (i*size,size)) (h.mono a) (xg hv (len*size)) with⟨l,n⟩|⟨r,y,l,n,s⟩
   .rw[l];exact ak
   .rw[l,n];exact af b (tS b elem s) λ_ _ _ _ _ u=>ah (.slice _ _ u)
  refine aN (λ_=>?_) λ_=>?_
  .exact c m (Ren.le_refl _) b #[] #[] ⟨VA.nil,rfl⟩
  .refine af b (gO o b k) λg a b z A v=>?_;obtain⟨hv,rfl⟩:=v;exact c g a b _ _ ⟨hv.cells,rfl⟩
 |_=>exact ak
def X7(b:ρ.bw T.globals.size)(ts:Array ag)(t:ag){h:Array ad}(m:VA F ρ C h):av T fB fA F K (RV F) ρ (sy ts t C) (sy ts t h):=by
 unfold sy
 rcases VA.get? m 0 with⟨g,i⟩|⟨x,w,g,i,c⟩
 .rw[g];cases ts[0]?<;>exact ak
 rw[g,i]
 cases ts[0]? with
 |none=>exact ak
 |some s=>
  simp only;refine af b (fG s) λσ a b d p e=>?_;obtain⟨rfl,q⟩:=e;have c:=c.mono a
  cases d with
  |array n e=>exact ah (.int _ _)
  |string=>cases c<;>first|exact ah (.int _ _)|exact ak
  |slice e=>cases c<;>first|exact ah (.int _ _)|exact ak
  |pointer e=>
   refine af b (fG e) λj a b d p e=>?_;obtain⟨rfl,q⟩:=e;cases d<;>first|exact ah (.int _ _)|exact ak
  |map k e=>
   cases c with
   |qQ=>exact ah (.int _ _)
   |map r=>
    refine af b (dA r) λj a b o y u=>?_
    cases u with
    |@map es l clock v=>exact ah (by
     have:es.size=l.size:=by simpa using bD.length v
     show VR F j (goInt es.size) (goInt l.size);rw[this]
     exact .int _ _)
    |_=>exact ak
   |_=>exact ak
  |chan _ _=>cases c<;>exact ak
  |_=>exact ak
def Ac{f:ad->ad->Sem ad}(hf:∀{ρ:Ren}{x a y y':ad},ρ.bw T.globals.size->VR F ρ x a->VR F ρ y y'->av T fB fA F K (RV F) ρ (f x y) (f a y')) :
 ∀{l l':List ad}{ρ:Ren}{x a:ad},ρ.bw T.globals.size->cU F ρ l l'->VR F ρ x a->av T fB fA F K (RV F) ρ (l.foldlM f x) (l'.foldlM f a):=by
 intro l
 induction l with
 |nil=>intro l' ρ x a b h c;cases h;exact ah c
 |cons y l e=>
  intro l' ρ x a b h c
  cases h with
  |cons hy t=>exact af b (hf b c hy) λσ d g z j i=>e g (t.mono d) i
def TC(a:ρ.bw T.globals.size){x c y y':ad}(d:VR F ρ x c)(hy:VR F ρ y y'):av T fB fA F K (RV F) ρ (sN x y) (sN c y'):=by
 cases d<;>cases hy<;>first
  |exact ah (.int _ _)
  |exact ak
  |exact aA
  |skip
 refine af a (oe .geq _ _) λσ f a v v' hv=>?_;exact af a (tU hv) λ_ _ _ b b' e=>ah (by subst e;exact .string _)
def TD(a:ρ.bw T.globals.size){x c y y':ad}(d:VR F ρ x c)(hy:VR F ρ y y'):av T fB fA F K (RV F) ρ (sQ x y) (sQ c y'):=by
 cases d<;>cases hy<;>first
  |exact ah (.int _ _)
  |exact ak
  |exact aA
  |skip
 refine af a (oe xb _ _) λσ f a v v' hv=>?_;exact af a (tU hv) λ_ _ _ b b' e=>ah (by subst e;exact .string _)
def X8(d:ρ.bw T.globals.size)(ts:Array ag)(t:ag){c:Array ad}(b:VA F ρ C c):av T fB fA F K (RV F) ρ (sT ts t C) (sT ts t c):=by
 unfold sT;have b:cU F ρ C.toList c.toList:=b;generalize C.toList=l at b ⊢;generalize c.toList=f at b ⊢
 cases b with
 |nil=>exact ak
 |cons h t=>exact Ac (λd e hy=>TC d e hy) d t h
def X9(d:ρ.bw T.globals.size)(ts:Array ag)(t:ag){c:Array ad}(b:VA F ρ C c):av T fB fA F K (RV F) ρ (sV ts t C) (sV ts t c):=by
 unfold sV;have b:cU F ρ C.toList c.toList:=b;generalize C.toList=l at b ⊢;generalize c.toList=f at b ⊢
 cases b with
 |nil=>exact ak
 |cons h t=>exact Ac (λd e hy=>TD d e hy) d t h
inductive gT(F:ac->Bool)(K:a8->Bool)(ρ:Ren):fc->fc->Prop
 |value {v v':ad} (h:VR F ρ v v'):gT F K ρ (xf v) (xf v')
 |skip:gT F K ρ xi xi
 |enter (f:ac) (hf:F f=hw) {a a':Array ad} (h:VA F ρ a a'):gT F K ρ (xk f a) (xk f a')
 |round {l l':Nat} (hl:ρ l l') (f:ac) (hf:F f=hw) {a a':Array ad} (h:VA F ρ a a') (assign body:a8) (ha:K assign=hw) (hb:K body=hw):gT F K ρ (xl l f a assign body) (xl l' f a' assign body)
def si(fB fA:Array bi)(F:ac->Bool):Prop:=
 (∀l,fB[cn+l]?=hN)/\∀f,F f=hw->(∃b,fB[f]?=hO b/\b.body.isSome=hw/\b.name≠ "runtime.NumGoroutine")/\∃a,fA[f]?=hO a/\a.body.isSome=hw/\a.name≠ "runtime.NumGoroutine"
def uf{T:bd}{fs:Array bi}{f:ac}{b:bi}(h:fs[f]?=hO b)(hb:b.body.isSome=hw)(a:b.name≠ "runtime.NumGoroutine")(args:Array ad):∃k,fm f args=program.bind k/\k ⟨T,fs⟩=pure (xk f args):=by
 refine⟨_,rfl,?_⟩
 show(match fs[f]? with
  |none=>stuck "call: no such function"
  |some fn=>_)=_
 rw[h];have c:(b.name == "runtime.NumGoroutine")=hG:=by simpa using a
 have d:b.body.isNone=hG:=bp;grind
def C8(hF:si fB fA F){f:ac}(hf:F f=hw){a':Array ad}(h:VA F ρ C a'):av T fB fA F K (gT F K) ρ (fm f C) (fm f a'):=by
 obtain⟨⟨b,hb,l,d⟩,c,hc,g,e⟩:=hF.2 f hf;unfold fm;refine bI ?_;show(av T fB fA F K) (gT F K) ρ (match fB[f]? with|none=>stuck "call: no such function" | some fn=>_) (match fA[f]? with|none=>stuck "call: no such function" | some fn=>_);rw[hb,hc];have i:(b.name == "runtime.NumGoroutine")=hG:=by simpa using d
 have j:b.body.isNone=hG:=bp;have c1:(c.name == "runtime.NumGoroutine")=hG:=by simpa using e
 have k:c.body.isNone=hG:=bp;simp only[i,j,c1,k,py,if_false];exact ah (.enter f hf h)
def jV(a:ρ.bw T.globals.size){l':Nat}(h:ρ M l'):av T fB fA F K (CN F K) ρ (qi M) (qi l'):=by
 refine af a (dA h) λσ _ _ o c b=>?_
 cases b with
 |loop h=>exact ah h
 |_=>exact ak
def Ov(params:Array Tmp){a' t c:Array ad}(b:VA F ρ C a')(d:VA F ρ t c) :
 VA F ρ ((params.zip C).foldl (λtmps(t,C)=>i6 tmps t C) t) ((params.zip a').foldl (λtmps(t,C)=>i6 tmps t C) c):=by
 rw[<-qk,<-qk,j1,j1];have b:cU F ρ C.toList a'.toList:=b;generalize C.toList=l at b;generalize a'.toList=e at b;generalize params.toList=ps
 induction ps generalizing l e t c with
 |nil=>exact d
 |cons p ps f=>
  cases b with
  |nil=>exact d
  |cons h g=>exact f (VA.set d p h) _ _ g
def Ow(e:ρ.bw T.globals.size){l':Nat}(h:ρ M l'){a':Array ad}(d:VA F ρ C a'):av T fB fA F K (gT F K) ρ (qr M C) (qr l' a'):=by
 refine af e (jV e h) λσ c e r f b=>?_;have d:=VA.mono c d;rw[VA.size d,b.params];refine aN (λ_=>bz) λ_=>?_;rw[b.fn,b.assign,b.body];exact ah (.round (c h) _ (b.fn▸b.mI) (Ov _ d b.tmps) _ _ (b.assign▸b.CP) (b.body▸b.N6))
def bK{s s':Sem ad}(a:ρ.bw T.globals.size)(h:av T fB fA F K (RV F) ρ s s'):av T fB fA F K (gT F K) ρ (do pure (xf (<-s)):Sem fc) (do pure (xf (<-s')):Sem fc):=
 af a h λ_ _ _ _ _ hv=>ah (.value hv)
def vX{s s':Sem Unit}(a:ρ.bw T.globals.size)(h:av T fB fA F K fF ρ s s'):av T fB fA F K (gT F K) ρ (do s;pure xi:Sem fc) (do s';pure xi:Sem fc):=
 af a h λ_ _ _ _ _ _=>ah .skip
def C9(hF:si fB fA F)(l:Nat)(a:Array ad)(s':Sem fc):av T fB fA F K (gT F K) ρ (fm (cn+l) a) s':=by
 refine vd ?_;show bW T fB (match fB[cn+l]? with|none=>stuck "call: no such function" | some fn=>_);rw[hF.1 l];trivial
def Ad{a:Type}(b:dM T F L)(g:TypeInfo->Sem a)(hg:∀i,i.methods.find? (·.name == "")=hN->bW T fB (g i)):bW T fB (kG (ch 0) g):=by
 show bW T fB (kG (match T.info? 0 with|some i=>pure i|none=>stuck "no such type") g)
 cases hi:T.info? 0 with
 |none=>trivial
 |some i=>exact hg i (b.2 i hi)
def Da(a:dM T F L)(v:ad):bW T fB (fp (T.types.size+Made.depth) 0 v ""):=by
 show bW T fB (fp ((T.types.size+99)+1) 0 v "");unfold fp;refine Ad a _ λi hi=>?_;simp only[hi];trivial
def Gj(a:dM T F L)(v:ad):bW T fB (fJ (T.types.size+Made.depth) 0 v ""):=by
 show bW T fB (fJ ((T.types.size+99)+1) 0 v "");unfold fJ;refine Ad a _ λi hi=>?_;simp only[hi];trivial
def jE{Z:ag->Bool}(i:dM T F Z)(hF:si fB fA F)(j:ρ.bw T.globals.size){f f':ad}(hf:VR F ρ f f'){a a':Array ad}(k:VA F ρ a a') :
 av T fB fA F K (gT F K) ρ (do let d<-tc f a;fO d.target d.args) (do let d<-tc f' a';fO d.target d.args):=by
 cases hf with
 |func h l m=>
  have b:=VA.append l k
  cases h with
  |func g hg=>exact C8 hF hg (VA.append b m)
  |yield hl=>exact Ow j hl b
  |spec hl=>exact C9 hF _ _ _
 |wG n f c=>
  refine bW.rel ?_ _;have e:(#[Value.iface 0 vG]++a)[0]?=hO (v2 0 vG):=aS;unfold tc;simp only[pure_bind];unfold fO;simp only[e];show bW T fB (kG (fp (T.types.size+Made.depth) 0 vG "") _);exact bW.bind (Da i _)
 |nilFunc=>exact nY
 |_=>exact ak
end
def Bh(F:ac->Bool):ad->Bool
 |vu _ | vw .. | vx _ | vz hN | vL hN _ _ | v0 hN | vI | vG=>hw
 |vJ (ve f) a b=>F f&&a.toList.isEmpty&&b.toList.isEmpty
 |_=>hG
def pM(F:ac->Bool):Nat->ad->Bool
 |0,v=>Bh F v
 |n+1,v=>match v with
  |vy a=>a.toList.all (pM F n)
  |v3 a=>a.toList.all (pM F n)
  |v2 _ v=>pM F n v
  |v=>Bh F v
def cF(F:ac->Bool):eN->Bool
 |xm _=>hw
 |xn v=>pM F 6 v
 |.global _=>hG
 |.func f=>F f
def Gl(T:bd)(F:ac->Bool)(Z:ag->Bool)(c:Call):Bool:=
 c.args.toList.all (cF F)&&match c.callee with
  |xp f=>cF F f
  |.invoke ..=>hG
  |xr .append=>
   (match c.argTypes[0]? with|none=>hw|some s=>match tY T s with|some (.slice e)=>Z e|_=>hw) &&
   (match c.argTypes[1]? with|none=>hw|some s=>match tY T s with|some (.int _)=>hG|_=>hw)
  |xr sW | xr .max | xr .min=>hw
  |xr _=>hG
def Db(T:bd)(Z:ag->Bool)(t:ag):Bool:=match tY T t with|some (.map k e)=>og T 8 k&&Z e|_=>hw
def Ya:ac:=22
def jh(T:bd)(F:ac->Bool)(Z:ag->Bool):Op->Bool
 |rt x | .assign x | .box _ x | rx _ x | .nilCheck x | .unOp _ _ x | .fieldAddr _ x _ | rI _ x _ | .range _ x | .next x _ | .entry x | .extract x _=>cF F x
 |.pick a b c=>cF F a&&cF F b&&cF F c
 |.alloc t=>Z t
 |rL t ps=>Z t&&ps.toList.all λp=>cF F p.2
 |.buildSlice t _ ps=>(match tY T t with|some (.slice e)=>Z e|_=>hw)&&ps.toList.all λp=>cF F p.2
 |.store _ a b | rN _ a b | .index _ a b=>cF F a&&cF F b
 |rP op t a b _=>(cF F a&&cF F b)&&(!(op matches xa | .neq) || !lM ⟨T,#[]⟩ (mm ⟨T,#[]⟩) t)
 |.convert s d x=>tZ T s&&tZ T d&&cF F x
 |.makeFunc (ve f) xs ys=>F f&&xs.toList.all (cF F)&&ys.toList.all (cF F)
 |.makeMap _ hN=>hw
 |.slice _ x l h m=>cF F x&&l.all (cF F)&&h.all (cF F)&&m.all (cF F)
 |.lookup t a b _=>Db T Z t&&cF F a&&cF F b
 |rR t a b c | rS t a b c=>F Ya&&(Db T Z t&&cF F a&&cF F b&&cF F c)
 |sd c=>Gl T F Z c
 |_=>hG
section
variable {T:bd}{fB fA:Array bi}{F:ac->Bool}{K:a8->Bool}{ρ σ:Ren}
def cU.self{l:List ad}(h:∀v∈l,VR F ρ v v):cU F ρ l l:=by
 induction l with
 |nil=>exact .nil
 |cons v l a=>exact .cons (h v ar) (a λu b=>h u (by simp[b]))
def xh{v:ad}(h:Bh F v=hw):VR F ρ v v:=by
 cases v with
 |bool b=>exact .bool b
 |int k n=>exact .int k n
 |string s=>exact .string s
 |pointer a=>cases a with
  |none=>exact .dS
  |some _=>cases h
 |slice a _ _=>cases a with
  |none=>exact .di _ _
  |some _=>cases h
 |map a=>cases a with
  |none=>exact .qQ
  |some _=>cases h
 |nilFunc=>exact .nilFunc
 |nilIface=>exact .nilIface
 |func fn a b=>
  cases fn with
  |func f=>
   simp only[Bh,dd,List.isEmpty_iff]at h;exact .func (.func f h.1.1) (by rw[h.1.2];exact .nil) (by rw[h.2];exact .nil)
  |_=>cases h
 |_=>cases h
def uY(n:Nat):∀{v:ad},pM F n v=hw->VR F ρ v v:=by
 induction n with
 |zero=>intro v h;exact xh h
 |succ n b=>
  intro v h
  cases v with
  |agg a=>exact .agg (cU.self λv hv=>b (df.1 h v hv))
  |tuple a=>exact .tuple (cU.self λv hv=>b (df.1 h v hv))
  |iface t v=>exact .iface t (b h)
  |_=>exact xh h
def lN(F:ac->Bool)(ρ:Ren)(e e':eN->ad):Prop:=∀x,cF F x=hw->VR F ρ (e x) (e' x)
def dD{fr fr':f0}(h:VA F ρ fr.tmps fr'.tmps):lN F ρ fr.eval fr'.eval:=by
 intro x a
 cases x with
 |tmp t=>exact VA.getD h t VR.undef
 |const v=>exact uY 6 a
 |global g=>cases a
 |func f=>exact .func (.func f a) .nil .nil
def lN.list{e':eN->ad}(h:lN F ρ Y e'){l:List eN}(hl:l.all (cF F)=hw):cU F ρ (l.map Y) (l.map e'):=
 cU.map l λx a=>h x (df.1 hl x a)
def lN.arr{e':eN->ad}(h:lN F ρ Y e'){l:Array eN}(hl:l.toList.all (cF F)=hw):VA F ρ (l.map Y) (l.map e'):=by
 show cU _ _ _ _;rw[jM,jM];exact h.list hl
def lN.opt{e':eN->ad}(h:lN F ρ Y e'){o:Option eN}(a:o.all (cF F)=hw):lJ F ρ (o.map Y) (o.map e'):=by
 cases o with
 |none=>exact .none
 |some x=>exact .some (h x (by simpa using a))
def lN.parts{e':eN->ad}(h:lN F ρ Y e'){l:Array (Nat×eN)}(hl:(l.toList.all λp=>cF F p.2)=hw):kX F ρ (l.map fun(i,x)=>(i,Y x)).toList (l.map fun(i,x)=>(i,e' x)).toList:=by
 rw[jM,jM];generalize l.toList=m at hl
 induction m with
 |nil=>exact .nil
 |cons p m a=>
  simp only[i1,dd]at hl;exact .cons p.1 (h _ hl.1) (a hl.2)
def TE(h:dM T F L)(hF:si fB fA F)(a:ρ.bw T.globals.size){e':eN->ad}(i:lN F ρ Y e')(c:Call)(t:ag)(ok:Gl T F L c=hw) :
 av T fB fA F K (gT F K) ρ (do let d<-f1 Y c t;fO d.target d.args) (do let d<-f1 e' c t;fO d.target d.args):=by
 obtain⟨callee,args,argTypes⟩:=c;simp only[Gl,dd]at ok;obtain⟨g,ok⟩:=ok;have g:=i.arr g
 cases callee with
 |value f=>exact jE h hF a (i f ok) g
 |invoke _ _=>cases ok
 |builtin b=>
  cases b with
  |append=>
   simp only[dd]at ok;refine bK a (LH h a t (λs hs l j=>?_) (λs hs k m=>?_) g)
   .grind
   grind
  |len=>exact bK a (X7 a argTypes t g)
  |max=>exact bK a (X8 a argTypes t g)
  |min=>exact bK a (X9 a argTypes t g)
  |_=>cases ok
def Dc:Op->Bool
 |rR .. | rS ..=>hw
 |_=>hG
def ug{Z:ag->Bool}(q:dM T F Z)(hF:si fB fA F)(g:ρ.bw T.globals.size){e e':eN->ad}(j:lN F ρ e e')(o:f6)(ok:jh T F Z o.op=hw)(w:Dc o.op=hG) :
 av T fB fA F K (gT F K) ρ (f7 e o) (f7 e' o):=by
 obtain⟨dst,op,type,pos,after,guard⟩:=o;simp only at ok w;unfold f7
 cases op with
 |move x=>exact ah (.value (j x ok))
 |assign x=>exact ah (.value (j x ok))
 |pick c a b=>
  simp only[jh,dd]at ok;refine af g (tU (j c ok.1.1)) λσ u g b b' e=>ah (.value ?_);subst e;cases b
  .exact(j _ ok.2).mono u
  .exact(j _ ok.1.2).mono u
 |alloc t=>exact bK g (Oc q g ok)
 |box t x=>exact bK g (XY g t (j x ok))
 |build t ps=>
  simp only[jh,dd]at ok;exact bK g (Oe q g ok.1 (j.parts ok.2))
 |buildSlice t n ps=>
  simp only[jh,dd]at ok;exact bK g (zB q g (λC D=>aS) n (j.parts ok.2))
 |load t a=>exact bK g (Lx g t (j a ok))
 |store t a x=>
  simp only[jh,dd]at ok;exact vX g (FR g t (j a ok.1) (j x ok.2))
 |nilCheck x=>
  have A:=j x ok;simp only;generalize e x=v at A;generalize e' x=v' at A
  cases A with
  |func hf E B=>cases hf<;>exact ah (.value (.func (by constructor<;>assumption) E B))
  |wG n f c=>
   refine bW.rel ?_ _;show bW T fB (kG (fJ (T.types.size+Made.depth) 0 vG "") _);exact bW.bind (Gj q _)
  |hole v' h=>
   cases v' with
   |pointer p=>cases p with
    |none=>cases h
    |some _=>exact ah (.value (.hole _ h))
   |func fn _ _=>cases fn with
    |method _=>cases h
    |_=>exact ah (.value (.hole _ h))
   |agg _=>cases h
   |nilIface=>cases h
   |nilFunc=>cases h
   |_=>exact ah (.value (.hole _ h))
  |_=>first|exact nY|exact ah (.value (by first|exact .wG _ _ _|exact .dK _ _|(constructor<;>assumption)))
 |binOp op t x y I=>
  simp only[jh,dd]at ok;refine bK g (F6 g op t x y (j x ok.1.1) (j y ok.1.2) λh=>?_);have B:=ok.2;have H:lM ⟨T,#[]⟩ (mm ⟨T,#[]⟩) t=hG:=by
   grind
  rw[kJ T fB #[]];exact H
 |unOp op t x=>exact bK g (On (j x ok))
 |convert s d x=>
  simp only[jh,dd]at ok;exact bK g (F8 g ok.1.1 ok.1.2 (j x ok.2))
 |makeFunc fn xs ys=>
  cases fn with
  |func f=>
   simp only[jh,dd]at ok;exact bK g (ah (.func (.func f ok.1.1) (j.arr ok.1.2) (j.arr ok.2)))
  |_=>cases ok
 |makeMap t r=>
  cases r with
  |none=>exact bK g (Ga g t)
  |some _=>cases ok
 |slice t x l h m=>
  simp only[jh,dd]at ok;exact bK g (FZ g t (j x ok.1.1.1) (j.opt ok.1.1.2) (j.opt ok.1.2) (j.opt ok.2))
 |fieldAddr t x i=>exact bK g (FV g t (j x ok) i)
 |field t x i=>exact bK g (Of g t (j x ok) i)
 |indexAddr t x y=>
  simp only[jh,dd]at ok;exact bK g (FW g t (j x ok.1) (j y ok.2))
 |index t x y=>
  simp only[jh,dd]at ok;exact bK g (Og g t (j x ok.1) (j y ok.2))
 |lookup t x y b=>
  simp only[jh,dd]at ok;refine bK g (LD (m:=8) q g t (λk C h=>?_) (j x ok.1.2) (j y ok.2) b);have:=ok.1.1;simpa[Db,h]using this
 |mapUpdate t x y z=>cases w
 |insert t x y z=>cases w
 |range t x=>exact bK g (Oq g t (j x ok))
 |next x b=>exact bK g (Tz g (j x ok) b type)
 |entry x=>exact bK g (Ot g (j x ok))
 |extract x i=>exact bK g (FX (j x ok) i)
 |call c=>exact TE q hF g j c type ok
 |_=>cases ok
def xj(e:eN->ad)(o:f6)(h:Dc o.op=hw):∃t x y z,(o.op=rR t x y z\/o.op=rS t x y z)/\f7 e o=kG (pp t (e x) (e y) (e z)) λ_=>lA xi:=by
 obtain⟨dst,op,type,pos,after,guard⟩:=o;simp only at h
 cases op with
 |mapUpdate t x y z=>exact⟨_,_,_,_,vc rfl,rfl⟩
 |insert t x y z=>exact⟨_,_,_,_,vd rfl,rfl⟩
 |_=>cases h
def Dd{o:Op}{t:ag}{x y z:eN}(h:o=rR t x y z\/o=rS t x y z)(ok:jh T F L o=hw) :
 (∀k e,tY T t=hO (.map k e)->og T 8 k=hw)/\cF F x=hw/\cF F y=hw/\cF F z=hw:=by
 have a:(Db T L t&&cF F x&&cF F y&&cF F z)=hw:=by rcases h with rfl|rfl<;>exact(pB.1 ok).2
 simp only[dd]at a;refine⟨λk b h=>?_,a.1.1.2,a.1.2,a.2⟩;have:=a.1.1.1;simp[Db,h]at this;exact this.1
def acm{o:Op}(a:F Ya=hG)(ok:jh T F L o=hw):Dc o=hG:=by
 cases o with
 |mapUpdate t x y z=>simp[jh,a]at ok
 |insert t x y z=>simp[jh,a]at ok
 |_=>rfl
def De{Z:ag->Bool}(q:dM T F Z)(hF:si fB fA F)(f:ρ.bw T.globals.size){w w':ai}(n:WR T.globals.size F K ρ w w')(p:w.tape=w'.tape)(hd:w.drawn=w'.drawn){e e':eN->ad}(b:lN F ρ e e')(o:f6)(ok:jh T F Z o.op=hw)(c:Array bm) :
 qp T.globals.size F K (gT F K) ρ w w' c ((f7 e' o).runT ⟨T,fA⟩ w' c) ((f7 e o).run ⟨T,fB⟩ w):=by
 by_cases g:Dc o.op=hw
 .obtain⟨t,x,y,z,r,s⟩:=xj e o g;obtain⟨u,A,y',B,E,C⟩:=xj e' o g;obtain⟨rfl,rfl,rfl,rfl⟩:t=u/\x=A/\y=y'/\z=B:=by
   grind
  obtain⟨k1,k2,k3,D⟩:=Dd r ok;rw[s,C,k7,k8];have h:=Ty (fB:=fB) (fA:=fA) (K:=K) f n p hd t k1 (b x k2) (b y k3) (b z D) c;generalize(pp t (e x) (e y) (e z)).run ⟨T,fB⟩ w=res at h
  match res,h with
  |u1 a w2,⟨i,H,j,l,m,d,e,k,I⟩=>rw[e];exact⟨i,xi,j,l,m,d,rfl,k,.skip⟩
  |uZ (wk v) w2,⟨i,v',j,l,m,d,e,k,hv⟩=>rw[e];exact⟨i,v',j,l,m,d,rfl,k,hv⟩
  |uZ wo _,h=>exact h
  |uZ wq _,h=>exact h
  |uZ (wx _) _,h=>exact h
  |uZ (wy _) _,h=>exact h
  |uZ (wC _) _,h=>exact h
  |uZ wD _,h=>exact h
  |uZ (wn _) _,h=>exact h
  |uZ (wl _) _,_=>trivial
 .exact(av.run c (ug q hF f b o ok (by simpa using g)) f n p hd).zu
end
def codeOk(T:bd)(F:ac->Bool)(Z:ag->Bool):a8->Bool
 |.skip | xt _ | .label _ | .goto _ | xv=>hw
 |xw _ ops _=>ops.toList.all λo=>jh T F Z o.op
 |xx a b=>codeOk T F Z a&&codeOk T F Z b
 |.cond c a b=>cF F c&&codeOk T F Z a&&codeOk T F Z b
 |.block _ b | .loop b | .scope b=>codeOk T F Z b
 |xB f _ a b=>cF F f&&codeOk T F Z a&&codeOk T F Z b
 |.refuse _=>hG
structure Bi(T:bd)(fB fA:Array bi)(F:ac->Bool)(Z:ag->Bool)(f:ac):Prop where
 ex:∃fn c,fB[f]?=hO fn/\fA[f]?=hO fn/\fn.body=hO c/\codeOk T F Z c=hw
section
variable (T:bd)(F:ac->Bool)(Z:ag->Bool)
inductive nF(ρ:Ren):f8->f8->Prop
 |code (c:a8) (h:codeOk T F Z c=hw):nF ρ (ui c) (ui c)
 |inBlock (id:Nat):nF ρ (.inBlock id) (.inBlock id)
 |inLoop (c:a8) (h:codeOk T F Z c=hw):nF ρ (.inLoop c) (.inLoop c)
 |inScope (c:a8) (h:codeOk T F Z c=hw):nF ρ (.inScope c) (.inScope c)
 |inRegion (ops:Array f6) (todo:List Nat) (h:(ops.toList.all λo=>jh T F Z o.op)=hw):nF ρ (ul ops todo) (ul ops todo)
 |inRangeFunc {l l':Nat} (h:ρ l l'):nF ρ (ur l) (ur l')
 |endRangeFunc {l l':Nat} (h:ρ l l'):nF ρ (ut l) (ut l')
 |beginRound:nF ρ uB uB
inductive cN(ρ:Ren):List f8->List f8->Prop
 |nil:cN ρ [] []
 |cons {i i':f8} {l l':List f8} (h:nF T F Z ρ i i') (t:cN ρ l l'):cN ρ (i::l) (i'::l')
inductive fS(ρ:Ren):List f9->List f9->Prop
 |nil:fS ρ [] []
 |cons {r r':Nat} {l l':List f9} (h:ρ r r') (t:fS ρ l l'):fS ρ ({ target:=.collected r,args:=#[] }::l) ({ target:=.collected r',args:=#[] }::l')
inductive ji(ρ:Ren):List gc->List gc->Prop
 |nil:ji ρ [] []
 |cons {v v':ad} {l l':List gc} (h:VR F ρ v v') (t:ji ρ l l'):ji ρ ({ v,recovered:=hG }::l) ({ v:=v',recovered:=hG }::l')
inductive qE(ρ:Ren):gf->gf->Prop
 |run:qE ρ xC xC
 |returning:qE ρ xF xF
 |panicking {c c':List gc} (h:ji F ρ c c'):qE ρ (xT c) (xT c')
inductive om(ρ:Ren):Option Nat->Option Nat->Prop
 |none:om ρ hN hN
 |some {l l':Nat} (h:ρ l l'):om ρ (hO l) (hO l')
structure aQ(fB fA:Array bi)(ρ:Ren)(fr fr':f0):Prop where
 fn:fr'.fn=fr.fn
 same:fr.roundOf=hN->Bi T fB fA F Z fr.fn
 mI:F fr.fn=hw
 tmps:VA F ρ fr.tmps fr'.tmps
 todo:cN T F Z ρ fr.todo fr'.todo
 defers:fS ρ fr.defers fr'.defers
 mode:qE F ρ fr.mode fr'.mode
 kind:fr.kind=xZ
 bX:fr'.kind=xZ
 roundOf:om ρ fr.roundOf fr'.roundOf
 ret:fr.mode=xF->fr.roundOf=hN
inductive cj(fB fA:Array bi)(ρ:Ren):List f0->List f0->Prop
 |nil:cj fB fA ρ [] []
 |cons {f f':f0} {l l':List f0} (h:aQ T F Z fB fA ρ f f') (t:cj fB fA ρ l l'):cj fB fA ρ (f::l) (f'::l')
end
section
variable {T:bd}{fB fA:Array bi}{F:ac->Bool}{Z:ag->Bool}{ρ σ:Ren}
def nF.mono(h:ρ.le σ){i i':f8}(x:nF T F Z ρ i i'):nF T F Z σ i i':=by
 cases x with
 |code c a=>exact .code c a
 |inBlock id=>exact .inBlock id
 |inLoop c a=>exact .inLoop c a
 |inScope c a=>exact .inScope c a
 |inRegion ops todo a=>exact .inRegion ops todo a
 |inRangeFunc a=>exact .inRangeFunc (h a)
 |endRangeFunc a=>exact .endRangeFunc (h a)
 |beginRound=>exact .beginRound
def cN.mono(h:ρ.le σ){l l':List f8}(x:cN T F Z ρ l l'):cN T F Z σ l l':=by
 induction x with
 |nil=>exact .nil
 |cons a _ b=>exact .cons (a.mono h) b
theorem cN.append{l' m m':List f8}(x:cN T F Z ρ O l')(y:cN T F Z ρ m m'):cN T F Z ρ (O++m) (l'++m'):=by
 induction x with
 |nil=>exact y
 |cons a _ b=>exact .cons a b
def fS.mono(h:ρ.le σ){l l':List f9}(x:fS ρ l l'):fS σ l l':=by
 induction x with
 |nil=>exact .nil
 |cons a _ b=>exact .cons (h a) b
theorem fS.append{l l' m m':List f9}(x:fS ρ l l')(y:fS ρ m m'):fS ρ (l++m) (l'++m'):=by
 induction x with
 |nil=>exact y
 |cons a _ b=>exact .cons a b
def ji.mono(h:ρ.le σ){l l':List gc}(x:ji F ρ l l'):ji F σ l l':=by
 induction x with
 |nil=>exact .nil
 |cons a _ b=>exact .cons (a.mono h) b
theorem ji.append{l l' m m':List gc}(x:ji F ρ l l')(y:ji F ρ m m'):ji F ρ (l++m) (l'++m'):=by
 induction x with
 |nil=>exact y
 |cons a _ b=>exact .cons a b
def qE.mono(h:ρ.le σ){m m':gf}(x:qE F ρ m m'):qE F σ m m':=by
 cases x with
 |run=>exact .run
 |returning=>exact .returning
 |panicking a=>exact .panicking (a.mono h)
def om.mono(h:ρ.le σ){m m':Option Nat}(x:om ρ m m'):om σ m m':=by
 cases x with
 |none=>exact .none
 |some a=>exact .some (h a)
def aQ.mono(h:ρ.le σ){f f':f0}(x:aQ T F Z fB fA ρ f f'):aQ T F Z fB fA σ f f':=
 ⟨x.fn,x.same,x.mI,cU.mono h x.tmps,x.todo.mono h,x.defers.mono h,x.mode.mono h,x.kind,x.bX,x.roundOf.mono h,x.ret⟩
def cj.mono(h:ρ.le σ){l l':List f0}(x:cj T F Z fB fA ρ l l'):cj T F Z fB fA σ l l':=by
 induction x with
 |nil=>exact .nil
 |cons a _ b=>exact .cons (a.mono h) b
def aQ.oper?{f f':f0}(x:aQ T F Z fB fA ρ f f'):f'.oper? = f.oper?:=by
 unfold te;have a:=x.todo;generalize f.todo=l at a;generalize f'.todo=b at a
 cases a with
 |nil=>rfl
 |cons h t=>
  cases h with
  |inRegion ops todo _=>cases todo<;>rfl
  |_=>rfl
def aQ.finish{f':f0}(x:aQ T F Z fB fA ρ J f'){v v':ad}(hv:VR F ρ v v'):aQ T F Z fB fA ρ (ti J v) (ti f' v'):=by
 obtain⟨fn,tmps,todo,defers,mode,kind,w⟩:=J;obtain⟨y,n,z,A,B,bX,C⟩:=f';obtain⟨o,b,e,a,p,g,j,q,r,k,l⟩:=x;simp only at o b e a p g j q r k l;subst o q r
 cases p with
 |nil=>exact⟨rfl,b,e,a,.nil,g,j,rfl,rfl,k,l⟩
 |cons h t=>
  cases h with
  |inRegion ops u s=>
   cases u with
   |nil=>exact⟨rfl,b,e,a,.cons (.inRegion ops [] s) t,g,j,rfl,rfl,k,l⟩
   |cons i m=>
    refine⟨rfl,b,e,?_,.cons (.inRegion ops m s) t,g,j,rfl,rfl,k,l⟩;show VA F ρ (match(ops[i]?).bind (·.dst) with|some d=>i6 tmps d v|none=>tmps) (match(ops[i]?).bind (·.dst) with|some d=>i6 n d v'|none=>n)
    cases(ops[i]?).bind (·.dst) with
    |none=>exact a
    |some d=>exact VA.set a d hv
  |inRangeFunc hl=>exact⟨rfl,b,e,a,.cons (.endRangeFunc hl) t,g,j,rfl,rfl,k,l⟩
  |beginRound=>exact⟨rfl,b,e,a,t,g,j,rfl,rfl,k,l⟩
  |code c hc=>exact⟨rfl,b,e,a,.cons (.code c hc) t,g,j,rfl,rfl,k,l⟩
  |inBlock id=>exact⟨rfl,b,e,a,.cons (.inBlock id) t,g,j,rfl,rfl,k,l⟩
  |inLoop c hc=>exact⟨rfl,b,e,a,.cons (.inLoop c hc) t,g,j,rfl,rfl,k,l⟩
  |inScope c hc=>exact⟨rfl,b,e,a,.cons (.inScope c hc) t,g,j,rfl,rfl,k,l⟩
  |endRangeFunc hl=>exact⟨rfl,b,e,a,.cons (.endRangeFunc hl) t,g,j,rfl,rfl,k,l⟩
def aQ.raise{f f':f0}(x:aQ T F Z fB fA ρ f f'){c c':List gc}(hc:ji F ρ c c'):aQ T F Z fB fA ρ (f.raise c) (f'.raise c'):=by
 obtain⟨fn,tmps,todo,defers,mode,kind,p⟩:=f;obtain⟨q,r,s,t,u,bX,v⟩:=f';obtain⟨a,b,d,g,i,j,n,k,l,m,o⟩:=x;simp only at a b d g i j n k l m o
 cases n with
 |run=>exact⟨a,b,d,g,i,j,.panicking hc,k,l,m,bA⟩
 |returning=>exact⟨a,b,d,g,i,j,.panicking hc,k,l,m,bA⟩
 |panicking h=>exact⟨a,b,d,g,i,j,.panicking (hc.append h),k,l,m,bA⟩
def aQ.lO{f':f0}(x:aQ T F Z fB fA ρ J f'){a:List f8}(h:cN T F Z ρ O a):aQ T F Z fB fA ρ { J with todo:=O } { f' with todo:=a }:=
 ⟨x.fn,x.same,x.mI,x.tmps,h,x.defers,x.mode,x.kind,x.bX,x.roundOf,x.ret⟩
def xo(id:Nat){l':List f8}(h:cN T F Z ρ O l'):(gg id O=hN/\gg id l'=hN)\/∃k k',gg id O=hO k/\gg id l'=hO k'/\cN T F Z ρ k k':=by
 induction h with
 |nil=>exact vc ⟨rfl,rfl⟩
 |cons h t a=>
  cases h with
  |inBlock b=>
   simp only[gg];grind
  |_=>exact a
def Bj(l:Nat):∀{c r:a8},codeOk T F Z c=hw->gt c l=hO r->codeOk T F Z r=hw:=by
 intro c
 induction c with
 |seq a b d e=>
  intro r hc h;simp only[codeOk,dd]at hc;simp only[gt]at h;split at h
  .rename_i f g;cases h;simp only[codeOk,dd];exact⟨d hc.1 g,hc.2⟩
  .exact e hc.2 h
 |label i=>
  intro r hc h;simp only[gt]at h;split at h
  .cases h;rfl
  .cases h
 |_=>intro r hc h;simp[gt]at h
def xq(id:Nat){l':List f8}(h:cN T F Z ρ O l'):(gy id O=hN/\gy id l'=hN)\/∃k k',gy id O=hO k/\gy id l'=hO k'/\cN T F Z ρ k k':=by
 induction h with
 |nil=>exact vc ⟨rfl,rfl⟩
 |cons h t a=>
  cases h with
  |inScope c hc=>
   simp only[gy];split
   .rename_i b d;exact vd ⟨_,_,rfl,rfl,.cons (.code _ (Bj id hc d)) (.cons (.inScope c hc) t)⟩
   .exact a
  |_=>exact a
def oo(ops:Array f6){c:Array ad}(h:VA F ρ C c)(j:Nat):gL ops C j=gL ops c j:=by
 unfold gL
 cases(ops[j]?).bind (·.dst) with
 |none=>rfl
 |some d=>
  rcases VA.get? h d with⟨a,b⟩|⟨v,v',a,b,hv⟩
  .simp[a,b]
  .simp only[mb,a,b]
   cases hv with
   |hole v' h=>cases v'<;>first|rfl|cases h
   |_=>rfl
def fe{f:ac}(hs:Bi T fB fA F Z f)(hf:F f=hw){a a':Array ad}(h:VA F ρ a a'):aQ T F Z fB fA ρ (tj ⟨T,fB⟩ f a xZ) (tj ⟨T,fA⟩ f a' xZ):=by
 obtain⟨fn,c,b,d,g,i⟩:=hs.ex;refine⟨rfl,λ_=>hs,hf,?_,?_,.nil,.run,rfl,rfl,.none,bA⟩
 .show VA F ρ (a++i7 ((fB[f]?.map (·.ntmps)).getD 0-a.size) undef) (a'++i7 ((fA[f]?.map (·.ntmps)).getD 0-a'.size) undef);rw[b,d,VA.size h];exact VA.append h (VA.replicate .undef _)
 .show cN T F Z ρ [ui ((fB[f]?.bind (·.body)).getD _)] [ui ((fA[f]?.bind (·.body)).getD _)];rw[b,d];simp only[mb,g,du];exact .cons (.code _ i) .nil
end
section
variable (T:bd)(fB fA:Array bi)(F X:ac->Bool)(Z:ag->Bool)(bot:f0)
inductive Gm(ρ:Ren):f0->f0->Prop
 |alike {f f':f0} (h:aQ T F Z fB fA ρ f f'):Gm ρ f f'
 |enters (x:ac) (hx:X x=hw) (hf:F x=hw) {a a':Array ad} (h:VA F ρ a a'):Gm ρ (tj ⟨T,fB⟩ x a xZ) (tj ⟨T,fA⟩ x a' xZ)
def dn(l:List f0):Prop:=∀f,l.getLast? = hO f->f.roundOf=hN
structure GR(ρ:Ren)(g g':g0):Prop where
 top:Gm T fB fA F X Z ρ g.frame g'.frame
 callers:∃l,g.callers=l++[bot]/\cj T F Z fB fA ρ l g'.callers/\dn (g.frame::l)/\(l=[]->aQ T F Z fB fA ρ g.frame g'.frame)
 st:g.status=x7
 st':g'.status=x7
 dy:g.dying=hN
 Bl:g'.dying=hN
 of:g.offers=hN
 Bm:g'.offers=hN
def ef(ρ:Ren)(w w':ai):g6->g6->Prop
 |tt f w1 _,g=>∃a b c e h d,g=tt b c e/\cE T.globals.size F (codeOk T F Z) ρ w w' a (w1.re h d) c e/\GR T fB fA F X Z bot a f b
 |tu ..,_=>True
 |_,_=>False
structure Fits:Prop where
 zero:dM T F Z
 fns:si fB fA F
 same:∀f,F f=hw->X f=hG->Bi T fB fA F Z f
structure Wd(ρ:Ren)(w w':ai):Prop where
 inj:ρ.bw T.globals.size
 wr:WR T.globals.size F (codeOk T F Z) ρ w w'
 tape:w.tape=w'.tape
 drawn:w.drawn=w'.drawn
end
section
variable {T:bd}{fB fA:Array bi}{F X:ac->Bool}{Z:ag->Bool}{bot:f0}{ρ σ:Ren}{w w':ai}
def cE.wd{a:Ren}{b:ai}{es:Array bm}(h:cE T.globals.size F (codeOk T F Z) ρ w w' a R b es):Wd T F Z a R b:=⟨h.inj,h.wr,h.tape,h.drawn⟩
def Wd.refl(h:Wd T F Z ρ w w'):cE T.globals.size F (codeOk T F Z) ρ w w' ρ w w' #[]:=cE.refl h.inj h.wr h.tape h.drawn
def cE.less{a:Ren}{b:ai}{es c:Array bm}(h:cE T.globals.size F (codeOk T F Z) ρ w w' a R b es)(k:∀e∈c,e∈es):cE T.globals.size F (codeOk T F Z) ρ w w' a R b c:=
 { h with ev:=λe d=>h.ev e (k e d) }
def dn.push(h:dn (J::q))(g:f0):dn (g::J::q):=λx a=>h x (by simpa using a)
def dn.top{g:f0}(h:dn (J::q))(e:g.roundOf=J.roundOf):dn (g::q):=by
 cases q with
 |nil=>intro x b;simp at b;subst b;exact e.t (h J rfl)
 |cons a q=>exact λx b=>h x (by simpa using b)
def dn.pop{g:f0}(h:dn (J::g::q)):dn (g::q):=λx a=>h x (by simpa using a)
def bZ(f:f0)(v:ad):(ti f v).roundOf=f.roundOf:=by
 unfold ti;split<;>rfl
def eC(f:f0)(c:List gc):(f.raise c).roundOf=f.roundOf:=by
 unfold tk;split<;>rfl
def ef.comp{b:Ren}{c:ai}{new es a:Array bm}{s s':g6}(f:cE T.globals.size F (codeOk T F Z) ρ w w' b R c new)(h:ef T fB fA F X Z bot b R c s s')(g:∀e∈a,e∈new) :
 ef T fB fA F X Z bot ρ w w' (tq es s) (tq a s'):=by
 cases s with
 |go p w2 q=>
  obtain⟨i,j,l,m,n,d,e,k,o⟩:=h;subst e;exact⟨i,j,l,a++m,n,d,rfl,(f.less g).trans k,o⟩
 |ended _ _ _=>trivial
 |_=>exact h.elim
def Bo{ops:Array f6}(h:(ops.toList.all λo=>jh T F Z o.op)=hw){o:f6}(a:ops[M]?=hO o):jh T F Z o.op=hw:=by
 grind
def Ae(fit:Fits T fB fA F X Z)(N:Wd T F Z ρ w w'){fr':f0}{cs':List f0}(n:aQ T F Z fB fA ρ J fr')(hcs:cj T F Z fB fA ρ q cs')(hb:dn (J::q))
 {s s':Sem fc} (p:qp T.globals.size F (codeOk T F Z) (gT F (codeOk T F Z)) ρ w w' #[] (s'.runT ⟨T,fA⟩ w' #[]) (s.run ⟨T,fB⟩ w)) :
 ef T fB fA F X Z bot ρ w w' (tz ⟨T,fB⟩ hw J (q++[bot]) hN s w) (tz ⟨T,fA⟩ hw fr' cs' hN s' w'):=by
 have z:(s.runT ⟨T,fB⟩ w #[]).1=s.run ⟨T,fB⟩ w:=k9 _ _ _ _;have A:(fr'.kind == x6)=hG:=by rw[n.bX];rfl
 generalize E:s.runT ⟨T,fB⟩ w #[]=H at z;obtain⟨r,es⟩:=H;simp only at z;rw[<-z]at p;unfold tz;simp only[if_true,E]
 cases r with
 |ok a w1=>
  obtain⟨b,B,C,new,i,d,e1,c,I⟩:=p;rw[e1];simp only[A,py,if_false];have o:=n.mono c.le;have cs:=hcs.mono c.le;have x:∀O:Array bm,cE T.globals.size F (codeOk T F Z) ρ w w' b (w1.re i d) C (seen ⟨T,fA⟩ fr'.fn (#[]++new) ++ #[]):=λ_=>c.less λe fr=>by
   grind[tL]
  cases I with
  |value hv=>exact⟨b,_,_,_,i,d,rfl,x #[],.alike (o.finish hv),⟨_,rfl,cs,hb.top (bZ _ _),λ_=>o.finish hv⟩,rfl,rfl,rfl,rfl,rfl,rfl⟩
  |skip=>exact⟨b,_,_,_,i,d,rfl,x #[],.alike (o.finish .undef),⟨_,rfl,cs,hb.top (bZ _ _),λ_=>o.finish .undef⟩,rfl,rfl,rfl,rfl,rfl,rfl⟩
  |@enter f hf a B y=>
   refine⟨b,_,_,_,i,d,rfl,x #[],?_,⟨J::q,rfl,.cons o cs,hb.push _,(bA)⟩,rfl,rfl,rfl,rfl,rfl,rfl⟩;have top:∀k k':g7,k=xZ->k'=xZ->Gm T fB fA F X Z b (tj ⟨T,fB⟩ f a k) (tj ⟨T,fA⟩ f B k'):=by
    rintro k k' rfl rfl
    cases D:X f with
    |true=>exact .enters f D hf y
    |false=>exact .alike (fe (fit.same f hf D) hf y)
   refine top _ _ ?_ ?_
   .have j:=n.todo;generalize J.todo=l at j ⊢;generalize fr'.todo=K at j ⊢
    cases j with
    |nil=>rfl
    |cons h t=>cases h<;>rfl
   .have j:=n.todo;generalize J.todo=l at j ⊢;generalize fr'.todo=K at j ⊢
    cases j with
    |nil=>rfl
    |cons h t=>cases h<;>rfl
  |round hl f hf y assign body L M=>
   refine⟨b,_,_,_,i,d,rfl,x #[],.alike ?_,⟨J::q,rfl,.cons o cs,hb.push _,(bA)⟩,rfl,rfl,rfl,rfl,rfl,rfl⟩;exact⟨rfl,(bA),hf,y,.cons (.code _ L) (.cons .beginRound (.cons (.code _ M) .nil)),.nil,.run,rfl,rfl,.some hl,(bA)⟩
 |halt h w1=>
  cases h with
  |panic v=>
   obtain⟨b,v',C,new,i,d,e1,c,hv⟩:=p;rw[e1];simp only[A,py,if_false];refine⟨b,_,_,_,i,d,rfl,c.less λe fr=>?_,.alike ((n.mono c.le).raise (.cons hv .nil)),⟨_,rfl,hcs.mono c.le,hb.top (eC _ _),λ_=>(n.mono c.le).raise (.cons hv .nil)⟩,rfl,rfl,rfl,rfl,rfl,rfl⟩;grind[tL]
  |stuck m=>trivial
  |unsupported u=>
   cases u with
   |initOrder g=>exact absurd p (by simp[qp,dw])
   |_=>trivial
  |_=>exact p.elim
def Af(fit:Fits T fB fA F X Z)(a:Wd T F Z ρ w w'){fr':f0}{cs':List f0}(b:aQ T F Z fB fA ρ J fr')(hcs:cj T F Z fB fA ρ q cs')(hb:dn (J::q))
 {s s':Sem fc} (hs:av T fB fA F (codeOk T F Z) (gT F (codeOk T F Z)) ρ s s') :
 ef T fB fA F X Z bot ρ w w' (tz ⟨T,fB⟩ hw J (q++[bot]) hN s w) (tz ⟨T,fA⟩ hw fr' cs' hN s' w'):=
 Ae fit a b hcs hb (av.run #[] hs a.inj a.wr a.tape a.drawn).zu
def lg(a:ρ.bw T.globals.size){l l':Nat}(h:ρ l l'):av T fB fA F (codeOk T F Z) fF ρ (qt l) (qt l'):=by
 refine af a (jV a h) λσ b a r d c=>?_;refine af a (dV (b h) (.loop { c with state:=rfl })) λe b a _ _ _=>?_;rw[<-c.state]
 cases r.state with
 |ready=>exact ah rfl
 |done=>exact cX _
 |busy=>exact cX _
 |exhausted=>exact cX _
def oq(a:ρ.bw T.globals.size){l l':Nat}(h:ρ l l')(j:Option a8)(d:∀c,j=hO c->codeOk T F Z c=hw):av T fB fA F (codeOk T F Z) (RV F) ρ (qu l j) (qu l' j):=by
 refine af a (jV a h) λσ b a r f e=>?_;refine af a (dV (b h) (.loop { e with state:=rfl,pending:=rfl,FN:=d })) λg b a _ _ _=>?_;exact ah (.bool _)
def qW(a:ρ.bw T.globals.size){l l':Nat}(h:ρ l l'):av T fB fA F (codeOk T F Z) (λ_ j e=>j=e/\∀c,j=hO c->codeOk T F Z c=hw) ρ (qv l) (qv l'):=by
 refine af a (jV a h) λσ b a r f d=>?_;rw[<-d.state];refine aN (λ_=>?_) λ_=>?_
 .exact af (RA:=λ_ _ _=>False) a (cX _) λ_ _ _ _ _ h=>h.elim
 .refine af a (dV (b h) (.loop { d with state:=rfl })) λg b a _ _ _=>?_;exact ah ⟨d.pending,d.FN⟩
def mO(f:ρ.bw T.globals.size)(fn:ac)(hf:F fn=hw){t k:Array ad}(n:VA F ρ t k)(ps:Array Tmp)(a b:a8)(o:codeOk T F Z a=hw)(hb:codeOk T F Z b=hw){r j:Option Nat}(g:om ρ r j) :
 av T fB fA F (codeOk T F Z) (λσ x i=>σ x.1 i.1/\fS σ x.2 i.2) ρ (qx fn t ps a b r) (qx fn k ps a b j):=by
 unfold qx;have fin:∀(σ:Ren),σ.bw T.globals.size->ρ.le σ->∀(d l:Nat)(m m':List f9),σ d l->fS σ m m'->
  av T fB fA F (codeOk T F Z) (λσ x i=>σ x.1 i.1/\fS σ x.2 i.2) σ (do pure (<-b8 (wb { state:=.ready,pending:=hN,fn,tmps:=t,params:=ps,assign:=a,body:=b,defers:=d }),m):Sem (Nat×List f9))
   (do pure (<-b8 (wb { state:=.ready,pending:=hN,fn,tmps:=k,params:=ps,assign:=a,body:=b,defers:=l }),m'):Sem (Nat×List f9)):=by
  intro σ f c d l m m' hd p;refine af f (jO (.loop ⟨rfl,rfl,(λ_ e=>by cases e),rfl,hf,VA.mono c n,rfl,rfl,o,rfl,hb,hd⟩)) λs c f x i q=>ah ⟨q,p.mono c⟩
 cases g with
 |some h=>
  refine af f (jV f h) λσ c f r j g=>?_;exact fin σ f c _ _ _ _ g.defers .nil
 |none=>
  refine af f (jO .deferred) λσ c f r j g=>?_;exact fin σ f c _ _ _ _ g (.cons g .nil)
def jj(a:ρ.bw T.globals.size){r c:Nat}(h:ρ r c):av T fB fA F (codeOk T F Z) (λ_ l l'=>l=[]/\l'=[]) ρ (qA r) (qA c):=by
 refine af a (dA h) λσ b a o e d=>?_
 cases d with
 |deferred=>exact af a (dV (b h) .nW) λ_ _ _ _ _ _=>ah ⟨rfl,rfl⟩
 |_=>exact ak
def Br{d:Array ad}:∀(l:List ResultVar){ρ:Ren},ρ.bw T.globals.size->VA F ρ C d->av T fB fA F (codeOk T F Z) (λσ x e=>cU F σ x e) ρ
 (l.mapM fun | .tmp t=>pure (C.getD t undef) | .cell a t=>do c9 t (<-d9 (C.getD a undef)))
 (l.mapM fun | .tmp t=>pure (d.getD t undef) | .cell a t=>do c9 t (<-d9 (d.getD a undef))):=by
 intro l
 induction l with
 |nil=>intro ρ b h;exact ah .nil
 |cons x l f=>
  intro ρ b h;rw[io,io];refine af (RA:=RV F) b ?_ λσ c b v v' hv=>?_
  .cases x with
   |tmp t=>exact ah (VA.getD h t .undef)
   |cell a t=>exact af b (z7 (VA.getD h a .undef)) λσ c b a j g=>wN b t g
  .refine af b (f b (VA.mono c h)) λk c b vs m i=>ah (.cons (hv.mono c) i)
def mP(b:ρ.bw T.globals.size)(fn:bi){tmps g:Array ad}(h:VA F ρ tmps g):av T fB fA F (codeOk T F Z) (RV F) ρ (g8 fn tmps) (g8 fn g):=by
 unfold g8;rw[jn,jn];refine af (RA:=λσ(x i:Array ad)=>VA F σ x i) b (af b (Br fn.results.toList b h) λσ e b vs a c=>ah c) λσ e b vs a c=>?_;refine ah ?_;have hs:=VA.size c;by_cases d:vs.size=1
 .have f:a.size=1:=hs▸d;show VR F σ (if h:vs.size=1 then vs[0] else _) (if h:a.size=1 then a[0] else _);rw[dif_pos d,dif_pos f]
  rcases VA.get? c 0 with⟨j,_⟩|⟨v,v',j,k,hv⟩
  .grind
  grind
 .have f:a.size≠1:=hs▸d;show VR F σ (if h:vs.size=1 then vs[0] else _) (if h:a.size=1 then a[0] else _);rw[dif_neg d,dif_neg f];exact .tuple c
def mQ(b:Wd T F Z ρ w w'){fr':f0}{cs':List f0}(a:aQ T F Z fB fA ρ J fr')(hcs:cj T F Z fB fA ρ q cs')(hb:dn (J::q)) :
 ef T fB fA F X Z bot ρ w w' (tt { frame:=J,callers:=q++[bot],status:=x7,dying:=hN } w) (tt { frame:=fr',callers:=cs',status:=x7,dying:=hN } w'):=
 ⟨ρ,_,_,_,w.tape,w.drawn,rfl,b.refl,.alike a,⟨q,rfl,hcs,hb,λ_=>a⟩,rfl,rfl,rfl,rfl,rfl,rfl⟩
def sj(b:Wd T F Z ρ w w'){fr':f0}{cs':List f0}(a:aQ T F Z fB fA ρ J fr')(hcs:cj T F Z fB fA ρ q cs')(hb:dn (J::q))(c:q≠[]){v v':ad}(hv:VR F ρ v v') :
 ef T fB fA F X Z bot ρ w w' (g9 (lL T fB) hw J (q++[bot]) hN v w) (g9 (lL T fA) hw fr' cs' hN v' w'):=by
 cases hcs with
 |nil=>exact absurd rfl c
 |@cons f d l e h t=>
  show(ef T fB fA F X Z bot) ρ w w' (g9 (lL T fB) hw J (f::(l++[bot])) hN v w) _;simp only[g9,a.kind,a.bX];exact mQ b (h.finish hv) t (hb.pop.top (bZ _ _))
def sk{i j:Type}{RA:Ren->i->j->Prop}(k:Wd T F Z ρ w w'){s:Sem i}{s':Sem j}(hs:av T fB fA F (codeOk T F Z) RA ρ s s'){f:aL i->g6}{f':aL j->g6}(fn p:ac)
 (q:∀(b:Ren)(a:i)(a':j)(w1 c:ai)(new:Array bm),cE T.globals.size F (codeOk T F Z) ρ w w' b w1 c new->RA b a a'->ef T fB fA F X Z bot b w1 c (f (u1 a w1)) (f' (u1 a' c)))
 (t:∀(b:Ren)(v v':ad)(w1 c:ai)(new:Array bm),cE T.globals.size F (codeOk T F Z) ρ w w' b w1 c new->VR F b v v'->ef T fB fA F X Z bot b w1 c (f (uZ (wk v) w1)) (f' (uZ (wk v') c)))
 (d:∀m w1,∃o w2 es,f (uZ (wl m) w1)=tu o w2 es) (x:∀u w1,dw u=hw->∃o w2 es,f (uZ (wn u) w1)=tu o w2 es) :
 ef T fB fA F X Z bot ρ w w' (tq (seen (lL T fB) fn (s.runT (lL T fB) w #[]).2) (f (s.runT (lL T fB) w #[]).1)) (tq (seen (lL T fA) p (s'.runT (lL T fA) w' #[]).2) (f' (s'.runT (lL T fA) w' #[]).1)):=by
 have g:=av.run #[] hs k.inj k.wr k.tape k.drawn;rw[k9];generalize s.run (lL T fB) w=r at g
 cases r with
 |ok a w1=>
  obtain⟨b,a',c,new,e1,d,l⟩:=g;rw[e1];exact ef.comp d (q b a a' w1 c new d l) λe n=>by simpa using tL n
 |halt h w1=>
  cases h with
  |panic v=>
   obtain⟨b,v',c,new,e1,d,l⟩:=g;rw[e1];exact ef.comp d (t b v v' w1 c new d l) λe n=>by simpa using tL n
  |stuck m=>
   obtain⟨o,w2,es,e⟩:=d m w1;rw[e];trivial
  |unsupported u=>
   obtain⟨o,w2,es,e⟩:=x u w1 g;rw[e];trivial
  |_=>exact g.elim
def mR(p:bq)(main:Bool)(fr:f0)(callers:List f0)(dying:Option Dying)(w:ai)(jump:Option a8):g6:=
 match fr.roundOf with
 |none=>if jump matches hN|some xv then tt { frame:={ fr with mode:=xF },callers,status:=x7,dying } w else tu (x8 "exit, goto: no such block or label" (fr.pos p)) w
 |some l=>
  let(r,es):=(qu l jump).runT p w #[]
  tq (seen p fr.fn es) <| match r with
  |u1 v w=>g9 p main fr callers dying v w
  |uZ _ w=>tu (x8 "range over a function: no such loop" (fr.pos p)) w
def sn:Option a8->Bool
 |none|some xv=>hw
 |_=>hG
def iW{p:bq}{main:Bool}{callers:List f0}{dying:Option Dying}{w:ai}{jump:Option a8}(h:J.roundOf=hN) :
 mR p main J callers dying w jump=if sn jump then tt { frame:={ J with mode:=xF },callers,status:=x7,dying } w else tu (x8 "exit, goto: no such block or label" (J.pos p)) w:=by
 unfold mR;have e:(jump matches hN|some xv)=sn jump:=by
  cases jump with
  |none=>rfl
  |some c=>cases c<;>rfl
 grind
def iX{p:bq}{main:Bool}{dying:Option Dying}{w:ai}{jump:Option a8}(h:J.roundOf=hO M) :
 mR p main J q dying w jump=tq (seen p J.fn ((qu M jump).runT p w #[]).2) (match((qu M jump).runT p w #[]).1 with
 |u1 v w=>g9 p main J q dying v w
 |uZ _ w=>tu (x8 "range over a function: no such loop" (J.pos p)) w):=by
 unfold mR;grind
def jP{r a:Option Nat}(h:om ρ r a):(r=hN/\a=hN)\/∃l l',r=hO l/\a=hO l'/\ρ l l':=by
 cases h with
 |none=>exact vc ⟨rfl,rfl⟩
 |some h=>grind
def aQ.returning{fr fr':f0}(x:aQ T F Z fB fA ρ fr fr')(h:fr.roundOf=hN):aQ T F Z fB fA ρ { fr with mode:=xF } { fr' with mode:=xF }:=
 ⟨x.fn,x.same,x.mI,x.tmps,x.todo,x.defers,.returning,x.kind,x.bX,x.roundOf,λ_=>h⟩
def LI(b:Wd T F Z ρ w w'){fr fr':f0}{cs cs':List f0}(d:aQ T F Z fB fA ρ fr fr')(hcs:cj T F Z fB fA ρ cs cs')(hb:dn (fr::cs))(j:Option a8)(h:∀c,j=hO c->codeOk T F Z c=hw) :
 ef T fB fA F X Z bot ρ w w' (mR (lL T fB) hw fr (cs++[bot]) hN w j) (mR (lL T fA) hw fr' cs' hN w' j):=by
 rcases jP d.roundOf with⟨e1,e⟩|⟨l,k,e1,e,hl⟩
 .rw[iW e1,iW e]
  cases sn j with
  |false=>trivial
  |true=>exact mQ b (d.returning e1) hcs (hb.top rfl)
 .rw[iX e1,iX e];have i:cs≠[]:=by
   rintro rfl;have:=hb fr rfl;rw[e1]at this;cases this
  exact sk b (oq b.inj hl j h) (f:=λr=>match r with | u1 v w=>g9 (lL T fB) hw fr (cs++[bot]) hN v w | uZ _ w=>tu (x8 "range over a function: no such loop" (fr.pos (lL T fB))) w)
   (f':=λr=>match r with | u1 v w=>g9 (lL T fA) hw fr' cs' hN v w | uZ _ w=>tu (x8 "range over a function: no such loop" (fr'.pos (lL T fA))) w) fr.fn fr'.fn
   (λm a n w1 o new g hv=>sj g.wd (d.mono g.le) (hcs.mono g.le) hb i hv) (λ_ _ _ _ _ _ _ _=>trivial) (λ_ _=>⟨_,_,_,rfl⟩) (λ_ _ _=>⟨_,_,_,rfl⟩)
def Ox(fit:Fits T fB fA F X Z)(a:Wd T F Z ρ w w'){fr':f0}{cs':List f0}(b:aQ T F Z fB fA ρ J fr')(hcs:cj T F Z fB fA ρ q cs')(hb:dn (J::q)){ops:Array f6}{rest:List Nat}
 (f:J.todo=ul ops (M::rest)::O) (g:(ops.toList.all λo=>jh T F Z o.op)=hw) :
 ef T fB fA F X Z bot ρ w w' (tH (lL T fB) hw J (q++[bot]) hN w) (tH (lL T fA) hw fr' cs' hN w'):=by
 unfold tH;rw[b.oper?];have e:J.oper? = ops[M]?:=by unfold te;rw[f]
 rw[e]
 cases h:ops[M]? with
 |none=>trivial
 |some o=>
  have ok:=Bo g h;simp only;have main:ef T fB fA F X Z bot ρ w w' (tz (lL T fB) hw J (q++[bot]) hN (f7 J.eval o) w) (tz (lL T fA) hw fr' cs' hN (f7 fr'.eval o) w'):=
   Ae fit a b hcs hb (De fit.zero fit.fns a.inj a.wr a.tape a.drawn (dD b.tmps) o ok #[])
  have d:=b.roundOf;generalize e1:J.roundOf=r at d;generalize l:fr'.roundOf=m at d
  cases d with
  |none=>exact main
  |some hl=>
   cases j:o.op with
   |defer c=>rw[j]at ok;cases ok
   |_=>exact main
def iR{b:List f8}(h:cN T F Z ρ O b)(P:bq)(fn:ac)(t:Array ad)(d:List f9)(m:gf)(k:g7)(r:Option Nat):tm P { fn:=fn,tmps:=t,todo:=O,defers:=d,mode:=m,kind:=k,roundOf:=r }=hG:=by
 unfold tm
 cases h with
 |nil=>cases P.funcs[fn]?<;>rfl
 |cons h t=>cases h<;>cases P.funcs[fn]?<;>rfl
def ot{a:List f8}(h:cN T F Z ρ O a)(P:bq)(fn:ac)(t:Array ad)(d:List f9)(m:gf)(k:g7)(r:Option Nat):tm P { fn:=fn,tmps:=t,todo:=a,defers:=d,mode:=m,kind:=k,roundOf:=r }=hG:=by
 unfold tm
 cases h with
 |nil=>cases P.funcs[fn]?<;>rfl
 |cons h t=>cases h<;>cases P.funcs[fn]?<;>rfl
def Gq(e:Wd T F Z ρ w w'){fr fr':f0}{cs cs':List f0}(o:aQ T F Z fB fA ρ fr fr')(hcs:cj T F Z fB fA ρ cs cs')(hb:dn (fr::cs))(B:fr.mode≠xC)(g:fr.defers=[]->cs≠[]) :
 ef T fB fA F X Z bot ρ w w' (hh (lL T fB) hw fr (cs++[bot]) hN w) (hh (lL T fA) hw fr' cs' hN w'):=by
 have hd:=o.defers;obtain⟨fn,tmps,todo,defers,mode,kind,i⟩:=fr;obtain⟨b,j,p,Y,L,k,m⟩:=fr';have M:=o;obtain⟨C,q,D,u,n,N,x,E,H,I,y⟩:=o;simp only at C q D u n N x E H I y B g hd;subst C
 cases hd with
 |@cons r r' ds z O t=>
  unfold hh;simp only;exact sk e (jj e.inj O)
   (f:=λr=>match r with
     |u1 calls w=>tt { frame:={ fn:=b,tmps,todo,defers:=calls++ds,mode,kind,roundOf:=i },callers:=cs++[bot],status:=x7,dying:=hN } w
     |uZ _ w=>tu (x8 "the deferred calls of a range-over-func loop have been taken" _) w)
   (f':=λr=>match r with
     |u1 calls w=>tt { frame:={ fn:=b,tmps:=j,todo:=p,defers:=calls++z,mode:=L,kind:=k,roundOf:=m },callers:=cs',status:=x7,dying:=hN } w
     |uZ _ w=>tu (x8 "the deferred calls of a range-over-func loop have been taken" _) w) b b
   (λP a Q w1 R new d S=>by
     obtain⟨rfl,rfl⟩:=S
     exact mQ d.wd ⟨rfl,q,D,cU.mono d.le u,n.mono d.le,t.mono d.le,x.mono d.le,E,H,I.mono d.le,y⟩ (hcs.mono d.le) (hb.top rfl))
   (λ_ _ _ _ _ _ _ _=>trivial) (λ_ _=>⟨_,_,_,rfl⟩) (λ_ _ _=>⟨_,_,_,rfl⟩)
 |nil=>
  have g:=g rfl
  cases x with
  |run=>exact absurd rfl B
  |@panicking c A hc=>
   cases hcs with
   |nil=>exact absurd rfl g
   |@cons f J l K h t=>
    show(ef T fB fA F X Z bot) ρ w w' (hh (lL T fB) hw _ (f::(l++[bot])) hN w) _;have e1:hh (lL T fB) hw { fn:=b,tmps:=tmps,todo:=todo,defers:=[],mode:=xT c,kind:=kind,roundOf:=i } (f::(l++[bot])) hN w=tt { frame:=f.raise c,callers:=l++[bot],status:=x7,dying:=hN } w:=by
     unfold hh;simp only[iR n (lL T fB) b tmps [] (xT c) kind i,py,if_false]
    have U:hh (lL T fA) hw { fn:=b,tmps:=j,todo:=p,defers:=[],mode:=xT A,kind:=k,roundOf:=m } (J::K) hN w'=tt { frame:=J.raise A,callers:=K,status:=x7,dying:=hN } w':=by
     unfold hh;simp only[ot n (lL T fA) b j [] (xT A) k m,py,if_false]
    rw[e1,U];exact mQ e (h.raise hc) t (hb.pop.top (eC _ _))
  |returning=>
   obtain⟨fx,c,V,W,g3,g4⟩:=(q (y rfl)).ex;unfold hh;simp only[V,W]
   exact sk e (mP e.inj fx u) (f:=λr=>match r with
    |u1 v w=>g9 (lL T fB) hw { fn:=b,tmps,todo,defers:=[],mode:=xF,kind,roundOf:=i } (cs++[bot]) hN v w
    |uZ (wl s) w=>tu (x8 s _) w
    |uZ _ w=>tu (x8 "return: the result variables cannot be read" _) w)
    (f':=λr=>match r with
     |u1 v w=>g9 (lL T fA) hw { fn:=b,tmps:=j,todo:=p,defers:=[],mode:=xF,kind:=k,roundOf:=m } cs' hN v w
     |uZ (wl s) w=>tu (x8 s _) w
     |uZ _ w=>tu (x8 "return: the result variables cannot be read" _) w) b b
    (λP a Q w1 R new d hv=>sj d.wd (M.mono d.le) (hcs.mono d.le) hb g hv) (λ_ _ _ _ _ _ _ _=>trivial) (λ_ _=>⟨_,_,_,rfl⟩) (λ_ _ _=>⟨_,_,_,rfl⟩)
def ou(c:Wd T F Z ρ w w')(q:aH):∃n f w1 d,(ce q).run (lL T fB) w=u1 n w1/\(ce q).run (lL T fA) w'=u1 n d/\cE T.globals.size F (codeOk T F Z) ρ w w' f w1 d #[]:=by
 have e:∀(P:bq)(w:ai),(ce q).run P w=if q.forced then u1 0 w else u1 (q.cut (w.tape w.drawn q)) { w with drawn:=w.drawn+1 }:=λP w=>rfl
 rw[e,e,c.tape,c.drawn]
 cases q.forced with
 |true=>exact⟨0,ρ,w,w',rfl,rfl,c.refl⟩
 |false=>
  have hb:=c.refl;refine⟨_,ρ,_,_,rfl,rfl,?_⟩;exact⟨hb.le,hb.inj,⟨c.wr.pK,c.wr.gN,c.wr.obj⟩,rfl,rfl,rfl,rfl,rfl,dk _,dk _,λ_ _ _=>rfl,λ_ a b=>absurd b (Nat.not_lt.2 a),λ_ _ h=>vc h,ar,λ_ _ _ _ h=>⟨h,rfl⟩⟩
def ef.Oy{a:Ren}{b:ai}{s s':g6}(c:cE T.globals.size F (codeOk T F Z) ρ w w' a R b #[])(h:ef T fB fA F X Z bot a R b s s'):ef T fB fA F X Z bot ρ w w' s s':=by
 cases s with
 |go n w2 o=>
  obtain⟨f,g,i,j,l,d,e,k,m⟩:=h;exact⟨f,g,i,j,l,d,e,by simpa using c.trans k,m⟩
 |ended _ _ _=>trivial
 |_=>exact h.elim
def Oz(fit:Fits T fB fA F X Z)(p:Wd T F Z ρ w w'){fr fr':f0}{cs cs':List f0}(o:aQ T F Z fB fA ρ fr fr')(hcs:cj T F Z fB fA ρ cs cs')(hb:dn (fr::cs)) :
 ef T fB fA F X Z bot ρ w w' (tK (lL T fB) hw hw fr (cs++[bot]) hN w) (tK (lL T fA) hw hw fr' cs' hN w'):=by
 obtain⟨fn,tmps,todo,defers,mode,kind,x⟩:=fr;obtain⟨q,u,S,y,z,A,B⟩:=fr';have U:cN T F Z ρ todo S:=o.todo;have to:∀{N O:List f8},cN T F Z ρ N O->ef T fB fA F X Z bot ρ w w' (tt { frame:=⟨fn,tmps,N,defers,mode,kind,x⟩,callers:=cs++[bot],status:=x7,dying:=hN } w) (tt { frame:=⟨q,u,O,y,z,A,B⟩,callers:=cs',status:=x7,dying:=hN } w'):=
  λh=>mQ p (o.lO h) hcs (hb.top rfl)
 have lv:=λj V=>LI (bot:=bot) (X:=X) p o hcs hb j V;unfold tK
 cases U with
 |nil=>exact lv hN (λc e=>by cases e)
 |@cons i i' k k' h t=>
  cases h with
  |inBlock id=>exact to t
  |inLoop c hc=>exact to (.cons (.code c hc) (.cons (.inLoop c hc) t))
  |inScope c hc=>exact to t
  |inRangeFunc hl=>trivial
  |beginRound=>
   refine Af fit p o hcs hb (vX p.inj ?_)
   rcases jP o.roundOf with⟨C,D⟩|⟨l,E,C,D,hl⟩
   .simp only at C D;subst C D;exact ak
   .simp only at C D;subst C D;exact lg p.inj hl
  |@endRangeFunc l E hl=>
   exact sk p (qW p.inj hl)
    (f:=λr=>match r with
      |u1 jump w=>tt { frame:=⟨fn,tmps,(jump.map ui).toList++k,defers,mode,kind,x⟩,callers:=cs++[bot],status:=x7,dying:=hN } w
      |uZ (wk v) w=>tt { frame:=tk ⟨fn,tmps,ut l::k,defers,mode,kind,x⟩ [{ v,recovered:=hG }],callers:=cs++[bot],status:=x7,dying:=hN } w
      |uZ _ w=>tu (x8 "range over a function: no such loop" _) w)
    (f':=λr=>match r with
      |u1 jump w=>tt { frame:=⟨q,u,(jump.map ui).toList++k',y,z,A,B⟩,callers:=cs',status:=x7,dying:=hN } w
      |uZ (wk v) w=>tt { frame:=tk ⟨q,u,ut E::k',y,z,A,B⟩ [{ v,recovered:=hG }],callers:=cs',status:=x7,dying:=hN } w
      |uZ _ w=>tu (x8 "range over a function: no such loop" _) w) fn q
    (λH a P w1 J new g K=>by
      obtain⟨rfl,W⟩:=K;refine mQ g.wd ((o.mono g.le).lO (cN.append ?_ (t.mono g.le))) (hcs.mono g.le) (hb.top rfl)
      cases a with
      |none=>exact .nil
      |some c=>exact .cons (.code c (W c rfl)) .nil)
    (λH v v' w1 J new g hv=>mQ g.wd ((o.mono g.le).raise (.cons hv .nil)) (hcs.mono g.le) (hb.top (eC _ _)))
    (λ_ _=>⟨_,_,_,rfl⟩) (λ_ _ _=>⟨_,_,_,rfl⟩)
  |inRegion ops todo Y=>
   cases todo with
   |nil=>exact to t
   |cons i Q=>
    simp only;rw[show gL ops u=gL ops tmps from funext λj=>(oo ops o.tmps j).y]
    cases((ops[i]?).map (Region.wanted · (gL ops tmps))).getD hG with
    |true=>exact Ox fit p o hcs hb rfl Y
    |false=>exact mQ p (o.finish .undef) hcs (hb.top (bZ _ _))
  |code c hc=>
   cases c with
   |ret=>exact lv (hO xv) (λc e=>by cases e;rfl)
   |skip=>exact to t
   |label _=>exact to t
   |seq a b=>
    simp only[codeOk,dd]at hc;exact to (.cons (.code a hc.1) (.cons (.code b hc.2) t))
   |cond c a b=>
    simp only[codeOk,dd]at hc;have hv:=dD o.tmps c hc.1.1;simp only;generalize tp _ c=v at hv ⊢;generalize tp _ c=v' at hv ⊢
    cases hv with
    |bool b'=>
     cases b' with
     |true=>exact to (.cons (.code a hc.1.2) t)
     |false=>exact to (.cons (.code b hc.2) t)
    |_=>trivial
   |block id b=>exact to (.cons (.code b hc) (.cons (.inBlock id) t))
   |loop b=>exact to (.cons (.code b hc) (.cons (.inLoop b hc) t))
   |scope b=>exact to (.cons (.code b hc) (.cons (.inScope b hc) t))
   |exit id=>
    simp only
    rcases xo id t with⟨x1,x2⟩|⟨m,m',x1,x2,L⟩
    .rw[x1,x2];exact lv (hO (xt id)) (λc e=>by cases e;rfl)
    .rw[x1,x2];exact to L
   |goto id=>
    simp only
    rcases xq id t with⟨x1,x2⟩|⟨m,m',x1,x2,L⟩
    .rw[x1,x2];exact lv (hO (.goto id)) (λc e=>by cases e;rfl)
    .rw[x1,x2];exact to L
   |refuse why=>cases hc
   |rangeFunc f params assign body=>
    simp only[codeOk,dd]at hc;simp only;have I:=o.fn;simp only at I;subst I;have hs:=mO (T:=T) (fB:=fB) (fA:=fA) (Z:=Z) p.inj q o.mI o.tmps params assign body hc.1.2 hc.2 o.roundOf;exact sk p hs
     (f:=λr=>match r with
       |u1 (l,mark) w=>
        let fr:f0:=⟨q,tmps,ur l::k,mark++defers,mode,kind,x⟩
        let call:Call:={ callee:=xp f,args:=#[xn (vJ (vp l) #[] #[])],argTypes:=#[] }
        tz (lL T fB) hw fr (cs++[bot]) hN (do let d<-f1 fr.eval call 0;fO d.target d.args) w
       |uZ _ w=>tu (x8 "range over a function: no such loop" _) w)
     (f':=λr=>match r with
       |u1 (l,mark) w=>
        let fr:f0:=⟨q,u,ur l::k',mark++y,z,A,B⟩
        let call:Call:={ callee:=xp f,args:=#[xn (vJ (vp l) #[] #[])],argTypes:=#[] }
        tz (lL T fA) hw fr cs' hN (do let d<-f1 fr.eval call 0;fO d.target d.args) w
       |uZ _ w=>tu (x8 "range over a function: no such loop" _) w) q q
     (λH a P w1 J new g K=>by
       obtain⟨l,mark⟩:=a;obtain⟨E,OA⟩:=P;obtain⟨hl,M⟩:=K;have s:=o.mono g.le;have R:aQ T F Z fB fA H ⟨q,tmps,ur l::k,mark++defers,mode,kind,x⟩ ⟨q,u,ur E::k',OA++y,z,A,B⟩:=
        ⟨s.fn,s.same,s.mI,s.tmps,.cons (.inRangeFunc hl) (t.mono g.le),fS.append M s.defers,s.mode,s.kind,s.bX,s.roundOf,s.ret⟩
       exact Af fit g.wd R (hcs.mono g.le) (hb.top rfl) (jE fit.zero fit.fns g.inj (dD R.tmps f hc.1.1) (by
        have hv:cU F H [vJ (vp l) #[] #[]] [vJ (vp E) #[] #[]]:=.cons (.func (.yield hl) .nil .nil) .nil
        simpa[tp]using hv)))
     (λ_ _ _ _ _ _ _ _=>trivial) (λ_ _=>⟨_,_,_,rfl⟩) (λ_ _ _=>⟨_,_,_,rfl⟩)
   |region id ops draw=>
    simp only
    cases draw with
    |false=>exact to (.cons (.inRegion ops _ hc) t)
    |true=>
     simp only[nd,py,if_false];obtain⟨n,H,w1,J,c1,c2,g⟩:=ou (fB:=fB) (fA:=fA) p (.order fn id);have I:=o.fn;simp only at I;subst I;rw[c1,c2];exact ef.Oy g (mQ g.wd ((o.mono g.le).lO (.cons (.inRegion ops _ hc) (t.mono g.le))) (hcs.mono g.le) (hb.top rfl))
def sr(fit:Fits T fB fA F X Z)(f:Wd T F Z ρ w w'){g g':g0}(hg:GR T fB fA F X Z bot ρ g g')(b:aQ T F Z fB fA ρ g.frame g'.frame)
 (i:g.frame.mode≠xC->g.frame.defers=[]->g.callers≠[bot]):ef T fB fA F X Z bot ρ w w' (stepG (lL T fB) hw g w) (stepG (lL T fA) hw g' w'):=by
 obtain⟨_,⟨l,hl,hcs,hb,_⟩,st,a,j,k,of,m⟩:=hg;obtain⟨fr,cs,status,dying,offers⟩:=g;obtain⟨c,cs',q,r,s⟩:=g';simp only at st a j k of m hl hcs b hb i;subst st a j k of m hl;have d:=Oz (bot:=bot) fit f b hcs hb;have n:=λh=>Gq (bot:=bot) (X:=X) f b hcs hb h (λhd e=>by subst e;exact i h hd rfl);obtain⟨fn,tmps,todo,defers,mode,kind,t⟩:=fr;obtain⟨u,v,x,y,o,z,A⟩:=c;have p:qE F ρ mode o:=b.mode;unfold stepG
 cases p with
 |run=>exact d
 |returning=>exact n ar
 |panicking _=>exact n ar
end
def dN{b:Type}(f:ai->aL b)(w:ai):Prop:=
 w.drawn<=(f w).world.drawn/\(f w).world.tape=w.tape/\
  ∀(a:hk)(d:Nat),(∀i,i<(f w).world.drawn-w.drawn->a (d+i)=w.tape (w.drawn+i))->f (w.re a d)=(f w).re a (d+((f w).world.drawn-w.drawn))
def dN.pass{j:Type}{f g:ai->aL j}{w w1:ai}(i:f w=g w1)(hd:w1.drawn=w.drawn)(k:w1.tape=w.tape)(l:∀e d,f (w.re e d)=g (w1.re e d))(h:dN g w1):dN f w:=by
 obtain⟨a,b,c⟩:=h;refine⟨by rw[i,<-hd];exact a,by rw[i,<-k];exact b,λe d m=>?_⟩;grind
def dN.stop{e:Type}{f:ai->aL e}{w:ai}{h:Halt}(c:∀a d,f (w.re a d)=uZ h (w.re a d)):dN f w:=by
 have b:f w=uZ h w:=c w.tape w.drawn;refine⟨by rw[b];exact dk _,by rw[b];rfl,λa d _=>?_⟩;rw[b,c];show uZ h (w.re a d)=uZ h (w.re a (d+(w.drawn-w.drawn)));rw[eM];rfl
section
variable {T:bd}{fB fA:Array bi}{G:Nat}{F:ac->Bool}{K:a8->Bool}
def bW.TF{a:Type}{s:Sem a}(h:bW T fB s){w:ai}:dN (s.run ⟨T,fB⟩) w:=by
 obtain⟨x,_,e⟩:=h.run w;exact dN.stop e
def av.loc{W X:Type}{RA:Ren->W->X->Prop}{s:Sem W}:∀{ρ:Ren}{s':Sem X}{w w':ai},av T fB fA F K RA ρ s s'->ρ.bw T.globals.size->WR T.globals.size F K ρ w w'->w.tape=w'.tape->w.drawn=w'.drawn->
 dN (s.run ⟨T,fB⟩) w:=by
 induction s with
 |pure a=>
  rintro ρ s' w w' _ l f j hd;refine⟨dk _,rfl,λe d _=>?_⟩;show u1 a (w.re e d)=u1 a (w.re e (d+(w.drawn-w.drawn)));rw[eM];rfl
 |halt h=>intro ρ s' w w' hs l f j hd;exact dN.stop λ_ _=>rfl
 |load m a k x=>
  rintro ρ s' w w'⟨m',J,k',rfl,rfl,rfl,C,y⟩l f j hd
  rcases lF (T:=T) (fB:=fB) f C with⟨D,s,S⟩|⟨v,v',c,Y,t,z,D,S,hv,_⟩
  .refine dN.stop (h:=wl s) λe d=>?_;have e1:kd (w.re e d) a=hN:=D;have I:∀m,(w.re e d).farLoad ⟨T,fB⟩ a m=w9 (wl s):=S;simp only[kt,e1,I]
  .exact dN.pass (g:=(k v).run ⟨T,fB⟩) (w1:=w) (by simp only[kt,D]) rfl rfl (λe d=>by have e1:kd (w.re e d) a=hO v:=D;simp only[kt,e1]) (x v (y v v' hv) l f j hd)
 |store m a v k x=>
  rintro ρ s' w w'⟨m',J,v',k',rfl,rfl,rfl,C,hv,y⟩l f j hd;have key:(∀c,v≠vy c)->(∀c,v≠v3 c)->dN ((kq wL a v k).run ⟨T,fB⟩) w:=by
   intro H L
   rcases lF (T:=T) (fB:=fB) f C with⟨D,_⟩|⟨u,u',c,Y,t,z,D,S,hu,hs,Z,h4,hc⟩
   .obtain⟨o,M,A,P,B⟩:=f.obj C.1;refine dN.stop (h:=wl "store: no such cell") λe d=>?_;rw[run_store _ _ _ _ H L];have e1:kd (w.re e d) a=hN:=D;have E:(w.re e d).heap[a.block]?=hO o:=A;have hf:(w.re e d).farStore ⟨T,fB⟩ a v hG=w9 ((w.re e d).noCell a "store: no such cell"):=by
     cases B<;>simp[kp,E]
    rw[e1];simp only[hf,mM E B]
   .cases hz:kc w a with
    |true=>
     refine dN.stop (h:=wn (ta "a write to bytes that a string shares")) λe d=>?_;rw[run_store _ _ _ _ H L];have e1:kd (w.re e d) a=hO u:=D;have I:kc (w.re e d) a=hw:=hz;grind
    |false=>
     have fR:J.spot=hN:=by rw[<-C.2.2];exact hs
     have aF:=lG l f j hd C.1 (.cells t z (VA.set hc a.off hv)) (new:=#[]) ar (CR Z h4 v v' H L);refine dN.pass (g:=k.run ⟨T,fB⟩) (w1:=j6 w a v) ?_ rfl rfl (λe d=>?_) ?_
     .rw[run_store _ _ _ _ H L,D];grind
     .have e1:kd (w.re e d) a=hO u:=D;have I:kc (w.re e d) a=hG:=hz;rw[run_store _ _ _ _ H L,e1];simp only[I,py,if_false];rfl
     .rw[setCell_eq w a _ Z hs];exact x y l aF.wr j hd
  cases hv with
  |agg _=>exact dN.stop λ_ _=>rfl
  |tuple _=>exact dN.stop λ_ _=>rfl
  |hole _ _=>exact dN.stop λ_ _=>rfl
  |_=>exact key ar ar
 |new o k x=>
  rintro ρ s' w w'⟨M,k',rfl,B,y⟩l f j hd;have hs:=CQ l f j hd B;exact dN.pass (g:=(k w.heap.size).run ⟨T,fB⟩) (w1:={ w with heap:=w.heap.push o }) rfl rfl rfl (λe d=>rfl) (x w.heap.size (y _ _ f.fresh.1 f.fresh.2 f.pK f.gN) hs.inj hs.wr j hd)
 |shape r k x=>
  rintro ρ s' w w'(⟨r',k',rfl,N,y⟩|h)l f j hd;rotate_left
  .exact bW.TF (s:=li r k) h
  exact dN.pass (g:=(k (w.shape? r)).run ⟨T,fB⟩) (w1:=w) rfl rfl rfl (λe d=>rfl) (x _ (y _) l f j hd)
 |freeze a n k x=>
  rintro ρ s' w w'⟨J,k',rfl,C,y⟩l f j hd;have fr:∀e d,(w.re e d).freeze a n=(w.freeze a n).re e d:=λe d=>by unfold ka;split<;>rfl
  have fd:(w.freeze a n).drawn=w.drawn/\(w.freeze a n).tape=w.tape:=by unfold ka;grind
  refine dN.pass (g:=k.run ⟨T,fB⟩) (w1:=w.freeze a n) rfl fd.1 fd.2 (λe d=>by simp only[kt,fr]) ?_;by_cases U:n=0
  .subst U;have e1:w.freeze a 0=w:=by simp[ka]
   grind
  obtain⟨o,M,A,P,B⟩:=f.obj C.1;have idle:(∀c t z,o≠v4 c t z)->w.freeze a n=w:=by
   intro bu;unfold ka;rw[if_neg U];obtain⟨heap,_,_,_,_⟩:=w;congr 1;grind
  cases B with
  |@cells c Y t z hc=>
   obtain⟨lo,hi⟩:=z;rw[iz w a n U A];have hs:=lG l f j hd C.1 (.cells t (if lo==hi then(a.off,a.off+n) else(min lo a.off,max hi (a.off+n))) hc) (new:=#[]) ar (IY A P _ _);exact x y l hs.wr j hd
  |_=>
   rw[idle ar];exact x y l f j hd
 |frozen a k x=>
  rintro ρ s' w w'(⟨J,k',rfl,C,y⟩|h)l f j hd;rotate_left
  .exact bW.TF (s:=lm a k) h
  exact dN.pass (g:=(k (kc w a)).run ⟨T,fB⟩) (w1:=w) rfl rfl rfl (λe d=>rfl) (x _ (y _) l f j hd)
 |getObj r k x=>
  rintro ρ s' w w'⟨r',k',rfl,N,y⟩l f j hd;obtain⟨o,M,A,P,B⟩:=f.obj N;have key:(∀c t z,o≠v4 c t z)->dN ((kw r k).run ⟨T,fB⟩) w:=by
   intro H;refine dN.pass (g:=(k o).run ⟨T,fB⟩) (w1:=w) ?_ rfl rfl (λe d=>?_) (x o (y o M B) l f j hd)
   .simp only[kt,A]
   .have E:(w.re e d).heap[r]?=hO o:=A;simp only[kt,E]
  cases B with
  |cells t z hc=>
   refine dN.stop (h:=wl "getObj: a row of cells") λe d=>?_
   .have E:(w.re e d).heap[r]?=_:=A;simp only[kt,E]
  |_=>exact key ar
 |setObj r o k x=>
  rintro ρ s' w w'⟨r',M,k',rfl,N,⟨B,N8⟩,y⟩l f j hd;obtain⟨p,p',A,P,hp⟩:=f.obj N;have hs:=lG l f j hd N B (new:=#[]) ar N8.hol;have key:(∀c t z,p≠v4 c t z)->dN ((kx r o k).run ⟨T,fB⟩) w:=by
   intro H;refine dN.pass (g:=k.run ⟨T,fB⟩) (w1:={ w with heap:=i6 w.heap r o }) ?_ rfl rfl (λe d=>?_) (x y l hs.wr j hd)
   .simp only[kt,A]
   .have E:(w.re e d).heap[r]?=hO p:=A;simp only[kt,E];rfl
  cases hp with
  |cells t z hc=>
   refine dN.stop (h:=wl "setObj: a row of cells") λe d=>?_
   .have E:(w.re e d).heap[r]?=_:=A;simp only[kt,E]
  |_=>exact key ar
 |choose q k x=>
  rintro ρ s' w w'⟨k',rfl,y⟩l f j hd
  cases hf:q.forced with
  |true=>exact dN.pass (g:=(k 0).run ⟨T,fB⟩) (w1:=w) (by simp only[kt,hf,if_true]) rfl rfl (λe d=>by simp only[kt,hf,if_true]) (x _ (y _) l f j hd)
  |false=>
   have wK:WR T.globals.size F K ρ { w with drawn:=w.drawn+1 } { w' with drawn:=w'.drawn+1 }:=⟨f.pK,f.gN,f.obj⟩
   obtain⟨a,b,c⟩:=x (q.cut (w.tape w.drawn q)) (y _) l wK j (by simp only[hd]);have Q:(la q k).run ⟨T,fB⟩ w=(k (q.cut (w.tape w.drawn q))).run ⟨T,fB⟩ { w with drawn:=w.drawn+1 }:=by simp only[kt,hf,py,if_false]
   generalize hR:(k (q.cut (w.tape w.drawn q))).run ⟨T,fB⟩ { w with drawn:=w.drawn+1 }=R at a b c Q;have J:w.drawn+1<=R.world.drawn:=a;refine⟨by rw[Q];omega,by rw[Q];exact b,λe d V=>?_⟩;rw[Q]at V ⊢;have O:=V 0 ab;simp only[eQ]at O;have e1:(la q k).run ⟨T,fB⟩ (w.re e d)=(k (q.cut (e d q))).run ⟨T,fB⟩ (w.re e (d+1)):=by
    simp only[kt,hf,py,if_false];rfl
   rw[e1,O]
   have:=c e (d+1) (λi hi=>by
    have mS:i<R.world.drawn-(w.drawn+1):=hi;show e (d+1+i)=w.tape (w.drawn+1+i);have:=V (1+i) ab
    grind)
   have I:d+1+(R.world.drawn-(w.drawn+1))=d+(R.world.drawn-w.drawn):=ab;rw[<-I];exact this
 |sys c k x=>intro ρ s' w w' h;exact h.elim
 |program k x=>
  rintro ρ s' w w'(⟨k',rfl,y⟩|CS)l f j hd
  .exact dN.pass (g:=(k ⟨T,fB⟩).run ⟨T,fB⟩) (w1:=w) rfl rfl rfl (λe d=>rfl) (x _ y l f j hd)
  .exact bW.TF (s:=kS k) CS
 |mark m k x=>
  rintro ρ s' w w'(⟨k',rfl,hm,y⟩|h)l f j hd
  .exact dN.pass (g:=k.run ⟨T,fB⟩) (w1:=w) rfl rfl rfl (λe d=>rfl) (x y l f j hd)
  .exact bW.TF (s:=lp m k) h
def dN.bind{l m:Type}{P:bq}{s:Sem l}{f:l->Sem m}{w:ai}(hs:dN (s.run P) w)(hf:∀a w1,s.run P w=u1 a w1->dN ((f a).run P) w1):dN ((s.bind f).run P) w:=by
 obtain⟨a,b,c⟩:=hs
 cases j:s.run P w with
 |halt h w1=>
  rw[j]at a b c;have e:(s.bind f).run P w=uZ h w1:=by rw[k7,j];rfl
  refine⟨by rw[e];exact a,by rw[e];exact b,λk d g=>?_⟩;rw[e]at g ⊢;rw[k7,c k d g];rfl
 |ok x w1=>
  rw[j]at a b c;obtain⟨a2,n,o⟩:=hf x w1 j;have e:(s.bind f).run P w=(f x).run P w1:=by rw[k7,j];rfl
  have r:w.drawn<=w1.drawn:=a;have b':w1.tape=w.tape:=b;refine⟨aS,by rw[e];exact n.t b',λk d g=>?_⟩;rw[e]at g ⊢;have p:=c k d (λi hi=>g i (by have:i<w1.drawn-w.drawn:=hi;omega))
  have q:=o k (d+(w1.drawn-w.drawn)) (λi hi=>by
   have:=g ((w1.drawn-w.drawn)+i) ab
   grind)
  rw[k7,p];show(f x).run P (w1.re k (d+(w1.drawn-w.drawn)))=_;rw[q];congr 1;omega
def TG{ρ:Ren}(l:ρ.bw T.globals.size){w':ai}(u:WR T.globals.size F K ρ R w')(y:R.tape=w'.tape)(hd:R.drawn=w'.drawn)(t:ag)(B:∀k e,tY T t=hO (.map k e)->og T M k=hw){x C i i' v v':ad}(D:VR F ρ x C)(hi:VR F ρ i i')(hv:VR F ρ v v') :
 dN ((pp t x i v).run ⟨T,fB⟩) R:=by
 rw[jg];have z:=uX (fB:=fB) (fA:=fB) (F:=F) (K:=K) l t B D hi;refine dN.bind (av.loc z l u y hd) λa w1 e=>?_;have h:=av.run #[] z l u y hd;rw[e]at h;obtain⟨E,H,N,new,_,k,I⟩:=h;obtain⟨r,es,clock,O⟩:=a;obtain⟨o,f,P,J⟩:=H;obtain⟨p,g,hc,d⟩:=I;simp only at p g hc d;subst hc;have hi:=hi.mono k.le;have hv:=hv.mono k.le;have put:∀(j:Nat){c:Ren}{k k':ad},E.le c->VR F c k k'->av T fB fB F K fF c (b9 r (v8 (es.modify j λe=>{ e with key:=k,val:=v }) clock)) (b9 o (v8 (f.modify j λe=>{ e with key:=k',val:=v' }) clock)):=by
  intro j c k k' b q;refine dV (b p) (.map _ ?_);rw[jr,jr];exact bD.modify (g.mono b) j λe Q L=>⟨q,hv.mono b,L.born⟩
 cases d with
 |none=>
  refine av.loc (fA:=fB) (s':=b9 o (v8 (f.push { key:=i',val:=v',born:=clock }) (clock+1))) (dV p (.map _ ?_)) k.inj k.wr k.tape k.drawn;rw[i4,i4];exact bD.append g (.cons ⟨hi,hv,rfl⟩ .nil)
 |some j _=>
  have hold:=Aa g j hi;unfold rZ;simp only;generalize(((es[j]?).map (·.key)).getD i)=s at hold;generalize(((f[j]?).map (·.key)).getD i')=w at hold;unfold pm;by_cases A:pk 10000 s i=hw
  .rw[if_pos A];exact av.loc (put j (Ren.le_refl _) hi) k.inj k.wr k.tape k.drawn
  .rw[if_neg A];refine av.loc (fA:=fB) (RA:=fF) (s':=kG (do pure (if(<-ce (.extern "map.whichKeyStays" 2))=0 then i' else w)) λk'=>b9 o (v8 (f.modify j λe=>{ e with key:=k',val:=v' }) clock)) ?_ k.inj k.wr k.tape k.drawn;refine av.bind k.inj (RA:=RV F) ?_ λc b _ k k' q=>put j b q;refine af k.inj (lH _) λc b _ n n' e=>?_;subst e;refine ah ?_;split
   .exact hi.mono b
   .exact hold.mono b
def OC{c:Type}(P:bq)(a:c)(w:ai):dN ((Sem.pure a).run P) w:=by
 refine⟨dk _,rfl,λb d _=>?_⟩;show u1 a (w.re b d)=u1 a (w.re b (d+(w.drawn-w.drawn)));rw[eM];rfl
def Yg(g:dM T F L)(hF:si fB fA F){ρ:Ren}(b:ρ.bw T.globals.size){w':ai}(c:WR T.globals.size F K ρ R w')(d:R.tape=w'.tape)(hd:R.drawn=w'.drawn){e':eN->ad}(a:lN F ρ Y e')(o:f6)(ok:jh T F L o.op=hw) :
 dN ((f7 Y o).run ⟨T,fB⟩) R:=by
 by_cases f:Dc o.op=hw
 .obtain⟨t,x,y,z,h,i⟩:=xj Y o f;obtain⟨k1,k2,k3,j⟩:=Dd h ok;rw[i];exact dN.bind (TG b c d hd t k1 (a x k2) (a y k3) (a z j)) λ_ _ _=>OC _ _ _
 .exact av.loc (ug (fA:=fA) g hF b a o ok (by simpa using f)) b c d hd
end
def gq(f:ai->g6)(w:ai):Prop:=
 ∀b w1 es,f w=tt b w1 es->w.drawn<=w1.drawn/\w1.tape=w.tape/\
  ∀(a:hk)(d:Nat),(∀i,i<w1.drawn-w.drawn->a (d+i)=w.tape (w.drawn+i))->∃c,f (w.re a d)=tt b (w1.re a (d+(w1.drawn-w.drawn))) c
@[simp] def vZ(w:ai):w.re w.tape w.drawn=w:=rfl
def gq.pure{f:ai->g6}(G:g0)(h:∀a d,∃es,f (R.re a d)=tt G (R.re a d) es):gq f R:=by
 intro c w1 es e;obtain⟨b,g⟩:=h R.tape R.drawn;simp_all
def gq.never{f:ai->g6}(h:∀a w1 es,f R≠tt a w1 es):gq f R:=λa w1 es e=>absurd e (h a w1 es)
section
variable {T:bd}{fB fA:Array bi}{F X:ac->Bool}{Z:ag->Bool}{bot:f0}{ρ σ:Ren}{w w':ai}
def qp.ends{c d:Type}{RA:Ren->c->d->Prop}{s:Sem c}{f:aL d×Array bm}(b:qp T.globals.size F (codeOk T F Z) RA ρ w w' #[] f (s.run (lL T fB) w)) :
 (∃a w1,s.run (lL T fB) w=u1 a w1/\∃e a',RA e a a')\/(∃v w1,s.run (lL T fB) w=uZ (wk v) w1)\/(∃m w1,s.run (lL T fB) w=uZ (wl m) w1)\/∃u w1,s.run (lL T fB) w=uZ (wn u) w1/\dw u=hw:=by
 generalize s.run (lL T fB) w=r at b
 cases r with
 |ok a w1=>
  obtain⟨e,a',g,new,_,_,e1,i,j⟩:=b;grind
 |halt h w1=>
  cases h with
  |panic v=>grind
  |stuck m=>grind
  |unsupported u=>exact vd (vd (vd ⟨u,w1,rfl,b⟩))
  |_=>exact b.elim
def SR.ends{c d:Type}{RA:Ren->c->d->Prop}(b:Wd T F Z ρ w w'){s:Sem c}{s':Sem d}(hs:av T fB fA F (codeOk T F Z) RA ρ s s') :
 (∃a w1,s.run (lL T fB) w=u1 a w1/\∃e a',RA e a a')\/(∃v w1,s.run (lL T fB) w=uZ (wk v) w1)\/(∃m w1,s.run (lL T fB) w=uZ (wl m) w1)\/∃u w1,s.run (lL T fB) w=uZ (wn u) w1/\dw u=hw:=
 qp.ends (av.run #[] hs b.inj b.wr b.tape b.drawn).zu
def iD{a:Type}(P:bq)(s:Sem a)(w:ai){r:aL a}(h:s.run P w=r):s.runT P w #[]=(r,(s.runT P w #[]).2):=Prod.ext ((k9 P s w #[]).t h) rfl
section
variable {P:bq}{fr:f0}{cs:List f0}{s:Sem fc}{w w1:ai}
def Df{v:ad}(h:s.run P w=u1 (xf v) w1):∃es,tz P hw fr cs hN s w=tt { frame:=ti fr v,callers:=cs,status:=x7,dying:=hN } w1 es:=by
 unfold tz;simp only[if_true];rw[iD P s w h];exact⟨_,rfl⟩
def Gr(h:s.run P w=u1 xi w1):∃es,tz P hw fr cs hN s w=tt { frame:=ti fr undef,callers:=cs,status:=x7,dying:=hN } w1 es:=by
 unfold tz;simp only[if_true];rw[iD P s w h];exact⟨_,rfl⟩
def Dg{f:ac}(h:s.run P w=u1 (xk f C) w1):∃es,tz P hw fr cs hN s w=tt { frame:=tj P f C (match fr.todo with | .call _ hw _ _::_=>.wrapped|_=>xZ),callers:=fr::cs,status:=x7,dying:=hN } w1 es:=by
 unfold tz;simp only[if_true];rw[iD P s w h];exact⟨_,rfl⟩
def Dh{f:ac}{c d:a8}(h:s.run P w=u1 (xl M f C c d) w1):∃es,tz P hw fr cs hN s w=tt { frame:=Frame.round M f C c d xZ,callers:=fr::cs,status:=x7,dying:=hN } w1 es:=by
 unfold tz;simp only[if_true];rw[iD P s w h];exact⟨_,rfl⟩
def Di{v:ad}(h:s.run P w=uZ (wk v) w1):∃es,tz P hw fr cs hN s w=tt { frame:=fr.raise [{ v,recovered:=hG }],callers:=cs,status:=x7,dying:=hN } w1 es:=by
 unfold tz;simp only[if_true];rw[iD P s w h];exact⟨_,rfl⟩
def Dj{m:String}(h:s.run P w=uZ (wl m) w1):∃o w2 es,tz P hw fr cs hN s w=tu o w2 es:=by
 unfold tz;simp only[if_true];rw[iD P s w h];exact⟨_,_,_,rfl⟩
def su{u:bj}(h:s.run P w=uZ (wn u) w1)(a:dw u=hw):∃o w2 es,tz P hw fr cs hN s w=tu o w2 es:=by
 unfold tz;simp only[if_true];rw[iD P s w h];cases u<;>first|exact⟨_,_,_,rfl⟩|cases a
end
def gq.from{l:Type}{P:bq}{s:Sem l}{w:ai}(hs:dN (s.run P) w){f:ai->g6}
 (h:(∃g r,s.run P w=r/\∀i d,s.run P (w.re i d)=r.re i (d+(r.world.drawn-w.drawn))->∃es,f (w.re i d)=tt g (r.world.re i (d+(r.world.drawn-w.drawn))) es)\/∀k w1 es,f w≠tt k w1 es):gq f w:=by
 obtain⟨a,b,c⟩:=hs
 rcases h with⟨g,r,m,h⟩|n
 .subst m;intro k w1 es e
  have j:=h w.tape w.drawn (by
   grind)
  have o:w.drawn+((s.run P w).world.drawn-w.drawn)=(s.run P w).world.drawn:=ab;obtain⟨p,j⟩:=j;rw[vZ,e,o,<-b,vZ]at j;cases j;exact⟨a,b,λi d q=>h i d (c i d q)⟩
 .exact gq.never n
def xy{fr:f0}{cs:List f0}{s:Sem fc}{g:aL fc×Array bm}(hl:dN (s.run (lL T fB)) w)(i:qp T.globals.size F (codeOk T F Z) (gT F (codeOk T F Z)) ρ w w' #[] g (s.run (lL T fB) w)) :
 gq (λw=>tz (lL T fB) hw fr cs hN s w) w:=by
 refine gq.from hl ?_
 rcases qp.ends i with⟨a,w1,h,n,p,j⟩|⟨v,w1,h⟩|⟨m,w1,h⟩|⟨u,w1,h,k⟩
 .cases j with
  |value hv=>exact vc ⟨_,_,h,λb d e=>Df e⟩
  |skip=>exact vc ⟨_,_,h,λb d e=>Gr e⟩
  |enter f hf l=>exact vc ⟨_,_,h,λb d e=>Dg e⟩
  |round hl f hf l c d q r=>exact vc ⟨_,_,h,λb d e=>Dh e⟩
 .exact vc ⟨_,_,h,λb d e=>Di e⟩
 .obtain⟨o,w2,es,e⟩:=Dj (fr:=fr) (cs:=cs) h;grind
 .obtain⟨o,w2,es,e⟩:=su (fr:=fr) (cs:=cs) h k;grind
def Ah(a:Wd T F Z ρ w w'){fr:f0}{cs:List f0}{s s':Sem fc}(hs:av T fB fA F (codeOk T F Z) (gT F (codeOk T F Z)) ρ s s') :
 gq (λw=>tz (lL T fB) hw fr cs hN s w) w:=
 xy (av.loc hs a.inj a.wr a.tape a.drawn) (av.run #[] hs a.inj a.wr a.tape a.drawn).zu
def wh{j l:Type}{RA:Ren->j->l->Prop}(k:Wd T F Z ρ w w'){s:Sem j}{s':Sem l}(hs:av T fB fA F (codeOk T F Z) RA ρ s s'){f:aL j->g6}(fn:ac)
 (t:∀(n:Ren)(a:j)(a':l)(w1:ai),s.run (lL T fB) w=u1 a w1->RA n a a'->(∃g,∀w,∃es,f (u1 a w)=tt g w es)\/∀w c w1 es,f (u1 a w)≠tt c w1 es)
 (x:∀v,(∃g,∀w,∃es,f (uZ (wk v) w)=tt g w es)\/∀w c w1 es,f (uZ (wk v) w)≠tt c w1 es)
 (y:∀m w1,∃o w2 es,f (uZ (wl m) w1)=tu o w2 es) (z:∀u w1,dw u=hw->∃o w2 es,f (uZ (wn u) w1)=tu o w2 es) :
 gq (λw=>tq (seen (lL T fB) fn (s.runT (lL T fB) w #[]).2) (f (s.runT (lL T fB) w #[]).1)) w:=by
 refine gq.from (av.loc hs k.inj k.wr k.tape k.drawn) ?_;have no:∀(r:aL j),s.run (lL T fB) w=r->(∀c w1 es,f r≠tt c w1 es)->∀c w1 es,tq (seen (lL T fB) fn (s.runT (lL T fB) w #[]).2) (f (s.runT (lL T fB) w #[]).1)≠tt c w1 es:=by
  intro r p i c w1 es e;rw[k9,p]at e
  cases q:f r with
  |go C w2 D=>exact i _ _ _ q
  |_=>rw[q]at e;cases e
 have yes:∀(r:aL j)(g:g0),s.run (lL T fB) w=r->(∀(b:hk)(d:Nat),∃es,f (r.re b d)=tt g (r.world.re b d) es)->
  ∀b d,s.run (lL T fB) (w.re b d)=r.re b (d+(r.world.drawn-w.drawn))->∃es,tq (seen (lL T fB) fn (s.runT (lL T fB) (w.re b d) #[]).2) (f (s.runT (lL T fB) (w.re b d) #[]).1)=tt g (r.world.re b (d+(r.world.drawn-w.drawn))) es:=by
  intro r g p hy b d e;rw[k9,e];obtain⟨es,A⟩:=hy b (d+(r.world.drawn-w.drawn));rw[A];exact⟨_,rfl⟩
 rcases SR.ends k hs with⟨a,w1,h,n,a',i⟩|⟨v,w1,h⟩|⟨m,w1,h⟩|⟨u,w1,h,B⟩
 .rcases t n a a' w1 h i with⟨g,hg⟩|i
  .exact vc ⟨g,_,h,yes _ g h λb d=>hg _⟩
  .exact vd (no _ h (i _))
 .rcases x v with⟨g,hg⟩|i
  .exact vc ⟨g,_,h,yes _ g h λb d=>hg _⟩
  .exact vd (no _ h (i _))
 .obtain⟨o,w2,es,e⟩:=y m w1;grind
 .obtain⟨o,w2,es,e⟩:=z u w1 B;grind
end
section
variable {T:bd}{fB fA:Array bi}{F X:ac->Bool}{Z:ag->Bool}{bot:f0}{ρ σ:Ren}{w w':ai}
def Bu(g:g0):gq (λw=>tt g w) w:=gq.pure g λ_ _=>⟨_,rfl⟩
def pN(f:ai->g6)(h:∀w,∃o w2 es,f w=tu o w2 es):gq f w:=gq.never λb w1 es e=>by
 obtain⟨o,w2,c,a⟩:=h w;rw[a]at e;cases e
def gq.seq{n:Type}{P:bq}{s:Sem n}(hs:dN (s.run P) w){f:ai->g6}{g:n->ai->g6}(o:Outcome)(h:∀a w1,s.run P w=u1 a w1->gq (g a) w1)
 (hf:∀k d,∃es,f (w.re k d)=tq es (match s.run P (w.re k d) with | u1 a w=>g a w | uZ _ w=>tu o w)):gq f w:=by
 obtain⟨a,b,c⟩:=hs;intro B w2 es e;obtain⟨q,j⟩:=hf w.tape w.drawn;rw[vZ,e]at j
 cases m:s.run P w with
 |halt h w1=>rw[m]at j;cases j
 |ok x w1=>
  rw[m]at j a b c;have r:w.drawn<=w1.drawn:=a;have b':w1.tape=w.tape:=b
  cases hg:g x w1 with
  |go C w3 D=>
   simp only[hg]at j;cases j;obtain⟨a2,t,u⟩:=h x w1 m _ _ _ hg;refine⟨da r a2,t.t b',λk d p=>?_⟩;have v:=c k d (λi hi=>p i (by have E:i<w1.drawn-w.drawn:=hi;omega))
   obtain⟨y,z⟩:=u k (d+(w1.drawn-w.drawn)) (λi hi=>by
    have:=p ((w1.drawn-w.drawn)+i) ab
    grind)
   obtain⟨l,A⟩:=hf k d;rw[A,v];show∃H,tq l (g x (w1.re k (d+(w1.drawn-w.drawn))))=_;rw[z];refine⟨l++y,?_⟩;show GStep.go _ _ _=_;congr 2;omega
  |_=>simp only[hg]at j;cases j
def va{P:bq}{f:f0}(a:J.kind=xZ)(v:ad):∃g,∀w,∃es,g9 P hw J (f::q) hN v w=tt g w es:=
 ⟨_,λw=>⟨#[],by simp only[g9,a];rfl⟩⟩
def LM(d:Wd T F Z ρ w w'){fr fr':f0}{cs:List f0}(g:aQ T F Z fB fA ρ fr fr')(hb:dn (fr::cs))(j:Option a8)(h:∀c,j=hO c->codeOk T F Z c=hw) :
 gq (λw=>mR (lL T fB) hw fr (cs++[bot]) hN w j) w:=by
 rcases jP g.roundOf with⟨e1,i⟩|⟨l,m,e1,i,hl⟩
 .simp only[iW e1]
  cases sn j with
  |false=>exact pN _ λw=>⟨_,_,_,rfl⟩
  |true=>exact Bu _
 .simp only[iX e1];have k:cs≠[]:=by
   rintro rfl;have:=hb fr rfl;rw[e1]at this;cases this
  obtain⟨f,b,rfl⟩:∃f b,cs=f::b:=by
   cases cs with
   |nil=>exact absurd rfl k
   |cons f b=>exact⟨f,b,rfl⟩
  exact wh d (oq (T:=T) (fB:=fB) (fA:=fA) (Z:=Z) d.inj hl j h) (f:=λr=>match r with | u1 v w=>g9 (lL T fB) hw fr (f::(b++[bot])) hN v w | uZ _ w=>tu (x8 "range over a function: no such loop" (fr.pos (lL T fB))) w) fr.fn
   (λ_ a _ _ _ _=>vc (va g.kind a)) (λ_=>vd λ_ _ _ _ e=>by cases e) (λ_ _=>⟨_,_,_,rfl⟩) (λ_ _ _=>⟨_,_,_,rfl⟩)
def OD(fit:Fits T fB fA F X Z)(a:Wd T F Z ρ w w'){fr':f0}(b:aQ T F Z fB fA ρ J fr'){ops:Array f6}{rest:List Nat}
 (f:J.todo=ul ops (M::rest)::O) (g:(ops.toList.all λo=>jh T F Z o.op)=hw) :
 gq (λw=>tH (lL T fB) hw J (q++[bot]) hN w) w:=by
 unfold tH;have e:J.oper? = ops[M]?:=by unfold te;rw[f]
 rw[e]
 cases h:ops[M]? with
 |none=>exact pN _ λw=>⟨_,_,_,rfl⟩
 |some o=>
  have ok:=Bo g h;simp only;have main:gq (λw=>tz (lL T fB) hw J (q++[bot]) hN (f7 J.eval o) w) w:=
   xy (Yg fit.zero fit.fns a.inj a.wr a.tape a.drawn (dD b.tmps) o ok) (De (fA:=fA) fit.zero fit.fns a.inj a.wr a.tape a.drawn (dD b.tmps) o ok #[])
  have d:=b.roundOf;generalize e1:J.roundOf=r at d;generalize l:fr'.roundOf=m at d
  cases d with
  |none=>exact main
  |some hl=>
   cases j:o.op with
   |defer c=>rw[j]at ok;cases ok
   |_=>exact main
def OE(fit:Fits T fB fA F X Z)(o:Wd T F Z ρ w w'){fr fr':f0}{cs:List f0}(s:aQ T F Z fB fA ρ fr fr')(hb:dn (fr::cs)) :
 gq (λw=>tK (lL T fB) hw hw fr (cs++[bot]) hN w) w:=by
 obtain⟨fn,tmps,todo,defers,mode,kind,p⟩:=fr;obtain⟨q,K,L,M,N,O,C⟩:=fr';have P:cN T F Z ρ todo L:=s.todo;have to:∀D:List f8,gq (λw=>tt { frame:=⟨fn,tmps,D,defers,mode,kind,p⟩,callers:=cs++[bot],status:=x7,dying:=hN } w) w:=λD=>Bu _;have lv:=λj Q=>LM (bot:=bot) o s hb j Q;unfold tK
 cases P with
 |nil=>exact lv hN (λc e=>by cases e)
 |@cons i i' k k' h t=>
  cases h with
  |inBlock id=>exact to _
  |inLoop c hc=>exact to _
  |inScope c hc=>exact to _
  |inRangeFunc hl=>exact pN _ λw=>⟨_,_,_,rfl⟩
  |beginRound=>
   refine Ah (fA:=fA) o (s':=do(C.elim (stuck "beginRound: no round") qt);pure xi) (vX o.inj ?_)
   rcases jP s.roundOf with⟨u,y⟩|⟨l,R,u,y,hl⟩
   .simp only at u y;subst u y;exact ak
   .simp only at u y;subst u y;exact lg (fA:=fA) o.inj hl
  |@endRangeFunc l R hl=>
   exact wh o (qW (fA:=fA) o.inj hl)
    (f:=λr=>match r with
      |u1 jump w=>tt { frame:=⟨fn,tmps,(jump.map ui).toList++k,defers,mode,kind,p⟩,callers:=cs++[bot],status:=x7,dying:=hN } w
      |uZ (wk v) w=>tt { frame:=tk ⟨fn,tmps,ut l::k,defers,mode,kind,p⟩ [{ v,recovered:=hG }],callers:=cs++[bot],status:=x7,dying:=hN } w
      |uZ _ w=>tu (x8 "range over a function: no such loop" _) w) fn
    (λ_ _ _ _ _ _=>vc ⟨_,λ_=>⟨_,rfl⟩⟩) (λ_=>vc ⟨_,λ_=>⟨_,rfl⟩⟩) (λ_ _=>⟨_,_,_,rfl⟩) (λ_ _ _=>⟨_,_,_,rfl⟩)
  |inRegion ops todo S=>
   cases todo with
   |nil=>exact to _
   |cons i E=>
    simp only
    cases((ops[i]?).map (Region.wanted · (gL ops tmps))).getD hG with
    |true=>exact OD fit o s rfl S
    |false=>exact Bu _
  |code c hc=>
   cases c with
   |ret=>exact lv (hO xv) (λc e=>by cases e;rfl)
   |skip=>exact to _
   |label _=>exact to _
   |seq a b=>exact to _
   |cond c a b=>
    simp only
    cases tp _ c with
    |bool b'=>exact Bu _
    |_=>exact pN _ λw=>⟨_,_,_,rfl⟩
   |block id b=>exact to _
   |loop b=>exact to _
   |scope b=>exact to _
   |exit id=>
    simp only
    cases gg id k with
    |none=>exact lv (hO (xt id)) (λc e=>by cases e;rfl)
    |some m=>exact to _
   |goto id=>
    simp only
    cases gy id k with
    |none=>exact lv (hO (.goto id)) (λc e=>by cases e;rfl)
    |some m=>exact to _
   |refuse U=>cases hc
   |rangeFunc f params assign body=>
    simp only[codeOk,dd]at hc;simp only;have H:=s.fn;simp only at H;subst H;have hs:=mO (T:=T) (fB:=fB) (fA:=fA) (Z:=Z) o.inj q s.mI s.tmps params assign body hc.1.2 hc.2 s.roundOf
    refine gq.seq (av.loc hs o.inj o.wr o.tape o.drawn) (g:=fun(x:Nat×List f9)w=>
     let fr:f0:=⟨q,tmps,ur x.1::k,x.2++defers,mode,kind,p⟩
     let call:Call:={ callee:=xp f,args:=#[xn (vJ (vp x.1) #[] #[])],argTypes:=#[] }
     tz (lL T fB) hw fr (cs++[bot]) hN (do let d<-f1 fr.eval call 0;fO d.target d.args) w) (x8 "range over a function: no such loop" (Frame.pos (lL T fB) ⟨q,tmps,ui (xB f params assign body)::k,defers,mode,kind,p⟩)) ?_ (λB d=>?_)
    .intro x w1 V;have I:=av.run #[] hs o.inj o.wr o.tape o.drawn;rw[V]at I;obtain⟨J,z,W,new,e1,A,hl,Y⟩:=I;have h0:=s.mono A.le;have hv:cU F J [vJ (vp x.1) #[] #[]] [vJ (vp z.1) #[] #[]]:=.cons (.func (.yield hl) .nil .nil) .nil;have he:=dD (fr:=⟨q,tmps,ur x.1::k,x.2++defers,mode,kind,p⟩) (fr':=⟨q,K,ur z.1::k',z.2++M,N,O,C⟩) h0.tmps f hc.1.1;exact Ah (fA:=fA) A.wd (jE (a:=#[Operand.const (vJ (vp x.1) #[] #[])].map (tp ⟨q,tmps,ur x.1::k,x.2++defers,mode,kind,p⟩)) (a':=#[vJ (vp z.1) #[] #[]]) fit.zero fit.fns A.inj he (by simpa[tp]using hv))
    .refine⟨seen (lL T fB) q ((qx q tmps params assign body p).runT (lL T fB) (w.re B d) #[]).2,?_⟩;show tq (seen (lL T fB) q ((qx q tmps params assign body p).runT (lL T fB) (w.re B d) #[]).2) _=_;grind[k9]
   |region id ops draw=>
    simp only
    cases draw with
    |false=>exact to _
    |true=>
     simp only[nd,py,if_false];have hs:av T fB fA F (codeOk T F Z) fF ρ (ce (.order fn id)) (ce (.order fn id)):=lH _;have hl:=av.loc hs o.inj o.wr o.tape o.drawn;refine gq.from hl (vc ?_);obtain⟨n,J,w1,W,c1,c2,A⟩:=ou (fB:=fB) (fA:=fA) o (.order fn id);refine⟨{ frame:=⟨fn,tmps,ul ops (Region.schedule (Tables.follows T .mixedOrders) ops n)::k,defers,mode,kind,p⟩,callers:=cs++[bot],status:=x7,dying:=hN },u1 n w1,c1,λB d e=>?_⟩;rw[e];exact⟨#[],rfl⟩
def Gs(h:Wd T F Z ρ w w'){fr fr':f0}{cs cs':List f0}(j:aQ T F Z fB fA ρ fr fr')(hcs:cj T F Z fB fA ρ cs cs')(k:fr.mode≠xC)(l:fr.defers=[]->cs≠[]) :
 gq (λw=>hh (lL T fB) hw fr (cs++[bot]) hN w) w:=by
 have hd:=j.defers;obtain⟨fn,tmps,todo,defers,mode,kind,i⟩:=fr;obtain⟨g,H,I,J,K,L,M⟩:=fr';obtain⟨m,n,y,o,p,z,q,u,A,B,x⟩:=j;simp only at m n y o p z q u A B x k l hd;subst m
 cases hd with
 |@cons r N ds C D t=>
  unfold hh;simp only;exact wh h (jj (fB:=fB) (fA:=fA) h.inj D)
   (f:=λr=>match r with
     |u1 calls w=>tt { frame:={ fn:=g,tmps,todo,defers:=calls++ds,mode,kind,roundOf:=i },callers:=cs++[bot],status:=x7,dying:=hN } w
     |uZ _ w=>tu (x8 "the deferred calls of a range-over-func loop have been taken" _) w) g
   (λ_ _ _ _ _ _=>vc ⟨_,λ_=>⟨_,rfl⟩⟩) (λ_=>vd λ_ _ _ _ e=>by cases e) (λ_ _=>⟨_,_,_,rfl⟩) (λ_ _ _=>⟨_,_,_,rfl⟩)
 |nil=>
  obtain⟨f,b,rfl⟩:∃f b,cs=f::b:=by
   cases cs with
   |nil=>exact absurd rfl (l rfl)
   |cons f b=>exact⟨f,b,rfl⟩
  cases q with
  |run=>exact absurd rfl k
  |@panicking c O hc=>
   refine gq.pure { frame:=f.raise c,callers:=b++[bot],status:=x7,dying:=hN } λP d=>⟨#[],?_⟩
   show hh (lL T fB) hw _ (f::(b++[bot])) hN _=_;unfold hh;simp only[iR p (lL T fB) g tmps [] (xT c) kind i,py,if_false]
  |returning=>
   obtain⟨fx,c,E,Q,R,S⟩:=(n (x rfl)).ex;unfold hh;simp only[E]
   exact wh h (mP (fB:=fB) (fA:=fA) (Z:=Z) h.inj fx o) (f:=λr=>match r with
    |u1 v w=>g9 (lL T fB) hw { fn:=g,tmps,todo,defers:=[],mode:=xF,kind,roundOf:=i } (f::(b++[bot])) hN v w
    |uZ (wl s) w=>tu (x8 s _) w
    |uZ _ w=>tu (x8 "return: the result variables cannot be read" _) w) g
    (λ_ a _ _ _ _=>vc (va u a)) (λ_=>vd λ_ _ _ _ e=>by cases e) (λ_ _=>⟨_,_,_,rfl⟩) (λ_ _ _=>⟨_,_,_,rfl⟩)
def OG(fit:Fits T fB fA F X Z)(d:Wd T F Z ρ w w'){g g':g0}(hg:GR T fB fA F X Z bot ρ g g')(b:aQ T F Z fB fA ρ g.frame g'.frame)
 (f:g.frame.mode≠xC->g.frame.defers=[]->g.callers≠[bot]):gq (λw=>stepG (lL T fB) hw g w) w:=by
 obtain⟨_,⟨l,hl,hcs,hb,_⟩,st,a,i,j,of,k⟩:=hg;obtain⟨fr,cs,status,dying,offers⟩:=g;obtain⟨c,cs',o,p,q⟩:=g';simp only at st a i j of k hl hcs b hb f;subst st a i j of k hl;have m:=OE (bot:=bot) fit d b hb;have r:=λh=>Gs (bot:=bot) d b hcs h (λhd e=>by subst e;exact f h hd rfl);obtain⟨fn,tmps,todo,defers,mode,kind,s⟩:=fr;obtain⟨t,u,v,x,n,y,z⟩:=c;have A:qE F ρ mode n:=b.mode;unfold stepG;grind
end
inductive Term(P:bq)(Good:g0->ai->Prop):g0->ai->Prop
 |done {g:g0} {w:ai} (h:Good g w):Term P Good g w
 |step {g:g0} {w:ai} (G1:hk->Nat->g0) (W1:hk->Nat->ai) (h:∀τ d,∃es,stepG P hw g (w.re τ d)=tt (G1 τ d) (W1 τ d) es) (k:∀τ d,Term P Good (G1 τ d) (W1 τ d)):Term P Good g w
inductive cy(P:bq):Nat->g0->ai->g0->ai->Prop
 |zero (g:g0) (w:ai):cy P 0 g w g w
 |succ {n:Nat} {g g1 g2:g0} {w w1 w2:ai} {es:Array bm} (h:cy P n g w g1 w1) (k:stepG P hw g1 w1=tt g2 w2 es):cy P (n+1) g w g2 w2
def cy.det{P:bq}{g b a:g0}{w1 w2:ai}(h:cy P M g R b w1)(k:cy P M g R a w2):b=a/\w1=w2:=by
 induction h generalizing a w2 with
 |zero=>cases k;exact⟨rfl,rfl⟩
 |succ h k1 c=>
  cases k with
  |succ d k'=>
   grind
def cy.hd00{P:bq}{n m:Nat}{g a:g0}{w w2:ai}(h:cy P n g w a w2)(d:m<=n):∃b w1,cy P m g w b w1:=by
 induction h with
 |zero=>
  obtain rfl:m=0:=ab;exact⟨_,_,.zero _ _⟩
 |@succ n _ _ _ _ _ _ _ h k c=>
  rcases hY m (n+1) with hl|hg
  .exact c ab
  .obtain rfl:m=n+1:=ab;exact⟨_,_,.succ h k⟩
def cy.next{P:bq}{m:Nat}{g a c:g0}{w1 w2:ai}(h:cy P M g R c w2)(k:cy P m g R a w1)(d:m<M):∃b w3 es,stepG P hw a w1=tt b w3 es:=by
 obtain⟨b,w3,hc⟩:=h.hd00 (m:=m+1) d
 cases hc with
 |succ e k'=>
  obtain⟨rfl,rfl⟩:=e.det k;exact⟨_,_,_,k'⟩
def cy.suffix{P:bq}:∀{n:Nat}{g a b:g0}{w w1 w2:ai},cy P (M+n) g w b w2->cy P M g w a w1->cy P n a w1 b w2:=by
 intro n
 induction n with
 |zero=>
  intro g a b w w1 w2 h k;obtain⟨rfl,rfl⟩:=h.det k;exact .zero _ _
 |succ n c=>
  intro g a b w w1 w2 h k
  cases h with
  |succ d k'=>exact .succ (c d k) k'
def jW(L:List (aH->Nat))(a:hk):Prop:=∀i x,L[i]?=hO x->a i=x
theorem jW.of_append{L M:List (aH->Nat)}{a:hk}(h:jW (L++M) a):jW L a:=λi x b=>h i x (by
 grind)
section
variable {P:bq}{Good:g0->ai->Prop}{Inv:g0->ai->Prop}{Stop:g0->Prop}
def Bv(u:∀g w c d,Inv g w->Inv g (w.re c d))(O:∀g w f w1 es,Inv g w->¬Stop g->stepG P hw g w=tt f w1 es->Inv f w1)
 (D:∀g w,Inv g w->¬Stop g->gq (stepG P hw g) w)
 (Q:∀g w E w2 m,Inv g w->Stop g->cy P (m+1) g w E w2->¬Good E w2) (R:∀g w c d,Good g w->Good g (w.re c d))
 {o:g0} {w0:ai} (S:Inv o w0) (runs:∀a:hk,∃n g w,cy P n o (w0.re a 0) g w/\Good g w):Term P Good o w0:=by
 classical
 apply jl;intro T;have Dk:∀g(w:ai)c d,Good g (w.re c d)->Good g w:=λg w c d h=>R g (w.re c d) w.tape w.drawn h;have bad:∀g w,¬Term P Good g w->¬Good g w/\∃c d,∀f w1 es,stepG P hw g (w.re c d)=tt f w1 es->¬Term P Good f w1:=by
  intro g w h;refine⟨λhg=>h (.done hg),jl λhn=>h ?_⟩;have v:∀c d,∃f w1 es,stepG P hw g (w.re c d)=tt f w1 es/\Term P Good f w1:=by
   simp_all
  exact .step (λc d=>(v c d).choose) (λc d=>(v c d).p.choose) (λc d=>⟨_,(v c d).p.p.p.1⟩) (λc d=>(v c d).p.p.p.2)
 let St (k:Nat):={ x:g0×ai×List (aH->Nat) // Inv x.1 x.2.1/\¬Term P Good x.1 x.2.1/\∀a,jW x.2.2 a->cy P k o (w0.re a 0) x.1 (x.2.1.re a x.2.2.length) }
 have next:∀k(s:St k),(∀j,j<=k->∀a,jW s.1.2.2 a->∀g w,cy P j o (w0.re a 0) g w->¬Good g w)->
  ∃F:St (k+1),(∃M,F.1.2.2=s.1.2.2++M)/\(∀j,j<=k+1->∀a,jW F.1.2.2 a->∀g w,cy P j o (w0.re a 0) g w->¬Good g w):=by
  rintro k⟨⟨g,w,L⟩,hi,hb,hc⟩U;simp only at hi hb hc U;obtain⟨hg,c,d,V⟩:=bad g w hb;let a:hk:=λi=>if h:i<L.length then L[i] else c (d+(i-L.length))
  have p:jW L a:=λi x r=>by
   grind
  obtain⟨n,ge,we,H,W⟩:=runs a;have X:k<n:=by
   grind
  have y:¬Stop g:=λhs=>by
   obtain⟨m,rfl⟩:∃m,n=k+(m+1):=⟨n-k-1,ab⟩
   exact Q _ _ _ _ _ (u _ _ _ _ hi) hs (H.suffix (hc a p)) W
  have z:∃f w1 es,stepG P hw g (w.re c d)=tt f w1 es:=by
   obtain⟨Y,w3,es,e⟩:=H.next (hc a p) X;obtain⟨_,_,hl⟩:=D g (w.re a L.length) (u _ _ _ _ hi) y Y w3 es e
   obtain⟨I,A⟩:=hl c d (λi _=>by
    show c (d+i)=a (L.length+i)
    grind)
   exact⟨_,_,_,A⟩
  obtain⟨f,w1,es,e⟩:=z;obtain⟨hd,ht,hl⟩:=D g (w.re c d) (u _ _ _ _ hi) y f w1 es e;have Z:d<=w1.drawn:=hd;let M:List (aH->Nat):=(i3 (w1.drawn-d)).map λi=>c (d+i);have B:M.length=w1.drawn-d:=by simp[M]
  have Gu:=O _ _ _ _ _ (u _ _ c d hi) y e;have J:∀a,jW (L++M) a->cy P (k+1) o (w0.re a 0) f (w1.re a (L++M).length):=by
   intro a p;have h1:=hc a p.of_append
   obtain⟨I,A⟩:=hl a L.length (λi hi=>by
    have mS:i<w1.drawn-d:=hi;show a (L.length+i)=c (d+i);refine p _ _ ?_
    grind)
   have t:stepG P hw g (w.re a L.length)=tt f (w1.re a (L++M).length) I:=by
    rw[dC,B];exact A
   exact .succ h1 t
  have lq:=V f w1 es e;refine⟨⟨(f,w1,L++M),Gu,lq,J⟩,⟨M,rfl⟩,λj hj a p gj wj C hgj=>?_⟩
  rcases hY j (k+1) with Wk|Wk
  .grind[jW.of_append]
  .obtain rfl:j=k+1:=ab;obtain⟨e1,t⟩:=C.det (J a p);grind
 let K (k:Nat):={ s:St k // ∀j,j<=k->∀a,jW s.1.2.2 a->∀g w,cy P j o (w0.re a 0) g w->¬Good g w }
 let s0:K 0:=⟨⟨(o,w0,[]),S,T,λa _=>.zero _ _⟩,λj hj a _ g w hc hg=>by
  obtain rfl:j=0:=ab;cases hc
  grind⟩
 let l:∀k,K k:=λk=>Nat.rec s0 (λk s=>⟨(next k s.1 s.2).choose,(next k s.1 s.2).p.2⟩) k;have grow:∀k,∃M,(l (k+1)).1.1.2.2=(l k).1.1.2.2++M:=λk=>(next k (l k).1 (l k).2).p.1;have N:∀k m,∃M,(l (k+m)).1.1.2.2=(l k).1.1.2.2++M:=by
  intro k m
  induction m with
  |zero=>exact⟨[],ar⟩
  |succ m ih=>
   obtain⟨M,q⟩:=ih;obtain⟨M',OL⟩:=grow (k+m);exact⟨M++M',by rw[<-Nat.add_assoc,OL,q,dT]⟩
 let a:hk:=λi=>if h:∃k,i<(l k).1.1.2.2.length then(l h.choose).1.1.2.2[i]'h.p else λ_=>0
 have p:∀k,jW (l k).1.1.2.2 a:=by
  intro k i x r;obtain⟨hl,Gt⟩:=cQ.1 r;have b:∃k,i<(l k).1.1.2.2.length:=⟨k,hl⟩
  have e1:a i=(l b.choose).1.1.2.2[i]'b.p:=by simp only[a,dif_pos b]
  have t:(l b.choose).1.1.2.2[i]?=hO x:=by
   rcases Nat.le_total k b.choose with h|h
   .obtain⟨M,q⟩:=N k (b.choose-k);rw[show k+(b.choose-k)=b.choose by omega]at q;rw[q,ej hl,r]
   .obtain⟨M,q⟩:=N b.choose (k-b.choose);rw[show b.choose+(k-b.choose)=k by omega]at q;rw[q,ej b.p]at r;exact r
  rw[e1];rw[cC b.p]at t;exact mj t
 obtain⟨n,g,w,hc,hg⟩:=runs a;exact(l n).2 n (dk _) a (p n) g w hc hg
end
def Gv : "fmt's door no such".startsWith "fmt's door" = hw:=by decide +kernel
def qX:Extern.next "fmt's door no such" = hN:=by
 have h:(Extern.next "fmt's door no such").isNone=hw:=by decide +kernel
 simp_all
def aX(P:bq):f0:={ fn:=P.funcs.size,tmps:=#[],todo:=[.call { target:=.nil,args:=#[] } hG "fmt's door no such" #[]],defers:=[],mode:=xC,kind:=xZ }
def Yh(P:bq):P.funcs[P.funcs.size]?=hN:=ar
abbrev fH(fr:f0)(cs:List f0):g0:={ frame:=fr,callers:=cs,status:=x7,dying:=hN }
def vH(P:bq)(v:ad)(w:ai):∃o w2 es,stepG P hw (fH (ti (aX P) v) []) w=tu o w2 es:=by
 show∃o w2 es,tK P hw hw { (aX P) with todo:=[.extern "fmt's door no such" #[v]] } [] hN w=tu o w2 es;unfold tK;simp only[qX];exact⟨_,_,_,rfl⟩
def xz(P:bq)(c:List gc)(w:ai):∃o w2 es,stepG P hw (fH ((aX P).raise c) []) w=tu o w2 es:=by
 have:tm P { (aX P) with mode:=xT c }=hw:=by
  unfold tm;simp only[aX,Yh,Gv]
 show∃o w2 es,hh P hw { (aX P) with mode:=xT c } [] hN w=tu o w2 es;unfold hh;simp only[aX]at this⊢;simp_all
def lP(bot:f0)(g:g0):Prop:=g.frame.mode≠xC/\g.frame.defers=[]/\g.callers=[bot]
def lQ(P:bq)(f:ac)(R:ad->ai->Prop)(g:g0)(w:ai):Prop:=
 g.callers=[aX P]/\g.frame.mode=xF/\g.frame.defers=[]/\g.frame.fn=f/\∃fn v,P.funcs[f]?=hO fn/\(∀a d,(g8 fn g.frame.tmps).run P (w.re a d)=u1 v (w.re a d))/\R v w
section
variable {T:bd}{fB fA:Array bi}{F X:ac->Bool}{Z:ag->Bool}{ρ σ:Ren}{w w':ai}
def iE(T:bd)(fB:Array bi)(F:ac->Bool)(Z:ag->Bool)(g:g0)(w:ai):Prop:=
 ∃ρ a w',GR T fB fB F (λ_:ac=>hG) Z (aX ⟨T,fB⟩) ρ g a/\ρ.bw T.globals.size/\WR T.globals.size F (codeOk T F Z) ρ w w'
def Gm.noX{f':f0}(h:Gm T fB fA F (λ_:ac=>hG) Z ρ J f'):aQ T F Z fB fA ρ J f':=by
 cases h with
 |alike h=>exact h
 |enters x a _ _=>cases a
def Jc(c:ρ.bw T.globals.size)(a:WR T.globals.size F (codeOk T F Z) ρ w w')(b:hk)(d:Nat):Wd T F Z ρ (w.re b d) (w'.re b d):=⟨c,⟨a.pK,a.gN,a.obj⟩,rfl,rfl⟩
def iE.re{g:g0}(h:iE T fB F Z g w)(b:hk)(d:Nat):iE T fB F Z g (w.re b d):=by
 obtain⟨ρ,c,w',e,f,a⟩:=h;exact⟨ρ,c,w',e,f,⟨a.pK,a.gN,a.obj⟩⟩
def Bz{g:g0}(hs:¬lP (aX (lL T fB)) g):g.frame.mode≠xC->g.frame.defers=[]->g.callers≠[aX (lL T fB)]:=λa b c=>hs ⟨a,b,c⟩
def iE.Wm(fit:Fits T fB fB F (λ_:ac=>hG) Z){g:g0}(h:iE T fB F Z g w)(hs:¬lP (aX (lL T fB)) g):∃ρ w' s',ρ.bw T.globals.size/\ef T fB fB F (λ_:ac=>hG) Z (aX (lL T fB)) ρ w w' (stepG (lL T fB) hw g w) s':=by
 obtain⟨ρ,d,w',a,b,c⟩:=h;have:=sr fit (Jc b c w.tape w.drawn) a a.top.noX (Bz hs);exact⟨ρ,_,_,b,this⟩
def iE.step(fit:Fits T fB fB F (λ_:ac=>hG) Z){g b:g0}{w1:ai}{es:Array bm}(h:iE T fB F Z g w)(hs:¬lP (aX (lL T fB)) g)(e:stepG (lL T fB) hw g w=tt b w1 es):iE T fB F Z b w1:=by
 obtain⟨ρ,w',j,k,c⟩:=h.Wm fit hs;rw[e]at c;obtain⟨d,f,i,l,_,_,_,a,hg⟩:=c;exact⟨d,f,i,hg,a.inj,⟨a.wr.pK,a.wr.gN,a.wr.obj⟩⟩
def iE.loc(fit:Fits T fB fB F (λ_:ac=>hG) Z){g:g0}(h:iE T fB F Z g w)(hs:¬lP (aX (lL T fB)) g):gq (stepG (lL T fB) hw g) w:=by
 obtain⟨ρ,d,w',a,b,c⟩:=h;exact OG fit (Jc b c w.tape w.drawn) a a.top.noX (Bz hs)
def iE.fH{g:g0}(h:iE T fB F Z g w):g=fH g.frame g.callers:=by
 obtain⟨ρ,b,w',a,c,e⟩:=h;obtain⟨_,_,st,_,f,_,of,_⟩:=a;obtain⟨fr,cs,s,d,o⟩:=g;grind
def pO{g:g0}(h:iE T fB F Z g w)(hs:lP (aX (lL T fB)) g) :
 (∃fr w1 es,stepG (lL T fB) hw g w=tt (fH fr []) w1 es/\∀w,∃o w2 es,stepG (lL T fB) hw (fH fr []) w=tu o w2 es)\/∃o w1 es,stepG (lL T fB) hw g w=tu o w1 es:=by
 have hg:=h.fH;obtain⟨ρ,n,w',p,u,x⟩:=h;have d:=p.top.noX;obtain⟨f,i,m⟩:=hs;rw[m]at hg;have e:=d.mode;have j:=d.ret;have k:=d.same;have l:=d.kind;have a:=d.todo;obtain⟨fr,cs,st,y,of⟩:=g;simp only at hg f i m e j k l a;cases hg;obtain⟨fn,tmps,todo,defers,mode,kind,b⟩:=fr;simp only at f i e j k l a;subst i l;generalize n.frame.mode=m' at e
 cases e with
 |run=>exact absurd rfl f
 |@panicking c z hc=>
  have e1:stepG (lL T fB) hw (fH ⟨fn,tmps,todo,[],xT c,xZ,b⟩ [aX (lL T fB)]) w=tt (fH ((aX (lL T fB)).raise c) []) w:=by
   show hh (lL T fB) hw ⟨fn,tmps,todo,[],xT c,xZ,b⟩ [aX (lL T fB)] hN w=_;unfold hh;simp only[iR a (lL T fB) fn tmps [] (xT c) xZ b,py,if_false]
  exact vc ⟨_,_,_,e1,λw=>xz (lL T fB) c w⟩
 |returning=>
  obtain⟨fx,c,q,A,r,s⟩:=(k (j rfl)).ex;have e1:∃es,(∃v w1,stepG (lL T fB) hw (fH ⟨fn,tmps,todo,[],xF,xZ,b⟩ [aX (lL T fB)]) w=tt (fH (ti (aX (lL T fB)) v) []) w1 es)\/∃o w2,stepG (lL T fB) hw (fH ⟨fn,tmps,todo,[],xF,xZ,b⟩ [aX (lL T fB)]) w=tu o w2 es:=by
   show∃es,(∃v w1,hh (lL T fB) hw ⟨fn,tmps,todo,[],xF,xZ,b⟩ [aX (lL T fB)] hN w=tt (fH (ti (aX (lL T fB)) v) []) w1 es)\/∃o w2,hh (lL T fB) hw ⟨fn,tmps,todo,[],xF,xZ,b⟩ [aX (lL T fB)] hN w=tu o w2 es;unfold hh;simp only[q,Sem.runT_eq,g9]
   cases(g8 fx tmps).run (lL T fB) w with
   |ok v w1=>exact⟨_,vc ⟨v,w1,rfl⟩⟩
   |halt t w1=>cases t<;>exact⟨_,vd ⟨_,_,rfl⟩⟩
  obtain⟨B,⟨v,w2,e1⟩|⟨o,w2,e1⟩⟩:=e1
  .exact vc ⟨_,_,_,e1,λw=>vH (lL T fB) v w⟩
  grind
def Dn{fr':f0}{cs':List f0}{w w':ai}(h:lone J q w=lone fr' cs' w'):J=fr'/\q=cs'/\w=w':=by
 have a:=congrArg Machine.world h;have b:=congrArg Machine.gs h;simp only[lone]at a b;grind
def Jd{g:g0}{es:Array bm}(hg:g=fH g.frame g.callers)(e:stepG (lL T fB) hw g w=tt (fH J q) R es):step (lL T fB) (lone g.frame g.callers w)=.next (lone J q R):=by
 rw[hg]at e;exact step_lone_go (by rw[e];rfl)
def qY{g:g0}{o:Outcome}{w1:ai}{es:Array bm}(hg:g=fH g.frame g.callers)(e:stepG (lL T fB) hw g w=tu o w1 es):step (lL T fB) (lone g.frame g.callers w)=.ended o w1:=by
 rw[hg]at e;exact step_lone_ended (by rw[e];rfl)
theorem cy.head{P:bq}{g a b:g0}{w w2:ai}{es:Array bm}(k:stepG P hw g w=tt a R es)(h:cy P M a R b w2):cy P (M+1) g w b w2:=by
 induction h with
 |zero=>exact .succ (.zero _ _) k
 |succ _ k' c=>exact .succ (c k) k'
def zC(fit:Fits T fB fB F (λ_:ac=>hG) Z):∀(n:Nat)(g:g0)(w:ai),iE T fB F Z g w->∀fr w',runN (lL T fB) n (lone g.frame g.callers w)=.next (lone fr [aX (lL T fB)] w')->cy (lL T fB) n g w (fH fr [aX (lL T fB)]) w'/\iE T fB F Z (fH fr [aX (lL T fB)]) w':=by
 intro n
 induction n with
 |zero=>
  intro g w hi fr w' h;have d:lone g.frame g.callers w=lone fr [aX (lL T fB)] w':=by simpa[runN]using h
  obtain⟨a,b,c⟩:=Dn d;have hg:=hi.fH;rw[a,b]at hg;rw[hg,c]at hi;rw[hg,c];exact⟨.zero _ _,hi⟩
 |succ n q=>
  intro g w hi fr w' h;have hg:=hi.fH;by_cases hs:lP (aX (lL T fB)) g
  .rcases pO hi hs with⟨i,w1,es,e,l⟩|⟨o,w1,es,e⟩
   .rw[runN,Jd hg e]at h;simp only at h
    cases n with
    |zero=>
     have d:lone i [] w1=lone fr [aX (lL T fB)] w':=by simpa[runN]using h
     have:=(Dn d).2.1;cases this
    |succ n=>
     obtain⟨o,w2,r,m⟩:=l w1;rw[runN,qY (g:=fH i []) rfl m]at h;cases h
   .rw[runN,qY hg e]at h;cases h
  .obtain⟨ρ,w2,s,t,j⟩:=hi.Wm fit hs
   cases e:stepG (lL T fB) hw g w with
   |go u w1 es=>
    have p:=hi.step fit hs e;have f:=p.fH;have k:=e;rw[f]at k;rw[runN,Jd hg k]at h;grind[cy.head]
   |ended o w1 es=>
    rw[runN,qY hg e]at h;cases h
   |_=>rw[e]at j;exact j.elim
def Gw{fn:bi}{g:Array ad}(a:ρ.bw T.globals.size)(j:WR T.globals.size F (codeOk T F Z) ρ w w')(h:VA F ρ C g){v:ad}(e:(g8 fn C).run (lL T fB) w=u1 v w)(b:hk)(d:Nat):(g8 fn C).run (lL T fB) (w.re b d)=u1 v (w.re b d):=by
 have hl:=av.loc (mP (T:=T) (fB:=fB) (fA:=fB) (Z:=Z) a fn h) a (Jc a j w.tape w.drawn).wr rfl rfl;obtain⟨_,_,c⟩:=hl;have k:(g8 fn C).run (lL T fB) (w.re w.tape w.drawn)=u1 v w:=e;have f:=c b d;rw[show(w.re w.tape w.drawn)=w from rfl,e]at f;simpa[Result.re,Result.world]using f (λi hi=>by simp[Result.world]at hi)
def zD(fit:Fits T fB fB F (λ_:ac=>hG) Z){w0 j:ai}(H:ρ.bw T.globals.size)(I:WR T.globals.size F (codeOk T F Z) ρ w0 j){f:ac}(hf:F f=hw){args y:Array ad}(z:VA F ρ args y){R:ad->ai->Prop}
 (J:∀v w i d,R v w->R v (World.re w i d)) (calls:∀σ:hk,Calls (lL T fB) f args (w0.re σ 0) fun | .returned v,w'=>R v w'|_,_=>False) :
 Term (lL T fB) (lQ (lL T fB) f R) (fH (tj (lL T fB) f args xZ) [aX (lL T fB)]) w0:=by
 have A:iE T fB F Z (fH (tj (lL T fB) f args xZ) [aX (lL T fB)]) w0:=
  ⟨ρ,fH (tj (lL T fB) f y xZ) [],j,⟨.alike (fe (fit.same f hf rfl) hf z),⟨[],rfl,.nil,(λx K=>by cases K;rfl),λ_=>fe (fit.same f hf rfl) hf z⟩,rfl,rfl,rfl,rfl,rfl,rfl⟩,H,I⟩
 have L:∀g w i d,lQ (lL T fB) f R g w->lQ (lL T fB) f R g (World.re w i d):=by
  rintro g w i d⟨a,b,c,e,fn,v,l,M,N⟩;exact⟨a,b,c,e,fn,v,l,λp O=>M p O,J v w i d N⟩
 refine Bv (Inv:=iE T fB F Z) (Stop:=λg=>lP (aX (lL T fB)) g) (λg w i d h=>h.re i d) (λg w Y w1 es h hs e=>h.step fit hs e) (λg w h hs=>h.loc fit hs) ?_ L A ?_
 .intro g w g2 w2 m hi hs k q;obtain⟨g3,w3,NF,B⟩:=k.next (.zero g w) (h7 m)
  rcases pO hi hs with⟨P,w1,es,e,Q⟩|⟨o,w1,es,e⟩
  .have l:cy (lL T fB) 1 g w (fH P []) w1:=.succ (.zero _ _) e
   cases m with
   |zero=>
    obtain⟨rfl,rfl⟩:=k.det l;have:=q.1;cases this
   |succ m=>
    obtain⟨g4,w4,S,C⟩:=k.next l ab;obtain⟨o,w5,U,e5⟩:=Q w1;rw[e5]at C;cases C
  .rw[e]at B;cases B
 .intro σ;obtain⟨e,w',fr,r,hc,D,hl⟩:=calls σ [aX (lL T fB)]
  cases e with
  |returned v=>
   obtain⟨n,V⟩:=hc;obtain⟨k,aJ,g',aP,s,t,W⟩:=zC fit n _ _ (A.re σ 0) fr w' V;refine⟨n,_,_,k,rfl,hl.1,hl.2.1,D,?_⟩;obtain⟨_,_,_,fn,E,u⟩:=hl;rw[D]at E;exact⟨fn,v,E,λi d=>Gw t W s.top.noX.tmps u i d,r⟩
  |panicked c=>exact r.elim
  |outgrown=>exact r.elim
end
open Go.Conc
open Go.ConcN (sumTo upd sumTo_upd upd_ne upd_same)
section
variable {P:bq}{Shun:Loc->Prop}
def abX(f:ai->Nat)(Q:Nat->g0->ai->Array bm->Prop) :
 ∀(M:Nat)(gs:Array g0)(a:g0)(w:ai)(sl:Option (Nat×Nat))(t:ho)(q:Nat->Nat)(B:Nat),sumTo gs.size q<=M->gs[0]?=hO a->a.status=x7->t0 P t gs q->t6 Shun B t->(∀op∈t,gs.size<=op.g->op.act.touch? = hN)->
  (∀d,∃a' w' es,stepG P hw a (w.at d)=tt a' w' es/\Q d a' w' es/\B<=f w'/\∀e∈es,EvL Shun (f w') e)->
  ∃(N d:Nat)(m:Array g0)(a':g0)(w':ai)(es:Array bm)(p:Option (Nat×Nat))(r:ho)(D:Nat->Nat),
   runNT P N (crowd gs w sl) t=(.next (crowd m w' p),r)/\m.size=gs.size/\m[0]?=hO a'/\stepG P hw a (w.at d)=tt a' w' es/\Q d a' w' es/\t0 P r m D/\t6 Shun (f w') r/\(∀op∈r,m.size<=op.g->op.act.touch? = hN):=by
 intro M
 induction M using Nat.strongRecOn with
 |ind M V=>
  intro gs a w sl t q B hM L O s R S T;have W:∀g∈gs,awake g:=by
   intro g hg;obtain⟨i,hi,rfl⟩:=qa.1 hg
   rcases cd i with rfl|E
   .grind[j2,awake_of]
   .exact awake_of ((s.old i _ E (j2 hi)).status.elim vc λx=>vd (vd x))
  obtain⟨i,g,d,p,hi,hg,U⟩:=crowd_pick (P:=P) (w:=w) (sl:=sl) W ⟨0,a,L,O⟩
  rcases cd i with rfl|E
  .obtain rfl:g=a:=aS;obtain⟨a',w',es,c,X,Y,Z⟩:=T d;have F:=t7 (P:=P) (sl:=p) (i:=0) hi (show stepG P (0==0) g (w.at d)=_ from c);have u:(i6 (gs.map (woken P g a' w')) 0 a').size=gs.size:=ar;have z:0<gs.size:=(bR.1 L).1
   refine⟨1,d,i6 (gs.map (woken P g a' w')) 0 a',a',w',es,p,t++MemOp.ofEvents 0 g.frame.fn g.frame.place es,q,by simp only[runNT,U,F],u,by simp[z],c,X,
    ⟨λj x l n=>?_,λj l=>?_⟩,(R.mono Y).own Z,λop b=>?_⟩
   .have bu:0≠j:=ab;rw[jf bu,j4]at n;obtain⟨y,hy,rfl⟩:=ik.1 n;have o:=s.old j y l hy;rw[t8 o,t9 t ab _ (λop b=>by obtain⟨e,_,rfl⟩:=ub b;rfl)];exact o
   .rw[t9 t (g':=0) (by simp at l;omega) _ (λop b=>by obtain⟨e,_,rfl⟩:=ub b;rfl)];exact s.above j (by simpa using l)
   .rw[u]
    rcases Array.mem_append.1 b with h|h
    .exact S op h
    .obtain⟨e,_,rfl⟩:=ub h;grind
  .have o:=s.old i g E hi;have Yl:(i==0)=hG:=by simp;omega
   have z:i<gs.size:=(bR.1 hi).1
   cases H:q i with
   |zero=>rw[H]at o;rw[o.1]at hg;cases hg
   |succ k=>
    rw[H]at o
    rcases o with⟨hf,_⟩|⟨_,A,es,hm,Gz,Ym⟩
    .rw[hf]at hg;cases hg
    have F:=t7 (P:=P) (sl:=p) (i:=i) hi (by rw[Yl];exact Gz (w.at d));have u:(i6 (gs.map (woken P g A (w.at d))) i A).size=gs.size:=ar;have LO:sumTo gs.size (upd q i k)+(k+1)=sumTo gs.size q+k:=by
     have:=sumTo_upd q k id z;simpa[H]using this
    obtain⟨N,d2,m,I,SY,tJ,Yn,r,D,hr,fR,TK,c,hS,J,K⟩:=V (sumTo gs.size (upd q i k)) ab (i6 (gs.map (woken P g A (w.at d))) i A) a (w.at d) p (t++MemOp.ofEvents i g.frame.fn g.frame.place es) (upd q i k) B (by rw[u];omega)
     (by
       grind [jf,woken_run]) O
     ⟨λj x l n=>by
       by_cases C:i=j
       .subst C;rw[jx (by simpa using z)]at n;obtain rfl:=mj n;rw[upd_same,Deaf_own];exact Ym
       .rw[jf C,j4]at n;obtain⟨y,hy,rfl⟩:=ik.1 n;have v:=s.old j y l hy;rw[t8 v,upd_ne q k (gr C),t9 t C _ (λop b=>by obtain⟨e,_,rfl⟩:=ub b;rfl)];exact v,λj l=>by
       rw[t9 t (g':=i) (by simp at l;omega) _ (λop b=>by obtain⟨e,_,rfl⟩:=ub b;rfl)]
       exact s.above j (by simpa using l)⟩
     (R.mute ab hm) (λop b=>by
      rw[u]
      rcases Array.mem_append.1 b with h|h
      .exact S op h
      .obtain⟨e,_,rfl⟩:=ub h;grind) (λd2=>T d2)
    exact⟨N+1,d2,m,I,SY,tJ,Yn,r,D,by simp only[runNT,U,F];exact hr,fR.t u,TK,c,hS,J,K⟩
def Gx(Q:Nat->g0->ai->Array bm->Prop) :
 ∀(M:Nat)(gs:Array g0)(a:g0)(w:ai)(sl:Option (Nat×Nat))(t:ho)(q:Nat->Nat)(B:Nat),sumTo gs.size q<=M->gs[0]?=hO a->a.status=x7->t0 P t gs q->t6 Shun B t->(∀op∈t,gs.size<=op.g->op.act.touch? = hN)->
  (∀d,∃a' w' es,stepG P hw a (w.at d)=tt a' w' es/\Q d a' w' es/\B<=w'.heap.size/\∀e∈es,EvL Shun w'.heap.size e)->
  ∃(N d:Nat)(b:Array g0)(a':g0)(w':ai)(es:Array bm)(f:Option (Nat×Nat))(c:ho)(h:Nat->Nat),
   runNT P N (crowd gs w sl) t=(.next (crowd b w' f),c)/\b.size=gs.size/\b[0]?=hO a'/\stepG P hw a (w.at d)=tt a' w' es/\Q d a' w' es/\t0 P c b h/\t6 Shun w'.heap.size c/\(∀op∈c,b.size<=op.g->op.act.touch? = hN):=
 abX (λW=>W.heap.size) Q
end
end Go.bJ
namespace Go.bJ
open Go.Conc Go.ConcM
variable {C:Nat}{L:bi}{J:Tmp}{R:ad->ai->Prop}{q:g0}
structure TL(Shun:Loc->Prop)(ρ:Ren)(n:Nat):Prop where
 cell:∀a,Shun (wQ a)->a.block<n/\∀r,¬ρ r a.block
 obj:∀b,Shun (wS b)->b<n/\∀r,¬ρ r b
 mem:∀l,Shun l->l.isMemory=hw
section
variable {T:bd}{fB fA:Array bi}{F X:ac->Bool}{Z:ag->Bool}{ρ aJ:Ren}{w w' w1 aP:ai}{Shun:Loc->Prop}
def TL.step{es:Array bm}(h:TL Shun ρ w'.heap.size)(c:cE T.globals.size F (codeOk T F Z) ρ w w' aJ w1 aP es):TL Shun aJ aP.heap.size:=by
 refine⟨λa g=>?_,λb hb=>?_,h.mem⟩
 .obtain⟨d,e⟩:=h.cell a g;refine⟨bT d c.fV,λr f=>?_⟩
  rcases c.only _ _ f with x|⟨_,x⟩
  .exact e _ x
  .omega
 .obtain⟨d,e⟩:=h.obj b hb;refine⟨bT d c.fV,λr f=>?_⟩
  rcases c.only _ _ f with x|⟨_,x⟩
  .exact e _ x
  .omega
def Ls.evL(g:WR T.globals.size F (codeOk T F Z) ρ w w')(i:TL Shun ρ w'.heap.size){e:bm}(h:Ls ρ e):EvL Shun w'.heap.size e:=by
 obtain⟨loc,wr,k⟩:=e
 cases loc with
 |cell a=>
  obtain⟨rfl,r,d⟩:=h;refine⟨λx c hs=>?_,ar,ar,(g.lt d).2⟩;have f:x=⟨wQ a,wr,.plain⟩:=by simpa[u2,u3]using c.y
  subst f;exact absurd d ((i.cell a hs).2 r)
 |obj b=>
  obtain⟨rfl,r,d⟩:=h;have e1:u2 ⟨wS b,wr,hG⟩=.access ⟨wS b,wr,hG⟩:=by cases wr<;>rfl
  refine⟨λx c hs=>?_,ar,ar,?_⟩
  .rw[e1]at c;have f:x=⟨wS b,wr,.plain⟩:=by simpa[u3]using c.y
   subst f;exact absurd d ((i.obj b hs).2 r)
  .rw[e1];exact(g.lt d).2
 |mark m=>
  have j:m=wg:=h;subst j;exact⟨λx c _=>by simp[u2,u3]at c,ar,ar,trivial⟩
 |output=>exact h.elim
 |goroutines=>exact h.elim
structure Dp(P:bq)(Shun:Loc->Prop)(gs:Array g0)(g:g0)(w:ai)(t:ho)(q:Nat->Nat):Prop where
 main:gs[0]?=hO g
 old:t0 P t gs q
 GA:t6 Shun w.heap.size t
 num:∀op∈t,gs.size<=op.g->op.act.touch? = hN
structure Kept(ρ:Ren)(w' aP:ai):Prop where
 tape:aP.tape=w'.tape
 os:OsLater w'.os aP.os
 output:aP.output=w'.output
 size:w'.heap.size<=aP.heap.size
 block:∀b,b<w'.heap.size->(∀a,¬ρ a b)->aP.heap[b]?=w'.heap[b]?
def Kept.TM{es:Array bm}(h:cE T.globals.size F (codeOk T F Z) ρ (w.re w'.tape C) (w'.re w'.tape C) aJ w1 aP es):Kept ρ w' aP:=
 ⟨h.wH,by rw[h.XV];exact .refl _,h.mK,h.fV,h.frame⟩
def sA(ρ aJ:Ren)(w w' w1 aP:ai):Prop:=ρ.le aJ/\(∀a b,aJ a b->ρ a b\/(w.heap.size<=a/\w'.heap.size<=b))/\
 ∀a b,ρ a b->∀i,nX w1 a i->nX w a i/\kd aP ⟨b,i,hN⟩=kd w' ⟨b,i,hN⟩
def Kept.trans{c:ai}(h:Kept ρ w' aP)(hg:∀a b,aJ a b->ρ a b\/w'.heap.size<=b)(k:Kept aJ aP c):Kept ρ w' c:=
 ⟨k.tape.t h.tape,h.os.trans k.os,k.output.t h.output,da h.size k.size,λb hb d=>by
   rw[k.block b (bT hb h.size) λa x=>?_,h.block b hb d]
   grind⟩
def BD(T:bd)(fB fA:Array bi)(F X:ac->Bool)(Z:ag->Bool)(End:g0->ai->Prop):Prop:=
 ∀(x:ac),X x=hw->∀(ρ:Ren)(a f:Array ad)(c b:f0)(l e:List f0)(w w':ai)(gs:Array g0)(i:Option (Nat×Nat))(t:ho)(q:Nat->Nat)(Shun:Loc->Prop),
  ρ.bw T.globals.size->WR T.globals.size F (codeOk T F Z) ρ w w'->VA F ρ a f->aQ T F Z fB fA ρ c b->cj T F Z fB fA ρ l e->
  Term ⟨T,fB⟩ End (fH (tj ⟨T,fB⟩ x a xZ) (c::l++[aX ⟨T,fB⟩])) w->iE T fB F Z (fH (tj ⟨T,fB⟩ x a xZ) (c::l++[aX ⟨T,fB⟩])) w->
  Dp ⟨T,fA⟩ Shun gs (fH (tj ⟨T,fA⟩ x f xZ) (b::e)) w' t q->TL Shun ρ w'.heap.size->Calm w'.tape->
  ∃(N:Nat)(aJ:Ren)(v v':ad)(w1 aP:ai)(g:Array g0)(j:Option (Nat×Nat))(t1:ho)(q1:Nat->Nat)(h:Loc->Prop),
   runNT ⟨T,fA⟩ N (crowd gs w' i) t=(.next (crowd g aP j),t1)/\Dp ⟨T,fA⟩ h g (fH (ti b v') e) aP t1 q1/\TL h aJ aP.heap.size/\
   VR F aJ v v'/\aJ.bw T.globals.size/\WR T.globals.size F (codeOk T F Z) aJ w1 aP/\sA ρ aJ w w' w1 aP/\Kept ρ w' aP/\
   (∃m k d,cy ⟨T,fB⟩ (m+1) (fH (tj ⟨T,fB⟩ x a xZ) (c::l++[aX ⟨T,fB⟩])) (w.re k d) (fH (ti c v) (l++[aX ⟨T,fB⟩])) w1)/\iE T fB F Z (fH (ti c v) (l++[aX ⟨T,fB⟩])) w1/\w.heap.size<=w1.heap.size
def results_tmp(h:L.results=#[.tmp J])(tmps:Array ad):g8 L tmps=pure (tmps.getD J undef):=by
 unfold g8;simp_all
def sA.trans{c:Ren}{w2 d:ai}(h:sA ρ aJ w w' w1 aP)(k:sA aJ c w1 aP w2 d)(j:w.heap.size<=w1.heap.size)(l:w'.heap.size<=aP.heap.size):sA ρ c w w' w2 d:=
 ⟨Ren.le_trans h.1 k.1,λa b x=>by
   rcases k.2.1 a b x with y|⟨y,z⟩
   .exact h.2.1 a b y
   grind,λa b x i f=>by
   obtain⟨y,e⟩:=k.2.2 a b (h.1 x) i f;obtain⟨z,g⟩:=h.2.2 a b x i y
   exact⟨z,e.t g⟩⟩
def kK(T:bd)(fB fA:Array bi)(F X:ac->Bool)(Z:ag->Bool)(R:ad->ai->Prop)(g:g0)(w:ai):Prop:=
 ∀(ρ:Ren)(c:g0)(w':ai)(gs:Array g0)(f:Option (Nat×Nat))(t:ho)(q:Nat->Nat)(Shun:Loc->Prop),
  iE T fB F Z g w->GR T fB fA F X Z (aX ⟨T,fB⟩) ρ g c->ρ.bw T.globals.size->WR T.globals.size F (codeOk T F Z) ρ w w'->Dp ⟨T,fA⟩ Shun gs c w' t q->TL Shun ρ w'.heap.size->Calm w'.tape->
  ∃(N:Nat)(aJ:Ren)(v v':ad)(a aP:ai)(e:Array g0)(b:g0)(h:Option (Nat×Nat))(t1:ho)(q1:Nat->Nat)(i:Loc->Prop),
   runNT ⟨T,fA⟩ N (crowd gs w' f) t=(.next (crowd e aP h),t1)/\Dp ⟨T,fA⟩ i e b aP t1 q1/\b.status=x7/\(∀d,stepG ⟨T,fA⟩ hw b (aP.at d)=tu (.done v') (aP.at d))/\
   VR F aJ v v'/\R v a/\WR T.globals.size F (codeOk T F Z) aJ a aP/\aJ.bw T.globals.size/\sA ρ aJ w w' a aP/\Kept ρ w' aP
def BF(V:Fits T fB fA F X Z)(W:Fits T fB fB F (λ_:ac=>hG) Z){f:ac}(B:T.inits.idxOf? f=hN)(j:fB[f]?=hO L)(k:fA[f]?=hO L)(x:L.results=#[.tmp J])
  {w:ai} (h:lQ (lL T fB) f R q w):kK T fB fA F X Z R q w:=by
 intro ρ m w' gs C t fn Shun hi hg D E H Y lS;obtain⟨e1,I,tr,K,n,v,e5,g,M⟩:=h;have i:fB[f]?=hO n:=e5;rw[j]at i;cases i;obtain⟨N,⟨l,hl,hcs,hb,o⟩,st,c,dy,y,of,z⟩:=hg;obtain rfl:l=[]:=by
  simp_all
 have e:=o rfl;have O:v=q.frame.tmps.getD J undef:=by
  have:=g w.tape w.drawn;rw[results_tmp x]at this;cases this;rfl
 refine⟨0,ρ,v,m.frame.tmps.getD J undef,w,w',gs,m,C,t,fn,Shun,rfl,H,c,λd=>?_,?_,M,E,D,⟨Ren.le_refl _,λa b h=>vc h,λ_ _ _ _ h=>⟨h,rfl⟩⟩,⟨rfl,.refl _,rfl,dk _,λ_ _ _=>rfl⟩⟩
 .obtain⟨p,cs',s',d',o'⟩:=m;simp only at hcs c y z e;subst c y z;cases hcs;have r:=e.mode;have s:=e.defers;have u:=e.fn;have A:=e.bX;rw[I]at r;rw[tr]at s;rw[K]at u;obtain⟨P,Q,S,cv,dQ,bX,U⟩:=p;simp only at r s u A;subst u A;cases r;cases s;show hh (lL T fA) hw ⟨P,Q,S,[],xF,xZ,U⟩ [] hN (w'.at d)=_;unfold hh;simp only[k,results_tmp x];show tq _ (g9 (lL T fA) hw _ [] hN _ _)=_;unfold g9;simp only[B];rfl
 .rw[O];exact VA.getD e.tmps J .undef
def vf{End:g0->ai->Prop}(hE:∀fr w,¬End (fH fr []) w){w:ai}{G1:hk->Nat->g0}{W1:hk->Nat->ai}(hi:iE T fB F Z q w)(hs:lP (aX (lL T fB)) q)
 (h:∀c d,∃es,stepG (lL T fB) hw q (w.re c d)=tt (G1 c d) (W1 c d) es) (k:∀c d,Term (lL T fB) End (G1 c d) (W1 c d)):False:=by
 obtain⟨es,e⟩:=h w.tape w.drawn;have f:stepG (lL T fB) hw q w=tt (G1 w.tape w.drawn) (W1 w.tape w.drawn) es:=e;have i:=k w.tape w.drawn
 rcases pO hi hs with⟨g,w1,l,e1,m⟩|⟨o,w1,l,e1⟩
 .rw[e1]at f
  injection f with a b _
  rw[<-a,<-b]at i
  cases i with
  |done hd=>exact hE _ _ hd
  |step r s n k2=>
   obtain⟨t,j⟩:=n w.tape w.drawn;obtain⟨o,w3,u,p⟩:=m (w1.re w.tape w.drawn);rw[p]at j;cases j
 .rw[e1]at f;cases f
def TN{f f':f0}(h:Gm T fB fA F X Z ρ f f'):aQ T F Z fB fA ρ f f'\/∃x a a',X x=hw/\F x=hw/\VA F ρ a a'/\f=tj (lL T fB) x a xZ/\f'=tj (lL T fA) x a' xZ:=by
 cases h with
 |alike h=>exact vc h
 |enters x b hf h=>grind
def BH(OM:Fits T fB fA F X Z)(LR:Fits T fB fB F (λ_:ac=>hG) Z){f:ac}{R:ad->ai->Prop}(ph:BD T fB fA F X Z (lQ (lL T fB) f R)){g:g0}{w:ai}{G1:hk->Nat->g0}{W1:hk->Nat->ai}
 (h:∀i d,∃es,stepG (lL T fB) hw g (w.re i d)=tt (G1 i d) (W1 i d) es) (k:∀i d,Term (lL T fB) (lQ (lL T fB) f R) (G1 i d) (W1 i d))
 (ih:∀i d,kK T fB fA F X Z R (G1 i d) (W1 i d)) (S:∀n E w2 i d,cy (lL T fB) (n+1) g (w.re i d) E w2->kK T fB fA F X Z R E w2):kK T fB fA F X Z R g w:=by
 intro ρ p w' gs U t q Shun hi hg L M s V W;have step:∀(ρ:Ren)(p:g0)(w':ai),GR T fB fA F X Z (aX (lL T fB)) ρ g p->aQ T F Z fB fA ρ g.frame p.frame->ρ.bw T.globals.size->WR T.globals.size F (codeOk T F Z) ρ w w'->¬lP (aX (lL T fB)) g->∀d,
  ∃aJ o aP es r d2,stepG (lL T fA) hw p (w'.at d)=tt o aP es/\cE T.globals.size F (codeOk T F Z) ρ (w.re w'.tape d) (w'.re w'.tape d) aJ ((W1 w'.tape d).re r d2) aP es/\GR T fB fA F X Z (aX (lL T fB)) aJ (G1 w'.tape d) o:=by
  intro ρ p w' hg H L M hs d;have:=sr OM (Jc L M w'.tape d) hg H (Bz hs);obtain⟨es,e⟩:=h w'.tape d;rw[e]at this;obtain⟨aJ,vY,aP,aT,r,d2,e1,s,A⟩:=this;exact⟨aJ,vY,aP,aT,r,d2,e1,s,A⟩
 have hs:¬lP (aX (lL T fB)) g:=λhs=>vf (λfr w hd=>by have:=hd.1;cases this) hi hs h k;have alike:aQ T F Z fB fA ρ g.frame p.frame->∃(N:Nat)(aJ:Ren)(v v':ad)(B aP:ai)(O:Array g0)(Y:g0)(rQ:Option (Nat×Nat))(t1:ho)(q1:Nat->Nat)(qF:Loc->Prop),
  runNT (lL T fA) N (crowd gs w' U) t=(.next (crowd O aP rQ),t1)/\Dp (lL T fA) qF O Y aP t1 q1/\Y.status=x7/\(∀d,stepG (lL T fA) hw Y (aP.at d)=tu (.done v') (aP.at d))/\
  VR F aJ v v'/\R v B/\WR T.globals.size F (codeOk T F Z) aJ B aP/\aJ.bw T.globals.size/\sA ρ aJ w w' B aP/\Kept ρ w' aP:=by
  intro H;obtain⟨N,d,jk,o,aP,es,ov,t',q',hr,fW,TK,hgo,⟨aJ,r,d2,j,A⟩,hL',hP',hN'⟩:=Gx (P:=lL T fA) (Shun:=Shun)
   (λd o aP es=>∃aJ r d2,cE T.globals.size F (codeOk T F Z) ρ (w.re w'.tape d) (w'.re w'.tape d) aJ ((W1 w'.tape d).re r d2) aP es/\GR T fB fA F X Z (aX (lL T fB)) aJ (G1 w'.tape d) o)
   (Go.ConcN.sumTo gs.size q) gs p w' U t q w'.heap.size (dk _) s.main hg.st' s.old s.GA s.num (λd=>by
    obtain⟨aJ,o,aP,es,r,d2,e1,I,e3⟩:=step ρ p w' hg H L M hs d
    exact⟨o,aP,es,e1,⟨aJ,r,d2,I,e3⟩,I.fV,λe he=>Ls.evL I.wr (TL.step (w':=w'.re w'.tape d) V I) (I.ev e he)⟩)
  have Wr:Kept ρ w' aP:=Kept.TM j;obtain⟨es0,e0⟩:=h w'.tape d;have Gu:iE T fB F Z (G1 w'.tape d) (W1 w'.tape d):=(hi.re w'.tape d).step LR hs e0;obtain⟨N2,dU,v,v',B,jz,C,E,D,t2,q2,OP,r1,r2,r3,r4,r5,r6,r7,r8,r9,TP⟩:=ih w'.tape d aJ o aP jk ov t' q' Shun Gu A j.inj ⟨j.wr.pK,j.wr.gN,j.wr.obj⟩ ⟨TK,hL',hP',hN'⟩ (TL.step (w':=w'.re w'.tape d) V j) (by rw[Wr.tape];exact W);have acD:sA ρ aJ w w' (W1 w'.tape d) aP:=⟨j.le,j.only,j.hol⟩
  refine⟨N+N2,dU,v,v',B,jz,C,E,D,t2,q2,OP,u4 hr r1,r2,r3,r4,r5,r6,r7,r8,acD.trans r9 j.size j.fV,Wr.trans (λa b x=>?_) TP⟩
  rcases j.only a b x with y|⟨_,y⟩
  .exact vc y
  .exact vd y
 have OQ:=hg;obtain⟨acA,⟨l,hl,hcs,hb,hal⟩,st,J,dy,Bl,of,Bm⟩:=hg
 cases l with
 |nil=>exact alike (hal rfl)
 |cons c l=>
  rcases TN acA with H|⟨x,a,o,hx,hf,ha,lR,K⟩
  .exact alike H
  .have eg:g=fH (tj (lL T fB) x a xZ) (c::l++[aX (lL T fB)]):=by rw[hi.fH,lR,hl]
   obtain⟨fr',cs',s',d',o'⟩:=p;simp only at hcs J Bl Bm K;subst J Bl Bm K
   cases hcs with
   |@cons _ c' _ l' hc sB=>
    rw[eg]at hi;have ht:Term (lL T fB) (lQ (lL T fB) f R) (fH (tj (lL T fB) x a xZ) (c::l++[aX (lL T fB)])) w:=by
     rw[<-eg];exact .step G1 W1 h k
    obtain⟨N,aJ,v,v',w1,aP,O,rQ,t1,q1,qF,p1,p2,p3,p4,p5,p6,Q,p8,⟨m,i,d,p9⟩,Cz,Fy⟩:=ph x hx ρ a o c c' l l' w w' gs U t q Shun L M ha hc sB ht hi s V W;rw[<-eg]at p9;have OS:=S m _ _ i d p9;have eP:dn (ti c v::l):=by
     have:dn (c::l):=hb.pop;exact this.top (bZ _ _)
    have LS:=(hc.mono Q.1).finish p4;obtain⟨N2,dU,u,u',B,jz,C,E,D,t2,q2,OP,r1,r2,r3,r4,r5,r6,r7,r8,r9,TP⟩:=OS aJ (fH (ti c' v') l') aP O rQ t1 q1 qF Cz
     ⟨.alike LS,⟨l,rfl,sB.mono Q.1,eP,λ_=>LS⟩,rfl,rfl,rfl,rfl,rfl,rfl⟩ p5 p6 p2 p3 (by rw[p8.tape];exact W)
    refine⟨N+N2,dU,u,u',B,jz,C,E,D,t2,q2,OP,u4 p1 r1,r2,r3,r4,r5,r6,r7,r8,Q.trans r9 Fy p8.size,p8.trans (λa b y=>?_) TP⟩
    rcases Q.2.1 a b y with z|⟨_,z⟩
    .exact vc z
    .exact vd z
def LU{b:g0}{w w2:ai}(hi:iE T fB F Z q w)(hs:lP (aX (lL T fB)) q)(a:cy (lL T fB) (C+1) q w b w2):kK T fB fA F X Z R b w2:=by
 obtain⟨m,w3,p,c⟩:=a.next (.zero q w) (h7 C)
 rcases pO hi hs with⟨h,w1,es,e,i⟩|⟨o,w1,es,e⟩
 .have d:cy (lL T fB) 1 q w (fH h []) w1:=.succ (.zero _ _) e
  cases C with
  |zero=>
   obtain⟨rfl,rfl⟩:=a.det d;intro ρ r w' gs s t n Shun _ hg;obtain⟨_,⟨l,hl,_⟩,_⟩:=hg;cases l<;>cases hl
  |succ C=>
   obtain⟨u,w4,j,f⟩:=a.next d ab;obtain⟨o,w5,k,e5⟩:=i w1;rw[e5]at f;cases f
 .rw[e]at c;cases c
def Yp(x:Fits T fB fA F X Z)(p:Fits T fB fB F (λ_:ac=>hG) Z){f:ac}{R:ad->ai->Prop}(A:∀v w i d,R v w->R v (World.re w i d))(B:T.inits.idxOf? f=hN){fn:bi}{tr:Tmp}(q:fB[f]?=hO fn)(r:fA[f]?=hO fn)(C:fn.results=#[.tmp tr])
 (D:BD T fB fA F X Z (lQ (lL T fB) f R)) {g:g0} {w:ai} (E:Term (lL T fB) (lQ (lL T fB) f R) g w) :
 iE T fB F Z g w->∀n j w2 i d,cy (lL T fB) n g (w.re i d) j w2->kK T fB fA F X Z R j w2:=by
 induction E with
 |@done g w h=>
  intro hi n j w2 i d l;have H:lQ (lL T fB) f R g (w.re i d):=by
   obtain⟨a,b,c,e,fn,v,s,I,J⟩:=h;exact⟨a,b,c,e,fn,v,s,λm t=>I m t,A v w i d J⟩
  cases n with
  |zero=>cases l;exact BF x p B q r C H
  |succ n=>
   have hs:lP (aX (lL T fB)) g:=⟨by rw[h.2.1];simp,h.2.2.1,h.1⟩
   exact LU (hi.re i d) hs l
 |@step g w u o h k y=>
  intro hi n j w2 i d l;have hs:¬lP (aX (lL T fB)) g:=λhs=>vf (λfr w hd=>by have:=hd.1;cases this) hi hs h k;have z:∀i d,iE T fB F Z (u i d) (o i d):=λi d=>by
   obtain⟨es,e⟩:=h i d;exact(hi.re i d).step p hs e
  have later:∀n j w2 i d,cy (lL T fB) (n+1) g (w.re i d) j w2->kK T fB fA F X Z R j w2:=by
   intro n j w2 i d l;obtain⟨es,e⟩:=h i d;have s:cy (lL T fB) 1 g (w.re i d) (u i d) (o i d):=.succ (.zero _ _) e;rw[Nat.add_comm]at l;exact y i d (z i d) n j w2 (o i d).tape (o i d).drawn (l.suffix s)
  cases n with
  |zero=>
   cases l;refine BH x p D (G1:=u) (W1:=o) (λi d=>h i d) k (λi d=>?_) (λn j w2 m t hc=>later n j w2 m t hc);exact y i d (z i d) 0 _ _ (o i d).tape (o i d).drawn (.zero _ _)
  |succ n=>exact later n j w2 i d l
end
end Go.bJ
namespace Go.bJ
def Sb(W:ai)(b:Nat):Prop:=∃c t a,W.heap[b]?=hO (v4 c t a)
def ox(W:ai):Ren:=λa b=>a=b/\Sb W a
structure Rep(F:ac->Bool)(W:ai)(v v':ad):Prop where
 vr:VR F (ox W) v v'
 int:∀k n,v'=vw k n->v=v'
 str:∀s,v'=vx s->v=v'
 sl:∀b l c,v'=vL b l c->(b=hN\/(∃a,b=hO a/\Sb W a.block)\/(l=0/\c=0))->∃b',v=vL b' l c/\(0<c->b'=b)
 fn:∀(aJ:Ren)(u:ad),(∀b,¬aJ W.heap.size b)->(∀{a b b':Nat},aJ a b->aJ a b'->b=b')->(ox W).le aJ->VR F aJ v u->u=v'\/v=v3 #[]\/∃c,v=vy c
section
variable {F:ac->Bool}{W:ai}
def gU{v':ad}(h:XU v'=hw)(hs:∀b l c,v'=vL b l c->¬(b=hN\/(∃a,b=hO a/\Sb W a.block)\/(l=0/\c=0))):Rep F W (v3 #[]) v':=
 ⟨.hole v' h,(λk n e=>by subst e;cases h),(λs e=>by subst e;cases h),(λb l c e k=>absurd k (hs b l c e)),λ_ _ _ _ _ _=>vd (vc rfl)⟩
def OT(n:Nat)(c:∀v':ad,u5 v'<=n->∃v,Rep F W v v'):∀l:List ad,(∀x∈l,u5 x<=n)->∃a:List ad,cU F (ox W) a l:=by
 intro l
 induction l with
 |nil=>exact λ_=>⟨[],.nil⟩
 |cons x l b=>
  intro h;obtain⟨v,hv⟩:=c x (h x ar);obtain⟨a,hl⟩:=b λy hy=>h y (by simp[hy]);exact⟨v::a,.cons hv.vr hl⟩
def TQ:∀(n:Nat)(v':ad),u5 v'<=n->∃v,Rep F W v v':=by
 intro n
 induction n with
 |zero=>intro v' h;cases v'<;>simp at h
 |succ n z=>
  intro v' E
  cases v' with
  |bool b=>exact⟨vu b,.bool b,λ_ _ _=>rfl,λ_ _=>rfl,(λ_ _ _ e=>by cases e),λ_ _ _ _ _ h=>by cases h;exact vc rfl⟩
  |int k m=>exact⟨vw k m,.int k m,λ_ _ _=>rfl,λ_ _=>rfl,(λ_ _ _ e=>by cases e),λ_ _ _ _ _ h=>by cases h;exact vc rfl⟩
  |string s=>exact⟨vx s,.string s,λ_ _ _=>rfl,λ_ _=>rfl,(λ_ _ _ e=>by cases e),λ_ _ _ _ _ h=>by cases h;exact vc rfl⟩
  |float k b=>exact⟨_,gU rfl λ_ _ _ e=>by cases e⟩
  |complex k a b=>exact⟨_,gU rfl λ_ _ _ e=>by cases e⟩
  |pointer p=>cases p with
   |none=>exact⟨vz hN,.dS,λ_ _ _=>rfl,λ_ _=>rfl,(λ_ _ _ e=>by cases e),λ_ _ _ _ _ h=>by cases h;exact vc rfl⟩
   |some p=>exact⟨_,gU rfl λ_ _ _ e=>by cases e⟩
  |slice b l c=>
   cases b with
   |none=>exact⟨vL hN l c,.di l c,λ_ _ _=>rfl,λ_ _=>rfl,(λ_ _ _ e _=>aS),λ_ _ _ _ _ h=>by cases h;exact vc rfl⟩
   |some a=>
    by_cases A:l=0/\c=0
    .obtain⟨rfl,rfl⟩:=A;refine⟨vL (hO ⟨W.heap.size,N1 a,hN⟩) 0 0,.dK _ a,(λ_ _ e=>by cases e),(λ_ e=>by cases e),(λ_ _ _ e _=>aS),λj u o _ _ h=>?_⟩;left;generalize d:(⟨W.heap.size,N1 a,hN⟩:aa)=x at h
     cases h with
     |slice _ _ g=>subst d;exact absurd g.1 (o _)
     |dK D y=>
      grind[Addr.mk.injEq,N3]
    .by_cases q:Sb W a.block
     .refine⟨vL (hO a) l c,.slice l c ⟨⟨rfl,q⟩,rfl,rfl⟩,(λ_ _ e=>by cases e),(λ_ e=>by cases e),(λ_ _ _ e _=>aS),λj u o hf i h=>?_⟩;left
      cases h with
      |@slice _ B _ _ g=>
       obtain⟨w,H,I⟩:=g;have e:=hf w (i ⟨rfl,q⟩);obtain⟨J,L,M⟩:=a;obtain⟨N,O,P⟩:=B;grind
      |dK D y=>grind
     .refine⟨_,gU rfl λ_ _ _ e=>?_⟩;grind
  |map r=>exact⟨_,gU rfl λ_ _ _ e=>by cases e⟩
  |chan r=>exact⟨_,gU rfl λ_ _ _ e=>by cases e⟩
  |func fn f c=>
   cases fn with
   |method m=>
    refine⟨_,.wG m f c,(λ_ _ e=>by cases e),(λ_ e=>by cases e),(λ_ _ _ e=>by cases e),λj u _ _ _ h=>?_⟩;left
    cases h with
    |func h=>cases h
    |wG=>rfl
   |_=>exact⟨_,gU rfl λ_ _ _ e=>by cases e⟩
  |nilFunc=>exact⟨vI,.nilFunc,λ_ _ _=>rfl,λ_ _=>rfl,(λ_ _ _ e=>by cases e),λ_ _ _ _ _ h=>by cases h;exact vc rfl⟩
  |iface t v=>exact⟨_,gU rfl λ_ _ _ e=>by cases e⟩
  |nilIface=>exact⟨vG,.nilIface,λ_ _ _=>rfl,λ_ _=>rfl,(λ_ _ _ e=>by cases e),λ_ _ _ _ _ h=>by cases h;exact vc rfl⟩
  |agg cs=>
   obtain⟨C,hl⟩:=OT n z cs.toList λx d=>by
    have w:u5 x<u5 cs:=Array.sizeOf_lt_of_mem (iN.1 d);grind
   exact⟨vy ⟨C⟩,.agg hl,(λ_ _ e=>by cases e),(λ_ e=>by cases e),(λ_ _ _ e=>by cases e),λ_ _ _ _ _ _=>vd (vd ⟨_,rfl⟩)⟩
  |tuple vs=>exact⟨_,gU rfl λ_ _ _ e=>by cases e⟩
def OU(v':ad):∃v,Rep F W v v':=TQ _ v' (dk _)
end
def rep(F:ac->Bool)(W:ai)(v:ad):ad:=Classical.choose (OU (F:=F) (W:=W) v)
def oy(F:ac->Bool)(W:ai)(v:ad):Rep F W (rep F W v) v:=Classical.choose_spec (OU (F:=F) (W:=W) v)
def acF(F:ac->Bool)(W:ai):Obj->Obj
 |v4 c t a=>v4 (c.map (rep F W)) t a
 |o=>o
def cV(F:ac->Bool)(W:ai):ai:={ W with heap:=(W.heap.map (acF F W)).push (wc hN) }
section
variable {F:ac->Bool}{K:a8->Bool}{W:ai}{G:Nat}
def mT:(cV F W).heap.size=W.heap.size+1:=by simp[cV]
def oz{b:Nat}{c:Array ad}{t:ag}{a:Nat×Nat}(h:W.heap[b]?=hO (v4 c t a)):(cV F W).heap[b]?=hO (v4 (c.map (rep F W)) t a):=by
 have hl:=bE h;show((W.heap.map (acF F W)).push (wc hN))[b]?=_;rw[Array.getElem?_push_lt (by simpa using hl),<-j2 (by simpa using hl),j4,h];rfl
def xA{b i:Nat}{v:ad}(h:kd W ⟨b,i,hN⟩=hO v):kd (cV F W) ⟨b,i,hN⟩=hO (rep F W v)/\Sb W b:=by
 unfold kd at h
 cases hb:W.heap[b]? with
 |none=>simp only[hb]at h;cases h
 |some o=>
  cases o with
  |cells c t a=>
   simp only[hb]at h;have h:c[i]?=hO v:=h;refine⟨?_,c,t,a,hb⟩;unfold kd;simp only[oz hb];grind
  |_=>simp only[hb]at h;cases h
def Je(l:List ad):cU F (ox W) (l.map (rep F W)) l:=by
 induction l with
 |nil=>exact .nil
 |cons v l a=>exact .cons (oy F W v).vr a
def Yq(c:Array ad):VA F (ox W) (c.map (rep F W)) c:=by
 show cU _ _ _ _;rw[jM];exact Je _
def Yr:(ox W).bw G:=⟨λh k=>h.1.y.t k.1,λh k=>h.1.t k.1.y,λh=>by rw[h.1]⟩
def wr0(b:G<=W.heap.size){w:ai}(a:w.heap=(cV F W).heap):WR G F K (ox W) w W:=by
 refine⟨by rw[a,mT];omega,b,λ{r e}h=>?_⟩;obtain⟨rfl,c,t,d,h⟩:=h;exact⟨_,_,by rw[a];exact oz h,h,.cells t d (Yq c)⟩
def LV{d:Ren}{g w0 j:ai}(q:w0.heap=(cV F W).heap)(r:∀b,b<W.heap.size->g.heap[b]?=(cV F W).heap[b]?)(s:WR G F K d g j)(w:d.bw G)(hg:sA (ox W) d w0 W g j)(z:Kept (ox W) W j) :
 ∀b,b<W.heap.size->j.heap[b]?=W.heap[b]?:=by
 intro b hb;by_cases l:Sb W b
 .obtain⟨c,t,m,h⟩:=l;have A:d b b:=hg.1 ⟨rfl,c,t,m,h⟩;obtain⟨o,J,n,B,C⟩:=s.obj A;have D:=oz (F:=F) h;rw[r b hb,D]at n;cases n;have E:∀b,¬d W.heap.size b:=λb x=>by
   rcases hg.2.1 _ _ x with⟨_,_,_,_,y⟩|⟨y,_⟩
   .grind
   .rw[q,mT]at y;omega
  cases C with
  |@cells _ L _ _ hc=>
   rw[B,h];congr 2;apply eV;intro i
   rcases VA.get? hc i with⟨f,p⟩|⟨v,u,f,p,hv⟩
   .grind
   .rw[j4,ik]at f;obtain⟨v',f,rfl⟩:=f
    rcases(oy F W v').fn d u E (λa b=>w.fn a b) hg.1 hv with e|e
    .rw[f,p,e]
    .have H:nX g b i:=by
      refine⟨rep F W v',?_,e⟩;unfold kd;grind
     obtain⟨_,k⟩:=hg.2.2 b b ⟨rfl,c,t,m,h⟩ i H;unfold kd at k;grind
 .exact z.block b hb λa I=>l (by obtain⟨rfl,h⟩:=I;exact h)
end
def BI(T:bd)(F:ac->Bool)(t:ag):Bool:=match T.types[t]? with
 |some i=>(match i.zero with|some v=>pM F 12 v|none=>hw)
 |none=>hw
def Zof(n:Nat):ag->Bool:=λt=>decide (t<n)
def Jf{T:bd}{F:ac->Bool}{n:Nat}(c:n<=T.types.size)(h:(i3 n).all (BI T F)=hw)(a:((T.info? 0).all λi=>(i.methods.find? (·.name == "")).isNone)=hw):dM T F (Zof n):=by
 refine⟨?_,λi hi=>by rw[hi]at a;simpa using a⟩;intro t i v d hi hv;have hl:t<n:=by simpa[Zof]using d
 have b:=df.1 h t (dv.2 hl);unfold Tables.info? at hi;rw[if_pos (bT hl c)]at hi;simp only[BI,hi,hv]at b;exact uY 12 b
def mI(T:bd)(F:ac->Bool)(Z:ag->Bool)(fn:bi):Bool:=
 fn.name != "runtime.NumGoroutine" && match fn.body with|some c=>codeOk T F Z c|none=>hG
def Jg(T:bd)(fs:Array bi)(F X:ac->Bool)(Z:ag->Bool)(n:Nat):Bool:=
 (i3 n).all λf=>!F f||X f||match fs[f]? with|some fn=>mI T F Z fn|none=>hG
def BJ{T:bd}{fB fA:Array bi}{F X:ac->Bool}{Z:ag->Bool}{n:Nat}(i:dM T F Z)(j:∀f,F f=hw->f<n)(same:∀f,X f=hG->fB[f]?=fA[f]?)
 (k:∀f,X f=hw->(∃b,fB[f]?=hO b/\b.body.isSome=hw/\b.name≠ "runtime.NumGoroutine")/\∃a,fA[f]?=hO a/\a.body.isSome=hw/\a.name≠ "runtime.NumGoroutine")
 (h:Jg T fA F X Z n=hw) (p:fB.size<=cn):Fits T fB fA F X Z:=by
 have key:∀f,F f=hw->X f=hG->∃fn c,fA[f]?=hO fn/\fn.body=hO c/\codeOk T F Z c=hw/\fn.name≠ "runtime.NumGoroutine":=by
  intro f hf d;have:=df.1 h f (dv.2 (j f hf));simp only[hf,d,nd,Bool.false_or]at this
  cases e:fA[f]? with
  |none=>rw[e]at this;cases this
  |some fn=>
   rw[e]at this;simp only[mI,dd,bne_iff_ne,ne_eq]at this;grind
 refine⟨i,⟨λl=>j5 ab,λf hf=>?_⟩,λf hf d=>?_⟩
 .cases d:X f with
  |true=>exact k f d
  |false=>
   grind
 .obtain⟨fn,c,g,m,o,_⟩:=key f hf d;exact⟨fn,c,(same f d).t g,g,m,o⟩
end Go.bJ
namespace Go.Proofs
open Go.bJ
private def dat(l:List Nat):Array Edge:=(l.map λi=>{ on:=i,ground:=Ground.data }).toArray
private def opr(dst:Option Nat)(op:Op)(after:List Nat:=[])(type:ag:=0):f6:={ dst,op,type,pos:= "b",after:=dat after,guard:=hN }
def FF:ac->Bool:=λf=>decide (f<163) && !([2,86,87,88,89,90,91,108,109,111,112,115,116,119,132,134,0,1,102,103,104,105,106,107,110,113,114,117,118,120,121,127,128,129,130,131,133,135,138,139,140,141,142,143,144,147,148,149,150,151,152,153,154,155,156,157,158,159,160,161,162].contains f)
def XX:ac->Bool:=λf=>f==61
def NN:ac->Bool:=λ_=>hG
def ZZ:ag->Bool:=Zof Tryz.progTables.types.size
def zeros:(i3 Tryz.progTables.types.size).all (BI u6 FF)=hw:=ae
def Jh:dM u6 FF ZZ:=Jf (dk _) zeros ae
def acG:Jg u6 u7 FF XX ZZ 163=hw:=ae
end Go.Proofs
namespace Go.bJ
open Go.Conc Go.ConcM
open Go.ConcN (sumTo upd sumTo_upd upd_ne upd_same)
section
variable {P:bq}{Shun:Loc->Prop}
def Dq(Q:Nat->g0->ai->Array bm->Prop)(c:Nat) :
 ∀(M:Nat)(gs:Array g0)(a:g0)(w:ai)(sl:Option (Nat×Nat))(t:ho)(q:Nat->Nat)(B:Nat),sumTo gs.size q<=M->gs[0]?=hO a->a.status=x7->t0 P t gs q->t6 Shun B t->(∀op∈t,gs.size<=op.g->op.act.touch? = hN)->B<=c->
  (∀d,∃a' w' es,stepG P hw a (w.at d)=tt a' w' es/\Q d a' w' es/\∀e∈es,EvL Shun c e)->
  ∃(N d:Nat)(b:Array g0)(a':g0)(w':ai)(es:Array bm)(h:Option (Nat×Nat))(f:ho)(i:Nat->Nat),
   runNT P N (crowd gs w sl) t=(.next (crowd b w' h),f)/\b.size=gs.size/\b[0]?=hO a'/\stepG P hw a (w.at d)=tt a' w' es/\Q d a' w' es/\t0 P f b i/\t6 Shun c f/\(∀op∈f,b.size<=op.g->op.act.touch? = hN):=
 λM gs a w sl t q B j k l m n o p r=>abX (λ_=>c) Q M gs a w sl t q B j k l m n o λd=>(r d).i λ_⟨w',es,s,u,v⟩=>⟨w',es,s,u,p,v⟩
inductive jF(P:bq)(Shun:Loc->Prop)(Q:Nat->g0->ai->Prop):Nat->g0->ai->Prop
 |done {B:Nat} {g:g0} {w:ai}:Q B g w->jF P Shun Q B g w
 |step {B:Nat} {g:g0} {w:ai} (B':Nat) (G1:Nat->g0) (W1:Nat->ai):g.status=x7->B<=B'->(∀d,∃es,stepG P hw g (w.at d)=tt (G1 d) (W1 d) es/\∀e∈es,EvL Shun B' e)->(∀d,jF P Shun Q B' (G1 d) (W1 d))->jF P Shun Q B g w
def jF.one{Q:Nat->g0->ai->Prop}{B:Nat}{g:g0}{w:ai}(a:Nat)(b:g.status=x7)(c:B<=a)(h:∀d,∃g' w' es,stepG P hw g (w.at d)=tt g' w' es/\(∀e∈es,EvL Shun a e)/\jF P Shun Q a g' w'):jF P Shun Q B g w:=
 .step a (λd=>(h d).choose) (λd=>(h d).p.choose) b c (λd=>⟨_,(h d).p.p.p.1,(h d).p.p.p.2.1⟩) (λd=>(h d).p.p.p.2.2)
def jF.run{Q:Nat->g0->ai->Prop}{B:Nat}{g:g0}{w:ai}(h:jF P Shun Q B g w):∀(gs:Array g0)(sl:Option (Nat×Nat))(t:ho)(q:Nat->Nat),gs[0]?=hO g->t0 P t gs q->t6 Shun B t->(∀op∈t,gs.size<=op.g->op.act.touch? = hN)->
 ∃(N i:Nat)(f:Array g0)(j:g0)(w1:ai)(k:Option (Nat×Nat))(t1:ho)(q1:Nat->Nat),runNT P N (crowd gs w sl) t=(.next (crowd f w1 k),t1)/\f.size=gs.size/\f[0]?=hO j/\t0 P t1 f q1/\t6 Shun i t1/\(∀op∈t1,f.size<=op.g->op.act.touch? = hN)/\Q i j w1:=by
 induction h with
 |@done B g w s=>exact λgs sl t q l m n o=>⟨0,B,gs,g,w,sl,t,q,rfl,rfl,l,m,n,o,s⟩
 |@step B g w p V W u v hs _ x=>
  intro gs sl t q l m n o
  obtain⟨N,d,y,r,w',es,z,A,C,D,E,F,X,H,I,J,K⟩:=Dq (P:=P) (Shun:=Shun) (λd r w' es=>∀(gs:Array g0)(sl:Option (Nat×Nat))(t:ho)(q:Nat->Nat),gs[0]?=hO r->t0 P t gs q->t6 Shun p t->(∀op∈t,gs.size<=op.g->op.act.touch? = hN)->
   ∃(N i:Nat)(f:Array g0)(j:g0)(w1:ai)(k:Option (Nat×Nat))(t1:ho)(q1:Nat->Nat),runNT P N (crowd gs w' sl) t=(.next (crowd f w1 k),t1)/\f.size=gs.size/\f[0]?=hO j/\t0 P t1 f q1/\t6 Shun i t1/\(∀op∈t1,f.size<=op.g->op.act.touch? = hN)/\Q i j w1) p (sumTo gs.size q) gs g w sl t q B (dk _) l u m n o v (λd=>by
   obtain⟨es,L,M⟩:=hs d
   exact⟨_,_,es,L,λgs sl t q a b c e=>x d gs sl t q a b c e,M⟩)
  obtain⟨O,i,f,j,w1,k,t1,q1,k1,k2,k3,R,S,T,U⟩:=H y z A C F I J K;exact⟨N+O,i,f,j,w1,k,t1,q1,u4 D k1,k2.t E,k3,R,S,T,U⟩
end
end Go.bJ
namespace Go.bJ
variable {Y:Obj}{C:Nat}{M:ai}{q:Array bm}{R:List bm}{O:f0}{L:List f0}
variable {J:Ren}
inductive Mf:Obj->Obj->Prop
 |cells {c c':Array ad} (t:ag) (fz:Nat×Nat) (h:c.size=c'.size):Mf (v4 c t fz) (v4 c' t fz)
 |loop (l l':a9):Mf (wb l) (wb l')
 |afN (l:a9) (o':Obj) (h:∀c t fz,o'≠v4 c t fz):Mf (wb l) o'
inductive DH:Obj->Obj->Prop
 |cells (c:Array ad) (t:ag) (fz fz':Nat×Nat):DH (v4 c t fz) (v4 c t fz')
 |loop (l:a9):DH (wb l) (wb l)
 |same (o:Obj):DH o o
def DH.trans{a b c:Obj}(h:DH a b)(k:DH b c):DH a c:=by
 cases h with
 |cells=>
  cases k with
  |cells=>exact .cells _ _ _ _
  |same=>exact .cells _ _ _ _
 |loop=>exact k
 |same=>exact k
def Mf.up{o':Obj}(h:Mf Y o'):DH o' o':=by
 cases h with
 |cells t a _=>exact .cells _ _ _ _
 |loop=>exact .loop _
 |afN=>exact .same _
structure WC(Bs G:Nat)(F:ac->Bool)(K:a8->Bool)(ρ:Ren)(w w':ai):Prop where
 pK:G<=w.heap.size
 gN:G<=w'.heap.size
 base:Bs<=w.heap.size
 obj:∀{r r':Nat},ρ r r'->Bs<=r->∃o o',w.heap[r]?=hO o/\w'.heap[r']?=hO o'/\OR F K ρ o o'
 low:∀{r r':Nat},ρ r r'->r<Bs->∃o o',w.heap[r]?=hO o/\w'.heap[r']?=hO o'/\Mf o o'
section
variable {Bs G:Nat}{F:ac->Bool}{K:a8->Bool}{ρ σ:Ren}{w w':ai}
def WC.lt(h:WC Bs G F K ρ w w'){a:Nat}(x:ρ C a):C<w.heap.size/\a<w'.heap.size:=by
 rcases hY C Bs with hb|hb
 .obtain⟨o,b,c,d,_⟩:=h.low x hb;grind
 .obtain⟨o,b,c,d,_⟩:=h.obj x hb;grind
def WC.fresh(h:WC Bs G F K ρ w w'):(∀b,¬ρ w.heap.size b)/\(∀a,¬ρ a w'.heap.size):=
 ⟨λ_ x=>absurd (h.lt x).1 (dt _),λ_ x=>absurd (h.lt x).2 (dt _)⟩
def WC.push(h:WC Bs G F K ρ w w'){o o':Obj}(x:OR F K (ρ.ext w.heap.size w'.heap.size) o o') :
 WC Bs G F K (ρ.ext w.heap.size w'.heap.size) { w with heap:=w.heap.push o } { w' with heap:=w'.heap.push o' }:=by
 have c:∀{d:Type}{a:Array d}{i:Nat}{v u:d},a[i]?=hO v->(a.push u)[i]?=hO v:=λ{d a i v u}e=>by
  grind
 refine⟨by have:=h.pK;simp;omega,by have:=h.gN;simp;omega,by have:=h.base;simp;omega,λ{r k}b hb=>?_,λ{r k}b hb=>?_⟩
 .rcases b with b|⟨rfl,rfl⟩
  .obtain⟨p,l,f,g,j⟩:=h.obj b hb;exact⟨p,l,c f,c g,j.mono (Ren.kW _ _ _)⟩
  grind
 .rcases b with b|⟨rfl,rfl⟩
  .obtain⟨o,o',f,g,j⟩:=h.low b hb;grind
  .have:=h.base;omega
def WC.put(h:WC Bs G F K ρ w w')(d:ρ.bw G){r a:Nat}(b:ρ r a)(hb:Bs<=r){o o':Obj}(x:OR F K ρ o o') :
 WC Bs G F K ρ { w with heap:=i6 w.heap r o } { w' with heap:=i6 w'.heap a o' }:=by
 obtain⟨m,n⟩:=h.lt b;refine⟨by simpa using h.pK,by simpa using h.gN,by simpa using h.base,λ{s f}hs g=>?_,λ{s f}hs g=>?_⟩
 .by_cases e:r=s
  .subst e;obtain rfl:=d.fn b hs;grind
  .have i:a≠f:=λy=>e (d.inj b (y▸hs));obtain⟨p,q,j,k,l⟩:=h.obj hs g;grind
 .have e:r≠s:=ab;have i:a≠f:=λy=>e (d.inj b (y▸hs));obtain⟨c,t,j,k,l⟩:=h.low hs g;grind
def WC.YO(h:WC Bs G F K ρ w w')(d:ρ.bw G){a:Nat}(b:ρ C a)(hb:C<Bs){c c':Array ad}{t:ag}{f:Nat×Nat}(x:c.size=c'.size) :
 WC Bs G F K ρ { w with heap:=i6 w.heap C (v4 c t f) } { w' with heap:=i6 w'.heap a (v4 c' t f) }:=by
 obtain⟨j,k⟩:=h.lt b;refine⟨by simpa using h.pK,by simpa using h.gN,by simpa using h.base,λ{s g}hs i=>?_,λ{s g}hs i=>?_⟩
 .have e:C≠s:=ab;have l:a≠g:=λy=>e (d.inj b (y▸hs));obtain⟨p,m,n,o,q⟩:=h.obj hs i;grind
 .by_cases e:C=s
  .subst e;obtain rfl:=d.fn b hs;exact⟨_,_,by simp[j],by simp[k],.cells t f x⟩
  .have l:a≠g:=λy=>e (d.inj b (y▸hs));obtain⟨p,m,n,o,q⟩:=h.low hs i;grind
structure cI(Bs G:Nat)(F:ac->Bool)(K:a8->Bool)(ρ:Ren)(w w':ai)(aJ:Ren)(w1 aP:ai)(new:Array bm):Prop where
 le:ρ.le aJ
 inj:aJ.bw G
 wr:WC Bs G F K aJ w1 aP
 tape:w1.tape=aP.tape
 drawn:w1.drawn=aP.drawn
 wH:aP.tape=w'.tape
 XV:aP.os=w'.os
 mK:aP.output=w'.output
 size:w.heap.size<=w1.heap.size
 fV:w'.heap.size<=aP.heap.size
 frame:∀b,b<w'.heap.size->(∀a,¬ρ a b)->aP.heap[b]?=w'.heap[b]?
 N7:∀b,w'.heap.size<=b->b<aP.heap.size->∃a,aJ a b
 only:∀a b,aJ a b->ρ a b\/(w.heap.size<=a/\w'.heap.size<=b)
 ev:∀e∈new,Ls aJ e
 keep:∀a b,ρ a b->a<Bs->∃o o1,w'.heap[b]?=hO o/\aP.heap[b]?=hO o1/\DH o o1
def cI.refl(f:ρ.bw G)(d:WC Bs G F K ρ w w')(g:w.tape=w'.tape)(hd:w.drawn=w'.drawn):cI Bs G F K ρ w w' ρ w w' #[]:=
 ⟨Ren.le_refl _,f,d,g,hd,rfl,rfl,rfl,dk _,dk _,λ_ _ _=>rfl,λ_ i c=>absurd c (Nat.not_lt.2 i),λ_ _ h=>vc h,ar,λa b h hb=>by
   obtain⟨o,e,_,c,j⟩:=d.low h hb
   exact⟨e,e,c,c,j.up⟩⟩
def cI.trans{ρ g i:Ren}{w w' w1 c w2 j:ai}{e1 l:Array bm}(h:cI Bs G F K ρ w w' g w1 c e1)(k:cI Bs G F K g w1 c i w2 j l):cI Bs G F K ρ w w' i w2 j (e1++l):=by
 refine⟨Ren.le_trans h.le k.le,k.inj,k.wr,k.tape,k.drawn,k.wH.t h.wH,k.XV.t h.XV,k.mK.t h.mK,da h.size k.size,da h.fV k.fV,λb hb m=>?_,λb d f=>?_,λa b x=>?_,λe q=>?_,λa b n hb=>?_⟩
 .rw[k.frame b (bT hb h.fV) (λa x=>?_),h.frame b hb m]
  rcases h.only a b x with y|⟨_,y⟩
  .exact m a y
  .omega
 .rcases hY b c.heap.size with hl|hg
  .exact(h.N7 b d hl).i λ_ x=>k.le x
  .exact k.N7 b hg f
 .rcases k.only a b x with y|⟨y1,y2⟩
  .exact h.only a b y
  .exact vd ⟨da h.size y1,da h.fV y2⟩
 .rcases Array.mem_append.1 q with x|x
  .exact(h.ev e x).mono k.le
  .exact k.ev e x
 .obtain⟨o,v,d,f,r⟩:=h.keep a b n hb;obtain⟨z,s,p,t,u⟩:=k.keep a b (h.le n) hb;rw[f]at p;cases p;exact⟨o,s,d,t,r.trans u⟩
def cI.less{b:ai}{c:Array bm}(h:cI Bs G F K ρ w w' J M b q)(k:∀e∈c,e∈q):cI Bs G F K ρ w w' J M b c:=
 { h with ev:=λe d=>h.ev e (k e d) }
def BO(b:ρ.bw G)(c:WC Bs G F K ρ w w')(d:w.tape=w'.tape)(hd:w.drawn=w'.drawn){e:bm}(f:Ls ρ e):cI Bs G F K ρ w w' ρ w w' #[e]:=
 { cI.refl b c d hd with ev:=λx a=>by simp at a;rw[a];exact f }
def uv(c:ρ.bw G)(g:WC Bs G F K ρ w w')(j:w.tape=w'.tape)(hd:w.drawn=w'.drawn){r d:Nat}(i:ρ r d)(hb:Bs<=r){o o':Obj}(k:OR F K ρ o o'){new:Array bm}(l:∀e∈new,Ls ρ e) :
 cI Bs G F K ρ w w' ρ { w with heap:=i6 w.heap r o } { w' with heap:=i6 w'.heap d o' } new:=
 ⟨Ren.le_refl _,c,g.put c i hb k,j,hd,rfl,rfl,rfl,ar,ar,λb _ p=>by
   grind,
   λb q f=>by simp at f;omega,λ_ _ h=>vc h,l,λa b h m=>by
    obtain⟨o,o',_,f,n⟩:=g.low h m;have:d≠b:=λe=>by
     have:=c.inj i (e▸h);omega
    exact⟨o',o',f,aS,n.up⟩⟩
def BP(i:ρ.bw G)(g:WC Bs G F K ρ w w')(m:w.tape=w'.tape)(hd:w.drawn=w'.drawn){r f:Nat}(j:ρ r f)(hb:r<Bs){c c':Array ad}{t:ag}{k fz':Nat×Nat}(d:w'.heap[f]?=hO (v4 c' t k))(x:c.size=c'.size) :
 cI Bs G F K ρ w w' ρ { w with heap:=i6 w.heap r (v4 c t fz') } { w' with heap:=i6 w'.heap f (v4 c' t fz') } #[]:=
 ⟨Ren.le_refl _,i,g.YO i j hb x,m,hd,rfl,rfl,rfl,ar,ar,λb _ q=>by
   grind,
   λb s d=>by simp at d;omega,λ_ _ h=>vc h,ar,λa b h n=>by
    by_cases e:f=b
    .subst e;exact⟨_,_,d,by simp[(g.lt j).2],.cells c' t k fz'⟩
    .obtain⟨o,l,_,d,p⟩:=g.low h n
     exact⟨l,l,d,aS,p.up⟩⟩
def Mg(f:ρ.bw G)(c:WC Bs G F K ρ w w')(g:w.tape=w'.tape)(hd:w.drawn=w'.drawn){o':Obj}(i:OR F K ρ Y o') :
 cI Bs G F K ρ w w' (ρ.ext w.heap.size w'.heap.size) { w with heap:=w.heap.push Y } { w' with heap:=w'.heap.push o' } #[]:=
 ⟨Ren.kW _ _ _,f.ext c.fresh.1 c.fresh.2 c.pK c.gN,c.push (i.mono (Ren.kW _ _ _)),g,hd,rfl,rfl,rfl,ar,ar,λb hb _=>by
   grind,
   λb k d=>⟨w.heap.size,vd ⟨rfl,by simp at d;omega⟩⟩,λa b h=>by
    rcases h with h|⟨rfl,rfl⟩
    .exact vc h
    grind,ar,λa b h hb=>by
    obtain⟨p,e,_,d,j⟩:=c.low h hb;have l:=bE d
    exact⟨e,e,d,by
     grind,j.up⟩⟩
def pV(b:WC Bs G F K ρ w w'){a:Nat}(c:ρ C a):(Bs<=C/\∃o o',w.heap[C]?=hO o/\w'.heap[a]?=hO o'/\OR F K ρ o o')\/(C<Bs/\∃o o',w.heap[C]?=hO o/\w'.heap[a]?=hO o'/\Mf o o'):=by
 rcases hY C Bs with hb|hb
 .exact vd ⟨hb,b.low c hb⟩
 .exact vc ⟨hb,b.obj c hb⟩
def vi(g:WC Bs G F K ρ w w'){a a':aa}(b:AR ρ a a'):kc w a=kc w' a':=by
 rcases pV g b.1 with⟨_,o,c,d,e,f⟩|⟨_,o,c,d,e,f⟩
 .cases f<;>simp[kc,d,e,b.2.1]
 .cases f with
  |afN l c h=>cases c<;>simp_all [kc]
  |_=>simp[kc,d,e,b.2.1]
def GQ(f:WC Bs G F K ρ w w'){e:Nat}(g:ρ C e):w.shape? C=w'.shape? e:=by
 rcases pV f g with⟨_,o,c,a,b,d⟩|⟨_,o,c,a,b,d⟩
 .cases d with
  |cells t h hc=>simp[kg,a,b,VA.size hc]
  |_=>simp[kg,a,b]
 .cases d with
  |cells t h hs=>simp[kg,a,b,hs]
  |loop=>simp[kg,a,b]
  |afN l c i=>cases c<;>simp_all [kg]
def BQ(Bs:Nat)(e:bm):Prop:=match e.loc with
 |wQ a=>a.block<Bs
 |wS b=>b<Bs
 |_=>False
def oP(e:bm):Prop:=∀g,e.loc≠w8 (.extern g)
def Ak(Bs:Nat)(es c:Array bm):Prop:=∃(a:List bm)(e:bm)(b:List bm),c.toList=es.toList++a++e::b/\(∀x∈a,oP x)/\BQ Bs e/\oP e
def Ak.more{new c:Array bm}(h:Ak Bs (q++new) c)(i:∀x∈new,oP x):Ak Bs q c:=by
 obtain⟨b,e,a,d,j,f,g⟩:=h;refine⟨new.toList++b,e,a,by rw[d];simp,λx k=>?_,f,g⟩;grind
def Mh{f:Type}{P:bq}(s:Sem f):∀(w:ai)(es:Array bm),∃rest:List bm,(s.runT P w es).2.toList=es.toList++rest:=by
 induction s with
 |pure a=>simp_all
 |halt h=>simp_all
 |load m a k b=>
  intro w es;simp only[ks];split
  .obtain⟨r,d⟩:=b _ w (es.push _);exact⟨_::r,by rw[d];simp;rfl⟩
  .split
   .obtain⟨r,d⟩:=b _ w _;exact⟨_,by rw[d,i5,dT]⟩
   .exact⟨[],ar⟩
 |store m a v k b=>
  intro w es
  have key:∀c:Array bm,∃rest:List bm,((match w.cell? a with
   |some _=>if w.frozen? a then(uZ (wn (ta "a write to bytes that a string shares")) w,es) else k.runT P (j6 w a v) (es.push ⟨wQ a,hw,m == .atomic⟩)
   |none=>match w.farStore P a v (m == .atomic) with
    |.ok (w,e)=>k.runT P w (es++e.toArray.map (⟨.cell ·,hw,m == .atomic⟩))
    |w9 h=>(uZ h w,es)):aL _×Array bm).2.toList=es.toList++rest:=by
   intro _;split
   .split
    .exact⟨[],ar⟩
    .obtain⟨r,d⟩:=b (j6 w a v) (es.push _);exact⟨_::r,by rw[d];simp;rfl⟩
   .split
    .rename_i w2 e _;obtain⟨r,d⟩:=b w2 (es++e.toArray.map (⟨.cell ·,hw,m == .atomic⟩));grind
    .exact⟨[],ar⟩
  cases v<;>first|exact key #[]|exact⟨[],by simp[ks]⟩
 |new o k b=>intro w es;simp only[ks];exact b _ _ _
 |shape r k b=>intro w es;simp only[ks];exact b _ _ _
 |freeze a n k b=>intro w es;simp only[ks];exact b _ _
 |frozen a k b=>intro w es;simp only[ks];exact b _ _ _
 |getObj r k b=>
  intro w es;simp only[ks];split
  .exact⟨[],ar⟩
  .obtain⟨r,d⟩:=b _ w (es.push _);exact⟨_::r,by rw[d];simp;rfl⟩
  .exact⟨[],ar⟩
 |setObj r o k b=>
  intro w es;simp only[ks];split
  .exact⟨[],ar⟩
  .obtain⟨r,d⟩:=b _ (es.push _);exact⟨_::r,by rw[d];simp;rfl⟩
  .exact⟨[],ar⟩
 |choose q k b=>
  intro w es;simp only[ks];split
  .exact b _ _ _
  .exact b _ _ _
 |sys c k b=>
  intro w es;simp only[ks];obtain⟨r,d⟩:=b (w.sys c).1 (w.sys c).2 (es.push _);exact⟨_::r,by rw[d];simp;rfl⟩
 |program k b=>intro w es;simp only[ks];exact b _ _ _
 |mark m k b=>
  intro w es;simp only[ks];obtain⟨r,d⟩:=b w (es.push _);exact⟨_::r,by rw[d];simp;rfl⟩
def mW{a:Type}{P:bq}(s:Sem a)(w:ai)(es:Array bm){e:bm}(h:BQ Bs e)(b:oP e):Ak Bs es (s.runT P w (es.push e)).2:=by
 obtain⟨r,c⟩:=Mh (P:=P) s w (es.push e);exact⟨[],e,r,by rw[c];simp,ar,h,b⟩
end
inductive NL(ρ:Ren):bm->bm->Prop
 |cell {a a':aa} (h:AR ρ a a') (wr:Bool):NL ρ ⟨wQ a,wr,hG⟩ ⟨wQ a',wr,hG⟩
 |obj {r r':Nat} (h:ρ r r') (wr:Bool):NL ρ ⟨wS r,wr,hG⟩ ⟨wS r',wr,hG⟩
 |mark (m:Mark) (h:lE m):NL ρ ⟨w8 m,hG,hw⟩ ⟨w8 m,hG,hw⟩
inductive fK(ρ:Ren):List bm->List bm->Prop
 |nil:fK ρ [] []
 |cons {e e':bm} {l l':List bm} (h:NL ρ e e') (t:fK ρ l l'):fK ρ (e::l) (e'::l')
def NL.mono{ρ b:Ren}(h:ρ.le b){e e':bm}(x:NL ρ e e'):NL b e e':=by
 cases x with
 |cell a w=>exact .cell (a.mono h) w
 |obj a w=>exact .obj (h a) w
 |mark m k=>exact .mark m k
def fK.mono{ρ b:Ren}(h:ρ.le b){l l':List bm}(x:fK ρ l l'):fK b l l':=by
 induction x with
 |nil=>exact .nil
 |cons a _ c=>exact .cons (a.mono h) c
theorem fK.append{l' m m':List bm}(x:fK J R l')(y:fK J m m'):fK J (R++m) (l'++m'):=by
 induction x with
 |nil=>exact y
 |cons a _ b=>exact .cons a b
def fK.one{ρ:Ren}{e e':bm}(x:NL ρ e e'):fK ρ [e] [e']:=.cons x .nil
def fK.mem{l':List bm}(x:fK J R l'){e':bm}(h:e'∈l'):∃e,e∈R/\NL J e e':=by
 induction x with
 |nil=>cases h
 |cons a _ b=>
  grind
def NL.oP{ρ:Ren}{e e':bm}(x:NL ρ e e'):oP e:=by
 cases x with
 |cell a w=>intro g h;cases h
 |obj a w=>intro g h;cases h
 |mark m k=>intro g h;have k:m=wg:=k;subst k;cases h
def fK.oP{ρ:Ren}{l l':List bm}(x:fK ρ l l'):∀e∈l,bJ.oP e:=by
 induction x with
 |nil=>intro e h;cases h
 |cons a _ b=>
  intro e h
  rcases dp.1 h with rfl|h
  .exact a.oP
  .exact b e h
section
variable (Bs G:Nat)(F:ac->Bool)(K:a8->Bool)
def Mi{f g:Type}(RA:Ren->f->g->Prop)(ρ:Ren)(w w':ai)(es h:Array bm)(i:aL g×Array bm):aL f×Array bm->Prop
 |(u1 a w1,e)=>∃c j d b new,e=es++b/\i=(u1 j d,h++new)/\cI Bs G F K ρ w w' c w1 d new/\fK c b.toList new.toList/\RA c a j
 |(uZ (wk v) w1,e)=>∃c v' d b new,e=es++b/\i=(uZ (wk v') d,h++new)/\cI Bs G F K ρ w w' c w1 d new/\fK c b.toList new.toList/\VR F c v v'
 |(uZ (wl _) _,_)=>True
 |(uZ (wn u) _,_)=>dw u=hw
 |(uZ _ _,_)=>False
def jo{a b:Type}(RA:Ren->a->b->Prop)(ρ:Ren)(w w':ai)(es c:Array bm)(d:aL b×Array bm)(r:aL a×Array bm):Prop:=Mi Bs G F K RA ρ w w' es c d r\/Ak Bs es r.2
end
section
variable {T:bd}{fB fA:Array bi}{Bs G:Nat}{F:ac->Bool}{K:a8->Bool}
def Mi.step{j l:Type}{RA:Ren->j->l->Prop}{ρ b:Ren}{w w' w1 m:ai}{es n newL new:Array bm}{o:aL l×Array bm}{r:aL j×Array bm}
 (hs:cI Bs G F K ρ w w' b w1 m new) (p:fK b newL.toList new.toList) (h:Mi Bs G F K RA b w1 m (es++newL) (n++new) o r):Mi Bs G F K RA ρ w w' es n o r:=by
 match r,h with
 |(u1 a w2,q),⟨c,s,d,f,g,e1,e,k,i,t⟩=>exact⟨c,s,d,newL++f,new++g,by rw[e1,i9],by rw[e,i9],hs.trans k,by rw[i5,i5];exact(p.mono k.le).append i,t⟩
 |(uZ (wk v) w2,q),⟨c,v',d,f,g,e1,e,k,i,hv⟩=>exact⟨c,v',d,newL++f,new++g,by rw[e1,i9],by rw[e,i9],hs.trans k,by rw[i5,i5];exact(p.mono k.le).append i,hv⟩
 |(uZ wo _,_),h=>exact h
 |(uZ wq _,_),h=>exact h
 |(uZ (wx _) _,_),h=>exact h
 |(uZ (wy _) _,_),h=>exact h
 |(uZ (wC _) _,_),h=>exact h
 |(uZ wD _,_),h=>exact h
 |(uZ (wn _) _,_),h=>exact h
 |(uZ (wl _) _,_),_=>trivial
def jo.step{b c:Type}{RA:Ren->b->c->Prop}{ρ a:Ren}{w w' w1 d:ai}{es e newL new:Array bm}{f:aL c×Array bm}{r:aL b×Array bm}
 (hs:cI Bs G F K ρ w w' a w1 d new) (g:fK a newL.toList new.toList) (h:jo Bs G F K RA a w1 d (es++newL) (e++new) f r):jo Bs G F K RA ρ w w' es e f r:=
 h.imp (Mi.step hs g) λh=>h.more λx i=>g.oP x (iN.2 i)
def jo.quiet{a b:Type}{RA:Ren->a->b->Prop}{ρ c:Ren}{w w' w1 d:ai}{es e:Array bm}{f:aL b×Array bm}{r:aL a×Array bm}
 (hs:cI Bs G F K ρ w w' c w1 d #[]) (h:jo Bs G F K RA c w1 d es e f r):jo Bs G F K RA ρ w w' es e f r:=
 jo.step (newL:=#[]) hs .nil (by simpa using h)
def jo.one{b c:Type}{RA:Ren->b->c->Prop}{ρ a:Ren}{w w' w1 d:ai}{es f:Array bm}{e e':bm}{g:aL c×Array bm}{r:aL b×Array bm}
 (hs:cI Bs G F K ρ w w' a w1 d #[e']) (i:NL a e e') (h:jo Bs G F K RA a w1 d (es.push e) (f.push e') g r):jo Bs G F K RA ρ w w' es f g r:=
 jo.step (newL:=#[e]) hs (.one i) (by simpa using h)
def Al{ρ:Ren}{w w':ai}(l:WC Bs G F K ρ w w'){a a':aa}(h:AR ρ a a') :
 (kd w a=hN/\(∃s:String,∀m,w.farLoad ⟨T,fB⟩ a m=w9 (wl s))/\∀v,∃s:String,w.farStore ⟨T,fB⟩ a v hG=w9 (wl s))\/
 (Bs<=a.block/\∃v v' c c' t g,kd w a=hO v/\kd w' a'=hO v'/\VR F ρ v v'/\a.spot=hN/\w.heap[a.block]?=hO (v4 c t g)/\w'.heap[a'.block]?=hO (v4 c' t g)/\VA F ρ c c')\/
 (a.block<Bs/\∃v,kd w a=hO v):=by
 rcases pV l h.1 with⟨hb,o,n,b,i,d⟩|⟨hb,o,n,b,i,d⟩
 .have f:kd w a=hN->(∃s:String,∀m,w.farLoad ⟨T,fB⟩ a m=w9 (wl s))/\∀v,∃s:String,w.farStore ⟨T,fB⟩ a v hG=w9 (wl s):=by
   intro _;refine⟨?_,λv=>⟨ "store: no such cell",?_⟩⟩
   .cases d<;>exact⟨ "load: no such cell",λm=>by simp only[kf,b,ke]⟩
   .have hf:w.farStore ⟨T,fB⟩ a v hG=w9 (w.noCell a "store: no such cell"):=by
     cases d<;>simp[kp,b]
    rw[hf,mM b d]
  cases d with
  |@cells c c' t g hc=>
   by_cases hs:a.spot=hN
   .rcases VA.get? hc a.off with⟨j,k⟩|⟨v,v',j,k,hv⟩
    .left;have e:kd w a=hN:=by simp[kd,b,hs,j]
     exact⟨e,f e⟩
    .right;left;refine⟨hb,v,v',c,c',t,g,by simp[kd,b,hs,j],?_,hv,hs,b,i,hc⟩;have p:a'.spot=hN:=by rw[<-h.2.2];exact hs
     simp[kd,i,p,<-h.2.1,k]
   .left;have e:kd w a=hN:=by simp[kd,b,Option.isSome_iff_ne_none.2 hs]
    exact⟨e,f e⟩
  |_=>
   left;have e:kd w a=hN:=by simp[kd,b]
   exact⟨e,f e⟩
 .cases e:kd w a with
  |some v=>grind
  |none=>
   left;refine⟨rfl,⟨ "load: no such cell",λm=>by cases d<;>simp only[kf,b,ke]⟩,λv=>⟨ "store: no such cell",?_⟩⟩;have hf:w.farStore ⟨T,fB⟩ a v hG=w9 (w.noCell a "store: no such cell"):=by cases d<;>simp[kp,b]
   rw[hf];cases d<;>simp only[ke,b]
def bW.runT{b:Type}{s:Sem b}(h:bW T fB s):∀(w:ai)(es:Array bm),∃x c,Lr x/\s.runT ⟨T,fB⟩ w es=(uZ x w,c):=by
 induction s with
 |halt x=>exact λw es=>⟨x,es,h,rfl⟩
 |program k a=>exact λw es=>a _ h w es
 |shape r k a=>exact λw es=>a (w.shape? r) (h _) w es
 |frozen r k a=>exact λw es=>a (kc w r) (h _) w es
 |mark m k a=>exact λw es=>a h.2 w _
 |_=>exact h.elim
def bW.GU{a b:Type}{RA:Ren->a->b->Prop}{ρ:Ren}{w w':ai}{es d:Array bm}{f:aL b×Array bm}{s:Sem a}(h:bW T fB s):jo Bs G F K RA ρ w w' es d f (s.runT ⟨T,fB⟩ w es):=by
 obtain⟨x,g,c,e⟩:=h.runT w es;rw[e];left
 cases x with
 |stuck _=>trivial
 |unsupported u=>exact c
 |_=>exact c.elim
def av.GU{Z cm:Type}{RA:Ren->Z->cm->Prop}{s:Sem Z}:∀{ρ:Ren}{s':Sem cm}{w w':ai}(es j:Array bm),av T fB fA F K RA ρ s s'->ρ.bw T.globals.size->WC Bs T.globals.size F K ρ w w'->w.tape=w'.tape->w.drawn=w'.drawn->
 jo Bs T.globals.size F K RA ρ w w' es j (s'.runT ⟨T,fA⟩ w' j) (s.runT ⟨T,fB⟩ w es):=by
 induction s with
 |pure a=>
  rintro ρ s' w w' es j⟨D,rfl,h⟩f b d hd;exact vc ⟨ρ,D,w',#[],#[],ar,by simp[ks],cI.refl f b d hd,.nil,h⟩
 |halt h=>
  intro ρ s' w w' es j hs f b d hd;cases h<;>first|exact vc hs|exact vc trivial|(obtain⟨v',rfl,hv⟩:=hs;exact vc ⟨ρ,v',w',#[],#[],ar,by simp[ks],cI.refl f b d hd,.nil,hv⟩)
 |load m a k x=>
  rintro ρ s' w w' es j⟨m',D,k',rfl,rfl,rfl,B,y⟩f b d hd
  rcases Al (T:=T) (fB:=fB) b B with⟨E,⟨s,L⟩,_⟩|⟨hb,v,v',c,c',t,z,E,L,hv,_⟩|⟨hb,v,E⟩
  .simp only[ks,E,L];exact vc trivial
  .simp only[ks,E,L];exact jo.one (e:=⟨wQ a,hG,hG⟩) (e':=⟨wQ D,hG,hG⟩) (BO f b d hd ⟨rfl,_,B.1⟩) (.cell B hG) (x v _ _ (y v v' hv) f b d hd)
  .simp only[ks,E];exact vd (mW (k v) w es (e:=⟨wQ a,hG,hG⟩) hb (λg h=>by cases h))
 |store m a v k x=>
  rintro ρ s' w w' es j⟨m',D,v',k',rfl,rfl,rfl,B,hv,y⟩f b d hd;have key:(∀c,v≠vy c)->(∀c,v≠v3 c)->(∀c,v'≠vy c)->(∀c,v'≠v3 c)->
   jo Bs T.globals.size F K RA ρ w w' es j ((kq wL D v' k').runT ⟨T,fA⟩ w' j) ((kq wL a v k).runT ⟨T,fB⟩ w es):=by
   intro Q R V W;rw[qR _ _ _ _ _ Q R,qR _ _ _ _ _ V W]
   rcases Al (T:=T) (fB:=fB) b B with⟨E,_,L⟩|⟨hb,u,u',c,c',t,z,E,L,hu,hs,h3,h4,hc⟩|⟨hb,u,E⟩
   .obtain⟨s,hf⟩:=L v;simp only[E,hf];exact vc trivial
   .have fR:D.spot=hN:=by rw[<-B.2.2];exact hs
    rw[E,L];simp only[<-vi b B];split
    .refine vc ?_;show dw (ta _)=hw;rfl
    .rw[setCell_eq w a _ h3 hs,setCell_eq w' D _ h4 fR,<-B.2.1];have aF:=uv f b d hd B.1 hb (.cells t z (VA.set hc a.off hv)) (new:=#[⟨wQ D,hw,hG⟩]) (λe S=>by simp at S;subst S;exact⟨rfl,_,B.1⟩);exact jo.one aF (.cell B hw) (x _ _ y f aF.wr d hd)
   .rw[E];by_cases hz:kc w a=hw
    .refine vc ?_;simp only[hz,if_true];show dw (ta _)=hw;rfl
    .refine vd ?_;simp only[hz];exact mW k _ es (e:=⟨wQ a,hw,hG⟩) hb (λg h=>by cases h)
  cases hv<;>first|exact vc trivial|exact key ar ar ar ar
 |new o k x=>
  rintro ρ s' w w' es j⟨H,k',rfl,C,y⟩f b d hd;simp only[ks];have hs:=Mg f b d hd C;exact jo.quiet hs (x w.heap.size es j (y _ _ b.fresh.1 b.fresh.2 b.pK b.gN) hs.inj hs.wr d hd)
 |shape r k x=>
  rintro ρ s' w w' es j(⟨M,k',rfl,J,y⟩|h)f b d hd
  .simp only[ks,<-GQ b J];exact x _ es j (y _) f b d hd
  .exact bW.GU (s:=li r k) h
 |freeze a n k x=>
  rintro ρ s' w w' es j⟨D,k',rfl,B,y⟩f b d hd;simp only[ks];by_cases N:n=0
  .subst N;have e1:w.freeze a 0=w:=by simp[ka]
   have X:w'.freeze D 0=w':=by simp[ka]
   rw[e1,X];exact x es j y f b d hd
  have idle:∀{w:ai}{a:aa}{o:Obj},w.heap[a.block]?=hO o->(∀c t z,o≠v4 c t z)->w.freeze a n=w:=by
   intro w a o h bu;unfold ka;rw[if_neg N];obtain⟨heap,_,_,_,_⟩:=w;congr 1;apply eV;intro i;rw[dq];split
   .rename_i e;subst e;show hT _ heap[a.block]?=heap[a.block]?;have h':heap[a.block]?=hO o:=h;rw[h'];cases o<;>first|rfl|exact absurd rfl (bu _ _ _)
   .rfl
  rcases pV b B.1 with⟨hb,o,H,A,I,C⟩|⟨hb,o,H,A,I,C⟩
  .cases C with
   |@cells c c' t z hc=>
    obtain⟨U,hi⟩:=z;rw[iz w a n N A,iz w' D n N I,<-B.2.1];have hs:=uv f b d hd B.1 hb (.cells t (if U==hi then(a.off,a.off+n) else(min U a.off,max hi (a.off+n))) hc) (new:=#[]) ar;exact jo.quiet hs (x es j y f hs.wr d hd)
   |_=>
    rw[idle A ar,idle I ar];exact x es j y f b d hd
  .cases C with
   |cells t z fW=>
    obtain⟨U,hi⟩:=z;rw[iz w a n N A,iz w' D n N I,<-B.2.1];have hs:=BP f b d hd B.1 hb (fz':=if U==hi then(a.off,a.off+n) else(min U a.off,max hi (a.off+n))) I fW;exact jo.quiet hs (x es j y f hs.wr d hd)
   |loop=>
    rw[idle A ar,idle I ar];exact x es j y f b d hd
   |afN l H N=>
    rw[idle A ar,idle I N];exact x es j y f b d hd
 |frozen a k x=>
  rintro ρ s' w w' es j(⟨D,k',rfl,B,y⟩|h)f b d hd
  .simp only[ks,<-vi b B];exact x _ es j (y _) f b d hd
  .exact bW.GU (s:=lm a k) h
 |getObj r k x=>
  rintro ρ s' w w' es j⟨M,k',rfl,J,y⟩f b d hd;have one:∀{P:bq}{β:Type}{w:ai}{r:Nat}{o:Obj}{k:Obj->Sem β}{es:Array bm},w.heap[r]?=hO o->(∀c t z,o≠v4 c t z)->o.isChan=hG->(kw r k).runT P w es=(k o).runT P w (es.push ⟨wS r,hG,hG⟩):=by
   intro P β w r o k es g Q R;simp only[ks,g];cases o<;>first|rfl|exact absurd rfl (Q _ _ _)|(simp only[R])
  rcases pV b J with⟨hb,o,H,A,I,C⟩|⟨hb,o,H,A,I,C⟩
  rotate_left
  .cases C with
   |cells=>simp only[ks,A];exact vc trivial
   |loop=>
    rw[one A ar rfl];exact vd (mW _ w es (e:=⟨wS r,hG,hG⟩) hb (λg h=>by cases h))
   |afN=>
    rw[one A ar rfl];exact vd (mW _ w es (e:=⟨wS r,hG,hG⟩) hb (λg h=>by cases h))
  have key:(∀c t z,o≠v4 c t z)->(∀c t z,H≠v4 c t z)->o.isChan=hG->H.isChan=hG->
   jo Bs T.globals.size F K RA ρ w w' es j ((kw M k').runT ⟨T,fA⟩ w' j) ((kw r k).runT ⟨T,fB⟩ w es):=by
   intro Q R V W;rw[one A Q V,one I R W];exact jo.one (e:=⟨wS r,hG,hG⟩) (e':=⟨wS M,hG,hG⟩) (BO f b d hd ⟨rfl,_,J⟩) (.obj J hG) (x o _ _ (y o H C) f b d hd)
  cases C with
  |cells t z hc=>simp only[ks,A];exact vc trivial
  |_=>exact key ar ar rfl rfl
 |setObj r o k x=>
  rintro ρ s' w w' es j⟨M,H,k',rfl,J,⟨C,_⟩,y⟩f b d hd;have uQ:H.isChan=hG:=by cases C<;>rfl
  have O:o.isChan=hG:=by cases C<;>rfl
  rcases pV b J with⟨hb,p,p',A,I,Y⟩|⟨hb,p,p',A,I,Y⟩
  rotate_left
  .cases Y with
   |cells=>simp only[ks,A];exact vc trivial
   |loop=>
    simp only[ks,A,O];exact vd (mW _ _ es (e:=⟨wS r,hw,hG⟩) hb (λg h=>by cases h))
   |afN=>
    simp only[ks,A,O];exact vd (mW _ _ es (e:=⟨wS r,hw,hG⟩) hb (λg h=>by cases h))
  have key:(∀c t z,p≠v4 c t z)->(∀c t z,p'≠v4 c t z)->
   jo Bs T.globals.size F K RA ρ w w' es j ((kx M H k').runT ⟨T,fA⟩ w' j) ((kx r o k).runT ⟨T,fB⟩ w es):=by
   intro Q R;have e1:(kx r o k).runT ⟨T,fB⟩ w es=k.runT ⟨T,fB⟩ { w with heap:=i6 w.heap r o } (es.push ⟨wS r,hw,hG⟩):=by
    simp only[ks,A,O]
   have X:(kx M H k').runT ⟨T,fA⟩ w' j=k'.runT ⟨T,fA⟩ { w' with heap:=i6 w'.heap M H } (j.push ⟨wS M,hw,hG⟩):=by
    simp only[ks,I,uQ]
   rw[e1,X];have hs:=uv f b d hd J hb C (new:=#[⟨wS M,hw,hG⟩]) (λe S=>by simp at S;subst S;exact⟨rfl,_,J⟩);exact jo.one hs (.obj J hw) (x _ _ y f hs.wr d hd)
  cases Y with
  |cells t z hc=>simp only[ks,A];exact vc trivial
  |_=>exact key ar ar
 |choose q k x=>
  rintro ρ s' w w' es j⟨k',rfl,y⟩f b d hd;simp only[ks];split
  .exact x _ es j (y _) f b d hd
  .rw[<-d,<-hd];have wK:WC Bs T.globals.size F K ρ { w with drawn:=w.drawn+1 } { w' with drawn:=w.drawn+1 }:=⟨b.pK,b.gN,b.base,b.obj,b.low⟩
   have hs:cI Bs T.globals.size F K ρ w w' ρ { w with drawn:=w.drawn+1 } { w' with drawn:=w.drawn+1 } #[]:=
    ⟨Ren.le_refl _,f,wK,d,rfl,rfl,rfl,rfl,dk _,dk _,λ_ _ _=>rfl,λ_ E L=>absurd L (Nat.not_lt.2 E),λ_ _ h=>vc h,ar,(cI.refl f b d hd).keep⟩
   have:=x (q.cut (w.tape w.drawn q)) es j (y _) f wK d rfl;exact jo.quiet hs (by simpa[d]using this)
 |sys c k x=>intro ρ s' w w' es j h;exact h.elim
 |program k x=>
  rintro ρ s' w w' es j(⟨k',rfl,y⟩|CS)f b d hd
  .simp only[ks];exact x _ es j y f b d hd
  .exact bW.GU (s:=kS k) CS
 |mark m k x=>
  rintro ρ s' w w' es j(⟨k',rfl,hm,y⟩|h)f b d hd;rotate_left
  .exact bW.GU (s:=lp m k) h
  simp only[ks];exact jo.one (e:=⟨w8 m,hG,hw⟩) (e':=⟨w8 m,hG,hw⟩) (BO f b d hd hm) (.mark m hm) (x _ _ y f b d hd)
end
section
variable (T:bd)(fB fA:Array bi)(F:ac->Bool)(Z:ag->Bool)(bot:f0)(up:List f0)(Bs:Nat)
structure GC(ρ:Ren)(g g':g0):Prop where
 top:aQ T F Z fB fA ρ g.frame g'.frame
 callers:∃l l',g.callers=l++[bot]/\g'.callers=l'++up/\cj T F Z fB fA ρ l l'/\dn (g.frame::l)
 st:g.status=x7
 st':g'.status=x7
 dy:g.dying=hN
 Bl:g'.dying=hN
 of:g.offers=hN
 Bm:g'.offers=hN
def dG(ρ:Ren)(w w':ai):g6->g6->Prop
 |tt c w1 es,g=>(∃a d f b,g=tt d f b/\cI Bs T.globals.size F (codeOk T F Z) ρ w w' a w1 f b/\fK a es.toList b.toList/\GC T fB fA F Z bot up a c d)\/(∃e∈es,BQ Bs e)\/c.status≠x7
 |_,_=>True
structure GV(ρ:Ren)(w w':ai):Prop where
 inj:ρ.bw T.globals.size
 wr:WC Bs T.globals.size F (codeOk T F Z) ρ w w'
 tape:w.tape=w'.tape
 drawn:w.drawn=w'.drawn
structure zG:Prop where
 zero:dM T F Z
 fns:si fB fA F
 same:∀f,F f=hw->Bi T fB fA F Z f
 noU:F Ya=hG
 nr:∀f,F f=hw->(fB[f]?).any (·.norace)=hG
 early:∀fr cs d g w,∃o w1 es,early ⟨T,fB⟩ fr cs d g w=tu o w1 es
end
section
variable {T:bd}{fB fA:Array bi}{F:ac->Bool}{Z:ag->Bool}{bot:f0}{up:List f0}{Bs:Nat}{ρ σ:Ren}{w w':ai}
def cI.wd{b:ai}(h:cI Bs T.globals.size F (codeOk T F Z) ρ w w' J M b q):GV T F Z Bs J M b:=⟨h.inj,h.wr,h.tape,h.drawn⟩
def GV.refl(h:GV T F Z Bs ρ w w'):cI Bs T.globals.size F (codeOk T F Z) ρ w w' ρ w w' #[]:=cI.refl h.inj h.wr h.tape h.drawn
def DI{q:ac->Bool}:∀(l:List bm)(k:Array bm),(∀x∈l,oP x)->(l.foldl (ud q) (hG,k))=(hG,k++l.toArray)
 |[],k,_=>ar
 |x::l,k,h=>by
  have a:=h x ar;have e1:ud q (hG,k) x=(hG,k.push x):=by
   obtain⟨loc,wr,b⟩:=x
   cases loc with
   |mark m=>
    cases m with
    |extern g=>exact absurd rfl (a g)
    |_=>rfl
   |_=>rfl
  rw[cB,e1,DI l _ λy hy=>h y (by simp[hy])];simp
def DJ{q:ac->Bool}{e:bm}:∀(l:List bm)(b:Bool)(k:Array bm),e∈k->e∈(l.foldl (ud q) (b,k)).2
 |[],_,_,h=>h
 |x::l,b,k,h=>by
  rw[cB];have plain:e∈(if b && !x.sync then k else k.push x):=by
   grind
  have:∃b' k',ud q (b,k) x=(b',k')/\e∈k':=by
   obtain⟨loc,wr,c⟩:=x
   cases loc with
   |mark m=>
    cases m with
    |extern g=>exact⟨_,_,rfl,h⟩
    |_=>exact⟨_,_,rfl,plain⟩
   |_=>exact⟨_,_,rfl,plain⟩
  obtain⟨b',k',e1,a⟩:=this;rw[e1];exact DJ l b' k' a
def DK{P:bq}{fn:ac}(f:(P.funcs[fn]?).any (·.norace)=hG){b:Array bm}(h:Ak Bs #[] b):∃e∈seen P fn b,BQ Bs e:=by
 obtain⟨a,e,c,g,i,d,j⟩:=h;refine⟨e,?_,d⟩;rw[ue,f,g];simp only[gB,lh,cB];rw[DI a _ i];apply DJ;obtain⟨loc,wr,k⟩:=e
 cases loc with
 |mark m=>exact d.elim
 |_=>simp[ud]
def dG.Pj{s s':g6}(h:∃e∈q,BQ Bs e):dG T fB fA F Z bot up Bs ρ w w' (tq q s) s':=by
 obtain⟨e,a,b⟩:=h
 cases s with
 |go c w1 d=>exact vd (vc ⟨e,Array.mem_append.2 (vc a),b⟩)
 |_=>trivial
def sF{q:ac->Bool}{i:ac->Bool}:∀{l l':List bm}(b:Bool)(k k':Array bm),fK ρ l l'->fK ρ k.toList k'.toList->fK ρ (l.foldl (ud q) (b,k)).2.toList (l'.foldl (ud i) (b,k')).2.toList
 |[],_,b,k,k',h,c=>by cases h;exact c
 |e::l,_,b,k,k',h,c=>by
  cases h with
  |@cons _ j _ l' g d=>
   simp only[cB];have push:fK ρ (k.push e).toList (k'.push j).toList:=by
    rw[i4,i4];exact c.append (.one g)
   cases g with
   |cell a wr=>cases b<;>simp only[ud,gG,hK,iY,py,if_false,if_true,js]<;>exact sF _ _ _ d (by first|exact push|exact c)
   |obj a wr=>cases b<;>simp only[ud,gG,hK,iY,py,if_false,if_true,js]<;>exact sF _ _ _ d (by first|exact push|exact c)
   |mark m f=>
    have f:m=wg:=f;subst f;cases b<;>simp only[ud,nd,Bool.and_false,py,if_false]<;>exact sF _ _ _ d push
def rz(fit:zG T fB fA F Z){f:ac}(hf:F f=hw){l':Array bm}(h:fK ρ q.toList l'.toList):fK ρ (seen ⟨T,fB⟩ f q).toList (seen ⟨T,fA⟩ f l').toList:=by
 rw[ue,ue];obtain⟨fn,c,a,b,_⟩:=(fit.same f hf).ex;have e:((⟨T,fB⟩:bq).funcs[f]?).any (·.norace)=((⟨T,fA⟩:bq).funcs[f]?).any (·.norace):=by
  grind
 rw[e];exact sF _ _ _ h .nil
def dG.comp{c:ai}{es a:Array bm}{s s':g6}(f:cI Bs T.globals.size F (codeOk T F Z) ρ w w' J M c q)(h:dG T fB fA F Z bot up Bs J M c s s')(g:∀e∈a,e∈q)(i:fK J es.toList a.toList) :
 dG T fB fA F Z bot up Bs ρ w w' (tq es s) (tq a s'):=by
 cases s with
 |go t w2 j=>
  rcases h with⟨d,l,m,n,e,k,o,p⟩|⟨e,b,r⟩|h
  .subst e;refine vc ⟨d,l,m,a++n,rfl,(f.less g).trans k,?_,p⟩;show fK d (es++j).toList _;rw[i5,i5];exact(i.mono k.le).append o
  .exact vd (vc ⟨e,Array.mem_append.2 (vd b),r⟩)
  .exact vd (vd h)
 |_=>trivial
def rA(fit:zG T fB fA F Z)(x:GV T F Z Bs ρ w w'){fr fr':f0}{cs cs':List f0}(d:aQ T F Z fB fA ρ fr fr')(hcs:cj T F Z fB fA ρ cs cs')(hb:dn (fr::cs))
 {s s':Sem fc} (hs:av T fB fA F (codeOk T F Z) (gT F (codeOk T F Z)) ρ s s') :
 dG T fB fA F Z bot up Bs ρ w w' (tz ⟨T,fB⟩ hw fr (cs++[bot]) hN s w) (tz ⟨T,fA⟩ hw fr' (cs'++up) hN s' w'):=by
 have i:=av.GU #[] #[] hs x.inj x.wr x.tape x.drawn;have D:(fr'.kind == x6)=hG:=by rw[d.bX];rfl
 have early:(fr.kind == x6)=hG:=by rw[d.kind];rfl
 have J:=fit.nr _ d.mI;generalize K:s.runT ⟨T,fB⟩ w #[]=L at i;obtain⟨r,es⟩:=L;unfold tz;simp only[if_true,K];have sub:∀{new:Array bm},∀e∈seen ⟨T,fA⟩ fr'.fn (#[]++new) ++ #[],e∈new:=λe M=>tL (by simpa using M);have q:∀{c:Ren}{b new:Array bm},fK c b.toList new.toList->fK c (seen ⟨T,fB⟩ fr.fn (#[]++b) ++ #[]).toList (seen ⟨T,fA⟩ fr'.fn (#[]++new) ++ #[]).toList:=λh=>by
  simp only[Array.empty_append,Array.append_empty];rw[d.fn];exact rz fit d.mI h
 rcases i with i|i
 rotate_left
 .
  have E:∃e∈seen ⟨T,fB⟩ fr.fn es,BQ Bs e:=DK (P:=⟨T,fB⟩) J i
  cases r with
  |ok a w1=>
   simp only[early,py,if_false];exact dG.Pj E
  |halt h w1=>
   cases h with
   |blocked=>exact vd (vd ar)
   |waiting=>exact vd (vd ar)
   |unsupported u=>
    cases u with
    |initOrder g=>
     obtain⟨o,w2,S,e⟩:=fit.early fr (cs++[bot]) hN g w1;simp only[e];trivial
    |_=>trivial
   |_=>
    simp only[early,py,if_false];exact dG.Pj E
 cases r with
 |ok a w1=>
  obtain⟨c,H,I,b,new,B,e1,j,p,N⟩:=i;subst B;rw[e1];simp only[D,early,py,if_false];have y:=d.mono j.le;have z:=hcs.mono j.le;have A:cI Bs T.globals.size F (codeOk T F Z) ρ w w' c w1 I (seen ⟨T,fA⟩ fr'.fn (#[]++new) ++ #[]):=j.less sub
  cases N with
  |value hv=>exact vc ⟨c,_,_,_,rfl,A,q p,y.finish hv,⟨_,_,rfl,rfl,z,hb.top (bZ _ _)⟩,rfl,rfl,rfl,rfl,rfl,rfl⟩
  |skip=>exact vc ⟨c,_,_,_,rfl,A,q p,y.finish .undef,⟨_,_,rfl,rfl,z,hb.top (bZ _ _)⟩,rfl,rfl,rfl,rfl,rfl,rfl⟩
  |@enter f hf a H C=>
   refine vc ⟨c,_,_,_,rfl,A,q p,?_,⟨fr::cs,fr'::cs',rfl,rfl,.cons y z,hb.push _⟩,rfl,rfl,rfl,rfl,rfl,rfl⟩;have top:∀k k':g7,k=xZ->k'=xZ->aQ T F Z fB fA c (tj ⟨T,fB⟩ f a k) (tj ⟨T,fA⟩ f H k'):=by
    rintro k k' rfl rfl;exact fe (fit.same f hf) hf C
   refine top _ _ ?_ ?_
   .have n:=d.todo;generalize fr.todo=l at n ⊢;generalize fr'.todo=O at n ⊢
    cases n with
    |nil=>rfl
    |cons h t=>cases h<;>rfl
   .have n:=d.todo;generalize fr.todo=l at n ⊢;generalize fr'.todo=O at n ⊢
    cases n with
    |nil=>rfl
    |cons h t=>cases h<;>rfl
  |round hl f hf C assign body Q R=>
   refine vc ⟨c,_,_,_,rfl,A,q p,?_,⟨fr::cs,fr'::cs',rfl,rfl,.cons y z,hb.push _⟩,rfl,rfl,rfl,rfl,rfl,rfl⟩;exact⟨rfl,(bA),hf,C,.cons (.code _ Q) (.cons .beginRound (.cons (.code _ R) .nil)),.nil,.run,rfl,rfl,.some hl,(bA)⟩
 |halt h w1=>
  cases h with
  |panic v=>
   obtain⟨c,v',I,b,new,B,e1,j,p,hv⟩:=i;subst B;rw[e1];simp only[D,early,py,if_false];exact vc ⟨c,_,_,_,rfl,j.less sub,q p,(d.mono j.le).raise (.cons hv .nil),⟨_,_,rfl,rfl,hcs.mono j.le,hb.top (eC _ _)⟩,rfl,rfl,rfl,rfl,rfl,rfl⟩
  |stuck m=>trivial
  |unsupported u=>
   cases u with
   |initOrder g=>exact absurd i (by simp[Mi,dw])
   |_=>trivial
  |_=>exact i.elim
end
section
variable {T:bd}{fB fA:Array bi}{F:ac->Bool}{Z:ag->Bool}{bot:f0}{up:List f0}{Bs:Nat}{mn:Bool}{ρ σ:Ren}{w w':ai}
def jJ(a:GV T F Z Bs ρ w w'){fr':f0}{cs':List f0}(b:aQ T F Z fB fA ρ O fr')(hcs:cj T F Z fB fA ρ L cs')(hb:dn (O::L)) :
 dG T fB fA F Z bot up Bs ρ w w' (tt { frame:=O,callers:=L++[bot],status:=x7,dying:=hN } w) (tt { frame:=fr',callers:=cs'++up,status:=x7,dying:=hN } w'):=
 vc ⟨ρ,_,_,_,rfl,a.refl,.nil,b,⟨L,cs',rfl,rfl,hcs,hb⟩,rfl,rfl,rfl,rfl,rfl,rfl⟩
def qI(b:GV T F Z Bs ρ w w'){fr':f0}{cs':List f0}(a:aQ T F Z fB fA ρ O fr')(hcs:cj T F Z fB fA ρ L cs')(hb:dn (O::L))(c:L≠[]){v v':ad}(hv:VR F ρ v v') :
 dG T fB fA F Z bot up Bs ρ w w' (g9 (lL T fB) hw O (L++[bot]) hN v w) (g9 (lL T fA) mn fr' (cs'++up) hN v' w'):=by
 cases hcs with
 |nil=>exact absurd rfl c
 |@cons f d l e h t=>
  show(dG T fB fA F Z bot up Bs) ρ w w' (g9 (lL T fB) hw O (f::(l++[bot])) hN v w) (g9 (lL T fA) mn fr' (d::(e++up)) hN v' w');simp only[g9,a.kind,a.bX];exact jJ b (h.finish hv) t (hb.pop.top (bZ _ _))
def oQ(fit:zG T fB fA F Z){j k:Type}{RA:Ren->j->k->Prop}(l:GV T F Z Bs ρ w w'){s:Sem j}{s':Sem k}(hs:av T fB fA F (codeOk T F Z) RA ρ s s'){f:aL j->g6}{f':aL k->g6}(fn x:ac)(y:x=fn)(hF:F fn=hw)
 (z:∀(b:Ren)(a:j)(a':k)(w1 c:ai)(new:Array bm),cI Bs T.globals.size F (codeOk T F Z) ρ w w' b w1 c new->RA b a a'->dG T fB fA F Z bot up Bs b w1 c (f (u1 a w1)) (f' (u1 a' c)))
 (A:∀(b:Ren)(v v':ad)(w1 c:ai)(new:Array bm),cI Bs T.globals.size F (codeOk T F Z) ρ w w' b w1 c new->VR F b v v'->dG T fB fA F Z bot up Bs b w1 c (f (uZ (wk v) w1)) (f' (uZ (wk v') c)))
 (g:∀m w1,∃o w2 es,f (uZ (wl m) w1)=tu o w2 es) (B:∀u w1,dw u=hw->∃o w2 es,f (uZ (wn u) w1)=tu o w2 es) :
 dG T fB fA F Z bot up Bs ρ w w' (tq (seen (lL T fB) fn (s.runT (lL T fB) w #[]).2) (f (s.runT (lL T fB) w #[]).1)) (tq (seen (lL T fA) x (s'.runT (lL T fA) w' #[]).2) (f' (s'.runT (lL T fA) w' #[]).1)):=by
 subst y;have d:=av.GU #[] #[] hs l.inj l.wr l.tape l.drawn;generalize s.runT (lL T fB) w #[]=C at d;obtain⟨r,es⟩:=C
 rcases d with d|d
 rotate_left
 .exact dG.Pj (DK (P:=lL T fB) (fit.nr _ hF) d)
 cases r with
 |ok a w1=>
  obtain⟨b,a',c,i,new,n,e1,g,p,q⟩:=d;subst n;rw[e1];exact dG.comp g (z b a a' w1 c new g q) (λe t=>by simpa using tL t) (rz fit hF (by simpa using p))
 |halt h w1=>
  cases h with
  |panic v=>
   obtain⟨b,v',c,i,new,n,e1,g,p,q⟩:=d;subst n;rw[e1];exact dG.comp g (A b v v' w1 c new g q) (λe t=>by simpa using tL t) (rz fit hF (by simpa using p))
  |stuck m=>
   obtain⟨o,w2,D,e⟩:=g m w1;simp only;rw[e];trivial
  |unsupported u=>
   obtain⟨o,w2,D,e⟩:=B u w1 d;simp only;rw[e];trivial
  |_=>exact d.elim
def GX(fit:zG T fB fA F Z)(d:GV T F Z Bs ρ w w'){fr fr':f0}{cs cs':List f0}(b:aQ T F Z fB fA ρ fr fr')(hcs:cj T F Z fB fA ρ cs cs')(hb:dn (fr::cs))(j:Option a8)(h:∀c,j=hO c->codeOk T F Z c=hw) :
 dG T fB fA F Z bot up Bs ρ w w' (mR (lL T fB) hw fr (cs++[bot]) hN w j) (mR (lL T fA) mn fr' (cs'++up) hN w' j):=by
 rcases jP b.roundOf with⟨e1,e⟩|⟨l,k,e1,e,hl⟩
 .rw[iW e1,iW e]
  cases sn j with
  |false=>trivial
  |true=>exact jJ d (b.returning e1) hcs (hb.top rfl)
 .rw[iX e1,iX e];have i:cs≠[]:=by
   rintro rfl;have:=hb fr rfl;rw[e1]at this;cases this
  exact oQ fit d (oq d.inj hl j h) (f:=λr=>match r with | u1 v w=>g9 (lL T fB) hw fr (cs++[bot]) hN v w | uZ _ w=>tu (x8 "range over a function: no such loop" (fr.pos (lL T fB))) w)
   (f':=λr=>match r with | u1 v w=>g9 (lL T fA) mn fr' (cs'++up) hN v w | uZ _ w=>tu (x8 "range over a function: no such loop" (fr'.pos (lL T fA))) w) fr.fn fr'.fn b.fn b.mI
   (λm a n w1 o new g hv=>qI g.wd (b.mono g.le) (hcs.mono g.le) hb i hv) (λ_ _ _ _ _ _ _ _=>trivial) (λ_ _=>⟨_,_,_,rfl⟩) (λ_ _ _=>⟨_,_,_,rfl⟩)
def Ml(fit:zG T fB fA F Z)(d:GV T F Z Bs ρ w w'){fr':f0}{cs':List f0}(a:aQ T F Z fB fA ρ O fr')(hcs:cj T F Z fB fA ρ L cs')(hb:dn (O::L)){ops:Array f6}{rest:List Nat}{k:List f8}
 (f:O.todo=ul ops (C::rest)::k) (g:(ops.toList.all λo=>jh T F Z o.op)=hw) :
 dG T fB fA F Z bot up Bs ρ w w' (tH (lL T fB) hw O (L++[bot]) hN w) (tH (lL T fA) hw fr' (cs'++up) hN w'):=by
 unfold tH;rw[a.oper?];have e:O.oper? = ops[C]?:=by unfold te;rw[f]
 rw[e]
 cases h:ops[C]? with
 |none=>trivial
 |some o=>
  have ok:=Bo g h;simp only;have main:dG T fB fA F Z bot up Bs ρ w w' (tz (lL T fB) hw O (L++[bot]) hN (f7 O.eval o) w) (tz (lL T fA) hw fr' (cs'++up) hN (f7 fr'.eval o) w'):=
   rA (bot:=bot) (up:=up) fit d a hcs hb (ug fit.zero fit.fns d.inj (dD a.tmps) o ok (acm fit.noU ok))
  have b:=a.roundOf;generalize e1:O.roundOf=r at b;generalize l:fr'.roundOf=m at b
  cases b with
  |none=>exact main
  |some hl=>
   cases j:o.op with
   |defer c=>rw[j]at ok;cases ok
   |_=>exact main
def DL(fit:zG T fB fA F Z)(e:GV T F Z Bs ρ w w'){fr fr':f0}{cs cs':List f0}(p:aQ T F Z fB fA ρ fr fr')(hcs:cj T F Z fB fA ρ cs cs')(hb:dn (fr::cs))(E:fr.mode≠xC)(g:fr.defers=[]->cs≠[]) :
 dG T fB fA F Z bot up Bs ρ w w' (hh (lL T fB) hw fr (cs++[bot]) hN w) (hh (lL T fA) mn fr' (cs'++up) hN w'):=by
 have hd:=p.defers;obtain⟨fn,tmps,todo,defers,mode,kind,i⟩:=fr;obtain⟨b,j,q,X,L,k,m⟩:=fr';have M:=p;obtain⟨H,u,n,x,o,N,y,I,J,K,z⟩:=p;simp only at H u n x o N y I J K z E g hd;subst H
 cases hd with
 |@cons r Y ds A O t=>
  unfold hh;simp only;exact oQ fit e (jj e.inj O)
   (f:=λr=>match r with
     |u1 calls w=>tt { frame:={ fn:=b,tmps,todo,defers:=calls++ds,mode,kind,roundOf:=i },callers:=cs++[bot],status:=x7,dying:=hN } w
     |uZ _ w=>tu (x8 "the deferred calls of a range-over-func loop have been taken" _) w)
   (f':=λr=>match r with
     |u1 calls w=>tt { frame:={ fn:=b,tmps:=j,todo:=q,defers:=calls++A,mode:=L,kind:=k,roundOf:=m },callers:=cs'++up,status:=x7,dying:=hN } w
     |uZ _ w=>tu (x8 "the deferred calls of a range-over-func loop have been taken" _) w) b b rfl n
   (λP a Q w1 R new d S=>by
     obtain⟨rfl,rfl⟩:=S
     exact jJ d.wd ⟨rfl,u,n,cU.mono d.le x,o.mono d.le,t.mono d.le,y.mono d.le,I,J,K.mono d.le,z⟩ (hcs.mono d.le) (hb.top rfl))
   (λ_ _ _ _ _ _ _ _=>trivial) (λ_ _=>⟨_,_,_,rfl⟩) (λ_ _ _=>⟨_,_,_,rfl⟩)
 |nil=>
  have g:=g rfl
  cases y with
  |run=>exact absurd rfl E
  |@panicking c B hc=>
   cases hcs with
   |nil=>exact absurd rfl g
   |@cons f C l D h t=>
    show(dG T fB fA F Z bot up Bs) ρ w w' (hh (lL T fB) hw _ (f::(l++[bot])) hN w) (hh (lL T fA) mn _ (C::(D++up)) hN w');have e1:hh (lL T fB) hw { fn:=b,tmps:=tmps,todo:=todo,defers:=[],mode:=xT c,kind:=kind,roundOf:=i } (f::(l++[bot])) hN w=tt { frame:=f.raise c,callers:=l++[bot],status:=x7,dying:=hN } w:=by
     unfold hh;simp only[iR o (lL T fB) b tmps [] (xT c) kind i,py,if_false]
    have U:hh (lL T fA) mn { fn:=b,tmps:=j,todo:=q,defers:=[],mode:=xT B,kind:=k,roundOf:=m } (C::(D++up)) hN w'=tt { frame:=C.raise B,callers:=D++up,status:=x7,dying:=hN } w':=by
     unfold hh;simp only[ot o (lL T fA) b j [] (xT B) k m,py,if_false]
    rw[e1,U];exact jJ e (h.raise hc) t (hb.pop.top (eC _ _))
  |returning=>
   obtain⟨fx,c,V,W,g3,g4⟩:=(u (z rfl)).ex;unfold hh;simp only[V,W]
   exact oQ fit e (mP e.inj fx x) (f:=λr=>match r with
    |u1 v w=>g9 (lL T fB) hw { fn:=b,tmps,todo,defers:=[],mode:=xF,kind,roundOf:=i } (cs++[bot]) hN v w
    |uZ (wl s) w=>tu (x8 s _) w
    |uZ _ w=>tu (x8 "return: the result variables cannot be read" _) w)
    (f':=λr=>match r with
     |u1 v w=>g9 (lL T fA) mn { fn:=b,tmps:=j,todo:=q,defers:=[],mode:=xF,kind:=k,roundOf:=m } (cs'++up) hN v w
     |uZ (wl s) w=>tu (x8 s _) w
     |uZ _ w=>tu (x8 "return: the result variables cannot be read" _) w) b b rfl n
    (λP a Q w1 R new d hv=>qI d.wd (M.mono d.le) (hcs.mono d.le) hb g hv) (λ_ _ _ _ _ _ _ _=>trivial) (λ_ _=>⟨_,_,_,rfl⟩) (λ_ _ _=>⟨_,_,_,rfl⟩)
end
end Go.bJ
namespace Go.Proofs
set_option maxRecDepth 100000
variable {C J q:Nat}
def aD(dst:Option Nat)(op:Op)(guard:Option (Nat×Bool)):f6:={ dst,op,type:=0,pos:= "b",after:=#[],guard }
def agE:Array f6:=#[
 aD (hO 3) (rL 78 #[(0,xm 0)]) (hN),
 aD (hO 4) (rI 78 (xm 0) 0) (hN),
 aD (hO 5) (rI 27 (xm 4) 0) (hN),
 aD (hO 6) (rI 27 (xm 4) 1) (hN),
 aD (hO 7) (rI 27 (xm 4) 2) (hN),
 aD (hO 8) (rI 27 (xm 4) 3) (hN),
 aD (hO 9) (rI 27 (xm 4) 4) (hN),
 aD (hO 10) (rI 27 (xm 4) 5) (hN),
 aD (hO 11) (rP xc 3 (xm 5) (xn (vw vb 0)) 3) (hN),
 aD (hO 12) (rP xc 3 (xm 6) (xn (vw vb 0)) 3) (hN),
 aD (hO 13) (sd { callee:=xr sW,args:=#[xm 7],argTypes:=#[22] }) (hN),
 aD (hO 14) (sd { callee:=xr sW,args:=#[xm 8],argTypes:=#[23] }) (hN),
 aD (hO 15) (sd { callee:=xr sW,args:=#[xm 9],argTypes:=#[24] }) (hN),
 aD (hO 16) (sd { callee:=xr sW,args:=#[xm 10],argTypes:=#[25] }) (hN),
 aD (hO 17) (rP xb 3 (xn (vw vb 2)) (xm 15) 3) (hN),
 aD (hN) (rI 3 (xn (vw vb 0)) 0) (hO (14,hG)),
 aD (hO 18) (rP xb 3 (xm 15) (xn (vw vb 5)) 3) (hN),
 aD (hN) (rI 3 (xn (vw vb 0)) 0) (hO (16,hG)),
 aD (hO 19) (rP xb 3 (xm 16) (xn (vw vb 3)) 3) (hN),
 aD (hN) (rI 3 (xn (vw vb 0)) 0) (hO (18,hG)),
 aD (hO 3) (rP xa 24 (xm 9) (xn (vL hN 0 0)) 24) (hN),
 aD (hN) (rI 3 (xn (vw vb 0)) 0) (hO (20,hw)),
 aD (hO 20) (rt (xn (vw vb 0))) (hN),
 aD (hO 21) (rt (xn (vw vb 0))) (hN)]
def am0:Array f6:=#[
 aD (hO 23) (rN 24 (xm 9) (xm 20)) (hN),
 aD (hO 24) (rx 49 (xm 23)) (hN),
 aD (hO 25) (rI 49 (xm 24) 0) (hN),
 aD (hO 26) (rP xd 9 (xm 25) (xn (vx ByteArray.empty)) 9) (hN),
 aD (hO 27) (rI 49 (xm 24) 1) (hN),
 aD (hO 28) (rI 30 (xm 27) 0) (hN),
 aD (hO 29) (rP xc 3 (xm 28) (xn (vw vb 0)) 3) (hN),
 aD (hO 30) (rI 30 (xm 27) 1) (hN),
 aD (hO 31) (rP xc 3 (xm 30) (xn (vw vb 0)) 3) (hN),
 aD (hO 32) (rI 49 (xm 24) 2) (hN),
 aD (hO 33) (rI 30 (xm 32) 0) (hN),
 aD (hO 34) (rP xc 3 (xm 33) (xn (vw vb 0)) 3) (hN),
 aD (hO 35) (rI 30 (xm 32) 1) (hN),
 aD (hO 36) (rP xc 3 (xm 35) (xn (vw vb 0)) 3) (hN),
 aD (hO 37) (rI 49 (xm 24) 5) (hN),
 aD (hO 38) (rI 30 (xm 37) 0) (hN),
 aD (hO 39) (rP xc 3 (xm 38) (xn (vw vb 0)) 3) (hN),
 aD (hO 40) (rI 30 (xm 37) 1) (hN),
 aD (hO 41) (rP xc 3 (xm 40) (xn (vw vb 0)) 3) (hN),
 aD (hO 42) (rI 49 (xm 24) 6) (hN),
 aD (hO 43) (rI 30 (xm 42) 0) (hN),
 aD (hO 44) (rP xc 3 (xm 43) (xn (vw vb 0)) 3) (hN),
 aD (hO 45) (rI 30 (xm 42) 1) (hN),
 aD (hO 46) (rP xc 3 (xm 45) (xn (vw vb 0)) 3) (hN),
 aD (hO 47) (rI 49 (xm 24) 3) (hN),
 aD (hO 48) (rP xc 3 (xm 47) (xn (vw vb 0)) 3) (hN),
 aD (hO 49) (rI 49 (xm 24) 4) (hN),
 aD (hO 50) (rP xc 3 (xm 49) (xn (vw vb 0)) 3) (hN),
 aD (hO 51) (rI 49 (xm 24) 7) (hN),
 aD (hO 52) (sd { callee:=xr sW,args:=#[xm 51],argTypes:=#[28] }) (hN),
 aD (hO 53) (rP xd 3 (xm 20) (xn (vw vb 1)) 3) (hN),
 aD (hO 20) (rt (xm 53)) (hN)]
def agF:Array f6:=#[
 aD (hO 11) (rP xa 25 (xm 10) (xn (vL hN 0 0)) 25) (hN),
 aD (hN) (rI 3 (xn (vw vb 0)) 0) (hO (0,hw)),
 aD (hO 55) (rN 25 (xm 10) (xm 21)) (hN),
 aD (hO 56) (rx 51 (xm 55)) (hN),
 aD (hO 57) (rI 51 (xm 56) 0) (hN),
 aD (hO 58) (rP xd 9 (xm 57) (xn (vx ByteArray.empty)) 9) (hN),
 aD (hO 59) (rI 51 (xm 56) 1) (hN),
 aD (hO 60) (rP xc 3 (xm 59) (xn (vw vb 0)) 3) (hN),
 aD (hO 61) (rP xb 3 (xn (vw vb 0)) (xm 59) 3) (hN),
 aD (hN) (rI 3 (xn (vw vb 0)) 0) (hO (8,hG)),
 aD (hO 62) (rP xe 3 (xm 59) (xm 15) 3) (hN),
 aD (hN) (rI 3 (xn (vw vb 0)) 0) (hO (10,hG)),
 aD (hO 63) (rI 51 (xm 56) 2) (hN),
 aD (hO 64) (rP xc 3 (xm 63) (xn (vw vb 0)) 3) (hN),
 aD (hO 65) (rP xd 3 (xm 21) (xn (vw vb 1)) 3) (hN),
 aD (hO 21) (rt (xm 65)) (hN)]
def aoj:Array f6:=#[aD (hO 22) (rP xe 3 (xm 20) (xm 15) 3) (hN)]
def aok:Array f6:=#[aD (hO 54) (rP xe 3 (xm 21) (xm 16) 3) (hN)]
def ar1:Array f6:=#[
 aD (hO 66) (.alloc 138) (hN),
 aD (hO 67) (rt (xn (vw vb 0))) (hN)]
def aol:Array f6:=#[
 aD (hO 68) (rP xe 3 (xm 67) (xm 16) 3) (hN)]
def opsL:Array f6:=#[
 aD (hO 69) (rN 25 (xm 10) (xm 67)) (hN),
 aD (hO 70) (rx 51 (xm 69)) (hN),
 aD (hO 71) (rI 51 (xm 70) 1) (hN),
 aD (hO 72) (rI 51 (xm 70) 2) (hN),
 aD (hO 73) (rI 51 (xm 70) 2) (hN),
 aD (hO 74) (rt (xn (vw vb 0))) (hN)]
def anf:Array f6:=#[
 aD (hO 75) (rP xe 3 (xm 74) (xm 15) 3) (hN)]
def aiD:Array f6:=#[
 aD (hO 76) (rN 24 (xm 9) (xm 71)) (hN),
 aD (hO 77) (rx 49 (xm 76)) (hN),
 aD (hO 78) (rI 49 (xm 77) 5) (hN),
 aD (hO 79) (rI 30 (xm 78) 0) (hN),
 aD (hO 80) (rI 30 (xm 78) 1) (hN),
 aD (hO 81) (rI 49 (xm 77) 6) (hN),
 aD (hO 82) (rI 30 (xm 81) 0) (hN),
 aD (hO 83) (rI 30 (xm 81) 1) (hN),
 aD (hO 84) (rP xd 3 (xm 72) (xm 79) 3) (hN),
 aD (hO 85) (rP xd 3 (xm 73) (xm 80) 3) (hN),
 aD (hO 86) (rL 30 #[(0,xm 72),(1,xm 73)]) (hN),
 aD (hO 87) (rL 30 #[(0,xm 84),(1,xm 85)]) (hN),
 aD (hO 88) (rL 73 #[(0,xm 71),(1,xm 86),(2,xm 87)]) (hN),
 aD (hO 89) (rN 138 (xm 66) (xm 67)) (hN),
 aD (hO 90) (rN 121 (xm 89) (xm 71)) (hN),
 aD (hN) (.store 73 (xm 90) (xm 88)) (hN),
 aD (hO 91) (rP xd 3 (xm 84) (xm 82) 3) (hN),
 aD (hO 92) (rP xd 3 (xm 85) (xm 83) 3) (hN),
 aD (hO 72) (rt (xm 91)) (hN),
 aD (hO 73) (rt (xm 92)) (hN),
 aD (hO 93) (rP xd 3 (xm 71) (xn (vw vb 1)) 3) (hN),
 aD (hO 94) (rP xa 3 (xm 93) (xm 15) 3) (hN),
 aD (hO 95) (.pick (xm 94) (xn (vw vb 0)) (xm 93)) (hN),
 aD (hO 71) (rt (xm 95)) (hN),
 aD (hO 96) (rP xd 3 (xm 74) (xn (vw vb 1)) 3) (hN),
 aD (hO 74) (rt (xm 96)) (hN)]
def aom:Array f6:=#[
 aD (hO 97) (rP xd 3 (xm 67) (xn (vw vb 1)) 3) (hN),
 aD (hO 67) (rt (xm 97)) (hN)]
def ar2:Array f6:=#[
 aD (hO 2) (rt (xm 66)) (hN)]
def afw(n r:Nat)(test:Array f6)(t:Nat)(body:a8):a8:=.block n (.loop (xx (xw r test hG) (xx (.cond (xm t) .skip (xt n)) body)))
def agG:a8:=xx (xw 5 ar1 hG) (xx (afw 2 6 aol 68 (xx (xw 7 opsL hG) (xx (afw 3 8 anf 75 (xw 9 aiD hG)) (xw 10 aom hG)))) (xx (xw 11 ar2 hG) xv))
def sU:a8:=xx (xw 0 agE hG) (xx (afw 0 1 aoj 22 (xw 2 am0 hG)) (xx (afw 1 3 aok 54 (xw 4 agF hG)) agG))
def nS:bi:={ Tryz.f61 with ntmps:=98,body:=hO sU }
def cY:bq:={ toTables:=u6,funcs:=i6 u7 61 nS }
def G0(np s r:Nat):Nat:=(s+r) % np
def cmV(pn:Nat->Nat->Int)(np s:Nat)(dl:Int):Nat->Int×Int
 |0=>(dl,dl)
 |r+1=>(u9 vb (u9 vb ((cmV pn np s dl r).1+pn (G0 np s r) 7)+pn (G0 np s r) 9),u9 vb (u9 vb ((cmV pn np s dl r).2+pn (G0 np s r) 8)+pn (G0 np s r) 10))
def vsV(pn:Nat->Nat->Int)(np s:Nat)(dl:Int)(r:Nat):Nat->Int
 |0=>(G0 np s r:Nat)
 |1=>(cmV pn np s dl r).1
 |2=>(cmV pn np s dl r).2
 |3=>u9 vb ((cmV pn np s dl r).1+pn (G0 np s r) 7)
 |_=>u9 vb ((cmV pn np s dl r).2+pn (G0 np s r) 8)
def OnT(np G R k r:Nat):Prop:=(k<G/\r<np)\/(k=G/\r<R)
def aiL(np s k r o:Nat):Prop:=k*25+G0 np s r*5<=o/\o<k*25+G0 np s r*5+5
structure s7(pn:Nat->Nat->Int)(np:Nat)(S:Nat->Nat)(dl:Nat->Int)(G R:Nat)(cs:Array ad):Prop where
 size:cs.size=75
 put:∀k r j,OnT np G R k r->j<5->cs[k*25+G0 np (S k) r*5+j]?=hO (vw vb (vsV pn np (S k) (dl k) r j))
 rest:∀o,o<75->(∀k r,OnT np G R k r->¬aiL np (S k) k r o)->cs[o]?=hO (vw vb 0)
def abq{np s r:Nat}(h:0<np):G0 np s r<np:=h6 _ h
theorem anh{a:Nat}(h:a<J)(i:J<q):G0 q C a≠G0 q C J:=by
 unfold G0;intro e;have j:=lf (C+J) q;have f:=lf (C+a) q;rw[e]at f;have b:q*((C+J) / q)-q*((C+a) / q)=J-a:=ab;rw[<-Nat.mul_sub]at b;have c:0<J-a:=ab;have g:J-a<q:=ab;rw[<-b]at c g;have:(C+J) / q-(C+a) / q=0:=by
  by_cases d:(C+J) / q-(C+a) / q=0
  .exact d
  .have:=pa q (ky d);omega
 rw[this]at c;omega
def abe(np s p:Nat):Nat:=(p+np-s) % np
def aav{np s p:Nat}(h:0<np):abe np s p<np:=h6 _ h
def ahF(a:J<q)(hs:C<q):G0 q C (abe q C J)=J:=by
 unfold G0 abe
 rcases hY J C with h|h
 .rw[km (show J+q-C<q by omega),show C+(J+q-C)=J+q by omega,h8,km a]
 .rw[show J+q-C=(J-C)+q by omega,h8,km (show J-C<q by omega),show C+(J-C)=J by omega,km a]
def abQ(h:0<q):G0 q C (J+1)=if G0 q C J+1=q then 0 else G0 q C J+1:=by
 unfold G0;have e:(C+(J+1)) % q=((C+J) % q+1) % q:=by grind[Nat.add_mod,Nat.mod_add_mod]
 have:=h6 (C+J) h;rw[e];split
 .simp_all
 .rw[km ab]
section
variable {pn:Nat->Nat->Int}{np:Nat}{S:Nat->Nat}{dl:Nat->Int}{G R:Nat}{cs cs':Array ad}
def s7.uniq(h:s7 pn np S dl G R cs)(k:s7 pn np S dl G R cs'):cs=cs':=by
 apply eV;intro o
 rcases hY o 75 with a|a
 .by_cases hc:∃q r,OnT np G R q r/\aiL np (S q) q r o
  .obtain⟨q,r,b,c,f⟩:=hc;have e:o=q*25+G0 np (S q) r*5+(o-(q*25+G0 np (S q) r*5)):=ab;rw[e,h.put q r _ b ab,k.put q r _ b ab]
  .have d:∀q r,OnT np G R q r->¬aiL np (S q) q r o:=λq r b c=>hc ⟨q,r,b,c⟩;rw[h.rest o a d,k.rest o a d]
 .rw[j5 (by rw[h.size];exact a),j5 (by rw[k.size];exact a)]
def s7.int(h:s7 pn np S dl G R cs){o:Nat}(c:o<75):∃n,cs[o]?=hO (vw vb n):=by
 by_cases hc:∃q r,OnT np G R q r/\aiL np (S q) q r o
 .obtain⟨q,r,a,b,d⟩:=hc;have e:o=q*25+G0 np (S q) r*5+(o-(q*25+G0 np (S q) r*5)):=ab;exact⟨_,by rw[e,h.put q r _ a ab]⟩
 .exact⟨0,h.rest o c λq r a b=>hc ⟨q,r,a,b⟩⟩
def s7.zero(a:cs.size=75)(b:∀o,o<75->cs[o]?=hO (vw vb 0)):s7 pn np S dl 0 0 cs:=
 ⟨a,λk r j h _=>by rcases h with h|h<;>omega,λo c _=>b o c⟩
def s7.next(h:s7 pn np S dl G R cs)(g:R<np)(i:np<=5)(hs:cs'.size=75)(l:∀j,j<5->cs'[G*25+G0 np (S G) R*5+j]?=hO (vw vb (vsV pn np (S G) (dl G) R j)))
 (b:∀o,(o<G*25+G0 np (S G) R*5\/G*25+G0 np (S G) R*5+5<=o)->cs'[o]?=cs[o]?):s7 pn np S dl G (R+1) cs':=by
 have m:=abq (np:=np) (s:=S G) (r:=R) ab;refine⟨hs,λk r j a d=>?_,λo f c=>?_⟩
 .have n:=abq (np:=np) (s:=S k) (r:=r) ab;by_cases e:k=G/\r=R
  .grind
  .rw[b _ ?_]
   .refine h.put k r j ?_ d
    rcases a with a|a
    .exact vc a
    .exact vd ⟨a.1,ab⟩
   .rcases a with a|⟨rfl,a⟩
    .omega
    grind[anh]
 .rw[b o ?_]
  .refine h.rest o f λk r a=>c k r ?_
   rcases a with a|a
   .exact vc a
   .exact vd ⟨a.1,ab⟩
  .have:=c G R (vd ⟨rfl,ab⟩);unfold aiL at this;omega
def s7.done(h:s7 pn np S dl G np cs):s7 pn np S dl (G+1) 0 cs:=by
 have e:∀k r,OnT np (G+1) 0 k r↔OnT np G np k r:=λk r=>by
  unfold OnT;grind
 exact⟨h.size,λk r j a=>h.put k r j ((e k r).1 a),λo b c=>h.rest o b λk r a=>c k r ((e k r).2 a)⟩
def s7.at{n k p j:Nat}(h:s7 pn np S dl n 0 cs)(a:k<n)(b:p<np)(hs:S k<np)(c:j<5):cs[k*25+p*5+j]?=hO (vw vb (vsV pn np (S k) (dl k) (abe np (S k) p) j)):=by
 have:=h.put k (abe np (S k) p) j (vc ⟨a,aav ab⟩) c;rwa[ahF b hs]at this
end
structure h_ where
 l:Int
 p:Int
 b2:Option aa
 n2:Nat
 c2:Nat
 b3:Option aa
 n3:Nat
 c3:Nat
 k4:Nat
 o4:Nat
 np:Nat
 c4:Nat
 b5:Option aa
 k5:Nat
 o5:Nat
 n:Nat
 c5:Nat
 pn:Nat->Nat->Int
 S:Nat->Nat
 dl:Nat->Int
 nm:Nat->ByteArray
 gn:Nat->ByteArray
 lb:Nat->Option aa
 ll:Nat->Nat
 lc:Nat->Nat
abbrev h_.arr(T:h_):Array ad:=#[vw vb T.l,vw vb T.p,vL T.b2 T.n2 T.c2,vL T.b3 T.n3 T.c3,vL (hO ⟨T.k4,T.o4,hN⟩) T.np T.c4,vL T.b5 T.n T.c5]
def h_.G8(T:h_)(i:Nat):Nat->ad
 |0=>vx (T.nm i)
 |11=>vL (T.lb i) (T.ll i) (T.lc i)
 |j=>vw vb (T.pn i j)
def h_.PM(T:h_)(k:Nat):Nat->ad
 |0=>vx (T.gn k)
 |1=>vw vb (T.S k:Int)
 |_=>vw vb (T.dl k)
structure h_.In(T:h_)(w:ai):Prop where
 lo:2<=T.np/\T.np<=5/\T.n<=3
 h4:T.k4<w.heap.size
 h5:0<T.n->T.b5=hO ⟨T.k5,T.o5,hN⟩/\T.k5<w.heap.size
 st:∀k,k<T.n->T.S k<T.np
 c4:∀i,i<T.np->∀j,j<12->kd w ⟨T.k4,T.o4+i*12+j,hN⟩=hO (T.G8 i j)
 c5:∀k,k<T.n->∀j,j<3->kd w ⟨T.k5,T.o5+k*3+j,hN⟩=hO (T.PM k j)
end Go.Proofs
