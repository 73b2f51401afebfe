/- Part of the proof of FieldTroubles. -/
import Derived.Test.YtoflngejgedgbaaGreatU00
import Derived.Conc.AppendEvents3
import Derived.Conc.AtomicLaws2
import Derived.Conc.MuStops
import Derived.Conc.SmallLaws
import Derived.OrdersHeld
import Derived.RangeFuncRecord
set_option linter.all false
set_option maxRecDepth 100000
noncomputable section
open Go renaming Trace->aa,MemOp->ac,Touch->ag,HappensBefore->aI,Addr->aL,World->aP,Program->a7,TypeId->a8,Value->a9,Event->bd,deafBehind->bi,Goroutine->bj,Next->bq,mayWake->bv,FuncId->bC,GoStatus->b8,GStep->b9,Oper->ce,yielded->cf,execOp->ch,Operand->ci,callFunc->co,resolve->cq,invoke->ct,Func->cv,run_callFunc_extern->c8,IntKind->c9,run_underlying->db,loadVar->dc,Tables->dx,Frame->dL,choose->dQ,Item->dU,Code->d8,Deferred->d9,CallKind->ea,typeInfo->eb,storeCells->ec,setRow_heap->ed,storeVar->eg,sizeOf->ek,asIntOf->el,setRow_other->em,goexitEntry->ep,loadCellsFrom->eq,getD_set_ne->eu
open Go.Conc renaming touchAt->eA,Knows->eD,touch_of->eE,noRace_append->eN,Deaf->eP,QuitsD->eX,woken_quitsD->e7,mem_ofEvents->e8,lt_of_act?->e9,touch_mute->fb,low_mute->fc,awake_of->fm,runT_crowd_go->fp,events_callFunc_extern->fO,canSpin_eq->f1,seen_none->f6,mem_seen->f7
open Option renaming some->f8,none->f9
open Bool renaming true->gc,false->ge,rec->gf
open Nat renaming lt_or_ge->gg,le_of_not_lt->gj,mul_add->gp,lt_wfRel->gt,ble->gy,beq->gE
open Go.ConcN renaming RelBy->gL,sumTo_upd->g0,upd_same->g1,upd_ne->g6,upd->g7,le_sumTo->g8,sumTo_le->g9,sumTo_congr->hh
open Go.ConcM renaming MuAt->ht,OsLater->hu,woken_by_blocked->hw
open Go.World renaming cell?->hz,re->hG,alloc->hI,frozen?->hJ,setRow->hK,putObj->hM,size_alloc->hN
open Go.MemAct renaming ofEvent->hO,touch?->hS,mark->hV,start->hX
open Go.MemOp renaming ofEvents->hY
open Go.ConcR renaming mk->h6,WgAt->h7
open Array renaming setIfInBounds->h8,getElem?_eq_getElem->ih,append_empty->ii,ext->io,replicate->ip
open Prod renaming Lex->iC,lex->iP,ext->i0
open Iff renaming rfl->jf
open Go.Event renaming mute->jn
open List.cons renaming injEq->jp
open Go.CallKind renaming early->jr,normal->jt,deferred->jw
open Go.Region renaming wanted->jz,ready->jH,linearise->jM
open Go.Frame renaming finish->jQ,eval->j1,raise->j2,enter->ka,round->kc
open Go.stepG renaming apply->kd,oper->ke,exec->kf
open Go.GStep renaming after->kg,go->kp,ended->kq
open Go.Sem renaming runT_fst->ks,getObj->kt,runT->kw,events_bind->kx,setObj->kS
open Go.Deferred renaming ofValue->kY
open Go.Extern renaming findNext->k6,find->k7
open Go.Extern.Race renaming none_->k8,marked->k9,at_->la
open Go.Extern.Sync renaming canSpin->ld,nothing->li,none_->lm,semacquire->lp,semrelease->lq
open Go.Program renaming underlying->lA,mk->lL
open Go.Item renaming code->lM,inRegion->lR,endRangeFunc->lS,inRangeFunc->lT,beginRound->lW
open Go.Instr renaming yield->mc,alloc->mm,sureAddr->mF,indexAt->mG,fieldAt->mS
open Go.Obj renaming isChan->m7,cells->m8,loop->m9,deferred->na
open List renaming range->nb,getElem_toArray->ni,getElem_map->nk
open Go.Goroutine renaming status->nl
open Go.IntKind renaming wrap->nq,i64->nt,i32->nV,u64->n0
open Go.Region.linearise renaming go->n6
open Go.Value renaming cells->n7,int->n8,func->n9,tuple->ob,pointer->oh,bool->ol,slice->ov,agg->o6
open Go.Proofs.Tryz renaming progTables->pg,funcs->ph
open ByteArray renaming empty->pi
open Go.Touch.Kind renaming atomic->pk,plain->pm
open Or renaming inl->pp,inr->pu
open Go.Mark renaming acquire->pv,releaseMerge->pz,extern->p0
open Go.Loc renaming cell->p6,obj->p7,mark->p8
open Go.GoStatus renaming running->p9,blocked->qi,finished->qq
open Go.ConcM.OsLater renaming refl->qr
open Go.FrameMode renaming run->qt,returning->qu,panicking->qx
open Go.Result renaming ok->qA,halt->qF
open Go.Next renaming value->qG,skip->qH
open Go.Op renaming call->qN,convert->qU,load->q7,alloc->q8,store->q9,indexAddr->rf,fieldAddr->rh
open Go.Callee renaming value->rk
open Go.Operand renaming func->rm,const->rq,tmp->rr
open Go.Fn renaming func->rs,yield->rt
open Go.TypeDesc renaming pointer->rx,unsafePointer->rI,array->rL,struct->rN
open Go.Target renaming collected->rP
open Go.Code renaming rangeFunc->rQ,region->rR,skip->rS
open Go.Region.Mode renaming any->r6
namespace Go.Ph
open Go.Conc Go.ConcN
variable {C:Nat}{J:ac}{q:Nat->Loc->Prop}
section
variable (Shun Sh:Loc->Prop)(Own Rd:Nat->Loc->Prop)
structure Fam:Prop where
 own:∀k k' l,Own k l->Own k' l->k=k'
 ownRd:∀k k' l,Own k l->¬Rd k' l
 ownSh:∀k l,Own k l->¬Sh l/\¬Shun l
 rdSh:∀k l,Rd k l->¬Sh l/\¬Shun l
structure TI(c j:Nat)(t:aa):Prop where
 nr:∀said,¬Race said t
 shun:∀i a,eA t i=f8 a->Shun a.loc->a.loc.isMemory=gc->eD t 0 i\/a.kind=pk
 quiet:Quiet Sh t
 own:∀k,c<=k->k<c+j->∀l,Own k l->Perm t k l
 rd:∀k,c<=k->k<c+j->∀l,Rd k l->PermW t k l
 free:∀l,l.isMemory=gc->¬Sh l->¬Shun l->(∀k,c<=k->k<c+j->¬Own k l/\¬Rd k l)->Perm t 0 l
 mine:∀l,l.isMemory=gc->¬Sh l->¬Shun l->(∀k,c<=k->k<c+j->¬Own k l)->PermW t 0 l
 elder:∀(i:Nat)(op:ac)(a:ag),t[i]?=f8 op->op.g≠0->op.g<c->op.act.touch? = f8 a->a.loc.isMemory=gc->eD t 0 i\/(Shun a.loc/\a.kind=pk)
 over:∀i g,t.g? i=f8 g->g≠0->g<c->t.counts i->∃p,t.g? p=f8 0/\aI t i p
 child:∀(i:Nat)(op:ac)(a:ag),t[i]?=f8 op->c<=op.g->op.act.touch? = f8 a->a.kind=pm\/Sh a.loc
 LY:∀(i:Nat)(op:ac),t[i]?=f8 op->c+j<=op.g->op.act.touch? = f9
def Ok0(c j:Nat)(op:ac):Prop:=
 op.g=0/\∀x,op.act.touch? = f8 x->x.loc.isMemory=gc->(Sh x.loc/\x.kind≠pm)\/(¬Sh x.loc/\¬Shun x.loc/\(∀k,c<=k->k<c+j->¬Own k x.loc)/\(x.write=gc->∀k,c<=k->k<c+j->¬Rd k x.loc))
def OkW(k:Nat)(op:ac):Prop:=
 op.g=k/\∀x,op.act.touch? = f8 x->x.loc.isMemory=gc/\((Sh x.loc/\x.kind=pk)\/(x.kind=pm/\(Own k x.loc\/(Rd k x.loc/\x.write=ge))))
end
section
variable {Shun Sh:Loc->Prop}{Own Rd:Nat->Loc->Prop}{c j:Nat}{t u:aa}
def gk(h:(t++u)[C]?=f8 J):(t[C]?=f8 J/\C<t.size)\/J∈u:=by
 grind
def sC(h:∀i g,t.g? i=f8 g->g≠0->g<c->t.counts i->∃p,t.g? p=f8 0/\aI t i p)(m:∀op∈u,op.g=0\/c<=op.g\/op.act.touch? = f9) :
 ∀i g,(t++u).g? i=f8 g->g≠0->g<c->(t++u).counts i->∃p,(t++u).g? p=f8 0/\aI (t++u) i p:=by
 intro i g hg e f hc;obtain⟨x,k,_⟩:=id hc;obtain⟨op,b,n⟩:=eE k;have a:op.g=g:=by simpa[Trace.g?,b]using hg
 rcases gk b with⟨l,hi⟩|o
 .obtain⟨p,d,hb⟩:=h i g (by simp[Trace.g?,l,a]) e f ((counts_old hi).1 hc);exact⟨p,by rw[g?_old (lt_of_g? d)];exact d,hb_app u hb⟩
 grind
def pP(h:∀(i:Nat)(op:ac)(a:ag),t[i]?=f8 op->op.g≠0->op.g<c->op.act.touch? = f8 a->a.loc.isMemory=gc->eD t 0 i\/(Shun a.loc/\a.kind=pk))(l:∀op∈u,op.g=0\/c<=op.g\/op.act.touch? = f9) :
 ∀(i:Nat)(op:ac)(a:ag),(t++u)[i]?=f8 op->op.g≠0->op.g<c->op.act.touch? = f8 a->a.loc.isMemory=gc->eD (t++u) 0 i\/(Shun a.loc/\a.kind=pk):=by
 intro i op a hi b d e f
 rcases gk hi with⟨k,_⟩|m
 .exact(h i op a k b d e f).imp (·.app u) id
 grind
def sD(h:∀i a,eA t i=f8 a->Shun a.loc->a.loc.isMemory=gc->eD t 0 i\/a.kind=pk)(k:∀op∈u,∀x,op.act.touch? = f8 x->x.loc.isMemory=gc->¬Shun x.loc) :
 ∀i a,eA (t++u) i=f8 a->Shun a.loc->a.loc.isMemory=gc->eD (t++u) 0 i\/a.kind=pk:=by
 intro i a b hs d;obtain⟨op,e,f⟩:=eE b
 rcases gk e with⟨g,_⟩|l
 .exact(h i a (by rw[touchAt_of g];exact f) hs d).imp (·.app u) id
 grind
def TI.app0(A:Fam Shun Sh Own Rd)(y:∀l,Sh l->¬Shun l/\l.isMemory=gc)(C:∀k l,(Own k l\/Rd k l)->l.isMemory=gc)(h:TI Shun Sh Own Rd c j t)(hc:0<c)(f:∀op∈u,Ok0 Shun Sh Own Rd c j op):TI Shun Sh Own Rd c j (t++u):=by
 refine⟨λsaid=>?_,sD h.shun λop d x r m=>?_,h.quiet.app λop d x r hs=>?_,λk k1 n l hl=>(h.own k k1 n l hl).app λop d b hb e=>?_,λk k1 n l hl=>(h.rd k k1 n l hl).app λop d b hb e D=>?_,
  λl m hs g hl=>(h.free l m hs g hl).app λop d _ _ _=>(f op d).1,λl m hs g hl=>(h.mine l m hs g hl).app λop d _ _ _ _=>(f op d).1,
  pP h.elder λop d=>pp (f op d).1,sC h.over λop d=>pp (f op d).1,λi op a hi hg p=>?_,λi op hi hg=>?_⟩
 .refine eN (h.nr said) (λop d=>(f op d).1) (λi a p op d b hb o=>?_);have m:b.loc.isMemory=gc:=by rw[<-o.1];exact o.2.1
  rcases(f op d).2 b hb m with⟨hs,s⟩|⟨hs,g,z,B⟩
  .exact h.quiet.known hs s (λ_=>rfl) i a p o
  .cases q:b.write with
   |true=>exact h.free b.loc m hs g (λk k1 n=>⟨z k k1 n,B q k k1 n⟩) i a p o.1
   |false=>exact h.mine b.loc m hs g z i a p o.1 (o.2.2.1.resolve_right (by simp[q]))
 .rcases(f op d).2 x r m with⟨hs,_⟩|⟨_,g,_⟩
  .exact(y _ hs).1
  .exact g
 .rcases(f op d).2 x r (y _ hs).2 with⟨_,s⟩|⟨g,_⟩
  .exact⟨s,λ_=>(f op d).1⟩
  .exact absurd hs g
 .rcases(f op d).2 b hb aS with⟨hs,_⟩|⟨_,_,g,_⟩
  .exact absurd (e▸hs) (A.ownSh k l hl).1
  grind
 .rcases(f op d).2 b hb aS with⟨hs,_⟩|⟨_,_,_,g⟩
  .exact absurd (e▸hs) (A.rdSh k l hl).1
  grind
 .rcases gk hi with⟨v,_⟩|w
  .exact h.child i op a v hg p
  .rw[(f op w).1]at hg;omega
 .rcases gk hi with⟨v,_⟩|w
  .exact h.LY i op v hg
  .rw[(f op w).1]at hg;omega
def TI.appW(A:Fam Shun Sh Own Rd)(J:∀l,Sh l->¬Shun l/\l.isMemory=gc)(h:TI Shun Sh Own Rd c j t)(k1:c<=C)(H:C<c+j)(n:∀op∈u,OkW Sh Own Rd C op):TI Shun Sh Own Rd c j (t++u):=by
 have hg:∀op∈u,op.g=C:=λop d=>(n op d).1
 refine⟨λsaid=>?_,sD h.shun λop d x z w=>?_,h.quiet.app λop d x z hs=>?_,λk' o p l hl=>(h.own k' o p l hl).app λop d b hb e=>?_,λk' o p l hl=>(h.rd k' o p l hl).app λop d b hb e s=>?_,
  λl w hs B hl=>(h.free l w hs B hl).app λop d b hb e=>?_,λl w hs B hl=>(h.mine l w hs B hl).app λop d b hb e s=>?_,
  pP h.elder λop d=>pu (pp (by rw[hg op d];exact k1)),sC h.over λop d=>pu (pp (by rw[hg op d];exact k1)),λi op a hi q r=>?_,λi op hi q=>?_⟩
 .refine eN (h.nr said) hg (λi a r op d b hb y=>?_);obtain⟨_,k⟩:=(n op d).2 b hb
  rcases k with⟨hs,v⟩|⟨_,m|⟨f,D⟩⟩
  .exact h.quiet.known hs (by rw[v];simp) (λe=>by rw[v]at e;cases e) i a r y
  .exact h.own C k1 H b.loc m i a r y.1
  .exact h.rd C k1 H b.loc f i a r y.1 (y.2.2.1.resolve_right (by simp[D]))
 .rcases((n op d).2 x z).2 with⟨hs,_⟩|⟨_,m|⟨f,_⟩⟩
  .exact(J _ hs).1
  .exact(A.ownSh C _ m).2
  .exact(A.rdSh C _ f).2
 .rcases((n op d).2 x z).2 with⟨_,v⟩|⟨_,m|⟨f,_⟩⟩
  .grind
  .exact absurd hs (A.ownSh C _ m).1
  .exact absurd hs (A.rdSh C _ f).1
 .rcases((n op d).2 b hb).2 with⟨hs,_⟩|⟨_,m|⟨f,_⟩⟩
  .exact absurd (e▸hs) (A.ownSh k' l hl).1
  .rw[hg op d];exact A.own C k' l (e▸m) hl
  .exact absurd (e▸f) (A.ownRd k' C l hl)
 .rcases((n op d).2 b hb).2 with⟨hs,_⟩|⟨_,m|⟨_,f⟩⟩
  .exact absurd (e▸hs) (A.rdSh k' l hl).1
  .exact absurd hl (A.ownRd C k' l (e▸m))
  .rw[f]at s;cases s
 .rcases((n op d).2 b hb).2 with⟨E,_⟩|⟨_,m|⟨f,_⟩⟩
  .exact absurd (e▸E) hs
  .grind
  grind
 .rcases((n op d).2 b hb).2 with⟨E,_⟩|⟨_,m|⟨_,f⟩⟩
  .exact absurd (e▸E) hs
  .grind
  .rw[f]at s;cases s
 .rcases gk hi with⟨F,_⟩|I
  .exact h.child i op a F q r
  .rcases((n op I).2 a r).2 with⟨hs,_⟩|⟨v,_⟩
   .exact pu hs
   .exact pp v
 .rcases gk hi with⟨F,_⟩|I
  .exact h.LY i op F q
  grind
def TI.appMute(h:TI Shun Sh Own Rd c j t){g:Nat}(hg:∀op∈u,op.g=g)(f:∀op∈u,op.act.touch? = f9):TI Shun Sh Own Rd c j (t++u):=by
 have no:∀op∈u,∀b,op.act.touch? = f8 b->False:=λop d b hb=>aS
 refine⟨λsaid=>eN (h.nr said) hg λi a _ op d b hb _=>(no op d b hb).elim,sD h.shun λop d x m _=>(no op d x m).elim,h.quiet.app λop d x m _=>(no op d x m).elim,λk k1 n l hl=>(h.own k k1 n l hl).app λop d b hb _=>(no op d b hb).elim,λk k1 n l hl=>(h.rd k k1 n l hl).app λop d b hb _ _=>(no op d b hb).elim,
  λl o hs p hl=>(h.free l o hs p hl).app λop d b hb _=>(no op d b hb).elim,λl o hs p hl=>(h.mine l o hs p hl).app λop d b hb _ _=>(no op d b hb).elim,
  pP h.elder λop d=>pu (pu (f op d)),sC h.over λop d=>pu (pu (f op d)),λi op a hi e s=>?_,λi op hi e=>?_⟩
 .rcases gk hi with⟨q,_⟩|r
  .exact h.child i op a q e s
  grind
 .rcases gk hi with⟨q,_⟩|r
  .exact h.LY i op q e
  .exact f op r
def TI.fork(A:Fam Shun Sh Own Rd)(D:∀k l,(Own k l\/Rd k l)->l.isMemory=gc)(h:TI Shun Sh Own Rd c j t){y:ac}(p:J.g=0/\J.act=.go (c+j))(hy:y.g=c+j/\y.act=hX)(E:eP t 0=0)(F:eP t (c+j)=0):TI Shun Sh Own Rd c (j+1) (t ++ #[J,y]):=by
 have f:∀op∈#[J,y],op.act.touch? = f9:=by
  intro op d;simp only[ko,dp,eW,or_false]at d
  rcases d with rfl|rfl
  .rw[p.2];rfl
  .rw[hy.2];rfl
 have no:∀op∈#[J,y],∀b,op.act.touch? = f8 b->False:=λop d b hb=>aS;have n:∀{i:Nat}{a:ag},eA (t ++ #[J,y]) i=f8 a->eA t i=f8 a:=by
  intro i a m;obtain⟨z,I,q⟩:=eE m
  rcases gk I with⟨x,_⟩|K
  .rw[touchAt_of x];exact q
  grind
 refine⟨λsaid=>?_,sD h.shun λop d b hb _=>(no op d b hb).elim,h.quiet.app λop d b hb _=>(no op d b hb).elim,λk k1 r l hl=>?_,λk k1 r l hl=>?_,
  λl s hs v hl=>(h.free l s hs v λk k1 r=>hl k k1 ab).app λop d b hb _=>(no op d b hb).elim,λl s hs v hl=>(h.mine l s hs v λk k1 r=>hl k k1 ab).app λop d b hb _ _=>(no op d b hb).elim,
  pP h.elder λop d=>pu (pu (f op d)),sC h.over λop d=>pu (pu (f op d)),λi op a hi o m=>?_,λi op hi o=>?_⟩
 .have e:t ++ #[J,y]=(t ++ #[J]) ++ #[y]:=by apply Array.ext';simp
  rw[e];refine eN (g:=c+j) (eN (g:=0) (h.nr said) (λop d=>aS) (λi a _ op d b hb _=>(no op aS b hb).elim))
   (λop d=>aS) (λi a _ op d b hb _=>(no op aS b hb).elim)
 .rcases gg k (c+j) with w|L
  .exact(h.own k k1 w l hl).app λop d b hb _=>(no op d b hb).elim
  .obtain rfl:k=c+j:=ab;exact λi a m e=>fork_knows p hy E F (h.free l (D _ l (pp hl)) (A.ownSh _ l hl).1 (A.ownSh _ l hl).2 (λk' _ M=>⟨λB=>by have:=A.own _ _ l B hl;omega,A.ownRd _ _ l hl⟩) i a (n m) e)
 .rcases gg k (c+j) with w|L
  .exact(h.rd k k1 w l hl).app λop d b hb _ _=>(no op d b hb).elim
  .obtain rfl:k=c+j:=ab;exact λi a m e N=>fork_knows p hy E F (h.mine l (D _ l (pu hl)) (A.rdSh _ l hl).1 (A.rdSh _ l hl).2 (λk' _ _ B=>A.ownRd _ _ l B hl) i a (n m) e N)
 .rcases gk hi with⟨C,_⟩|H
  .exact h.child i op a C o m
  grind
 .rcases gk hi with⟨C,_⟩|H
  .exact h.LY i op C ab
  .exact f op H
def TI.grow(h:TI Shun Sh Own Rd c j t)(m:∀k l,Own k l->q k l)(n:∀k l,q k l->Own k l\/∀i a,eA t i=f8 a->a.loc≠l):TI Shun Sh q Rd c j t:=
 ⟨h.nr,h.shun,h.quiet,λk k1 b l hl=>(n k l hl).elim (h.own k k1 b l) λd i a o e=>absurd e (d i a o),h.rd,
  λl g hs d hl=>h.free l g hs d λk k1 b=>⟨λx=>(hl k k1 b).1 (m k l x),(hl k k1 b).2⟩,λl g hs d hl=>h.mine l g hs d λk k1 b x=>hl k k1 b (m k l x),h.elder,h.over,h.child,h.LY⟩
def TI.choose{b:Nat->Loc->Prop}(h:TI Shun Sh Own Rd c j t)(d:∀k l,c<=k->k<c+j->(q k l↔Own k l))(i:∀k l,c<=k->k<c+j->(b k l↔Rd k l)):TI Shun Sh q b c j t:=
 ⟨h.nr,h.shun,h.quiet,λk k1 a l hl=>h.own k k1 a l ((d k l k1 a).1 hl),λk k1 a l hl=>h.rd k k1 a l ((i k l k1 a).1 hl),
  λl e hs f hl=>h.free l e hs f λk k1 a=>⟨λx=>(hl k k1 a).1 ((d k l k1 a).2 x),λx=>(hl k k1 a).2 ((i k l k1 a).2 x)⟩,λl e hs f hl=>h.mine l e hs f λk k1 a x=>hl k k1 a ((d k l k1 a).2 x),h.elder,h.over,h.child,h.LY⟩
def TI.GA{a:aL}{q B:Nat}(h:TI Shun Sh Own Rd c j t)(rel:∀k,c<=k->k<c+j->(∃i,t.g? i=f8 k)->∃r,gL a t k r/\r<q)(D:NoRelease a t)
 (E:t.act? q=f8 (hV (pv a))) (hg:t.g? q=f8 0) (F:t.heard q) (hd:eP t 0=0) (hl:∀op∈t,op.act.low B):Past (λl=>Shun l\/Sh l) B t:=by
 have key:∀i k,c<=k->k<c+j->t.g? i=f8 k->t.counts i->aI t i q:=by
  intro i k k1 H hi hc;obtain⟨r,m,p⟩:=rel k k1 H ⟨i,hi⟩;have edge:aI t r q:=.single (pu ⟨.marked p (pu m.act) E (λk _ _=>D k),m.heard,F⟩);have I:i<=r:=gj λb=>m.after i b hi hc
  rcases gg i r with b|n
  .exact .trans (.single (pp ⟨b,k,hi,m.g⟩)) edge
  grind
 have s:∀{i:Nat}{op:ac},t[i]?=f8 op->t.g? i=f8 op.g:=λh=>by simp[Trace.g?,h]
 obtain⟨J,v,w⟩:=ik.1 hg;refine⟨h.nr,λi a z A=>?_,λi g K L hc=>?_,hd,hl⟩
 .obtain⟨op,d,o⟩:=eE z;by_cases M:op.g=0
  .have:=knows_own d;grind
  .rcases gg op.g c with b|n
   .exact(h.elder i op a d M b o A).imp id λx=>⟨pp x.1,x.2⟩
   .rcases gg op.g (c+j) with f|f
    .by_cases hc:t.counts i
     .exact pp ⟨q,J,v,w,pu (key i op.g n f (s d) hc)⟩
     .have y:a.kind=pk:=jl λy=>hc ⟨a,z,A,pp y⟩
      rcases h.child i op a d n o with e|e
      .rw[y]at e;cases e
      grind
    .rw[h.LY i op d f]at o;cases o
 .rcases gg g c with b|n
  .exact h.over i g K L b hc
  .rcases gg g (c+j) with f|f
   .grind
   .obtain⟨x,N,_⟩:=hc;obtain⟨op,d,C⟩:=eE N;have:op.g=g:=aS;rw[h.LY i op d ab]at C;cases C
end
end Go.Ph
namespace Go.cD
open Go.ConcN (sumTo upd sumTo_upd upd_ne upd_same sumTo_congr le_sumTo sumTo_le)
inductive Pc where
 |out|l0|r0|c1|r1|c2|r3|s1|r2|a1|u0|uc|ux|us
 deriving DecidableEq,Repr
structure Wd where
 l:Bool:=ge
 w:Bool:=ge
 s:Bool:=ge
 k:Nat:=0
 deriving DecidableEq,Repr
structure Th where
 pc:Pc
 old:Wd:={}
 nw:Wd:={}
 aw:Bool:=ge
 sv:Bool:=ge
 it:Nat:=0
 ex:Bool:=ge
 r:Nat
 deriving DecidableEq,Repr
variable {C q:Th}
def qZ(T:Th):Wd:=
 { l:=T.old.l || !T.old.s,w:=T.old.w && !T.aw,s:=T.old.s||(T.sv&&T.old.l),k:=if T.old.l||T.old.s then T.old.k+1 else T.old.k }
def eR(T:Th):Th:={ T with pc:=.c2,nw:=qZ T }
def spin(T:Th):Th:={ T with pc:=if !T.aw && !T.old.w&&T.old.k != 0 then .c1 else .r1 }
inductive Head(T:Th):Th->Prop
 |c2:Head T (eR T)
 |spin:T.old.l=gc->T.old.s=ge->T.it<4->Head T (spin T)
def bP(r:Nat):Th:=if r<=1 then { pc:=.out,r:=0 } else { pc:=.l0,r:=r-1 }
inductive Mv(w:Wd)(ms:Nat):Th->Th->Wd->Nat->Prop
 |lock (T:Th):T.pc=.l0->w={}->Mv w ms T { pc:=.u0,r:=T.r } { l:=gc } ms
 |acJ (T:Th):T.pc=.l0->w≠{}->Mv w ms T { pc:=.r0,r:=T.r } w ms
 |Ws (T H:Th):T.pc=.r0->Head { pc:=.r0,old:=w,r:=T.r } H->Mv w ms T H w ms
 |Wt (T:Th):T.pc=.c1->w=T.old->Mv w ms T { T with pc:=.r1,aw:=gc } { w with w:=gc } ms
 |Wu (T:Th):T.pc=.c1->w≠T.old->Mv w ms T { T with pc:=.r1 } w ms
 |Wv (T H:Th):T.pc=.r1->Head { T with old:=w,it:=T.it+1 } H->Mv w ms T H w ms
 |take (T:Th):T.pc=.c2->w=T.old->w.l=ge->w.s=ge->Mv w ms T { pc:=.u0,r:=T.r } T.nw ms
 |queue (T:Th):T.pc=.c2->w=T.old->(w.l=gc\/w.s=gc)->Mv w ms T { pc:=.s1,sv:=T.sv,r:=T.r } T.nw ms
 |Ww (T:Th):T.pc=.c2->w≠T.old->Mv w ms T { T with pc:=.r3 } w ms
 |Wx (T H:Th):T.pc=.r3->Head { T with old:=w } H->Mv w ms T H w ms
 |woken (T:Th) (b:Bool):T.pc=.s1->(T.sv=gc->b=gc)->ms≠0->Mv w ms T { pc:=.r2,sv:=b,r:=T.r } w (ms-1)
 |Wz (T H:Th):T.pc=.r2->w.s=ge->Head { T with old:=w,aw:=gc,it:=0 } H->Mv w ms T H w ms
 |handed (T:Th):T.pc=.r2->w.s=gc->Mv w ms T { pc:=.a1,sv:=T.sv,ex:=!T.sv||w.k==1,r:=T.r } w ms
 |acK (T:Th):T.pc=.a1->Mv w ms T { pc:=.u0,r:=T.r } { l:=gc,w:=w.w,s:=w.s && !T.ex,k:=w.k-1 } ms
 |free (T:Th):T.pc=.u0->w.s=ge->(w.k=0\/w.w=gc)->Mv w ms T (bP T.r) { w with l:=ge } ms
 |hand (T:Th):T.pc=.u0->w.s=gc->Mv w ms T { pc:=.us,r:=T.r } { w with l:=ge } ms
 |acL (T:Th):T.pc=.u0->w.s=ge->w.k≠0->w.w=ge->Mv w ms T { pc:=.uc,old:={ w with l:=ge },r:=T.r } { w with l:=ge } ms
 |release (T:Th):T.pc=.uc->w=T.old->Mv w ms T { pc:=.us,r:=T.r } { w with k:=w.k-1,w:=gc } ms
 |again (T:Th):T.pc=.uc->w≠T.old->Mv w ms T { pc:=.ux,r:=T.r } w ms
 |leave (T:Th):T.pc=.ux->(w.k=0\/w.l=gc\/w.w=gc\/w.s=gc)->Mv w ms T (bP T.r) w ms
 |WA (T:Th):T.pc=.ux->w.k≠0->w.l=ge->w.w=ge->w.s=ge->Mv w ms T { pc:=.uc,old:=w,r:=T.r } w ms
 |post (T:Th):T.pc=.us->Mv w ms T (bP T.r) w (ms+1)
def fh(T:Th):Nat:=if T.pc=.u0 then 1 else 0
def fq(T:Th):Nat:=if T.pc=.s1 then 1 else 0
def fk(T:Th):Nat:=if T.pc=.r2 then 1 else 0
def fa(T:Th):Nat:=if T.pc=.a1 then 1 else 0
def fr(T:Th):Nat:=if T.pc=.us then 1 else 0
def fw(T:Th):Nat:=if T.aw then 1 else 0
def fu(T:Th):Nat:=if T.pc=.uc\/T.pc=.ux then 1 else 0
structure Tok(n:Nat)(T:Th):Prop where
 aw:T.aw=gc->T.pc=.r1\/T.pc=.c2\/T.pc=.r3
 sv:T.pc=.r1\/T.pc=.c1\/T.pc=.c2\/T.pc=.r3->T.sv=gc->T.aw=gc
 c1:T.pc=.c1->T.old.l=gc/\T.old.s=ge/\T.old.w=ge/\T.old.k≠0
 it:T.pc=.c1\/T.pc=.r1->T.it<4
 Yv:T.it<=4
 c2:T.pc=.c2->T.nw=qZ T
 c2w:T.pc=.c2->T.aw=gc->T.old.w=gc
 uc:T.pc=.uc->T.old.l=ge/\T.old.s=ge/\T.old.w=ge/\T.old.k≠0
 old:T.old.k<=n
 r:T.pc≠.out->1<=T.r
 r0:T.pc=.out->T.r=0
structure St where
 th:Nat->Th
 w:Wd
 ms:Nat
structure Inv(n:Nat)(s:St):Prop where
 tok:∀i,i<n->Tok n (s.th i)
 hold:sumTo n (λi=>fh (s.th i))<=1
 lock:s.w.l=gc↔sumTo n (λi=>fh (s.th i))=1
 norm:s.w.s=ge->sumTo n (λi=>fw (s.th i))+sumTo n (λi=>fr (s.th i))+s.ms+sumTo n (λi=>fk (s.th i))=(if s.w.w then 1 else 0)/\
  sumTo n (λi=>fa (s.th i))=0/\sumTo n (λi=>fq (s.th i))=s.w.k+sumTo n (λi=>fr (s.th i))+s.ms
 star:s.w.s=gc->s.w.w=ge/\sumTo n (λi=>fw (s.th i))=0/\
  sumTo n (λi=>fh (s.th i))+sumTo n (λi=>fr (s.th i))+s.ms+sumTo n (λi=>fk (s.th i))+sumTo n (λi=>fa (s.th i))=1/\
  sumTo n (λi=>fq (s.th i))+sumTo n (λi=>fk (s.th i))+sumTo n (λi=>fa (s.th i))=s.w.k
 Yw:s.w.s=ge->s.w.w=ge->s.w.l=ge->s.w.k≠0->1<=sumTo n (λi=>fu (s.th i))
def am(T:Th):Nat:=match T.pc with
 |.out=>0
 |.u0=>2*T.r-1
 |.uc | .ux | .us=>2*(T.r-1)
 |_=>2*T.r
def wt(n:Nat)(w:Wd)(T:Th):Nat:=
 let e:=if T.aw then 0 else 4*n+1
 match T.pc with
 |.out | .s1 | .u0=>0
 |.l0=>8*n+20
 |.r0=>8*n+19
 |.c1=>4*n+1+e+3*(4-T.it)+3
 |.r1=>4*n+1+e+3*(4-T.it)+2
 |.c2=>4*n+1+e+3*(4-T.it)+4+(if T.old=w then 0 else 4)
 |.r3=>4*n+1+e+3*(4-T.it)+5
 |.r2=>4*n+18
 |.a1=>1
 |.us=>12*n+40
 |.uc=>16*n+41+(if T.old=w then 0 else 2)
 |.ux=>16*n+42
def nQ(n:Nat)(s:St):Nat:=sumTo n (λi=>am (s.th i))
def uh(n:Nat)(s:St):Nat:=sumTo n (λi=>wt n s.w (s.th i))+(4*n+19)*s.ms
def oC{f g:Nat->Nat}{c:Nat}:∀{j:Nat},(∀i,i<j->f i<=g i+c)->sumTo j f<=sumTo j g+c*j
 |0,_=>by simp[sumTo]
 |j+1,h=>by
  have:=oC (f:=f) (g:=g) (c:=c) (j:=j) λi hi=>h i ab;have:=h j ab;simp only[sumTo,gp,jR];omega
def acM(n:Nat)(w w':Wd)(T:Th):wt n w' T<=wt n w T+4:=by
 unfold wt;grind
section
variable {n:Nat}{s:St}{i:Nat}{T':Th}{w':Wd}{ms':Nat}
structure ahY(n:Nat)(th:Nat->Th)(i:Nat)(T':Th):Prop where
 h:sumTo n (λa=>fh (upd th i T' a))+fh (th i)=sumTo n (λa=>fh (th a))+fh T'
 q:sumTo n (λa=>fq (upd th i T' a))+fq (th i)=sumTo n (λa=>fq (th a))+fq T'
 k:sumTo n (λa=>fk (upd th i T' a))+fk (th i)=sumTo n (λa=>fk (th a))+fk T'
 a:sumTo n (λa=>fa (upd th i T' a))+fa (th i)=sumTo n (λa=>fa (th a))+fa T'
 r:sumTo n (λa=>fr (upd th i T' a))+fr (th i)=sumTo n (λa=>fr (th a))+fr T'
 w:sumTo n (λa=>fw (upd th i T' a))+fw (th i)=sumTo n (λa=>fw (th a))+fw T'
 u:sumTo n (λa=>fu (upd th i T' a))+fu (th i)=sumTo n (λa=>fu (th a))+fu T'
def acN(a:Nat->Th)(T':Th)(hi:i<n):ahY n a i T':=
 ⟨g0 a T' fh hi,g0 a T' fq hi,g0 a T' fk hi,g0 a T' fa hi,g0 a T' fr hi,g0 a T' fw hi,g0 a T' fu hi⟩
def OY(n:Nat)(s' s:St):Prop:=nQ n s'<nQ n s\/(nQ n s'=nQ n s/\uh n s'<uh n s)
def pQ(hi:i<n)(h:am T'<am (s.th i)):OY n ⟨upd s.th i T',w',ms'⟩ s:=by
 left;have:=g0 s.th T' am hi;unfold nQ;simp only;omega
def fI(hi:i<n)(h:am T'=am (s.th i))(a:wt n s.w T'+(4*n+19)*ms'<wt n s.w (s.th i)+(4*n+19)*s.ms):OY n ⟨upd s.th i T',s.w,ms'⟩ s:=by
 right;have e1:=g0 s.th T' am hi;have b:=g0 s.th T' (wt n s.w) hi;refine⟨by unfold nQ;simp only;omega,?_⟩;unfold uh;grind
def uj(hi:i<n)(h:am T'=am (s.th i))(b:wt n w' T'+4*n<wt n w' (s.th i)):OY n ⟨upd s.th i T',w',s.ms⟩ s:=by
 right;have e1:=g0 s.th T' am hi;have d:=g0 s.th T' (wt n w') hi;have e:=oC (j:=n) (f:=λa=>wt n w' (s.th a)) (g:=λa=>wt n s.w (s.th a)) (c:=4) λi _=>acM n s.w w' (s.th i);refine⟨by unfold nQ;simp only;omega,?_⟩;unfold uh;simp only;omega
def Head.pc{T H:Th}(h:Head T H):H.pc=.c2\/H.pc=.c1\/H.pc=.r1:=by
 cases h with
 |c2=>exact pp rfl
 |spin _ _ _=>unfold cD.spin;split<;>simp_all
def Head.r{T H:Th}(h:Head T H):H.r=T.r:=by cases h<;>rfl
def Head.aw{T H:Th}(h:Head T H):H.aw=T.aw:=by cases h<;>rfl
def Head.old{T H:Th}(h:Head T H):H.old=T.old:=by cases h<;>rfl
def Head.sv{T H:Th}(h:Head T H):H.sv=T.sv:=by cases h<;>rfl
def Head.it{T H:Th}(h:Head T H):H.it=T.it:=by cases h<;>rfl
def Head.tok(h:Head q C)(d:1<=q.r)(hs:q.sv=gc->q.aw=gc)(f:q.it<=4)(g:q.old.k<=n)(j:q.aw=gc->q.old.w=gc):Tok n C:=by
 have l:=h.pc;refine⟨λx=>?_,λ_ x=>?_,λx=>?_,λx=>?_,by rw[h.it];exact f,λx=>?_,λx y=>?_,λx=>?_,by rw[h.old];exact g,λ_=>by rw[h.r];exact d,λx=>?_⟩
 .rcases l with e|e|e
  .exact pu (pp e)
  .cases h with
   |c2=>cases e
   |spin b c a=>
    unfold cD.spin at e x;grind
  .exact pp e
 .rw[h.aw];exact hs (by rw[<-h.sv];exact x)
 .cases h with
  |c2=>cases x
  |spin b c a=>
   unfold cD.spin at x ⊢;grind
 .cases h with
  |c2=>rcases x with x|x<;>cases x
  |spin b c a=>exact a
 .cases h with
  |c2=>rfl
  |spin b c a=>
   unfold cD.spin at x;grind
 .rw[h.old];exact j (by rw[<-h.aw];exact y)
 .grind
 grind
def Head.counts(h:Head q C):fh C=0/\fq C=0/\fk C=0/\fa C=0/\fr C=0/\fu C=0/\fw C=fw q:=by
 have a:=h.pc;refine⟨?_,?_,?_,?_,?_,?_,?_⟩
 .unfold fh;grind
 .unfold fq;grind
 .unfold fk;grind
 .unfold fa;grind
 .unfold fr;grind
 .unfold fu;grind
 .unfold fw;rw[h.aw]
def Head.am{T H:Th}(h:Head T H):am H=2*T.r:=by
 unfold cD.am
 rcases h.pc with e|e|e<;>simp[e,h.r]
def Head.wt{T H:Th}(h:Head T H):wt n T.old H<=4*n+1+(if T.aw then 0 else 4*n+1)+3*(4-T.it)+4:=by
 unfold cD.wt
 rcases h.pc with e|e|e<;>simp[e,h.aw,h.it,h.old]
def lz(r:Nat):fh (bP r)=0/\fq (bP r)=0/\fk (bP r)=0/\fa (bP r)=0/\fr (bP r)=0/\fu (bP r)=0/\fw (bP r)=0:=by
 unfold bP;by_cases h:r<=1<;>simp[h,fh,fq,fk,fa,fr,fu,fw]
def uk(r:Nat):am (bP r)=2*(r-1):=by
 unfold bP;by_cases h:r<=1
 .rw[if_pos h];show 0=_;omega
 .rw[if_neg h];rfl
def Ai(r:Nat)(w:Wd):wt n w (bP r)<=8*n+20:=by
 unfold bP wt;split<;>simp
def dg(b:q.aw=ge)(j:q.pc≠.r1)(c:q.pc≠.c1)(a:q.pc≠.c2)(l:q.pc≠.r3)(d:q.pc≠.uc)(e:q.old.k<=n)(f:q.pc≠.out->1<=q.r)(g:q.pc=.out->q.r=0)(h:q.it<=4):Tok n q where
 aw x:=by rw[b]at x;cases x
 sv x:=aS
 c1 x:=absurd x c
 it x:=aS
 Yv:=h
 c2 x:=absurd x a
 c2w x:=absurd x a
 uc x:=absurd x d
 old:=e
 r:=f
 r0:=g
def ri(r:Nat):Tok n (bP r):=by
 unfold bP;split
 .exact dg rfl ar ar ar ar ar ar ar ar ar
 .exact dg rfl ar ar ar ar ar ar aS ar ar
def ew(h:Inv n s)(a:Tok n T'):∀j,j<n->Tok n (upd s.th i T' j):=by
 intro j b;by_cases e:j=i
 .subst e;rw[g1];exact a
 .rw[g6 _ _ e];exact h.tok j b
def fX(h:Inv n s)(hi:i<n)(f:Tok n T')(c1:fh T'=fh (s.th i))(j:fq T'=fq (s.th i))(c3:fk T'=fk (s.th i))(l:fa T'=fa (s.th i))(m:fr T'=fr (s.th i))(o:fu T'=fu (s.th i))(p:fw T'=fw (s.th i)) :
 Inv n ⟨upd s.th i T',s.w,s.ms⟩:=by
 have S:=acN s.th T' hi;have e1:sumTo n (λa=>fh (upd s.th i T' a))=sumTo n (λa=>fh (s.th a)):=by have:=S.h;omega
 have b:sumTo n (λa=>fq (upd s.th i T' a))=sumTo n (λa=>fq (s.th a)):=by have:=S.q;omega
 have c:sumTo n (λa=>fk (upd s.th i T' a))=sumTo n (λa=>fk (s.th a)):=by have:=S.k;omega
 have d:sumTo n (λa=>fa (upd s.th i T' a))=sumTo n (λa=>fa (s.th a)):=by have:=S.a;omega
 have e5:sumTo n (λa=>fr (upd s.th i T' a))=sumTo n (λa=>fr (s.th a)):=by have:=S.r;omega
 have e:sumTo n (λa=>fw (upd s.th i T' a))=sumTo n (λa=>fw (s.th a)):=by have:=S.w;omega
 have g:sumTo n (λa=>fu (upd s.th i T' a))=sumTo n (λa=>fu (s.th a)):=by have:=S.u;omega
 refine⟨ew h f,?_,?_,?_,?_,?_⟩
 .show sumTo n (λa=>fh (upd s.th i T' a))<=1;rw[e1];exact h.hold
 .show _↔sumTo n (λa=>fh (upd s.th i T' a))=1;rw[e1];exact h.lock
 .show _->sumTo n (λa=>fw (upd s.th i T' a))+sumTo n (λa=>fr (upd s.th i T' a))+s.ms+sumTo n (λa=>fk (upd s.th i T' a))=_/\sumTo n (λa=>fa (upd s.th i T' a))=0/\sumTo n (λa=>fq (upd s.th i T' a))=s.w.k+sumTo n (λa=>fr (upd s.th i T' a))+s.ms;rw[b,c,d,e5,e];exact h.norm
 .show _->s.w.w=ge/\sumTo n (λa=>fw (upd s.th i T' a))=0/\sumTo n (λa=>fh (upd s.th i T' a))+sumTo n (λa=>fr (upd s.th i T' a))+s.ms+sumTo n (λa=>fk (upd s.th i T' a))+sumTo n (λa=>fa (upd s.th i T' a))=1/\sumTo n (λa=>fq (upd s.th i T' a))+sumTo n (λa=>fk (upd s.th i T' a))+sumTo n (λa=>fa (upd s.th i T' a))=s.w.k;rw[e1,b,c,d,e5,e];exact h.star
 .show _->_->_->_->1<=sumTo n (λa=>fu (upd s.th i T' a));rw[g];exact h.Yw
structure Num(n:Nat)(s:St)(H Q K A R W U:Nat):Prop where
 h:sumTo n (λa=>fh (s.th a))=H
 q:sumTo n (λa=>fq (s.th a))=Q
 k:sumTo n (λa=>fk (s.th a))=K
 a:sumTo n (λa=>fa (s.th a))=A
 r:sumTo n (λa=>fr (s.th a))=R
 w:sumTo n (λa=>fw (s.th a))=W
 u:sumTo n (λa=>fu (s.th a))=U
def inv_of(tok:∀i,i<n->Tok n (s.th i)){H Q K A R W U:Nat}(N:Num n s H Q K A R W U)(a:H<=1)(b:s.w.l=gc↔H=1)
 (c:s.w.s=ge->W+R+s.ms+K=(if s.w.w then 1 else 0)/\A=0/\Q=s.w.k+R+s.ms)
 (d:s.w.s=gc->s.w.w=ge/\W=0/\H+R+s.ms+K+A=1/\Q+K+A=s.w.k)
 (e:s.w.s=ge->s.w.w=ge->s.w.l=ge->s.w.k≠0->1<=U):Inv n s:=by
 obtain⟨rfl,rfl,rfl,rfl,rfl,rfl,rfl⟩:=N;exact⟨tok,a,b,c,d,e⟩
def Inv.num(h:Inv n s):∃H Q K A R W U,Num n s H Q K A R W U/\H<=1/\(s.w.l=gc↔H=1)/\
 (s.w.s=ge->W+R+s.ms+K=(if s.w.w then 1 else 0)/\A=0/\Q=s.w.k+R+s.ms)/\
 (s.w.s=gc->s.w.w=ge/\W=0/\H+R+s.ms+K+A=1/\Q+K+A=s.w.k)/\
 (s.w.s=ge->s.w.w=ge->s.w.l=ge->s.w.k≠0->1<=U):=
 ⟨_,_,_,_,_,_,_,⟨rfl,rfl,rfl,rfl,rfl,rfl,rfl⟩,h.hold,h.lock,h.norm,h.star,h.Yw⟩
def Num.upd{H Q K A R W U:Nat}(N:Num n s H Q K A R W U)(hi:i<n){T:Th}(b:s.th i=T):fh T<=H/\fq T<=Q/\fk T<=K/\fa T<=A/\fr T<=R/\fw T<=W/\fu T<=U/\
 Num n ⟨g7 s.th i T',w',ms'⟩ (H-fh T+fh T') (Q-fq T+fq T') (K-fk T+fk T') (A-fa T+fa T') (R-fr T+fr T') (W-fw T+fw T') (U-fu T+fu T'):=by
 obtain⟨rfl,rfl,rfl,rfl,rfl,rfl,rfl⟩:=N;subst b;have S:=acN s.th T' hi;have c:=g8 (f:=λa=>fh (s.th a)) hi;have d:=g8 (f:=λa=>fq (s.th a)) hi;have e:=g8 (f:=λa=>fk (s.th a)) hi;have g:=g8 (f:=λa=>fa (s.th a)) hi;have j:=g8 (f:=λa=>fr (s.th a)) hi;have l:=g8 (f:=λa=>fw (s.th a)) hi;have m:=g8 (f:=λa=>fu (s.th a)) hi;refine⟨c,d,e,g,j,l,m,⟨?_,?_,?_,?_,?_,?_,?_⟩⟩<;>simp only
 .have:=S.h;omega
 .have:=S.q;omega
 .have:=S.k;omega
 .have:=S.a;omega
 .have:=S.r;omega
 .have:=S.w;omega
 .have:=S.u;omega
structure Safe(T:Th)(w:Wd):Prop where
 u0:T.pc=.u0->w.l=gc
 r2:T.pc=.r2->w.s=gc->w.l=ge/\w.w=ge/\w.k≠0
 a1:T.pc=.a1->w.l=ge/\w.w=ge/\w.s=gc/\w.k≠0
 aw:T.aw=gc->w.w=gc/\w.s=ge
 r2n:T.pc=.r2->w.s=ge->w.w=gc
def Inv.safe(h:Inv n s)(hi:i<n):Safe (s.th i) s.w:=by
 obtain⟨H,Q,K,A,R,W,U,N,d,a,b,c,f⟩:=h.num;obtain⟨g,j,k,l,m,o,p,_⟩:=N.upd (T':=s.th i) (w':=s.w) (ms':=s.ms) hi rfl;refine⟨λe=>?_,λe hs=>?_,λe=>?_,λe=>?_,λe hs=>?_⟩
 .have:fh (s.th i)=1:=by simp[fh,e]
  exact a.2 ab
 .have e1:fk (s.th i)=1:=by simp[fk,e]
  grind
 .have e1:fa (s.th i)=1:=by simp[fa,e]
  cases hs:s.w.s with
  |false=>have:=(b hs).2.1;omega
  |true=>
   grind
 .have e1:fw (s.th i)=1:=by simp[fw,e]
  cases hs:s.w.s with
  |true=>have:=(c hs).2.1;omega
  |false=>
   grind
 .have e1:fk (s.th i)=1:=by simp[fk,e]
  grind
def Inv.small(h:Inv n s):s.w.k<=n:=by
 have b:∀f:Th->Nat,(∀T,f T<=1)->sumTo n (λa=>f (s.th a))<=n:=λf hf=>by
  have:=g9 (f:=λa=>f (s.th a)) (c:=1) (j:=n) λi _=>hf _;omega
 cases hs:s.w.s with
 |false=>
  have:=(h.norm hs).2.2;have:=b fq (λT=>by unfold fq;split<;>omega);omega
 |true=>
  have:=(h.star hs).2.2.2;have:=b (λT=>fq T+fk T+fa T) (λT=>by unfold fq fk fa;cases T.pc<;>simp);have e:∀j,sumTo j (λa=>fq (s.th a)+fk (s.th a)+fa (s.th a))=sumTo j (λa=>fq (s.th a))+sumTo j (λa=>fk (s.th a))+sumTo j (λa=>fa (s.th a)):=by
   intro j
   induction j with
   |zero=>rfl
   |succ j d=>simp only[sumTo,d];omega
  rw[e]at this;omega
end
section
variable {n:Nat}{s:St}{i:Nat}{T T':Th}{w':Wd}{ms':Nat}
def Inv.move(h:Inv n s)(hi:i<n)(c:s.th i=T)(m:Mv s.w s.ms T T' w' ms'):Inv n ⟨upd s.th i T',w',ms'⟩/\OY n ⟨upd s.th i T',w',ms'⟩ s:=by
 have d:Tok n T:=c▸h.tok i hi;have P:Safe T s.w:=c▸h.safe hi;have small:=h.small
 cases m with
 |lock a C=>
  have f:=d.r (by rw[a];simp)
  have g:T.aw=ge:=by cases e:T.aw with|false=>rfl|true=>rcases d.aw e with x|x|x<;>rw[a]at x<;>cases x
  refine⟨?_,pQ hi (by rw[c];simp only[am,a];omega)⟩;obtain⟨H,Q,K,A,R,W,U,N,z,y,B,F,D⟩:=h.num;obtain⟨t,o,j,p,q,u,v,N'⟩:=N.upd (T':={ pc:=.u0,r:=T.r }) (w':={ l:=gc }) (ms':=s.ms) hi c;rw[C]at y B F D;simp only[fh,fq,fk,fa,fr,fw,fu,a,g]at N' t o j p q u v;simp at y B F D N';refine inv_of (ew h (dg rfl ar ar ar ar ar ar (λ_=>f) ar ar)) N' ab (by simp;omega) (by simp;omega) ar ar
 |acJ a C=>
  have f:=d.r (by rw[a];simp)
  have g:T.aw=ge:=by cases e:T.aw with|false=>rfl|true=>rcases d.aw e with x|x|x<;>rw[a]at x<;>cases x
  refine⟨fX h hi (dg rfl ar ar ar ar ar ar (λ_=>f) ar ar) ?_ ?_ ?_ ?_ ?_ ?_ ?_,fI hi (by rw[c];simp[am,a]) (by rw[c];simp[wt,a])⟩<;>simp[c,fh,fq,fk,fa,fr,fw,fu,a,g]
 |Ws _ a E=>
  have f:=d.r (by rw[a];simp)
  have g:T.aw=ge:=by cases e:T.aw with|false=>rfl|true=>rcases d.aw e with x|x|x<;>rw[a]at x<;>cases x
  obtain⟨c1,I,c3,J,L,M,O⟩:=E.counts;refine⟨fX h hi (E.tok f ar ar small ar) ?_ ?_ ?_ ?_ ?_ ?_ ?_,fI hi (by rw[c,E.am];simp[am,a]) ?_⟩
  .rw[c,c1];simp[fh,a]
  .rw[c,I];simp[fq,a]
  .rw[c,c3];simp[fk,a]
  .rw[c,J];simp[fa,a]
  .rw[c,L];simp[fr,a]
  .rw[c,M];simp[fu,a]
  .rw[c,O];simp[fw,g]
  .have S:=E.wt (n:=n);simp at S;rw[c];have e:wt n s.w T=8*n+19:=by simp[wt,a]
   omega
 |Wt a C=>
  have f:=d.r (by rw[a];simp);have zf:=d.it (pp a);obtain⟨o1,V,Z,o4⟩:=d.c1 a
  have g:T.aw=ge:=by cases e:T.aw with|false=>rfl|true=>rcases d.aw e with x|x|x<;>rw[a]at x<;>cases x
  refine⟨?_,uj hi (by rw[c];simp[am,a]) (by rw[c];simp[wt,a,g];omega)⟩;obtain⟨H,Q,K,A,R,W,U,N,z,y,B,F,D⟩:=h.num;obtain⟨t,o,j,p,q,u,v,N'⟩:=N.upd (T':={ T with pc:=.r1,aw:=gc }) (w':={ s.w with w:=gc }) (ms':=s.ms) hi c;rw[<-C]at o1 V Z o4;obtain⟨X,g2,g3⟩:=B V;simp[Z]at X;simp only[fh,fq,fk,fa,fr,fw,fu,a,g]at N' t o j p q u v;simp at N';refine inv_of (ew h ?_) N' z (by simpa using y) (by simp;omega) (by simp[V]) ar;exact⟨λ_=>pp rfl,λ_ _=>rfl,λx=>(by cases x),λ_=>zf,d.Yv,λx=>(by cases x),λx=>(by cases x),λx=>(by cases x),d.old,λ_=>f,λx=>(by cases x)⟩
 |Wu a C=>
  have f:=d.r (by rw[a];simp);have zf:=d.it (pp a)
  have g:T.aw=ge:=by cases e:T.aw with|false=>rfl|true=>rcases d.aw e with x|x|x<;>rw[a]at x<;>cases x
  refine⟨fX h hi ?_ ?_ ?_ ?_ ?_ ?_ ?_ ?_,fI hi (by rw[c];simp[am,a]) (by rw[c];simp[wt,a])⟩
  .exact⟨λx=>pp rfl,λ_ x=>d.sv (pu (pp a)) x,λx=>(by cases x),λ_=>zf,d.Yv,λx=>(by cases x),λx=>(by cases x),λx=>(by cases x),d.old,λ_=>f,λx=>(by cases x)⟩
  all_goals simp[c,fh,fq,fk,fa,fr,fw,fu,a]
 |Wv _ a E=>
  have f:=d.r (by rw[a];simp);have zf:=d.it (pu a);obtain⟨c1,I,c3,J,L,M,O⟩:=E.counts;refine⟨fX h hi (E.tok f (λx=>d.sv (pp a) x) (by show T.it+1<=4;omega) small (λx=>(P.aw x).1)) ?_ ?_ ?_ ?_ ?_ ?_ ?_,fI hi (by rw[c,E.am];simp[am,a]) ?_⟩
  .rw[c,c1];simp[fh,a]
  .rw[c,I];simp[fq,a]
  .rw[c,c3];simp[fk,a]
  .rw[c,J];simp[fa,a]
  .rw[c,L];simp[fr,a]
  .rw[c,M];simp[fu,a]
  .rw[c,O];simp[fw]
  .have S:=E.wt (n:=n);simp at S;rw[c];have e:wt n s.w T=4*n+1+(if T.aw then 0 else 4*n+1)+3*(4-T.it)+2:=by simp[wt,a]
   omega
 |take a C hl hs=>
  have f:=d.r (by rw[a];simp);refine⟨?_,pQ hi (by rw[c];simp only[am,a];omega)⟩;obtain⟨H,Q,K,A,R,W,U,N,z,y,B,F,D⟩:=h.num;obtain⟨t,o,j,p,q,u,v,N'⟩:=N.upd (T':={ pc:=.u0,r:=T.r }) (w':=T.nw) (ms':=s.ms) hi c;have Y:T.nw={ l:=gc,w:=s.w.w && !T.aw,s:=ge,k:=s.w.k }:=by rw[d.c2 a,qZ,<-C];simp[hl,hs]
  rw[Y]at N' ⊢;obtain⟨X,g2,g3⟩:=B hs;have hH0:H=0:=by
   grind
  have g:T.aw=gc->s.w.w=gc:=λx=>(P.aw x).1;simp only[fh,fq,fk,fa,fr,fw,fu,a]at N' t o j p q u v;simp at N';refine inv_of (ew h (dg rfl ar ar ar ar ar ar (λ_=>f) ar ar)) N' ab (by simp;omega) (λ_=>?_) ar ar;grind
 |queue a C Fz=>
  have f:=d.r (by rw[a];simp);refine⟨?_,uj hi (by rw[c];simp[am,a]) (by rw[c];simp[wt,a];omega)⟩;obtain⟨H,Q,K,A,R,W,U,N,z,y,B,F,D⟩:=h.num;obtain⟨t,o,j,p,q,u,v,N'⟩:=N.upd (T':={ pc:=.s1,sv:=T.sv,r:=T.r }) (w':=T.nw) (ms':=s.ms) hi c;have g:T.aw=gc->s.w.w=gc/\s.w.s=ge:=λx=>P.aw x;have hsv:T.sv=gc->T.aw=gc:=d.sv (pu (pu (pp a)));have zz:(s.w.l||s.w.s)=gc:=aS;have Y:T.nw={ l:=s.w.l || !s.w.s,w:=s.w.w && !T.aw,s:=s.w.s||(T.sv&&s.w.l),k:=s.w.k+1 }:=by rw[d.c2 a,qZ,<-C,if_pos zz]
  rw[Y]at N' ⊢;simp only[fh,fq,fk,fa,fr,fw,fu,a]at N' t o j p q u v;simp at N';refine inv_of (ew h (dg rfl ar ar ar ar ar ar (λ_=>f) ar ar)) N' z ?_ ?_ ?_ ?_
  .grind
  .grind
  .grind
  grind
 |Ww a C=>
  have f:=d.r (by rw[a];simp);refine⟨fX h hi ?_ ?_ ?_ ?_ ?_ ?_ ?_ ?_,fI hi (by rw[c];simp[am,a]) (by rw[c];simp[wt,a,gr C])⟩
  .exact⟨λx=>pu (pu rfl),λ_ x=>d.sv (pu (pu (pp a))) x,λx=>(by cases x),λx=>aS,d.Yv,λx=>(by cases x),λx=>(by cases x),λx=>(by cases x),d.old,λ_=>f,λx=>(by cases x)⟩
  all_goals simp[c,fh,fq,fk,fa,fr,fw,fu,a]
 |Wx _ a E=>
  have f:=d.r (by rw[a];simp);obtain⟨c1,I,c3,J,L,M,O⟩:=E.counts;refine⟨fX h hi (E.tok f (λx=>d.sv (pu (pu (pu a))) x) d.Yv small (λx=>(P.aw x).1)) ?_ ?_ ?_ ?_ ?_ ?_ ?_,fI hi (by rw[c,E.am];simp[am,a]) ?_⟩
  .rw[c,c1];simp[fh,a]
  .rw[c,I];simp[fq,a]
  .rw[c,c3];simp[fk,a]
  .rw[c,J];simp[fa,a]
  .rw[c,L];simp[fr,a]
  .rw[c,M];simp[fu,a]
  .rw[c,O];simp[fw]
  .have S:=E.wt (n:=n);simp at S;rw[c];have e:wt n s.w T=4*n+1+(if T.aw then 0 else 4*n+1)+3*(4-T.it)+5:=by simp[wt,a]
   omega
 |woken b a hb GB=>
  have f:=d.r (by rw[a];simp)
  have g:T.aw=ge:=by cases e:T.aw with|false=>rfl|true=>rcases d.aw e with x|x|x<;>rw[a]at x<;>cases x
  refine⟨?_,fI hi (by rw[c];simp[am,a]) ?_⟩
  .obtain⟨H,Q,K,A,R,W,U,N,z,y,B,F,D⟩:=h.num;obtain⟨t,o,j,p,q,u,v,N'⟩:=N.upd (T':={ pc:=.r2,sv:=b,r:=T.r }) (w':=s.w) (ms':=s.ms-1) hi c;simp only[fh,fq,fk,fa,fr,fw,fu,a,g]at N' t o j p q u v;simp at N' o;refine inv_of (ew h (dg rfl ar ar ar ar ar ar (λ_=>f) ar ar)) N' z y (λhs=>?_) (λhs=>?_) D
   .grind
   grind
  .rw[c];have e1:wt n s.w T=0:=by simp[wt,a]
   have e2:wt n s.w { pc:=.r2,sv:=b,r:=T.r }=4*n+18:=rfl;obtain⟨m,hm⟩:∃m,s.ms=m+1:=⟨s.ms-1,ab⟩
   rw[e1,e2,hm,Nat.add_sub_cancel,gp,jR];omega
 |Wz _ a hs E=>
  have f:=d.r (by rw[a];simp)
  have g:T.aw=ge:=by cases e:T.aw with|false=>rfl|true=>rcases d.aw e with x|x|x<;>rw[a]at x<;>cases x
  obtain⟨c1,I,c3,J,L,M,O⟩:=E.counts;refine⟨?_,fI hi (by rw[c,E.am];simp[am,a]) ?_⟩
  .obtain⟨H,Q,K,A,R,W,U,N,z,y,B,F,D⟩:=h.num;obtain⟨t,o,j,p,q,u,v,N'⟩:=N.upd (T':=T') (w':=s.w) (ms':=s.ms) hi c;rw[c1,I,c3,J,L,M,O]at N';simp only[fh,fq,fk,fa,fr,fw,fu,a,g]at N' t o j p q u v;simp at N' j;refine inv_of (ew h (E.tok f (λx=>rfl) ar small (λ_=>P.r2n a hs))) N' z y (λhs=>?_) (λfR=>aS) D;grind
  .have S:=E.wt (n:=n);simp at S;rw[c];have e:wt n s.w T=4*n+18:=by simp[wt,a]
   omega
 |handed a hs=>
  have f:=d.r (by rw[a];simp)
  have g:T.aw=ge:=by cases e:T.aw with|false=>rfl|true=>rcases d.aw e with x|x|x<;>rw[a]at x<;>cases x
  refine⟨?_,fI hi (by rw[c];simp[am,a]) (by rw[c];simp[wt,a])⟩;obtain⟨H,Q,K,A,R,W,U,N,z,y,B,F,D⟩:=h.num;obtain⟨t,o,j,p,q,u,v,N'⟩:=N.upd (T':={ pc:=.a1,sv:=T.sv,ex:=!T.sv||s.w.k==1,r:=T.r }) (w':=s.w) (ms':=s.ms) hi c;simp only[fh,fq,fk,fa,fr,fw,fu,a,g]at N' t o j p q u v;simp at N' j;refine inv_of (ew h (dg rfl ar ar ar ar ar ar (λ_=>f) ar ar)) N' z y (λfR=>aS) (λ_=>?_) D;grind
 |acK a=>
  have f:=d.r (by rw[a];simp)
  have g:T.aw=ge:=by cases e:T.aw with|false=>rfl|true=>rcases d.aw e with x|x|x<;>rw[a]at x<;>cases x
  obtain⟨a1,a2,a3,a4⟩:=P.a1 a;refine⟨?_,pQ hi (by rw[c];simp only[am,a];omega)⟩;obtain⟨H,Q,K,A,R,W,U,N,z,y,B,F,D⟩:=h.num;obtain⟨t,o,j,p,q,u,v,N'⟩:=N.upd (T':={ pc:=.u0,r:=T.r }) (w':={ l:=gc,w:=s.w.w,s:=s.w.s && !T.ex,k:=s.w.k-1 }) (ms':=s.ms) hi c;simp only[fh,fq,fk,fa,fr,fw,fu,a,g]at N' t o j p q u v;simp at N' p;obtain⟨X,g2,g3,g4⟩:=F a3;refine inv_of (ew h (dg rfl ar ar ar ar ar ar (λ_=>f) ar ar)) N' ab (by simp;omega) (λ_=>?_) (λ_=>?_) ar
  .simp[a2];omega
  .simp[a2];omega
 |free a hs hk=>
  have f:=d.r (by rw[a];simp)
  have g:T.aw=ge:=by cases e:T.aw with|false=>rfl|true=>rcases d.aw e with x|x|x<;>rw[a]at x<;>cases x
  have hl:=P.u0 a;obtain⟨c1,I,c3,J,L,M,O⟩:=lz T.r;refine⟨?_,pQ hi (by rw[c,uk];simp only[am,a];omega)⟩;obtain⟨H,Q,K,A,R,W,U,N,z,y,B,F,D⟩:=h.num;obtain⟨t,o,j,p,q,u,v,N'⟩:=N.upd (T':=bP T.r) (w':={ s.w with l:=ge }) (ms':=s.ms) hi c;rw[c1,I,c3,J,L,M,O]at N';simp only[fh,fq,fk,fa,fr,fw,fu,a,g]at N' t o j p q u v;simp at N';have:=y.1 hl;refine inv_of (ew h (ri _)) N' ab (by simp;omega) (by simpa using B) (by simp[hs]) (λ_ FA _ WB=>?_);grind
 |hand a hs=>
  have f:=d.r (by rw[a];simp)
  have g:T.aw=ge:=by cases e:T.aw with|false=>rfl|true=>rcases d.aw e with x|x|x<;>rw[a]at x<;>cases x
  have hl:=P.u0 a;refine⟨?_,pQ hi (by rw[c];simp only[am,a];omega)⟩;obtain⟨H,Q,K,A,R,W,U,N,z,y,B,F,D⟩:=h.num;obtain⟨t,o,j,p,q,u,v,N'⟩:=N.upd (T':={ pc:=.us,r:=T.r }) (w':={ s.w with l:=ge }) (ms':=s.ms) hi c;simp only[fh,fq,fk,fa,fr,fw,fu,a,g]at N' t o j p q u v;simp at N';have:=y.1 hl;obtain⟨X,g2,g3,g4⟩:=F hs;refine inv_of (ew h (dg rfl ar ar ar ar ar ar (λ_=>f) ar ar)) N' ab (by simp;omega) (by simp[hs]) (λ_=>?_) (by simp[hs]);simp[X];omega
 |acL a hs hk C=>
  have f:=d.r (by rw[a];simp)
  have g:T.aw=ge:=by cases e:T.aw with|false=>rfl|true=>rcases d.aw e with x|x|x<;>rw[a]at x<;>cases x
  have hl:=P.u0 a;refine⟨?_,pQ hi (by rw[c];simp only[am,a];omega)⟩;obtain⟨H,Q,K,A,R,W,U,N,z,y,B,F,D⟩:=h.num;obtain⟨t,o,j,p,q,u,v,N'⟩:=N.upd (T':={ pc:=.uc,old:={ s.w with l:=ge },r:=T.r }) (w':={ s.w with l:=ge }) (ms':=s.ms) hi c;simp only[fh,fq,fk,fa,fr,fw,fu,a,g]at N' t o j p q u v;simp at N';have:=y.1 hl;refine inv_of (ew h ?_) N' ab (by simp;omega) (by simpa using B) (by simp[hs]) (λ_ _ _ _=>ab);exact⟨λx=>(by cases x),λx=>aS,λx=>(by cases x),λx=>aS,ar,λx=>(by cases x),λx=>(by cases x),λ_=>⟨rfl,hs,C,hk⟩,small,λ_=>f,λx=>(by cases x)⟩
 |release a C=>
  have f:=d.r (by rw[a];simp)
  have g:T.aw=ge:=by cases e:T.aw with|false=>rfl|true=>rcases d.aw e with x|x|x<;>rw[a]at x<;>cases x
  obtain⟨o1,V,Z,o4⟩:=d.uc a;refine⟨?_,uj hi (by rw[c];simp[am,a]) (by rw[c];simp[wt,a];omega)⟩;obtain⟨H,Q,K,A,R,W,U,N,z,y,B,F,D⟩:=h.num;obtain⟨t,o,j,p,q,u,v,N'⟩:=N.upd (T':={ pc:=.us,r:=T.r }) (w':={ s.w with k:=s.w.k-1,w:=gc }) (ms':=s.ms) hi c;rw[<-C]at o1 V Z o4;simp only[fh,fq,fk,fa,fr,fw,fu,a,g]at N' t o j p q u v;simp at N';obtain⟨X,g2,g3⟩:=B V;simp[Z]at X;refine inv_of (ew h (dg rfl ar ar ar ar ar ar (λ_=>f) ar ar)) N' z (by simpa using y) (λ_=>?_) (by simp[V]) ar;simp;omega
 |again a C=>
  have f:=d.r (by rw[a];simp)
  have g:T.aw=ge:=by cases e:T.aw with|false=>rfl|true=>rcases d.aw e with x|x|x<;>rw[a]at x<;>cases x
  refine⟨fX h hi (dg rfl ar ar ar ar ar ar (λ_=>f) ar ar) ?_ ?_ ?_ ?_ ?_ ?_ ?_,fI hi (by rw[c];simp[am,a]) (by rw[c];simp[wt,a,gr C])⟩<;>simp[c,fh,fq,fk,fa,fr,fw,fu,a,g]
 |leave a hk=>
  have f:=d.r (by rw[a];simp)
  have g:T.aw=ge:=by cases e:T.aw with|false=>rfl|true=>rcases d.aw e with x|x|x<;>rw[a]at x<;>cases x
  obtain⟨c1,I,c3,J,L,M,O⟩:=lz T.r;refine⟨?_,fI hi (by rw[c,uk];simp[am,a]) ?_⟩
  .obtain⟨H,Q,K,A,R,W,U,N,z,y,B,F,D⟩:=h.num;obtain⟨t,o,j,p,q,u,v,N'⟩:=N.upd (T':=bP T.r) (w':=s.w) (ms':=s.ms) hi c;rw[c1,I,c3,J,L,M,O]at N';simp only[fh,fq,fk,fa,fr,fw,fu,a,g]at N' t o j p q u v;simp at N';refine inv_of (ew h (ri _)) N' z y B F (λe1 e2 e3 e4=>?_);grind
  .rw[c];have e1:wt n s.w T=16*n+42:=by simp[wt,a]
   have:=Ai (n:=n) T.r s.w;omega
 |WA a hk hl C hs=>
  have f:=d.r (by rw[a];simp)
  have g:T.aw=ge:=by cases e:T.aw with|false=>rfl|true=>rcases d.aw e with x|x|x<;>rw[a]at x<;>cases x
  refine⟨fX h hi ?_ ?_ ?_ ?_ ?_ ?_ ?_ ?_,fI hi (by rw[c];simp[am,a]) (by rw[c];simp[wt,a])⟩
  .exact⟨λx=>(by cases x),λx=>aS,λx=>(by cases x),λx=>aS,ar,λx=>(by cases x),λx=>(by cases x),λ_=>⟨hl,hs,C,hk⟩,small,λ_=>f,λx=>(by cases x)⟩
  all_goals simp[c,fh,fq,fk,fa,fr,fw,fu,a,g]
 |post a=>
  have f:=d.r (by rw[a];simp)
  have g:T.aw=ge:=by cases e:T.aw with|false=>rfl|true=>rcases d.aw e with x|x|x<;>rw[a]at x<;>cases x
  obtain⟨c1,I,c3,J,L,M,O⟩:=lz T.r;refine⟨?_,fI hi (by rw[c,uk];simp[am,a]) ?_⟩
  .obtain⟨H,Q,K,A,R,W,U,N,z,y,B,F,D⟩:=h.num;obtain⟨t,o,j,p,q,u,v,N'⟩:=N.upd (T':=bP T.r) (w':=s.w) (ms':=s.ms+1) hi c;rw[c1,I,c3,J,L,M,O]at N';simp only[fh,fq,fk,fa,fr,fw,fu,a,g]at N' t o j p q u v;simp at N' q;refine inv_of (ew h (ri _)) N' z y (λhs=>?_) (λhs=>?_) D
   .grind
   grind
  .rw[c];have e1:wt n s.w T=12*n+40:=by simp[wt,a]
   have:=Ai (n:=n) T.r s.w;grind
def Inv.live(h:Inv n s)(hb:∀i,i<n->(s.th i).pc=.out\/((s.th i).pc=.s1/\s.ms=0)):∀i,i<n->(s.th i).pc=.out:=by
 have zero:∀f:Th->Nat,(∀T,T.pc=.out\/T.pc=.s1->f T=0)->sumTo n (λa=>f (s.th a))=0:=by
  intro f hf;have:=g9 (f:=λa=>f (s.th a)) (c:=0) (j:=n) λi hi=>aS;omega
 intro i hi
 rcases hb i hi with e|⟨e,g⟩
 .exact e
 exfalso;have z1:=zero fh (λT e=>by rcases e with e|e<;>simp[fh,e]);have k:=zero fk (λT e=>by rcases e with e|e<;>simp[fk,e]);have m:=zero fa (λT e=>by rcases e with e|e<;>simp[fa,e]);have o:=zero fr (λT e=>by rcases e with e|e<;>simp[fr,e]);have p:=zero fu (λT e=>by rcases e with e|e<;>simp[fu,e]);have q:sumTo n (λa=>fw (s.th a))=0:=by
  have:=g9 (f:=λa=>fw (s.th a)) (c:=0) (j:=n) λi hi=>by
   unfold fw;split
   .rename_i b
    rcases(h.tok i hi).aw b with x|x|x<;>grind<;>rw[y]at x<;>cases x
   .exact dk _
  omega
 have q1:1<=sumTo n (λa=>fq (s.th a)):=by
  have:=g8 (f:=λa=>fq (s.th a)) hi;have e1:fq (s.th i)=1:=by simp[fq,e]
  grind
 cases hs:s.w.s with
 |true=>have:=(h.star hs).2.2.1;omega
 |false=>
  obtain⟨r,t,u⟩:=h.norm hs;have d:s.w.w=ge:=by
   grind
  have hl:s.w.l=ge:=by
   cases e:s.w.l with
   |false=>rfl
   |true=>have:=h.lock.1 e;omega
  have:=h.Yw hs d hl ab;omega
end
end Go.cD
namespace Go.Ph
open Go.Conc Go.ConcN
open Go.ConcM (MuAt muA msA OsLater muBlock)
open Go.ConcR (KK WgAt stA smA rd wr mk)
open Go.cD (Wd Th Mv Safe)
inductive Tree where
 |leaf
 |node (f:aP->Tree)
inductive Tree.Lt:Tree->Tree->Prop
 |sub (f:aP->Tree) (w:aP):Tree.Lt (f w) (.node f)
def Tree.wf:WellFounded Tree.Lt:=⟨λt=>by
 induction t with
 |leaf=>exact⟨_,λ_ h=>by cases h⟩
 |node f a=>exact⟨_,λ_ h=>by cases h with|sub _ w=>exact a w⟩⟩
def _root_.Go.cD.Wd.num(x:Wd):Nat:=(if x.l then 1 else 0)+(if x.w then 2 else 0)+(if x.s then 4 else 0)+8*x.k
structure Sh where
 mw:Wd
 ms:Nat
 v:Nat
 wt:Nat
 ws:Nat
structure Fix where
 P:a7
 tM:a8
 tW:a8
 tT:a8
 Mu:Nat
 Wg:Nat
 Tb:Nat
 size:Nat
 n:Nat
 Shun:Loc->Prop
variable (X:Fix)
def ShAt(w:aP)(s:Sh):Prop:=ht X.tM X.Mu w (s.mw.num:Int) (s.ms:Int)/\WgAt X.tW X.Wg w ((s.v:Int)*KK+(s.wt:Int)) (s.ws:Int)
def Live(w:aP):Prop:=(∃st a,ht X.tM X.Mu w st a)/\(∃st a,WgAt X.tW X.Wg w st a)/\∃c:Array a9,w.heap[X.Tb]?=f8 (m8 c X.tT)/\c.size=X.size
def OZ(l:Loc):Prop:=∃a,l=p6 a/\(a.block=X.Mu\/a.block=X.Wg)
def jm(b:Nat):Prop:=b≠X.Mu/\b≠X.Wg/\b≠X.Tb
structure Vw where
 g:Nat
 st:Nat->Prop
 row:Nat->Prop
abbrev Own:=Nat->Prop
structure Rl(V:Vw)(M:Own)(w ai:aP):Prop where
 tape:ai.tape=w.tape
 output:ai.output=w.output
 os:hu w.os ai.os
 size:w.heap.size<=ai.heap.size
 st:∀b,V.st b->ai.heap[b]?=w.heap[b]?
 own:∀b,M b->ai.heap[b]?=w.heap[b]?
 live:Live X w->Live X ai
 row:∀o,V.row o->hz ai ⟨X.Tb,o,f9⟩=hz w ⟨X.Tb,o,f9⟩
def TR(V:Vw)(M:Own)(l:Loc):Prop:=match l with
 |p6 a=>M a.block\/(a.block=X.Tb/\V.row a.off)
 |p7 b=>M b
 |_=>False
def RdL(V:Vw)(l:Loc):Prop:=¬X.Shun l/\match l with
 |p6 a=>V.st a.block
 |p7 b=>V.st b
 |_=>False
def jG(V:Vw)(M:Own)(B:Nat)(e:bd):Prop:=
 (∀x,(hO e).touch? = f8 x->x.loc.isMemory=gc/\((OZ X x.loc/\if V.g=0 then x.kind≠pm else x.kind=pk)\/(x.kind=pm/\(TR X V M x.loc\/(RdL X V x.loc/\x.write=ge)))))/\
 e.loc≠p8 (.release (stA X.Wg))/\(hO e).low B
structure Dl(V:Vw)(q:Bool)(M:Own)(d:Nat)(w w':aP)(es:Array bd)(M':Own)(d':Nat):Prop where
 tape:w'.tape=w.tape
 output:w'.output=w.output
 os:hu w.os w'.os
 size:w.heap.size<=w'.heap.size
 block:∀b,b<w.heap.size->¬M b->b≠X.Mu->b≠X.Wg->b≠X.Tb->w'.heap[b]?=w.heap[b]?
 tb:∀c:Array a9,w.heap[X.Tb]?=f8 (m8 c X.tT)->∃c':Array a9,w'.heap[X.Tb]?=f8 (m8 c' X.tT)/\c'.size=c.size
 cells:∀o,¬V.row o->hz w' ⟨X.Tb,o,f9⟩=hz w ⟨X.Tb,o,f9⟩
 calm:q=gc->w'.heap[X.Tb]?=w.heap[X.Tb]?
 own:∀b,M' b↔M b\/(w.heap.size<=b/\b<w'.heap.size)
 ev:∀e∈es,jG X V M' w'.heap.size e
 ai1:q=gc->∀j e,es[j]?=f8 e->(hO e).touch? = f9\/((∃ad wr,e=⟨p6 ad,wr,gc⟩)/\0<bi d (es.extract 0 j))
 deaf:d'=bi d es
def L3(w w':aP):Prop:=w'.heap[X.Mu]?=w.heap[X.Mu]?/\w'.heap[X.Wg]?=w.heap[X.Wg]?
abbrev Stp:=Own->Nat->bj->aP->Prop
def jA(V:Vw)(q:Bool)(Stop:Stp):Tree->Own->Nat->bj->aP->Prop
 |.leaf,M,d,g,w=>∀ai,Rl X V M w ai->Stop M d g ai
 |.node f,M,d,g,w=>∀ai,Rl X V M w ai->Stop M d g ai\/(g.status=p9/\∃a w' es b c,stepG X.P (V.g==0) g ai=kp a w' es/\Dl X V q M d ai w' es b c/\L3 X ai w'/\a.status=p9/\jA V q Stop (f ai) b c a w')
def ay(V:Vw)(q:Bool)(Stop:Stp)(M:Own)(d:Nat)(g:bj)(w:aP):Prop:=∃t,jA X V q Stop t M d g w
section
variable {X}{V:Vw}{q:Bool}{Stop WG:Stp}{M:Own}{d:Nat}{g:bj}{w ai GD:aP}
def Rl.refl(V:Vw)(M:Own)(w:aP):Rl X V M w w:=⟨rfl,rfl,qr _,dk _,λ_ _=>rfl,λ_ _=>rfl,id,λ_ _=>rfl⟩
def Rl.trans(h:Rl X V M w ai)(k:Rl X V M ai GD):Rl X V M w GD:=
 ⟨k.tape.t h.tape,k.output.t h.output,h.os.trans k.os,da h.size k.size,λb hb=>(k.st b hb).t (h.st b hb),λb hb=>(k.own b hb).t (h.own b hb),λl=>k.live (h.live l),λo a=>(k.row o a).t (h.row o a)⟩
def ay.stop(h:∀ai,Rl X V M w ai->Stop M d g ai):ay X V q Stop M d g w:=⟨.leaf,h⟩
def ay.either(h:∀ai,Rl X V M w ai->Stop M d g ai\/(g.status=p9/\∃g' w' es M' d',stepG X.P (V.g==0) g ai=kp g' w' es/\Dl X V q M d ai w' es M' d'/\L3 X ai w'/\g'.status=p9/\ay X V q Stop M' d' g' w')):ay X V q Stop M d g w:=by
 have key:∀ai,∃t:Tree,Rl X V M w ai->Stop M d g ai\/(g.status=p9/\∃g' w' es M' d',stepG X.P (V.g==0) g ai=kp g' w' es/\Dl X V q M d ai w' es M' d'/\L3 X ai w'/\g'.status=p9/\jA X V q Stop t M' d' g' w'):=by
  intro ai;by_cases a:Rl X V M w ai
  .rcases h ai a with hs|⟨b,g',w',es,M',d',c,e,i,j,t,k⟩
   .exact⟨.leaf,λ_=>pp hs⟩
   .exact⟨t,λ_=>pu ⟨b,g',w',es,M',d',c,e,i,j,k⟩⟩
  .exact⟨.leaf,λx=>absurd x a⟩
 obtain⟨f,hf⟩:=Classical.axiomOfChoice key;exact⟨.node f,λai a=>hf ai a⟩
def ay.step(a:g.status=p9)(h:∀ai,Rl X V M w ai->∃g' w' es M' d',stepG X.P (V.g==0) g ai=kp g' w' es/\Dl X V q M d ai w' es M' d'/\L3 X ai w'/\g'.status=p9/\ay X V q Stop M' d' g' w'):ay X V q Stop M d g w:=
 .either λai r=>pu ⟨a,h ai r⟩
def jA.rely:∀{t:Tree},jA X V q Stop t M d g w->Rl X V M w ai->jA X V q Stop t M d g ai
 |.leaf,h,r=>λGD a=>h GD (r.trans a)
 |.node _,h,r=>λGD a=>h GD (r.trans a)
def ay.rely(h:ay X V q Stop M d g w)(r:Rl X V M w ai):ay X V q Stop M d g ai:=h.i λ_ x=>x.rely r
def ay.mono(h:ay X V q Stop M d g w)(hs:∀M d g w,Stop M d g w->WG M d g w):ay X V q WG M d g w:=by
 obtain⟨t,a⟩:=h
 induction t generalizing M d g w with
 |leaf=>exact .stop λai r=>hs _ _ _ _ (a ai r)
 |node f b=>
  refine .either λai r=>?_
  rcases a ai r with x|⟨c,e,w',es,i,j,k,l,m,n,o⟩
  .exact pp (hs _ _ _ _ x)
  grind
end
end Go.Ph
namespace Go.Ph
open Go.Conc Go.ConcN
open Go.ConcM (MuAt muA msA OsLater muBlock)
open Go.ConcR (KK WgAt stA smA rd wr mk)
open Go.cD (Wd Th Mv Safe Head eR spin)
inductive Alt:Th->Th->Prop
 |refl (T:Th):Alt T T
 |head (T H:Th):Head T H->(T.aw=gc->T.old.w=gc)->Alt (eR T) H
 |r2 (T:Th) (b:Bool):T.pc=.r2->(T.sv=gc->b=gc)->Alt T { T with sv:=b }
variable (X:Fix)
def nR(V:Vw)(q:Bool)(a:Sh->Prop)(f:Sh->Sh)(wake:Bool)(bq:Sh->Stp):Stp:=λM d g w=>
 g.status=p9/\g.offers=f9/\(wake=gc->bv X.P g=gc)/\∀s,ShAt X w s->a s->
  ∃b w' es e h,stepG X.P (V.g==0) g w=kp b w' es/\ShAt X w' (f s)/\Dl X V q M d w w' es e h/\b.status=p9/\bq s e h b w'
def acP(V:Vw)(q:Bool)(a:Sh->Prop)(waits:Sh->Prop)(f:Sh->Sh)(bq:Sh->Stp):Stp:=λM d g w=>
 g.status=p9/\g.offers=f9/\∀s,ShAt X w s->a s->(waits s->stepG X.P (V.g==0) g w=kp { g with status:=qi } w #[])/\
  (¬waits s->∃b w' es e h,stepG X.P (V.g==0) g w=kp b w' es/\ShAt X w' (f s)/\Dl X V q M d w w' es e h/\b.status=p9/\bq s e h b w')
section
variable (V:Vw)(Fin:aP->Prop)
def AtD4:Stp:=nR X V gc (λs=>s.v=0/\s.wt=0/\s.ws=0) (λs=>{ s with ws:=1 }) gc (λ_ _ d g _=>∃q,eX X.P q d g)
def AtD3:Stp:=nR X V gc (λs=>s.v=0/\s.wt=1/\s.ws=0) (λs=>{ s with wt:=0 }) ge (λ_=>ay X V gc (AtD4 X V))
def AtD2:Stp:=nR X V gc (λs=>s.v=0/\s.wt=1/\s.ws=0) id ge (λ_=>ay X V gc (AtD3 X V))
def AtD1:Stp:=nR X V gc (λs=>1<=s.v/\s.v<=X.n/\s.wt<=1/\s.ws=0) (λs=>{ s with v:=s.v-1 }) ge
 (λs=>if s.v=1/\s.wt=1 then ay X V gc (AtD2 X V) else λ_ d g _=>∃q,eX X.P q d g)
def O0:Stp:=λM d g w=>g.status=p9/\d=0/\Fin w/\∃a,stepG X.P (V.g==0) g w=kp a w #[mk (pz (stA X.Wg))]/\a.status=p9/\ay X V gc (AtD1 X V) M 0 a w
def iF:Nat->Th->Stp
 |0,_,_,_,_,_=>True
 |k+1,T,M,d,g,w=>g.status=p9/\g.offers=f9/\(T.pc=.us->bv X.P g=gc)/\∀s,ShAt X w s->cD.Safe T s.mw->s.mw.k<=X.n->s.ms<=1->
  (T.pc=.s1/\s.ms=0->stepG X.P (V.g==0) g w=kp { g with status:=qi } w #[])/\
  (¬(T.pc=.s1/\s.ms=0)->∃e h a f w' es i j,Mv s.mw s.ms T e h a/\stepG X.P (V.g==0) g w=kp f w' es/\ShAt X w' { s with mw:=h,ms:=a }/\Dl X V ge M d w w' es i j/\f.status=p9/\
    ay X V ge (λM d g w=>if e.pc=.out then O0 X V Fin M d g w else∃b,Alt e b/\iF k b M d g w) i j f w')
def eU(k:Nat)(T:Th):Stp:=λM d g w=>if T.pc=.out then O0 X V Fin M d g w else∃a,Alt T a/\iF X V Fin k a M d g w
end
section
variable (c:Nat)(np:Nat)(row:Nat->Nat->Prop)(Fin:Nat->aP->Prop)(Post:Own->bj->aP->Prop)
def Yy:Stp:=λM d g w=>g.status=p9/\d=0/\Post M g w
def O1(V:Vw):Stp:=λM d g w=>g.status=p9/\d=0/\∃a,stepG X.P (V.g==0) g w=kp a w #[mk (pv (stA X.Wg))]/\a.status=p9/\ay X V ge (Yy Post) M 0 a w
def AtW4(V:Vw):Stp:=nR X V ge (λs=>s.v=0/\s.wt=0/\s.ws=0) id ge (λ_=>ay X V ge (O1 X Post V))
def AtW3(V:Vw):Stp:=acP X V ge (λs=>s.ws<=1) (λs=>s.ws=0) (λs=>{ s with ws:=s.ws-1 }) (λ_=>ay X V ge (AtW4 X Post V))
mutual
def AtW1(V:Vw):Nat->Stp
 |0=>λ_ _ _ _=>True
 |k+1=>nR X V ge (λs=>s.v<=X.n/\s.wt=0/\s.ws=0) id ge (λs=>if s.v=0 then ay X V ge (O1 X Post V) else ay X V ge (AtW2 V k s.v))
def AtW2(V:Vw):Nat->Nat->Stp
 |0,_=>λ_ _ _ _=>True
 |k+1,a=>nR X V ge (λs=>s.v<=X.n/\s.wt=0/\s.ws=0) (λs=>if s.v=a then { s with wt:=1 } else s) ge
  (λs=>if s.v=a then ay X V ge (AtW3 X Post V) else ay X V ge (AtW1 V k))
end
def rj(j:Nat)(V:Vw)(M:Own):Vw:=⟨c+j,λb=>V.st b\/M b,row j⟩
def Vw.more(V:Vw)(M:Own):Vw:={ V with st:=λb=>V.st b\/M b }
def nobody:Own:=λ_=>False
def AtGo(j:Nat)(a:Vw->Stp)(V:Vw):Stp:=λM d g w=>g.status=p9/\d=0/\∃b child,stepG X.P (V.g==0) g w=.spawn b child w #[]/\b.status=p9/\child.status=p9/\
 ((∀o,row j o->hz w ⟨X.Tb,o,f9⟩=f8 (n8 nt 0))->∀k,ay X (rj c row j V M) ge (eU X (rj c row j V M) (Fin j) k { pc:=.l0,r:=np }) nobody 0 child w)/\ay X (V.more M) ge (a (V.more M)) nobody 0 b w
def Ta:Nat->Vw->Stp
 |0,V=>λM d g w=>∀k,AtW1 X Post V k M d g w
 |r+1,V=>nR X V ge (λs=>s.v<X.n/\s.wt=0/\s.ws=0) (λs=>{ s with v:=s.v+1 }) ge (λ_=>ay X V ge (AtGo X c np row Fin (X.n-(r+1)) (Ta r) V))
end
end Go.Ph
namespace Go.Ph
open Go.Conc Go.ConcN
open Go.ConcM (MuAt muA msA OsLater muBlock)
open Go.ConcR (KK WgAt stA smA rd wr mk)
open Go.cD (Wd Th Mv Head eR spin)
inductive WP where
 |mu|d1|d2|d3|d4|quit
 deriving DecidableEq
inductive MP where
 |add|go|w1|w2 (v:Nat)|w3|w4|aq|an
 deriving DecidableEq
structure Gh where
 j:Nat
 th:Nat->Th
 wp:Nat->WP
 mp:MP
 V:Nat->Vw
 M:Nat->Own
 tr:Nat->Tree
 q:Nat->Nat
 fu:Nat->Nat
 s:Sh
structure CB extends Fix where
 c:Nat
 np:Nat
 row:Nat->Nat->Prop
 Fin:Nat->aP->Prop
 Post:Own->bj->aP->Prop
 sE:Nat
 w₀:aP
variable (Y:CB)
def gid(a:Nat):Nat:=if a=0 then 0 else Y.c+(a-1)
def Gh.q?(G:Gh):Nat->Bool
 |0=>ge
 |k+1=>decide (G.wp k≠.mu)
def stM(j f:Nat)(V:Vw):MP->Stp
 |.add=>Ta Y.toFix Y.c Y.np Y.row Y.Fin Y.Post (Y.n-j) V
 |.go=>AtGo Y.toFix Y.c Y.np Y.row Y.Fin j (Ta Y.toFix Y.c Y.np Y.row Y.Fin Y.Post (Y.n-(j+1))) V
 |.w1=>AtW1 Y.toFix Y.Post V f
 |.w2 v=>AtW2 Y.toFix Y.Post V f v
 |.w3=>AtW3 Y.toFix Y.Post V
 |.w4=>AtW4 Y.toFix Y.Post V
 |.aq=>O1 Y.toFix Y.Post V
 |.an=>Yy Y.Post
def NH(V:Vw)(k f:Nat)(T:Th):WP->Stp
 |.mu=>eU Y.toFix V (Y.Fin k) f T
 |.d1=>AtD1 Y.toFix V
 |.d2=>AtD2 Y.toFix V
 |.d3=>AtD3 Y.toFix V
 |.d4=>AtD4 Y.toFix V
 |.quit=>λ_ _ _ _=>False
def Gh.um(G:Gh):Nat->Stp
 |0=>stM Y G.j (G.fu 0) (G.V 0) G.mp
 |k+1=>NH Y (G.V (k+1)) k (G.fu (k+1)) (G.th k) (G.wp k)
def Gh.waits(G:Gh):Nat->Prop
 |0=>G.mp=.w3/\G.s.ws=0
 |k+1=>G.wp k=.mu/\(G.th k).pc=.s1/\G.s.ms=0
def Gh.gone(G:Gh):Nat->Prop
 |0=>False
 |k+1=>G.wp k=.quit
inductive Sit(G:Gh)(a:Nat)(d:Nat)(g:bj)(w:aP):Prop
 |run:¬G.gone a->g.status=p9->jA Y.toFix (G.V a) (G.q? a) (G.um Y a) (G.tr a) (G.M a) d g w->Sit G a d g w
 |wait (fJ:bj):¬G.gone a->g={ fJ with status:=qi }->fJ.status=p9->fJ.offers=f9->G.waits a->jA Y.toFix (G.V a) (G.q? a) (G.um Y a) (G.tr a) (G.M a) d fJ w->Sit G a d g w
 |gone:G.gone a->eX Y.P (G.q (gid Y a)) d g->Sit G a d g w
structure OI(G:Gh)(w:aP):Prop where
 ap:∀a,a<=G.j->∀b,(G.M a b\/(G.V a).st b)->b<w.heap.size/\jm Y.toFix b
 dj:∀a a',a<=G.j->a'<=G.j->a≠a'->∀b,G.M a b->¬G.M a' b/\¬(G.V a').st b
 self:∀a,a<=G.j->∀b,G.M a b->¬(G.V a).st b
 rows:∀a a',a<=G.j->a'<=G.j->a≠a'->∀o,(G.V a).row o->¬(G.V a').row o
 base:∀a,a<=G.j->∀b,G.M a b->Y.sE<=b
 num:∀a,a<=G.j->(G.V a).g=gid Y a
 ids:Y.Mu≠Y.Wg/\Y.Mu≠Y.Tb/\Y.Wg≠Y.Tb/\Y.sE<=Y.Mu/\Y.sE<=Y.Wg/\Y.sE<=Y.Tb/\Y.Mu<w.heap.size/\Y.Wg<w.heap.size/\Y.Tb<w.heap.size
 main:(G.V 0).row=λ_=>False
 ahg:∀k,k<G.j->(G.V (k+1)).row=Y.row k
def BK(G:Gh)(g:Nat)(l:Loc):Prop:=Y.c<=g/\g<Y.c+G.j/\TR Y.toFix (G.V (g-Y.c+1)) (G.M (g-Y.c+1)) l
def O5(G:Gh)(g:Nat)(l:Loc):Prop:=Y.c<=g/\g<Y.c+G.j/\RdL Y.toFix (G.V (g-Y.c+1)) l
def fv:WP->Nat
 |.mu | .d1=>1
 |_=>0
def fd:WP->Nat
 |.d2 | .d3=>1
 |_=>0
def f4:WP->Nat
 |.d4=>1
 |_=>0
structure WI(G:Gh):Prop where
 v:G.s.v=sumTo G.j (λk=>fv (G.wp k))+(if G.mp=.go then 1 else 0)
 early:(G.mp=.add\/G.mp=.go)->G.j<Y.n
 late:G.mp≠.add->G.mp≠.go->G.j=Y.n
 le:G.j<=Y.n
 calm:(G.mp=.add\/G.mp=.go\/G.mp=.w1\/∃v,G.mp=.w2 v)->G.s.wt=0/\G.s.ws=0/\sumTo G.j (λk=>fd (G.wp k))=0/\sumTo G.j (λk=>f4 (G.wp k))=0
 w3:G.mp=.w3->(G.s.wt=1/\G.s.ws=0/\sumTo G.j (λk=>f4 (G.wp k))=0/\(if G.s.v=0 then 1 else 0)=sumTo G.j (λk=>fd (G.wp k)))\/
  (G.s.wt=0/\G.s.v=0/\sumTo G.j (λk=>fd (G.wp k))=0/\sumTo G.j (λk=>f4 (G.wp k))+G.s.ws=1)
 done:(G.mp=.w4\/G.mp=.aq\/G.mp=.an)->G.s.v=0/\G.s.wt=0/\G.s.ws=0/\∀k,k<G.j->G.wp k=.quit
 nz:∀v,G.mp=.w2 v->v≠0
def wW:WP->Nat
 |.mu=>30
 |.d1=>25
 |.d2=>10
 |.d3=>9
 |.d4=>8
 |.quit=>0
def wM(n j:Nat)(v:Nat):MP->Nat
 |.add=>50*(n-j)+20
 |.go=>50*(n-j)+15
 |.w1=>10
 |.w2 a=>if v=a then 9 else 12
 |.w3=>8
 |.w4=>7
 |.aq=>6
 |.an=>0
def vK(G:Gh):Nat:=wM Y.n G.j G.s.v G.mp+sumTo G.j (λk=>wW (G.wp k))
def muK(n:Nat):Nat:=(16*n+43)*n+(4*n+19)+1
def oD(G:Gh):cD.St:=⟨G.th,G.s.mw,G.s.ms⟩
def phi(G:Gh):Nat:=cD.nQ Y.n (oD G)*muK Y.n+cD.uh Y.n (oD G)
structure MI(G:Gh)(gs:Array bj)(w:aP)(t:aa):Prop where
 cpos:0<Y.c
 size:gs.size=Y.c+G.j
 sit:∀a,a<=G.j->∀g,gs[gid Y a]?=f8 g->Sit Y G a (eP t (gid Y a)) g w
 old:∀i g,0<i->i<Y.c->gs[i]?=f8 g->eX Y.P (G.q i) (eP t i) g
 above:∀i,gs.size<=i->eP t i=0
 sh:ShAt Y.toFix w G.s
 tb:∃cs:Array a9,w.heap[Y.Tb]?=f8 (m8 cs Y.tT)/\cs.size=Y.toFix.size
 mun:cD.Inv Y.n (oD G)
 fresh:∀k,G.j<=k->k<Y.n->G.th k={ pc:=.l0,r:=Y.np }
 out:∀k,k<G.j->G.wp k≠.mu->(G.th k).pc=.out
 wi:WI Y G
 fuel:∀k,k<G.j->phi Y G+1<=G.fu (k+1)
 fuel0:vK Y G+1<=G.fu 0
 oi:OI Y G w
 shun:∀l,Y.Shun l->l.low Y.sE/\l.isMemory=gc
 tri:TI Y.Shun (OZ Y.toFix) (BK Y G) (O5 Y G) Y.c G.j t
 rel:∀k,k<G.j->G.wp k≠.mu->∃r,gL (stA Y.Wg) t (Y.c+k) r
 norel:NoRelease (stA Y.Wg) t
 low:∀op∈t,op.act.low w.heap.size
 fin:∀k,k<G.j->G.wp k≠.mu->Y.Fin k w
 acq:G.mp=.an->∃p,t.act? p=f8 (hV (pv (stA Y.Wg)))/\t.g? p=f8 0/\t.heard p/\∀k,k<G.j->∃r,gL (stA Y.Wg) t (Y.c+k) r/\r<p
 tape:w.tape=Y.w₀.tape
 output:w.output=Y.w₀.output
 os:hu Y.w₀.os w.os
 kept:∀b,b<Y.sE->w.heap[b]?=Y.w₀.heap[b]?
 rowok:∀k k' o,k≠k'->Y.row k o->¬Y.row k' o
 un:∀k,G.j<=k->∀o,Y.row k o->hz w ⟨Y.Tb,o,f9⟩=f8 (n8 nt 0)
section
variable {Y:CB}{G G':Gh}{gs:Array bj}{w w':aP}{t:aa}{a b d d':Nat}{g g':bj}{es:Array bd}{M':Own}{q:Bool}
def iZ:gid Y 0=0:=rfl
def bQ(k:Nat):gid Y (k+1)=Y.c+k:=by simp[gid]
def wm(hc:0<Y.c)(h:gid Y a=gid Y b):a=b:=by
 unfold gid at h;grind
def Yz(h:a<=G.j)(hc:0<Y.c):gid Y a<Y.c+G.j:=by
 unfold gid;split<;>omega
def TU(hs:ShAt Y.toFix w G.s)(c:∃cs:Array a9,w.heap[Y.Tb]?=f8 (m8 cs Y.tT)/\cs.size=Y.toFix.size):Live Y.toFix w:=
 ⟨⟨_,_,hs.1⟩,⟨_,_,hs.2⟩,c⟩
def acQ(c:Dl Y.toFix (G.V a) q (G.M a) d w w' es M' d')(e:∃cs:Array a9,w.heap[Y.Tb]?=f8 (m8 cs Y.tT)/\cs.size=Y.toFix.size):∃cs:Array a9,w'.heap[Y.Tb]?=f8 (m8 cs Y.tT)/\cs.size=Y.toFix.size:=by
 obtain⟨cs,f,h⟩:=e;obtain⟨cs',i,j⟩:=c.tb cs f;grind
def OI.rl(O:OI Y G w)(f:a<=G.j)(hb:b<=G.j)(i:a≠b)(c:Dl Y.toFix (G.V a) q (G.M a) d w w' es M' d')(hl:Live Y.toFix w->Live Y.toFix w'):Rl Y.toFix (G.V b) (G.M b) w w':=by
 refine⟨c.tape,c.output,c.os,c.size,λx e=>?_,λx e=>?_,hl,λo p=>c.cells o λh=>O.rows a b f hb i o h p⟩
 .obtain⟨k,l,m,n⟩:=O.ap b hb x (pu e);exact c.block x k (λh=>(O.dj a b f hb i x h).2 e) l m n
 .obtain⟨k,l,m,n⟩:=O.ap b hb x (pp e);exact c.block x k (λh=>(O.dj a b f hb i x h).1 e) l m n
def OI.after(O:OI Y G w)(F:a<=G.j)(u:Dl Y.toFix (G.V a) q (G.M a) d w w' es M' d')(m:G'.j=G.j)(n:G'.V=G.V)(s:G'.M=upd G.M a M'):OI Y G' w':=by
 have f:∀b x,(upd G.M a M') b x->G.M b x\/(b=a/\w.heap.size<=x/\x<w'.heap.size):=by
  intro b x h;by_cases e:b=a
  .subst e;rw[g1]at h;exact((u.own x).1 h).imp id λy=>⟨rfl,y⟩
  .rw[g6 _ _ e]at h;exact pp h
 obtain⟨v,z,A,B,C,D,H,i8,I⟩:=O.ids;have J:=u.size;refine⟨λb hb x c=>?_,λb b' hb i p x c=>?_,λb hb x c=>?_,λb b' hb i p=>?_,λb hb x c=>?_,λb hb=>?_,⟨v,z,A,B,C,D,ab,ab,ab⟩,by rw[n];exact O.main,λk E=>by rw[n];exact O.ahg k (m▸E)⟩
 .rw[m]at hb;rw[s,n]at c
  rcases c with c|c
  .rcases f b x c with h|⟨_,r,l⟩
   .obtain⟨r,l⟩:=O.ap b hb x (pp h);exact⟨ab,l⟩
   .exact⟨l,by unfold jm;omega⟩
  .obtain⟨r,l⟩:=O.ap b hb x (pu c);exact⟨ab,l⟩
 .rw[m]at hb i;rw[s]at c ⊢;rw[n]
  rcases f b x c with h|⟨rfl,r,l⟩
  .refine⟨λo=>?_,(O.dj b b' hb i p x h).2⟩
   rcases f b' x o with k|⟨rfl,k1,_⟩
   .exact(O.dj b b' hb i p x h).1 k
   .have:=(O.ap b hb x (pp h)).1;omega
  .refine⟨λo=>?_,λo=>?_⟩
   .rcases f b' x o with k|⟨e,_⟩
    .have:=(O.ap b' i x (pp k)).1;omega
    .exact p e.y
   .have:=(O.ap b' i x (pu o)).1;omega
 .rw[m]at hb;rw[s]at c;rw[n]
  rcases f b x c with h|⟨rfl,r,l⟩
  .exact O.self b hb x h
  .intro o;have:=(O.ap b hb x (pu o)).1;omega
 .rw[m]at hb i;rw[n];exact O.rows b b' hb i p
 .rw[m]at hb;rw[s]at c
  rcases f b x c with h|⟨rfl,r,l⟩
  .exact O.base b hb x h
  .omega
 .rw[m]at hb;rw[n];exact O.num b hb
def again_blocked(c:bj)(e:c.status=p9)(f:c.offers=f9)(w:aP):({ c with status:=qi }:bj).again w=c:=by
 obtain⟨fr,cs,st,h,of⟩:=c;simp only at e f;subst e f;rfl
def zF(P:a7)(x e c:bj)(f:c.status=p9)(h:c.offers=f9)(w:aP) :
 woken P x e w { c with status:=qi }={ c with status:=qi }\/woken P x e w { c with status:=qi }=c:=by
 unfold woken;split
 .exact pu (again_blocked c f h w)
 .exact pp rfl
def GF(P:a7)(x e c:bj)(f:c.status=p9)(h:c.offers=f9)(w:aP)(i:bv P x=gc)(j:e.status=p9) :
 woken P x e w { c with status:=qi }=c:=by
 unfold woken;rw[if_pos (by simp[i,j])];exact again_blocked c f h w
def Sit.other(h:Sit Y G b d g w)(r:Rl Y.toFix (G.V b) (G.M b) w w')(x i:bj)(e1:G'.V b=G.V b)(j:G'.M b=G.M b)(l:G'.tr b=G.tr b)(m:G'.um Y b=G.um Y b)(e5:G'.q? b=G.q? b)(f:G'.gone b↔G.gone b)(p:G'.q (gid Y b)=G.q (gid Y b))
 (s:G.waits b->G'.waits b\/(bv Y.P x=gc/\i.status=p9)):Sit Y G' b d (woken Y.P x i w' g) w':=by
 cases h with
 |run hg c h=>
  rw[woken_run c];exact .run (λy=>hg (f.1 y)) c (by rw[e1,j,l,m,e5];exact h.rely r)
 |wait n hg e c o u h=>
  subst e
  rcases s u with k|⟨k1,k2⟩
  .rcases zF Y.P x i n c o w' with e|e
   .rw[e];exact .wait n (λy=>hg (f.1 y)) rfl c o k (by rw[e1,j,l,m,e5];exact h.rely r)
   .rw[e];exact .run (λy=>hg (f.1 y)) c (by rw[e1,j,l,m,e5];exact h.rely r)
  .rw[GF Y.P x i n c o w' k1 k2];exact .run (λy=>hg (f.1 y)) c (by rw[e1,j,l,m,e5];exact h.rely r)
 |gone hg h=>
  rw[e7 h];exact .gone (f.2 hg) (by rw[p];exact h)
def Sit.status(h:Sit Y G b d g w):g.status=p9\/g.status=qi\/g.status=qq:=by
 cases h with
 |run _ h _=>exact pp h
 |wait _ _ e _ _ _ _=>grind
 |gone _ h=>exact h.status.imp id pu
theorem TV{x:MemAct}{c:ag}{B:Nat}(h:x.touch? = f8 c)(hl:x.low B):c.loc.low B:=by
 cases x with
 |access e=>simp[hS]at h;subst h;exact hl
 |mark m=>cases m<;>simp[hS]at h<;>(subst h;exact hl)
 |_=>simp[hS]at h
def Aj(f:∀op∈t,op.act.low w.heap.size){l:Loc}(hl:¬l.low w.heap.size):∀i x,eA t i=f8 x->x.loc≠l:=by
 intro i x c e;obtain⟨op,h,j⟩:=eE c;grind[TV,mem_of_getElem?]
def O6{V:Vw}{M:Own}{l:Loc}(h:TR Y.toFix V M l):l.isMemory=gc:=by
 cases l<;>first|rfl|exact h.elim
def TW{V:Vw}{l:Loc}(h:RdL Y.toFix V l):l.isMemory=gc:=by
 cases l<;>first|rfl|exact h.2.elim
def Jj:∀k l,(BK Y G k l\/O5 Y G k l)->l.isMemory=gc:=λ_ _ h=>h.elim (λx=>O6 x.2.2) (λx=>TW x.2.2)
def OI.shun(O:OI Y G w)(hs:∀l,Y.Shun l->l.low Y.sE/\l.isMemory=gc):∀l,OZ Y.toFix l->¬Y.Shun l/\l.isMemory=gc:=by
 rintro l⟨a,rfl,h⟩;refine⟨λx=>?_,rfl⟩;have:=(hs _ x).1;obtain⟨_,_,_,c,e,_⟩:=O.ids;have:a.block<Y.sE:=this
 rcases h with h|h<;>omega
def OI.fam(O:OI Y G w)(hs:∀l,Y.Shun l->l.low Y.sE/\l.isMemory=gc):Fam Y.Shun (OZ Y.toFix) (BK Y G) (O5 Y G):=by
 obtain⟨I,J,K,L,N,P,_⟩:=O.ids;have blk:∀{V:Vw}{M:Own}{l:Loc},TR Y.toFix V M l->∃x,(l=p7 x\/∃f:aL,l=p6 f/\f.block=x)/\(M x\/(x=Y.Tb/\∃f:aL,l=p6 f/\V.row f.off)):=by
  intro V M l h
  cases l with
  |cell f=>exact⟨f.block,pu ⟨f,rfl,rfl⟩,h.imp id λx=>⟨x.1,f,rfl,x.2⟩⟩
  |obj r=>exact⟨r,pp rfl,pp h⟩
  |_=>exact h.elim
 have st:∀{V:Vw}{l:Loc},RdL Y.toFix V l->∃x,(l=p7 x\/∃f:aL,l=p6 f/\f.block=x)/\V.st x:=by
  intro V l h
  cases l with
  |cell f=>exact⟨f.block,pu ⟨f,rfl,rfl⟩,h.2⟩
  |obj r=>exact⟨r,pp rfl,h.2⟩
  |_=>exact h.2.elim
 have same:∀{l:Loc}{x y:Nat},(l=p7 x\/∃f:aL,l=p6 f/\f.block=x)->(l=p7 y\/∃f:aL,l=p6 f/\f.block=y)->x=y:=by
  grind
 refine⟨λk k' l h C=>?_,λk k' l h C=>?_,λk l h=>⟨λp=>?_,λp=>?_⟩,λk l h=>⟨λp=>?_,λp=>h.2.2.1 p⟩⟩
 .obtain⟨A,B,o⟩:=h;obtain⟨E,F,s⟩:=C;refine jl λQ=>?_;obtain⟨x,v,m⟩:=blk o;obtain⟨y,hy,n⟩:=blk s;obtain rfl:=same v hy;have i:k-Y.c+1<=G.j:=ab;have u:k' - Y.c+1<=G.j:=ab;have z:k-Y.c+1≠k' - Y.c+1:=ab
  rcases m with m|⟨e,f,e1,m⟩
  .rcases n with n|⟨e,_⟩
   .exact(O.dj _ _ i u z x m).1 n
   .exact(O.ap _ i x (pp m)).2.2.2 e
  .rcases n with n|⟨_,H,D,n⟩
   .exact(O.ap _ u x (pp n)).2.2.2 e
   .rw[e1]at D;cases D;exact O.rows _ _ i u z _ m n
 .obtain⟨A,B,o⟩:=h;obtain⟨E,F,s⟩:=C;obtain⟨x,v,m⟩:=blk o;obtain⟨y,hy,n⟩:=st s;obtain rfl:=same v hy;have i:k-Y.c+1<=G.j:=ab;have u:k' - Y.c+1<=G.j:=ab
  rcases m with m|⟨e,_⟩
  .by_cases e:k-Y.c+1=k' - Y.c+1
   .rw[<-e]at n;exact O.self _ i x m n
   .exact(O.dj _ _ i u e x m).2 n
  .exact(O.ap _ u x (pu n)).2.2.2 e
 .obtain⟨A,B,o⟩:=h;obtain⟨f,rfl,hb⟩:=p;have i:k-Y.c+1<=G.j:=ab
  rcases o with m|⟨e,_⟩
  .obtain⟨_,a1,a2,_⟩:=O.ap _ i _ (pp m);grind
  grind
 .obtain⟨A,B,o⟩:=h;have i:k-Y.c+1<=G.j:=ab;obtain⟨x,v,m⟩:=blk o;have R:x<Y.sE:=by
   have:=(hs _ p).1
   rcases v with rfl|⟨f,rfl,rfl⟩
   .exact this
   .exact this
  rcases m with m|⟨e,_⟩
  .have:=O.base _ i x m;omega
  .omega
 .obtain⟨A,B,o⟩:=h;obtain⟨f,rfl,hb⟩:=p;have i:k-Y.c+1<=G.j:=ab;obtain⟨_,a1,a2,_⟩:=O.ap _ i _ (pu o.2);grind
end
def nG(Y:CB):Prop:=∀k w w',(∀o,Y.row k o->hz w' ⟨Y.Tb,o,f9⟩=hz w ⟨Y.Tb,o,f9⟩)->Y.Fin k w->Y.Fin k w'
section
variable {Y:CB}{G G':Gh}{gs:Array bj}{w w':aP}{t:aa}{a b d d':Nat}{g g':bj}{es:Array bd}{M':Own}{q:Bool}
def YA{k B:Nat}(p:k<G'.j)(hc:0<Y.c)(i:(G'.V (k+1)).g=Y.c+k)(fn:bC)(pos:String)(l:∀e∈es,jG Y.toFix (G'.V (k+1)) (G'.M (k+1)) B e) :
 ∀op∈hY (Y.c+k) fn pos es,OkW (OZ Y.toFix) (BK Y G') (O5 Y G') (Y.c+k) op:=by
 intro op m;obtain⟨e,f,rfl⟩:=e8 m;refine⟨rfl,λx n=>?_⟩;obtain⟨o,h⟩:=(l e f).1 x n;rw[i,if_neg ab]at h;have hi:Y.c+k-Y.c+1=k+1:=ab;refine⟨o,h.imp id λy=>⟨y.1,y.2.imp (λz=>⟨ab,ab,by rw[hi];exact z⟩) λz=>⟨⟨ab,ab,by rw[hi];exact z.1⟩,z.2⟩⟩⟩
def YB(O:OI Y G' w')(hs:∀l,Y.Shun l->l.low Y.sE/\l.isMemory=gc){B:Nat}(fn:bC)(pos:String)(u:∀e∈es,jG Y.toFix (G'.V 0) (G'.M 0) B e) :
 ∀op∈hY 0 fn pos es,Ok0 Y.Shun (OZ Y.toFix) (BK Y G') (O5 Y G') Y.c G'.j op:=by
 intro op v;obtain⟨e,o,rfl⟩:=e8 v;refine⟨rfl,λx A J=>?_⟩;obtain⟨_,s⟩:=(u e o).1 x A;have C:=O.num 0 (eF _);rw[C,iZ,if_pos rfl]at s;obtain⟨K,L,N,P,Q,R,_⟩:=O.ids;have key:∀y,(x.loc=p7 y\/∃f:aL,x.loc=p6 f/\f.block=y)->(G'.M 0 y\/(G'.V 0).st y)->¬OZ Y.toFix x.loc/\∀k,Y.c<=k->k<Y.c+G'.j->¬BK Y G' k x.loc:=by
  intro y hy m;obtain⟨_,a1,a2,a3⟩:=O.ap 0 (eF _) y m;refine⟨?_,λk k1 k2 D=>?_⟩
  .rintro⟨f,e1,hb⟩;grind
  .obtain⟨_,_,i⟩:=D;have n:k-Y.c+1<=G'.j:=ab;have p:G'.M (k-Y.c+1) y:=by
    rcases hy with hy|⟨f,hy,rfl⟩
    .rw[hy]at i;exact i
    .rw[hy]at i;exact i.resolve_right λz=>a3 z.1
   have:=O.dj (k-Y.c+1) 0 n (eF _) ab y p;exact m.elim this.1 this.2
 rcases s with h|⟨_,h|⟨h,E⟩⟩
 .exact pp h
 .obtain⟨y,hy,m⟩:∃y,(x.loc=p7 y\/∃f:aL,x.loc=p6 f/\f.block=y)/\G'.M 0 y:=by
   cases hl:x.loc with
   |cell f=>
    rw[hl]at h;refine⟨f.block,pu ⟨f,rfl,rfl⟩,h.resolve_right λz=>?_⟩;have:=z.2;rw[O.main]at this;exact this
   |obj r=>rw[hl]at h;exact⟨r,pp rfl,h⟩
   |_=>rw[hl]at h;exact h.elim
  obtain⟨k1,k2⟩:=key y hy (pp m);refine pu ⟨k1,λF=>?_,k2,λ_ k c1 S H=>?_⟩
  .have hb:=O.base 0 (eF _) y m;have:=(hs _ F).1
   rcases hy with hy|⟨f,hy,rfl⟩
   .rw[hy]at this;have:y<Y.sE:=this;omega
   .rw[hy]at this;have:f.block<Y.sE:=this;omega
  .obtain⟨_,_,i⟩:=H;have n:k-Y.c+1<=G'.j:=ab;have I:(G'.V (k-Y.c+1)).st y:=by
    rcases hy with hy|⟨f,hy,rfl⟩
    .rw[hy]at i;exact i.2
    .rw[hy]at i;exact i.2
   exact(O.dj 0 (k-Y.c+1) (eF _) n ab y m).2 I
 .obtain⟨y,hy,m⟩:∃y,(x.loc=p7 y\/∃f:aL,x.loc=p6 f/\f.block=y)/\(G'.V 0).st y:=by
   cases hl:x.loc with
   |cell f=>rw[hl]at h;exact⟨f.block,pu ⟨f,rfl,rfl⟩,h.2⟩
   |obj r=>rw[hl]at h;exact⟨r,pp rfl,h.2⟩
   |_=>rw[hl]at h;exact h.2.elim
  obtain⟨k1,k2⟩:=key y hy (pu m);exact pu ⟨k1,h.1,k2,λz=>by rw[E]at z;cases z⟩
def O7(m:MI Y G gs w t)(C:a<=G.j)(s:Dl Y.toFix (G.V a) q (G.M a) d w w' es M' d')(i:G'.j=G.j)(o:G'.V=G.V)(u:G'.M=upd G.M a M'):TI Y.Shun (OZ Y.toFix) (BK Y G') (O5 Y G') Y.c G'.j t:=by
 have B:O5 Y G'=O5 Y G:=by funext k l;simp only[O5,i,o]
 rw[B,i];have v:∀b x,G.M b x->G'.M b x:=by
  intro b x h;rw[u];by_cases e:b=a
  .subst e;rw[g1];exact(s.own x).2 (pp h)
  .rw[g6 _ _ e];exact h
 have z:∀b x,G'.M b x->G.M b x\/w.heap.size<=x:=by
  intro b x h;rw[u]at h;by_cases e:b=a
  .subst e;rw[g1]at h;exact((s.own x).1 h).imp id (·.1)
  .rw[g6 _ _ e]at h;exact pp h
 refine m.tri.grow (λk l h=>⟨h.1,i▸h.2.1,?_⟩) (λk l h=>?_)
 .have f:=h.2.2;rw[o]
  cases l with
  |cell A=>exact f.imp (v _ _) id
  |obj r=>exact v _ _ f
  |_=>exact f.elim
 .obtain⟨p,n,f⟩:=h;rw[i]at n;rw[o]at f
  cases l with
  |cell A=>
   rcases f with f|f
   .rcases z _ _ f with x|x
    .exact pp ⟨p,n,pp x⟩
    .exact pu (Aj m.low (λy:A.block<w.heap.size=>ab))
   .exact pp ⟨p,n,pu f⟩
  |obj r=>
   rcases z _ _ f with x|x
   .exact pp ⟨p,n,x⟩
   .exact pu (Aj m.low (λy:r<w.heap.size=>ab))
  |_=>exact f.elim
def Ma{i:Nat}(hi:i<Y.c)(e:0<i):i≠gid Y a:=by
 unfold gid;split<;>omega
def MI.own(m:MI Y G gs w t)(hF:nG Y)(z:a<=G.j)(hg:gs[gid Y a]?=f8 g)
 (l:Dl Y.toFix (G.V a) (G.q? a) (G.M a) (eP t (gid Y a)) w w' es M' d')
 (v:G'.j=G.j) (L:G'.V=G.V) (N:G'.M=upd G.M a M') (Z:∀i,i≠gid Y a->G'.q i=G.q i)
 (same:∀b,b<=G.j->b≠a->G'.tr b=G.tr b/\G'.um Y b=G.um Y b/\G'.q? b=G.q? b/\(G'.gone b↔G.gone b))
 (wk:∀b,b<=G.j->b≠a->G.waits b->G'.waits b\/(bv Y.P g=gc/\g'.status=p9))
 (E:∀k,k<G.j->G'.wp k≠.mu->G.wp k≠.mu\/(a=k+1/\es=#[h6 (pz (stA Y.Wg))]/\eP t (Y.c+k)=0/\Y.Fin k w'))
 (Q:G'.mp=.an->G.mp=.an\/(a=0/\es=#[h6 (pv (stA Y.Wg))]/\eP t 0=0/\∀k,k<G.j->G.wp k=.quit))
 (sit:Sit Y G' a d' g' w') (sh:ShAt Y.toFix w' G'.s) (mun:cD.Inv Y.n (oD G')) (fresh:∀k,G.j<=k->G'.th k=G.th k) (out:∀k,k<G.j->G'.wp k≠.mu->(G'.th k).pc=.out)
 (wi:WI Y G') (fuel:∀k,k<G.j->phi Y G'+1<=G'.fu (k+1)) (fuel0:vK Y G'+1<=G'.fu 0) :
 MI Y G' (h8 (gs.map (woken Y.P g g' w')) (gid Y a) g') w' (t++hY (gid Y a) g.frame.fn g.frame.place es):=by
 have aH:gid Y a<gs.size:=(bR.1 hg).1;have F:=acQ l m.tb;have R:Live Y.toFix w->Live Y.toFix w':=λ_=>TU sh F;have B:=m.oi.after z l v L N;have S:∀b,b≠gid Y a->eP (t++hY (gid Y a) g.frame.fn g.frame.place es) b=eP t b:=λb hb=>
  Deaf_other t (gr hb) _ (λop H=>by obtain⟨e,_,rfl⟩:=e8 H;rfl)
 have hDa:eP (t++hY (gid Y a) g.frame.fn g.frame.place es) (gid Y a)=d':=by rw[Deaf_own];exact l.deaf.y
 have I:∀e∈es,jG Y.toFix (G'.V a) (G'.M a) w'.heap.size e:=by rw[L,N,g1];exact l.ev
 have fW:(h8 (gs.map (woken Y.P g g' w')) (gid Y a) g').size=gs.size:=ar;have xB:∀i x,i≠gid Y a->(h8 (gs.map (woken Y.P g g' w')) (gid Y a) g')[i]?=f8 x->∃y,gs[i]?=f8 y/\x=woken Y.P g g' w' y:=by
  grind
 have YD:∀k,k<G.j->G.wp k≠.mu->∀r,gL (stA Y.Wg) t (Y.c+k) r->gL (stA Y.Wg) (t++hY (gid Y a) g.frame.fn g.frame.place es) (Y.c+k) r:=by
  intro k f A r u;by_cases e:a=k+1
  .subst e;rw[bQ];refine u.appOwn _ _ _ λj e T=>?_;have J:G.q? (k+1)=gc:=by simp[Gh.q?,A]
   have:=l.ai1 J j e T;rw[bQ]at this;exact this
  .exact u.appOther (g:=gid Y a) (λop H=>by obtain⟨e,_,rfl⟩:=e8 H;rfl) (λx=>e (by
    have:gid Y a=gid Y (k+1):=by rw[bQ];exact x
    exact wm m.cpos this))
 refine⟨m.cpos,by rw[fW,v];exact m.size,λb hb x U=>?_,λi x D hi U=>?_,λi hi=>?_,sh,F,mun,λk f By=>?_,λk f=>out k (v▸f),wi,λk f=>fuel k (v▸f),fuel0,B,m.shun,?_,λk f A=>?_,?_,λop H=>?_,λk f A=>?_,λhm=>?_,l.tape.t m.tape,l.output.t m.output,m.os.trans l.os,λb hb=>?_,m.rowok,λk f o O=>?_⟩
 .rw[v]at hb;by_cases e:b=a
  .grind
  .have C:gid Y b≠gid Y a:=λx=>e (wm m.cpos x);obtain⟨y,hy,rfl⟩:=xB _ _ C U;rw[S _ C];obtain⟨s1,s2,s3,s4⟩:=same b hb e;exact(m.sit b hb y hy).other (m.oi.rl z hb (gr e) l R) g g' (by rw[L]) (by rw[N,g6 _ _ e]) s1 s2 s3 s4 (Z _ C) (wk b hb e)
 .have C:i≠gid Y a:=Ma hi D;obtain⟨y,hy,rfl⟩:=xB _ _ C U;have:=m.old i y D hi hy;rw[S _ C,e7 this,Z _ C];exact this
 .rw[fW]at hi;rw[S _ ab];exact m.above i hi
 .rw[v]at f;rw[fresh k f];exact m.fresh k f By
 .have T0:=O7 m z l v L N
  cases a with
  |zero=>exact T0.app0 (B.fam m.shun) (B.shun m.shun) Jj m.cpos (YB B m.shun _ _ I)
  |succ k=>
   rw[bQ];have f:k<G'.j:=by rw[v];exact z
   refine T0.appW (B.fam m.shun) (B.shun m.shun) ab ab (YA f m.cpos ?_ _ _ I);have:=B.num (k+1) f;rwa[bQ]at this
 .rw[v]at f
  rcases E k f A with h|⟨rfl,rfl,D,_⟩
  .obtain⟨r,u⟩:=m.rel k f h;grind
  .rw[bQ];exact⟨t.size,RelBy.new D _ _⟩
 .exact m.norel.app (norel_of (Wg:=Y.Wg) λe W=>(l.ev e W).2.1)
 .rcases Array.mem_append.1 H with h|h
  .exact MemAct.low_mono l.size (m.low op h)
  .obtain⟨e,W,rfl⟩:=e8 h;exact(l.ev e W).2.2
 .rw[v]at f
  rcases E k f A with FA|⟨_,_,_,hf⟩
  case inr=>exact hf
  refine hF k w w' (λo O=>?_) (m.fin k f FA);by_cases e:a=k+1
  .subst e;have J:G.q? (k+1)=gc:=by simp[Gh.q?,FA]
   simp only[hz,l.calm J]
  .refine l.cells o λu=>?_;exact m.oi.rows a (k+1) z f e o u (by rw[m.oi.ahg k f];exact O)
 .rcases Q hm with K|⟨rfl,rfl,D,J⟩
  case inr=>
   have e1:hY (gid Y 0) g.frame.fn g.frame.place #[h6 (pv (stA Y.Wg))]=#[{ g:=0,fn:=g.frame.fn,pos:=g.frame.place,act:=hV (pv (stA Y.Wg)) }]:=by rw[ofEvents_eq];simp[iZ];rfl
   refine⟨t.size,?_,?_,⟨0,?_,?_⟩,λk f=>?_⟩
   .rw[e1];simp[Trace.act?]
   .rw[e1];simp[Trace.g?]
   .rw[e1];simp[Trace.g?]
   .rw[deaf_old (dk _)];exact D
   .rw[v]at f;have A:G.wp k≠.mu:=by rw[J k f];simp
    obtain⟨r,u⟩:=m.rel k f A;exact⟨r,YD k f A r u,e9 u.act⟩
  obtain⟨p,p1,p2,p3,p4⟩:=m.acq K;have X:=e9 p1;refine⟨p,by rw[act?_old X];exact p1,by rw[g?_old X];exact p2,(heard_old X).2 p3,λk f=>?_⟩;rw[v]at f;obtain⟨r,u,hrp⟩:=p4 k f;have hd:=m.wi.done (pu (pu K));grind
 .rw[l.block b ?_ ?_ ?_ ?_ ?_,m.kept b hb]
  all_goals obtain⟨i1,i2,i3,i4,i5,i6,i7,i8,i9⟩:=m.oi.ids
  .omega
  .intro h;have:=m.oi.base a z b h;omega
  .omega
  .omega
  .omega
 .rw[v]at f;rw[l.cells o λu=>?_]
  .exact m.un k f o O
  .cases a with
   |zero=>rw[m.oi.main]at u;exact u
   |succ i=>
    rw[m.oi.ahg i z]at u;exact m.rowok i k o (by have:i<G.j:=z;omega) u O
end
end Go.Ph
namespace Go.cD
open Go.ConcN (sumTo upd sumTo_upd upd_ne upd_same sumTo_congr le_sumTo sumTo_le)
variable {q:Type}
section
variable {n:Nat}{s s':St}
def Inv.LY(h:Inv n s):s.ms<=1:=by
 cases hs:s.w.s with
 |false=>
  have:=(h.norm hs).1;split at this<;>omega
 |true=>have:=(h.star hs).2.2.1;omega
def YE(n:Nat)(w:Wd)(T:Th):wt n w T<=16*n+43:=by
 unfold wt;grind
def O8(h:s.ms<=1):uh n s<=(16*n+43)*n+(4*n+19):=by
 have a:=g9 (f:=λi=>wt n s.w (s.th i)) (c:=16*n+43) (j:=n) λi _=>YE n s.w (s.th i);have b:(4*n+19)*s.ms<=4*n+19:=by
  have:=Nat.mul_le_mul_left (4*n+19) h;omega
 unfold uh;omega
def O9(h:OY n s' s)(a:s'.ms<=1):nQ n s'*((16*n+43)*n+(4*n+19)+1)+uh n s'<nQ n s*((16*n+43)*n+(4*n+19)+1)+uh n s:=by
 generalize b:(16*n+43)*n+(4*n+19)=K;have c:=O8 (n:=n) a;rw[b]at c
 rcases h with h|⟨d,e⟩
 .have:(nQ n s'+1)*(K+1)<=nQ n s*(K+1):=im _ h;grind
 .rw[d];omega
def mU(f:Nat->q)(i:Nat)(x y:q):upd (upd f i x) i y=upd f i y:=by
 funext a;unfold upd;split<;>rfl
def ja(f:Nat->q)(i:Nat):upd f i (f i)=f:=by
 funext a;unfold upd;grind
end
end Go.cD
namespace Go.Ph
open Go.Conc Go.ConcN
open Go.ConcM (MuAt muA msA OsLater muBlock)
open Go.ConcR (KK WgAt stA smA rd wr mk)
open Go.cD (Wd Th Mv Head eR spin mU ja)
def YF(n:Nat)(f' f:Nat->Tree):Prop:=∃a,a<n/\Tree.Lt (f' a) (f a)/\∀b,b≠a->f' b=f b
def Jk:∀(n:Nat)(f:Nat->Tree),Acc (YF n) f
 |0,f=>⟨_,λ_ h=>by obtain⟨a,j,_⟩:=h;omega⟩
 |n+1,f=>by
  have key:∀x:Tree,Acc Tree.Lt x->∀f:Nat->Tree,f n=x->Acc (YF (n+1)) f:=by
   intro x k
   induction k with
   |intro x _ l=>
    intro f hf;have inner:∀h:Nat->Tree,Acc (YF n) h->h n=x->Acc (YF (n+1)) h:=by
     intro h m
     induction m with
     |intro h _ c=>
      intro o;refine⟨_,λp r=>?_⟩;obtain⟨a,j,s,i⟩:=r;by_cases e:a=n
      .grind
      .exact c p ⟨a,ab,s,i⟩ ((i n (gr e)).t o)
    exact inner f (Jk n f) hf
  exact key (f n) (Tree.wf.apply _) f rfl
structure Mz where
 a:Nat
 b:Nat
 c:Nat
 f:Nat->Tree
 e:Nat
def ML(n:Nat)(x y:Mz):Prop:=x.a<y.a\/(x.a=y.a/\(x.b<y.b\/(x.b=y.b/\(x.c<y.c\/(x.c=y.c/\(YF n x.f y.f\/(x.f=y.f/\x.e<y.e)))))))
def acT(n:Nat):WellFounded (ML n):=by
 have w1:WellFounded (iC (YF n) (· < · : Nat->Nat->Prop)):=(iP ⟨YF n,⟨Jk n⟩⟩ gt).wf;have w2:=(iP gt ⟨_,w1⟩).wf;have w3:=(iP gt ⟨_,w2⟩).wf;have w4:=(iP gt ⟨_,w3⟩).wf;refine Subrelation.wf (r:=InvImage _ λx:Mz=>(x.a,x.b,x.c,x.f,x.e)) (λ{x y}h=>?_) (InvImage.wf _ w4);obtain⟨a,b,c,f,e⟩:=x;obtain⟨i,b',j,k,l⟩:=y;simp only[ML]at h;show iC _ _ (a,b,c,f,e) (i,b',j,k,l)
 rcases h with h|⟨rfl,h⟩
 .exact .left _ _ h
 .refine .right _ ?_
  rcases h with h|⟨rfl,h⟩
  .exact .left _ _ h
  .refine .right _ ?_
   rcases h with h|⟨rfl,h⟩
   .exact .left _ _ h
   grind
section
variable {Y:CB}{G G':Gh}{gs:Array bj}{w w':aP}{t:aa}{a b d d':Nat}{g g':bj}{es:Array bd}{M':Own}{q:Bool}
def qs(Y:CB)(G:Gh):Nat:=sumTo Y.c (λi=>if i=0 then 0 else G.q i)+sumTo G.j (λk=>if G.wp k=.quit then G.q (Y.c+k) else 0)
def rn:Option bj->Nat
 |some g=>if g.status=p9 then 1 else 0
 |none=>0
def awk(Y:CB)(G:Gh)(gs:Array bj):Nat:=sumTo (G.j+1) (λa=>rn gs[gid Y a]?)
def mz(Y:CB)(G:Gh)(gs:Array bj):Mz:=⟨vK Y G,phi Y G,qs Y G,G.tr,awk Y G gs⟩
def Made(Y:CB)(G:Gh)(gs:Array bj)(w:aP)(t:aa)(a:Nat)(g:bj):Prop:=
 ∃g' w' es G',stepG Y.P (gid Y a==0) g w=kp g' w' es/\MI Y G' (h8 (gs.map (woken Y.P g g' w')) (gid Y a) g') w' (t++hY (gid Y a) g.frame.fn g.frame.place es)/\
  ML (Y.n+1) (mz Y G' (h8 (gs.map (woken Y.P g g' w')) (gid Y a) g')) (mz Y G gs)
def fT(m:MI Y G gs w t)(c:a<=G.j):((G.V a).g==0)=(gid Y a==0):=by rw[m.oi.num a c]
def MI.loc(m:MI Y G gs w t)(hF:nG Y)(e:a<=G.j)(hg:gs[gid Y a]?=f8 g)(n:¬G.gone a){f:aP->Tree}(hf:G.tr a=.node f)
 (h:∃g' w' es M' d',stepG Y.P ((G.V a).g==0) g w=kp g' w' es/\Dl Y.toFix (G.V a) (G.q? a) (G.M a) (eP t (gid Y a)) w w' es M' d'/\L3 Y.toFix w w'/\g'.status=p9/\jA Y.toFix (G.V a) (G.q? a) (G.um Y a) (f w) M' d' g' w'):Made Y G gs w t a g:=by
 obtain⟨g',w',es,M',d',hs,o,i,p,r⟩:=h;rw[fT m e]at hs;have key:=MI.own (G':={ G with M:=upd G.M a M',tr:=upd G.tr a (f w) }) (g':=g') m hF e hg o rfl rfl rfl (λ_ _=>rfl) (λb hb l=>⟨g6 _ _ l,rfl,rfl,jf⟩) (λb hb l c=>pp c) (λk u c=>pp c) (λs=>pp s)
  (.run n p (by simp only[g1];exact r)) ⟨by rw[ht,i.1];exact m.sh.1,by rw[WgAt,i.2];exact m.sh.2⟩ m.mun (λ_ _=>rfl) m.out ⟨m.wi.v,m.wi.early,m.wi.late,m.wi.le,m.wi.calm,m.wi.w3,m.wi.done,m.wi.nz⟩ m.fuel m.fuel0
 refine⟨g',w',es,_,hs,key,pu ⟨rfl,pu ⟨rfl,pu ⟨rfl,pp ⟨a,?_,?_,λb hb=>g6 _ _ hb⟩⟩⟩⟩⟩
 .have:=m.wi.le;omega
 .simp only[mz,g1,hf];exact .sub f w
end
end Go.Ph
namespace Go.Ph
open Go.Conc Go.ConcN
open Go.ConcM (MuAt muA msA OsLater muBlock)
open Go.ConcR (KK WgAt stA smA rd wr)
open Go.cD (Wd Th Mv Head eR spin mU ja)
variable {C L:Nat}
variable {J M:Th}
def Ds(T:Th):cD.fh (eR T)=0/\cD.fq (eR T)=0/\cD.fk (eR T)=0/\cD.fa (eR T)=0/\cD.fr (eR T)=0/\cD.fu (eR T)=0/\cD.fw (eR T)=cD.fw T:=(Head.c2 (T:=T)).counts
def TX{n:Nat}{w:Wd}{T H:Th}(h:Head T H):cD.wt n w H<=cD.wt n w (eR T):=by
 cases h with
 |c2=>exact dk _
 |spin e f i=>
  have c:cD.wt n w (eR T)=4*n+1+(if T.aw then 0 else 4*n+1)+3*(4-T.it)+4+(if T.old=w then 0 else 4):=rfl;rw[c]
  cases hc:(!T.aw && !T.old.w&&T.old.k != 0) with
  |true=>
   have e1:cD.wt n w (cD.spin T)=4*n+1+(if T.aw then 0 else 4*n+1)+3*(4-T.it)+3:=by simp only[cD.wt,cD.spin,hc,if_true]
   rw[e1];omega
  |false=>
   have e1:cD.wt n w (cD.spin T)=4*n+1+(if T.aw then 0 else 4*n+1)+3*(4-T.it)+2:=by simp only[cD.wt,cD.spin,hc,py,if_false]
   rw[e1];omega
def TY{n:Nat}{s:cD.St}{i:Nat}{T T':Th}(h:cD.Inv n s)(hi:i<n)(c:s.th i=T)(hA:Alt T T') :
 cD.Inv n ⟨upd s.th i T',s.w,s.ms⟩/\cD.nQ n ⟨upd s.th i T',s.w,s.ms⟩=cD.nQ n s/\cD.uh n ⟨upd s.th i T',s.w,s.ms⟩<=cD.uh n s:=by
 have f:=h.tok i hi;have e1:=g0 s.th T' cD.am hi;have o:=g0 s.th T' (cD.wt n s.w) hi
 cases hA with
 |refl=>subst c;rw[ja];simp_all
 |head l _ k m=>
  rw[c]at f e1 o;obtain⟨c1,p,c3,u,v,y,z⟩:=k.counts;obtain⟨k1,k2,k3,A,B,C,D⟩:=Ds l;refine⟨cD.fX h hi (k.tok (f.r (by simp[eR])) (f.sv (pu (pu (pp rfl)))) f.Yv f.old m) ?_ ?_ ?_ ?_ ?_ ?_ ?_,?_,?_⟩
  .rw[c,c1,k1]
  .rw[c,p,k2]
  .rw[c,c3,k3]
  .rw[c,u,A]
  .rw[c,v,B]
  .rw[c,y,C]
  .rw[c,z,D]
  .have:cD.am T'=cD.am (eR l):=by rw[k.am,(Head.c2 (T:=l)).am]
   unfold cD.nQ;simp only;omega
  .have:=TX (n:=n) (w:=s.w) k;unfold cD.uh;simp only;omega
 |r2 _ b j hb=>
  rw[c]at f e1 o
  have m:T.aw=ge:=by cases e:T.aw with|false=>rfl|true=>rcases f.aw e with x|x|x<;>rw[j]at x<;>cases x
  refine⟨cD.fX h hi ?_ ?_ ?_ ?_ ?_ ?_ ?_ ?_,?_,?_⟩
  .exact cD.dg m (by simp[j]) (by simp[j]) (by simp[j]) (by simp[j]) (by simp[j]) f.old (λ_=>f.r (by simp[j])) (by simp[j]) f.Yv
  all_goals first
   |(simp[c,cD.fh,cD.fq,cD.fk,cD.fa,cD.fr,cD.fw,cD.fu];done)
   |(have:cD.am { T with sv:=b }=cD.am T:=by simp[cD.am]
     unfold cD.nQ;simp only;omega)
   |(have:cD.wt n s.w { T with sv:=b }=cD.wt n s.w T:=by simp[cD.wt,j]
     unfold cD.uh;simp only;omega)
def TZ{w w':Wd}(h:Mv w C J M w' L):L<=C\/J.pc=.us:=by
 cases h<;>grind
def YG(h:Alt J M)(c:M.pc=.s1):M=J:=by
 cases h with
 |refl=>rfl
 |head i _ f _=>rcases f.pc with e|e|e<;>rw[e]at c<;>cases c
 |r2 _ _ j _=>grind
section
variable {Y:CB}{G G':Gh}{gs:Array bj}{w w':aP}{t:aa}{a b d d':Nat}{g g':bj}{es:Array bd}{M':Own}{q:Bool}
def MI.mutex(m:MI Y G gs w t)(hF:nG Y)(h:C<G.j)(hg:gs[gid Y (C+1)]?=f8 g)(o:G.wp C=.mu)(z:(G.th C).pc≠.out)
 (f:eU Y.toFix (G.V (C+1)) (Y.Fin C) (G.fu (C+1)) (G.th C) (G.M (C+1)) (eP t (gid Y (C+1))) g w) (A:¬((G.th C).pc=.s1/\G.s.ms=0)):Made Y G gs w t (C+1) g:=by
 unfold eU at f;rw[if_neg z]at f;obtain⟨B,hA,f⟩:=f;have k:C<Y.n:=bT h m.wi.le;obtain⟨p,R,i3⟩:=TY (s:=oD G) m.mun k rfl hA;have S:=m.fuel C h;obtain⟨r,D⟩:∃r,G.fu (C+1)=r+1:=⟨G.fu (C+1)-1,ab⟩
 rw[D]at f;obtain⟨h1,h2,U,W⟩:=f;have J:=p.safe k;simp only[g1]at J;obtain⟨_,X⟩:=W G.s m.sh J p.small p.LY;have E:¬(B.pc=.s1/\G.s.ms=0):=fun⟨x,y⟩=>A ⟨by rw[<-YG hA x];exact x,y⟩;obtain⟨K,L,i,g',w',es,M',d',l,hs,Z,hD,N,O,YH⟩:=X E;rw[fT m (show C+1<=G.j from h)]at hs;obtain⟨F,P⟩:=p.move k (T:=B) (by simp only[g1]) l;simp only[mU]at F P;have Q:=cD.O9 P F.LY;have GG:phi Y { G with th:=upd G.th C K,M:=upd G.M (C+1) M',tr:=upd G.tr (C+1) O,fu:=upd G.fu (C+1) r,s:=⟨L,i,G.s.v,G.s.wt,G.s.ws⟩ }<phi Y G:=by
  have H:cD.nQ Y.n ⟨upd (oD G).th C B,(oD G).w,(oD G).ms⟩=cD.nQ Y.n (oD G):=R;rw[H]at Q;unfold phi muK;refine bT Q ?_;omega
 have hq:G.q? (C+1)=ge:=by simp[Gh.q?,o]
 have key:=MI.own (G':={ G with th:=upd G.th C K,M:=upd G.M (C+1) M',tr:=upd G.tr (C+1) O,fu:=upd G.fu (C+1) r,s:=⟨L,i,G.s.v,G.s.wt,G.s.ws⟩ }) (g':=g') m hF (show C+1<=G.j from h) hg (by rw[hq];exact hD) rfl rfl rfl (λ_ _=>rfl)
  (λb hb I=>⟨g6 _ _ I,by
    cases b with
    |zero=>simp only[Gh.um];rw[g6 _ _ ab]
    |succ b=>simp only[Gh.um];rw[g6 _ _ I,g6 _ _ ab],rfl,jf⟩)
  (λb hb I c=>by
    cases b with
    |zero=>exact pp c
    |succ b=>
     obtain⟨x1,x2,x3⟩:=c
     rcases TZ l with e|e
     .exact pp ⟨x1,by simp only;rw[g6 _ _ ab];exact x2,by simp only;omega⟩
     .exact pu ⟨U e,N⟩)
  (λC h c=>pp c) (λhm=>pp hm)
  (.run (by simp[Gh.gone,o]) N (by simp only[Gh.q?,Gh.um,o,g1,ne_eq,not_true_eq_false,decide_false];exact YH)) Z F (λk' u=>g6 _ _ ab)
  (λk' u c=>by
    have:k'≠C:=λe=>c (by rw[e];exact o)
    simp only;rw[g6 _ _ this];exact m.out k' u c)
  ⟨m.wi.v,m.wi.early,m.wi.late,m.wi.le,m.wi.calm,m.wi.w3,m.wi.done,m.wi.nz⟩
  (λk' u=>by
    by_cases e:k'=C
    .subst e;simp only[g1];omega
    .simp only;rw[g6 _ _ ab];have:=m.fuel k' u;omega)
  (by simp only;rw[g6 _ _ ab];exact m.fuel0)
 exact⟨g',w',es,_,hs,key,pu ⟨rfl,pp GG⟩⟩
def MI.block(m:MI Y G gs w t)(hF:nG Y)(p:a<=G.j)(hg:gs[gid Y a]?=f8 g)(r:¬G.gone a)(n:g.status=p9)(f:g.offers=f9)(e:G.waits a)
 (s:jA Y.toFix (G.V a) (G.q? a) (G.um Y a) (G.tr a) (G.M a) (eP t (gid Y a)) g w) (hs:stepG Y.P (gid Y a==0) g w=kp { g with status:=qi } w #[]):Made Y G gs w t a g:=by
 have u:Dl Y.toFix (G.V a) (G.q? a) (G.M a) (eP t (gid Y a)) w w #[] (G.M a) (eP t (gid Y a)):=
  ⟨rfl,rfl,qr _,dk _,λ_ _ _ _ _ _=>rfl,λc h=>⟨c,h,rfl⟩,λ_ _=>rfl,λ_=>rfl,λb=>⟨pp,λh=>h.resolve_right λx=>ab⟩,ar,ar,rfl⟩
 have v:G.M=upd G.M a (G.M a):=(ja _ _).y;have key:=MI.own (G':=G) (g':={ g with status:=qi }) m hF p hg u rfl rfl v (λ_ _=>rfl) (λb hb y=>⟨rfl,rfl,rfl,jf⟩) (λb hb y e=>pp e) (λk C e=>pp e) (λz=>pp z)
  (.wait g r rfl n f e s) m.sh m.mun (λ_ _=>rfl) m.out m.wi m.fuel m.fuel0
 refine⟨_,_,_,G,hs,key,pu ⟨rfl,pu ⟨rfl,pu ⟨rfl,pu ⟨rfl,?_⟩⟩⟩⟩⟩;have l:gs.map (woken Y.P g { g with status:=qi } w)=gs:=by
  have:woken Y.P g { g with status:=qi } w=id:=by funext o;exact hw rfl
  rw[this,Array.map_id]
 show awk Y G _<awk Y G gs;rw[l];unfold awk;have A:gid Y a<gs.size:=(bR.1 hg).1;have B:sumTo (G.j+1) (λb=>rn (h8 gs (gid Y a) { g with status:=qi })[gid Y b]?)=sumTo (G.j+1) (λb=>upd (λa=>rn gs[gid Y a]?) a 0 b):=by
  refine hh λb _=>?_;by_cases h:b=a
  .subst h;rw[g1,jx A];rfl
  .rw[g6 _ _ h,Array.getElem?_setIfInBounds_ne λx=>h (wm m.cpos x.y)]
 rw[B];have D:sumTo (G.j+1) (λb=>upd (λa=>rn gs[gid Y a]?) a 0 b)+rn (f8 g)=sumTo (G.j+1) (λa=>rn gs[gid Y a]?)+0:=by
  have:=g0 (j:=G.j+1) (i:=a) (λa=>rn gs[gid Y a]?) 0 id ab;simpa only[id,hg]using this
 have E:rn (f8 g)=1:=by simp[rn,n]
 omega
def lU:fv .mu=1:=rfl
def nH:fv .d1=1:=rfl
def oE:fv .d2=0:=rfl
def oF:fv .d3=0:=rfl
def oG:fv .d4=0:=rfl
def gV:fv .quit=0:=rfl
def oH:fd .mu=0:=rfl
def oI:fd .d1=0:=rfl
def nI:fd .d2=1:=rfl
def nJ:fd .d3=1:=rfl
def oJ:fd .d4=0:=rfl
def gW:fd .quit=0:=rfl
def oK:f4 .mu=0:=rfl
def oL:f4 .d1=0:=rfl
def oM:f4 .d2=0:=rfl
def oN:f4 .d3=0:=rfl
def nK:f4 .d4=1:=rfl
def gX:f4 .quit=0:=rfl
def acU(n j v v':Nat)(p:MP):wM n j v' p<=wM n j v p+3:=by
 cases p<;>simp only[wM]<;>(repeat' split)<;>omega
def MI.GH(m:MI Y G gs w t)(hF:nG Y){k:Nat}(C:k<G.j)(hg:gs[gid Y (k+1)]?=f8 g){p':WP}{s':Sh}(S:G.wp k≠.quit)(I:(G.th k).pc=.out)(J:p'≠.mu)
 (hs:stepG Y.P (gid Y (k+1)==0) g w=kp g' w' es) (K:ShAt Y.toFix w' s') (l:s'.mw=G.s.mw) (D:s'.ms=G.s.ms)
 (L:Dl Y.toFix (G.V (k+1)) (G.q? (k+1)) (G.M (k+1)) (eP t (gid Y (k+1))) w w' es M' d') (E:g'.status=p9)
 (N:(p'≠.quit/\ay Y.toFix (G.V (k+1)) gc (NH Y (G.V (k+1)) k (G.fu (k+1)) (G.th k) p') M' d' g' w')\/(p'=.quit/\∃n,eX Y.P n d' g'))
 (hrel:G.wp k≠.mu\/(es=#[h6 (pz (stA Y.Wg))]/\eP t (Y.c+k)=0/\Y.Fin k w'))
 (y:G.s.ws=0->s'.ws=0\/bv Y.P g=gc)
 (z:∀q:Nat->Nat,∀M tr,WI Y { G with wp:=upd G.wp k p',M:=M,tr:=tr,q:=q,s:=s' }) (A:wW p'+3<wW (G.wp k)\/(wW p'<wW (G.wp k)/\s'.v=G.s.v)):Made Y G gs w t (k+1) g:=by
 obtain⟨f,n,O⟩:∃(f:Tree)(n:Nat),(p'≠.quit/\jA Y.toFix (G.V (k+1)) gc (NH Y (G.V (k+1)) k (G.fu (k+1)) (G.th k) p') f M' d' g' w')\/(p'=.quit/\eX Y.P n d' g'):=by
  rcases N with⟨h,f,o⟩|⟨h,n,o⟩
  .grind
  .exact⟨.leaf,n,pu ⟨h,o⟩⟩
 have Q:∀q M tr,phi Y { G with wp:=upd G.wp k p',M:=M,tr:=tr,q:=q,s:=s' }=phi Y G:=by
  intro q M tr;have:oD { G with wp:=upd G.wp k p',M:=M,tr:=tr,q:=q,s:=s' }=oD G:=by simp[oD,l,D]
  unfold phi;rw[this]
 have F:∀q M tr,vK Y { G with wp:=upd G.wp k p',M:=M,tr:=tr,q:=q,s:=s' }<vK Y G:=by
  intro q M tr;have e:=g0 (j:=G.j) G.wp p' wW C;unfold vK;simp only
  rcases A with A|⟨A,hv⟩
  .have:=acU Y.n G.j G.s.v s'.v G.mp;omega
  .rw[hv];omega
 have key:=MI.own (G':={ G with wp:=upd G.wp k p',M:=upd G.M (k+1) M',tr:=upd G.tr (k+1) f,q:=upd G.q (Y.c+k) n,s:=s' }) (g':=g') m hF (show k+1<=G.j from C) hg L rfl rfl rfl (λi hi=>g6 _ _ (by rwa[bQ]at hi))
  (λb hb B=>by
    cases b with
    |zero=>exact⟨g6 G.tr f B,rfl,rfl,jf⟩
    |succ b=>
     have p:b≠k:=ab
     exact⟨g6 _ _ B,by simp only[Gh.um,g6 _ _ p],by simp only[Gh.q?,g6 _ _ p],by simp only[Gh.gone,g6 _ _ p]⟩)
  (λb hb B H=>by
    cases b with
    |zero=>
     obtain⟨x1,x2⟩:=H;exact(y x2).imp (λx=>⟨x1,x⟩) λx=>⟨x,E⟩
    |succ b=>
     have p:b≠k:=ab;obtain⟨x1,x2,x3⟩:=H
     exact pp ⟨by simp only[g6 _ _ p];exact x1,x2,by simp only;omega⟩)
  (λk' u r=>by
    by_cases e:k'=k
    .grind
    .simp only[g6 _ _ e]at r;exact pp r)
  (λR=>pp R)
  (by
    rcases O with⟨h,o⟩|⟨h,o⟩
    .refine .run (by simp only[Gh.gone,g1];exact h) E ?_;simp only[Gh.um,Gh.q?,g1];grind
    .refine .gone (by simp only[Gh.gone,g1];exact h) ?_;simp only[bQ,g1]
     exact o)
  K (by simp only[oD,l,D];exact m.mun) (λ_ _=>rfl)
  (λk' u r=>by
    by_cases e:k'=k
    .subst e;exact I
    .simp only[g6 _ _ e]at r;exact m.out k' u r)
  (z _ _ _) (λk' u=>by rw[Q];exact m.fuel k' u) (by have:=F (upd G.q (Y.c+k) n) (upd G.M (k+1) M') (upd G.tr (k+1) f);have:=m.fuel0;simp only at *;omega)
 exact⟨g',w',es,_,hs,key,pp (F _ _ _)⟩
def WI.GJ(_:WI Y G)(e:C<G.j)(p':WP):sumTo G.j (λi=>fv (upd G.wp C p' i))+fv (G.wp C)=sumTo G.j (λi=>fv (G.wp i))+fv p'/\
 sumTo G.j (λi=>fd (upd G.wp C p' i))+fd (G.wp C)=sumTo G.j (λi=>fd (G.wp i))+fd p'/\sumTo G.j (λi=>f4 (upd G.wp C p' i))+f4 (G.wp C)=sumTo G.j (λi=>f4 (G.wp i))+f4 p'/\
 fv (G.wp C)<=sumTo G.j (λi=>fv (G.wp i))/\fd (G.wp C)<=sumTo G.j (λi=>fd (G.wp i))/\f4 (G.wp C)<=sumTo G.j (λi=>f4 (G.wp i))/\sumTo G.j (λi=>fv (G.wp i))<=G.j:=by
 refine⟨g0 G.wp p' fv e,g0 G.wp p' fd e,g0 G.wp p' f4 e,g8 (f:=λi=>fv (G.wp i)) e,g8 (f:=λi=>fd (G.wp i)) e,g8 (f:=λi=>f4 (G.wp i)) e,?_⟩;have:=g9 (f:=λi=>fv (G.wp i)) (c:=1) (j:=G.j) λi _=>by cases G.wp i<;>simp[fv]
 omega
def WI.Jl(h:WI Y G)(c:C<G.j)(f:G.wp C≠.quit):G.mp≠.w4/\G.mp≠.aq/\G.mp≠.an:=
 ⟨λe=>f ((h.done (pp e)).2.2.2 C c),λe=>f ((h.done (pu (pp e))).2.2.2 C c),λe=>f ((h.done (pu (pu e))).2.2.2 C c)⟩
def WI.cases(h:WI Y G){k:Nat}(c:k<G.j)(f:G.wp k≠.quit):(G.mp=.add\/G.mp=.go\/G.mp=.w1\/∃v,G.mp=.w2 v)\/G.mp=.w3:=by
 obtain⟨i,l,m⟩:=h.Jl c f
 cases e:G.mp with
 |add=>exact pp (pp rfl)
 |go=>exact pp (pu (pp rfl))
 |w1=>grind
 |w2 v=>grind
 |w3=>exact pu rfl
 |w4=>exact absurd e i
 |aq=>exact absurd e l
 |an=>exact absurd e m
def WI.GH(h:WI Y G){k:Nat}(c:k<G.j)(f:G.wp k≠.quit){p':WP}{s':Sh}{q:Nat->Nat}{M:Nat->Own}{tr:Nat->Tree}
 (hv:s'.v+fv (G.wp k)=G.s.v+fv p')
 (l:(G.mp=.add\/G.mp=.go\/G.mp=.w1\/∃v,G.mp=.w2 v)->s'.wt=0/\s'.ws=0/\sumTo G.j (λi=>fd (upd G.wp k p' i))=0/\sumTo G.j (λi=>f4 (upd G.wp k p' i))=0)
 (m:G.mp=.w3->(s'.wt=1/\s'.ws=0/\sumTo G.j (λi=>f4 (upd G.wp k p' i))=0/\(if s'.v=0 then 1 else 0)=sumTo G.j (λi=>fd (upd G.wp k p' i)))\/
   (s'.wt=0/\s'.v=0/\sumTo G.j (λi=>fd (upd G.wp k p' i))=0/\sumTo G.j (λi=>f4 (upd G.wp k p' i))+s'.ws=1)):WI Y { G with wp:=upd G.wp k p',M:=M,tr:=tr,q:=q,s:=s' }:=by
 obtain⟨n,o,p,r,u,x,y⟩:=h.GJ c p';obtain⟨d1,d2,d3⟩:=h.Jl c f;have:=h.v;refine⟨?_,h.early,h.late,h.le,l,m,λe=>?_,h.nz⟩
 .grind
 grind
def MI.Jm(m:MI Y G gs w t)(hF:nG Y)(l:C<G.j)(hg:gs[gid Y (C+1)]?=f8 g)(p:G.wp C≠.quit)(dO:g.status=p9)(hT:jA Y.toFix (G.V (C+1)) (G.q? (C+1)) (G.um Y (C+1)) (G.tr (C+1)) (G.M (C+1)) (eP t (gid Y (C+1))) g w)
 (o:G.um Y (C+1) (G.M (C+1)) (eP t (gid Y (C+1))) g w):Made Y G gs w t (C+1) g:=by
 have O:C+1<=G.j:=l;have W:=m.wi;simp only[Gh.um]at o
 cases f:G.wp C with
 |mu=>
  rw[f]at o;by_cases S:(G.th C).pc=.out
  .
   simp only[NH,eU]at o;rw[if_pos S]at o;obtain⟨R,A,P,g',hs,y,Mb⟩:=o;rw[fT m O]at hs;rw[bQ]at A;have X:G.q? (C+1)=ge:=by simp[Gh.q?,f]
   have kG:(hO (h6 (pz (stA Y.Wg)))).touch? = f9:=rfl;obtain⟨i1,i2,i3,i4,i5,i6,i7,i8,i9⟩:=m.oi.ids;refine m.GH hF l hg (p':=.d1) (s':=G.s) p S ar hs m.sh rfl rfl (M':=G.M (C+1)) (d':=0) ?_ y (pp ⟨ar,Mb⟩) (pu ⟨rfl,A,P⟩) (λh=>pp h)
    (λq M tr=>?_) (pu ⟨by simp[f,wW],rfl⟩)
   .rw[bQ,A,X];refine⟨rfl,rfl,qr _,dk _,λ_ _ _ _ _ _=>rfl,λc h=>⟨c,h,rfl⟩,λ_ _=>rfl,λ_=>rfl,λb=>⟨pp,λh=>h.resolve_right λx=>ab⟩,λe he=>?_,ar,rfl⟩;simp at he;subst he;exact⟨λx hx=>(by rw[kG]at hx;cases hx),by simp[h6],(show Y.Wg<_ from i8)⟩
   .obtain⟨B,k,D,F,H,I,U⟩:=W.GJ l .d1;simp only[f,lU,nH,oE,oF,oG,gV,oH,oI,nI,nJ,oJ,gW,oK,oL,oM,oN,nK,gX]at B k D;refine W.GH l p (by simp only[f,lU,nH,oE,oF,oG,gV,oH,oI,nI,nJ,oJ,gW,oK,oL,oM,oN,nK,gX]) (λe=>?_) (λe=>?_)
    .obtain⟨c1,r,c3,u⟩:=W.calm e;grind
    .rcases W.w3 e with⟨c1,r,c3,u⟩|⟨c1,r,c3,u⟩
     .grind
     grind
  .by_cases hb:(G.th C).pc=.s1/\G.s.ms=0
   .have ai8:=o;simp only[NH,eU]at o;rw[if_neg S]at o;obtain⟨T',hA,o⟩:=o;have hfu:=m.fuel C l;obtain⟨f0,Z⟩:∃f0,G.fu (C+1)=f0+1:=⟨G.fu (C+1)-1,ab⟩
    rw[Z]at o;obtain⟨R,A,P,E⟩:=o;have Mc:T'=G.th C:=by
     generalize hth:G.th C=T at hA hb
     cases hA with
     |refl=>rfl
     |head T0 _ hH _=>simp[eR]at hb
     |r2 _ b tL _=>rw[hb.1]at tL;cases tL
    subst Mc;have By:C<Y.n:=bT l m.wi.le;obtain⟨h5,_⟩:=E G.s m.sh (m.mun.safe By) m.mun.small m.mun.LY;have hs:=h5 hb;rw[fT m O]at hs;exact m.block hF O hg (by simp only[Gh.gone];exact p) dO A ⟨f,hb⟩ hT hs
   .exact m.mutex hF l hg f S o hb
 |d1=>
  rw[f]at o;simp only[NH,AtD1,nR]at o;obtain⟨R,A,P,E⟩:=o;obtain⟨B,k,D,F,H,I,U⟩:=W.GJ l .quit;obtain⟨o1,o2,o3,_⟩:=W.GJ l .d2;simp only[f,lU,nH,oE,oF,oG,gV,oH,oI,nI,nJ,oJ,gW,oK,oL,oM,oN,nK,gX]at B k D F H I o1 o2 o3;have hv:=W.v;have hle:=W.le;have zg:G.s.wt<=1/\G.s.ws=0/\(G.s.wt=1->G.mp=.w3):=by
   rcases W.cases l p with e|e
   .obtain⟨c1,r,_⟩:=W.calm e;grind
   .refine⟨?_,?_,λ_=>e⟩<;>rcases W.w3 e with⟨c1,r,_⟩|⟨c1,r,_⟩<;>omega
  have hvn:G.s.v<=Y.n:=by
   by_cases e:G.mp=.go
   .have:=W.early (pu e);rw[if_pos e]at hv;omega
   .rw[if_neg e]at hv;omega
  obtain⟨g',w',es,M',d',hs,J,K,y,z⟩:=E G.s m.sh ⟨ab,hvn,zg.1,zg.2.1⟩;rw[fT m O]at hs;have L:G.q? (C+1)=gc:=by simp[Gh.q?,f]
  have N:=m.out C l (by rw[f];simp);by_cases e1:G.s.v=1/\G.s.wt=1
  .rw[if_pos e1]at z;have Q:=zg.2.2 e1.2;refine m.GH hF l hg (p':=.d2) (s':={ G.s with v:=G.s.v-1 }) p N ar hs J rfl rfl (by rw[L];exact K) y (pp ⟨ar,z⟩) (pp (by rw[f];simp)) (λh=>pp h) (λq M tr=>?_) (pp (by simp[f,wW]));refine W.GH l p (by simp only[f,lU,nH,oE,oF,oG,gV,oH,oI,nI,nJ,oJ,gW,oK,oL,oM,oN,nK,gX];omega) (λe=>?_) (λe=>?_)
   .grind
   .rcases W.w3 e with⟨c1,r,c3,u⟩|⟨c1,r,c3,u⟩
    .grind
    .omega
  .rw[if_neg e1]at z;refine m.GH hF l hg (p':=.quit) (s':={ G.s with v:=G.s.v-1 }) p N ar hs J rfl rfl (by rw[L];exact K) y (pu ⟨rfl,z⟩) (pp (by rw[f];simp)) (λh=>pp h) (λq M tr=>?_) (pp (by simp[f,wW]));refine W.GH l p (by simp only[f,lU,nH,oE,oF,oG,gV,oH,oI,nI,nJ,oJ,gW,oK,oL,oM,oN,nK,gX];omega) (λe=>?_) (λe=>?_)
   .obtain⟨c1,r,c3,u⟩:=W.calm e;grind
   .rcases W.w3 e with⟨c1,r,c3,u⟩|⟨c1,r,c3,u⟩
    .grind
    .omega
 |d2=>
  rw[f]at o;simp only[NH,AtD2,nR]at o;obtain⟨R,A,P,E⟩:=o;obtain⟨B,k,D,F,H,I,U⟩:=W.GJ l .d3;simp only[f,lU,nH,oE,oF,oG,gV,oH,oI,nI,nJ,oJ,gW,oK,oL,oM,oN,nK,gX]at B k D F H I;have Q:G.mp=.w3:=by
   rcases W.cases l p with e|e
   .have:=(W.calm e).2.2.1;omega
   .exact e
  have hv:G.s.v=0/\G.s.wt=1/\G.s.ws=0:=by
   rcases W.w3 Q with⟨c1,r,c3,u⟩|⟨c1,r,c3,u⟩
   .grind
   .omega
  obtain⟨g',w',es,M',d',hs,J,K,y,z⟩:=E G.s m.sh hv;rw[fT m O]at hs;have L:G.q? (C+1)=gc:=by simp[Gh.q?,f]
  have N:=m.out C l (by rw[f];simp);refine m.GH hF l hg (p':=.d3) (s':=G.s) p N ar hs J rfl rfl (by rw[L];exact K) y (pp ⟨ar,z⟩) (pp (by rw[f];simp)) (λh=>pp h) (λq M tr=>?_) (pu ⟨by simp[f,wW],rfl⟩);refine W.GH l p (by simp only[f,lU,nH,oE,oF,oG,gV,oH,oI,nI,nJ,oJ,gW,oK,oL,oM,oN,nK,gX]) (λe=>?_) (λe=>?_)
  .grind
  .rcases W.w3 e with⟨c1,r,c3,u⟩|⟨c1,r,c3,u⟩
   .grind
   grind
 |d3=>
  rw[f]at o;simp only[NH,AtD3,nR]at o;obtain⟨R,A,P,E⟩:=o;obtain⟨B,k,D,F,H,I,U⟩:=W.GJ l .d4;simp only[f,lU,nH,oE,oF,oG,gV,oH,oI,nI,nJ,oJ,gW,oK,oL,oM,oN,nK,gX]at B k D F H I;have Q:G.mp=.w3:=by
   rcases W.cases l p with e|e
   .have:=(W.calm e).2.2.1;omega
   .exact e
  have hv:G.s.v=0/\G.s.wt=1/\G.s.ws=0/\sumTo G.j (λi=>fd (G.wp i))=1/\sumTo G.j (λi=>f4 (G.wp i))=0:=by
   rcases W.w3 Q with⟨c1,r,c3,u⟩|⟨c1,r,c3,u⟩
   .grind
   .omega
  obtain⟨g',w',es,M',d',hs,J,K,y,z⟩:=E G.s m.sh ⟨hv.1,hv.2.1,hv.2.2.1⟩;rw[fT m O]at hs;have L:G.q? (C+1)=gc:=by simp[Gh.q?,f]
  have N:=m.out C l (by rw[f];simp);refine m.GH hF l hg (p':=.d4) (s':={ G.s with wt:=0 }) p N ar hs J rfl rfl (by rw[L];exact K) y (pp ⟨ar,z⟩) (pp (by rw[f];simp)) (λh=>pp h) (λq M tr=>?_) (pu ⟨by simp[f,wW],rfl⟩);refine W.GH l p (by simp only[f,lU,nH,oE,oF,oG,gV,oH,oI,nI,nJ,oJ,gW,oK,oL,oM,oN,nK,gX]) (λe=>?_) (λe=>?_)
  .grind
  grind
 |d4=>
  rw[f]at o;simp only[NH,AtD4,nR]at o;obtain⟨R,A,P,E⟩:=o;obtain⟨B,k,D,F,H,I,U⟩:=W.GJ l .quit;simp only[f,lU,nH,oE,oF,oG,gV,oH,oI,nI,nJ,oJ,gW,oK,oL,oM,oN,nK,gX]at B k D F H I;have Q:G.mp=.w3:=by
   rcases W.cases l p with e|e
   .have:=(W.calm e).2.2.2;omega
   .exact e
  have hv:G.s.v=0/\G.s.wt=0/\G.s.ws=0/\sumTo G.j (λi=>fd (G.wp i))=0/\sumTo G.j (λi=>f4 (G.wp i))=1:=by
   rcases W.w3 Q with⟨c1,r,c3,u⟩|⟨c1,r,c3,u⟩
   .omega
   grind
  obtain⟨g',w',es,M',d',hs,J,K,y,z⟩:=E G.s m.sh ⟨hv.1,hv.2.1,hv.2.2.1⟩;rw[fT m O]at hs;have L:G.q? (C+1)=gc:=by simp[Gh.q?,f]
  have N:=m.out C l (by rw[f];simp);refine m.GH hF l hg (p':=.quit) (s':={ G.s with ws:=1 }) p N ar hs J rfl rfl (by rw[L];exact K) y (pu ⟨rfl,z⟩) (pp (by rw[f];simp)) (λ_=>pu (P trivial)) (λq M tr=>?_) (pu ⟨by simp[f,wW],rfl⟩);refine W.GH l p (by simp only[f,lU,nH,oE,oF,oG,gV,oH,oI,nI,nJ,oJ,gW,oK,oL,oM,oN,nK,gX]) (λe=>?_) (λe=>?_)
  .grind
  grind
 |quit=>exact absurd f p
def MI.main(m:MI Y G gs w t)(hF:nG Y)(hg:gs[gid Y 0]?=f8 g){mp':MP}{s':Sh}{f0:Nat}(hs:stepG Y.P (gid Y 0==0) g w=kp g' w' es)(p:ShAt Y.toFix w' s')(c:s'.mw=G.s.mw)(l:s'.ms=G.s.ms)
 (r:Dl Y.toFix (G.V 0) ge (G.M 0) (eP t (gid Y 0)) w w' es M' d') (u:g'.status=p9) (x:ay Y.toFix (G.V 0) ge (stM Y G.j f0 (G.V 0) mp') M' d' g' w')
 (f:mp'=.an->es=#[h6 (pv (stA Y.Wg))]/\eP t 0=0/\∀k,k<G.j->G.wp k=.quit)
 (i:∀M tr fu,WI Y { G with mp:=mp',M:=M,tr:=tr,s:=s',fu:=fu }) (F:wM Y.n G.j s'.v mp'<wM Y.n G.j G.s.v G.mp) (hf:vK Y G<=f0):Made Y G gs w t 0 g:=by
 obtain⟨o,y⟩:=x;have z:∀M tr fu,phi Y { G with mp:=mp',M:=M,tr:=tr,s:=s',fu:=fu }=phi Y G:=by
  intro M tr fu;have:oD { G with mp:=mp',M:=M,tr:=tr,s:=s',fu:=fu }=oD G:=by simp[oD,c,l]
  unfold phi;rw[this]
 have A:∀M tr fu,vK Y { G with mp:=mp',M:=M,tr:=tr,s:=s',fu:=fu }<vK Y G:=by
  intro M tr fu;unfold vK;simp only;omega
 have key:=MI.own (G':={ G with mp:=mp',M:=upd G.M 0 M',tr:=upd G.tr 0 o,s:=s',fu:=upd G.fu 0 f0 }) (g':=g') m hF (eF _) hg r rfl rfl rfl (λ_ _=>rfl)
  (λb hb e=>by
    cases b with
    |zero=>exact absurd rfl e
    |succ b=>exact⟨g6 G.tr o e,by simp only[Gh.um];rw[g6 _ _ e],rfl,jf⟩)
  (λb hb e B=>by
    cases b with
    |zero=>exact absurd rfl e
    |succ b=>
     obtain⟨x1,x2,x3⟩:=B
     exact pp ⟨x1,x2,by simp only;omega⟩)
  (λk H C=>pp C) (λD=>pu ⟨rfl,f D⟩) (.run (λh=>h) u (by simp only[Gh.um,Gh.q?,g1];exact y))
  p (by simp only[oD,c,l];exact m.mun) (λ_ _=>rfl) m.out (i _ _ _) (λk' E=>by rw[z];simp only;rw[g6 _ _ ab];exact m.fuel k' E)
  (by grind[g1])
 exact⟨g',w',es,_,hs,key,pp (A _ _ _)⟩
def Dv(m:sumTo G.j (λk=>fv (G.wp k))=0)(n:sumTo G.j (λk=>fd (G.wp k))=0)(o:sumTo G.j (λk=>f4 (G.wp k))=0):∀k,k<G.j->G.wp k=.quit:=by
 intro k c;have h:fv (G.wp k)<=_:=g8 (f:=λk=>fv (G.wp k)) c;have i:fd (G.wp k)<=_:=g8 (f:=λk=>fd (G.wp k)) c;have l:f4 (G.wp k)<=_:=g8 (f:=λk=>f4 (G.wp k)) c;rw[m]at h;rw[n]at i;rw[o]at l
 cases e:G.wp k with
 |quit=>rfl
 |mu=>rw[e,lU]at h;omega
 |d1=>rw[e,nH]at h;omega
 |d2=>rw[e,nI]at i;omega
 |d3=>rw[e,nJ]at i;omega
 |d4=>rw[e,nK]at l;omega
def WI.vle(h:WI Y G):G.s.v<=Y.n:=by
 have k:=g9 (f:=λi=>fv (G.wp i)) (c:=1) (j:=G.j) λi _=>by cases G.wp i<;>simp[fv]
 have hv:=h.v;have:=h.le;by_cases e:G.mp=.go
 .have:=h.early (pu e);rw[if_pos e]at hv;omega
 .rw[if_neg e]at hv;omega
def MI.Pa(m:MI Y G gs w t)(hF:nG Y)(hg:gs[gid Y 0]?=f8 g)(S:g.status=p9)(T:jA Y.toFix (G.V 0) (G.q? 0) (G.um Y 0) (G.tr 0) (G.M 0) (eP t (gid Y 0)) g w)
 (o:G.um Y 0 (G.M 0) (eP t (gid Y 0)) g w) (p:G.mp≠.go) (J:G.mp≠.an):Made Y G gs w t 0 g:=by
 have W:=m.wi;have hv:=W.v;have U:=m.fuel0;simp only[Gh.um]at o
 cases l:G.mp with
 |go=>exact absurd l p
 |an=>exact absurd l J
 |add=>
  rw[l]at o;have A:=W.early (pp l);obtain⟨c1,u,c3,z⟩:=W.calm (pp l);obtain⟨r,K⟩:∃r,Y.n-G.j=r+1:=⟨Y.n-G.j-1,ab⟩
  have X:Y.n-(r+1)=G.j:=ab;have L:Y.n-(G.j+1)=r:=ab;have N:G.s.v<Y.n:=by
   have H:=g9 (f:=λi=>fv (G.wp i)) (c:=1) (j:=G.j) λi _=>by cases G.wp i<;>simp[fv]
   grind
  simp only[stM]at o;rw[K]at o;simp only[Ta,nR,X]at o;obtain⟨H,E,I,F⟩:=o;obtain⟨g',w',es,M',d',hs,B,C,D,y⟩:=F G.s m.sh ⟨N,c1,u⟩;rw[fT m (eF _)]at hs;refine m.main hF hg (mp':=.go) (s':={ G.s with v:=G.s.v+1 }) (f0:=G.fu 0) hs B rfl rfl C D (by simp only[stM,L];exact y) ar (λM tr fu=>?_) (by rw[l];simp only[wM];omega) ab;rw[if_neg (by rw[l];simp)]at hv;refine⟨?_,λ_=>A,λ_ h=>absurd rfl h,W.le,λ_=>⟨c1,u,c3,z⟩,ar,ar,ar⟩;simp only[if_true];omega
 |w1=>
  rw[l]at o;obtain⟨c1,u,c3,z⟩:=W.calm (pu (pu (pp l)));obtain⟨f,hf⟩:∃f,G.fu 0=f+1:=⟨G.fu 0-1,ab⟩
  rw[hf]at o;simp only[stM,AtW1,nR]at o;obtain⟨H,E,I,F⟩:=o;obtain⟨g',w',es,M',d',hs,B,C,D,y⟩:=F G.s m.sh ⟨W.vle,c1,u⟩;rw[fT m (eF _)]at hs;have A:=W.late (by rw[l];simp) p;rw[if_neg p]at hv;by_cases e:G.s.v=0
  .rw[if_pos e]at y;have aq:=Dv (G:=G) ab c3 z;refine m.main hF hg (mp':=.aq) (s':=G.s) (f0:=G.fu 0) hs B rfl rfl C D (by simp only[stM];exact y) ar (λM tr fu=>?_) (by rw[l];simp[wM]) ab;exact⟨by simp only[hv];simp,ar,λ_ _=>A,W.le,ar,ar,λ_=>⟨e,c1,u,aq⟩,ar⟩
  .rw[if_neg e]at y;refine m.main hF hg (mp':=.w2 G.s.v) (s':=G.s) (f0:=f) hs B rfl rfl C D (by simp only[stM];exact y) ar (λM tr fu=>?_) (by rw[l];simp[wM]) ab;exact⟨by simp only[hv];simp,ar,λ_ _=>A,W.le,λ_=>⟨c1,u,c3,z⟩,ar,ar,λv h=>by cases h;exact e⟩
 |w2 O=>
  rw[l]at o;obtain⟨c1,u,c3,z⟩:=W.calm (pu (pu (pu ⟨O,l⟩)));obtain⟨f,hf⟩:∃f,G.fu 0=f+1:=⟨G.fu 0-1,ab⟩
  rw[hf]at o;simp only[stM,AtW2,nR]at o;obtain⟨H,E,I,F⟩:=o;obtain⟨g',w',es,M',d',hs,B,C,D,y⟩:=F G.s m.sh ⟨W.vle,c1,u⟩;rw[fT m (eF _)]at hs;have A:=W.late (by rw[l];simp) p;have Z:=W.nz O l;rw[if_neg p]at hv;by_cases e:G.s.v=O
  .rw[if_pos e]at y B;refine m.main hF hg (mp':=.w3) (s':={ G.s with wt:=1 }) (f0:=G.fu 0) hs B rfl rfl C D (by simp only[stM];exact y) ar (λM tr fu=>?_) (by rw[l];simp[wM,e]) ab;exact⟨by simp only[hv];simp,ar,λ_ _=>A,W.le,ar,λ_=>pp ⟨rfl,u,z,aS⟩,ar,ar⟩
  .rw[if_neg e]at y B;refine m.main hF hg (mp':=.w1) (s':=G.s) (f0:=f) hs B rfl rfl C D (by simp only[stM];exact y) ar (λM tr fu=>?_) (by rw[l];simp[wM,e]) ab;exact⟨by simp only[hv];simp,ar,λ_ _=>A,W.le,λ_=>⟨c1,u,c3,z⟩,ar,ar,ar⟩
 |w3=>
  rw[l]at o;have ai8:=o;simp only[stM,AtW3,acP]at o;obtain⟨H,E,I⟩:=o
  have P:G.s.ws<=1:=by rcases W.w3 l with⟨c1,u,c3,z⟩|⟨c1,u,c3,z⟩<;>omega
  obtain⟨F,h5⟩:=I G.s m.sh P;have A:=W.late (by rw[l];simp) p;rw[if_neg p]at hv;by_cases e:G.s.ws=0
  .have hs:=F e;rw[fT m (eF _)]at hs;exact m.block hF (eF _) hg (λh=>h) S E ⟨l,e⟩ T hs
  .obtain⟨g',w',es,M',d',hs,B,C,D,y⟩:=h5 e;rw[fT m (eF _)]at hs;obtain⟨d1,d2,d3,d4⟩:G.s.wt=0/\G.s.v=0/\sumTo G.j (λk=>fd (G.wp k))=0/\sumTo G.j (λk=>f4 (G.wp k))+G.s.ws=1:=by
    rcases W.w3 l with⟨c1,u,c3,z⟩|h
    .omega
    .exact h
   have aq:=Dv (G:=G) ab d3 ab;refine m.main hF hg (mp':=.w4) (s':={ G.s with ws:=G.s.ws-1 }) (f0:=G.fu 0) hs B rfl rfl C D (by simp only[stM];exact y) ar (λM tr fu=>?_) (by rw[l];simp[wM]) ab;exact⟨by simp only[hv];simp,ar,λ_ _=>A,W.le,ar,ar,λ_=>⟨d2,d1,by simp only;omega,aq⟩,ar⟩
 |w4=>
  rw[l]at o;simp only[stM,AtW4,nR]at o;obtain⟨H,E,I,F⟩:=o;obtain⟨c1,u,c3,z⟩:=W.done (pp l);obtain⟨g',w',es,M',d',hs,B,C,D,y⟩:=F G.s m.sh ⟨c1,u,c3⟩;rw[fT m (eF _)]at hs;have A:=W.late (by rw[l];simp) p;rw[if_neg p]at hv;refine m.main hF hg (mp':=.aq) (s':=G.s) (f0:=G.fu 0) hs B rfl rfl C D (by simp only[stM];exact y) ar (λM tr fu=>?_) (by rw[l];simp[wM]) ab;exact⟨by simp only[hv];simp,ar,λ_ _=>A,W.le,ar,ar,λ_=>⟨c1,u,c3,z⟩,ar⟩
 |aq=>
  rw[l]at o;simp only[stM,O1]at o;obtain⟨H,E,g',hs,K,y⟩:=o;rw[fT m (eF _)]at hs;obtain⟨c1,u,c3,z⟩:=W.done (pu (pp l));have A:=W.late (by rw[l];simp) p;rw[if_neg p]at hv;rw[iZ]at E;obtain⟨i1,i2,i3,i4,i5,i6,i7,i8,i9⟩:=m.oi.ids;have kG:(hO (h6 (pv (stA Y.Wg)))).touch? = f9:=rfl;refine m.main hF hg (mp':=.an) (s':=G.s) (f0:=G.fu 0) (M':=G.M 0) (d':=0) hs m.sh rfl rfl ?_ K (by simp only[stM];exact y) (λ_=>⟨rfl,E,z⟩) (λM tr fu=>?_) (by rw[l];simp[wM]) ab
  .rw[iZ,E];refine⟨rfl,rfl,qr _,dk _,λ_ _ _ _ _ _=>rfl,λc h=>⟨c,h,rfl⟩,λ_ _=>rfl,λ_=>rfl,λb=>⟨pp,λh=>h.resolve_right λx=>ab⟩,λe Q=>?_,ar,rfl⟩;simp at Q;subst Q;exact⟨λx R=>(by rw[kG]at R;cases R),by simp[h6],(show Y.Wg<_ from i8)⟩
  .exact⟨by simp only[hv];simp,ar,λ_ _=>A,W.le,ar,ar,λ_=>⟨c1,u,c3,z⟩,ar⟩
end
def Jn(Y:CB):Prop:=∀k k' o,k≠k'->Y.row k o->¬Y.row k' o
section
variable {Y:CB}{G G':Gh}{gs:Array bj}{w w':aP}{t:aa}{a b d d':Nat}{g g':bj}{es:Array bd}{M':Own}{q:Bool}{sl:Option (Nat×Nat)}
def Sit.same(h:Sit Y G b d g w)(e1:G'.V b=G.V b)(n:G'.M b=G.M b)(o:G'.tr b=G.tr b)(p:G'.um Y b=G.um Y b)(e5:G'.q? b=G.q? b)(c:G'.gone b↔G.gone b)(i:G'.q (gid Y b)=G.q (gid Y b))(j:G.waits b->G'.waits b):Sit Y G' b d g w:=by
 cases h with
 |run hg f h=>exact .run (λy=>hg (c.1 y)) f aS
 |wait k hg e f l m h=>exact .wait k (λy=>hg (c.1 y)) e f l (j m) aS
 |gone hg h=>exact .gone (c.2 hg) (by rw[i];exact h)
def Md(t:aa)(x y:ac)(k n:Nat)(c:x.act=.go n)(hy:y.act=hX):eP (t ++ #[x,y]) k=eP t k:=by
 have:=Deaf_append t k [x,y];rw[show(#[x,y]:Array ac)=[x,y].toArray from rfl,this];simp[deafStep,c,hy]
def ru{ad:aL}{u:aa}(h:gL ad t C L)(c:∀op∈u,op.act.touch? = f9):gL ad (t++u) C L:=by
 refine h.app λi hi _ hc=>?_;obtain⟨x,e,_⟩:=hc;grind[eE,getElem?_append_cases]
def MI.spawn(m:MI Y G gs w t)(GK:Jn Y)(hg:gs[gid Y 0]?=f8 g)(R:G.mp=.go)(aF:G.um Y 0 (G.M 0) (eP t (gid Y 0)) g w) :
 ∃jk ops G',runT Y.P (crowd gs w sl) 0=(.next (crowd jk w sl),ops)/\MI Y G' jk w (t++ops)/\ML (Y.n+1) (mz Y G' jk) (mz Y G gs):=by
 have W:=m.wi;have hj:=W.early (pu R);obtain⟨c1,c2,c3,c4⟩:=W.calm (pu (pp R));have hv:=W.v;rw[if_pos R]at hv;simp only[Gh.um]at aF;rw[R]at aF;simp only[stM,AtGo]at aF;obtain⟨h1,h2,g',child,hs,gl,hrc,aic,t0,YH⟩:=aF;rw[fT m (eF _)]at hs;rw[iZ]at hg h2 hs;obtain⟨t1,ht1⟩:=aic (m.un G.j (dk _)) (phi Y G+1);have sw:=runT_crowd_spawn (P:=Y.P) (sl:=sl) hg (show stepG Y.P (0==0) g w=_ from hs);have Dt:∃(u:MP)(N:Tree),(u=.add/\G.j+1<Y.n\/u=.w1/\G.j+1=Y.n)/\jA Y.toFix ((G.V 0).more (G.M 0)) ge (stM Y (G.j+1) (vK Y G+1) ((G.V 0).more (G.M 0)) u) N nobody 0 g' w:=by
  rcases gg (G.j+1) Y.n with E|ve
  .exact⟨.add,t0,pp ⟨rfl,E⟩,by simp only[stM];exact YH⟩
  .have e:Y.n-(G.j+1)=0:=ab;rw[e]at YH;have:ay Y.toFix ((G.V 0).more (G.M 0)) ge (stM Y (G.j+1) (vK Y G+1) ((G.V 0).more (G.M 0)) .w1) nobody 0 g' w:=ay.mono ⟨t0,YH⟩ λM d g w h=>by
    simp only[stM];exact h (vK Y G+1)
   obtain⟨N,h⟩:=this;grind
 obtain⟨u,N,hmp,aie⟩:=Dt;have xC:u≠.go/\u≠.an/\u≠.w3/\u≠.w4/\u≠.aq/\∀v,u≠.w2 v:=aS;let G':Gh:={ j:=G.j+1,th:=G.th,wp:=upd G.wp G.j .mu,mp:=u,V:=upd (upd G.V 0 ((G.V 0).more (G.M 0))) (G.j+1) (rj Y.c Y.row G.j (G.V 0) (G.M 0)),M:=upd (upd G.M 0 nobody) (G.j+1) nobody,tr:=upd (upd G.tr 0 N) (G.j+1) t1,q:=G.q,fu:=upd (upd G.fu 0 (vK Y G+1)) (G.j+1) (phi Y G+1),s:=G.s }
 have S:G'.V 0=(G.V 0).more (G.M 0):=(g6 (upd G.V 0 ((G.V 0).more (G.M 0))) (rj Y.c Y.row G.j (G.V 0) (G.M 0)) (show 0≠G.j+1 by omega)).t (g1 G.V 0 _);have K:G'.V (G.j+1)=rj Y.c Y.row G.j (G.V 0) (G.M 0):=g1 _ _ _;have C:∀k,k<G.j->G'.V (k+1)=G.V (k+1):=λk p=>(g6 (upd G.V 0 ((G.V 0).more (G.M 0))) (rj Y.c Y.row G.j (G.V 0) (G.M 0)) (show k+1≠G.j+1 by omega)).t (g6 G.V _ (show k+1≠0 by omega));have T:G'.M 0=nobody:=(g6 (upd G.M 0 nobody) nobody (show 0≠G.j+1 by omega)).t (g1 G.M 0 _);have Q:G'.M (G.j+1)=nobody:=g1 _ _ _;have Mk:∀k,k<G.j->G'.M (k+1)=G.M (k+1):=λk p=>(g6 (upd G.M 0 nobody) nobody (show k+1≠G.j+1 by omega)).t (g6 G.M _ (show k+1≠0 by omega));have L:G'.wp G.j=.mu:=g1 _ _ _;have F:∀k,k<G.j->G'.wp k=G.wp k:=λk p=>g6 _ _ ab;have GG:phi Y G'=phi Y G:=rfl;have LO:∀f:WP->Nat,sumTo (G.j+1) (λk=>f (G'.wp k))=sumTo G.j (λk=>f (G.wp k))+f .mu:=by
  intro f;rw[sumTo,L,hh λk p=>by rw[F k p]]
 have GI:vK Y G'<vK Y G:=by
  have e1:vK Y G'=wM Y.n (G.j+1) G.s.v u+sumTo (G.j+1) (λk=>wW (G'.wp k)):=rfl;have H:vK Y G=wM Y.n G.j G.s.v G.mp+sumTo G.j (λk=>wW (G.wp k)):=rfl;rw[e1,H,LO,R]
  rcases hmp with⟨rfl,E⟩|⟨rfl,he⟩
  .simp only[wM,wW];omega
  .simp only[wM,wW];omega
 have O:=m.oi;have D:∀a,a<=G.j+1->a=0\/a=G.j+1\/∃k,k<G.j/\a=k+1:=by
  intro a A
  cases a with
  |zero=>exact pp rfl
  |succ k=>
   grind
 have O':OI Y G' w:=by
  refine⟨λa A b hb=>?_,λa a' A ha' bu b hb=>?_,λa A b hb=>?_,λa a' A ha' bu o=>?_,λa A b hb=>?_,λa A=>?_,O.ids,?_,λk p=>?_⟩
  .rcases D a A with rfl|rfl|⟨k,p,rfl⟩
   .rw[T,S]at hb
    rcases hb with hb|hb|hb
    .exact hb.elim
    .exact O.ap 0 (eF _) b (pu hb)
    .exact O.ap 0 (eF _) b (pp hb)
   .rw[Q,K]at hb
    rcases hb with hb|hb|hb
    .exact hb.elim
    .exact O.ap 0 (eF _) b (pu hb)
    .exact O.ap 0 (eF _) b (pp hb)
   .rw[Mk k p,C k p]at hb;exact O.ap (k+1) p b hb
  .rcases D a A with rfl|rfl|⟨k,p,rfl⟩
   .rw[T]at hb;exact hb.elim
   .rw[Q]at hb;exact hb.elim
   .rw[Mk k p]at hb
    rcases D a' ha' with rfl|rfl|⟨k',B,rfl⟩
    .rw[T,S];have:=O.dj (k+1) 0 p (eF _) ab b hb;exact⟨λh=>h,λh=>h.elim this.2 this.1⟩
    .rw[Q,K];have:=O.dj (k+1) 0 p (eF _) ab b hb;exact⟨λh=>h,λh=>h.elim this.2 this.1⟩
    .rw[Mk k' B,C k' B];exact O.dj (k+1) (k'+1) p B bu b hb
  .rcases D a A with rfl|rfl|⟨k,p,rfl⟩
   .rw[T]at hb;exact hb.elim
   .rw[Q]at hb;exact hb.elim
   .rw[Mk k p]at hb;rw[C k p];exact O.self (k+1) p b hb
  .have YK:(G'.V 0).row=λ_=>False:=by rw[S];exact O.main
   have U:(G'.V (G.j+1)).row=Y.row G.j:=by rw[K];rfl
   have T4:∀k,k<G.j->(G'.V (k+1)).row=Y.row k:=λk p=>by rw[C k p];exact O.ahg k p
   rcases D a A with rfl|rfl|⟨k,p,rfl⟩
   .grind
   .rcases D a' ha' with rfl|rfl|⟨k',B,rfl⟩
    .rw[YK];exact λ_ h=>h
    .exact absurd rfl bu
    .rw[U,T4 k' B];exact GK _ _ o ab
   .rcases D a' ha' with rfl|rfl|⟨k',B,rfl⟩
    .rw[YK];exact λ_ h=>h
    .rw[U,T4 k p];exact GK _ _ o ab
    .rw[T4 k p,T4 k' B];exact GK _ _ o ab
  .rcases D a A with rfl|rfl|⟨k,p,rfl⟩
   .rw[T]at hb;exact hb.elim
   .rw[Q]at hb;exact hb.elim
   .rw[Mk k p]at hb;exact O.base (k+1) p b hb
  .rcases D a A with rfl|rfl|⟨k,p,rfl⟩
   .rw[S];exact O.num 0 (eF _)
   .rw[K,bQ];rfl
   .rw[C k p];exact O.num (k+1) p
  .rw[S];exact O.main
  .by_cases e:k=G.j
   .subst e;rw[K];rfl
   .rw[C k aS];exact O.ahg k aS
 have WM:gs.size=Y.c+G.j:=m.size;have cpos:=m.cpos;let x:ac:={ g:=0,fn:=g.frame.fn,pos:=g.frame.place,act:=.go (Y.c+G.j) }
 let y:ac:={ g:=Y.c+G.j,fn:=child.frame.fn,pos:=g.frame.place,act:=hX }
 have Gp:(((hY 0 g.frame.fn g.frame.place #[]).push { g:=0,fn:=g.frame.fn,pos:=g.frame.place,act:=.go gs.size }).push { g:=gs.size,fn:=child.frame.fn,pos:=g.frame.place,act:=hX })=#[x,y]:=by
  rw[WM];rfl
 have Dw:∀op∈(#[x,y]:Array ac),op.act.touch? = f9:=by
  intro op X;simp only[ko,dp,eW,or_false]at X
  rcases X with rfl|rfl<;>rfl
 have hD:∀k,eP (t ++ #[x,y]) k=eP t k:=λk=>Md t x y k _ rfl rfl;have tri:TI Y.Shun (OZ Y.toFix) (BK Y G') (O5 Y G') Y.c (G.j+1) (t ++ #[x,y]):=by
  refine TI.fork (O'.fam m.shun) Jj (m.tri.choose (λk l k1 k2=>?_) (λk l k1 k2=>?_)) ⟨rfl,rfl⟩ ⟨rfl,rfl⟩ h2 (m.above _ ab)
  .have hi:k-Y.c<G.j:=ab;simp only[BK,C _ hi,Mk _ hi];grind
  .have hi:k-Y.c<G.j:=ab;simp only[O5,C _ hi];grind
 have acY:0<gs.size:=ab;have aif:((h8 gs 0 g').push child)[0]?=f8 g':=by
  grind
 have aih:((h8 gs 0 g').push child)[Y.c+G.j]?=f8 child:=by
  grind
 have Z:∀i z,i≠0->i≠Y.c+G.j->((h8 gs 0 g').push child)[i]?=f8 z->gs[i]?=f8 z:=by
  grind
 refine⟨_,_,G',sw,?_,pp GI⟩;rw[Gp];refine⟨cpos,?_,λa A z I=>?_,λi z h0 hi I=>?_,λi hi=>?_,m.sh,m.tb,m.mun,λk p By=>m.fresh k aS By,λk p J=>?_,?_,λk p=>?_,?_,O',m.shun,tri,λk p J=>?_,m.norel.app λop X=>?_,λop X=>?_,λk p J=>?_,λhm=>absurd hm xC.2.1,m.tape,m.output,m.os,m.kept,m.rowok,λk p o ho=>m.un k aS o ho⟩
 .grind
 .rw[hD]
  rcases D a A with rfl|rfl|⟨k,p,rfl⟩
  .rw[iZ,aif]at I;obtain rfl:=mj I;rw[iZ,h2];refine .run (λh=>h) gl ?_;have e1:G'.tr 0=N:=(g6 (upd G.tr 0 N) t1 (show 0≠G.j+1 by omega)).t (g1 G.tr 0 _);have H:G'.fu 0=vK Y G+1:=(g6 (upd G.fu 0 (vK Y G+1)) (phi Y G+1) (show 0≠G.j+1 by omega)).t (g1 G.fu 0 _);show jA Y.toFix (G'.V 0) ge (stM Y (G.j+1) (G'.fu 0) (G'.V 0) u) (G'.tr 0) (G'.M 0) 0 g' w;grind
  .rw[bQ,aih]at I;obtain rfl:=mj I;rw[bQ,m.above _ ab];have hq:G'.q? (G.j+1)=ge:=by simp only[Gh.q?,L,ne_eq,not_true_eq_false,decide_false]
   have e1:G'.tr (G.j+1)=t1:=g1 _ _ _;have H:G'.fu (G.j+1)=phi Y G+1:=g1 _ _ _;refine .run (by simp only[Gh.gone,L];simp) hrc ?_;rw[hq,e1,K,Q];show jA Y.toFix _ ge (NH Y (G'.V (G.j+1)) G.j (G'.fu (G.j+1)) (G.th G.j) (G'.wp G.j)) t1 nobody 0 child w;rw[L,K,H,m.fresh G.j (dk _) hj];exact ht1
  .rw[bQ]at I ⊢;have Yt:=Z _ z ab ab I;have hs:=m.sit (k+1) p z (by rw[bQ];exact Yt);rw[bQ]at hs;refine hs.same (C k p) (Mk k p) ?_ ?_ ?_ ?_ rfl ?_
   .grind[g6]
   .have H:G'.fu (k+1)=G.fu (k+1):=(g6 (upd G.fu 0 (vK Y G+1)) (phi Y G+1) (show k+1≠G.j+1 by omega)).t (g6 G.fu _ (show k+1≠0 by omega));show NH Y (G'.V (k+1)) k (G'.fu (k+1)) (G.th k) (G'.wp k)=NH Y (G.V (k+1)) k (G.fu (k+1)) (G.th k) (G.wp k);rw[C k p,H,F k p]
   .simp only[Gh.q?,F k p]
   .simp only[Gh.gone,F k p]
   .exact fun⟨x1,x2,x3⟩=>⟨by rw[F k p];exact x1,x2,x3⟩
 .rw[hD];exact m.old i z h0 hi (Z i z ab ab I)
 .rw[hD];simp only[Array.size_push,o0]at hi;exact m.above i ab
 .have B:k<G.j+1:=p;by_cases e:k=G.j
  .subst e;exact absurd L J
  .have:k<G.j:=ab;exact m.out k this (by rw[<-F k this];exact J)
 .refine⟨?_,λh=>?_,λh1 h2=>?_,?_,λ_=>⟨c1,c2,?_,?_⟩,λh=>absurd h xC.2.2.1,λh=>?_,λv h=>absurd h (xC.2.2.2.2.2 v)⟩
  .show G.s.v=sumTo (G.j+1) (λk=>fv (G'.wp k))+(if u=.go then 1 else 0)
   rw[LO,if_neg xC.1,lU];omega
  .grind
  .grind
  .show G.j+1<=Y.n;omega
  .show sumTo (G.j+1) (λk=>fd (G'.wp k))=0;rw[LO,c3];rfl
  .show sumTo (G.j+1) (λk=>f4 (G'.wp k))=0;rw[LO,c4];rfl
  grind
 .rw[GG];have B:k<G.j+1:=p;show phi Y G+1<=upd (upd G.fu 0 (vK Y G+1)) (G.j+1) (phi Y G+1) (k+1);by_cases e:k=G.j
  .subst e;rw[g1];omega
  .rw[g6 _ _ ab,g6 _ _ ab];exact m.fuel k ab
 .have H:G'.fu 0=vK Y G+1:=(g6 (upd G.fu 0 (vK Y G+1)) (phi Y G+1) (show 0≠G.j+1 by omega)).t (g1 G.fu 0 _);rw[H];omega
 .have B:k<G.j+1:=p;by_cases e:k=G.j
  .subst e;exact absurd L J
  .have E:k<G.j:=ab;obtain⟨r,hr⟩:=m.rel k E (by rw[<-F k E];exact J);exact⟨r,ru hr Dw⟩
 .grind
 .rcases Array.mem_append.1 X with h|h
  .exact m.low op h
  .simp only[ko,dp,eW,or_false]at h
   rcases h with rfl|rfl<;>trivial
 .have B:k<G.j+1:=p;by_cases e:k=G.j
  .subst e;exact absurd L J
  .have E:k<G.j:=ab;exact m.fin k E (by rw[<-F k E];exact J)
def WN(V:Vw)(M:Own)(w:aP)(d:Nat):Rl Y.toFix V M w (w.at d):=⟨rfl,rfl,qr _,dk _,λ_ _=>rfl,λ_ _=>rfl,id,λ_ _=>rfl⟩
def Sit.at(h:Sit Y G b d g w)(n:Nat):Sit Y G b d g (w.at n):=by
 cases h with
 |run hg c h=>exact .run hg c (h.rely (WN _ _ _ _))
 |wait f hg e c i j h=>exact .wait f hg e c i j (h.rely (WN _ _ _ _))
 |gone hg h=>exact .gone hg h
def MI.at(m:MI Y G gs w t)(hF:nG Y)(n:Nat):MI Y G gs (w.at n) t:=
 ⟨m.cpos,m.size,λa c g hg=>(m.sit a c g hg).at n,m.old,m.above,m.sh,m.tb,m.mun,m.fresh,m.out,m.wi,m.fuel,m.fuel0,⟨m.oi.ap,m.oi.dj,m.oi.self,m.oi.rows,m.oi.base,m.oi.num,m.oi.ids,m.oi.main,m.oi.ahg⟩,m.shun,m.tri,m.rel,m.norel,m.low,
  λk e f=>hF k w (w.at n) (λ_ _=>rfl) (m.fin k e f),m.acq,m.tape,m.output,m.os,m.kept,m.rowok,m.un⟩
def MI.slip(m:MI Y G gs w t)(hi:gs[C]?=f8 g)(X:0<C)(H:C<Y.c\/∃k,k<G.j/\C=Y.c+k/\G.wp k=.quit)(I:G.q C=L+1)(z:∀e∈es,e.mute=gc)
 (J:eX Y.P L (bi (eP t C) es) g') :
 ∃G',MI Y G' (h8 (gs.map (woken Y.P g g' w)) C g') w (t++hY C g.frame.fn g.frame.place es)/\ML (Y.n+1) (mz Y G' (h8 (gs.map (woken Y.P g g' w)) C g')) (mz Y G gs):=by
 have Z:C<gs.size:=(bR.1 hi).1;have K:∀b,b≠C->eP (t++hY C g.frame.fn g.frame.place es) b=eP t b:=λb hb=>
  Deaf_other t (gr hb) _ (λop f=>by obtain⟨e,_,rfl⟩:=e8 f;rfl)
 have A:eP (t++hY C g.frame.fn g.frame.place es) C=bi (eP t C) es:=Deaf_own _ _ _ _ _;have i:∀op∈hY C g.frame.fn g.frame.place es,op.act.touch? = f9:=λop f=>by
  obtain⟨e,B,rfl⟩:=e8 f;exact fb (z e B)
 have n:∀b x,b≠C->(h8 (gs.map (woken Y.P g g' w)) C g')[b]?=f8 x->∃y,gs[b]?=f8 y/\x=woken Y.P g g' w y:=by
  grind
 have M:∀x,(h8 (gs.map (woken Y.P g g' w)) C g')[C]?=f8 x->x=g':=by
  grind
 refine⟨{ G with q:=upd G.q C L },⟨m.cpos,by simpa using m.size,λb hb x s=>?_,λb x O hb s=>?_,λb hb=>?_,m.sh,m.tb,m.mun,m.fresh,m.out,⟨m.wi.v,m.wi.early,m.wi.late,m.wi.le,m.wi.calm,m.wi.w3,m.wi.done,m.wi.nz⟩,m.fuel,m.fuel0,
  ⟨m.oi.ap,m.oi.dj,m.oi.self,m.oi.rows,m.oi.base,m.oi.num,m.oi.ids,m.oi.main,m.oi.ahg⟩,m.shun,?_,λk u Q=>?_,m.norel.app λop f=>?_,λop f=>?_,m.fin,λz=>?_,m.tape,m.output,m.os,m.kept,m.rowok,m.un⟩,?_⟩
 .by_cases e:gid Y b=C
  .rw[e]at s ⊢;obtain rfl:=M x s;rw[A]
   rcases H with h|⟨k,u,rfl,o⟩
   .exfalso
    cases b with
    |zero=>rw[iZ]at e;omega
    |succ b=>rw[bQ]at e;omega
   .have:b=k+1:=wm m.cpos (e.t (bQ k).y);subst this;exact .gone o (by simp only[bQ,g1];exact J)
  .obtain⟨y,hy,rfl⟩:=n _ _ e s;rw[K _ e];exact(m.sit b hb y hy).other (Rl.refl _ _ _) g g' rfl rfl rfl rfl rfl jf (g6 _ _ e) pp
 .by_cases e:b=C
  .subst e;obtain rfl:=M x s;rw[A];simp only[g1];exact J
  .obtain⟨y,hy,rfl⟩:=n _ _ e s;have:=m.old b y O hb hy;grind[e7,g6]
 .have R:gs.size<=b:=by simpa using hb
  rw[K _ ab];exact m.above b R
 .exact m.tri.appMute (g:=C) (λop f=>by obtain⟨e,_,rfl⟩:=e8 f;rfl) i
 .obtain⟨r,D⟩:=m.rel k u Q;exact⟨r,ru D i⟩
 .obtain⟨e,B,rfl⟩:=e8 f;have:=z e B;obtain⟨l,x,y⟩:=e;intro hc
  cases l with
  |mark S=>cases S<;>simp_all [jn,hO]
  |_=>simp_all [jn]
 .rcases Array.mem_append.1 f with h|h
  .exact m.low op h
  .obtain⟨e,B,rfl⟩:=e8 h;exact fc (z e B) _
 .obtain⟨p,N,T,U,V⟩:=m.acq z;have E:=e9 N;refine⟨p,by rw[act?_old E];exact N,by rw[g?_old E];exact T,(heard_old E).2 U,λk u=>?_⟩;obtain⟨r,D,F⟩:=V k u;exact⟨r,ru D i,F⟩
 .refine pu ⟨rfl,pu ⟨rfl,pp ?_⟩⟩;show qs Y { G with q:=upd G.q C L }<qs Y G;unfold qs;simp only
  rcases H with h|⟨k,u,rfl,o⟩
  .have e1:sumTo Y.c (λb=>if b=0 then 0 else upd G.q C L b)+(L+1)=sumTo Y.c (λb=>if b=0 then 0 else G.q b)+L:=by
    have:=g0 (j:=Y.c) (λb=>if b=0 then 0 else G.q b) L id h;simp only[id]at this;rw[if_neg ab,I]at this;rw[<-this];congr 1;refine hh λb _=>?_;by_cases e:b=C
    .subst e;rw[g1,g1,if_neg ab]
    .rw[g6 _ _ e,g6 _ _ e]
   have W:sumTo G.j (λk=>if G.wp k=.quit then upd G.q C L (Y.c+k) else 0)=sumTo G.j (λk=>if G.wp k=.quit then G.q (Y.c+k) else 0):=
    hh λk _=>by rw[g6 _ _ ab]
   omega
  .have e1:sumTo Y.c (λb=>if b=0 then 0 else upd G.q (Y.c+k) L b)=sumTo Y.c (λb=>if b=0 then 0 else G.q b):=
    hh λb hb=>by rw[g6 _ _ ab]
   have W:sumTo G.j (λb=>if G.wp b=.quit then upd G.q (Y.c+k) L (Y.c+b) else 0)+(L+1)=sumTo G.j (λb=>if G.wp b=.quit then G.q (Y.c+b) else 0)+L:=by
    have:=g0 (j:=G.j) (λb=>if G.wp b=.quit then G.q (Y.c+b) else 0) L id u;simp only[id]at this;rw[if_pos o,I]at this;rw[<-this];congr 1;refine hh λb _=>?_;by_cases e:b=k
    .subst e;rw[g1,g1,if_pos o]
    .rw[g6 _ _ e,g6 _ _ ab]
   omega
def MI.T7(m:MI Y G gs w t):∃(i:Nat)(g:bj),gs[i]?=f8 g/\g.status=p9:=by
 refine jl λA=>?_;have x:∀(i:Nat)(g:bj),gs[i]?=f8 g->g.status≠p9:=λi g h l=>A ⟨i,g,h,l⟩;have F:=m.size;have W:=m.wi;have n:∀a,a<=G.j->∃g,gs[gid Y a]?=f8 g:=λa B=>⟨_,ih (by have:=Yz (Y:=Y) B m.cpos;omega)⟩
 obtain⟨C,y⟩:=n 0 (eF _);have o:G.mp=.w3/\G.s.ws=0:=by
  cases m.sit 0 (eF _) C y with
  |run _ l _=>exact absurd l (x _ _ y)
  |wait _ _ _ _ _ r _=>exact r
  |gone h _=>exact h.elim
 have H:=W.late (by rw[o.1];simp) (by rw[o.1];simp);have e:∀k,k<G.j->G.wp k=.quit\/(G.wp k=.mu/\(G.th k).pc=.s1/\G.s.ms=0):=by
  intro k e;obtain⟨g,hg⟩:=n (k+1) e
  cases m.sit (k+1) e g hg with
  |run _ l _=>exact absurd l (x _ _ hg)
  |wait _ _ _ _ _ r _=>exact pu r
  |gone h _=>exact pp h
 have D:=m.mun.live λk I=>by
  rcases e k ab with h|⟨_,h⟩
  .exact pp (m.out k ab (by rw[h];simp))
  .exact pu h
 have J:∀k,k<G.j->G.wp k=.quit:=by
  intro k u
  rcases e k u with h|⟨_,h,_⟩
  .exact h
  .have:(G.th k).pc=.out:=D k ab;rw[this]at h;cases h
 have z:∀f:WP->Nat,f .quit=0->sumTo G.j (λk=>f (G.wp k))=0:=λf hf=>by
  have:=g9 (f:=λk=>f (G.wp k)) (c:=0) (j:=G.j) λk e=>aS;omega
 have hv:=W.v;rw[z fv rfl,if_neg (by rw[o.1];simp)]at hv
 rcases W.w3 o.1 with⟨c1,E,c3,p⟩|⟨c1,E,c3,p⟩
 .rw[if_pos hv,z fd rfl]at p;cases p
 .rw[z f4 rfl,o.2]at p;cases p
def nL(Y:CB)(G:Gh)(gs:Array bj)(w:aP)(t:aa):Prop:=G.mp=.an/\∃g,gs[0]?=f8 g/\g.status=p9/\eP t 0=0/\Y.Post (G.M 0) g w
def GL(Y:CB):Prop:=∀M g w d,Y.Post M g (w.at d)->Y.Post M g w
def MI.step(m:MI Y G gs w t)(hF:nG Y)(N:Jn Y)(O:GL Y):nL Y G gs w t\/
 ∃l w' p ops G',stepT Y.P (crowd gs w sl)=(.next (crowd l w' p),ops)/\MI Y G' l w' (t++ops)/\ML (Y.n+1) (mz Y G' l) (mz Y G gs):=by
 have X:=m.size;have cpos:=m.cpos;have who:∀i,i<gs.size->i=gid Y 0\/(0<i/\i<Y.c)\/∃k,k<G.j/\i=gid Y (k+1):=by
  intro i hi
  rcases cd i with rfl|h
  .exact pp rfl
  .rcases gg i Y.c with u|u
   .exact pu (pp ⟨h,u⟩)
   .exact pu (pu ⟨i-Y.c,ab,by rw[bQ];omega⟩)
 have Q:∀g∈gs,awake g:=by
  intro g hg;obtain⟨i,hi,rfl⟩:=qa.1 hg;have D:gs[i]?=f8 gs[i]:=ih hi
  rcases who i hi with rfl|⟨u,z⟩|⟨k,x,rfl⟩
  .exact fm (m.sit 0 (eF _) _ D).status
  .exact fm ((m.old i _ u z D).status.imp id pu)
  .exact fm (m.sit (k+1) x _ D).status
 obtain⟨i,g,d,p,hi,o,E⟩:=crowd_pick (P:=Y.P) (w:=w) (sl:=sl) Q m.T7;have R:i<gs.size:=(bR.1 hi).1;have m':=m.at hF d;have finish:∀a,i=gid Y a->Made Y G gs (w.at d) t a g->∃l w' p ops G',stepT Y.P (crowd gs w sl)=(.next (crowd l w' p),ops)/\MI Y G' l w' (t++ops)/\ML (Y.n+1) (mz Y G' l) (mz Y G gs):=by
  rintro a rfl⟨g',w',es,G',u,z,S⟩;exact⟨_,w',p,_,G',by rw[E];exact fp hi u,z,S⟩
 rcases who i R with rfl|⟨u,z⟩|⟨k,x,rfl⟩
 .
  cases m'.sit 0 (eF _) g hi with
  |wait T _ e _ _ _ _=>subst e;cases o
  |gone h _=>exact h.elim
  |run A _ v=>
   have stop:G.um Y 0 (G.M 0) (eP t (gid Y 0)) g (w.at d)->nL Y G gs w t\/∃l w' p ops G',stepT Y.P (crowd gs w sl)=(.next (crowd l w' p),ops)/\MI Y G' l w' (t++ops)/\ML (Y.n+1) (mz Y G' l) (mz Y G gs):=by
    intro hs;by_cases e1:G.mp=.an
    .left;simp only[Gh.um]at hs;rw[e1]at hs;obtain⟨x1,x2,x3⟩:=hs;exact⟨e1,g,hi,x1,x2,O _ _ _ _ x3⟩
    .right;by_cases L:G.mp=.go
     .obtain⟨l,ops,G',B,C,U⟩:=m'.spawn (sl:=p) N hi L hs;exact⟨l,w.at d,p,ops,G',by rw[E];exact B,C,U⟩
     .exact finish 0 rfl (m'.Pa hF hi o v hs L e1)
   cases hf:G.tr 0 with
   |leaf=>
    have r:=v;rw[hf]at r;exact stop (r _ (Rl.refl _ _ _))
   |node f=>
    have r:=v;rw[hf]at r
    rcases r _ (Rl.refl _ _ _) with hs|⟨_,F⟩
    .exact stop hs
    .exact pu (finish 0 rfl (m'.loc hF (eF _) hi A hf F))
 .
  right;have s:=m'.old i g u z hi
  cases y:G.q i with
  |zero=>rw[y]at s;rw[s.1]at o;cases o
  |succ n=>
   rw[y]at s
   rcases s with⟨H,_⟩|⟨_,g',es,I,V,J⟩
   .rw[H]at o;cases o
   have W:(i==0)=ge:=by simp;omega
   obtain⟨G',B,C⟩:=m'.slip hi u (pp z) y I J;exact⟨_,w.at d,p,_,G',by grind[fp],B,C⟩
 .
  right
  cases m'.sit (k+1) x g hi with
  |wait T _ e _ _ _ _=>subst e;cases o
  |gone K s=>
   rw[bQ]at hi E;rw[bQ]at s
   cases y:G.q (Y.c+k) with
   |zero=>rw[y]at s;rw[s.1]at o;cases o
   |succ n=>
    rw[y]at s
    rcases s with⟨H,_⟩|⟨_,g',es,I,V,J⟩
    .rw[H]at o;cases o
    have W:(Y.c+k==0)=ge:=by simp;omega
    obtain⟨G',B,C⟩:=m'.slip hi ab (pu ⟨k,x,rfl,K⟩) y I J;exact⟨_,w.at d,p,_,G',by grind[fp],B,C⟩
  |run A _ v=>
   cases hf:G.tr (k+1) with
   |leaf=>
    have r:=v;rw[hf]at r;exact finish (k+1) rfl (m'.Jm hF x hi A o v (r _ (Rl.refl _ _ _)))
   |node f=>
    have r:=v;rw[hf]at r
    rcases r _ (Rl.refl _ _ _) with hs|⟨_,F⟩
    .exact finish (k+1) rfl (m'.Jm hF x hi A o v hs)
    .exact finish (k+1) rfl (m'.loc hF x hi A hf F)
def MI.runs(hF:nG Y)(f:Jn Y)(i:GL Y):∀(z:Mz)(G:Gh)(gs:Array bj)(w:aP)(sl:Option (Nat×Nat))(t:aa),mz Y G gs=z->MI Y G gs w t->
 ∃N c w1 e t1 G1,runNT Y.P N (crowd gs w sl) t=(.next (crowd c w1 e),t1)/\MI Y G1 c w1 t1/\nL Y G1 c w1 t1:=by
 intro z
 induction (acT (Y.n+1)).apply z with
 |intro z _ j=>
  rintro G gs w sl t rfl m
  rcases m.step (sl:=sl) hF f i with h|⟨k,w',l,ops,G',o,p,r⟩
  .exact⟨0,gs,w,sl,t,G,rfl,m,h⟩
  .obtain⟨N,c,w1,e,t1,G1,s,u,v⟩:=j _ r G' k w' l (t++ops) rfl p;exact⟨N+1,c,w1,e,t1,G1,by simp only[runNT,o];exact s,u,v⟩
def nL.T8(m:MI Y G gs w t)(h:nL Y G gs w t):Leavers Y.P t gs G.q:=by
 refine⟨λi g o hi=>?_,m.above⟩;have p:i<gs.size:=(bR.1 hi).1
 rcases gg i Y.c with l|l
 .exact m.old i g o l hi
 .have r:=m.size;have n:i-Y.c<G.j:=ab;have e:gid Y (i-Y.c+1)=i:=by rw[bQ];omega
  have f:=(m.wi.done (pu (pu h.1))).2.2.2 (i-Y.c) n;have hs:=m.sit (i-Y.c+1) n g (by rw[e];exact hi);rw[e]at hs
  cases hs with
  |run k _ _=>exact absurd f k
  |wait _ k _ _ _ _ _=>exact absurd f k
  |gone _ f=>rw[e]at f;exact f
def nL.GA(m:MI Y G gs w t)(h:nL Y G gs w t):Past (λl=>Y.Shun l\/OZ Y.toFix l) w.heap.size t:=by
 obtain⟨p,f,i,j,n⟩:=m.acq h.1;obtain⟨_,_,_,_,hd,_⟩:=h;refine m.tri.GA (λk k1 k2 _=>?_) m.norel f i j hd m.low;have e:Y.c+(k-Y.c)=k:=ab;have:=n (k-Y.c) ab;rw[e]at this;exact this
def nL.fin(m:MI Y G gs w t)(h:nL Y G gs w t):∀k,k<Y.n->Y.Fin k w:=by
 intro k e;have f:=m.wi.late (by rw[h.1];simp) (by rw[h.1];simp);have c:=(m.wi.done (pu (pu h.1))).2.2.2 k ab;exact m.fin k ab (by rw[c];simp)
end
end Go.Ph
namespace Go.Ph
open Go.Conc Go.ConcN
open Go.ConcR (stA)
def nx(P:a7)(mn:Bool)(g:bj):bj:=match stepG P mn g default with
 |kp g' _ _=>g'
 |_=>g
def ex(P:a7)(mn:Bool)(g:bj):Array bd:=match stepG P mn g default with
 |kp _ _ es=>es
 |_=>#[]
def adv(P:a7)(mn:Bool):Nat->bj->bj
 |0,g=>g
 |n+1,g=>adv P mn n (nx P mn g)
def YL(P:a7)(mn:Bool):Nat->Nat->bj->Nat
 |0,d,_=>d
 |n+1,d,g=>YL P mn n (bi d (ex P mn g)) (nx P mn g)
def mutes(es:Array bd):Bool:=es.toList.all jn
def Dz(P:a7)(mn:Bool)(w:aP):Nat->bj->List (b8×b9×Bool)
 |0,_=>[]
 |n+1,g=>(g.status,stepG P mn g w,mutes (ex P mn g))::Dz P mn w n (nx P mn g)
def DC(P:a7)(mn:Bool)(w:aP):Nat->bj->List (b8×b9×Bool)
 |0,_=>[]
 |n+1,g=>(p9,kp (nx P mn g) w (ex P mn g),gc)::DC P mn w n (nx P mn g)
def uo(P:a7)(mn:Bool)(n:Nat)(g:bj):Prop:=(∀w,Dz P mn w n g=DC P mn w n g)/\(adv P mn n g).status=p9
section
variable {X:Fix}{V:Vw}{q:Bool}{Stop:Stp}{M:Own}{d:Nat}{g g':bj}{w:aP}{es:Array bd}
def T9(a:∀e∈es,e.mute=gc)(d:Nat)(w:aP):Dl X V q M d w w es M (bi d es):=
 ⟨rfl,rfl,qr _,dk _,λ_ _ _ _ _ _=>rfl,λc h=>⟨c,h,rfl⟩,λ_ _=>rfl,λ_=>rfl,λb=>⟨pp,λh=>h.resolve_right λx=>ab⟩,
   λe f=>⟨λx i=>(by rw[fb (a e f)]at i;cases i),λh=>(by have:=a e f;obtain⟨l,x,y⟩:=e;simp only at h;subst h;simp[jn]at this),fc (a e f) _⟩,
   λ_ j e h=>pp (fb (a e (pR h))),rfl⟩
def ay.mute1(hs:g.status=p9)(h:∀w,stepG X.P (V.g==0) g w=kp g' w es)(b:∀e∈es,e.mute=gc)(c:g'.status=p9)(f:ay X V q Stop M (bi d es) g' w):ay X V q Stop M d g w:=
 .step hs λa r=>⟨g',a,es,M,_,h a,T9 b d a,⟨rfl,rfl⟩,c,f.rely r⟩
def ay.quiet{mn:Bool}(c:(V.g==0)=mn):∀(n:Nat){g:bj}{d:Nat},uo X.P mn n g->ay X V q Stop M (YL X.P mn n d g) (adv X.P mn n g) w->ay X V q Stop M d g w
 |0,_,_,_,b=>b
 |n+1,g,d,h,b=>by
  have a:∀w,g.status=p9/\stepG X.P mn g w=kp (nx X.P mn g) w (ex X.P mn g)/\mutes (ex X.P mn g)=gc/\Dz X.P mn w n (nx X.P mn g)=DC X.P mn w n (nx X.P mn g):=λw=>by
   have:=h.1 w;simp only[Dz,DC,jp,ma]at this;exact⟨this.1.1,this.1.2.1,this.1.2.2,this.2⟩
  have f:=ay.quiet c n (g:=nx X.P mn g) (d:=bi d (ex X.P mn g)) ⟨λw=>(a w).2.2.2,h.2⟩ b;have i:(nx X.P mn g).status=p9:=by
   cases n with
   |zero=>exact h.2
   |succ n=>
    have:=(a w).2.2.2;simp only[Dz,DC,jp,ma]at this;exact this.1.1
  refine .mute1 (a w).1 (λw=>by rw[c];exact(a w).2.1) (λe j=>?_) i f;have:=(a w).2.2.1;simp only[mutes,df]at this;exact this e (iN.2 j)
end
section
variable (P:a7)(mn:Bool)(S:bj->Bool)
def wu:Nat->bj->bj
 |0,g=>g
 |n+1,g=>@gf (λ_=>bj) (wu n (nx P mn g)) g (S g)
def xD:Nat->Nat->bj->Nat
 |0,d,_=>d
 |n+1,d,g=>@gf (λ_=>Nat) (xD n (bi d (ex P mn g)) (nx P mn g)) d (S g)
def vg(w:aP):Nat->bj->List (b8×b9×Bool)
 |0,_=>[]
 |n+1,g=>@gf (λ_=>List (b8×b9×Bool)) ((g.status,stepG P mn g w,mutes (ex P mn g))::vg w n (nx P mn g)) [] (S g)
def vh(w:aP):Nat->bj->List (b8×b9×Bool)
 |0,_=>[]
 |n+1,g=>@gf (λ_=>List (b8×b9×Bool)) ((p9,kp (nx P mn g) w (ex P mn g),gc)::vh w n (nx P mn g)) [] (S g)
def ff(n:Nat)(g:bj):Prop:=(∀w,vg P mn S w n g=vh P mn S w n g)/\(wu P mn S n g).status=p9
end
section
variable {X:Fix}{V:Vw}{q:Bool}{Stop:Stp}{M:Own}{g g':bj}{w:aP}{S:bj->Bool}
def ay.oO{mn:Bool}(i:(V.g==0)=mn):∀(n:Nat){g:bj}{d:Nat},ff X.P mn S n g->ay X V q Stop M (xD X.P mn S n d g) (wu X.P mn S n g) w->ay X V q Stop M d g w
 |0,_,_,_,a=>a
 |n+1,g,d,h,a=>by
  cases c:S g with
  |true=>simpa only[wu,xD,c]using a
  |false=>
   simp only[wu,xD,c]at a;have f:=h.2;simp only[wu,c]at f;have b:∀w,g.status=p9/\stepG X.P mn g w=kp (nx X.P mn g) w (ex X.P mn g)/\mutes (ex X.P mn g)=gc/\vg X.P mn S w n (nx X.P mn g)=vh X.P mn S w n (nx X.P mn g):=λw=>by
    have:=h.1 w;simp only[vg,vh,c,jp,ma]at this;grind
   have l:=ay.oO i n (g:=nx X.P mn g) (d:=bi d (ex X.P mn g)) ⟨λw=>(b w).2.2.2,f⟩ a;have m:(nx X.P mn g).status=p9:=by
    cases n with
    |zero=>exact f
    |succ n=>
     have j:=(b w).2.2.2
     cases k:S (nx X.P mn g) with
     |true=>simpa only[wu,k]using f
     |false=>
      simp only[vg,vh,k,jp,ma]at j;exact j.1.1
   refine .mute1 (b w).1 (λw=>by rw[i];exact(b w).2.1) (λe o=>?_) m l;have:=(b w).2.2.1;simp only[mutes,df]at this;grind
end
end Go.Ph
namespace Go.Ph
open Go.Conc Go.ConcN
variable {O:bC}{J:aL}{R:c9}{L:Int}{Y:a8}{C:Bool}
def pS:Op->Bool
 |.defer _=>ge
 |_=>gc
def bF(g:bj):Option ce:=
 if g.status=p9/\g.dying.isNone=gc/\g.offers.isNone=gc/\(g.frame.kind==jr)=ge then
  match g.frame.mode,g.frame.todo with
  |qt,lR ops (i::_)::_=>match ops[i]? with
   |some o=>if jz o (cf ops g.frame.tmps)=gc/\pS o.op=gc then f8 o else f9
   |none=>f9
  |_,_=>f9
 else f9
def fin(g:bj)(v:a9):bj:={ g with frame:=jQ g.frame v }
section
variable {P:a7}{mn:Bool}{g:bj}{o:ce}{w w':aP}{v:a9}
def gF(h:bF g=f8 o):∃fn tmps ops i rest k defers kind a cs,g={ frame:=⟨fn,tmps,lR ops (i::rest)::k,defers,qt,kind,a⟩,callers:=cs,status:=p9,dying:=f9,offers:=f9 }/\
 (kind==jr)=ge/\ops[i]?=f8 o/\jz o (cf ops tmps)=gc/\pS o.op=gc:=by
 obtain⟨⟨fn,tmps,todo,defers,mode,kind,a⟩,cs,status,dying,offers⟩:=g;unfold bF at h;simp only at h;split at h
 .rename_i hc;obtain⟨b,c,d,j⟩:=hc;obtain rfl:=b;obtain rfl:=od.1 c;obtain rfl:=od.1 d;split at h
  .grind
  .cases h
 .cases h
def lV(h:bF g=f8 o):stepG P mn g w=kd P gc g.frame g.callers f9 (ch g.frame.eval o) w:=by
 obtain⟨fn,tmps,ops,i,a,k,defers,kind,b,cs,rfl,q,d,m,j⟩:=gF h;have n:ke P gc ⟨fn,tmps,lR ops (i::a)::k,defers,qt,kind,b⟩ cs f9 w=kd P gc ⟨fn,tmps,lR ops (i::a)::k,defers,qt,kind,b⟩ cs f9 (ch (j1 ⟨fn,tmps,lR ops (i::a)::k,defers,qt,kind,b⟩) o) w:=by
  unfold ke;simp only[Frame.oper?,d]
  cases b with
  |none=>rfl
  |some l=>
   cases p:o.op with
   |defer c=>rw[p]at j;cases j
   |_=>rfl
 rw[<-n];simp[stepG,kf,d,m]
def dF(h:bF g=f8 o)(b:(ch g.frame.eval o).run P w=qA (qG v) w'):stepG P mn g w=kp (fin g v) w' (seen P g.frame.fn ((ch g.frame.eval o).events P w #[])):=by
 rw[lV h];obtain⟨fn,tmps,ops,i,a,k,defers,kind,j,cs,rfl,c,l,m,n⟩:=gF h;have d:kind≠jr:=by simpa using c
 simp[kd,b,d,kg,fin]
def Me(h:bF g=f8 o)(b:(ch g.frame.eval o).run P w=qA qH w'):stepG P mn g w=kp (fin g undef) w' (seen P g.frame.fn ((ch g.frame.eval o).events P w #[])):=by
 rw[lV h];obtain⟨fn,tmps,ops,i,a,k,defers,kind,j,cs,rfl,c,l,m,n⟩:=gF h;have d:kind≠jr:=by simpa using c
 simp[kd,b,d,kg,fin]
def BL(h:bF g=f8 o)(c:(ch g.frame.eval o).run P w=qF .blocked w):stepG P mn g w=kp { g with status:=qi } w #[]:=by
 rw[lV h];obtain⟨fn,tmps,ops,i,a,k,defers,kind,b,cs,rfl,d,l,m,n⟩:=gF h;have p:kind≠jr:=by simpa using d
 have hf:((ch (j1 ⟨fn,tmps,lR ops (i::a)::k,defers,qt,kind,b⟩) o).runT P w #[]).1=qF .blocked w:=by rw[ks,c]
 unfold kd;simp only[if_true];generalize(ch (j1 ⟨fn,tmps,lR ops (i::a)::k,defers,qt,kind,b⟩) o).runT P w #[]=j at hf;obtain⟨r,es⟩:=j;simp only at hf;subst hf;simp[kg,seen]
def BM(o:ce):Option (bC×Array ci):=match o.op with
 |qN { callee:=rk (rm f),args,.. }=>f8 (f,args)
 |_=>f9
def DD{a:Array ci}{ev:ci->a9}(h:BM o=f8 (O,a))(hf:ev (rm O)=n9 (rs O) #[] #[]):ch ev o=co O (a.map ev):=by
 unfold BM at h;split at h
 .rename_i b;cases h;unfold ch;simp[b,cq,kY,ct,hf]
 .cases h
def az(g:bj):Option (bC×Array a9):=match bF g with
 |some o=>match BM o with
  |some (f,a)=>f8 (f,a.map g.frame.eval)
  |none=>f9
 |none=>f9
theorem kL{args:Array a9}(h:az g=f8 (O,args)):∃o,bF g=f8 o/\ch g.frame.eval o=co O args:=by
 unfold az at h;split at h
 .rename_i o a;split at h
  .rename_i c b hc;cases h;exact⟨o,a,DD hc rfl⟩
  .cases h
 .cases h
section
variable {f:bC}{fn:cv}{args:Array a9}{e:Array a9->Sem a9}{Ua:Array bd}
def GN(h:az g=f8 (f,args))(hf:P.funcs[f]?=f8 fn)(a:(fn.name == "runtime.NumGoroutine")=ge)(hb:fn.body.isNone=gc)(b:k6 fn=f9)(c:k7 fn=f8 e)
 (d:(e args).run P w=qA v w') (j:(e args).events P w #[⟨p8 (p0 f),ge,gc⟩]=#[⟨p8 (p0 f),ge,gc⟩]++Ua) (hs:∀x∈Ua,x.sync=gc/\∀g,x.loc≠p8 (p0 g)):stepG P mn g w=kp (fin g v) w' Ua:=by
 obtain⟨o,i,e1⟩:=kL h;rw[dF (v:=v) (w':=w') i (by rw[e1,c8 hf a hb b c,d];rfl),e1,fO hf a hb b c];grind [seen_entry]
def ry(h:az g=f8 (f,args))(hf:P.funcs[f]?=f8 fn)(a:(fn.name == "runtime.NumGoroutine")=ge)(hb:fn.body.isNone=gc)(b:k6 fn=f9)(c:k7 fn=f8 e)
 (d:(e args).run P w=qF .blocked w):stepG P mn g w=kp { g with status:=qi } w #[]:=by
 obtain⟨o,i,e1⟩:=kL h;exact BL i (by rw[e1,c8 hf a hb b c,d];rfl)
end
end
open Go.ConcM (MuAt muA msA OsLater muBlock)
open Go.ConcR (KK WgAt stA smA rd wr mk)
structure WO(X:Fix):Prop where
 mw:X.Mu≠X.Wg
 mt:X.Mu≠X.Tb
 wt:X.Wg≠X.Tb
structure Clear(X:Fix)(V:Vw)(M:Own):Prop where
 ids:WO X
 st:∀b,V.st b->jm X b
 own:∀b,M b->jm X b
section
variable {X:Fix}{V:Vw}{q:Bool}{Stop:Stp}{M:Own}{d:Nat}{g g':bj}{w w':aP}{es:Array bd}{B:Nat}
def eo{wr:Bool}(c:J.block=X.Mu\/J.block=X.Wg)(h:J.block<B):jG X V M B ⟨p6 J,wr,gc⟩:=by
 refine⟨λx b=>?_,ar,h⟩;have e:(hO ⟨p6 J,wr,gc⟩).touch? = f8 ⟨p6 J,wr,pk⟩:=rfl;rw[e]at b;cases b;exact⟨rfl,pp ⟨⟨J,rfl,c⟩,by split<;>simp⟩⟩
theorem lX{e:bd}(h:e.mute=gc):jG X V M B e:=
 ⟨λx a=>(by rw[fb h]at a;cases a),λb=>by obtain⟨l,x,y⟩:=e;simp only at b;subst b;simp[jn]at h,fc h _⟩
def uq{m:Mark}(b:(hV m).touch? = f9)(c:m≠.release (stA X.Wg))(hl:(hV m).low B):jG X V M B (mk m):=
 ⟨λx a=>(by rw[show(hO (mk m))=hV m from rfl,b]at a;cases a),λh=>c (by cases h;rfl),hl⟩
def BN(hc:Clear X V M)(a:w'.tape=w.tape)(c:w'.output=w.output)(i:hu w.os w'.os)(j:w'.heap.size=w.heap.size)(hb:∀b,b≠X.Mu->b≠X.Wg->w'.heap[b]?=w.heap[b]?)
 (hl:Live X w->Live X w'):Rl X V M w w':=
 ⟨a,c,i,ab,λb h=>hb b (hc.st b h).1 (hc.st b h).2.1,λb h=>hb b (hc.own b h).1 (hc.own b h).2.1,hl,λo _=>by simp only[hz,hb X.Tb hc.ids.mt.symm hc.ids.wt.symm]⟩
def jI(hc:WO X)(i:w'.tape=w.tape)(k:w'.output=w.output)(l:hu w.os w'.os)(s:w'.heap.size=w.heap.size)(hb:∀b,b≠X.Mu->b≠X.Wg->w'.heap[b]?=w.heap[b]?)
 (m:∀e∈es,jG X V M w'.heap.size e)
 (n:q=gc->∀j e,es[j]?=f8 e->(hO e).touch? = f9\/((∃ad wr,e=⟨p6 ad,wr,gc⟩)/\0<bi d (es.extract 0 j))):Dl X V q M d w w' es M (bi d es):=by
 have a:=hb X.Tb hc.mt.symm hc.wt.symm
 exact⟨i,k,l,ab,λb _ _ p r _=>hb b p r,λc h=>⟨c,by rw[a];exact h,rfl⟩,λo _=>by simp only[hz,a],λ_=>a,
  λb=>⟨pp,λh=>h.resolve_right λx=>ab⟩,m,n,rfl⟩
def ay.idle(hc:Clear X V M)(hs:g.status=p9)
 (h:∀k,Rl X V M w k->∃g' w' es,stepG X.P (V.g==0) g k=kp g' w' es/\w'.tape=k.tape/\w'.output=k.output/\hu k.os w'.os/\w'.heap=k.heap/\(∀e∈es,jG X V M k.heap.size e/\(hO e).touch? = f9)/\
   g'.status=p9/\ay X V q Stop M (bi d es) g' w):ay X V q Stop M d g w:=
 .step hs λk r=>by
  obtain⟨g',w',es,t,m,n,p,i,s,u,x⟩:=h k r;refine⟨g',w',es,M,_,t,jI hc.ids m n p (by rw[i]) (λb _ _=>by rw[i]) (λe l=>by rw[i];exact(s e l).1) (λ_ j e l=>pp (s e (pR l)).2),⟨by rw[i],by rw[i]⟩,u,?_⟩;refine x.rely (r.trans (BN hc m n p (by rw[i]) (λb _ _=>by rw[i]) ?_));rintro⟨⟨a,b,k1⟩,⟨y,b',k2⟩,c,k3,z⟩;exact⟨⟨a,b,by unfold ht at k1 ⊢;rw[i];exact k1⟩,⟨y,b',by unfold WgAt at k2 ⊢;rw[i];exact k2⟩,c,by rw[i];exact k3,z⟩
end
structure cw(P:a7)(f:bC)(nr:Bool)(e:Array a9->Sem a9):Prop where
 ex:∃fn,P.funcs[f]?=f8 fn/\(fn.name == "runtime.NumGoroutine")=ge/\fn.body.isNone=gc/\k6 fn=f9/\k7 fn=f8 e/\fn.norace=nr
section
variable {P:a7}{mn:Bool}{g:bj}{w w':aP}{f:bC}{args:Array a9}{nr:Bool}{e:Array a9->Sem a9}{v:a9}{Ua:Array bd}
def cw.step(hb:cw P f nr e)(h:az g=f8 (f,args))(a:(e args).run P w=qA v w')(b:(e args).events P w #[⟨p8 (p0 f),ge,gc⟩]=#[⟨p8 (p0 f),ge,gc⟩]++Ua)(hs:∀x∈Ua,x.sync=gc/\∀g,x.loc≠p8 (p0 g)) :
 stepG P mn g w=kp (fin g v) w' Ua:=by
 obtain⟨fn,c,i,j,k,l,_⟩:=hb.ex;exact GN h c i j k l a b hs
def cw.blocked(hb:cw P f nr e)(h:az g=f8 (f,args))(a:(e args).run P w=qF .blocked w):stepG P mn g w=kp { g with status:=qi } w #[]:=by
 obtain⟨fn,b,c,i,j,k,_⟩:=hb.ex;exact ry h b c i j k a
def cw.out(hb:cw P f gc e)(h:az g=f8 (f,args))(i:(e args).run P w=qA v w')(k:(e args).events P w #[⟨p8 (p0 f),ge,gc⟩]=#[⟨p8 (p0 f),ge,gc⟩] ++ #[⟨.output,gc,ge⟩]) :
 stepG P mn g w=kp (fin g v) w' #[]:=by
 obtain⟨fn,hf,a,hb,b,c,l⟩:=hb.ex;obtain⟨o,j,e1⟩:=kL h;rw[dF (v:=v) (w':=w') j (by rw[e1,c8 hf a hb b c,i];rfl),e1,fO hf a hb b c];grind [seen_entry_out]
theorem aK{o:ce}(h:bF g=f8 o):g.status=p9/\g.offers=f9/\∀v,(fin g v).status=p9:=by
 obtain⟨fn,tmps,ops,i,a,k,defers,kind,b,cs,rfl,c,j,l,m⟩:=gF h;exact⟨rfl,rfl,λ_=>rfl⟩
def aj(h:az g=f8 (f,args)):g.status=p9/\g.offers=f9/\∀v,(fin g v).status=p9:=by
 grind[kL,aK]
end
section
variable {X:Fix}{V:Vw}{q:Bool}{Stop:Stp}{M:Own}{d:Nat}{g:bj}{w:aP}{f:bC}{nr:Bool}{args:Array a9}{o:ce}
def ay.Jo(hc:Clear X V M)(a:az g=f8 (f,args)){m:Mark}(hb:cw X.P f nr (λ_=>do mark m;pure k8))(b:(⟨p8 m,ge,gc⟩:bd).mute=gc)
 (i:ay X V q Stop M (bi d #[⟨p8 m,ge,gc⟩]) (fin g (ob #[])) w):ay X V q Stop M d g w:=
 .idle hc (aj a).1 λj _=>⟨_,j,#[⟨p8 m,ge,gc⟩],hb.step a (by simp[k8]) ar (by
  intro x c;simp at c;subst c
  exact⟨rfl,λg h=>by cases h;simp[jn]at b⟩),rfl,rfl,qr _,rfl,(by
  grind[lX,fb]),(aj a).2.2 _,i⟩
def kM{P:a7}{mn:Bool}(c:az g=f8 (f,args)){mk':aL->Mark}(hb:cw P f nr (k9 mk'))(h:∀a g,mk' a≠p0 g){ad:aL}(b:args[0]?=f8 (oh (f8 ad))) :
 stepG P mn g w=kp (fin g (ob #[])) w #[mk (mk' ad)]:=
 hb.step c (by simp[k9,la,b,k8]) (by simp[k9,la,b,mk]) (by
  intro x b;simp[mk]at b
  grind)
def ay.Pe(hc:Clear X V M)(c:az g=f8 (f,args)){mk':aL->Mark}(hb:cw X.P f nr (k9 mk'))(h:∀a g,mk' a≠p0 g){ad:aL}(i:args[0]?=f8 (oh (f8 ad)))
 (k:∀b,Rl X V M w b->jG X V M b.heap.size (mk (mk' ad))/\(hO (mk (mk' ad))).touch? = f9) (hd:∀d,bi d #[mk (mk' ad)]=d)
 (j:ay X V q Stop M d (fin g (ob #[])) w):ay X V q Stop M d g w:=
 .idle hc (aj c).1 λb r=>⟨_,b,#[mk (mk' ad)],kM c hb h i,rfl,rfl,qr _,rfl,(by
  grind),(aj c).2.2 _,by rw[hd];exact j⟩
def ay.nano(hc:Clear X V M)(b:az g=f8 (f,args))(hb:cw X.P f gc Extern.OsHooks.nano)(c:∀n:Nat,ay X V q Stop M d (fin g (n8 nt (n:Int))) w):ay X V q Stop M d g w:=
 .idle hc (aj b).1 λa _=>⟨_,a.later,#[],hb.out (v:=n8 nt ((a.os.mono+a.tick:Nat):Int)) b rfl rfl,rfl,rfl,⟨a.tick,rfl⟩,rfl,ar,(aj b).2.2 _,c _⟩
def ay.canSpin(hc:Clear X V M)(a:az g=f8 (f,#[n8 R L]))(hb:cw X.P f nr ld)(i:∀b:Bool,(b=gc->L<4)->ay X V q Stop M d (fin g (ol b)) w):ay X V q Stop M d g w:=
 .idle hc (aj a).1 λh _=>by
  by_cases c:L>=4
  .exact⟨_,h,#[],hb.step (v:=ol ge) a (by rw[f1,if_pos c];rfl) (by rw[f1,if_pos c];rfl) ar,rfl,rfl,qr _,rfl,ar,(aj a).2.2 _,i _ ar⟩
  .exact⟨_,h.asked,#[],hb.step (v:=ol h.spins) a (by rw[f1,if_neg c];rfl) (by rw[f1,if_neg c];rfl) ar,rfl,rfl,qr _,rfl,ar,(aj a).2.2 _,i _ (λ_=>ab)⟩
def ay.nothing(hc:Clear X V M)(a:az g=f8 (f,args))(hb:cw X.P f nr li)(b:ay X V q Stop M d (fin g (ob #[])) w):ay X V q Stop M d g w:=
 .idle hc (aj a).1 λc _=>⟨_,c,#[],hb.step (v:=ob #[]) a (by simp[li,lm]) (by simp[li]) ar,rfl,rfl,qr _,rfl,ar,(aj a).2.2 _,b⟩
def ay.conv(hc:Clear X V M)(c:bF g=f8 o){dst t:a8}{x:ci}(m:o.op=qU Y dst x)(n:g.frame.eval x=oh (f8 J))
 (hs:lA X.P Y=f8 (rx t)) (hd:lA X.P dst=f8 rI) (h:(X.P.info? t).map (λi=>decide (i.size=0))=f8 ge)
 (hl:∀b,Rl X V M w b->∃v,hz b J=f8 v) (j:ay X V q Stop M d (fin g (oh (f8 J))) w):ay X V q Stop M d g w:=
 .idle hc (aK c).1 λb r=>by
  obtain⟨v,hv⟩:=hl b r;have e1:ch g.frame.eval o=(do let y<-convert Y dst (oh (f8 J));pure (qG y)):=by
   unfold ch;grind
  have k:=run_convert_to_unsafe hs hd h hv;have l:=events_convert_to_unsafe hs hd h hv #[];refine⟨_,b,#[],?_,rfl,rfl,qr _,rfl,ar,(aK c).2.2 _,j⟩;rw[dF (v:=oh (f8 J)) (w':=b) c (by rw[e1];simp[k]),e1];simp[l,f6]
def xG{P:a7}(h:bF g=f8 o){x:ci}(a:o.op=q7 Y x)(b:g.frame.eval x=oh (f8 J))(c:lA P Y=f8 (.int R))(hc:hz w J=f8 (n8 R L))(i:(P.funcs[g.frame.fn]?).any (·.norace)=gc) :
 stepG P C g w=kp (fin g (n8 R L)) w #[]:=by
 have j:(ch g.frame.eval o).run P w=qA (qG (n8 R L)) w:=by
  unfold ch;simp only[a,b];simp[go_sem,hc,isAgg,db c]
 have l:(ch g.frame.eval o).events P w #[]=#[⟨p6 J,ge,ge⟩]:=by
  unfold ch;simp only[a,b];simp[go_sem,hc,isAgg,db c]
 rw[dF h j,l,seen_def,i];simp[seenStep]
def ay.ad2(hc:Clear X V M)(b:bF g=f8 o){t:a8}{x:ci}(c:o.op=q7 t x){ad:aL}(h:g.frame.eval x=oh (f8 ad)){k:c9}(i:lA X.P t=f8 (.int k))(j:(X.P.funcs[g.frame.fn]?).any (·.norace)=gc)
 (hl:∀a,Rl X V M w a->∃v,hz a ad=f8 (n8 k v)) (l:∀v,ay X V q Stop M d (fin g (n8 k v)) w):ay X V q Stop M d g w:=
 .idle hc (aK b).1 λa r=>by
  obtain⟨v,hv⟩:=hl a r;exact⟨_,a,#[],xG b c h i hv j,rfl,rfl,qr _,rfl,ar,(aK b).2.2 _,l v⟩
end
section
variable {X:Fix}{V:Vw}{q:Bool}{Stop:Stp}{M:Own}{d:Nat}{g g':bj}{w w':aP}{es:Array bd}{B:Nat}
def Own.more(M:Own)(w w':aP):Own:=λb=>M b\/(w.heap.size<=b/\b<w'.heap.size)
theorem DF{wr:Bool}(c:M J.block)(f:J.block<B):jG X V M B ⟨p6 J,wr,ge⟩:=by
 refine⟨λx b=>?_,ar,f⟩;have e:(hO ⟨p6 J,wr,ge⟩).touch? = f8 ⟨p6 J,wr,pm⟩:=rfl;rw[e]at b;cases b;exact⟨rfl,pu ⟨rfl,pp (pp c)⟩⟩
def Pf{wr:Bool}(c:J.block=X.Tb)(f:V.row J.off)(h:J.block<B):jG X V M B ⟨p6 J,wr,ge⟩:=by
 refine⟨λx b=>?_,ar,h⟩;have e:(hO ⟨p6 J,wr,ge⟩).touch? = f8 ⟨p6 J,wr,pm⟩:=rfl;rw[e]at b;cases b;exact⟨rfl,pu ⟨rfl,pp (pu ⟨c,f⟩)⟩⟩
def DG{b:Nat}{wr:Bool}(hb:M b)(c:b<B):jG X V M B ⟨p7 b,wr,ge⟩:=by
 have e:(hO ⟨p7 b,wr,ge⟩).touch? = f8 ⟨p7 b,wr,pm⟩:=by cases wr<;>rfl
 have l:(hO ⟨p7 b,wr,ge⟩).low B:=by cases wr<;>exact c
 refine⟨λx a=>?_,ar,l⟩;rw[e]at a;cases a;exact⟨rfl,pu ⟨rfl,pp hb⟩⟩
theorem Ub(c:V.st J.block)(hs:¬X.Shun (p6 J))(f:J.block<B):jG X V M B ⟨p6 J,ge,ge⟩:=by
 refine⟨λx b=>?_,ar,f⟩;have e:(hO ⟨p6 J,ge,ge⟩).touch? = f8 ⟨p6 J,ge,pm⟩:=rfl;rw[e]at b;cases b;exact⟨rfl,pu ⟨rfl,pu ⟨⟨hs,c⟩,rfl⟩⟩⟩
def ay.own(hc:Clear X V M)(hs:g.status=p9)(hl:Live X w)
 (h:∀a,Rl X V M w a->∃g' w' es,stepG X.P (V.g==0) g a=kp g' w' es/\w'.tape=a.tape/\w'.output=a.output/\hu a.os w'.os/\a.heap.size<=w'.heap.size/\(∀b,b<a.heap.size->¬M b->w'.heap[b]?=a.heap[b]?)/\
   (∀e∈es,jG X V (M.more a w') w'.heap.size e)/\g'.status=p9/\ay X V ge Stop (M.more a w') (bi d es) g' w'):ay X V ge Stop M d g w:=
 .step hs λa r=>by
  obtain⟨g',w',es,l,m,n,p,s,f,t,u,v⟩:=h a r;have i:∀{b:Nat}{o:Obj},a.heap[b]?=f8 o->b<a.heap.size:=λh=>(bR.1 h).1;obtain⟨⟨_,_,v1⟩,⟨_,_,x⟩,c,y,z⟩:=r.live hl;have no:∀b,(b=X.Mu\/b=X.Wg\/b=X.Tb)->¬M b:=λb hb j=>by
   have:=hc.own b j
   rcases hb with rfl|rfl|rfl
   .exact this.1 rfl
   .exact this.2.1 rfl
   .exact this.2.2 rfl
  have k:=f X.Tb (i y) (no _ (pu (pu rfl)))
  refine⟨g',w',es,_,_,l,⟨m,n,p,s,λb hb j _ _ _=>f b hb j,λc h=>⟨c,by rw[k];exact h,rfl⟩,λo _=>by simp only[hz,k],ar,λb=>jf,t,ar,rfl⟩,
   ⟨f _ (i v1) (no _ (pp rfl)),f _ (i x) (no _ (pu (pp rfl)))⟩,u,v⟩
end
end Go.Ph
namespace Go.Ph
open Go.Conc Go.ConcN
section
variable {P:a7}{mn:Bool}{w w':aP}{g:bj}{o:ce}{t:a8}{x:ci}{a:aL}{v:a9}
def uu{ev:ci->a9}(b:o.op=q7 t x)(c:ev x=oh (f8 a)):ch ev o=(do pure (qG (<-dc t a)):Sem bq):=by
 unfold ch;simp only[b,c];rfl
def GO(b:bF g=f8 o)(c:o.op=q7 t x)(f:g.frame.eval x=oh (f8 a))(h:(dc t a).run P w=qA v w) :
 ∃es,stepG P mn g w=kp (fin g v) w es/\∀e∈es,e∈(dc t a).events P w #[]:=by
 have e1:=uu c f;refine⟨_,dF (v:=v) (w':=w) b (by rw[e1];simp[h]),λe i=>?_⟩;have:=f7 i;simp_all
theorem mV{es:Array bd}(d:Nat)(h:∀e∈es,(∃a wr,e=⟨p6 a,wr,ge⟩)\/∃b wr,e=⟨p7 b,wr,ge⟩):bi d es=d:=by
 unfold bi;rw[<-qk];have:∀e∈es.toList,(∃a wr,e=⟨p6 a,wr,ge⟩)\/∃b wr,e=⟨p7 b,wr,ge⟩:=λe c=>h e (iN.1 c);generalize es.toList=l at this
 induction l generalizing d with
 |nil=>rfl
 |cons e l f=>
  rw[cB]
  rcases this e ar with⟨a,wr,rfl⟩|⟨b,wr,rfl⟩<;>grind
variable {X:Fix}{V:Vw}{Stop:Stp}{M:Own}{d:Nat}
def pU(M:Own)(w:aP):M.more w w=M:=by
 funext b;unfold Own.more;grind
def ay.load(hc:Clear X V M)(hl:Live X w)(f:bF g=f8 o)(i:o.op=q7 t x)(j:g.frame.eval x=oh (f8 a))
 (h:∀b,Rl X V M w b->(dc t a).run X.P b=qA v b/\a.block<b.heap.size/\∀e∈(dc t a).events X.P b #[],∃a':aL,a'.block=a.block/\e=⟨p6 a',ge,ge⟩)
 (q:(V.st a.block/\∀a':aL,a'.block=a.block->¬X.Shun (p6 a'))\/M a.block) (k:ay X V ge Stop M d (fin g v) w):ay X V ge Stop M d g w:=
 .own hc (aK f).1 hl λb r=>by
  obtain⟨l,s,m⟩:=h b r;obtain⟨es,e1,n⟩:=GO (P:=X.P) (mn:=V.g==0) f i j l;have p:∀e∈es,∃a':aL,a'.block=a.block/\e=⟨p6 a',ge,ge⟩:=λe c=>m e (n e c);refine⟨_,b,es,e1,rfl,rfl,qr _,dk _,λ_ _ _=>rfl,λe c=>?_,(aK f).2.2 _,?_⟩
  .obtain⟨a',k1,rfl⟩:=p e c;rw[pU];grind[Ub,DF]
  .rw[pU,mV d λe c=>aS];exact k.rely r
end
end Go.Ph
namespace Go.bJ
section
variable {T:dx}{fB fA:Array cv}{F:bC->Bool}{Z:a8->Bool}{bot:dL}{up:List dL}{Bs:Nat}{mn:Bool}{ρ σ:Ren}{w w':aP}
def vM(c:GV T F Z Bs ρ w w')(q:Question):∃n f w1 d,(dQ q).run (lL T fB) w=qA n w1/\(dQ q).run (lL T fA) w'=qA n d/\cI Bs T.globals.size F (codeOk T F Z) ρ w w' f w1 d #[]:=by
 have e:∀(P:a7)(w:aP),(dQ q).run P w=if q.forced then qA 0 w else qA (q.cut (w.tape w.drawn q)) { w with drawn:=w.drawn+1 }:=λP w=>rfl
 rw[e,e,c.tape,c.drawn]
 cases q.forced with
 |true=>exact⟨0,ρ,w,w',rfl,rfl,c.refl⟩
 |false=>
  have hb:=c.refl;refine⟨_,ρ,_,_,rfl,rfl,?_⟩;exact⟨hb.le,hb.inj,⟨c.wr.pK,c.wr.gN,c.wr.base,c.wr.obj,c.wr.low⟩,rfl,rfl,rfl,rfl,rfl,dk _,dk _,λ_ _ _=>rfl,λ_ a b=>absurd b (Nat.not_lt.2 a),λ_ _ h=>pp h,ar,hb.keep⟩
def dG.Oy{a:Ren}{w1 b:aP}{s s':b9}(c:cI Bs T.globals.size F (codeOk T F Z) ρ w w' a w1 b #[])(h:dG T fB fA F Z bot up Bs a w1 b s s'):dG T fB fA F Z bot up Bs ρ w w' s s':=by
 cases s with
 |go m w2 n=>
  exact h.imp (fun⟨d,f,g,i,e,k,j,l⟩=>⟨d,f,g,i,e,by simpa using c.trans k,j,l⟩) id
 |_=>trivial
def Mm(fit:zG T fB fA F Z)(p:GV T F Z Bs ρ w w'){fr fr':dL}{cs cs':List dL}(g:aQ T F Z fB fA ρ fr fr')(hcs:cj T F Z fB fA ρ cs cs')(hb:dn (fr::cs)) :
 dG T fB fA F Z bot up Bs ρ w w' (kf (lL T fB) gc gc fr (cs++[bot]) f9 w) (kf (lL T fA) mn gc fr' (cs'++up) f9 w'):=by
 obtain⟨fn,tmps,todo,defers,mode,kind,x⟩:=fr;obtain⟨q,u,S,y,z,A,B⟩:=fr';have U:cN T F Z ρ todo S:=g.todo;have to:∀{N O:List dU},cN T F Z ρ N O->dG T fB fA F Z bot up Bs ρ w w' (kp { frame:=⟨fn,tmps,N,defers,mode,kind,x⟩,callers:=cs++[bot],status:=p9,dying:=f9 } w) (kp { frame:=⟨q,u,O,y,z,A,B⟩,callers:=cs'++up,status:=p9,dying:=f9 } w'):=
  λh=>jJ p (g.lO h) hcs (hb.top rfl)
 have lv:=λj V=>GX (bot:=bot) (up:=up) (mn:=mn) fit p g hcs hb j V;unfold kf
 cases U with
 |nil=>exact lv f9 (λc e=>by cases e)
 |@cons i i' k k' h t=>
  cases h with
  |inBlock id=>exact to t
  |inLoop c hc=>exact to (.cons (.code c hc) (.cons (.inLoop c hc) t))
  |inScope c hc=>exact to t
  |inRangeFunc hl=>trivial
  |beginRound=>
   refine rA fit p g hcs hb (vX p.inj ?_)
   rcases jP g.roundOf with⟨C,D⟩|⟨l,E,C,D,hl⟩
   .simp only at C D;subst C D;exact ak
   .simp only at C D;subst C D;exact lg p.inj hl
  |@endRangeFunc l E hl=>
   exact oQ fit p (qW p.inj hl)
    (f:=λr=>match r with
      |qA jump w=>kp { frame:=⟨fn,tmps,(jump.map lM).toList++k,defers,mode,kind,x⟩,callers:=cs++[bot],status:=p9,dying:=f9 } w
      |qF (.panic v) w=>kp { frame:=j2 ⟨fn,tmps,lS l::k,defers,mode,kind,x⟩ [{ v,recovered:=ge }],callers:=cs++[bot],status:=p9,dying:=f9 } w
      |qF _ w=>kq (.stuck "range over a function: no such loop" _) w)
    (f':=λr=>match r with
      |qA jump w=>kp { frame:=⟨q,u,(jump.map lM).toList++k',y,z,A,B⟩,callers:=cs'++up,status:=p9,dying:=f9 } w
      |qF (.panic v) w=>kp { frame:=j2 ⟨q,u,lS E::k',y,z,A,B⟩ [{ v,recovered:=ge }],callers:=cs'++up,status:=p9,dying:=f9 } w
      |qF _ w=>kq (.stuck "range over a function: no such loop" _) w) fn q g.fn g.mI
    (λH a P w1 J new o K=>by
      obtain⟨rfl,W⟩:=K;refine jJ o.wd ((g.mono o.le).lO (cN.append ?_ (t.mono o.le))) (hcs.mono o.le) (hb.top rfl)
      cases a with
      |none=>exact .nil
      |some c=>exact .cons (.code c (W c rfl)) .nil)
    (λH v v' w1 J new o hv=>jJ o.wd ((g.mono o.le).raise (.cons hv .nil)) (hcs.mono o.le) (hb.top (eC _ _)))
    (λ_ _=>⟨_,_,_,rfl⟩) (λ_ _ _=>⟨_,_,_,rfl⟩)
  |inRegion ops todo X=>
   cases todo with
   |nil=>exact to t
   |cons i Q=>
    simp only;rw[show cf ops u=cf ops tmps from funext λj=>(oo ops g.tmps j).y]
    cases((ops[i]?).map (jz · (cf ops tmps))).getD ge with
    |true=>exact Ml fit p g hcs hb rfl X
    |false=>exact jJ p (g.finish .undef) hcs (hb.top (bZ _ _))
  |code c hc=>
   cases c with
   |ret=>exact lv (f8 .ret) (λc e=>by cases e;rfl)
   |skip=>exact to t
   |label _=>exact to t
   |seq a b=>
    simp only[codeOk,dd]at hc;exact to (.cons (.code a hc.1) (.cons (.code b hc.2) t))
   |cond c a b=>
    simp only[codeOk,dd]at hc;have hv:=dD g.tmps c hc.1.1;simp only;generalize j1 _ c=v at hv ⊢;generalize j1 _ c=v' at hv ⊢
    cases hv with
    |bool b'=>
     cases b' with
     |true=>exact to (.cons (.code a hc.1.2) t)
     |false=>exact to (.cons (.code b hc.2) t)
    |_=>trivial
   |block id b=>exact to (.cons (.code b hc) (.cons (.inBlock id) t))
   |loop b=>exact to (.cons (.code b hc) (.cons (.inLoop b hc) t))
   |scope b=>exact to (.cons (.code b hc) (.cons (.inScope b hc) t))
   |exit id=>
    simp only
    rcases xo id t with⟨x1,x2⟩|⟨m,m',x1,x2,L⟩
    .rw[x1,x2];exact lv (f8 (.exit id)) (λc e=>by cases e;rfl)
    .rw[x1,x2];exact to L
   |goto id=>
    simp only
    rcases xq id t with⟨x1,x2⟩|⟨m,m',x1,x2,L⟩
    .rw[x1,x2];exact lv (f8 (.goto id)) (λc e=>by cases e;rfl)
    .rw[x1,x2];exact to L
   |refuse Y=>cases hc
   |rangeFunc f params assign body=>
    simp only[codeOk,dd]at hc;simp only;have I:=g.fn;simp only at I;subst I;have hs:=mO (T:=T) (fB:=fB) (fA:=fA) (Z:=Z) p.inj q g.mI g.tmps params assign body hc.1.2 hc.2 g.roundOf;exact oQ fit p hs
     (f:=λr=>match r with
       |qA (l,mark) w=>
        let fr:dL:=⟨q,tmps,lT l::k,mark++defers,mode,kind,x⟩
        let call:Call:={ callee:=rk f,args:=#[rq (n9 (rt l) #[] #[])],argTypes:=#[] }
        kd (lL T fB) gc fr (cs++[bot]) f9 (do let d<-cq fr.eval call 0;ct d.target d.args) w
       |qF _ w=>kq (.stuck "range over a function: no such loop" _) w)
     (f':=λr=>match r with
       |qA (l,mark) w=>
        let fr:dL:=⟨q,u,lT l::k',mark++y,z,A,B⟩
        let call:Call:={ callee:=rk f,args:=#[rq (n9 (rt l) #[] #[])],argTypes:=#[] }
        kd (lL T fA) gc fr (cs'++up) f9 (do let d<-cq fr.eval call 0;ct d.target d.args) w
       |qF _ w=>kq (.stuck "range over a function: no such loop" _) w) q q rfl g.mI
     (λH a P w1 J new o K=>by
       obtain⟨l,mark⟩:=a;obtain⟨E,OA⟩:=P;obtain⟨hl,M⟩:=K;have s:=g.mono o.le;have R:aQ T F Z fB fA H ⟨q,tmps,lT l::k,mark++defers,mode,kind,x⟩ ⟨q,u,lT E::k',OA++y,z,A,B⟩:=
        ⟨s.fn,s.same,s.mI,s.tmps,.cons (.inRangeFunc hl) (t.mono o.le),fS.append M s.defers,s.mode,s.kind,s.bX,s.roundOf,s.ret⟩
       exact rA fit o.wd R (hcs.mono o.le) (hb.top rfl) (jE fit.zero fit.fns o.inj (dD R.tmps f hc.1.1) (by
        have hv:cU F H [n9 (rt l) #[] #[]] [n9 (rt E) #[] #[]]:=.cons (.func (.yield hl) .nil .nil) .nil
        simpa[j1]using hv)))
     (λ_ _ _ _ _ _ _ _=>trivial) (λ_ _=>⟨_,_,_,rfl⟩) (λ_ _ _=>⟨_,_,_,rfl⟩)
   |region id ops draw=>
    simp only
    cases draw with
    |false=>exact to (.cons (.inRegion ops _ hc) t)
    |true=>
     simp only[nd,py,if_false];obtain⟨n,H,w1,J,c1,c2,o⟩:=vM (fB:=fB) (fA:=fA) p (.order fn id);have I:=g.fn;simp only at I;subst I;rw[c1,c2];exact dG.Oy o (jJ o.wd ((g.mono o.le).lO (.cons (.inRegion ops _ hc) (t.mono o.le))) (hcs.mono o.le) (hb.top rfl))
def Mn(fit:zG T fB fA F Z)(f:GV T F Z Bs ρ w w'){g g':bj}(hg:GC T fB fA F Z bot up ρ g g')
 (i:g.frame.mode≠qt->g.frame.defers=[]->g.callers≠[bot]):dG T fB fA F Z bot up Bs ρ w w' (stepG (lL T fB) gc g w) (stepG (lL T fA) mn g' w'):=by
 obtain⟨b,⟨l,r,hl,j,hcs,hb⟩,st,a,k,m,of,n⟩:=hg;obtain⟨fr,cs,status,dying,offers⟩:=g;obtain⟨c,cs',s,t,u⟩:=g';simp only at st a k m of n hl j hcs b hb i;subst st a k m of n hl j;have d:=Mm (bot:=bot) (up:=up) (mn:=mn) fit f b hcs hb;have o:=λh=>DL (bot:=bot) (up:=up) (mn:=mn) fit f b hcs hb h (λhd e=>by subst e;exact i h hd rfl);obtain⟨fn,tmps,todo,defers,mode,kind,v⟩:=fr;obtain⟨x,y,z,A,p,B,C⟩:=c;have q:qE F ρ mode p:=b.mode;unfold stepG
 cases q with
 |run=>exact d
 |returning=>exact o ar
 |panicking _=>exact o ar
end
end Go.bJ
namespace Go.Ph
open Go.Conc Go.ConcN Go.bJ
open Go.ConcM (MuAt muA msA OsLater muBlock)
open Go.ConcR (KK WgAt stA smA rd wr mk)
structure StO(V:Vw)(M:Own)(Bs:Nat)(ρ:Ren):Prop where
 st:∀a b,ρ a b->a<Bs->V.st b\/M b
 own:∀a b,ρ a b->Bs<=a->M b
section
variable {T:dx}{fB fA:Array cv}{F:bC->Bool}{Z:a8->Bool}{X:Fix}{V:Vw}{M:Own}{Bs:Nat}{wL wL1 w w1:aP}{ρ aJ:Ren}{newL new:Array bd}
def GY(hc:Clear X V M)(k:StO V M Bs ρ)(I:GV T F Z Bs ρ wL w)(hs:cI Bs T.globals.size F (codeOk T F Z) ρ wL w aJ wL1 w1 new)(P:fK aJ newL.toList new.toList)
 (Q:∀a,a<Bs->wL1.heap[a]?=wL.heap[a]?) (t:∀e∈newL,¬BQ Bs e)
 (u:X.Mu<w.heap.size) (v:X.Wg<w.heap.size) (y:X.Tb<w.heap.size) (d:Nat) :
 let M':Own:=λb=>M b\/(w.heap.size<=b/\b<w1.heap.size)
 Dl X V ge M d w w1 new M' (bi d new)/\L3 X w w1/\StO V M' Bs aJ:=by
 intro M';have z:∀b,(b=X.Mu\/b=X.Wg\/b=X.Tb)->∀a,¬ρ a b:=by
  intro b hb a h;have:jm X b:=by
   rcases gg a Bs with f|f
   .exact(k.st a b h f).elim (hc.st b) (hc.own b)
   .exact hc.own b (k.own a b h f)
  rcases hb with rfl|rfl|rfl
  .exact this.1 rfl
  .exact this.2.1 rfl
  .exact this.2.2 rfl
 have fr:∀b,b<w.heap.size->¬M b->w1.heap[b]?=w.heap[b]?:=by
  intro b hb A;by_cases h:∃a,ρ a b
  .obtain⟨a,h⟩:=h;have g:a<Bs:=Nat.lt_of_not_le λf=>A (k.own a b h f);obtain⟨o,o1,J,K,R⟩:=hs.keep a b h g;obtain⟨p,p',k1,k2,k3⟩:=I.wr.low h g;obtain⟨q,q',L,N,S⟩:=hs.wr.low (hs.le h) g;rw[J]at k2;cases k2;rw[K]at N;cases N;rw[Q a g,k1]at L;cases L;rw[J,K]
   cases R with
   |cells=>
    cases k3 with
    |cells=>cases S;rfl
    |afN _ _ U=>exact absurd rfl (U _ _ _)
   |loop=>rfl
   |same=>rfl
  .exact hs.frame b hb λa g=>h ⟨a,g⟩
 have B:w1.heap[X.Mu]?=w.heap[X.Mu]?:=hs.frame _ u (z _ (pp rfl));have C:w1.heap[X.Wg]?=w.heap[X.Wg]?:=hs.frame _ v (z _ (pu (pp rfl)));have l:w1.heap[X.Tb]?=w.heap[X.Tb]?:=hs.frame _ y (z _ (pu (pu rfl)));have j:StO V M' Bs aJ:=by
  refine⟨λa b h g=>?_,λa b h g=>?_⟩
  .rcases hs.only a b h with h|⟨h,_⟩
   .exact(k.st a b h g).imp id pp
   .have:=I.wr.base;omega
  .rcases hs.only a b h with n|⟨_,n⟩
   .exact pp (k.own a b n g)
   .exact pu ⟨n,(hs.wr.lt h).2⟩
 refine⟨⟨hs.wH,hs.mK,by rw[hs.XV];exact qr _,hs.fV,λb hb A _ _ _=>fr b hb A,λc h=>⟨c,by rw[l];exact h,rfl⟩,λo _=>by simp only[hz,l],ar,λb=>jf,λe' n=>?_,ar,rfl⟩,⟨B,C⟩,j⟩;obtain⟨e,f,W⟩:=P.mem (iN.2 n);have f:=t e (iN.1 f)
 cases W with
 |@cell a O h i=>
  have D:=(hs.wr.lt h.1).2;have hb:Bs<=a.block:=gj f;refine⟨λx s=>?_,ar,D⟩;rw[show(hO ⟨p6 O,i,ge⟩).touch? = f8 ⟨p6 O,i,pm⟩from rfl]at s;cases s;exact⟨rfl,pu ⟨rfl,pp (pp (j.own _ _ h.1 hb))⟩⟩
 |@obj r E h i=>
  have D:=(hs.wr.lt h).2;have hb:Bs<=r:=gj f;have Y:(hO ⟨p7 E,i,ge⟩).touch? = f8 ⟨p7 E,i,pm⟩:=by cases i<;>rfl
  have t:(hO ⟨p7 E,i,ge⟩).low w1.heap.size:=by cases i<;>exact D
  refine⟨λx s=>?_,ar,t⟩;rw[Y]at s;cases s;exact⟨rfl,pu ⟨rfl,pp (j.own _ _ h hb)⟩⟩
 |mark m H=>
  have H:m=.noRoom:=H;subst H;exact uq rfl (bA) trivial
end
end Go.Ph
namespace Go.Ph
open Go.Conc Go.ConcN Go.bJ
open Go.ConcM (MuAt muA msA OsLater muBlock)
variable {q:Ren}{C L:aP}{J O:bj}
variable {M:Own}
def Lone(P:a7)(bot:dL)(Bs:Nat):Nat->bj->aP->bj->aP->Prop
 |0,g,w,b,w2=>g=b/\w=w2
 |n+1,g,w,b,w2=>∃c w1 es,(∀f d,stepG P gc g (hG w f d)=kp c (hG w1 f d) es)/\(∀a,a<Bs->w1.heap[a]?=w.heap[a]?)/\(∀e∈es,¬BQ Bs e)/\c.status=p9/\
  (g.frame.mode≠qt->g.frame.defers=[]->g.callers≠[bot])/\Lone P bot Bs n c w1 b w2
def mX{ρ:Ren}:∀{l l':List bd}(d:Nat),fK ρ l l'->l'.foldl (λd e=>match e.loc with | p8 .disable=>d+1 | p8 .enable=>d-1|_=>d) d=d
 |[],_,d,h=>by cases h;rfl
 |_::_,_,d,h=>by
  cases h with
  |cons c a=>
   simp only[cB]
   cases c with
   |cell=>exact mX d a
   |obj=>exact mX d a
   |mark m b=>
    have b:m=.noRoom:=b;subst b;exact mX d a
def DN{es a:Array bd}(d:Nat)(h:fK q es.toList a.toList):bi d a=d:=by
 unfold bi;rw[<-qk];exact mX d h
section
variable {T:dx}{fB fA:Array cv}{F:bC->Bool}{Z:a8->Bool}{X:Fix}{V:Vw}{Stop:Stp}{Bs:Nat}{bot:dL}{up:List dL}
structure iG(T:dx)(fB fA:Array cv)(F:bC->Bool)(Z:a8->Bool)(bot:dL)(up:List dL)(X:Fix)(V:Vw)(Bs:Nat)(ρ:Ren)(M:Own)(g:bj)(wL:aP)(g':bj)(w:aP):Prop where
 inj:ρ.bw T.globals.size
 wr:WC Bs T.globals.size F (codeOk T F Z) ρ wL w
 g:GC T fB fA F Z bot up ρ g g'
 own:StO V M Bs ρ
 clear:Clear X V M
 sG:∀b,V.st b->b<w.heap.size/\¬M b
structure qw(X:Fix)(V:Vw)(Bs:Nat)(ρ:Ren)(M:Own)(w w2:aP):Prop where
 size:w.heap.size<=w2.heap.size
 st:∀b,V.st b->w2.heap[b]?=w.heap[b]?
 own:∀b,M b->b<w.heap.size->(∀a,¬ρ a b)->w2.heap[b]?=w.heap[b]?
 row:∀o,V.row o->hz w2 ⟨X.Tb,o,f9⟩=hz w ⟨X.Tb,o,f9⟩
 low:∀a b,ρ a b->a<Bs->w2.heap[b]?=w.heap[b]?
def qw.refl(V:Vw)(ρ:Ren)(M:Own)(w:aP):qw X V Bs ρ M w w:=⟨dk _,λ_ _=>rfl,λ_ _ _ _=>rfl,λ_ _=>rfl,λ_ _ _ _=>rfl⟩
def qw.ad4(d:StO V M Bs q)(r:Rl X V M C L):qw X V Bs q M C L:=⟨r.size,r.st,λb hb _ _=>r.own b hb,r.row,λa b h e=>(d.st a b h e).elim (r.st b) (r.own b)⟩
def qw.trans{ρ c:Ren}{M e:Own}{w w1 w2:aP}(h:qw X V Bs ρ M w w1)(j:∀b,M b->e b)(l:∀a b,c a b->ρ a b\/w.heap.size<=b)(d:ρ.le c)(k:qw X V Bs c e w1 w2):qw X V Bs ρ M w w2:=
 ⟨da h.size k.size,λb hb=>(k.st b hb).t (h.st b hb),λb hb hl m=>(k.own b (j b hb) (bT hl h.size) λa x=>by
   grind).t (h.own b hb hl m),λo f=>(k.row o f).t (h.row o f),λa b g i=>(k.low a b (d g) i).t (h.low a b g i)⟩
def iG.wd(h:iG T fB fA F Z bot up X V Bs q M J C O L):GV T F Z Bs q (hG C L.tape L.drawn) L:=
 ⟨h.inj,⟨h.wr.pK,h.wr.gN,h.wr.base,h.wr.obj,h.wr.low⟩,rfl,rfl⟩
def iG.rely{k:aP}(h:iG T fB fA F Z bot up X V Bs q M J C O L)(r:Rl X V M L k):iG T fB fA F Z bot up X V Bs q M J C O k:=
 ⟨h.inj,⟨h.wr.pK,da h.wr.gN r.size,h.wr.base,λ{a b}d hb=>by
   obtain⟨o,l,f,e,i⟩:=h.wr.obj d hb;exact⟨o,l,f,by rw[r.own b (h.own.own a b d hb)];exact e,i⟩,λ{a b}d hb=>by
   obtain⟨c,m,f,e,i⟩:=h.wr.low d hb;refine⟨c,m,f,?_,i⟩
   rcases h.own.st a b d hb with x|x
   .rw[r.st b x];exact e
   .rw[r.own b x];exact e⟩,h.g,h.own,h.clear,λb hb=>⟨bT (h.sG b hb).1 r.size,(h.sG b hb).2⟩⟩
def ay.lone(fit:zG T fB fA F Z)(hP:X.P=⟨T,fA⟩):∀(n:Nat){g:bj}{s:aP}{j:bj}{i:aP}{ρ:Ren}{M:Own}{d:Nat}{g':bj}{w:aP},Lone ⟨T,fB⟩ bot Bs n g s j i->iG T fB fA F Z bot up X V Bs ρ M g s g' w->Live X w->
 (∀t u B w2,iG T fB fA F Z bot up X V Bs t u j i B w2->Live X w2->(∀b,M b->u b)->(∀a b,ρ a b->t a b)->(∀a b,t a b->ρ a b\/(Bs<=a/\w.heap.size<=b))->qw X V Bs ρ M w w2->ay X V ge Stop u d B w2)->ay X V ge Stop M d g' w
 |0,g,s,j,i,ρ,M,d,g',w,h,hl,hv,k=>by
  obtain⟨rfl,rfl⟩:=h;exact k ρ M g' w hl hv (λ_ h=>h) (λ_ _ h=>h) (λ_ _ h=>pp h) (.refl _ _ _ _)
 |n+1,g,s,j,i,ρ,M,d,g',w,h,hl,hv,k=>by
  obtain⟨H,I,es,v,h2,h3,J,h4,h5⟩:=h;refine .step hl.g.st' λz r=>?_;have f:=hl.rely r;have K:=r.live hv;have st:=Mn (bot:=bot) (up:=up) (mn:=V.g==0) fit f.wd f.g h4;rw[v]at st
  rcases st with st|⟨e,he,qv⟩|st
  rotate_left
  .exact absurd qv (h3 e he)
  .exact absurd J st
  obtain⟨aJ,vY,l,aT,e,hs,kG,hg⟩:=st;have m:∀{b:Nat}{o:Obj},z.heap[b]?=f8 o->b<z.heap.size:=λh=>(bR.1 h).1;obtain⟨⟨_,_,v1⟩,⟨_,_,L⟩,c,C,v4⟩:=K;obtain⟨a1,a2,a3⟩:=GY f.clear f.own f.wd hs kG h2 h3 (m v1) (m L) (m C) d
  have N:Live X l:=⟨⟨_,_,by unfold ht;rw[a2.1];exact v1⟩,⟨_,_,by unfold h7;rw[a2.2];exact L⟩,by
   obtain⟨c',k1,k2⟩:=a1.tb c C
   grind⟩
  rw[hP];refine⟨vY,l,aT,_,_,e,a1,a2,hg.st',?_⟩;rw[DN d kG]
  have YP:Clear X V (λb=>M b\/(z.heap.size<=b/\b<l.heap.size)):=⟨f.clear.ids,f.clear.st,λb hb=>by
   rcases hb with hb|hb
   .exact f.clear.own b hb
   .have:=m v1;have:=m L;have:=m C
    exact⟨ab,ab,ab⟩⟩
  have O:∀b,V.st b->b<l.heap.size/\¬(M b\/(z.heap.size<=b/\b<l.heap.size)):=λb hb=>by
   obtain⟨x,y⟩:=f.sG b hb;exact⟨bT x hs.fV,λh=>h.elim y λh=>ab⟩
  have Q:qw X V Bs ρ M z l:=⟨hs.fV,λb hb=>by
   obtain⟨x,y⟩:=f.sG b hb;have:=f.clear.st b hb;exact a1.block b x y this.1 this.2.1 this.2.2,λb hb hl R=>hs.frame b hl R,λo _=>by
   simp only[hz,hs.frame _ (m C) λa h=>by
    have:jm X X.Tb:=by
     rcases gg a Bs with v|v
     .exact(f.own.st a _ h v).elim (f.clear.st _) (f.clear.own _)
     .exact f.clear.own _ (f.own.own a _ h v)
    exact this.2.2 rfl],λa b S D=>by
   obtain⟨o,o1,H,j,g3⟩:=hs.keep a b S D;obtain⟨p,p',k1,k2,k3⟩:=f.wd.wr.low S D;obtain⟨q,q',U,E,W⟩:=hs.wr.low (hs.le S) D;rw[H]at k2;cases k2;rw[j]at E;cases E;have A:I.heap[a]?=f8 q:=U;have Y:s.heap[a]?=f8 p:=k1;rw[h2 a D,Y]at A;cases A;rw[H,j]
   cases g3 with
   |cells=>
    cases k3 with
    |cells=>cases W;rfl
    |afN _ _ R=>exact absurd rfl (R _ _ _)
   |loop=>rfl
   |same=>rfl⟩
  have ow:qw X V Bs ρ M w l:=(qw.ad4 hl.own r).trans (λ_ h=>h) (λ_ _ h=>pp h) (λ_ _ h=>h) Q;refine ay.lone fit hP n h5 ⟨hs.inj,⟨hs.wr.pK,hs.wr.gN,hs.wr.base,hs.wr.obj,hs.wr.low⟩,hg,a3,YP,O⟩ N λt u B w2 U E W j4 j5 j6=>?_;have only:∀a b,aJ a b->ρ a b\/(Bs<=a/\w.heap.size<=b):=λa b h=>(hs.only a b h).imp id λx=>⟨da f.wr.base x.1,da r.size x.2⟩
  refine k t u B w2 U E (λb hb=>W b (pp hb)) (λa b hab=>j4 a b (hs.le hab)) (λa b h=>?_) (ow.trans (λb hb=>pp hb) (λa b h=>(only a b h).imp id And.right) hs.le j6)
  rcases j5 a b h with h|h
  .exact only a b h
  .exact pu ⟨h.1,da ow.size h.2⟩
end
end Go.Ph
namespace Go.Ph
open Go.Conc Go.ConcN Go.bJ
variable {J:Nat}{C O:Array a9}{L:Type}
section
variable (P:a7)(Bs:Nat)(S:bj->Bool)
def BR(g:bj)(w:aP):bj×aP:=match stepG P gc g w with
 |kp a w1 _=>(a,w1)
 |_=>(g,w)
def exL(g:bj)(w:aP):Array bd:=match stepG P gc g w with
 |kp _ _ es=>es
 |_=>#[]
def Jp:Nat->bj->aP->bj×aP
 |0,g,w=>(g,w)
 |n+1,g,w=>@gf (λ_=>bj×aP) (Jp n (BR P g w).1 (BR P g w).2) (g,w) (S g)
def hiE(Bs:Nat)(es:Array bd):Bool:=es.toList.all λe=>match e.loc with
 |p6 a=>gy Bs a.block
 |p7 b=>gy Bs b
 |_=>gc
def BS(g:bj):Bool:=match g.frame.mode with
 |qt=>gc
 |_=>!(g.frame.defers.isEmpty&&g.callers.length==1)
def Jq(g:bj):Bool:=match g.status with
 |p9=>gc
 |_=>ge
def DO(a:Tape)(d:Nat):Nat->bj->aP->List (b9×List Obj×Bool×Bool×Bool)
 |0,_,_=>[]
 |n+1,g,w=>@gf (λ_=>List (b9×List Obj×Bool×Bool×Bool)) ((stepG P gc g (hG w a d),(BR P g w).2.heap.toList.take Bs,hiE Bs (exL P g w),Jq (BR P g w).1,BS g)::DO a d n (BR P g w).1 (BR P g w).2) [] (S g)
def DQ(a:Tape)(d:Nat):Nat->bj->aP->List (b9×List Obj×Bool×Bool×Bool)
 |0,_,_=>[]
 |n+1,g,w=>@gf (λ_=>List (b9×List Obj×Bool×Bool×Bool)) ((kp (BR P g w).1 (hG (BR P g w).2 a d) (exL P g w),w.heap.toList.take Bs,gc,gc,gc)::DQ a d n (BR P g w).1 (BR P g w).2) [] (S g)
end
def Uc{es:Array bd}(h:hiE J es=gc):∀e∈es,¬BQ J e:=by
 intro e c hl;simp only[hiE,df]at h;have:=h e (iN.2 c);obtain⟨loc,wr,d⟩:=e
 cases loc with
 |cell a=>exact absurd (fi this) (Nat.not_le.2 hl)
 |obj b=>exact absurd (fi this) (Nat.not_le.2 hl)
 |_=>exact hl
def Pm{g:bj}(h:Jq g=gc):g.status=p9:=by
 unfold Jq at h;grind
def Pn{P:a7}{Bs:Nat}{S:bj->Bool}(bot:dL):∀(n:Nat){g:bj}{w:aP},(∀b d,DO P Bs S b d n g w=DQ P Bs S b d n g w)->∃m,Lone P bot Bs m g w (Jp P S n g w).1 (Jp P S n g w).2
 |0,g,w,_=>⟨0,rfl,rfl⟩
 |n+1,g,w,h=>by
  cases c:S g with
  |true=>simp only[Jp,c];exact⟨0,rfl,rfl⟩
  |false=>
   simp only[Jp,c];have e:∀b d,stepG P gc g (hG w b d)=kp (BR P g w).1 (hG (BR P g w).2 b d) (exL P g w)/\(BR P g w).2.heap.toList.take Bs=w.heap.toList.take Bs/\hiE Bs (exL P g w)=gc/\Jq (BR P g w).1=gc/\BS g=gc/\
    DO P Bs S b d n (BR P g w).1 (BR P g w).2=DQ P Bs S b d n (BR P g w).1 (BR P g w).2:=λb d=>by
    have:=h b d;simp only[DO,DQ,c,jp,ma]at this;grind
   obtain⟨_,i,j,f,k,_⟩:=e w.tape 0;obtain⟨m,l⟩:=Pn bot n (λb d=>(e b d).2.2.2.2.2);refine⟨m+1,_,_,_,λb d=>(e b d).1,λa q=>?_,Uc j,Pm f,λo p r=>?_,l⟩
   .have:((BR P g w).2.heap.toList.take Bs)[a]?=(w.heap.toList.take Bs)[a]?:=by rw[i]
    grind
   .unfold BS at k;grind
section
variable {P:a7}{mn:Bool}{fr c:dL}{cs:List dL}{w:aP}{fn:cv}{v:a9}
def rB(a:fr.mode=qu)(b:fr.kind=jt)(hd:fr.defers=[])(hf:P.funcs[fr.fn]?=f8 fn)(e:(results fn fr.tmps).run P w=qA v w)(g:(results fn fr.tmps).events P w #[]=#[]) :
 stepG P mn (G fr (c::cs)) w=kp (G (jQ c v) cs) w #[]:=by
 obtain⟨f,tmps,todo,defers,mode,kind,h⟩:=fr;simp only at a b hd hf e g;subst a b hd;simp[G,stepG,unwind,doReturn,hf,e,g,seen,kg]
variable {X:Fix}{V:Vw}{q:Bool}{Stop:Stp}{M:Own}{d:Nat}
def ay.leave1{t:Tmp}(hc:Clear X V M)(e:fr.mode=qu)(f:fr.kind=jt)(hd:fr.defers=[])(hf:X.P.funcs[fr.fn]?=f8 fn)(a:fn.results=#[.tmp t])
 (h:ay X V q Stop M d (G (jQ c (fr.tmps.getD t undef)) cs) w):ay X V q Stop M d (G fr (c::cs)) w:=
 .idle hc rfl λb _=>⟨_,b,#[],rB e f hd hf (results_tmp a _ X.P b) (events_results_tmp a _ _),rfl,rfl,qr _,rfl,ar,rfl,h⟩
def ay.leave0(hc:Clear X V M)(e:fr.mode=qu)(f:fr.kind=jt)(hd:fr.defers=[])(hf:X.P.funcs[fr.fn]?=f8 fn)(a:fn.results=#[])
 (h:ay X V q Stop M d (G (jQ c (ob #[])) cs) w):ay X V q Stop M d (G fr (c::cs)) w:=
 .idle hc rfl λb _=>⟨_,b,#[],rB e f hd hf (results_none a _ X.P b) (events_results_none a _ _),rfl,rfl,qr _,rfl,ar,rfl,h⟩
end
section
variable {P:a7}{mn:Bool}{w:aP}
def eval_const(fr:dL)(v:a9):fr.eval (rq v)=v:=rfl
def uw(fn:bC)(tmps:Array a9)(ps:Array Tmp)(assign body:d8)(b:Nat):Obj:=m9 { state:=.ready,pending:=f9,fn,tmps,params:=ps,assign,body,defers:=b }
def GZ{fn:bC}{tmps:Array a9}{f:ci}{ps:Array Tmp}{assign body:d8}{k:List dU}{defers:List d9}{kind:ea}{cs:List dL}{F:bC}{caps:Array a9}{fd:cv}
 (b:(kind==jr)=ge) (hf:j1 ⟨fn,tmps,lT (w.heap.size+1)::k,{ target:=rP w.heap.size,args:=#[] }::defers,qt,kind,f9⟩ f=n9 (rs F) #[] caps)
 (hF:P.funcs[F]?=f8 fd) (hb:fd.body.isSome=gc) (a:fd.name≠ "runtime.NumGoroutine") :
 stepG P mn (G ⟨fn,tmps,lM (rQ f ps assign body)::k,defers,qt,kind,f9⟩ cs) w =
  kp (G (ka P F (#[n9 (rt (w.heap.size+1)) #[] #[]]++caps) jt) (⟨fn,tmps,lT (w.heap.size+1)::k,{ target:=rP w.heap.size,args:=#[] }::defers,qt,kind,f9⟩::cs))
   (hI (hI w (na (f8 []))) (uw fn tmps ps assign body w.heap.size)) #[]:=by
 have c:(Instr.enterLoop fn tmps ps assign body f9).runT P w #[]=(qA (w.heap.size+1,[{ target:=rP w.heap.size,args:=#[] }]) (hI (hI w (na (f8 []))) (uw fn tmps ps assign body w.heap.size)),#[]):=by
  refine i0 ?_ ?_
  .rw[ks,run_enterLoop_outer];rfl
  .rfl
 have g:fd.body.isNone=ge:=bp;have h:(fd.name == "runtime.NumGoroutine")=ge:=by simpa using a
 have e:∀w2,(do let d<-cq (j1 ⟨fn,tmps,lT (w.heap.size+1)::k,{ target:=rP w.heap.size,args:=#[] }::defers,qt,kind,f9⟩) { callee:=rk f,args:=#[rq (n9 (rt (w.heap.size+1)) #[] #[])],argTypes:=#[] } 0;ct d.target d.args:Sem bq).runT P w2 #[]=(qA (.enter F (#[n9 (rt (w.heap.size+1)) #[] #[]]++caps)) w2,#[]):=by
  intro w2;have e1:(do let d<-cq (j1 ⟨fn,tmps,lT (w.heap.size+1)::k,{ target:=rP w.heap.size,args:=#[] }::defers,qt,kind,f9⟩) { callee:=rk f,args:=#[rq (n9 (rt (w.heap.size+1)) #[] #[])],argTypes:=#[] } 0;ct d.target d.args:Sem bq)=co F (#[n9 (rt (w.heap.size+1)) #[] #[]]++caps):=by
   simp[cq,hf,kY,ct,eval_const]
  rw[e1];obtain⟨kk,c1,i⟩:=uf (T:=P.toTables) hF hb a (#[n9 (rt (w.heap.size+1)) #[] #[]]++caps);rw[c1];show(kk P).runT P w2 #[]=_;simp_all
 simp only[G,stepG,kf,c];simp only[fY,gB];unfold kd;simp only[if_true,e,b,py,if_false,kg,f6];simp[ka]
end
section
variable {P:a7}{mn:Bool}{w:aP}{g:bj}{o:ce}
def G3{x:ci}{xs:Array ci}{ts:Array a8}{l:Nat}{r:Loop}(c:bF g=f8 o)(f:o.op=qN { callee:=rk x,args:=xs,argTypes:=ts })(h:g.frame.eval x=n9 (rt l) #[] #[])
 (hl:w.heap[l]?=f8 (m9 r)) (hs:xs.size=r.params.size) :
 ∃es,stepG P mn g w=kp (G (kc l r.fn ((r.params.zip (xs.map g.frame.eval)).foldl (λtmps(t,a)=>h8 tmps t a) r.tmps) r.assign r.body jt) (g.frame::g.callers)) w es/\∀e∈es,e=⟨p7 l,ge,ge⟩:=by
 have e1:ch g.frame.eval o=mc l (xs.map g.frame.eval):=by
  unfold ch;simp[f,cq,h,kY,ct]
 have j:=run_yield (P:=P) (args:=xs.map g.frame.eval) hl (by simpa using hs);rw[lV c];have b:(mc l (xs.map g.frame.eval)).runT P w #[]=(qA (.round l r.fn ((r.params.zip (xs.map g.frame.eval)).foldl (λtmps(t,a)=>h8 tmps t a) r.tmps) r.assign r.body) w,#[⟨p7 l,ge,ge⟩]):=by
  refine i0 ?_ ?_
  .rw[ks];exact j
  .have m:¬((xs.map g.frame.eval).size≠r.params.size):=by simpa using hs
   have n:∀{p:Type}(k:Obj->Sem p)(es:Array bd),(kt l k).runT P w es=(k (m9 r)).runT P w (es.push ⟨p7 l,ge,ge⟩):=λk es=>by simp only[kw,hl,m7]
   show((kt l _).runT P w #[]).2=_;rw[n];show((if(xs.map g.frame.eval).size≠r.params.size then _ else _:Sem bq).runT P w _).2=_;rw[if_neg m];rfl
 obtain⟨fn,tmps,ops,i,d,k,defers,kind,u,cs,rfl,q,v,y,z⟩:=gF c;unfold kd;rw[e1];simp only[if_true,b,kg];simp only[q,py,if_false,ii];exact⟨seen P fn #[⟨p7 l,ge,ge⟩],rfl,λe s=>by simpa using Conc.mem_seen (P:=P) (fn:=fn) s⟩
end
section
variable {P:a7}{mn:Bool}{w w':aP}{g:bj}{o:ce}{t:a8}{x y ix:ci}{b off:Nat}{v:a9}
def jY{i:TypeInfo}{z:a9}(d:bF g=f8 o)(e:o.op=q8 t)(hi:P.info? t=f8 i)(a:i.zero=f8 z) :
 stepG P mn g w=kp (fin g (oh (f8 ⟨w.heap.size,0,f9⟩))) (hI w (m8 z.cells t)) #[]:=by
 have e1:ch g.frame.eval o=(do pure (qG (<-mm t gc (ob #[]))):Sem bq):=by
  unfold ch;simp only[e]
 have c:(mm t gc (ob #[])).run P w=qA (oh (f8 ⟨w.heap.size,0,f9⟩)) (hI w (m8 z.cells t)):=by
  simp[mm,zeroValue,eb,hi,a,newVar,newRow]
 have f:(mm t gc (ob #[])).events P w #[]=#[]:=by
  simp[mm,zeroValue,eb,hi,a,newVar,newRow]
 rw[dF (v:=oh (f8 ⟨w.heap.size,0,f9⟩)) (w':=hI w (m8 z.cells t)) d (by rw[e1];simp[c]),e1];simp[c,f,f6]
def oR(g o:Nat)(t:a8):∀(vs:List a9)(i:Nat)(cur:Array a9)(w:aP)(es:Array bd),w.heap[g]?=f8 (m8 cur t (0,0))->o+i+vs.length<=cur.size->(∀v∈vs,v.oneCell'=gc)->
 ∀ev∈(ec ⟨g,o,f9⟩ vs i).events P w es,ev∈es\/∃j,j<i+vs.length/\ev=⟨p6 ⟨g,o+j,f9⟩,gc,ge⟩
 |[],_,_,_,_,_,_,_=>λev h=>pp (by simpa[ec]using h)
 |v::a,i,cur,w,es,hg,hl,c=>λev h=>by
  have hi:o+i<cur.size:=by simp at hl;omega
  have d:(⟨g,o,f9⟩:aL).add i=⟨g,o+i,f9⟩:=by unfold Addr.add;split<;>simp_all
  have hcell:hz w ⟨g,o+i,f9⟩=f8 cur[o+i]:=by simp[hz,hg,hi]
  have e:hJ w ⟨g,o+i,f9⟩=ge:=by simp[hJ,hg]
  have f:(store ((⟨g,o,f9⟩:aL).add i) v).run P w=qA () (hK w g (h8 cur (o+i) v)):=by
   grind[Go.run_store,setCell_eq_setRow]
  have k:(store ((⟨g,o,f9⟩:aL).add i) v).events P w es=es.push ⟨p6 ⟨g,o+i,f9⟩,gc,ge⟩:=by
   rw[d,events_store P w es _ v _ (c v ar),hcell];grind
  simp only[ec,kx,f,Result.evThen_ok,k]at h
  rcases oR g o t a (i+1) (h8 cur (o+i) v) (hK w g (h8 cur (o+i) v)) _ (ed w g cur _ t _ hg) (by simp at hl ⊢;omega) (λx l=>c x (by simp[l])) ev h with h|⟨j,m,h⟩
  .grind
  grind
def putRow(cur:Array a9)(off:Nat)(vs:Array a9):Array a9:=(cur.toList.take off++vs.toList++cur.toList.drop (off+vs.size)).toArray
theorem vj{off:Nat}(h:off+O.size<=C.size):(putRow C off O).size=C.size:=by
 simp[putRow];omega
def Mo{off:Nat}(h:off+O.size<=C.size)(a:J<O.size):(putRow C off O)[off+J]?=O[J]?:=by
 simp only[putRow,gw];grind
theorem G4{off:Nat}(h:off+O.size<=C.size)(a:J<off\/off+O.size<=J):(putRow C off O)[J]?=C[J]?:=by
 simp only[putRow,gw];grind
def rC{ty:a8}{cur:Array a9}(l:bF g=f8 o)(m:o.op=q9 t x y)(n:g.frame.eval x=oh (f8 ⟨b,off,f9⟩))(hy:g.frame.eval y=v)
 (hb:w.heap[b]?=f8 (m8 cur ty (0,0))) (hs:(P.info? t).map (·.size)=f8 v.cells.size) (hl:off+v.cells.size<=cur.size) (d:∀c∈v.cells,c.oneCell'=gc) :
 ∃es,stepG P mn g w=kp (fin g undef) (hK w b (putRow cur off v.cells)) es/\∀e∈es,∃j,j<v.cells.size/\e=⟨p6 ⟨b,off+j,f9⟩,gc,ge⟩:=by
 have e1:ch g.frame.eval o=(do eg t ⟨b,off,f9⟩ v;pure qH:Sem bq):=by
  unfold ch;simp only[m,n,hy,Instr.storeAt,mF];rfl
 cases a:P.info? t with
 |none=>simp[a]at hs
 |some i=>
  have f:i.size=v.cells.size:=by simpa[a]using hs
  have k:=run_storeCells_at P b off ty v.cells.toList 0 cur w hb (by simpa using hl) (λc hc=>d c (by simpa using hc));have p:(eg t ⟨b,off,f9⟩ v).run P w=qA () (hK w b (putRow cur off v.cells)):=by
   simp[eg,ek,eb,a,f,k,putRow]
  refine⟨_,Me (w':=hK w b (putRow cur off v.cells)) l (by rw[e1];simp[p]),λe q=>?_⟩;have:=f7 q;rw[e1]at this;have r:e∈(eg t ⟨b,off,f9⟩ v).events P w #[]:=bp;have s:e∈(ec ⟨b,off,f9⟩ v.cells.toList 0).events P w #[]:=by simpa[eg,ek,eb,a,f,k]using r
  rcases oR b off ty v.cells.toList 0 cur w #[] hb (by simpa using hl) (λc hc=>d c (by simpa using hc)) e s with h|⟨j,u,h⟩
  .simp at h
  grind
def xH{elem:a8}{n c:Nat}{k:c9}{i:Int}{a:aL}{d:Nat}(q:bF g=f8 o)(r:o.op=rf t x ix)(s:g.frame.eval x=ov (f8 a) n c)(hi:g.frame.eval ix=n8 k i)
 (h:lA P t=f8 (.slice elem)) (hs:(P.info? elem).map (·.size)=f8 d) (j:0<=i) (l:i<n) :
 stepG P mn g w=kp (fin g (oh (f8 (a.add (i.toNat*d))))) w #[]:=by
 have e1:ch g.frame.eval o=(do pure (qG (<-mG t (ov (f8 a) n c) (n8 k i))):Sem bq):=by
  unfold ch;simp only[r,s,hi]
 cases e:P.info? elem with
 |none=>simp[e]at hs
 |some f=>
  have m:f.size=d:=by simpa[e]using hs
  have p:(mG t (ov (f8 a) n c) (n8 k i)).run P w=qA (oh (f8 (a.add (i.toNat*d)))) w:=by
   simp[mG,el,db h,j,l,ek,eb,e,m]
  have u:(mG t (ov (f8 a) n c) (n8 k i)).events P w #[]=#[]:=by
   simp[mG,el,db h,j,l,ek,eb,e,m]
  rw[dF (v:=oh (f8 (a.add (i.toNat*d)))) (w':=w) q (by rw[e1];simp[p]),e1];simp[p,u,f6]
end
section
variable {P:a7}{mn:Bool}{w:aP}{l:Nat}{r:Loop}
def rE(h:w.heap[l]?=f8 (m9 r))(k:Obj->Sem L)(es:Array bd):(kt l k).runT P w es=(k (m9 r)).runT P w (es.push ⟨p7 l,ge,ge⟩):=by
 simp only[kw,h,m7]
def rF(h:w.heap[l]?=f8 (m9 r))(a:Loop)(k:Sem L)(es:Array bd):(kS l (m9 a) k).runT P w es=k.runT P (hM w l (m9 a)) (es.push ⟨p7 l,gc,ge⟩):=by
 simp only[kw,h,m7,hM]
def wz{a b:bd}:∀e∈(#[a,b]:Array bd),e=a\/e=b:=λe c=>by simpa using c
variable {fn:bC}{tmps:Array a9}{k:List dU}{defers:List d9}{kind:ea}{ro:Option Nat}{cs:List dL}
def G5(h:w.heap[l]?=f8 (m9 r))(a:r.state=.ready)(c:(kind==jr)=ge) :
 ∃es,stepG P mn (G ⟨fn,tmps,lW::k,defers,qt,kind,f8 l⟩ cs) w=kp (G ⟨fn,tmps,k,defers,qt,kind,f8 l⟩ cs) (hM w l (m9 { r with state:=.busy })) es/\∀e∈es,∃wr,e=⟨p7 l,wr,ge⟩:=by
 have e1:(do Instr.beginRound l;pure qH:Sem bq).runT P w #[]=(qA qH (hM w l (m9 { r with state:=.busy })),#[⟨p7 l,ge,ge⟩,⟨p7 l,gc,ge⟩]):=by
  show((kt l _).runT P w #[])=_;rw[rE h];show((kS l (m9 { r with state:=.busy }) _).runT P w _)=_;rw[rF h];simp only[a];rfl
 refine⟨seen P fn #[⟨p7 l,ge,ge⟩,⟨p7 l,gc,ge⟩],?_,λe f=>?_⟩
 .simp only[G,stepG,kf];unfold kd;simp only[Option.elim,e1,if_true,c,py,if_false,kg,jQ,ii]
 .rcases wz e (f7 f) with rfl|rfl
  .exact⟨_,rfl⟩
  .exact⟨_,rfl⟩
def zH{c:dL}(h:w.heap[l]?=f8 (m9 r)) :
 ∃es,stepG P mn (G ⟨fn,tmps,[],defers,qt,jt,f8 l⟩ (c::cs)) w=kp (G (jQ c (ol gc)) cs) (hM w l (m9 { r with state:=.ready,pending:=f9 })) es/\∀e∈es,∃wr,e=⟨p7 l,wr,ge⟩:=by
 have e1:(Instr.endRound l f9).runT P w #[]=(qA (ol gc) (hM w l (m9 { r with state:=.ready,pending:=f9 })),#[⟨p7 l,ge,ge⟩,⟨p7 l,gc,ge⟩]):=by
  show((kt l _).runT P w #[])=_;rw[rE h];show((kS l (m9 { r with state:=.ready,pending:=f9 }) _).runT P w _)=_;rw[rF h];rfl
 refine⟨seen P fn #[⟨p7 l,ge,ge⟩,⟨p7 l,gc,ge⟩],?_,λe a=>?_⟩
 .simp only[G,stepG,kf,e1,doReturn,kg,ii]
 .rcases wz e (f7 a) with rfl|rfl
  .exact⟨_,rfl⟩
  .exact⟨_,rfl⟩
def BT(h:w.heap[l]?=f8 (m9 r))(hb:r.state=.ready)(a:r.pending=f9) :
 ∃es,stepG P mn (G ⟨fn,tmps,lS l::k,defers,qt,kind,ro⟩ cs) w=kp (G ⟨fn,tmps,k,defers,qt,kind,ro⟩ cs) (hM w l (m9 { r with state:=.exhausted })) es/\∀e∈es,∃wr,e=⟨p7 l,wr,ge⟩:=by
 have e1:(Instr.endLoop l).runT P w #[]=(qA f9 (hM w l (m9 { r with state:=.exhausted })),#[⟨p7 l,ge,ge⟩,⟨p7 l,gc,ge⟩]):=by
  show((kt l _).runT P w #[])=_;rw[rE h];obtain⟨st,f,a1,a2,a3,a4,i,j⟩:=r;simp only at hb a;subst hb a;show((kS l (m9 _) _).runT P w _)=_;rw[rF h];rfl
 refine⟨seen P fn #[⟨p7 l,ge,ge⟩,⟨p7 l,gc,ge⟩],?_,λe c=>?_⟩
 .simp only[G,stepG,kf,e1,kg,ii];rfl
 .rcases wz e (f7 c) with rfl|rfl
  .exact⟨_,rfl⟩
  .exact⟨_,rfl⟩
def step_take{ds:List d9}(h:w.heap[J]?=f8 (na (f8 []))) :
 ∃es,stepG P mn (G ⟨fn,tmps,k,{ target:=rP J,args:=C }::ds,qu,kind,ro⟩ cs) w=kp (G ⟨fn,tmps,k,ds,qu,kind,ro⟩ cs) (hM w J (na f9)) es/\∀e∈es,∃wr,e=⟨p7 J,wr,ge⟩:=by
 have e1:(Instr.takeDeferred J).runT P w #[]=(qA [] (hM w J (na f9)),#[⟨p7 J,ge,ge⟩,⟨p7 J,gc,ge⟩]):=by
  show((kt J _).runT P w #[])=_;simp only[kw,h,m7];show((kS J (na f9) _).runT P w _)=_;simp only[kw,h,m7,hM];rfl
 refine⟨seen P fn #[⟨p7 J,ge,ge⟩,⟨p7 J,gc,ge⟩],?_,λe c=>?_⟩
 .simp only[G,stepG,unwind,e1,kg,ii];rfl
 .rcases wz e (f7 c) with rfl|rfl
  .exact⟨_,rfl⟩
  .exact⟨_,rfl⟩
end
section
variable {X:Fix}{V:Vw}{Stop:Stp}{M:Own}{d:Nat}{w:aP}{g g':bj}{b:Nat}{o':Obj}
def Am{es:Array bd}{b:Nat}(d:Nat)(h:∀e∈es,∃wr,e=(⟨p7 b,wr,ge⟩:bd)):bi d es=d:=mV d λe a=>by
 grind
def ay.rec(hc:Clear X V M)(hs:g.status=p9)(hl:Live X w)(hb:M b)(i:b<w.heap.size)
 (h:∀a,Rl X V M w a->∃es,stepG X.P (V.g==0) g a=kp g' (hM a b o') es/\∀e∈es,∃wr,e=⟨p7 b,wr,ge⟩) (j:g'.status=p9)
 (m:∀a,Rl X V M w a->ay X V ge Stop M d g' (hM a b o')):ay X V ge Stop M d g w:=
 .own hc hs hl λa r=>by
  obtain⟨es,n,c⟩:=h a r;have f:M.more a (hM a b o')=M:=by
   funext x;unfold Own.more;grind[World.putObj_size]
  refine⟨_,_,es,n,rfl,rfl,qr _,ar,λx q o=>World.putObj_heap_other λe=>o (e▸hb),λe p=>?_,j,?_⟩
  .obtain⟨wr,rfl⟩:=c e p;rw[f];exact DG hb (by simp;exact bT i r.size)
  .rw[f,Am d c];exact m a r
def ay.new(hc:Clear X V M)(hs:g.status=p9)(hl:Live X w){o':aP->Obj}{G':Nat->bj}
 (h:∀a,Rl X V M w a->stepG X.P (V.g==0) g a=kp (G' a.heap.size) (hI a (o' a)) #[]) (c:∀n,(G' n).status=p9)
 (e:∀a,Rl X V M w a->ay X V ge Stop (λb=>M b\/b=a.heap.size) d (G' a.heap.size) (hI a (o' a))):ay X V ge Stop M d g w:=
 .own hc hs hl λa r=>by
  have f:M.more a (hI a (o' a))=λb=>M b\/b=a.heap.size:=by
   funext x;unfold Own.more;grind[hN]
  refine⟨_,_,#[],h a r,rfl,rfl,qr _,by simp[hN],λx i _=>?_,ar,c _,?_⟩
  .show(a.heap.push _)[x]?=_;grind
  .rw[f];exact e a r
end
open Go.ConcM (MuAt muA msA OsLater muBlock)
section
variable {X:Fix}{V:Vw}{Stop:Stp}{M:Own}{d:Nat}{w:aP}{g:bj}{o:ce}{t ty:a8}{x y:ci}{b off:Nat}{v:a9}{cur:Array a9}
def ay.DS(hc:Clear X V M)(hl:Live X w)(f:M b)(h:bF g=f8 o)(l:o.op=q9 t x y)(m:g.frame.eval x=oh (f8 ⟨b,off,f9⟩))(hy:g.frame.eval y=v)
 (hb:w.heap[b]?=f8 (m8 cur ty (0,0))) (hs:(X.P.info? t).map (·.size)=f8 v.cells.size) (i:off+v.cells.size<=cur.size) (n:∀c∈v.cells,c.oneCell'=gc)
 (A:∀a,Rl X V M w a->ay X V ge Stop M d (fin g undef) (hK a b (putRow cur off v.cells))):ay X V ge Stop M d g w:=
 .own hc (aK h).1 hl λa r=>by
  have k:a.heap[b]?=f8 (m8 cur ty (0,0)):=by rw[r.own b f];exact hb
  obtain⟨es,e1,p⟩:=rC (P:=X.P) (mn:=V.g==0) h l m hy k hs i n;have q:b<a.heap.size:=(bR.1 k).1;have s:M.more a (hK a b (putRow cur off v.cells))=M:=by
   funext x;unfold Own.more;grind[setRow_size]
  refine⟨_,_,es,e1,rfl,rfl,qr _,ar,λx _ u=>em _ _ _ _ λe=>u (e▸f),λe z=>?_,(aK h).2.2 _,?_⟩
  .obtain⟨j,_,rfl⟩:=p e z;rw[s];exact DF f (by simpa using q)
  grind[mV]
def Live.ad7{w:aP}(hi:WO X)(hl:Live X w){cur new:Array a9}(hb:w.heap[X.Tb]?=f8 (m8 cur X.tT (0,0)))(hs:new.size=cur.size):Live X (hK w X.Tb new):=by
 obtain⟨⟨a1,a2,a⟩,⟨e,f,b⟩,c,c1,h⟩:=hl;rw[hb]at c1;cases c1;exact⟨⟨a1,a2,by unfold ht at a ⊢;rw[em _ _ _ _ hi.mt];exact a⟩,⟨e,f,by unfold h7 at b ⊢;rw[em _ _ _ _ hi.wt];exact b⟩,new,ed w _ _ _ _ _ hb,hs.t h⟩
def ay.Po(hc:Clear X V M)(l:bF g=f8 o)(s:o.op=q9 t x y)(u:g.frame.eval x=oh (f8 ⟨X.Tb,off,f9⟩))(hy:g.frame.eval y=v)(hl:Live X w)
 (hs:(X.P.info? t).map (·.size)=f8 v.cells.size) (z:off+v.cells.size<=X.size) (A:∀c∈v.cells,c.oneCell'=gc) (m:∀j,j<v.cells.size->V.row (off+j))
 (B:∀a w':aP,Rl X V M w a->Live X w'->w'.heap.size=a.heap.size->(∀b,b≠X.Tb->w'.heap[b]?=a.heap[b]?)->(∀j,j<v.cells.size->hz w' ⟨X.Tb,off+j,f9⟩=v.cells[j]?)->
   (∀j,(j<off\/off+v.cells.size<=j)->hz w' ⟨X.Tb,j,f9⟩=hz a ⟨X.Tb,j,f9⟩)->ay X V ge Stop M d (fin g undef) w'):ay X V ge Stop M d g w:=
 .step (aK l).1 λa r=>by
  have C:=r.live hl;obtain⟨⟨_,_,v1⟩,⟨_,_,K⟩,cur,i,L⟩:=C;have k:off+v.cells.size<=cur.size:=ab;obtain⟨es,e1,D⟩:=rC (P:=X.P) (mn:=V.g==0) l s u hy i hs k A;have E:X.Tb<a.heap.size:=(bR.1 i).1;have n:=ed a X.Tb cur (putRow cur off v.cells) _ _ i;have F:∀j,j<v.cells.size->hz (hK a X.Tb (putRow cur off v.cells)) ⟨X.Tb,off+j,f9⟩=v.cells[j]?:=λj f=>by
   simp only[hz,n];exact Mo k f
  have p:∀j,(j<off\/off+v.cells.size<=j)->hz (hK a X.Tb (putRow cur off v.cells)) ⟨X.Tb,j,f9⟩=hz a ⟨X.Tb,j,f9⟩:=λj f=>by
   simp only[hz,n,i];exact G4 k f
  refine⟨_,_,es,M,d,e1,⟨rfl,rfl,qr _,ar,λb _ _ _ _ H=>em _ _ _ _ H,λc I=>?_,λj f=>?_,ar,λb=>⟨pp,λh=>h.resolve_right λx=>by simp at x;omega⟩,λe J=>?_,ar,?_⟩,⟨em _ _ _ _ hc.ids.mt,em _ _ _ _ hc.ids.wt⟩,(aK l).2.2 _,?_⟩
  .grind[vj]
  .refine p j ?_
   rcases gg j off with h|h
   .exact pp h
   .rcases gg j (off+v.cells.size) with q|q
    .exact absurd (by have:=m (j-off) ab;grind) f
    .exact pu q
  .obtain⟨j,f,rfl⟩:=D e J;exact Pf rfl (m j f) (by simpa using E)
  .grind[mV]
  .exact B a _ r (Live.ad7 hc.ids (r.live hl) i (vj k)) ar (λb hb=>em _ _ _ _ hb) F p
end
end Go.Ph
namespace Go.Proofs
open Go.Ph Go.Conc
open Go.cD (Wd Th qZ)
variable {J:Nat}{q:Array a9}{C:Type}
abbrev PP:=Tryz.prog
def bare:List Nat:=[102,103,104,105,106,107,110,113,114,117,118,120,121,127,128,129,130,131,133,135,138,139,140,141,142,143,144]
def eJ(g:bj):Bool:=match g.frame.mode with
 |qu=>(g.frame.fn==89||g.frame.fn==90)&&g.frame.defers.isEmpty
 |qt=>match g.frame.todo with
  |lM (rR 5 _ _)::_=>g.frame.fn==132
  |lR _ (_::_)::_=>match bF g with
   |some o=>match o.op with
    |q7 .. | q9 ..=>gc
    |qU _ d _=>d==169
    |qN { callee:=rk (rm f),.. }=>bare.contains f
    |_=>ge
   |none=>ge
  |_=>ge
 |_=>ge
abbrev TT(g:bj):bj:=wu PP ge eJ 300 g
def fj(g:bj):Option (a8×a9):=match bF g with
 |some o=>match o.op with
  |q7 t x=>f8 (t,g.frame.eval x)
  |_=>f9
 |none=>f9
def gu(g:bj):Option (a8×a8×a9):=match bF g with
 |some o=>match o.op with
  |qU s d x=>f8 (s,d,g.frame.eval x)
  |_=>f9
 |none=>f9
def gZ(g:bj):Option (bC×Option a9):=(az g).map λx=>(x.1,x.2[0]?)
structure gm(g g':bj):Prop where
 q:ff PP ge eJ 300 g
 d:∀d,xD PP ge eJ 300 d g=d
 e:TT g=g'
structure YQ(g g':bj):Prop where
 q:uo PP ge 1 g
 d:∀d,YL PP ge 1 d g=d
 h:gm (nx PP ge g) g'
section
variable {X:Fix}{V:Vw}{q:Bool}{Stop:Stp}{M:Own}{d:Nat}{g g':bj}{w:aP}
def gm.run(h:gm g g')(a:X.P=PP)(hg:(V.g==0)=ge)(b:ay X V q Stop M d g' w):ay X V q Stop M d g w:=by
 refine .oO (S:=eJ) hg 300 (by rw[a];exact h.q) ?_;have e:wu PP ge eJ 300 g=g':=h.e;rw[a,h.d,e];exact b
def YQ.run(h:YQ g g')(a:X.P=PP)(hg:(V.g==0)=ge)(b:ay X V q Stop M d g' w):ay X V q Stop M d g w:=by
 refine .quiet hg 1 (by rw[a];exact h.q) ?_;rw[a,h.d];exact h.h.run a hg b
end
def zj(n:Nat)(F:Nat->a9):Array a9:=((nb n).map F).toArray
def Jr{F:Nat->a9}(hs:q.size=J)(h:∀i,i<J->F i=q[i]!):q=zj J F:=by
 apply io
 .simp[zj,hs]
 .intro i b c;simp only[zj,ni,nk,qg];grind
abbrev pt(m:Nat):a9:=oh (f8 ⟨m,0,f9⟩)
def F7(m:Nat)(f:Nat->a9)(st:a9)(sv aw:Bool)(it old:a9):Nat->a9
 |0=>oh (f8 ⟨m,0,f9⟩)
 |2=>st
 |3=>ol sv
 |4=>ol aw
 |5=>it
 |6=>old
 |i=>f i
def A7(m:Nat)(f:Nat->a9)(st:a9)(sv aw:Bool)(it old:a9):Array a9:=zj 139 (F7 m f st sv aw it old)
def S7(a:Array a9)(td:List dU)(up:List dL):bj:=G { fn:=132,tmps:=a,todo:=td,defers:=[],mode:=qt,kind:=jt,roundOf:=f9 } up
section
variable {g:bj}{m:Nat}{st it old:a9}{sv aw:Bool}{td:List dU}{up:List dL}
def WS(hs:q.size=139)(b:q[0]! = oh (f8 ⟨m,0,f9⟩))(c:q[2]! = st)(e:q[3]! = ol sv)(f:q[4]! = ol aw)(h:q[5]! = it)(j:q[6]! = old):q=A7 m (λi=>q[i]!) st sv aw it old:=
 Jr hs λi _=>by
  unfold F7;grind
def gK{b:bj->C}{v:C}(f:ff PP ge eJ 300 g:=by exact⟨λ_=>ae,ae⟩)(hd:∀d,xD PP ge eJ 300 d g=d:=by intro _;kernel_rfl)(h:TT g=S7 (TT g).frame.tmps td up:=by kernel_rfl)(hs:(TT g).frame.tmps.size=139:=by kernel_rfl)
 (j:(TT g).frame.tmps[0]! = oh (f8 ⟨m,0,f9⟩):=by kernel_rfl) (k:(TT g).frame.tmps[2]! = st:=by kernel_rfl) (l:(TT g).frame.tmps[3]! = ol sv:=by kernel_rfl) (n:(TT g).frame.tmps[4]! = ol aw:=by kernel_rfl) (o:(TT g).frame.tmps[5]! = it:=by kernel_rfl) (p:(TT g).frame.tmps[6]! = old:=by kernel_rfl)
 (r:b (TT g)=v:=by kernel_rfl):∃f',gm g (S7 (A7 m f' st sv aw it old) td up)/\b (S7 (A7 m f' st sv aw it old) td up)=v:=by
 have e:=WS hs j k l n o p;have c:TT g=S7 (A7 m (λi=>(TT g).frame.tmps[i]!) st sv aw it old) td up:=by rw[<-e];exact h
 exact⟨_,⟨f,hd,c⟩,by rw[<-c];exact r⟩
end
def px(j:Nat)(v:a9)(f:Nat->a9):Nat->a9:=λi=>if i=j then v else f i
def Pp{g:bj}{st it old:a9}{sv aw:Bool}{td:List dU}{up:List dL}{b:bj->C}{v:C}{j:Nat}{x:a9}(f:ff PP ge eJ 300 g:=by exact⟨λ_=>ae,ae⟩)(hd:∀d,xD PP ge eJ 300 d g=d:=by intro _;kernel_rfl)(h:TT g=S7 (TT g).frame.tmps td up:=by kernel_rfl)(hs:(TT g).frame.tmps.size=139:=by kernel_rfl)
 (k:(TT g).frame.tmps[0]! = oh (f8 ⟨J,0,f9⟩):=by kernel_rfl) (l:(TT g).frame.tmps[2]! = st:=by kernel_rfl) (n:(TT g).frame.tmps[3]! = ol sv:=by kernel_rfl) (o:(TT g).frame.tmps[4]! = ol aw:=by kernel_rfl) (p:(TT g).frame.tmps[5]! = it:=by kernel_rfl) (r:(TT g).frame.tmps[6]! = old:=by kernel_rfl)
 (s:b (TT g)=v:=by kernel_rfl) (u:(TT g).frame.tmps[j]! = x:=by kernel_rfl):∃f',gm g (S7 (A7 J (px j x f') st sv aw it old) td up)/\b (S7 (A7 J (px j x f') st sv aw it old) td up)=v:=by
 have e:=WS hs k l n o p r;have t:(λi=>(TT g).frame.tmps[i]!)=px j x (λi=>(TT g).frame.tmps[i]!):=by
  funext i;unfold px;grind
 rw[t]at e;have c:TT g=S7 (A7 J (px j x (λi=>(TT g).frame.tmps[i]!)) st sv aw it old) td up:=by rw[<-e];exact h
 exact⟨_,⟨f,hd,c⟩,by rw[<-c];exact s⟩
def z0:bj:=TT (G (ka PP 89 #[pt 0] jt) [default])
def z1:bj:=TT (fin z0 (ob #[]))
def zr0:bj:=TT (fin z1 (ol ge))
def CE:bj:=TT (fin zr0 (n8 nV 9))
def Ud:bj:=TT (nx PP ge CE)
def zc1:bj:=TT (fin Ud (ol gc))
def FC:bj:=TT (fin zc1 (ol ge))
def zr1:bj:=TT (fin FC (ob #[]))
def xI:bj:=TT (fin Ud (ol ge))
def zr3:bj:=TT (fin xI (ol ge))
def Te:bj:=TT (fin xI (ol gc))
def FD:bj:=TT (fin Te (n8 nt 5))
def zn2:bj:=TT (fin FD (ob #[]))
def WT:bj:=TT (fin zn2 (n8 nt 5))
def za1:bj:=TT (fin WT (n8 nV 12))
def WU:bj:=TT (fin za1 (n8 nV 5))
def zcv:bj:=TT (fin WU (ob #[]))
def zaq:bj:=TT (fin zcv (pt 0))
variable (m:Nat)(f:Nat->a9)(up:List dL)
def ail(st it old v:a9)(a b:Bool):∃f',gm (fin (S7 (A7 m f st a b it old) zr0.frame.todo up) v) (S7 (A7 m f' st a b it v) CE.frame.todo up)/\nl (S7 (A7 m f' st a b it v) CE.frame.todo up)=p9:=
 gK
def aim(st it old v:a9)(a b:Bool):∃f',gm (fin (S7 (A7 m f st a b it old) zr1.frame.todo up) v) (S7 (A7 m f' st a b it v) CE.frame.todo up)/\nl (S7 (A7 m f' st a b it v) CE.frame.todo up)=p9:=
 gK
def ain(st it old v:a9)(a b:Bool):∃f',gm (fin (S7 (A7 m f st a b it old) zr3.frame.todo up) v) (S7 (A7 m f' st a b it v) CE.frame.todo up)/\nl (S7 (A7 m f' st a b it v) CE.frame.todo up)=p9:=
 gK
def ada(st it old:a9)(a b:Bool):uo PP ge 1 (S7 (A7 m f st a b it old) CE.frame.todo up)/\∀d,YL PP ge 1 d (S7 (A7 m f st a b it old) CE.frame.todo up)=d:=⟨⟨λw=>ae,ae⟩,λd=>ae⟩
abbrev wv(x:Wd):a9:=n8 nV ((x.num:Nat):Int)
def YS(st it:a9)(a b w:Bool)(k:Nat)(c:k<=3):∃f',gm (nx PP ge (S7 (A7 m f st a b it (wv ⟨gc,w,ge,k⟩)) CE.frame.todo up)) (S7 (A7 m (px 17 (ol gc) f') st a b it (wv ⟨gc,w,ge,k⟩)) Ud.frame.todo up)/\az (S7 (A7 m (px 17 (ol gc) f') st a b it (wv ⟨gc,w,ge,k⟩)) Ud.frame.todo up)=f8 (138,#[it]):=by
 cases w<;>((obtain rfl|rfl|rfl|rfl:k=0\/k=1\/k=2\/k=3:=ab))<;>exact Pp
def Ue(st it:a9)(b a w:Bool)(k:Nat)(d:k<=3)(c:a=gc->w=gc):∃f',gm (nx PP ge (S7 (A7 m f st b a it (wv ⟨ge,w,ge,k⟩)) CE.frame.todo up)) (S7 (A7 m f' st b a it (wv ⟨ge,w,ge,k⟩)) xI.frame.todo up)/\az (S7 (A7 m f' st b a it (wv ⟨ge,w,ge,k⟩)) xI.frame.todo up)=f8 (131,#[pt m,wv ⟨ge,w,ge,k⟩,wv (qZ { pc:=.c2,old:=⟨ge,w,ge,k⟩,aw:=a,sv:=b,r:=0 })]):=by
 cases b<;>cases a<;>cases w<;>(first|exact absurd (c rfl) ao|skip)<;>((obtain rfl|rfl|rfl|rfl:k=0\/k=1\/k=2\/k=3:=ab))<;>exact gK
def Uf(st it:a9)(b a w:Bool)(k:Nat)(d:k<=3)(c:a=gc->w=gc):∃f',gm (nx PP ge (S7 (A7 m f st b a it (wv ⟨ge,w,gc,k⟩)) CE.frame.todo up)) (S7 (A7 m f' st b a it (wv ⟨ge,w,gc,k⟩)) xI.frame.todo up)/\az (S7 (A7 m f' st b a it (wv ⟨ge,w,gc,k⟩)) xI.frame.todo up)=f8 (131,#[pt m,wv ⟨ge,w,gc,k⟩,wv (qZ { pc:=.c2,old:=⟨ge,w,gc,k⟩,aw:=a,sv:=b,r:=0 })]):=by
 cases b<;>cases a<;>cases w<;>(first|exact absurd (c rfl) ao|skip)<;>((obtain rfl|rfl|rfl|rfl:k=0\/k=1\/k=2\/k=3:=ab))<;>exact gK
def Ug(st it:a9)(b a w:Bool)(k:Nat)(d:k<=3)(c:a=gc->w=gc):∃f',gm (nx PP ge (S7 (A7 m f st b a it (wv ⟨gc,w,gc,k⟩)) CE.frame.todo up)) (S7 (A7 m f' st b a it (wv ⟨gc,w,gc,k⟩)) xI.frame.todo up)/\az (S7 (A7 m f' st b a it (wv ⟨gc,w,gc,k⟩)) xI.frame.todo up)=f8 (131,#[pt m,wv ⟨gc,w,gc,k⟩,wv (qZ { pc:=.c2,old:=⟨gc,w,gc,k⟩,aw:=a,sv:=b,r:=0 })]):=by
 cases b<;>cases a<;>cases w<;>(first|exact absurd (c rfl) ao|skip)<;>((obtain rfl|rfl|rfl|rfl:k=0\/k=1\/k=2\/k=3:=ab))<;>exact gK
def Uh(st it:a9)(b a w:Bool)(k:Nat)(d:k<=3)(c:a=gc->w=gc):∃f',gm (fin (S7 (A7 m (px 17 (ol gc) f) st b a it (wv ⟨gc,w,ge,k⟩)) Ud.frame.todo up) (ol ge)) (S7 (A7 m f' st b a it (wv ⟨gc,w,ge,k⟩)) xI.frame.todo up)/\az (S7 (A7 m f' st b a it (wv ⟨gc,w,ge,k⟩)) xI.frame.todo up)=f8 (131,#[pt m,wv ⟨gc,w,ge,k⟩,wv (qZ { pc:=.c2,old:=⟨gc,w,ge,k⟩,aw:=a,sv:=b,r:=0 })]):=by
 cases b<;>cases a<;>cases w<;>(first|exact absurd (c rfl) ao|skip)<;>((obtain rfl|rfl|rfl|rfl:k=0\/k=1\/k=2\/k=3:=ab))<;>exact gK
def aio(st it:a9)(a:Bool)(k:Nat)(b:k<=3)(c:k≠0):∃f',gm (fin (S7 (A7 m (px 17 (ol gc) f) st a ge it (wv ⟨gc,ge,ge,k⟩)) Ud.frame.todo up) (ol gc)) (S7 (A7 m (px 33 (ol gc) f') st a ge it (wv ⟨gc,ge,ge,k⟩)) zc1.frame.todo up)/\az (S7 (A7 m (px 33 (ol gc) f') st a ge it (wv ⟨gc,ge,ge,k⟩)) zc1.frame.todo up)=f8 (131,#[pt m,wv ⟨gc,ge,ge,k⟩,wv ⟨gc,gc,ge,k⟩]):=by
 (obtain rfl|rfl|rfl:k=1\/k=2\/k=3:=ab)<;>exact Pp
def YT(st it:a9)(a w:Bool)(k:Nat)(b:k<=3):∃f',gm (fin (S7 (A7 m (px 17 (ol gc) f) st a gc it (wv ⟨gc,w,ge,k⟩)) Ud.frame.todo up) (ol gc)) (S7 (A7 m f' st a gc it (wv ⟨gc,w,ge,k⟩)) FC.frame.todo up)/\az (S7 (A7 m f' st a gc it (wv ⟨gc,w,ge,k⟩)) FC.frame.todo up)=f8 (139,#[]):=by
 cases w<;>((obtain rfl|rfl|rfl|rfl:k=0\/k=1\/k=2\/k=3:=ab))<;>exact gK
def YU(st it:a9)(a:Bool)(k:Nat)(b:k<=3):∃f',gm (fin (S7 (A7 m (px 17 (ol gc) f) st a ge it (wv ⟨gc,gc,ge,k⟩)) Ud.frame.todo up) (ol gc)) (S7 (A7 m f' st a ge it (wv ⟨gc,gc,ge,k⟩)) FC.frame.todo up)/\az (S7 (A7 m f' st a ge it (wv ⟨gc,gc,ge,k⟩)) FC.frame.todo up)=f8 (139,#[]):=by
 ((obtain rfl|rfl|rfl|rfl:k=0\/k=1\/k=2\/k=3:=ab))<;>exact gK
def YV(st it:a9)(a:Bool):∃f',gm (fin (S7 (A7 m (px 17 (ol gc) f) st a ge it (wv ⟨gc,ge,ge,0⟩)) Ud.frame.todo up) (ol gc)) (S7 (A7 m f' st a ge it (wv ⟨gc,ge,ge,0⟩)) FC.frame.todo up)/\az (S7 (A7 m f' st a ge it (wv ⟨gc,ge,ge,0⟩)) FC.frame.todo up)=f8 (139,#[]):=
 gK
def adb(st it old:a9)(a b:Bool):∃f',gm (fin (S7 (A7 m (px 33 (ol gc) f) st a b it old) zc1.frame.todo up) (ol gc)) (S7 (A7 m f' st a gc it old) FC.frame.todo up)/\az (S7 (A7 m f' st a gc it old) FC.frame.todo up)=f8 (139,#[]):=
 gK
def ade(st it old:a9)(a b:Bool):∃f',gm (fin (S7 (A7 m (px 33 (ol gc) f) st a b it old) zc1.frame.todo up) (ol ge)) (S7 (A7 m f' st a b it old) FC.frame.todo up)/\az (S7 (A7 m f' st a b it old) FC.frame.todo up)=f8 (139,#[]):=
 gK
def adf(st old:a9)(it:Int)(a b:Bool):∃f',gm (fin (S7 (A7 m f st a b (n8 nt it) old) FC.frame.todo up) (ob #[])) (S7 (A7 m f' st a b (n8 nt (nq nt (it+1))) old) zr1.frame.todo up)/\fj (S7 (A7 m f' st a b (n8 nt (nq nt (it+1))) old) zr1.frame.todo up)=f8 (21,pt m):=
 gK
def adg(st it old:a9)(a b:Bool):∃f',gm (fin (S7 (A7 m f st a b it old) xI.frame.todo up) (ol ge)) (S7 (A7 m f' st a b it old) zr3.frame.todo up)/\fj (S7 (A7 m f' st a b it old) zr3.frame.todo up)=f8 (21,pt m):=
 gK
def G6(st it:a9)(a b w:Bool)(k:Nat)(c:k<=3):∃f',gm (fin (S7 (A7 m f st a b it (wv ⟨ge,w,ge,k⟩)) xI.frame.todo up) (ol gc)) (S7 (A7 m f' st a b it (wv ⟨ge,w,ge,k⟩)) WU.frame.todo up)/\az (S7 (A7 m f' st a b it (wv ⟨ge,w,ge,k⟩)) WU.frame.todo up)=f8 (104,#[]):=by
 cases w<;>((obtain rfl|rfl|rfl|rfl:k=0\/k=1\/k=2\/k=3:=ab))<;>exact gK
def Mp(it:a9)(a b w:Bool)(k:Nat)(c:k<=3):∃f',gm (fin (S7 (A7 m f (n8 nt 0) a b it (wv ⟨ge,w,gc,k⟩)) xI.frame.todo up) (ol gc)) (S7 (A7 m f' (n8 nt 0) a b it (wv ⟨ge,w,gc,k⟩)) Te.frame.todo up)/\az (S7 (A7 m f' (n8 nt 0) a b it (wv ⟨ge,w,gc,k⟩)) Te.frame.todo up)=f8 (141,#[]):=by
 cases w<;>((obtain rfl|rfl|rfl|rfl:k=0\/k=1\/k=2\/k=3:=ab))<;>exact gK
def Mq(t:Nat)(it:a9)(a b w:Bool)(k:Nat)(c:k<=3):∃f',gm (fin (S7 (A7 m f (n8 nt ((t+1:Nat):Int)) a b it (wv ⟨ge,w,gc,k⟩)) xI.frame.todo up) (ol gc)) (S7 (A7 m f' (n8 nt ((t+1:Nat):Int)) a b it (wv ⟨ge,w,gc,k⟩)) FD.frame.todo up)/\gZ (S7 (A7 m f' (n8 nt ((t+1:Nat):Int)) a b it (wv ⟨ge,w,gc,k⟩)) FD.frame.todo up)=f8 (142,f8 (oh (f8 ⟨m,1,f9⟩))):=by
 cases w<;>((obtain rfl|rfl|rfl|rfl:k=0\/k=1\/k=2\/k=3:=ab))<;>exact gK
def Mr(it:a9)(a b w:Bool)(k:Nat)(c:k<=3):∃f',gm (fin (S7 (A7 m f (n8 nt 0) a b it (wv ⟨gc,w,gc,k⟩)) xI.frame.todo up) (ol gc)) (S7 (A7 m f' (n8 nt 0) a b it (wv ⟨gc,w,gc,k⟩)) Te.frame.todo up)/\az (S7 (A7 m f' (n8 nt 0) a b it (wv ⟨gc,w,gc,k⟩)) Te.frame.todo up)=f8 (141,#[]):=by
 cases w<;>((obtain rfl|rfl|rfl|rfl:k=0\/k=1\/k=2\/k=3:=ab))<;>exact gK
def Ms(t:Nat)(it:a9)(a b w:Bool)(k:Nat)(c:k<=3):∃f',gm (fin (S7 (A7 m f (n8 nt ((t+1:Nat):Int)) a b it (wv ⟨gc,w,gc,k⟩)) xI.frame.todo up) (ol gc)) (S7 (A7 m f' (n8 nt ((t+1:Nat):Int)) a b it (wv ⟨gc,w,gc,k⟩)) FD.frame.todo up)/\gZ (S7 (A7 m f' (n8 nt ((t+1:Nat):Int)) a b it (wv ⟨gc,w,gc,k⟩)) FD.frame.todo up)=f8 (142,f8 (oh (f8 ⟨m,1,f9⟩))):=by
 cases w<;>((obtain rfl|rfl|rfl|rfl:k=0\/k=1\/k=2\/k=3:=ab))<;>exact gK
def Mt(it:a9)(a b w:Bool)(k:Nat)(c:k<=3):∃f',gm (fin (S7 (A7 m f (n8 nt 0) a b it (wv ⟨gc,w,ge,k⟩)) xI.frame.todo up) (ol gc)) (S7 (A7 m f' (n8 nt 0) a b it (wv ⟨gc,w,ge,k⟩)) Te.frame.todo up)/\az (S7 (A7 m f' (n8 nt 0) a b it (wv ⟨gc,w,ge,k⟩)) Te.frame.todo up)=f8 (141,#[]):=by
 cases w<;>((obtain rfl|rfl|rfl|rfl:k=0\/k=1\/k=2\/k=3:=ab))<;>exact gK
def Mw(t:Nat)(it:a9)(a b w:Bool)(k:Nat)(c:k<=3):∃f',gm (fin (S7 (A7 m f (n8 nt ((t+1:Nat):Int)) a b it (wv ⟨gc,w,ge,k⟩)) xI.frame.todo up) (ol gc)) (S7 (A7 m f' (n8 nt ((t+1:Nat):Int)) a b it (wv ⟨gc,w,ge,k⟩)) FD.frame.todo up)/\gZ (S7 (A7 m f' (n8 nt ((t+1:Nat):Int)) a b it (wv ⟨gc,w,ge,k⟩)) FD.frame.todo up)=f8 (142,f8 (oh (f8 ⟨m,1,f9⟩))):=by
 cases w<;>((obtain rfl|rfl|rfl|rfl:k=0\/k=1\/k=2\/k=3:=ab))<;>exact gK
def aip(st it old v:a9)(a b:Bool):∃f',gm (fin (S7 (A7 m f st a b it old) Te.frame.todo up) v) (S7 (A7 m f' v a b it old) FD.frame.todo up)/\gZ (S7 (A7 m f' v a b it old) FD.frame.todo up)=f8 (142,f8 (oh (f8 ⟨m,1,f9⟩))):=
 gK
def adh(st it old:a9)(a:Bool):∃f',gm (fin (S7 (A7 m f st gc a it old) FD.frame.todo up) (ob #[])) (S7 (A7 m f' st gc a it old) WT.frame.todo up)/\fj (S7 (A7 m f' st gc a it old) WT.frame.todo up)=f8 (21,pt m):=
 gK
def adi(st it old:a9)(a:Bool):∃f',gm (fin (S7 (A7 m f st ge a it old) FD.frame.todo up) (ob #[])) (S7 (A7 m (px 95 (ol ge) f') st ge a it old) zn2.frame.todo up)/\az (S7 (A7 m (px 95 (ol ge) f') st ge a it old) zn2.frame.todo up)=f8 (141,#[]):=
 Pp
def aiq(it old:a9)(st v:Int)(a:Bool):∃f',gm (fin (S7 (A7 m (px 95 (ol ge) f) (n8 nt st) ge a it old) zn2.frame.todo up) (n8 nt v)) (S7 (A7 m f' (n8 nt st) (decide (nq nt (v-st) > 1000000)) a it old) WT.frame.todo up)/\fj (S7 (A7 m f' (n8 nt st) (decide (nq nt (v-st) > 1000000)) a it old) WT.frame.todo up)=f8 (21,pt m):=
 gK
def adj(st it old:a9)(a b l w:Bool)(k:Nat)(c:k<=3):∃f',gm (fin (S7 (A7 m f st a b it old) WT.frame.todo up) (wv ⟨l,w,ge,k⟩)) (S7 (A7 m f' st a gc (n8 nt 0) (wv ⟨l,w,ge,k⟩)) CE.frame.todo up)/\nl (S7 (A7 m f' st a gc (n8 nt 0) (wv ⟨l,w,ge,k⟩)) CE.frame.todo up)=p9:=by
 cases l<;>cases w<;>((obtain rfl|rfl|rfl|rfl:k=0\/k=1\/k=2\/k=3:=ab))<;>exact gK
def adk(st it old:a9)(a b:Bool)(k:Nat)(c:k<=3)(d:k≠0):∃f',gm (fin (S7 (A7 m f st a b it old) WT.frame.todo up) (wv ⟨ge,ge,gc,k⟩)) (S7 (A7 m f' st a b it (wv ⟨ge,ge,gc,k⟩)) za1.frame.todo up)/\az (S7 (A7 m f' st a b it (wv ⟨ge,ge,gc,k⟩)) za1.frame.todo up)=f8 (133,#[pt m,n8 nV (if(!a||k==1) then -11 else -7)]):=by
 cases a<;>(obtain rfl|rfl|rfl:k=1\/k=2\/k=3:=ab)<;>exact gK
def air(st it old v:a9)(a b:Bool):∃f',gm (fin (S7 (A7 m f st a b it old) za1.frame.todo up) v) (S7 (A7 m f' st a b it old) WU.frame.todo up)/\az (S7 (A7 m f' st a b it old) WU.frame.todo up)=f8 (104,#[]):=
 gK
def ais(st it old:a9)(a b:Bool):∃f',gm (fin (S7 (A7 m f st a b it old) WU.frame.todo up) (ob #[])) (S7 (A7 m f' st a b it old) zcv.frame.todo up)/\gu (S7 (A7 m f' st a b it old) zcv.frame.todo up)=f8 (191,169,pt m):=
 gK
def ait(st it old:a9)(a b:Bool):∃f',gm (fin (S7 (A7 m f st a b it old) zcv.frame.todo up) (pt m)) (S7 (A7 m f' st a b it old) zaq.frame.todo up)/\az (S7 (A7 m f' st a b it old) zaq.frame.todo up)=f8 (117,#[pt m]):=
 gK
structure Out(g:bj)(c0:dL)(cs:List dL):Prop where
 q:ff PP ge eJ 300 g
 d:∀d,xD PP ge eJ 300 d g=d
 q1:uo PP ge 1 (TT g)
 d1:∀d,YL PP ge 1 d (TT g)=d
 e:adv PP ge 1 (TT g)=G (jQ c0 (ob #[])) cs
def Out.run{X:Fix}{V:Vw}{q:Bool}{Stop:Stp}{M:Own}{d:Nat}{g:bj}{w:aP}{c0:dL}{cs:List dL}(h:Out g c0 cs)(a:X.P=PP)(hg:(V.g==0)=ge)(b:ay X V q Stop M d (G (jQ c0 (ob #[])) cs) w):ay X V q Stop M d g w:=by
 refine .oO (S:=eJ) hg 300 (by rw[a];exact h.q) ?_;refine .quiet hg 1 (by rw[a];exact h.q1) ?_;rw[a,h.d,h.d1];have e:=h.e;grind
def lB{g g':bj}(e:g'=TT g)(a:ff PP ge eJ 300 g:=by exact⟨λ_=>ae,ae⟩)(hd:∀d,xD PP ge eJ 300 d g=d:=by intro _;kernel_rfl):gm g g':=⟨a,hd,e.y⟩
section
variable (m:Nat)(c0:dL)(cs:List dL)
def yE:bj:=G (ka PP 89 #[pt m] jt) (c0::cs)
def y0:bj:=TT (yE m c0 cs)
def y1:bj:=TT (fin (y0 m c0 cs) (ob #[]))
def y2:bj:=TT (fin (y1 m c0 cs) (ol gc))
def y3:bj:=TT (fin (y2 m c0 cs) (ob #[]))
def y4:bj:=TT (fin (y3 m c0 cs) (pt m))
def iw:List dL:=(TT (fin (y1 m c0 cs) (ol ge))).callers
def l_E:gm (yE m c0 cs) (y0 m c0 cs):=lB (by delta y0;rfl)
def aiu:az (y0 m c0 cs)=f8 (103,#[]):=ae
def l_0:gm (fin (y0 m c0 cs) (ob #[])) (y1 m c0 cs):=lB (by delta y1;rfl)
def l_1:gm (fin (y1 m c0 cs) (ol gc)) (y2 m c0 cs):=lB (by delta y2;rfl)
def aiv:az (y2 m c0 cs)=f8 (104,#[]):=ae
def l_2:gm (fin (y2 m c0 cs) (ob #[])) (y3 m c0 cs):=lB (by delta y3;rfl)
def aiw:gu (y3 m c0 cs)=f8 (191,169,pt m):=ae
def l_3:gm (fin (y3 m c0 cs) (pt m)) (y4 m c0 cs):=lB (by delta y4;rfl)
def aix:az (y4 m c0 cs)=f8 (117,#[pt m]):=ae
def l_4:Out (fin (y4 m c0 cs) (ob #[])) c0 cs:=⟨⟨λw=>ae,ae⟩,λd=>ae,⟨λw=>ae,ae⟩,λd=>ae,ae⟩
def l_s:∃f',gm (fin (y1 m c0 cs) (ol ge)) (S7 (A7 m f' (n8 nt 0) ge ge (n8 nt 0) undef) zr0.frame.todo (iw m c0 cs))/\fj (S7 (A7 m f' (n8 nt 0) ge ge (n8 nt 0) undef) zr0.frame.todo (iw m c0 cs))=f8 (21,pt m):=
 gK
def l_e(f:Nat->a9)(st it old:a9)(a b:Bool):Out (fin (S7 (A7 m f st a b it old) zaq.frame.todo (iw m c0 cs)) (ob #[])) c0 cs:=
 ⟨⟨λw=>ae,ae⟩,λd=>ae,⟨λw=>ae,ae⟩,λd=>ae,ae⟩
end
def F4(m:Nat)(f:Nat->a9):Nat->a9
 |0=>oh (f8 ⟨m,0,f9⟩)
 |i=>f i
def A4(m:Nat)(f:Nat->a9):Array a9:=zj 21 (F4 m f)
def mY(a:Array a9)(td:List dU):dL:={ fn:=116,tmps:=a,todo:=td,defers:=[],mode:=qt,kind:=jt,roundOf:=f9 }
def F9(m:Nat)(f:Nat->a9)(old:a9):Nat->a9
 |0=>oh (f8 ⟨m,0,f9⟩)
 |4=>old
 |i=>f i
def A9(m:Nat)(f:Nat->a9)(old:a9):Array a9:=zj 43 (F9 m f old)
def vk(a:Array a9)(td:List dU):dL:={ fn:=134,tmps:=a,todo:=td,defers:=[],mode:=qt,kind:=jt,roundOf:=f9 }
section
variable {g:bj}{m:Nat}{old:a9}{td td4:List dU}{up:List dL}
def WV{a:Array a9}(hs:a.size=21)(b:a[0]! = oh (f8 ⟨m,0,f9⟩)):a=A4 m (λi=>a[i]!):=
 Jr hs λi _=>by
  unfold F4;grind
def adl{a:Array a9}(hs:a.size=43)(b:a[0]! = oh (f8 ⟨m,0,f9⟩))(c:a[4]! = old):a=A9 m (λi=>a[i]!) old:=
 Jr hs λi _=>by
  unfold F9;grind
def Ui{a:Type}{b:bj->a}{v:a}(h:ff PP ge eJ 300 g:=by exact⟨λ_=>ae,ae⟩)(hd:∀d,xD PP ge eJ 300 d g=d:=by intro _;kernel_rfl)(j:TT g=G (mY (TT g).frame.tmps td) up:=by kernel_rfl)(hs:(TT g).frame.tmps.size=21:=by kernel_rfl)
 (k:(TT g).frame.tmps[0]! = oh (f8 ⟨m,0,f9⟩):=by kernel_rfl) (l:b (TT g)=v:=by kernel_rfl):∃f',gm g (G (mY (A4 m f') td) up)/\b (G (mY (A4 m f') td) up)=v:=by
 have e:=WV hs k;have c:TT g=G (mY (A4 m (λi=>(TT g).frame.tmps[i]!)) td) up:=by rw[<-e];exact j
 exact⟨_,⟨h,hd,c⟩,by rw[<-c];exact l⟩
def Pq{c:Type}{h:bj->c}{v:c}(k:ff PP ge eJ 300 g:=by exact⟨λ_=>ae,ae⟩)(hd:∀d,xD PP ge eJ 300 d g=d:=by intro _;kernel_rfl)(l:TT g=G (vk (TT g).frame.tmps td) (mY (TT g).callers.head!.tmps td4::up):=by kernel_rfl)(hs:(TT g).frame.tmps.size=43:=by kernel_rfl)
 (n:(TT g).frame.tmps[0]! = oh (f8 ⟨m,0,f9⟩):=by kernel_rfl) (o:(TT g).frame.tmps[4]! = old:=by kernel_rfl) (a:(TT g).callers.head!.tmps.size=21:=by kernel_rfl) (b:(TT g).callers.head!.tmps[0]! = oh (f8 ⟨m,0,f9⟩):=by kernel_rfl) (p:h (TT g)=v:=by kernel_rfl) :
 ∃f' f4,gm g (G (vk (A9 m f' old) td) (mY (A4 m f4) td4::up))/\h (G (vk (A9 m f' old) td) (mY (A4 m f4) td4::up))=v:=by
 have e:=adl hs n o;have q:=WV a b;have j:TT g=G (vk (A9 m (λi=>(TT g).frame.tmps[i]!) old) td) (mY (A4 m (λi=>(TT g).callers.head!.tmps[i]!)) td4::up):=by rw[<-e,<-q];exact l
 exact⟨_,_,⟨k,hd,j⟩,by rw[<-j];exact p⟩
end
section
variable (m:Nat)(c0:dL)(cs:List dL)
def xE:bj:=G (ka PP 90 #[pt m] jt) (c0::cs)
def x0:bj:=TT (xE m c0 cs)
def x1(v:Int):bj:=TT (fin (x0 m c0 cs) (n8 nV v))
def x2(v:Int):bj:=TT (fin (x1 m c0 cs v) (pt m))
def x3(v:Int):bj:=TT (fin (x2 m c0 cs v) (ob #[]))
def x4(v:Int):bj:=TT (fin (x3 m c0 cs v) (ob #[]))
def tN:List dL:=(x0 m c0 cs).callers
def u_E:gm (xE m c0 cs) (x0 m c0 cs):=lB (by delta x0;rfl)
def aiy:fj (x0 m c0 cs)=f8 (21,pt m):=ae
def u_0(v:Int):gm (fin (x0 m c0 cs) (n8 nV v)) (x1 m c0 cs v):=lB (by delta x1;rfl)
def aiz(v:Int):gu (x1 m c0 cs v)=f8 (191,169,pt m):=ae
def u_1(v:Int):gm (fin (x1 m c0 cs v) (pt m)) (x2 m c0 cs v):=lB (by delta x2;rfl)
def aiA(v:Int):az (x2 m c0 cs v)=f8 (102,#[pt m]):=ae
def u_2(v:Int):gm (fin (x2 m c0 cs v) (ob #[])) (x3 m c0 cs v):=lB (by delta x3;rfl)
def aiB(v:Int):az (x3 m c0 cs v)=f8 (103,#[]):=ae
def u_3(v:Int):gm (fin (x3 m c0 cs v) (ob #[])) (x4 m c0 cs v):=lB (by delta x4;rfl)
def aiC(v:Int):az (x4 m c0 cs v)=f8 (133,#[pt m,n8 nV (-1)]):=ae
end
def wx4:bj:=x4 0 default [] 0
def Pt:bj:=TT (fin wx4 (n8 nV 0))
def Tf:bj:=TT (fin wx4 (n8 nV 8))
def wus:bj:=TT (fin Tf (ol gc))
def wux:bj:=TT (fin Tf (ol ge))
def wuh:bj:=TT (fin wx4 (n8 nV 4))
def w4:List dU:=Tf.callers.head!.todo
section
variable (m:Nat)(c0:dL)(cs:List dL)(f f4:Nat->a9)
def YW(v:Int)(w:Bool)(k:Nat)(a:k<=3)(h:k=0\/w=gc):∃f',gm (fin (x4 m c0 cs v) (wv ⟨ge,w,ge,k⟩)) (G (mY (A4 m f') Pt.frame.todo) (tN m c0 cs))/\az (G (mY (A4 m f') Pt.frame.todo) (tN m c0 cs))=f8 (104,#[]):=by
 cases w<;>(obtain rfl|rfl|rfl|rfl:k=0\/k=1\/k=2\/k=3:=ab)<;>(first|exact absurd h ao|skip)<;>exact Ui
def YX(v:Int)(w:Bool)(k:Nat)(b:k<=3):∃f' a,gm (fin (x4 m c0 cs v) (wv ⟨ge,w,gc,k⟩)) (G (vk (A9 m f' undef) wuh.frame.todo) (mY (A4 m a) w4::tN m c0 cs))/\gZ (G (vk (A9 m f' undef) wuh.frame.todo) (mY (A4 m a) w4::tN m c0 cs))=f8 (144,f8 (oh (f8 ⟨m,1,f9⟩))):=by
 cases w<;>(obtain rfl|rfl|rfl|rfl:k=0\/k=1\/k=2\/k=3:=ab)<;>exact Pq
def YY(v:Int)(k:Nat)(b:k<=3)(c:k≠0):∃f' a,gm (fin (x4 m c0 cs v) (wv ⟨ge,ge,ge,k⟩)) (G (vk (A9 m f' (wv ⟨ge,ge,ge,k⟩)) Tf.frame.todo) (mY (A4 m a) w4::tN m c0 cs))/\az (G (vk (A9 m f' (wv ⟨ge,ge,ge,k⟩)) Tf.frame.todo) (mY (A4 m a) w4::tN m c0 cs))=f8 (131,#[pt m,wv ⟨ge,ge,ge,k⟩,wv ⟨ge,gc,ge,k-1⟩]):=by
 (obtain rfl|rfl|rfl:k=1\/k=2\/k=3:=ab)<;>exact Pq
def adp(old:a9):∃f' a,gm (fin (G (vk (A9 m f old) Tf.frame.todo) (mY (A4 m f4) w4::tN m c0 cs)) (ol gc)) (G (vk (A9 m f' old) wus.frame.todo) (mY (A4 m a) w4::tN m c0 cs))/\gZ (G (vk (A9 m f' old) wus.frame.todo) (mY (A4 m a) w4::tN m c0 cs))=f8 (144,f8 (oh (f8 ⟨m,1,f9⟩))):=by
 exact Pq
def adq(old:a9):∃f' a,gm (fin (G (vk (A9 m f old) Tf.frame.todo) (mY (A4 m f4) w4::tN m c0 cs)) (ol ge)) (G (vk (A9 m f' old) wux.frame.todo) (mY (A4 m a) w4::tN m c0 cs))/\fj (G (vk (A9 m f' old) wux.frame.todo) (mY (A4 m a) w4::tN m c0 cs))=f8 (21,pt m):=by
 exact Pq
def Uj(old:a9)(l w s:Bool)(k:Nat)(a:k<=3)(h:k=0\/l=gc\/w=gc\/s=gc):∃f',gm (fin (G (vk (A9 m f old) wux.frame.todo) (mY (A4 m f4) w4::tN m c0 cs)) (wv ⟨l,w,s,k⟩)) (G (mY (A4 m f') Pt.frame.todo) (tN m c0 cs))/\az (G (mY (A4 m f') Pt.frame.todo) (tN m c0 cs))=f8 (104,#[]):=by
 cases l<;>cases w<;>cases s<;>(obtain rfl|rfl|rfl|rfl:k=0\/k=1\/k=2\/k=3:=ab)<;>(first|exact absurd h ao|skip)<;>exact Ui
def Uk(old:a9)(k:Nat)(b:k<=3)(c:k≠0):∃f' a,gm (fin (G (vk (A9 m f old) wux.frame.todo) (mY (A4 m f4) w4::tN m c0 cs)) (wv ⟨ge,ge,ge,k⟩)) (G (vk (A9 m f' (wv ⟨ge,ge,ge,k⟩)) Tf.frame.todo) (mY (A4 m a) w4::tN m c0 cs))/\az (G (vk (A9 m f' (wv ⟨ge,ge,ge,k⟩)) Tf.frame.todo) (mY (A4 m a) w4::tN m c0 cs))=f8 (131,#[pt m,wv ⟨ge,ge,ge,k⟩,wv ⟨ge,gc,ge,k-1⟩]):=by
 (obtain rfl|rfl|rfl:k=1\/k=2\/k=3:=ab)<;>exact Pq
def aiE(old:a9):∃f',gm (fin (G (vk (A9 m f old) wus.frame.todo) (mY (A4 m f4) w4::tN m c0 cs)) (ob #[])) (G (mY (A4 m f') Pt.frame.todo) (tN m c0 cs))/\az (G (mY (A4 m f') Pt.frame.todo) (tN m c0 cs))=f8 (104,#[]):=by
 exact Ui
def aiF(old:a9):∃f',gm (fin (G (vk (A9 m f old) wuh.frame.todo) (mY (A4 m f4) w4::tN m c0 cs)) (ob #[])) (G (mY (A4 m f') Pt.frame.todo) (tN m c0 cs))/\az (G (mY (A4 m f') Pt.frame.todo) (tN m c0 cs))=f8 (104,#[]):=by
 exact Ui
def u_e:Out (fin (G (mY (A4 m f) Pt.frame.todo) (tN m c0 cs)) (ob #[])) c0 cs:=
 ⟨⟨λw=>ae,ae⟩,λd=>ae,⟨λw=>ae,ae⟩,λd=>ae,ae⟩
end
end Go.Proofs
namespace Go.Proofs
open Go.Ph Go.Conc
def adr:cw PP 103 ge (λ_=>do mark .disable;pure k8):=⟨Tryz.f103,ae,ae,ae,ae,ae,ae⟩
def ads:cw PP 104 ge (λ_=>do mark .enable;pure k8):=⟨Tryz.f104,ae,ae,ae,ae,ae,ae⟩
def adt:cw PP 102 ge (k9 pz):=⟨Tryz.f102,ae,ae,ae,ae,ae,ae⟩
def adu:cw PP 117 ge (k9 pv):=⟨Tryz.f117,ae,ae,ae,ae,ae,ae⟩
def adw:cw PP 131 gc (Extern.Atomic.casT (.int nV)):=⟨Tryz.f131,ae,ae,ae,ae,ae,ae⟩
def aiG:cw PP 133 gc (Extern.Atomic.update (Op.intArith .add) nV gc):=⟨Tryz.f133,ae,ae,ae,ae,ae,ae⟩
def aiH:cw PP 138 gc ld:=⟨Tryz.f138,ae,ae,ae,ae,ae,ae⟩
def aiI:cw PP 139 gc li:=⟨Tryz.f139,ae,ae,ae,ae,ae,ae⟩
def aiJ:cw PP 141 gc Extern.OsHooks.nano:=⟨Tryz.f141,ae,ae,ae,ae,ae,ae⟩
def adx:cw PP 142 gc lp:=⟨Tryz.f142,ae,ae,ae,ae,ae,ae⟩
def aiK:cw PP 144 gc lq:=⟨Tryz.f144,ae,ae,ae,ae,ae,ae⟩
def Js:(PP.funcs[132]?).any (·.norace)=gc:=ae
def ady:(PP.funcs[134]?).any (·.norace)=gc:=ae
def u21:lA PP 21=f8 (.int nV):=ae
def u237:lA PP 191=f8 (rx 143):=ae
def u216:lA PP 169=f8 rI:=ae
def aiM:(PP.info? 143).map (λi=>decide (i.size=0))=f8 ge:=ae
end Go.Proofs
namespace Go.Ph
open Go.Conc
def ended(g:bj):Bool:=match g.status with
 |qq=>gc
 |_=>ge
def mZ{P:a7}:∀(n:Nat){d:Nat}{g:bj},(∀w,vg P ge ended w n g=vh P ge ended w n g)->(wu P ge ended n g).status=qq->xD P ge ended n d g=0->eX P n d g
 |0,_,_,_,h,b=>⟨h,b⟩
 |n+1,d,g,i,h,b=>by
  cases f:ended g with
  |true=>
   simp only[wu,xD,f]at h b;exact pp ⟨h,b⟩
  |false=>
   simp only[wu,xD,f]at h b;have c:∀w,g.status=p9/\stepG P ge g w=kp (nx P ge g) w (ex P ge g)/\mutes (ex P ge g)=gc/\vg P ge ended w n (nx P ge g)=vh P ge ended w n (nx P ge g):=λw=>by
    have:=i w;simp only[vg,vh,f,jp,ma]at this;grind
   refine pu ⟨(c default).1,_,_,λe j=>?_,λw=>(c w).2.1,mZ n (λw=>(c w).2.2.2) h b⟩;have:=(c default).2.2.1;simp only[mutes,df]at this;grind
end Go.Ph
namespace Go.Proofs
open Go.Ph Go.Conc
variable {C q:bj}
def lY(g:bj):Bool:=match g.frame.mode with
 |qu=>(g.frame.fn==86||g.frame.fn==91)
 |qt=>match g.frame.todo with
  |lR _ (_::_)::_=>match bF g with
   |some o=>match o.op with
    |q7 .. | q9 ..=>gc
    |qU _ d _=>d==169
    |qN { callee:=rk (rm f),.. }=>bare.contains f
    |_=>ge
   |none=>ge
  |_=>ge
 |_=>ge
abbrev T2(mn:Bool)(g:bj):bj:=wu PP mn lY 400 g
structure fL(mn:Bool)(g g':bj):Prop where
 q:ff PP mn lY 400 g
 d:∀d,xD PP mn lY 400 d g=d
 e:T2 mn g=g'
def bU{mn:Bool}(e:C=T2 mn q)(b:ff PP mn lY 400 q:=by exact⟨λ_=>ae,ae⟩)(hd:∀d,xD PP mn lY 400 d q=d:=by intro _;kernel_rfl):fL mn q C:=⟨b,hd,e.y⟩
def fL.run{X:Fix}{V:Vw}{q:Bool}{Stop:Stp}{M:Own}{d:Nat}{g g':bj}{w:aP}{mn:Bool}(h:fL mn g g')(b:X.P=PP)(hg:(V.g==0)=mn)(c:ay X V q Stop M d g' w):ay X V q Stop M d g w:=by
 refine .oO (S:=lY) hg 400 (by rw[b];exact h.q) ?_;have e:wu PP mn lY 400 g=g':=h.e;rw[b,h.d,e];exact c
def frD(a:Array a9)(td:List dU):dL:={ fn:=87,tmps:=a,todo:=td,defers:=[],mode:=qu,kind:=jw,roundOf:=f9 }
def ez(P:a7):dL:={ (default:dL) with fn:=P.funcs.size,defers:=[],mode:=qx [ep] }
section
variable (W:Nat)(a:Array a9)(td:List dU)
def dE:bj:=G (ka PP 88 #[pt W] jw) [frD a td,ez PP]
def d0:bj:=T2 ge (dE W a td)
def d1:bj:=T2 ge (fin (d0 W a td) (pt W))
def d2:bj:=T2 ge (fin (d1 W a td) (ob #[]))
def d3:bj:=T2 ge (fin (d2 W a td) (ob #[]))
def d4:bj:=T2 ge (fin (d3 W a td) (ol ge))
def d5:bj:=T2 ge (fin (d4 W a td) (n8 n0 1))
def d6:bj:=T2 ge (fin (d5 W a td) (n8 n0 1))
def d7:bj:=T2 ge (fin (d6 W a td) (ob #[]))
def d_E:fL ge (dE W a td) (d0 W a td):=bU (by delta d0;rfl)
def aiN:gu (d0 W a td)=f8 (167,169,pt W):=ae
def d_0:fL ge (fin (d0 W a td) (pt W)) (d1 W a td):=bU (by delta d1;rfl)
def aiO:az (d1 W a td)=f8 (102,#[pt W]):=ae
def d_1:fL ge (fin (d1 W a td) (ob #[])) (d2 W a td):=bU (by delta d2;rfl)
def aiP:az (d2 W a td)=f8 (103,#[]):=ae
def d_2:fL ge (fin (d2 W a td) (ob #[])) (d3 W a td):=bU (by delta d3;rfl)
def aiQ:az (d3 W a td)=f8 (105,#[]):=ae
def d_3:fL ge (fin (d3 W a td) (ol ge)) (d4 W a td):=bU (by delta d4;rfl)
def aiR:az (d4 W a td)=f8 (128,#[pt W,n8 n0 18446744069414584320]):=ae
def d_4:fL ge (fin (d4 W a td) (n8 n0 1)) (d5 W a td):=bU (by delta d5;rfl)
def aiS:az (d5 W a td)=f8 (129,#[pt W]):=ae
def d_5:fL ge (fin (d5 W a td) (n8 n0 1)) (d6 W a td):=bU (by delta d6;rfl)
def aiT:az (d6 W a td)=f8 (130,#[pt W,n8 n0 0]):=ae
def d_6:fL ge (fin (d6 W a td) (ob #[])) (d7 W a td):=bU (by delta d7;rfl)
def aiU:gZ (d7 W a td)=f8 (114,f8 (oh (f8 ⟨W,1,f9⟩))):=ae
def aiV:bv PP (d7 W a td)=gc:=ae
end
def uy(W bc bg bm bt:Nat):bj:=
 { frame:={ (default:dL) with fn:=PP.funcs.size,defers:=[{ target:=.fn (rs 87) #[pt W,pt bc,pt bg,pt bm,pt bt],args:=#[] }],mode:=qx [ep] },callers:=[],status:=p9,dying:=f9 }
section
variable (W bc bg bm bt:Nat)
def k0:bj:=T2 ge (uy W bc bg bm bt)
def k_E:fL ge (uy W bc bg bm bt) (k0 W bc bg bm bt):=bU (by delta k0;rfl)
def aiW:fj (k0 W bc bg bm bt)=f8 (78,pt bc):=ae
def k1(c:a9):bj:=T2 ge (fin (k0 W bc bg bm bt) c)
def k_0(c:a9):fL ge (fin (k0 W bc bg bm bt) c) (k1 W bc bg bm bt c):=bU (by delta k1;rfl)
def aiX(c:a9):fj (k1 W bc bg bm bt c)=f8 (3,pt bg):=ae
def DT(g:bj):Bool:=lY g||(match g.frame.todo with
 |[lM _]=>g.frame.fn==58||g.frame.fn==84
 |_=>ge)
abbrev T3(g:bj):bj:=wu PP ge DT 400 g
def k2(c:a9)(n:Int):bj:=T3 (fin (k1 W bc bg bm bt c) (n8 nt n))
def k_1(c:a9)(n:Int):ff PP ge DT 400 (fin (k1 W bc bg bm bt c) (n8 nt n))/\∀d,xD PP ge DT 400 d (fin (k1 W bc bg bm bt c) (n8 nt n))=d:=⟨⟨λw=>ae,ae⟩,λd=>ae⟩
end
def xJ(g:bj):Bool:=match g.frame.mode with
 |qt=>match g.frame.todo with
  |[]=>g.frame.roundOf.isSome
  |lW::_=>gc
  |lS _::_=>gc
  |lM (rQ ..)::_=>gc
  |lM (rR _ _ gc)::_=>gc
  |[lM _]=>g.frame.fn==58||g.frame.fn==89||g.frame.fn==90||g.frame.fn==84
  |lR _ (_::_)::_=>match bF g with
   |some o=>match o.op with
    |q7 .. | q9 .. | q8 .. | .box ..=>gc
    |_=>ge
   |none=>ge
  |_=>ge
 |qu=>gc
 |_=>ge
abbrev T5(g:bj):bj:=wu PP ge xJ 400 g
structure vN(g g':bj):Prop where
 q:ff PP ge xJ 400 g
 d:∀d,xD PP ge xJ 400 d g=d
 e:T5 g=g'
def jK(e:T5 q=C)(a:ff PP ge xJ 400 q:=by exact⟨λ_=>ae,ae⟩)(hd:∀d,xD PP ge xJ 400 d q=d:=by intro _;kernel_rfl):vN q C:=⟨a,hd,e⟩
def vN.run{X:Fix}{V:Vw}{q:Bool}{Stop:Stp}{M:Own}{d:Nat}{g g':bj}{w:aP}(h:vN g g')(a:X.P=PP)(hg:(V.g==0)=ge)(b:ay X V q Stop M d g' w):ay X V q Stop M d g w:=by
 refine .oO (S:=xJ) hg 400 (by rw[a];exact h.q) ?_;have e:wu PP ge xJ 400 g=g':=h.e;rw[a,h.d,e];exact b
def Jt:d8:=((PP.funcs[87]?).bind (·.body)).getD rS
def rangeAt:d8->Option (d8×d8)
 |rQ _ _ a b=>f8 (a,b)
 |.block _ b=>rangeAt b
 |.seq a b=>match rangeAt a with
  |some x=>f8 x
  |none=>rangeAt b
 |_=>f9
def vl:d8:=((rangeAt Jt).getD (rS,rS)).1
def lZ:d8:=((rangeAt Jt).getD (rS,rS)).2
def jZ(i:Nat):d8->Option (Array ce)
 |rR j ops _=>if j==i then f8 ops else f9
 |.block _ b=>jZ i b
 |.loop b=>jZ i b
 |.cond _ a b=>match jZ i a with
  |some x=>f8 x
  |none=>jZ i b
 |.seq a b=>match jZ i a with
  |some x=>f8 x
  |none=>jZ i b
 |_=>f9
def dX:Array ce:=(jZ 4 lZ).getD #[]
section
variable (W bc bg bm bt:Nat)(c:a9)(n:Int)(cl:a9)(v:a9)(lb b5:Nat)(cs:List dL)
def Ul(a:a9)(f:Nat->a9):Nat->a9
 |0=>oh (f8 ⟨W,0,f9⟩)|1=>oh (f8 ⟨bc,0,f9⟩)|2=>oh (f8 ⟨bg,0,f9⟩)|3=>oh (f8 ⟨bm,0,f9⟩)|4=>oh (f8 ⟨bt,0,f9⟩)|5=>a|6=>c|7=>n8 nt n|8=>cl|9=>v|i=>f i
def qJ(a:a9)(f:Nat->a9):Array a9:=zj 20 (Ul W bc bg bm bt c n cl v a f)
def rG:List d9:=[{ target:=.fn (rs 88) #[],args:=#[pt W] }]
def k3:bj:=T5 (G (jQ ((k2 W bc bg bm bt c n).callers.headD default) cl) [ez PP])
def aiY:k2 W bc bg bm bt c n=G (ka PP 58 #[c,n8 nt n] jt) [(k2 W bc bg bm bt c n).callers.headD default,ez PP]:=ae
def kk:List dU:=(k3 0 0 0 0 0 undef 0 undef).frame.todo.tail
def k_3:vN (G (jQ ((k2 W bc bg bm bt c n).callers.headD default) cl) [ez PP]) (k3 W bc bg bm bt c n cl):=jK (by delta k3;rfl)
def aiZ:k3 W bc bg bm bt c n cl=G ⟨87,qJ W bc bg bm bt c n cl undef undef (λ_=>undef),lM (rQ (rr 8) #[9] vl lZ)::kk,rG W,qt,jw,f9⟩ [ez PP]:=ae
def rd0(f:Nat->a9):bj:=G (kc lb 87 (qJ W bc bg bm bt c n cl v undef f) vl lZ jt) cs
def q0(f:Nat->a9):bj:=T5 (rd0 W bc bg bm bt c n cl v lb cs f)
def q_0(f:Nat->a9):vN (rd0 W bc bg bm bt c n cl v lb cs f) (q0 W bc bg bm bt c n cl v lb cs f):=jK (by delta q0;rfl)
def aj0(f:Nat->a9):(bF (q0 W bc bg bm bt c n cl v lb cs f)).map (·.op)=f8 (q8 73):=ae
def q1(f:Nat->a9):bj:=T5 (fin (q0 W bc bg bm bt c n cl v lb cs f) (pt b5))
def q_1(f:Nat->a9):vN (fin (q0 W bc bg bm bt c n cl v lb cs f) (pt b5)) (q1 W bc bg bm bt c n cl v lb b5 cs f):=jK (by delta q1;rfl)
def aj1(f:Nat->a9):(bF (q1 W bc bg bm bt c n cl v lb b5 cs f)).map (·.op)=f8 (q9 73 (rr 5) (rr 9))/\(q1 W bc bg bm bt c n cl v lb b5 cs f).frame.eval (rr 5)=pt b5/\(q1 W bc bg bm bt c n cl v lb b5 cs f).frame.eval (rr 9)=v:=⟨ae,ae,ae⟩
def q2(f:Nat->a9):bj:=T5 (fin (q1 W bc bg bm bt c n cl v lb b5 cs f) undef)
def q_2(f:Nat->a9):vN (fin (q1 W bc bg bm bt c n cl v lb b5 cs f) undef) (q2 W bc bg bm bt c n cl v lb b5 cs f):=jK (by delta q2;rfl)
def aj2(f:Nat->a9):q2 W bc bg bm bt c n cl v lb b5 cs f=G ⟨87,qJ W bc bg bm bt c n cl v (pt b5) f,[lW,lM lZ],[],qt,jt,f8 lb⟩ cs:=ae
def q3(f:Nat->a9):bj:=T5 (G ⟨87,qJ W bc bg bm bt c n cl v (pt b5) f,[lM lZ],[],qt,jt,f8 lb⟩ cs)
def q_3(f:Nat->a9):vN (G ⟨87,qJ W bc bg bm bt c n cl v (pt b5) f,[lM lZ],[],qt,jt,f8 lb⟩ cs) (q3 W bc bg bm bt c n cl v lb b5 cs f):=jK (by delta q3;rfl)
def c0(f:Nat->a9):dL:=(q3 W bc bg bm bt c n cl v lb b5 cs f).callers.headD default
def aj3(f:Nat->a9):q3 W bc bg bm bt c n cl v lb b5 cs f=G (ka PP 89 #[pt bm] jt) (c0 W bc bg bm bt c n cl v lb b5 cs f::cs):=ae
def q4(f:Nat->a9):bj:=T5 (G (jQ (c0 W bc bg bm bt c n cl v lb b5 cs f) (ob #[])) cs)
def q_4(f:Nat->a9):vN (G (jQ (c0 W bc bg bm bt c n cl v lb b5 cs f) (ob #[])) cs) (q4 W bc bg bm bt c n cl v lb b5 cs f):=jK (by delta q4;rfl)
def kr:List dU:=(q4 0 0 0 0 0 undef 0 undef undef 0 0 [] (λ_=>undef)).frame.todo.tail
def aj4(f:Nat->a9):q4 W bc bg bm bt c n cl v lb b5 cs f=G ⟨87,qJ W bc bg bm bt c n cl v (pt b5) (px 10 (ob #[]) f),lM (rR 4 dX gc)::kr,[],qt,jt,f8 lb⟩ cs:=ae
end
end Go.Proofs
namespace Go.Ph
open Go.Conc Go.ConcN Go.bJ Go.Proofs
variable {q:Nat}{C:Nat->a9}
section
variable {fn:bC}{tmps:Array a9}{ops:Array ce}{i:Nat}{rest:List Nat}{k:List dU}{ds:List d9}{kind:ea}{ro:Option Nat}{cs:List dL}{o:ce}
def DU(b:(kind==jr)=ge)(c:ops[i]?=f8 o)(hg:o.guard=f9)(hd:pS o.op=gc):bF (G ⟨fn,tmps,lR ops (i::rest)::k,ds,qt,kind,ro⟩ cs)=f8 o:=by
 simp[bF,G,b,c,jz,hg,hd]
def xK(v:a9):fin (G ⟨fn,tmps,lR ops (i::rest)::k,ds,qt,kind,ro⟩ cs) v=G ⟨fn,(match(ops[i]?).bind (·.dst) with|some d=>h8 tmps d v|none=>tmps),lR ops rest::k,ds,qt,kind,ro⟩ cs:=rfl
def Ju{n j:Nat}{F:Nat->a9}(h:j<n):(zj n F).getD j undef=F j:=by
 simp[zj,h]
def Jv{j:Nat}{v:a9}:h8 (zj q C) j v=zj q (px j v C):=by
 apply io
 .simp[zj]
 .intro i b c;simp only[zj,Array.getElem_setIfInBounds,ni,nk,qg,px];grind
def Ap{b:Nat->a9}(h:∀i,i<q->C i=b i):zj q C=zj q b:=by
 unfold zj;grind
end
def left(ops:Array ce)(listed:Array Bool):Nat:=((nb ops.size).filter λi=>!listed.getD i gc).length
def DV{ops:Array ce}{listed:Array Bool}(hi:q<ops.size)(h:listed.getD q gc=ge):left ops (h8 listed q gc)<left ops listed:=by
 unfold left;have b:q<listed.size:=by
  grind
 have sub:∀l:List Nat,(l.filter λj=>!(h8 listed q gc).getD j gc).length+(if q∈l then 1 else 0)<=(l.filter λj=>!listed.getD j gc).length:=by
  intro l
  induction l with
  |nil=>simp
  |cons a l c=>
   by_cases e:q=a
   .subst e;have e1:(h8 listed q gc).getD q gc=gc:=by simp[b]
    grind
   .have e1:(h8 listed q gc).getD a gc=listed.getD a gc:=getD_set_ne gc e;grind
 grind
section
variable {X:Fix}{V:Vw}{Stop:Stp}{M:Own}{d:Nat}{ops:Array ce}
def ay.lin{st:Array Bool->List Nat->bj}{I:Array Bool->aP->Prop}
 (j:∀listed w,jH r6 ops listed=[]->I listed w->ay X V ge Stop M d (st listed []) w)
 (l:∀listed i rest w,i∈jH r6 ops listed->I listed w->(∀w',I (h8 listed i gc) w'->ay X V ge Stop M d (st (h8 listed i gc) rest) w')->ay X V ge Stop M d (st listed (i::rest)) w) :
 ∀fuel t listed w,I listed w->left ops listed<=fuel->ay X V ge Stop M d (st listed (n6 r6 ops fuel t listed [])) w:=by
 intro fuel
 induction fuel with
 |zero=>
  intro t listed w b hl;have f:jH r6 ops listed=[]:=by
   apply List.eq_nil_iff_forall_not_mem.2;intro i hi;obtain⟨c,o,e,_⟩:=mem_ready.1 hi;have:=DV (bR.1 e).1 c;omega
  simpa[n6]using j listed w f b
 |succ fuel m=>
  intro t listed w b hl;simp only[n6]
  change ay X V ge Stop M d (st listed (match(jH r6 ops listed)[t % (jH r6 ops listed).length]? with
   |some i=>n6 r6 ops fuel (t / (jH r6 ops listed).length) (h8 listed i gc) [i]
   |none=>[].reverse)) w
  cases hi:(jH r6 ops listed)[t % (jH r6 ops listed).length]? with
  |none=>
   have n:jH r6 ops listed=[]:=by
    cases f:jH r6 ops listed with
    |nil=>rfl
    |cons x xs=>
     grind[Nat.mod_lt]
   grind
  |some i=>
   have h:=qe hi;simp only[];rw[linearise_go_acc,List.reverse_singleton,List.singleton_append];refine l listed i _ w h b λw' p=>m _ _ w' p ?_;obtain⟨c,o,e,_⟩:=mem_ready.1 h;have:=DV (bR.1 e).1 c;omega
def ay.draw{fn:bC}{tmps:Array a9}{k:List dU}{ds:List d9}{kind:ea}{ro:Option Nat}{cs:List dL}{w:aP}(hc:Clear X V M)(c:X.P.follows .mixedOrders=gc)
 (h:∀t,ay X V ge Stop M d (G ⟨fn,tmps,lR ops (jM r6 ops t)::k,ds,qt,kind,ro⟩ cs) w):ay X V ge Stop M d (G ⟨fn,tmps,lM (rR q ops gc)::k,ds,qt,kind,ro⟩ cs) w:=
 .idle hc rfl λb _=>⟨G ⟨fn,tmps,lR ops (jM r6 ops (b.tape b.drawn (.order fn q)))::k,ds,qt,kind,ro⟩ cs,{ b with drawn:=b.drawn+1 },#[],by
  simp[G,stepG,kf,dQ,Sem.run,Question.forced,Question.cut,Region.schedule,c],rfl,rfl,qr _,rfl,ar,rfl,h _⟩
end
section
variable {P:a7}{mn:Bool}{w:aP}{g:bj}{o:ce}{t elem:a8}{x ix:ci}{len:Nat}{k:c9}{i:Int}{a:aL}{sz:Nat}
def qK(j:bF g=f8 o)(l:o.op=rf t x ix)(m:g.frame.eval x=oh (f8 a))(hi:g.frame.eval ix=n8 k i)
 (e:lA P t=f8 (rL len elem)) (hs:(P.info? elem).map (·.size)=f8 sz) (f:0<=i) (h:i<len) :
 stepG P mn g w=kp (fin g (oh (f8 (a.add (i.toNat*sz))))) w #[]:=by
 have e1:ch g.frame.eval o=(do pure (qG (<-mG t (oh (f8 a)) (n8 k i))):Sem bq):=by
  unfold ch;simp only[l,m,hi]
 cases b:P.info? elem with
 |none=>simp[b]at hs
 |some c=>
  have n:c.size=sz:=by simpa[b]using hs
  have p:(mG t (oh (f8 a)) (n8 k i)).run P w=qA (oh (f8 (a.add (i.toNat*sz)))) w:=by
   simp[mG,el,db e,mF,f,h,ek,eb,b,n]
  have q:(mG t (oh (f8 a)) (n8 k i)).events P w #[]=#[]:=by
   simp[mG,el,db e,mF,f,h,ek,eb,b]
  rw[dF (v:=oh (f8 (a.add (i.toNat*sz)))) (w':=w) j (by rw[e1];simp[p]),e1];simp[q,f6]
end
end Go.Ph
namespace Go.Ph
open Go.Conc Go.ConcN Go.bJ
section
variable {P:a7}{w:aP}{t:a8}{a:aL}{v:a9}
def Mx(a:aL)(j:Nat):(a.add j).block=a.block:=by unfold Addr.add;split<;>rfl
theorem dY(b o j:Nat):(⟨b,o,f9⟩:aL).add j=⟨b,o+j,f9⟩:=by unfold Addr.add;split<;>simp_all
structure G7(P:a7)(w:aP)(t:a8)(a:aL)(v:a9):Prop where
 run:(dc t a).run P w=qA v w
 ev:∀e∈(dc t a).events P w #[],∃a':aL,a'.block=a.block/\e=⟨p6 a',ge,ge⟩
def qL(a:aL):∀(n i:Nat)(b:Array a9)(es:Array bd),(∀j,j<n->(hz w (a.add (i+j))).isSome)->∀e∈(eq a i n b).events P w es,e∈es\/∃j,e=⟨p6 (a.add j),ge,ge⟩
 |0,_,_,_,_=>λe h=>pp (by simpa[eq]using h)
 |n+1,i,b,es,hc=>λe h=>by
  simp only[eq,kx]at h;obtain⟨u,c⟩:=Option.isSome_iff_exists.1 (hc 0 ab);simp only[eQ]at c;have f:(load (a.add i)).run P w=qA u w:=by simp[c]
  have k:(load (a.add i)).events P w es=es.push ⟨p6 (a.add i),ge,ge⟩:=by
   rw[events_load,c];rfl
  rw[f,k]at h
  rcases qL a n (i+1) (b.push u) _ (λj l=>aS) e h with h|h
  .grind
  .exact pu h
def sH{d:TypeDesc}{n:Nat}{f:Nat->a9}(k:lA P t=f8 d)(hd:(match d with | rN _ | rL _ _=>gc|_=>ge)=gc)(hi:(P.info? t).map (·.size)=f8 n)
 (h:∀j,j<n->hz w (a.add j)=f8 (f j)):G7 P w t a (o6 ((nb n).map f).toArray):=by
 have c:(isAgg t).run P w=qA gc w:=by
  unfold isAgg;rw[iB,db k w];cases d<;>simp_all
 have l:(isAgg t).events P w #[]=#[]:=by
  simp_all
 cases b:P.info? t with
 |none=>simp[b]at hi
 |some i=>
  have hs:i.size=n:=by simpa[b]using hi
  have hl:=run_loadCells (P:=P) w a n f h;refine⟨by simp[dc,iB,c,ek,eb,b,hs,hl],λe m=>?_⟩;have:e∈(loadCells a n).events P w #[]:=by simpa[dc,kx,c,l,ek,eb,b,hs,hl]using m
  rcases qL (P:=P) (w:=w) a n 0 #[] #[] (λj p=>aS) e this with h|⟨j,h⟩
  .simp at h
  .exact⟨_,Mx a j,h⟩
def l8{d:TypeDesc}(c:lA P t=f8 d)(hd:(match d with | rN _ | rL _ _=>gc|_=>ge)=ge)(h:hz w a=f8 v):G7 P w t a v:=by
 have b:(isAgg t).run P w=qA ge w:=by
  unfold isAgg;rw[iB,db c w];cases d<;>simp_all
 have f:(isAgg t).events P w #[]=#[]:=by
  simp_all
 refine⟨by simp[dc,iB,b,h],λe i=>?_⟩;have:e∈(load a).events P w #[]:=by simpa[dc,kx,b,f]using i
 simp_all
def zI{mn:Bool}{g:bj}{o:ce}{x:ci}(b:bF g=f8 o)(c:o.op=.nilCheck x)(e:g.frame.eval x=oh (f8 a)):stepG P mn g w=kp (fin g (oh (f8 a))) w #[]:=by
 have e1:ch g.frame.eval o=pure (qG (oh (f8 a))):=by
  unfold ch;simp only[c,e]
 rw[dF (v:=oh (f8 a)) (w':=w) b (by rw[e1];rfl),e1];simp[f6]
variable {X:Fix}{V:Vw}{Stop:Stp}{M:Own}{d:Nat}{g:bj}{o:ce}{x:ci}
def ay.qM(hc:Clear X V M)(hl:Live X w)(c:bF g=f8 o)(e:o.op=q7 t x)(f:g.frame.eval x=oh (f8 a))
 (h:∀b,Rl X V M w b->G7 X.P b t a v/\a.block<b.heap.size)
 (i:(V.st a.block/\∀a':aL,a'.block=a.block->¬X.Shun (p6 a'))\/M a.block) (j:ay X V ge Stop M d (fin g v) w):ay X V ge Stop M d g w:=
 .load hc hl c e f (λb r=>⟨(h b r).1.run,(h b r).2,(h b r).1.ev⟩) i j
def ay.DW{g':bj}{w:aP}(hc:Clear X V M)(hs:g.status=p9)(h:∀w,stepG X.P (V.g==0) g w=kp g' w #[])(c:g'.status=p9)(e:ay X V ge Stop M d g' w):ay X V ge Stop M d g w:=
 .idle hc hs λb _=>⟨_,b,#[],h b,rfl,rfl,qr _,rfl,ar,c,e⟩
end
end Go.Ph
namespace Go.Proofs
open Go.Ph Go.Conc Go.bJ
variable {J R:Nat}{O:ce}{C:Nat->a9}{q:Array Bool}{L:List dL}
def jL{op:Op}{dst:Option Tmp}(h:(dX[J]?).map (λo=>(o.op,o.dst,o.guard))=f8 (op,dst,f9)):∃o,dX[J]?=f8 o/\o.op=op/\o.dst=dst/\o.guard=f9:=by
 grind
def adz:(dX[0]?).map (λo=>(o.op,o.dst,o.guard))=f8 (q7 111 (rr 4),f8 11,f9):=ae
def adA:(dX[1]?).map (λo=>(o.op,o.dst,o.guard))=f8 (q7 3 (rr 2),f8 12,f9):=ae
def adB:(dX[2]?).map (λo=>(o.op,o.dst,o.guard))=f8 (rh 73 (rr 5) 0,f8 13,f9):=ae
def adC:(dX[3]?).map (λo=>(o.op,o.dst,o.guard))=f8 (q7 3 (rr 13),f8 14,f9):=ae
def adD:(dX[4]?).map (λo=>(o.op,o.dst,o.guard))=f8 (q7 73 (rr 5),f8 15,f9):=ae
def adE:(dX[5]?).map (λo=>(o.op,o.dst,o.guard))=f8 (.nilCheck (rr 11),f8 16,f9):=ae
def adF:(dX[6]?).map (λo=>(o.op,o.dst,o.guard))=f8 (rf 138 (rr 16) (rr 12),f8 17,f9):=ae
def adG:(dX[7]?).map (λo=>(o.op,o.dst,o.guard))=f8 (rf 121 (rr 17) (rr 14),f8 18,f9):=ae
def adH:(dX[8]?).map (λo=>(o.op,o.dst,o.guard))=f8 (q9 73 (rr 18) (rr 15),f9,f9):=ae
def Pw:dX.size=9:=ae
def Aq:(nb 9).map (λi=>((dX[i]?).map λo=>o.after.toList.map (·.on)))=[f8 [],f8 [],f8 [],f8 [2],f8 [],f8 [0],f8 [5,1],f8 [6,3,0,1,2,3,4],f8 [7,4,0,1,2,3,4]]:=ae
def My:dX.all (λo=>o.after.all (Region.binds r6))=gc:=ae
def mixed:PP.follows .mixedOrders=gc:=ae
def WW:lA PP 111=f8 (rx 138):=ae
def ty3:lA PP 3=f8 (.int nt):=ae
def fieldsOf(t:a8):Array Field:=match PP.underlying t with
 |some (rN fs)=>fs
 |_=>#[]
def aj6:lA PP 73=f8 (rN (fieldsOf 73)):=ae
def Un:(PP.info? 73).map (·.size)=f8 5:=ae
def adJ:lA PP 138=f8 (rL 3 121):=ae
def DX{mn:Bool}{g:bj}{x:ci}{w:aP}(c:bF g=f8 O)(e:O.op=rh 73 x 0)(f:g.frame.eval x=oh (f8 ⟨J,0,f9⟩)):stepG PP mn g w=kp (fin g (oh (f8 ⟨J,0,f9⟩))) w #[]:=by
 have e1:ch g.frame.eval O=(do pure (qG (<-mS 73 (oh (f8 ⟨J,0,f9⟩)) 0)):Sem bq):=by
  unfold ch;simp only[e,f]
 have h:∀es,(mS 73 (oh (f8 ⟨J,0,f9⟩)) 0).runT PP w es=(qA (oh (f8 ⟨J,0,f9⟩)) w,es):=λes=>ae;have i:(mS 73 (oh (f8 ⟨J,0,f9⟩)) 0).run PP w=qA (oh (f8 ⟨J,0,f9⟩)) w:=by rw[<-ks,h #[]]
 have j:(mS 73 (oh (f8 ⟨J,0,f9⟩)) 0).events PP w #[]=#[]:=bp;rw[dF (v:=oh (f8 ⟨J,0,f9⟩)) (w':=w) c (by rw[e1];simp[i]),e1];simp[j,f6]
def adK:(PP.info? 121).map (·.size)=f8 25:=ae
def adM:lA PP 121=f8 (rL 5 73):=ae
structure R4(X:Fix)(V:Vw)(M:Own)(Q Q':aP->Prop)(bg bt b5 n p:Nat)(vs:Array a9):Prop where
 hP:X.P=PP
 hg:(V.g==0)=ge
 hc:Clear X V M
 hQ:∀w w',Q w->Rl X V M w w'->Q w'
 live:∀w,Q w->Live X w
 st:∀b,V.st b->∀a':aL,a'.block=b->¬X.Shun (p6 a')
 bt:V.st bt/\∀w,Q w->hz w ⟨bt,0,f9⟩=f8 (oh (f8 ⟨X.Tb,0,f9⟩))
 bg:V.st bg/\∀w,Q w->hz w ⟨bg,0,f9⟩=f8 (n8 nt (n:Int))
 b5:M b5/\∀w,Q w->∃fz,w.heap[b5]?=f8 (m8 vs 73 fz)
 hv:vs.size=5/\vs[0]?=f8 (n8 nt (p:Int))/\∀c∈vs,c.oneCell'=gc
 hn:n<3
 hp:p<5
 fW:X.size=75
 row:∀j,j<5->V.row (n*25+p*5+j)
 hQ':∀w w',Q w->Live X w'->w'.heap.size=w.heap.size->(∀b,b≠X.Tb->w'.heap[b]?=w.heap[b]?)->(∀j,j<5->hz w' ⟨X.Tb,n*25+p*5+j,f9⟩=vs[j]?)->(∀j,(j<n*25+p*5\/n*25+p*5+5<=j)->hz w' ⟨X.Tb,j,f9⟩=hz w ⟨X.Tb,j,f9⟩)->Q' w'
section
variable {X:Fix}{V:Vw}{Stop:Stp}{M:Own}{Q Q':aP->Prop}{bg bt b5 n p:Nat}{vs:Array a9}
def zJ(a b5 n p:Nat)(vs:Array a9):Nat->a9
 |0=>oh (f8 ⟨a,0,f9⟩)
 |1=>n8 nt (n:Int)
 |2=>oh (f8 ⟨b5,0,f9⟩)
 |3=>n8 nt (p:Int)
 |4=>o6 vs
 |5=>oh (f8 ⟨a,0,f9⟩)
 |6=>oh (f8 ⟨a,n*25,f9⟩)
 |_=>oh (f8 ⟨a,n*25+p*5,f9⟩)
def Jw(fv base:Nat->a9)(listed:Array Bool):Nat->a9:=λi=>if 11<=i/\i<=18/\listed.getD (i-11) ge=gc then fv (i-11) else base i
def oS{base:Nat->a9}(h:J<11):Jw C base q J=base J:=by
 unfold Jw;rw[if_neg ab]
def kN{fv base:Nat->a9}{listed:Array Bool}{i:Nat}(h:i<8)(hl:listed.getD i ge=gc):Jw fv base listed (11+i)=fv i:=by
 unfold Jw;grind
def Uo{base:Nat->a9}(h:J<8)(hs:J<q.size):px (11+J) (C J) (Jw C base q)=Jw C base (h8 q J gc):=by
 funext j;unfold px Jw;by_cases e:j=11+J
 .subst e;have e1:11+J-11=J:=ab;rw[if_pos rfl,if_pos ⟨ab,ab,by rw[e1];simp[hs]⟩,e1]
 .rw[if_neg e];by_cases c:11<=j/\j<=18
  .have a:J≠j-11:=ab;rw[eu ge a]
  grind
def Px{base:Nat->a9}:Jw C base (h8 q 8 gc)=Jw C base q:=by
 funext j;unfold Jw;by_cases c:11<=j/\j<=18
 .have a:8≠j-11:=ab;rw[eu ge a]
 grind
def Y0(h:J∈jH r6 dX q):J<9/\q.getD J gc=ge/\J<q.size/\
 (J=3->q.getD 2 ge=gc)/\(J=5->q.getD 0 ge=gc)/\(J=6->q.getD 5 ge=gc/\q.getD 1 ge=gc)/\(J=7->q.getD 6 ge=gc/\q.getD 3 ge=gc)/\
 (J=8->q.getD 7 ge=gc/\q.getD 4 ge=gc):=by
 obtain⟨f,o,c,g⟩:=mem_ready.1 h;have hi:J<9:=by have:=(bR.1 c).1;rw[Pw]at this;exact this
 have hs:J<q.size:=by
  rcases gg J q.size with d|d
  .exact d
  .simp[d]at f
 have hb:∀e∈o.after,q.getD e.on ge=gc:=λe b=>g e b (by
  have:=lr.1 My o (pR c)
  exact lr.1 this e b)
 have k:(nb 9)[J]?=f8 J:=by simp[hi]
 have hl:((nb 9).map (λJ=>((dX[J]?).map λo=>o.after.toList.map (·.on))))[J]?=f8 (f8 (o.after.toList.map (·.on))):=by
  rw[eT,k];simp[c]
 rw[Aq]at hl;have a:∀j,j∈o.after.toList.map (·.on)->q.getD j ge=gc:=λj l=>by
  obtain⟨e,b,rfl⟩:=j3.1 l;exact hb e (iN.1 b)
 refine⟨hi,f,hs,λe=>?_,λe=>?_,λe=>?_,λe=>?_,λe=>?_⟩<;>subst e<;>simp only[fP,ft,kj]at hl<;>rw[<-hl]at a
 .exact a 2 ar
 .exact a 0 ar
 .exact⟨a 5 ar,a 1 ar⟩
 .exact⟨a 6 ar,a 3 ar⟩
 .exact⟨a 7 ar,a 4 ar⟩
def aj8(h:jH r6 dX q=[])(hs:q.size=9):∀i,i<9->q.getD i ge=gc:=by
 have key:∀i,i<9->(∀j,(∃l,((nb 9).map (λi=>((dX[i]?).map λo=>o.after.toList.map (·.on))))[i]?=f8 (f8 l)/\j∈l)->q.getD j ge=gc)->q.getD i ge=gc:=by
  intro i hi b
  cases hg:q.getD i gc with
  |true=>
   grind
  |false=>
   have c:i<dX.size:=by rw[Pw];exact hi
   have:i∈jH r6 dX q:=mem_ready.2 ⟨hg,dX[i],ih c,λe d _=>b _ ⟨dX[i].after.toList.map (·.on),by
    grind,j3.2 ⟨e,iN.2 d,rfl⟩⟩⟩
   grind
 rw[Aq]at key;have k0:=key 0 ab ar;have k1:=key 1 ab ar;have k2:=key 2 ab ar;have k3:=key 3 ab (by simp at k2;simp[k2]);have f:=key 4 ab ar;have a:=key 5 ab (by simp at k0;simp[k0]);have g:=key 6 ab (by simp at a k1;simp[a,k1]);have k:=key 7 ab bp;have m:=key 8 ab bp;intro i hi;obtain rfl|rfl|rfl|rfl|rfl|rfl|rfl|rfl|rfl:i=0\/i=1\/i=2\/i=3\/i=4\/i=5\/i=6\/i=7\/i=8:=ab
 all_goals assumption
def Y1(listed:Array Bool):Prop:=(listed.getD 3 ge=gc->listed.getD 2 ge=gc)/\(listed.getD 5 ge=gc->listed.getD 0 ge=gc)/\(listed.getD 6 ge=gc->listed.getD 5 ge=gc/\listed.getD 1 ge=gc)/\
 (listed.getD 7 ge=gc->listed.getD 6 ge=gc/\listed.getD 3 ge=gc)/\(listed.getD 8 ge=gc->listed.getD 7 ge=gc/\listed.getD 4 ge=gc)
def MA(n j:Nat):(ip n ge).getD j ge=ge:=by
 rw[bM,o7];split<;>rfl
def Py(n:Nat):Y1 (ip n ge):=by
 unfold Y1;simp only[MA];simp
def Up(h:Y1 q)(f:q.getD 8 ge=gc):∀i,i<9->q.getD i ge=gc:=by
 obtain⟨a,b,c,d,e⟩:=h;grind
def Uq(h:Y1 q)(hs:J<q.size)(k:(J=3->q.getD 2 ge=gc)/\(J=5->q.getD 0 ge=gc)/\(J=6->q.getD 5 ge=gc/\q.getD 1 ge=gc)/\(J=7->q.getD 6 ge=gc/\q.getD 3 ge=gc)/\
 (J=8->q.getD 7 ge=gc/\q.getD 4 ge=gc)):Y1 (h8 q J gc):=by
 obtain⟨a,b,c,d,e⟩:=h;obtain⟨f,b',g,l,m⟩:=k;have or:∀j,(h8 q J gc).getD j ge=gc->J=j\/q.getD j ge=gc:=λj o=>by
  by_cases e:J=j
  .exact pp e
  simp_all
 have up:∀{j},q.getD j ge=gc->(h8 q J gc).getD j ge=gc:=λh=>Go.getD_set_true h;refine⟨λh=>?_,λh=>?_,λh=>?_,λh=>?_,λh=>?_⟩
 .exact up ((or _ h).elim f a)
 .exact up ((or _ h).elim b' b)
 .grind
 .grind
 grind
def Ur(F:Nat->a9)(a:List dU)(lb:Nat):dL:=⟨87,zj 20 F,a,[],qt,jt,f8 lb⟩
def DY(fv base:Nat->a9)(lb:Nat)(cs:List dL)(listed:Array Bool)(rest:List Nat):bj:=G (Ur (Jw fv base listed) (lR dX rest::kr) lb) cs
def vm{base:Nat->a9}{rest:List Nat}(a:dX[R]?=f8 O)(hd:O.dst=f8 (11+R))(h:R<8)(hs:R<q.size) :
 fin (DY C base J L q (R::rest)) (C R)=DY C base J L (h8 q R gc) rest:=by
 unfold DY Ur;rw[xK,a];simp only[mb,hd,Jv,Uo h hs]
def adN{base:Nat->a9}{rest:List Nat}(a:dX[8]?=f8 O)(hd:O.dst=f9)(v:a9) :
 fin (DY C base J L q (8::rest)) v=DY C base J L (h8 q 8 gc) rest:=by
 unfold DY Ur;rw[xK,a];simp only[mb,hd,Px]
def Us{base:Nat->a9}{rest:List Nat}(a:dX[R]?=f8 O)(hg:O.guard=f9)(hd:pS O.op=gc):bF (DY C base J L q (R::rest))=f8 O:=
 DU rfl a hg hd
def NP{a:List dU}(h:R<20):(Ur C a J).eval (rr R)=C R:=Ju h
def Ut(R:R4 X V M Q Q' bg bt b5 n p vs){base:Nat->a9}(C:base 2=oh (f8 ⟨bg,0,f9⟩))(S:base 4=oh (f8 ⟨bt,0,f9⟩))(N:base 5=oh (f8 ⟨b5,0,f9⟩)){lb:Nat}{cs:List dL}{d:Nat}{w:aP}(T:Q w)
 (U:∀F w',(∀j,j<11->F j=base j)->Q' w'->ay X V ge Stop M d (G (Ur F (lR dX []::kr) lb) cs) w') :
 ay X V ge Stop M d (G (Ur base (lM (rR 4 dX gc)::kr) lb) cs) w:=by
 have W:(V.g==0)=ge:=R.hg;refine .draw R.hc (by rw[R.hP];exact mixed) λt=>?_;have Y:G ⟨87,zj 20 base,lR dX (jM r6 dX t)::kr,[],qt,jt,f8 lb⟩ cs=DY (zJ X.Tb b5 n p vs) base lb cs (ip dX.size ge) (n6 r6 dX dX.size t (ip dX.size ge) []):=by
  unfold DY Ur;have:Jw (zJ X.Tb b5 n p vs) base (ip dX.size ge)=base:=by
   funext j;unfold Jw;rw[if_neg];intro h;have:=h.2.2;rw[bM,o7]at this;grind
  rw[this];rfl
 rw[Y];refine ay.lin (I:=λlisted w'=>listed.size=9/\Y1 listed/\(if listed.getD 8 ge=gc then Q' w' else Q w')) (λlisted w' Z B=>?_) (λlisted i b w' hi B k=>?_) dX.size t _ w ⟨by rw[Array.size_replicate];exact Pw,Py _,?_⟩ ?_
 .have ha:=aj8 Z B.1;have s:=B.2.2;rw[if_pos (ha 8 ab)]at s;exact U _ _ (λj x=>oS x) s
 .obtain⟨D,h0,hs,a3,O,E,H,J⟩:=Y0 hi;obtain⟨fW,y,s⟩:=B;have K:listed.getD 8 ge=ge:=by
   cases K:listed.getD 8 ge with
   |false=>rfl
   |true=>
    have:=Up y K i D;grind
  rw[if_neg (by rw[K];simp)]at s;have WY:=Uq y hs ⟨a3,O,E,H,J⟩;have next:∀w',i≠8->Q w'->(h8 listed i gc).size=9/\Y1 (h8 listed i gc)/\(if(h8 listed i gc).getD 8 ge=gc then Q' w' else Q w'):=λw' bu s=>by
   simp_all
  have hl:=R.live _ s;have L:∀{w:aP}{a:aL}{v:a9},hz w a=f8 v->a.block<w.heap.size:=λ{w a v}h=>by
   unfold hz at h;grind
  have z:∀u,Q u->∀j,j<5->hz u ((⟨b5,0,f9⟩:aL).add j)=f8 (vs.getD j undef):=λu h j x=>by
   obtain⟨fz,h⟩:=R.b5.2 _ h;have zK:j<vs.size:=by rw[R.hv.1];exact x
   rw[dY,ei,cell_of_row _ _ _ _ _ _ h];simp[zK]
  have Ua:((nb 5).map λj=>vs.getD j undef).toArray=vs:=by
   apply io
   .simp[R.hv.1]
   .intro j h1 C;simp[C]
  obtain rfl|rfl|rfl|rfl|rfl|rfl|rfl|rfl|rfl:i=0\/i=1\/i=2\/i=3\/i=4\/i=5\/i=6\/i=7\/i=8:=ab
  .obtain⟨o,l,e1,m,q⟩:=jL adz;refine .qM (v:=zJ X.Tb b5 n p vs 0) R.hc hl (Us l q (by rw[e1];rfl)) e1 ((NP ab).t ((oS ab).t S)) (λu r=>?_) (pp ⟨R.bt.1,R.st _ R.bt.1⟩) ?_
   .have:=R.bt.2 _ (R.hQ _ _ s r);exact⟨l8 (by rw[R.hP];exact WW) rfl this,L this⟩
   .rw[vm l m ab hs];grind
  .obtain⟨o,l,e1,m,q⟩:=jL adA;refine .qM (v:=zJ X.Tb b5 n p vs 1) R.hc hl (Us l q (by rw[e1];rfl)) e1 ((NP ab).t ((oS ab).t C)) (λu r=>?_) (pp ⟨R.bg.1,R.st _ R.bg.1⟩) ?_
   .have:=R.bg.2 _ (R.hQ _ _ s r);exact⟨l8 (by rw[R.hP];exact ty3) rfl this,L this⟩
   .rw[vm l m ab hs];grind
  .obtain⟨o,l,e1,m,q⟩:=jL adB;refine .DW (g':=fin (DY (zJ X.Tb b5 n p vs) base lb cs listed (2::b)) (zJ X.Tb b5 n p vs 2)) R.hc rfl (λw=>?_) rfl ?_
   .rw[W,R.hP];have hx:(Ur (Jw (zJ X.Tb b5 n p vs) base listed) (lR dX (2::b)::kr) lb).eval (rr 5)=oh (f8 ⟨b5,0,f9⟩):=(NP ab).t ((oS ab).t N);exact DX (Us l q (by rw[e1];rfl)) e1 hx
   .rw[vm l m ab hs];grind
  .obtain⟨o,l,e1,m,q⟩:=jL adC;refine .qM (v:=zJ X.Tb b5 n p vs 3) R.hc hl (Us l q (by rw[e1];rfl)) e1 ((NP ab).t (kN (i:=2) ab (a3 rfl))) (λu r=>?_) (pu R.b5.1) ?_
   .have h:=z _ (R.hQ _ _ s r) 0 ab;have e:vs.getD 0 undef=n8 nt (p:Int):=by rw[bM,R.hv.2.1];rfl
    rw[e,dY]at h;exact⟨l8 (by rw[R.hP];exact ty3) rfl h,L h⟩
   .rw[vm l m ab hs];grind
  .obtain⟨o,l,e1,m,q⟩:=jL adD;refine .qM (v:=zJ X.Tb b5 n p vs 4) R.hc hl (Us l q (by rw[e1];rfl)) e1 ((NP ab).t ((oS ab).t N)) (λu r=>?_) (pu R.b5.1) ?_
   .have A:=R.hQ _ _ s r;have:=sH (P:=X.P) (w:=u) (t:=73) (a:=⟨b5,0,f9⟩) (n:=5) (f:=λj=>vs.getD j undef) (by rw[R.hP];exact aj6) rfl (by rw[R.hP];exact Un) (z _ A);rw[Ua]at this;obtain⟨fz,hb⟩:=R.b5.2 _ A;exact⟨this,(bR.1 hb).1⟩
   .rw[vm l m ab hs];grind
  .obtain⟨o,l,e1,m,q⟩:=jL adE;refine .DW (g':=fin (DY (zJ X.Tb b5 n p vs) base lb cs listed (5::b)) (zJ X.Tb b5 n p vs 5)) R.hc rfl (λw=>?_) rfl ?_
   .exact zI (Us l q (by rw[e1];rfl)) e1 ((NP ab).t (kN (i:=0) ab (O rfl)))
   .rw[vm l m ab hs];grind
  .obtain⟨o,l,e1,m,q⟩:=jL adF;refine .DW (g':=fin (DY (zJ X.Tb b5 n p vs) base lb cs listed (6::b)) (zJ X.Tb b5 n p vs 6)) R.hc rfl (λw=>?_) rfl ?_
   .have x1:(DY (zJ X.Tb b5 n p vs) base lb cs listed (6::b)).frame.eval (rr 16)=oh (f8 ⟨X.Tb,0,f9⟩):=(NP ab).t (kN (i:=5) ab (E rfl).1);have x2:(DY (zJ X.Tb b5 n p vs) base lb cs listed (6::b)).frame.eval (rr 12)=n8 nt (n:Int):=(NP ab).t (kN (i:=1) ab (E rfl).2);have:=qK (P:=X.P) (mn:=V.g==0) (w:=w) (Us l q (by rw[e1];rfl)) e1 x1 x2 (by rw[R.hP];exact adJ) (by rw[R.hP];exact adK) ab (by have:=R.hn;omega);rw[dY]at this;simpa[zJ]using this
   .rw[vm l m ab hs];grind
  .obtain⟨o,l,e1,m,q⟩:=jL adG;refine .DW (g':=fin (DY (zJ X.Tb b5 n p vs) base lb cs listed (7::b)) (zJ X.Tb b5 n p vs 7)) R.hc rfl (λw=>?_) rfl ?_
   .have x1:(DY (zJ X.Tb b5 n p vs) base lb cs listed (7::b)).frame.eval (rr 17)=oh (f8 ⟨X.Tb,n*25,f9⟩):=(NP ab).t (kN (i:=6) ab (H rfl).1);have x2:(DY (zJ X.Tb b5 n p vs) base lb cs listed (7::b)).frame.eval (rr 14)=n8 nt (p:Int):=(NP ab).t (kN (i:=3) ab (H rfl).2);have:=qK (P:=X.P) (mn:=V.g==0) (w:=w) (Us l q (by rw[e1];rfl)) e1 x1 x2 (by rw[R.hP];exact adM) (by rw[R.hP];exact Un) ab (by have:=R.hp;omega);rw[dY]at this;simpa[zJ]using this
   .rw[vm l m ab hs];grind
  .obtain⟨o,l,e1,m,q⟩:=jL adH;refine .Po (v:=o6 vs) R.hc (Us l q (by rw[e1];rfl)) e1 ((NP ab).t (kN (i:=7) ab (J rfl).1)) ((NP ab).t (kN (i:=4) ab (J rfl).2)) hl (by rw[R.hP,Un];simp[n7,R.hv.1]) (by rw[R.fW];simp only[n7,R.hv.1];have:=R.hn;have:=R.hp;omega)
    (λc hc=>R.hv.2.2 c hc) (λj x=>R.row j (by simpa[n7,R.hv.1]using x)) λu w2 r l1 l2 l3 l4 l5=>?_
   have hQ':=R.hQ' u w2 (R.hQ _ _ s r) l1 l2 l3 (λj x=>by simpa[n7]using l4 j (by simpa[n7,R.hv.1]using x)) (λj x=>l5 j (by simpa[n7,R.hv.1]using x));rw[adN l m];simp_all
 .rw[if_neg]
  .exact T
  .rw[bM,o7];split<;>simp
 .unfold left;grind
end
end Go.Proofs
namespace Go.Proofs
open Go.Ph Go.Conc
section
variable (W bc bg bm bt:Nat)(c:a9)(n:Int)(cl:a9)(v:a9)(lb b5:Nat)(cs:List dL)
def q5(f:Nat->a9):bj:=T5 (G ⟨87,qJ W bc bg bm bt c n cl v (pt b5) f,lR dX []::kr,[],qt,jt,f8 lb⟩ cs)
def q_5(f:Nat->a9):vN (G ⟨87,qJ W bc bg bm bt c n cl v (pt b5) f,lR dX []::kr,[],qt,jt,f8 lb⟩ cs) (q5 W bc bg bm bt c n cl v lb b5 cs f):=jK (by delta q5;rfl)
def c1(f:Nat->a9):dL:=(q5 W bc bg bm bt c n cl v lb b5 cs f).callers.headD default
def aj9(f:Nat->a9):q5 W bc bg bm bt c n cl v lb b5 cs f=G (ka PP 90 #[pt bm] jt) (c1 W bc bg bm bt c n cl v lb b5 cs f::cs):=ae
def q6(f:Nat->a9):bj:=T5 (G (jQ (c1 W bc bg bm bt c n cl v lb b5 cs f) (ob #[])) cs)
def q_6(f:Nat->a9):vN (G (jQ (c1 W bc bg bm bt c n cl v lb b5 cs f) (ob #[])) cs) (q6 W bc bg bm bt c n cl v lb b5 cs f):=jK (by delta q6;rfl)
def aja(f:Nat->a9):q6 W bc bg bm bt c n cl v lb b5 cs f=G ⟨87,qJ W bc bg bm bt c n cl v (pt b5) (px 19 (ob #[]) f),[],[],qt,jt,f8 lb⟩ cs:=ae
def Pz(b:Nat):List d9:={ target:=rP b,args:=#[] }::rG W
def e1(b:Nat):bj:=T5 (G ⟨87,qJ W bc bg bm bt c n cl undef undef (λ_=>undef),kk,Pz W b,qt,jw,f9⟩ [ez PP])
def e_1(b:Nat):vN (G ⟨87,qJ W bc bg bm bt c n cl undef undef (λ_=>undef),kk,Pz W b,qt,jw,f9⟩ [ez PP]) (e1 W bc bg bm bt c n cl b):=jK (by delta e1;rfl)
def ajb(b:Nat):e1 W bc bg bm bt c n cl b=G ⟨87,qJ W bc bg bm bt c n cl undef undef (λ_=>undef),[],Pz W b,qu,jw,f9⟩ [ez PP]:=ae
def e_2:uo PP ge 1 (G ⟨87,qJ W bc bg bm bt c n cl undef undef (λ_=>undef),[],rG W,qu,jw,f9⟩ [ez PP])/\∀d,YL PP ge 1 d (G ⟨87,qJ W bc bg bm bt c n cl undef undef (λ_=>undef),[],rG W,qu,jw,f9⟩ [ez PP])=d:=⟨⟨λw=>ae,ae⟩,λd=>ae⟩
def ajc:adv PP ge 1 (G ⟨87,qJ W bc bg bm bt c n cl undef undef (λ_=>undef),[],rG W,qu,jw,f9⟩ [ez PP])=dE W (qJ W bc bg bm bt c n cl undef undef (λ_=>undef)) []:=ae
end
end Go.Proofs
namespace Go.Proofs
open Go.bJ Go.Ph
def F3:bC->Bool:=λf=>f==58||f==84||f==85
def Y2:(nb Tryz.progTables.types.size).all (BI pg F3)=gc:=ae
def PD:dM pg F3 ZZ:=Jf (dk _) Y2 ae
def adQ:Jg pg ph F3 NN ZZ 163=gc:=ae
def PE:Tryz.funcs.size<=cn:=of_decide_eq_true ae
def Y3:((ph[58]?).any (·.norace)=ge/\(ph[84]?).any (·.norace)=ge)/\(ph[85]?).any (·.norace)=ge:=⟨⟨ae,ae⟩,ae⟩
def PF:PP.funcs.all (λf=>((f.body.map readies).getD []).isEmpty)=gc:=ae
def Uu(g:Nat):PP.stepOf g=f9:=by
 unfold Program.stepOf;rw[Array.findIdx?_eq_none_iff];intro f hf;have:=lr.1 PF f hf
 cases h:f.body with
 |none=>rfl
 |some c=>
  grind
def Uv:PP.follows .staticDataAhead=gc:=ae
def Y4(fr:dL)(cs:List dL)(d:Option Dying)(g:Nat)(w:aP):∃o w1 es,early PP fr cs d g w=kq o w1 es:=by
 unfold early;simp only[Uv,Uu,nd,py,if_false];exact⟨_,_,_,rfl⟩
def adR:zG pg ph ph F3 ZZ:=by
 have h:Fits pg ph ph F3 NN ZZ:=BJ PD (n:=163) (λf hf=>by
  simp only[F3,gD,beq_iff_eq]at hf
  grind) (λf _=>rfl) (λf a=>by cases a) adQ PE
 refine⟨h.zero,h.fns,λf hf=>h.same f hf rfl,ao,λf hf=>?_,Y4⟩;simp only[F3,gD,beq_iff_eq]at hf
 rcases hf with(rfl|rfl)|rfl
 .exact Y3.1.1
 .exact Y3.1.2
 .exact Y3.2
end Go.Proofs
namespace Go.Ph
open Go.Conc Go.ConcN Go.bJ
variable {C L O q:Nat}{J:c9}
section
variable {T:dx}{fB fA:Array cv}{F:bC->Bool}{Z:a8->Bool}{X:Fix}{V:Vw}{Bs:Nat}{bot:dL}{up:List dL}{ρ ρ':Ren}{M M':Own}{g g':bj}{wL w w':aP}{v v':a9}
def iG.same(h:iG T fB fA F Z bot up X V Bs ρ M g wL g' w)(hs:w.heap.size<=w'.heap.size)(hb:∀a b,ρ a b->w'.heap[b]?=w.heap[b]?):iG T fB fA F Z bot up X V Bs ρ M g wL g' w':=
 ⟨h.inj,⟨h.wr.pK,da h.wr.gN hs,h.wr.base,λ{a b}c d=>by
   obtain⟨o,e,f,i,j⟩:=h.wr.obj c d;grind,λ{a b}c d=>by
   obtain⟨o,e,f,i,j⟩:=h.wr.low c d
   grind⟩,h.g,h.own,h.clear,λb hb=>⟨bT (h.sG b hb).1 hs,(h.sG b hb).2⟩⟩
def iG.more(h:iG T fB fA F Z bot up X V Bs ρ M g wL g' w)(e:∀b,M b->M' b)(hc:Clear X V M')(hd:∀b,V.st b->¬M' b):iG T fB fA F Z bot up X V Bs ρ M' g wL g' w:=
 ⟨h.inj,h.wr,h.g,⟨λa b c d=>(h.own.st a b c d).imp id (e b),λa b c d=>e b (h.own.own a b c d)⟩,hc,λb hb=>⟨(h.sG b hb).1,hd b hb⟩⟩
def iG.apart(h:iG T fB fA F Z bot up X V Bs ρ M g wL g' w)(d:ρ q C):jm X C:=by
 rcases gg q Bs with c|c
 .exact(h.own.st q C d c).elim (h.clear.st C) (h.clear.own C)
 .exact h.clear.own C (h.own.own q C d c)
def _root_.Go.bJ.GC.fin(h:GC T fB fA F Z bot up ρ g g')(hv:VR F ρ v v'):GC T fB fA F Z bot up ρ (fin g v) (fin g' v'):=by
 obtain⟨a,⟨l,b,c,d,e,f⟩,i,j,k,m,n,o⟩:=h;exact⟨a.finish hv,⟨l,b,c,d,e,f.top (bZ _ _)⟩,i,j,k,m,n,o⟩
def iG.fin(h:iG T fB fA F Z bot up X V Bs ρ M g wL g' w)(hv:VR F ρ v v'):iG T fB fA F Z bot up X V Bs ρ M (fin g v) wL (fin g' v') w:=
 ⟨h.inj,h.wr,h.g.fin hv,h.own,h.clear,h.sG⟩
def _root_.Go.bJ.GC.op(h:GC T fB fA F Z bot up ρ g g'){o:ce}(p:bF g=f8 o):bF g'=f8 o/\∀j,VR F ρ (g.frame.eval (rr j)) (g'.frame.eval (rr j)):=by
 obtain⟨a,⟨l,r,s,t,u,x⟩,y,c,z,d,A,e⟩:=h;obtain⟨fn,tmps,ops,i,f,k,defers,kind,B,cs,rfl,k1,k2,k3,C⟩:=gF p;obtain⟨⟨D,q,E,H,I,J,K⟩,cs',st',Bl,Bm⟩:=g';have b:=a.todo;have m:=a.mode;have n:=a.bX;simp only at b m n c d e;subst c d e n;cases m
 cases b with
 |cons hi b=>
  cases hi with
  |inRegion _ _ L=>
   have hy:cf ops q=cf ops tmps:=funext λj=>(oo ops a.tmps j).y;refine⟨?_,λj=>VA.getD a.tmps j .undef⟩;simp only[bF,Option.isNone_none];grind
def iG.back(h:iG T fB fA F Z bot up X V Bs ρ M g wL g' w)(j:g.frame.mode=qu)(hd:g.frame.defers=[])(hc:g.callers=[bot]) :
 ∃fr',g'=G fr' up/\fr'.fn=g.frame.fn/\fr'.mode=qu/\fr'.kind=jt/\fr'.defers=[]/\VA F ρ g.frame.tmps fr'.tmps:=by
 obtain⟨b,⟨l,o,p,d,k,q⟩,r,e,s,f,t,i⟩:=h.g;obtain⟨fr',cs',n,u,x⟩:=g';simp only at e f i d;subst e f i d;have hl:l=[]:=by
  simp_all
 subst hl;cases k;have c:=b.mode;have a:=b.defers;simp only at c a;rw[j]at c;rw[hd]at a;refine⟨fr',by simp[G],b.fn,?_,b.bX,?_,b.tmps⟩
 .generalize fr'.mode=m at c;cases c;rfl
 .generalize fr'.defers=m at a;cases a;rfl
def oT{n:Int}(h:VR F ρ (n8 J n) v):v=n8 J n:=by cases h;rfl
def PG(d:ρ.bw q)(h:VR F ρ (oh (f8 ⟨C,O,f9⟩)) v)(e:ρ C L):v=oh (f8 ⟨L,O,f9⟩):=by
 cases h with
 |@ptr _ f x=>
  obtain⟨b',i,j⟩:=f;obtain⟨x1,x2,x3⟩:=x;simp only at x1 x2 x3;subst x2 x3;rw[d.fn x1 e]
def Jy(h:VR F ρ (oh (f8 ⟨q,C,f9⟩)) v):∃b,ρ q b/\v=oh (f8 ⟨b,C,f9⟩):=by
 cases h with
 |@ptr _ c x=>
  obtain⟨b',d,e⟩:=c;obtain⟨x1,x2,x3⟩:=x;grind
def xL(e:ρ.bw q){l c:Nat}(h:VR F ρ (ov (f8 ⟨C,O,f9⟩) l c) v)(f:ρ C L)(hl:0<l):v=ov (f8 ⟨L,O,f9⟩) l c:=by
 cases h with
 |dK=>grind
 |@slice _ i _ _ x=>
  obtain⟨b',j,k⟩:=i;obtain⟨x1,x2,x3⟩:=x;simp only at x1 x2 x3;subst x2 x3;rw[e.fn x1 f]
def PI(k:ρ.bw q)(hF:∀f,F f=gc->f<cn)(h:VR F ρ (n9 (rs (cn+0)) #[] #[]) v)(m:ρ 0 C):v=n9 (rt C) #[] #[]:=by
 generalize n:(Fn.func (cn+0))=fx at h
 cases h with
 |@func fn r a d s c h e i=>
  have e1:d=#[]:=by cases o:d.toList with|nil=>grind|cons x y=>rw[o]at e;cases e
  have p:c=#[]:=by cases j:c.toList with|nil=>grind|cons x y=>rw[j]at i;cases i
  subst e1 p
  cases h with
  |func f hf=>
   grind
  |yield hl=>cases n
  |@spec l t hl=>
   have:l=0:=by
    grind
   subst this;rw[k.fn hl m]
def Y5{a:Array a9}(h:VR F ρ (o6 a) v):∃a',v=o6 a'/\VA F ρ a a':=by
 cases h with
 |agg h=>exact⟨_,rfl,h⟩
def Uw{l:List Int}{l':List a9}(h:cU F ρ (l.map (n8 J)) l'):l'=l.map (n8 J):=by
 induction l generalizing l' with
 |nil=>cases h;rfl
 |cons n l c=>
  cases h with
  |cons a b=>rw[oT a,c b];rfl
def Ux(k:ρ.bw q){f:bC}(hF:∀f,F f=gc->f<cn)(hf:f<cn)(h:VR F ρ (n9 (rs f) #[] #[oh (f8 ⟨C,0,f9⟩),oh (f8 ⟨L,0,f9⟩)]) v) :
 ∃a' b',ρ C a'/\ρ L b'/\v=n9 (rs f) #[] #[oh (f8 ⟨a',0,f9⟩),oh (f8 ⟨b',0,f9⟩)]:=by
 generalize c:(Fn.func f)=fx at h
 cases h with
 |@func fn t x d y y' h e i=>
  have e1:d=#[]:=by cases l:d.toList with|nil=>grind|cons x y=>rw[l]at e;cases e
  subst e1;generalize hy:y'.toList=u at i
  cases i with
  |cons m n=>
   cases n with
   |cons o p=>
    cases p;obtain⟨a',j,rfl⟩:=Jy m;obtain⟨b',r,rfl⟩:=Jy o;have s:y'=#[oh (f8 ⟨a',0,f9⟩),oh (f8 ⟨b',0,f9⟩)]:=by
     grind
    subst s;refine⟨a',b',j,r,?_⟩
    cases h with
    |func f hf=>cases c;rfl
    |yield hl=>cases c
    |spec hl=>
     grind
end
end Go.Ph
namespace Go.Proofs
open Go.Ph Go.Conc Go.bJ
variable {C J q:Nat}
def yieldOf(g:bj):Option (Array a9):=match bF g with
 |some o=>match o.op with
  |qN c=>match c.callee with
   |rk x=>match g.frame.eval x with
    |n9 (rs f) _ _=>@gf (λ_=>Option (Array a9)) f9 (f8 (c.args.map g.frame.eval)) (gE f cn)
    |_=>f9
   |_=>f9
  |_=>f9
 |none=>f9
def PK(g:bj):Option (Nat×a9×a9):=match bF g with
 |some o=>match o.op with
  |rf t x i=>@gf (λ_=>Option (Nat×a9×a9)) f9 (f8 (0,g.frame.eval x,g.frame.eval i)) (gE t 25)
  |q7 t x=>@gf (λ_=>Option (Nat×a9×a9)) (@gf (λ_=>Option (Nat×a9×a9)) f9 (f8 (2,g.frame.eval x,undef)) (gE t 49)) (f8 (1,g.frame.eval x,undef)) (gE t 51)
  |_=>f9
 |none=>f9
def oU(g:bj):Bool:=!BS g||(yieldOf g).isSome||(PK g).isSome
structure jB where
 l:Int
 p:Int
 so:Option aL
 sl:Nat
 sc:Nat
 qo:Option aL
 ql:Nat
 qc:Nat
 pb:Nat
 po:Nat
 cp:Nat
 gb:Nat
 go:Nat
 ng:Nat
 cg:Nat
 pe:Nat->ByteArray
 pn:Nat->Nat->Int
 pl:Nat->Option aL
 pc:Nat->Nat
 pd:Nat->Nat
section
variable (np s:Nat)(D:jB)(O:Nat->Obj)(n dl:Int)(gn:ByteArray)(x:Nat)
def cA:Array a9:=#[n8 nt D.l,n8 nt D.p,ov D.so D.sl D.sc,ov D.qo D.ql D.qc,ov (f8 ⟨D.pb,D.po,f9⟩) np D.cp,ov (f8 ⟨D.gb,D.go,f9⟩) D.ng D.cg]
def pA(i:Nat):Array a9:=#[.string (D.pe i),n8 nt (D.pn i 1),n8 nt (D.pn i 2),n8 nt (D.pn i 3),n8 nt (D.pn i 4),n8 nt (D.pn i 5),n8 nt (D.pn i 6),n8 nt (D.pn i 7),n8 nt (D.pn i 8),n8 nt (D.pn i 9),n8 nt (D.pn i 10),ov (D.pl i) (D.pc i) (D.pd i)]
def gA:Array a9:=#[.string gn,n8 nt (s:Int),n8 nt dl]
def bY(r:Nat):Nat:=(s+r) % np
def zs(Z:Nat->Obj):Nat->List Obj->List Obj
 |0,l=>l
 |1,l=>Z 0::Z 1::Z 2::Z 3::Z 4::Z 5::l
 |2,l=>Z 0::Z 1::Z 2::Z 3::Z 4::Z 5::Z 6::Z 7::Z 8::Z 9::Z 10::Z 11::l
 |3,l=>Z 0::Z 1::Z 2::Z 3::Z 4::Z 5::Z 6::Z 7::Z 8::Z 9::Z 10::Z 11::Z 12::Z 13::Z 14::Z 15::Z 16::Z 17::l
 |_,l=>Z 0::Z 1::Z 2::Z 3::Z 4::Z 5::Z 6::Z 7::Z 8::Z 9::Z 10::Z 11::Z 12::Z 13::Z 14::Z 15::Z 16::Z 17::Z 18::Z 19::Z 20::Z 21::Z 22::Z 23::l
def wL0(a:Nat)(O:Nat->Obj):aP:={ (default:aP) with heap:=#[O 0,O 1,O 2,O 3,O 4,O 5,O 6,O 7,O 8,O 9] }
def gL0:bj:=G (ka PP 58 #[o6 (cA np D),n8 nt n] jt) [default]
def A0:bj×aP:=Jp PP oU 300 (gL0 np D n) (wL0 np O)
def gL1(a:Nat):bj:=G (ka PP 84 #[n9 (rs (cn+0)) #[] #[],oh (f8 ⟨10,0,f9⟩),oh (f8 ⟨11,0,f9⟩)] jt) [default]
def A1:bj×aP:=Jp PP oU 300 (gL1 np) (A0 np D O n).2
def A2:bj×aP:=Jp PP oU 300 (fin (A1 np D O n).1 (oh (f8 ⟨D.gb,x,f9⟩))) (A1 np D O n).2
def A3:bj×aP:=Jp PP oU 300 (fin (A2 np D O n x).1 (o6 (gA s dl gn))) (A2 np D O n x).2
def Y6:List dU:=(A3 3 0 ⟨0,0,f9,0,0,f9,0,0,0,0,3,0,0,2,2,λ_=>pi,λ_ _=>0,λ_=>f9,λ_=>0,λ_=>0⟩ (λ_=>na f9) 0 0 pi 0).1.frame.todo
def aje(np a r b c:Nat)(f:Nat->a9):Array a9:=#[n9 (rs (cn+0)) #[] #[],oh (f8 ⟨10,0,f9⟩),oh (f8 ⟨11,0,f9⟩),f 3,oh (f8 ⟨12,0,f9⟩),oh (f8 ⟨13,0,f9⟩),n9 (rs 85) #[] #[oh (f8 ⟨13,0,f9⟩)],n8 nt (a:Int),f 8,f 9,f 10,f 11,f 12,f 13,f 14,f 15,f 16,f 17,f 18,f 19,f 20,f 21,f 22,f 23,f 24,f 25,f 26,n8 nt (np:Int),n8 nt (r:Int),f 29,f 30,f 31,f 32,f 33,oh (f8 ⟨b,c+12*a,f9⟩),f 35,f 36,f 37,f 38,f 39,f 40,f 41,f 42,f 43,f 44,f 45,f 46,f 47,f 48,f 49,f 50,f 51,f 52,f 53,f 54,f 55,f 56,f 57,f 58,f 59,f 60]
def gR(r:Nat)(f:Nat->a9):bj:=G ⟨84,aje np (bY np s r) r D.pb D.po f,Y6,[],qt,jt,f9⟩ [default]
def wR(r:Nat)(c:Int×Int)(Z:Nat->Obj):aP:={ (default:aP) with heap:=(O 0::O 1::O 2::O 3::O 4::O 5::O 6::O 7::O 8::O 9::m8 (cA np D) 78::m8 #[n8 nt n] 3::m8 (gA s dl gn) 51::m8 #[n8 nt c.1,n8 nt c.2] 30::zs Z r []).toArray }
def Y7:jB:=⟨0,0,f9,0,0,f9,0,0,0,0,3,0,0,2,2,λ_=>pi,λ_ _=>0,λ_=>f9,λ_=>0,λ_=>0⟩
def Y8:List dU:=(Jp PP oU 600 (fin (A3 3 0 Y7 (λ_=>na f9) 0 0 pi 0).1 (o6 (pA Y7 0))) (A3 3 0 Y7 (λ_=>na f9) 0 0 pi 0).2).1.frame.todo
def l9(r:Nat)(c:Int×Int):Int×Int:=(nq nt (c.1+D.pn (bY np s r) 7),nq nt (c.2+D.pn (bY np s r) 8))
def cG(r:Nat)(c:Int×Int):Array a9:=#[n8 nt ((bY np s r:Nat):Int),n8 nt c.1,n8 nt c.2,n8 nt (l9 np s D r c).1,n8 nt (l9 np s D r c).2]
def FY(np a r:Nat)(v:a9)(f:Nat->a9):Array a9:=#[n9 (rs (cn+0)) #[] #[],oh (f8 ⟨10,0,f9⟩),oh (f8 ⟨11,0,f9⟩),f 3,oh (f8 ⟨12,0,f9⟩),oh (f8 ⟨13,0,f9⟩),n9 (rs 85) #[] #[oh (f8 ⟨13,0,f9⟩)],n8 nt (a:Int),oh (f8 ⟨14+6*r,0,f9⟩),f 9,f 10,f 11,f 12,f 13,f 14,f 15,f 16,f 17,f 18,f 19,f 20,f 21,f 22,f 23,f 24,f 25,f 26,n8 nt (np:Int),n8 nt (r:Int),f 29,f 30,f 31,f 32,f 33,f 34,f 35,f 36,f 37,f 38,f 39,f 40,f 41,f 42,f 43,n9 (rs (cn+0)) #[] #[],v,f 46,f 47,f 48,f 49,f 50,f 51,f 52,f 53,f 54,f 55,f 56,f 57,f 58,f 59,f 60]
def gY(r:Nat)(c:Int×Int)(f:Nat->a9):bj:=G ⟨84,FY np (bY np s r) r (o6 (cG np s D r c)) f,Y8,[],qt,jt,f9⟩ [default]
def wY(r:Nat)(c:Int×Int)(Z:Nat->Obj):aP:={ (default:aP) with heap:=(O 0::O 1::O 2::O 3::O 4::O 5::O 6::O 7::O 8::O 9::m8 (cA np D) 78::m8 #[n8 nt n] 3::m8 (gA s dl gn) 51::m8 #[n8 nt c.1,n8 nt c.2] 30::zs Z r [m8 (pA D (bY np s r)) 49,Z (6*r+1),Z (6*r+2),Z (6*r+3)]).toArray }
def Yd(g:bj)(w:aP)(r:Nat):bj×aP:=Jp PP oU 600 (fin g (o6 (pA D (bY np s r)))) w
def Nx(g:bj)(w:aP):bj×aP:=Jp PP oU 300 (fin g (ol gc)) w
def WZ(r:Nat)(c:Int×Int):Int×Int:=(nq nt ((l9 np s D r c).1+D.pn (bY np s r) 9),nq nt ((l9 np s D r c).2+D.pn (bY np s r) 10))
abbrev Good(b:Nat)(m:Nat)(g:bj)(w:aP):Prop:=∀a d,DO PP (10) oU a d m g w=DQ PP (10) oU a d m g w
structure Y9(f:bC)(g:bj):Prop where
 fn:g.frame.fn=f
 mode:g.frame.mode=qu
 kind:g.frame.kind=jt
 defers:g.frame.defers=[]
 callers:g.callers=[default]
end
def alR(q:bj×aP):Nat->a9:=λi=>q.1.frame.tmps[i]!
def alS(q:bj×aP):Nat->Obj:=λi=>q.2.heap[14+i]!
structure j0(np s r:Nat):Prop where
 c3:∀D f,(bF (gR np s D r f)).map (·.op)=f8 (q7 49 (rr 34))/\(gR np s D r f).frame.eval (rr 34)=oh (f8 ⟨D.pb,D.po+12*bY np s r,f9⟩)
 e4:∀D O n dl gn c f Z,Good np 600 (fin (gR np s D r f) (o6 (pA D (bY np s r)))) (wR np s D O n dl gn r c Z)
 y:∀D O n dl gn c f Z,Yd np s D (gR np s D r f) (wR np s D O n dl gn r c Z) r=(gY np s D r c (alR (Yd np s D (gR np s D r f) (wR np s D O n dl gn r c Z) r)),wY np s D O n dl gn r (l9 np s D r c) (alS (Yd np s D (gR np s D r f) (wR np s D O n dl gn r c Z) r)))
 c4:∀D c f,(bF (gY np s D r c f)).map (·.op)=f8 (qN { callee:=rk (rr 44),args:=#[rr 45],argTypes:=#[73] })/\(gY np s D r c f).frame.eval (rr 44)=n9 (rs (cn+0)) #[] #[]/\(gY np s D r c f).frame.eval (rr 45)=o6 (cG np s D r c)
 e5:∀D O n dl gn c c' f Z,Good np 300 (fin (gY np s D r c f) (ol gc)) (wY np s D O n dl gn r c' Z)
def j0.y'(h:j0 q C J)(D:jB)(O n dl gn c f Z):∃f' a,Yd q C D (gR q C D J f) (wR q C D O n dl gn J c Z) J=(gY q C D J c f',wY q C D O n dl gn J (l9 q C D J c) a):=⟨_,_,h.y D O n dl gn c f Z⟩
structure mg(np s r:Nat):Prop where
 next:∀D O n dl gn c f Z,Nx (gY np s D r c f) (wY np s D O n dl gn r (l9 np s D r c) Z)=(gR np s D (r+1) (alR (Nx (gY np s D r c f) (wY np s D O n dl gn r (l9 np s D r c) Z))),wR np s D O n dl gn (r+1) (WZ np s D r c) (alS (Nx (gY np s D r c f) (wY np s D O n dl gn r (l9 np s D r c) Z))))
def mg.next'(h:mg q C J)(D:jB)(O n dl gn c f Z):∃f' a,Nx (gY q C D J c f) (wY q C D O n dl gn J (l9 q C D J c) Z)=(gR q C D (J+1) f',wR q C D O n dl gn (J+1) (WZ q C D J c) a):=⟨_,_,h.next D O n dl gn c f Z⟩
structure xM(np s r:Nat):Prop where
 back:∀D O n dl gn c c' f Z,Y9 84 (Nx (gY np s D r c f) (wY np s D O n dl gn r c' Z)).1
structure FE(np s:Nat):Prop where
 e0:∀D O n,Good np 300 (gL0 np D n) (wL0 np O)
 b0:∀D O n,Y9 58 (A0 np D O n).1/\(A0 np D O n).1.frame.tmps.getD 4 undef=n9 (rs 84) #[] #[oh (f8 ⟨10,0,f9⟩),oh (f8 ⟨11,0,f9⟩)]
 h0:∀D O n,(A0 np D O n).2.heap[0]?=f8 (O 0)
 e1:∀D O n,Good np 300 (gL1 np) (A0 np D O n).2
 c1:∀D O n,(bF (A1 np D O n).1).map (·.op)=f8 (rf 25 (rr 12) (rr 13))/\(A1 np D O n).1.frame.eval (rr 12)=ov (f8 ⟨D.gb,D.go,f9⟩) D.ng D.cg/\(A1 np D O n).1.frame.eval (rr 13)=n8 nt n
 e2:∀D O n x,Good np 300 (fin (A1 np D O n).1 (oh (f8 ⟨D.gb,x,f9⟩))) (A1 np D O n).2
 c2:∀D O n x,(bF (A2 np D O n x).1).map (·.op)=f8 (q7 51 (rr 14))/\(A2 np D O n x).1.frame.eval (rr 14)=oh (f8 ⟨D.gb,x,f9⟩)
 e3:∀D O n dl gn x,Good np 300 (fin (A2 np D O n x).1 (o6 (gA s dl gn))) (A2 np D O n x).2
 r0:∀D O n dl gn x,A3 np s D O n dl gn x=(gR np s D 0 (alR (A3 np s D O n dl gn x)),wR np s D O n dl gn 0 (dl,dl) (alS (A3 np s D O n dl gn x)))
 round:∀r,r<np->j0 np s r
 next:∀r,r+1<np->mg np s r
 last:∀r,r+1=np->xM np s r
def FE.r0'(h:FE q C)(D:jB)(O n dl gn x):∃f' a,A3 q C D O n dl gn x=(gR q C D 0 f',wR q C D O n dl gn 0 (dl,dl) a):=⟨_,_,h.r0 D O n dl gn x⟩
end Go.Proofs
