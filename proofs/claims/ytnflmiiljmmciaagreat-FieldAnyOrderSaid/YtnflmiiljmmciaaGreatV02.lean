/- Part of the proof of FieldAnyOrder. -/
import Derived.Test.YtnflmiiljmmciaaGreatV01
import Derived.Conc.AppendEvents3
import Derived.Conc.AtomicLaws2
import Derived.Conc.ClockLaws
import Derived.Conc.CrowdBase
import Derived.Conc.CrowdTrace
import Derived.Conc.MarkLaws
import Derived.Conc.MuSpec
import Derived.Conc.MuStep0
import Derived.Conc.MuStops
import Derived.Conc.Own4
import Derived.Conc.SmallLaws
import Derived.Conc.Starve
import Derived.Conc.Strewn
import Derived.Laws.Cells
import Derived.Laws.CopyRow
import Derived.RangeFuncRecord
set_option linter.all false
open Go renaming Trace->aa,MemOp->ac,Touch->ag,HappensBefore->aI,Addr->aL,World->aP,Program->a7,TypeId->a8,Value->a9,Event->bb,deafBehind->bi,Goroutine->bj,Next->bm,mayWake->bq,FuncId->bv,GoStatus->bC,GStep->bL,Oper->bM,execOp->bR,Operand->bT,callFunc->b1,resolve->b8,invoke->b9,Func->ca,run_callFunc_extern->cb,run_underlying->cd,loadVar->ce,Frame->cf,Item->ch,Deferred->ci,typeInfo->cl,storeCells->cm,setRow_heap->co,storeVar->cq,sizeOf->ct,setRow_other->cv
open Go.Conc renaming touchAt->cB,Knows->cC,touch_of->cQ,noRace_append->c8,Deaf->c9,QuitsD->da,woken_quitsD->db,mem_ofEvents->dd,lt_of_act?->df,touch_mute->dk,low_mute->dp,awake_of->dq,runT_crowd_go->dt,events_callFunc_extern->du,canSpin_eq->dv,seen_none->dx,mem_seen->dC
open List renaming mem_toArray->dL,mem_cons->dQ,not_mem_nil->dT,all_eq_true->dU,foldl_cons->d8,getElem?_toArray->d9
open Nat renaming lt_or_ge->ea,le_of_not_lt->eb,mul_add->ec,mul_one->ed,le_refl->eg,le_trans->eh,zero_le->ei,lt_wfRel->ej,lt_of_lt_of_le->ek,ble->el,le_of_ble_eq_true->em
open Go.ConcN renaming RelBy->ep,sumTo_upd->eq,upd_same->et,upd_ne->eu,upd->eA,le_sumTo->eD,sumTo_le->eE,sumTo_congr->eF
open Classical renaming byContradiction->eI,axiomOfChoice->eM
open Ne renaming symm->eN
open Go.ConcM renaming MuAt->eP,OsLater->eQ,woken_by_blocked->eS
open Go.MemAct renaming ofEvent->eT,touch?->eV,mark->eW,start->eX
open Go.MemOp renaming ofEvents->e6
open Go.ConcR renaming mk->e7,WgAt->e8
open Go.World renaming cell?->e9,re->fb,putObj->fg,size_alloc->fi
open Prod renaming Lex->fl,lex->fm,ext->fo
open Iff renaming rfl->fp
open Bool renaming false_eq_true->ft,rec->fz
open Go.Event renaming mute->fO
open Array renaming getElem?_eq_getElem->fP,mem_of_getElem?->fY,foldl_toList->f1,append_empty->f2
open List.cons renaming injEq->f3
open Prod.mk renaming injEq->f5
open Go.CallKind renaming early->f6,normal->f7
open Go.stepG renaming apply->f8,oper->f9,exec->gc
open Go.Frame renaming eval->ge,enter->gf
open Go.GStep renaming after->gg,go->gj
open Go.Sem renaming runT_fst->gp,getObj->gr,runT->gt,setObj->gw
open Go.Deferred renaming ofValue->gy
open Go.Extern renaming findNext->gB,find->gD
open Go.Extern.Race renaming none_->gE,marked->gG,at_->gL
open Go.Extern.Sync renaming canSpin->g0,nothing->g1,none_->g6,semacquire->g7,semrelease->g8
open Go.Instr renaming yield->g9,alloc->ha,indexAt->hh
open Go.Obj renaming isChan->ht,cells->hu,loop->hw,deferred->hz
open Go.Goroutine renaming status->hG
open Go.Touch.Kind renaming atomic->hI,plain->hJ
open Or renaming inl->hK,inr->hM
open Go.Mark renaming acquire->hN,releaseMerge->hO,extern->hS
open Go.Loc renaming cell->hV,obj->hX,mark->hY
open Go.GoStatus renaming running->hZ,blocked->h6
open Go.ConcM.OsLater renaming refl->h7
open Go.Value renaming int->h8,func->ib,tuple->ih,pointer->ii,bool->ik,slice->il
open Go.IntKind renaming i64->im,i32->io
open Go.FrameMode renaming run->ip,returning->iB
open Go.Item renaming inRegion->iC,inRangeFunc->iN
open Go.Op renaming convert->iP,load->iU,store->iY
open Go.Target renaming collected->i0
set_option maxRecDepth 100000
namespace Go.Ph
open Go.Conc Go.ConcN
section
variable (Shun Sh:Loc->Prop)(Own Rd:Nat->Loc->Prop)
structure Fam:Prop where
 own:∀k k' l,Own k l->Own k' l->k=k'
 ownRd:∀k k' l,Own k l->¬Rd k' l
 ownSh:∀k l,Own k l->¬Sh l/\¬Shun l
 rdSh:∀k l,Rd k l->¬Sh l/\¬Shun l
structure TI(c j:Nat)(t:aa):Prop where
 nr:∀said,¬Race said t
 shun:∀i a,cB t i=some a->Shun a.loc->a.loc.isMemory=true->cC t 0 i\/a.kind=hI
 quiet:Quiet Sh t
 own:∀k,c<=k->k<c+j->∀l,Own k l->Perm t k l
 rd:∀k,c<=k->k<c+j->∀l,Rd k l->PermW t k l
 free:∀l,l.isMemory=true->¬Sh l->¬Shun l->(∀k,c<=k->k<c+j->¬Own k l/\¬Rd k l)->Perm t 0 l
 mine:∀l,l.isMemory=true->¬Sh l->¬Shun l->(∀k,c<=k->k<c+j->¬Own k l)->PermW t 0 l
 elder:∀(i:Nat)(op:ac)(a:ag),t[i]?=some op->op.g≠0->op.g<c->op.act.touch? = some a->a.loc.isMemory=true->cC t 0 i\/(Shun a.loc/\a.kind=hI)
 over:∀i g,t.g? i=some g->g≠0->g<c->t.counts i->∃p,t.g? p=some 0/\aI t i p
 child:∀(i:Nat)(op:ac)(a:ag),t[i]?=some op->c<=op.g->op.act.touch? = some a->a.kind=hJ\/Sh a.loc
 LY:∀(i:Nat)(op:ac),t[i]?=some op->c+j<=op.g->op.act.touch? = none
def Ok0(c j:Nat)(op:ac):Prop:=
 op.g=0/\∀x,op.act.touch? = some x->x.loc.isMemory=true->(Sh x.loc/\x.kind≠hJ)\/(¬Sh x.loc/\¬Shun x.loc/\(∀k,c<=k->k<c+j->¬Own k x.loc)/\(x.write=true->∀k,c<=k->k<c+j->¬Rd k x.loc))
def OkW(k:Nat)(op:ac):Prop:=
 op.g=k/\∀x,op.act.touch? = some x->x.loc.isMemory=true/\((Sh x.loc/\x.kind=hI)\/(x.kind=hJ/\(Own k x.loc\/(Rd k x.loc/\x.write=false))))
end
section
variable {Shun Sh:Loc->Prop}{Own Rd:Nat->Loc->Prop}{c j:Nat}{t u:aa}
def gk{i:Nat}{op:ac}(h:(t++u)[i]?=some op):(t[i]?=some op/\i<t.size)\/op∈u:=by
 grind
def sC(h:∀i g,t.g? i=some g->g≠0->g<c->t.counts i->∃p,t.g? p=some 0/\aI t i p)(m:∀op∈u,op.g=0\/c<=op.g\/op.act.touch? = none) :
 ∀i g,(t++u).g? i=some g->g≠0->g<c->(t++u).counts i->∃p,(t++u).g? p=some 0/\aI (t++u) i p:=by
 intro i g hg e f hc;obtain⟨x,k,_⟩:=id hc;obtain⟨op,b,n⟩:=cQ k;have a:op.g=g:=by simpa[Trace.g?,b]using hg
 rcases gk b with⟨l,hi⟩|o
 .obtain⟨p,d,hb⟩:=h i g (by simp[Trace.g?,l,a]) e f ((counts_old hi).1 hc);exact⟨p,by rw[g?_old (lt_of_g? d)];exact d,hb_app u hb⟩
 grind
def pP(h:∀(i:Nat)(op:ac)(a:ag),t[i]?=some op->op.g≠0->op.g<c->op.act.touch? = some a->a.loc.isMemory=true->cC t 0 i\/(Shun a.loc/\a.kind=hI))(l:∀op∈u,op.g=0\/c<=op.g\/op.act.touch? = none) :
 ∀(i:Nat)(op:ac)(a:ag),(t++u)[i]?=some op->op.g≠0->op.g<c->op.act.touch? = some a->a.loc.isMemory=true->cC (t++u) 0 i\/(Shun a.loc/\a.kind=hI):=by
 intro i op a hi b d e f
 rcases gk hi with⟨k,_⟩|m
 .exact(h i op a k b d e f).imp (·.app u) id
 grind
def sD(h:∀i a,cB t i=some a->Shun a.loc->a.loc.isMemory=true->cC t 0 i\/a.kind=hI)(k:∀op∈u,∀x,op.act.touch? = some x->x.loc.isMemory=true->¬Shun x.loc) :
 ∀i a,cB (t++u) i=some a->Shun a.loc->a.loc.isMemory=true->cC (t++u) 0 i\/a.kind=hI:=by
 intro i a b hs d;obtain⟨op,e,f⟩:=cQ b
 rcases gk e with⟨g,_⟩|l
 .exact(h i a (by rw[touchAt_of g];exact f) hs d).imp (·.app u) id
 grind
def TI.app0(A:Fam Shun Sh Own Rd)(y:∀l,Sh l->¬Shun l/\l.isMemory=true)(C:∀k l,(Own k l\/Rd k l)->l.isMemory=true)(h:TI Shun Sh Own Rd c j t)(hc:0<c)(f:∀op∈u,Ok0 Shun Sh Own Rd c j op):TI Shun Sh Own Rd c j (t++u):=by
 refine⟨λsaid=>?_,sD h.shun λop d x r m=>?_,h.quiet.app λop d x r hs=>?_,λk k1 n l hl=>(h.own k k1 n l hl).app λop d b hb e=>?_,λk k1 n l hl=>(h.rd k k1 n l hl).app λop d b hb e D=>?_,
  λl m hs g hl=>(h.free l m hs g hl).app λop d _ _ _=>(f op d).1,λl m hs g hl=>(h.mine l m hs g hl).app λop d _ _ _ _=>(f op d).1,
  pP h.elder λop d=>hK (f op d).1,sC h.over λop d=>hK (f op d).1,λi op a hi hg p=>?_,λi op hi hg=>?_⟩
 .refine c8 (h.nr said) (λop d=>(f op d).1) (λi a p op d b hb o=>?_);have m:b.loc.isMemory=true:=by rw[<-o.1];exact o.2.1
  rcases(f op d).2 b hb m with⟨hs,s⟩|⟨hs,g,z,B⟩
  .exact h.quiet.known hs s (λ_=>rfl) i a p o
  .cases q:b.write with
   |true=>exact h.free b.loc m hs g (λk k1 n=>⟨z k k1 n,B q k k1 n⟩) i a p o.1
   |false=>exact h.mine b.loc m hs g z i a p o.1 (o.2.2.1.resolve_right (by simp[q]))
 .rcases(f op d).2 x r m with⟨hs,_⟩|⟨_,g,_⟩
  .exact(y _ hs).1
  .exact g
 .rcases(f op d).2 x r (y _ hs).2 with⟨_,s⟩|⟨g,_⟩
  .exact⟨s,λ_=>(f op d).1⟩
  .exact absurd hs g
 .rcases(f op d).2 b hb aS with⟨hs,_⟩|⟨_,_,g,_⟩
  .exact absurd (e▸hs) (A.ownSh k l hl).1
  grind
 .rcases(f op d).2 b hb aS with⟨hs,_⟩|⟨_,_,_,g⟩
  .exact absurd (e▸hs) (A.rdSh k l hl).1
  grind
 .rcases gk hi with⟨v,_⟩|w
  .exact h.child i op a v hg p
  .rw[(f op w).1]at hg;omega
 .rcases gk hi with⟨v,_⟩|w
  .exact h.LY i op v hg
  .rw[(f op w).1]at hg;omega
def TI.appW(A:Fam Shun Sh Own Rd)(J:∀l,Sh l->¬Shun l/\l.isMemory=true)(h:TI Shun Sh Own Rd c j t){k:Nat}(k1:c<=k)(H:k<c+j)(n:∀op∈u,OkW Sh Own Rd k op):TI Shun Sh Own Rd c j (t++u):=by
 have hg:∀op∈u,op.g=k:=λop d=>(n op d).1
 refine⟨λsaid=>?_,sD h.shun λop d x z w=>?_,h.quiet.app λop d x z hs=>?_,λk' o p l hl=>(h.own k' o p l hl).app λop d b hb e=>?_,λk' o p l hl=>(h.rd k' o p l hl).app λop d b hb e s=>?_,
  λl w hs B hl=>(h.free l w hs B hl).app λop d b hb e=>?_,λl w hs B hl=>(h.mine l w hs B hl).app λop d b hb e s=>?_,
  pP h.elder λop d=>hM (hK (by rw[hg op d];exact k1)),sC h.over λop d=>hM (hK (by rw[hg op d];exact k1)),λi op a hi q r=>?_,λi op hi q=>?_⟩
 .refine c8 (h.nr said) hg (λi a r op d b hb y=>?_);obtain⟨_,C⟩:=(n op d).2 b hb
  rcases C with⟨hs,v⟩|⟨_,m|⟨f,D⟩⟩
  .exact h.quiet.known hs (by rw[v];simp) (λe=>by rw[v]at e;cases e) i a r y
  .exact h.own k k1 H b.loc m i a r y.1
  .exact h.rd k k1 H b.loc f i a r y.1 (y.2.2.1.resolve_right (by simp[D]))
 .rcases((n op d).2 x z).2 with⟨hs,_⟩|⟨_,m|⟨f,_⟩⟩
  .exact(J _ hs).1
  .exact(A.ownSh k _ m).2
  .exact(A.rdSh k _ f).2
 .rcases((n op d).2 x z).2 with⟨_,v⟩|⟨_,m|⟨f,_⟩⟩
  .grind
  .exact absurd hs (A.ownSh k _ m).1
  .exact absurd hs (A.rdSh k _ f).1
 .rcases((n op d).2 b hb).2 with⟨hs,_⟩|⟨_,m|⟨f,_⟩⟩
  .exact absurd (e▸hs) (A.ownSh k' l hl).1
  .rw[hg op d];exact A.own k k' l (e▸m) hl
  .exact absurd (e▸f) (A.ownRd k' k l hl)
 .rcases((n op d).2 b hb).2 with⟨hs,_⟩|⟨_,m|⟨_,f⟩⟩
  .exact absurd (e▸hs) (A.rdSh k' l hl).1
  .exact absurd hl (A.ownRd k k' l (e▸m))
  .rw[f]at s;cases s
 .rcases((n op d).2 b hb).2 with⟨E,_⟩|⟨_,m|⟨f,_⟩⟩
  .exact absurd (e▸E) hs
  .grind
  grind
 .rcases((n op d).2 b hb).2 with⟨E,_⟩|⟨_,m|⟨_,f⟩⟩
  .exact absurd (e▸E) hs
  .grind
  .rw[f]at s;cases s
 .rcases gk hi with⟨F,_⟩|I
  .exact h.child i op a F q r
  .rcases((n op I).2 a r).2 with⟨hs,_⟩|⟨v,_⟩
   .exact hM hs
   .exact hK v
 .rcases gk hi with⟨F,_⟩|I
  .exact h.LY i op F q
  grind
def TI.appMute(h:TI Shun Sh Own Rd c j t){g:Nat}(hg:∀op∈u,op.g=g)(f:∀op∈u,op.act.touch? = none):TI Shun Sh Own Rd c j (t++u):=by
 have no:∀op∈u,∀b,op.act.touch? = some b->False:=λop d b hb=>aS
 refine⟨λsaid=>c8 (h.nr said) hg λi a _ op d b hb _=>(no op d b hb).elim,sD h.shun λop d x m _=>(no op d x m).elim,h.quiet.app λop d x m _=>(no op d x m).elim,λk k1 n l hl=>(h.own k k1 n l hl).app λop d b hb _=>(no op d b hb).elim,λk k1 n l hl=>(h.rd k k1 n l hl).app λop d b hb _ _=>(no op d b hb).elim,
  λl o hs p hl=>(h.free l o hs p hl).app λop d b hb _=>(no op d b hb).elim,λl o hs p hl=>(h.mine l o hs p hl).app λop d b hb _ _=>(no op d b hb).elim,
  pP h.elder λop d=>hM (hM (f op d)),sC h.over λop d=>hM (hM (f op d)),λi op a hi e s=>?_,λi op hi e=>?_⟩
 .rcases gk hi with⟨q,_⟩|r
  .exact h.child i op a q e s
  grind
 .rcases gk hi with⟨q,_⟩|r
  .exact h.LY i op q e
  .exact f op r
def TI.fork(A:Fam Shun Sh Own Rd)(D:∀k l,(Own k l\/Rd k l)->l.isMemory=true)(h:TI Shun Sh Own Rd c j t){x y:ac}(p:x.g=0/\x.act=.go (c+j))(hy:y.g=c+j/\y.act=eX)(E:c9 t 0=0)(F:c9 t (c+j)=0):TI Shun Sh Own Rd c (j+1) (t ++ #[x,y]):=by
 have f:∀op∈#[x,y],op.act.touch? = none:=by
  intro op d;simp only[dL,dQ,dT,or_false]at d
  rcases d with rfl|rfl
  .rw[p.2];rfl
  .rw[hy.2];rfl
 have no:∀op∈#[x,y],∀b,op.act.touch? = some b->False:=λop d b hb=>aS;have n:∀{i:Nat}{a:ag},cB (t ++ #[x,y]) i=some a->cB t i=some a:=by
  intro i a m;obtain⟨z,I,q⟩:=cQ m
  rcases gk I with⟨J,_⟩|K
  .rw[touchAt_of J];exact q
  grind
 refine⟨λsaid=>?_,sD h.shun λop d b hb _=>(no op d b hb).elim,h.quiet.app λop d b hb _=>(no op d b hb).elim,λk k1 r l hl=>?_,λk k1 r l hl=>?_,
  λl s hs v hl=>(h.free l s hs v λk k1 r=>hl k k1 ab).app λop d b hb _=>(no op d b hb).elim,λl s hs v hl=>(h.mine l s hs v λk k1 r=>hl k k1 ab).app λop d b hb _ _=>(no op d b hb).elim,
  pP h.elder λop d=>hM (hM (f op d)),sC h.over λop d=>hM (hM (f op d)),λi op a hi o m=>?_,λi op hi o=>?_⟩
 .have e:t ++ #[x,y]=(t ++ #[x]) ++ #[y]:=by apply Array.ext';simp
  rw[e];refine c8 (g:=c+j) (c8 (g:=0) (h.nr said) (λop d=>aS) (λi a _ op d b hb _=>(no op aS b hb).elim))
   (λop d=>aS) (λi a _ op d b hb _=>(no op aS b hb).elim)
 .rcases ea k (c+j) with w|L
  .exact(h.own k k1 w l hl).app λop d b hb _=>(no op d b hb).elim
  .obtain rfl:k=c+j:=ab;exact λi a m e=>fork_knows p hy E F (h.free l (D _ l (hK hl)) (A.ownSh _ l hl).1 (A.ownSh _ l hl).2 (λk' _ M=>⟨λB=>by have:=A.own _ _ l B hl;omega,A.ownRd _ _ l hl⟩) i a (n m) e)
 .rcases ea k (c+j) with w|L
  .exact(h.rd k k1 w l hl).app λop d b hb _ _=>(no op d b hb).elim
  .obtain rfl:k=c+j:=ab;exact λi a m e N=>fork_knows p hy E F (h.mine l (D _ l (hM hl)) (A.rdSh _ l hl).1 (A.rdSh _ l hl).2 (λk' _ _ B=>A.ownRd _ _ l B hl) i a (n m) e N)
 .rcases gk hi with⟨C,_⟩|H
  .exact h.child i op a C o m
  grind
 .rcases gk hi with⟨C,_⟩|H
  .exact h.LY i op C ab
  .exact f op H
def TI.grow{f:Nat->Loc->Prop}(h:TI Shun Sh Own Rd c j t)(m:∀k l,Own k l->f k l)(n:∀k l,f k l->Own k l\/∀i a,cB t i=some a->a.loc≠l):TI Shun Sh f Rd c j t:=
 ⟨h.nr,h.shun,h.quiet,λk k1 b l hl=>(n k l hl).elim (h.own k k1 b l) λd i a o e=>absurd e (d i a o),h.rd,
  λl g hs d hl=>h.free l g hs d λk k1 b=>⟨λx=>(hl k k1 b).1 (m k l x),(hl k k1 b).2⟩,λl g hs d hl=>h.mine l g hs d λk k1 b x=>hl k k1 b (m k l x),h.elder,h.over,h.child,h.LY⟩
def TI.choose{g b:Nat->Loc->Prop}(h:TI Shun Sh Own Rd c j t)(d:∀k l,c<=k->k<c+j->(g k l↔Own k l))(i:∀k l,c<=k->k<c+j->(b k l↔Rd k l)):TI Shun Sh g b c j t:=
 ⟨h.nr,h.shun,h.quiet,λk k1 a l hl=>h.own k k1 a l ((d k l k1 a).1 hl),λk k1 a l hl=>h.rd k k1 a l ((i k l k1 a).1 hl),
  λl e hs f hl=>h.free l e hs f λk k1 a=>⟨λx=>(hl k k1 a).1 ((d k l k1 a).2 x),λx=>(hl k k1 a).2 ((i k l k1 a).2 x)⟩,λl e hs f hl=>h.mine l e hs f λk k1 a x=>hl k k1 a ((d k l k1 a).2 x),h.elder,h.over,h.child,h.LY⟩
def TI.GA{a:aL}{q B:Nat}(h:TI Shun Sh Own Rd c j t)(rel:∀k,c<=k->k<c+j->(∃i,t.g? i=some k)->∃r,ep a t k r/\r<q)(D:NoRelease a t)
 (E:t.act? q=some (eW (hN a))) (hg:t.g? q=some 0) (F:t.heard q) (hd:c9 t 0=0) (hl:∀op∈t,op.act.low B):Past (λl=>Shun l\/Sh l) B t:=by
 have key:∀i k,c<=k->k<c+j->t.g? i=some k->t.counts i->aI t i q:=by
  intro i k k1 H hi hc;obtain⟨r,m,p⟩:=rel k k1 H ⟨i,hi⟩;have edge:aI t r q:=.single (hM ⟨.marked p (hM m.act) E (λk _ _=>D k),m.heard,F⟩);have I:i<=r:=eb λb=>m.after i b hi hc
  rcases ea i r with b|n
  .exact .trans (.single (hK ⟨b,k,hi,m.g⟩)) edge
  grind
 have s:∀{i:Nat}{op:ac},t[i]?=some op->t.g? i=some op.g:=λh=>by simp[Trace.g?,h]
 obtain⟨J,v,w⟩:=Option.map_eq_some_iff.1 hg;refine⟨h.nr,λi a z A=>?_,λi g K L hc=>?_,hd,hl⟩
 .obtain⟨op,d,o⟩:=cQ z;by_cases M:op.g=0
  .have:=knows_own d;grind
  .rcases ea op.g c with b|n
   .exact(h.elder i op a d M b o A).imp id λx=>⟨hK x.1,x.2⟩
   .rcases ea op.g (c+j) with f|f
    .by_cases hc:t.counts i
     .exact hK ⟨q,J,v,w,hM (key i op.g n f (s d) hc)⟩
     .have y:a.kind=hI:=eI λy=>hc ⟨a,z,A,hK y⟩
      rcases h.child i op a d n o with e|e
      .rw[y]at e;cases e
      grind
    .rw[h.LY i op d f]at o;cases o
 .rcases ea g c with b|n
  .exact h.over i g K L b hc
  .rcases ea g (c+j) with f|f
   .grind
   .obtain⟨x,N,_⟩:=hc;obtain⟨op,d,C⟩:=cQ N;have:op.g=g:=aS;rw[h.LY i op d ab]at C;cases C
end
end Go.Ph
namespace Go.cD
open Go.ConcN (sumTo upd sumTo_upd upd_ne upd_same sumTo_congr le_sumTo sumTo_le)
inductive Pc where
 |out|l0|r0|c1|r1|c2|r3|s1|r2|a1|u0|uc|ux|us
 deriving DecidableEq,Repr
structure Wd where
 l:Bool:=false
 w:Bool:=false
 s:Bool:=false
 k:Nat:=0
 deriving DecidableEq,Repr
structure Th where
 pc:Pc
 old:Wd:={}
 nw:Wd:={}
 aw:Bool:=false
 sv:Bool:=false
 it:Nat:=0
 ex:Bool:=false
 r:Nat
 deriving DecidableEq,Repr
def qZ(T:Th):Wd:=
 { l:=T.old.l || !T.old.s,w:=T.old.w && !T.aw,s:=T.old.s||(T.sv&&T.old.l),k:=if T.old.l||T.old.s then T.old.k+1 else T.old.k }
def eR(T:Th):Th:={ T with pc:=.c2,nw:=qZ T }
def spin(T:Th):Th:={ T with pc:=if !T.aw && !T.old.w&&T.old.k != 0 then .c1 else .r1 }
inductive Head(T:Th):Th->Prop
 |c2:Head T (eR T)
 |spin:T.old.l=true->T.old.s=false->T.it<4->Head T (spin T)
def bP(r:Nat):Th:=if r<=1 then { pc:=.out,r:=0 } else { pc:=.l0,r:=r-1 }
inductive Mv(w:Wd)(ms:Nat):Th->Th->Wd->Nat->Prop
 |lock (T:Th):T.pc=.l0->w={}->Mv w ms T { pc:=.u0,r:=T.r } { l:=true } ms
 |acJ (T:Th):T.pc=.l0->w≠{}->Mv w ms T { pc:=.r0,r:=T.r } w ms
 |Ws (T H:Th):T.pc=.r0->Head { pc:=.r0,old:=w,r:=T.r } H->Mv w ms T H w ms
 |Wt (T:Th):T.pc=.c1->w=T.old->Mv w ms T { T with pc:=.r1,aw:=true } { w with w:=true } ms
 |Wu (T:Th):T.pc=.c1->w≠T.old->Mv w ms T { T with pc:=.r1 } w ms
 |Wv (T H:Th):T.pc=.r1->Head { T with old:=w,it:=T.it+1 } H->Mv w ms T H w ms
 |take (T:Th):T.pc=.c2->w=T.old->w.l=false->w.s=false->Mv w ms T { pc:=.u0,r:=T.r } T.nw ms
 |queue (T:Th):T.pc=.c2->w=T.old->(w.l=true\/w.s=true)->Mv w ms T { pc:=.s1,sv:=T.sv,r:=T.r } T.nw ms
 |Ww (T:Th):T.pc=.c2->w≠T.old->Mv w ms T { T with pc:=.r3 } w ms
 |Wx (T H:Th):T.pc=.r3->Head { T with old:=w } H->Mv w ms T H w ms
 |woken (T:Th) (b:Bool):T.pc=.s1->(T.sv=true->b=true)->ms≠0->Mv w ms T { pc:=.r2,sv:=b,r:=T.r } w (ms-1)
 |Wz (T H:Th):T.pc=.r2->w.s=false->Head { T with old:=w,aw:=true,it:=0 } H->Mv w ms T H w ms
 |handed (T:Th):T.pc=.r2->w.s=true->Mv w ms T { pc:=.a1,sv:=T.sv,ex:=!T.sv||w.k==1,r:=T.r } w ms
 |acK (T:Th):T.pc=.a1->Mv w ms T { pc:=.u0,r:=T.r } { l:=true,w:=w.w,s:=w.s && !T.ex,k:=w.k-1 } ms
 |free (T:Th):T.pc=.u0->w.s=false->(w.k=0\/w.w=true)->Mv w ms T (bP T.r) { w with l:=false } ms
 |hand (T:Th):T.pc=.u0->w.s=true->Mv w ms T { pc:=.us,r:=T.r } { w with l:=false } ms
 |acL (T:Th):T.pc=.u0->w.s=false->w.k≠0->w.w=false->Mv w ms T { pc:=.uc,old:={ w with l:=false },r:=T.r } { w with l:=false } ms
 |release (T:Th):T.pc=.uc->w=T.old->Mv w ms T { pc:=.us,r:=T.r } { w with k:=w.k-1,w:=true } ms
 |again (T:Th):T.pc=.uc->w≠T.old->Mv w ms T { pc:=.ux,r:=T.r } w ms
 |leave (T:Th):T.pc=.ux->(w.k=0\/w.l=true\/w.w=true\/w.s=true)->Mv w ms T (bP T.r) w ms
 |WA (T:Th):T.pc=.ux->w.k≠0->w.l=false->w.w=false->w.s=false->Mv w ms T { pc:=.uc,old:=w,r:=T.r } w ms
 |post (T:Th):T.pc=.us->Mv w ms T (bP T.r) w (ms+1)
def fh(T:Th):Nat:=if T.pc=.u0 then 1 else 0
def fq(T:Th):Nat:=if T.pc=.s1 then 1 else 0
def fk(T:Th):Nat:=if T.pc=.r2 then 1 else 0
def fa(T:Th):Nat:=if T.pc=.a1 then 1 else 0
def fr(T:Th):Nat:=if T.pc=.us then 1 else 0
def fw(T:Th):Nat:=if T.aw then 1 else 0
def fu(T:Th):Nat:=if T.pc=.uc\/T.pc=.ux then 1 else 0
structure Tok(n:Nat)(T:Th):Prop where
 aw:T.aw=true->T.pc=.r1\/T.pc=.c2\/T.pc=.r3
 sv:T.pc=.r1\/T.pc=.c1\/T.pc=.c2\/T.pc=.r3->T.sv=true->T.aw=true
 c1:T.pc=.c1->T.old.l=true/\T.old.s=false/\T.old.w=false/\T.old.k≠0
 it:T.pc=.c1\/T.pc=.r1->T.it<4
 Yv:T.it<=4
 c2:T.pc=.c2->T.nw=qZ T
 c2w:T.pc=.c2->T.aw=true->T.old.w=true
 uc:T.pc=.uc->T.old.l=false/\T.old.s=false/\T.old.w=false/\T.old.k≠0
 old:T.old.k<=n
 r:T.pc≠.out->1<=T.r
 r0:T.pc=.out->T.r=0
structure St where
 th:Nat->Th
 w:Wd
 ms:Nat
structure Inv(n:Nat)(s:St):Prop where
 tok:∀i,i<n->Tok n (s.th i)
 hold:sumTo n (λi=>fh (s.th i))<=1
 lock:s.w.l=true↔sumTo n (λi=>fh (s.th i))=1
 norm:s.w.s=false->sumTo n (λi=>fw (s.th i))+sumTo n (λi=>fr (s.th i))+s.ms+sumTo n (λi=>fk (s.th i))=(if s.w.w then 1 else 0)/\
  sumTo n (λi=>fa (s.th i))=0/\sumTo n (λi=>fq (s.th i))=s.w.k+sumTo n (λi=>fr (s.th i))+s.ms
 star:s.w.s=true->s.w.w=false/\sumTo n (λi=>fw (s.th i))=0/\
  sumTo n (λi=>fh (s.th i))+sumTo n (λi=>fr (s.th i))+s.ms+sumTo n (λi=>fk (s.th i))+sumTo n (λi=>fa (s.th i))=1/\
  sumTo n (λi=>fq (s.th i))+sumTo n (λi=>fk (s.th i))+sumTo n (λi=>fa (s.th i))=s.w.k
 Yw:s.w.s=false->s.w.w=false->s.w.l=false->s.w.k≠0->1<=sumTo n (λi=>fu (s.th i))
def am(T:Th):Nat:=match T.pc with
 |.out=>0
 |.u0=>2*T.r-1
 |.uc | .ux | .us=>2*(T.r-1)
 |_=>2*T.r
def wt(n:Nat)(w:Wd)(T:Th):Nat:=
 let e:=if T.aw then 0 else 4*n+1
 match T.pc with
 |.out | .s1 | .u0=>0
 |.l0=>8*n+20
 |.r0=>8*n+19
 |.c1=>4*n+1+e+3*(4-T.it)+3
 |.r1=>4*n+1+e+3*(4-T.it)+2
 |.c2=>4*n+1+e+3*(4-T.it)+4+(if T.old=w then 0 else 4)
 |.r3=>4*n+1+e+3*(4-T.it)+5
 |.r2=>4*n+18
 |.a1=>1
 |.us=>12*n+40
 |.uc=>16*n+41+(if T.old=w then 0 else 2)
 |.ux=>16*n+42
def nQ(n:Nat)(s:St):Nat:=sumTo n (λi=>am (s.th i))
def uh(n:Nat)(s:St):Nat:=sumTo n (λi=>wt n s.w (s.th i))+(4*n+19)*s.ms
def oC{f g:Nat->Nat}{c:Nat}:∀{j:Nat},(∀i,i<j->f i<=g i+c)->sumTo j f<=sumTo j g+c*j
 |0,_=>by simp[sumTo]
 |j+1,h=>by
  have:=oC (f:=f) (g:=g) (c:=c) (j:=j) λi hi=>h i ab;have:=h j ab;simp only[sumTo,ec,ed];omega
def acM(n:Nat)(w w':Wd)(T:Th):wt n w' T<=wt n w T+4:=by
 unfold wt;grind
section
variable {n:Nat}{s:St}{i:Nat}{T':Th}{w':Wd}{ms':Nat}
structure ahY(n:Nat)(th:Nat->Th)(i:Nat)(T':Th):Prop where
 h:sumTo n (λa=>fh (upd th i T' a))+fh (th i)=sumTo n (λa=>fh (th a))+fh T'
 q:sumTo n (λa=>fq (upd th i T' a))+fq (th i)=sumTo n (λa=>fq (th a))+fq T'
 k:sumTo n (λa=>fk (upd th i T' a))+fk (th i)=sumTo n (λa=>fk (th a))+fk T'
 a:sumTo n (λa=>fa (upd th i T' a))+fa (th i)=sumTo n (λa=>fa (th a))+fa T'
 r:sumTo n (λa=>fr (upd th i T' a))+fr (th i)=sumTo n (λa=>fr (th a))+fr T'
 w:sumTo n (λa=>fw (upd th i T' a))+fw (th i)=sumTo n (λa=>fw (th a))+fw T'
 u:sumTo n (λa=>fu (upd th i T' a))+fu (th i)=sumTo n (λa=>fu (th a))+fu T'
def acN(a:Nat->Th)(T':Th)(hi:i<n):ahY n a i T':=
 ⟨eq a T' fh hi,eq a T' fq hi,eq a T' fk hi,eq a T' fa hi,eq a T' fr hi,eq a T' fw hi,eq a T' fu hi⟩
def OY(n:Nat)(s' s:St):Prop:=nQ n s'<nQ n s\/(nQ n s'=nQ n s/\uh n s'<uh n s)
def pQ(hi:i<n)(h:am T'<am (s.th i)):OY n ⟨upd s.th i T',w',ms'⟩ s:=by
 left;have:=eq s.th T' am hi;unfold nQ;simp only;omega
def fI(hi:i<n)(h:am T'=am (s.th i))(a:wt n s.w T'+(4*n+19)*ms'<wt n s.w (s.th i)+(4*n+19)*s.ms):OY n ⟨upd s.th i T',s.w,ms'⟩ s:=by
 right;have e1:=eq s.th T' am hi;have b:=eq s.th T' (wt n s.w) hi;refine⟨by unfold nQ;simp only;omega,?_⟩;unfold uh;grind
def uj(hi:i<n)(h:am T'=am (s.th i))(b:wt n w' T'+4*n<wt n w' (s.th i)):OY n ⟨upd s.th i T',w',s.ms⟩ s:=by
 right;have e1:=eq s.th T' am hi;have d:=eq s.th T' (wt n w') hi;have e:=oC (j:=n) (f:=λa=>wt n w' (s.th a)) (g:=λa=>wt n s.w (s.th a)) (c:=4) λi _=>acM n s.w w' (s.th i);refine⟨by unfold nQ;simp only;omega,?_⟩;unfold uh;simp only;omega
def Head.pc{T H:Th}(h:Head T H):H.pc=.c2\/H.pc=.c1\/H.pc=.r1:=by
 cases h with
 |c2=>exact hK rfl
 |spin _ _ _=>unfold cD.spin;split<;>simp_all
def Head.r{T H:Th}(h:Head T H):H.r=T.r:=by cases h<;>rfl
def Head.aw{T H:Th}(h:Head T H):H.aw=T.aw:=by cases h<;>rfl
def Head.old{T H:Th}(h:Head T H):H.old=T.old:=by cases h<;>rfl
def Head.sv{T H:Th}(h:Head T H):H.sv=T.sv:=by cases h<;>rfl
def Head.it{T H:Th}(h:Head T H):H.it=T.it:=by cases h<;>rfl
def Head.tok{T H:Th}(h:Head T H)(d:1<=T.r)(hs:T.sv=true->T.aw=true)(f:T.it<=4)(g:T.old.k<=n)(j:T.aw=true->T.old.w=true):Tok n H:=by
 have l:=h.pc;refine⟨λx=>?_,λ_ x=>?_,λx=>?_,λx=>?_,by rw[h.it];exact f,λx=>?_,λx y=>?_,λx=>?_,by rw[h.old];exact g,λ_=>by rw[h.r];exact d,λx=>?_⟩
 .rcases l with e|e|e
  .exact hM (hK e)
  .cases h with
   |c2=>cases e
   |spin b c a=>
    unfold cD.spin at e x;grind
  .exact hK e
 .rw[h.aw];exact hs (by rw[<-h.sv];exact x)
 .cases h with
  |c2=>cases x
  |spin b c a=>
   unfold cD.spin at x ⊢;grind
 .cases h with
  |c2=>rcases x with x|x<;>cases x
  |spin b c a=>exact a
 .cases h with
  |c2=>rfl
  |spin b c a=>
   unfold cD.spin at x;grind
 .rw[h.old];exact j (by rw[<-h.aw];exact y)
 .grind
 grind
def Head.counts{T H:Th}(h:Head T H):fh H=0/\fq H=0/\fk H=0/\fa H=0/\fr H=0/\fu H=0/\fw H=fw T:=by
 have a:=h.pc;refine⟨?_,?_,?_,?_,?_,?_,?_⟩
 .unfold fh;grind
 .unfold fq;grind
 .unfold fk;grind
 .unfold fa;grind
 .unfold fr;grind
 .unfold fu;grind
 .unfold fw;rw[h.aw]
def Head.am{T H:Th}(h:Head T H):am H=2*T.r:=by
 unfold cD.am
 rcases h.pc with e|e|e<;>simp[e,h.r]
def Head.wt{T H:Th}(h:Head T H):wt n T.old H<=4*n+1+(if T.aw then 0 else 4*n+1)+3*(4-T.it)+4:=by
 unfold cD.wt
 rcases h.pc with e|e|e<;>simp[e,h.aw,h.it,h.old]
def lz(r:Nat):fh (bP r)=0/\fq (bP r)=0/\fk (bP r)=0/\fa (bP r)=0/\fr (bP r)=0/\fu (bP r)=0/\fw (bP r)=0:=by
 unfold bP;by_cases h:r<=1<;>simp[h,fh,fq,fk,fa,fr,fu,fw]
def uk(r:Nat):am (bP r)=2*(r-1):=by
 unfold bP;by_cases h:r<=1
 .rw[if_pos h];show 0=_;omega
 .rw[if_neg h];rfl
def Ai(r:Nat)(w:Wd):wt n w (bP r)<=8*n+20:=by
 unfold bP wt;split<;>simp
def dg{T:Th}(b:T.aw=false)(j:T.pc≠.r1)(c:T.pc≠.c1)(a:T.pc≠.c2)(l:T.pc≠.r3)(d:T.pc≠.uc)(e:T.old.k<=n)(f:T.pc≠.out->1<=T.r)(g:T.pc=.out->T.r=0)(h:T.it<=4):Tok n T where
 aw x:=by rw[b]at x;cases x
 sv x:=aS
 c1 x:=absurd x c
 it x:=aS
 Yv:=h
 c2 x:=absurd x a
 c2w x:=absurd x a
 uc x:=absurd x d
 old:=e
 r:=f
 r0:=g
def ri(r:Nat):Tok n (bP r):=by
 unfold bP;split
 .exact dg rfl ar ar ar ar ar ar ar ar ar
 .exact dg rfl ar ar ar ar ar ar aS ar ar
def ew(h:Inv n s)(a:Tok n T'):∀j,j<n->Tok n (upd s.th i T' j):=by
 intro j b;by_cases e:j=i
 .subst e;rw[et];exact a
 .rw[eu _ _ e];exact h.tok j b
def fX(h:Inv n s)(hi:i<n)(g:Tok n T')(c1:fh T'=fh (s.th i))(l:fq T'=fq (s.th i))(c3:fk T'=fk (s.th i))(m:fa T'=fa (s.th i))(o:fr T'=fr (s.th i))(p:fu T'=fu (s.th i))(t:fw T'=fw (s.th i)) :
 Inv n ⟨upd s.th i T',s.w,s.ms⟩:=by
 have S:=acN s.th T' hi;have e1:sumTo n (λa=>fh (upd s.th i T' a))=sumTo n (λa=>fh (s.th a)):=by have:=S.h;omega
 have b:sumTo n (λa=>fq (upd s.th i T' a))=sumTo n (λa=>fq (s.th a)):=by have:=S.q;omega
 have c:sumTo n (λa=>fk (upd s.th i T' a))=sumTo n (λa=>fk (s.th a)):=by have:=S.k;omega
 have d:sumTo n (λa=>fa (upd s.th i T' a))=sumTo n (λa=>fa (s.th a)):=by have:=S.a;omega
 have e:sumTo n (λa=>fr (upd s.th i T' a))=sumTo n (λa=>fr (s.th a)):=by have:=S.r;omega
 have f:sumTo n (λa=>fw (upd s.th i T' a))=sumTo n (λa=>fw (s.th a)):=by have:=S.w;omega
 have j:sumTo n (λa=>fu (upd s.th i T' a))=sumTo n (λa=>fu (s.th a)):=by have:=S.u;omega
 refine⟨ew h g,?_,?_,?_,?_,?_⟩
 .show sumTo n (λa=>fh (upd s.th i T' a))<=1;rw[e1];exact h.hold
 .show _↔sumTo n (λa=>fh (upd s.th i T' a))=1;rw[e1];exact h.lock
 .show _->sumTo n (λa=>fw (upd s.th i T' a))+sumTo n (λa=>fr (upd s.th i T' a))+s.ms+sumTo n (λa=>fk (upd s.th i T' a))=_/\sumTo n (λa=>fa (upd s.th i T' a))=0/\sumTo n (λa=>fq (upd s.th i T' a))=s.w.k+sumTo n (λa=>fr (upd s.th i T' a))+s.ms;rw[b,c,d,e,f];exact h.norm
 .show _->s.w.w=false/\sumTo n (λa=>fw (upd s.th i T' a))=0/\sumTo n (λa=>fh (upd s.th i T' a))+sumTo n (λa=>fr (upd s.th i T' a))+s.ms+sumTo n (λa=>fk (upd s.th i T' a))+sumTo n (λa=>fa (upd s.th i T' a))=1/\sumTo n (λa=>fq (upd s.th i T' a))+sumTo n (λa=>fk (upd s.th i T' a))+sumTo n (λa=>fa (upd s.th i T' a))=s.w.k;rw[e1,b,c,d,e,f];exact h.star
 .show _->_->_->_->1<=sumTo n (λa=>fu (upd s.th i T' a));rw[j];exact h.Yw
structure Num(n:Nat)(s:St)(H Q K A R W U:Nat):Prop where
 h:sumTo n (λa=>fh (s.th a))=H
 q:sumTo n (λa=>fq (s.th a))=Q
 k:sumTo n (λa=>fk (s.th a))=K
 a:sumTo n (λa=>fa (s.th a))=A
 r:sumTo n (λa=>fr (s.th a))=R
 w:sumTo n (λa=>fw (s.th a))=W
 u:sumTo n (λa=>fu (s.th a))=U
def inv_of(tok:∀i,i<n->Tok n (s.th i)){H Q K A R W U:Nat}(N:Num n s H Q K A R W U)(a:H<=1)(b:s.w.l=true↔H=1)
 (c:s.w.s=false->W+R+s.ms+K=(if s.w.w then 1 else 0)/\A=0/\Q=s.w.k+R+s.ms)
 (d:s.w.s=true->s.w.w=false/\W=0/\H+R+s.ms+K+A=1/\Q+K+A=s.w.k)
 (e:s.w.s=false->s.w.w=false->s.w.l=false->s.w.k≠0->1<=U):Inv n s:=by
 obtain⟨rfl,rfl,rfl,rfl,rfl,rfl,rfl⟩:=N;exact⟨tok,a,b,c,d,e⟩
def Inv.num(h:Inv n s):∃H Q K A R W U,Num n s H Q K A R W U/\H<=1/\(s.w.l=true↔H=1)/\
 (s.w.s=false->W+R+s.ms+K=(if s.w.w then 1 else 0)/\A=0/\Q=s.w.k+R+s.ms)/\
 (s.w.s=true->s.w.w=false/\W=0/\H+R+s.ms+K+A=1/\Q+K+A=s.w.k)/\
 (s.w.s=false->s.w.w=false->s.w.l=false->s.w.k≠0->1<=U):=
 ⟨_,_,_,_,_,_,_,⟨rfl,rfl,rfl,rfl,rfl,rfl,rfl⟩,h.hold,h.lock,h.norm,h.star,h.Yw⟩
def Num.upd{H Q K A R W U:Nat}(N:Num n s H Q K A R W U)(hi:i<n){T:Th}(b:s.th i=T):fh T<=H/\fq T<=Q/\fk T<=K/\fa T<=A/\fr T<=R/\fw T<=W/\fu T<=U/\
 Num n ⟨eA s.th i T',w',ms'⟩ (H-fh T+fh T') (Q-fq T+fq T') (K-fk T+fk T') (A-fa T+fa T') (R-fr T+fr T') (W-fw T+fw T') (U-fu T+fu T'):=by
 obtain⟨rfl,rfl,rfl,rfl,rfl,rfl,rfl⟩:=N;subst b;have S:=acN s.th T' hi;have c:=eD (f:=λa=>fh (s.th a)) hi;have d:=eD (f:=λa=>fq (s.th a)) hi;have e:=eD (f:=λa=>fk (s.th a)) hi;have g:=eD (f:=λa=>fa (s.th a)) hi;have j:=eD (f:=λa=>fr (s.th a)) hi;have l:=eD (f:=λa=>fw (s.th a)) hi;have m:=eD (f:=λa=>fu (s.th a)) hi;refine⟨c,d,e,g,j,l,m,⟨?_,?_,?_,?_,?_,?_,?_⟩⟩<;>simp only
 .have:=S.h;omega
 .have:=S.q;omega
 .have:=S.k;omega
 .have:=S.a;omega
 .have:=S.r;omega
 .have:=S.w;omega
 .have:=S.u;omega
structure Safe(T:Th)(w:Wd):Prop where
 u0:T.pc=.u0->w.l=true
 r2:T.pc=.r2->w.s=true->w.l=false/\w.w=false/\w.k≠0
 a1:T.pc=.a1->w.l=false/\w.w=false/\w.s=true/\w.k≠0
 aw:T.aw=true->w.w=true/\w.s=false
 r2n:T.pc=.r2->w.s=false->w.w=true
def Inv.safe(h:Inv n s)(hi:i<n):Safe (s.th i) s.w:=by
 obtain⟨H,Q,K,A,R,W,U,N,d,a,b,c,f⟩:=h.num;obtain⟨g,j,k,l,m,o,p,_⟩:=N.upd (T':=s.th i) (w':=s.w) (ms':=s.ms) hi rfl;refine⟨λe=>?_,λe hs=>?_,λe=>?_,λe=>?_,λe hs=>?_⟩
 .have:fh (s.th i)=1:=by simp[fh,e]
  exact a.2 ab
 .have e1:fk (s.th i)=1:=by simp[fk,e]
  grind
 .have e1:fa (s.th i)=1:=by simp[fa,e]
  cases hs:s.w.s with
  |false=>have:=(b hs).2.1;omega
  |true=>
   grind
 .have e1:fw (s.th i)=1:=by simp[fw,e]
  cases hs:s.w.s with
  |true=>have:=(c hs).2.1;omega
  |false=>
   grind
 .have e1:fk (s.th i)=1:=by simp[fk,e]
  grind
def Inv.small(h:Inv n s):s.w.k<=n:=by
 have b:∀f:Th->Nat,(∀T,f T<=1)->sumTo n (λa=>f (s.th a))<=n:=λf hf=>by
  have:=eE (f:=λa=>f (s.th a)) (c:=1) (j:=n) λi _=>hf _;omega
 cases hs:s.w.s with
 |false=>
  have:=(h.norm hs).2.2;have:=b fq (λT=>by unfold fq;split<;>omega);omega
 |true=>
  have:=(h.star hs).2.2.2;have:=b (λT=>fq T+fk T+fa T) (λT=>by unfold fq fk fa;cases T.pc<;>simp);have e:∀j,sumTo j (λa=>fq (s.th a)+fk (s.th a)+fa (s.th a))=sumTo j (λa=>fq (s.th a))+sumTo j (λa=>fk (s.th a))+sumTo j (λa=>fa (s.th a)):=by
   intro j
   induction j with
   |zero=>rfl
   |succ j d=>simp only[sumTo,d];omega
  rw[e]at this;omega
end
section
variable {n:Nat}{s:St}{i:Nat}{T T':Th}{w':Wd}{ms':Nat}
def Inv.move(h:Inv n s)(hi:i<n)(c:s.th i=T)(m:Mv s.w s.ms T T' w' ms'):Inv n ⟨upd s.th i T',w',ms'⟩/\OY n ⟨upd s.th i T',w',ms'⟩ s:=by
 have d:Tok n T:=c▸h.tok i hi;have P:Safe T s.w:=c▸h.safe hi;have small:=h.small
 cases m with
 |lock a C=>
  have f:=d.r (by rw[a];simp)
  have g:T.aw=false:=by cases e:T.aw with|false=>rfl|true=>rcases d.aw e with x|x|x<;>rw[a]at x<;>cases x
  refine⟨?_,pQ hi (by rw[c];simp only[am,a];omega)⟩;obtain⟨H,Q,K,A,R,W,U,N,z,y,B,F,D⟩:=h.num;obtain⟨t,o,j,p,q,u,v,N'⟩:=N.upd (T':={ pc:=.u0,r:=T.r }) (w':={ l:=true }) (ms':=s.ms) hi c;rw[C]at y B F D;simp only[fh,fq,fk,fa,fr,fw,fu,a,g]at N' t o j p q u v;simp at y B F D N';refine inv_of (ew h (dg rfl ar ar ar ar ar ar (λ_=>f) ar ar)) N' ab (by simp;omega) (by simp;omega) ar ar
 |acJ a C=>
  have f:=d.r (by rw[a];simp)
  have g:T.aw=false:=by cases e:T.aw with|false=>rfl|true=>rcases d.aw e with x|x|x<;>rw[a]at x<;>cases x
  refine⟨fX h hi (dg rfl ar ar ar ar ar ar (λ_=>f) ar ar) ?_ ?_ ?_ ?_ ?_ ?_ ?_,fI hi (by rw[c];simp[am,a]) (by rw[c];simp[wt,a])⟩<;>simp[c,fh,fq,fk,fa,fr,fw,fu,a,g]
 |Ws _ a E=>
  have f:=d.r (by rw[a];simp)
  have g:T.aw=false:=by cases e:T.aw with|false=>rfl|true=>rcases d.aw e with x|x|x<;>rw[a]at x<;>cases x
  obtain⟨c1,I,c3,J,L,M,O⟩:=E.counts;refine⟨fX h hi (E.tok f ar ar small ar) ?_ ?_ ?_ ?_ ?_ ?_ ?_,fI hi (by rw[c,E.am];simp[am,a]) ?_⟩
  .rw[c,c1];simp[fh,a]
  .rw[c,I];simp[fq,a]
  .rw[c,c3];simp[fk,a]
  .rw[c,J];simp[fa,a]
  .rw[c,L];simp[fr,a]
  .rw[c,M];simp[fu,a]
  .rw[c,O];simp[fw,g]
  .have S:=E.wt (n:=n);simp at S;rw[c];have e:wt n s.w T=8*n+19:=by simp[wt,a]
   omega
 |Wt a C=>
  have f:=d.r (by rw[a];simp);have zf:=d.it (hK a);obtain⟨o1,V,Z,o4⟩:=d.c1 a
  have g:T.aw=false:=by cases e:T.aw with|false=>rfl|true=>rcases d.aw e with x|x|x<;>rw[a]at x<;>cases x
  refine⟨?_,uj hi (by rw[c];simp[am,a]) (by rw[c];simp[wt,a,g];omega)⟩;obtain⟨H,Q,K,A,R,W,U,N,z,y,B,F,D⟩:=h.num;obtain⟨t,o,j,p,q,u,v,N'⟩:=N.upd (T':={ T with pc:=.r1,aw:=true }) (w':={ s.w with w:=true }) (ms':=s.ms) hi c;rw[<-C]at o1 V Z o4;obtain⟨X,g2,g3⟩:=B V;simp[Z]at X;simp only[fh,fq,fk,fa,fr,fw,fu,a,g]at N' t o j p q u v;simp at N';refine inv_of (ew h ?_) N' z (by simpa using y) (by simp;omega) (by simp[V]) ar;exact⟨λ_=>hK rfl,λ_ _=>rfl,λx=>(by cases x),λ_=>zf,d.Yv,λx=>(by cases x),λx=>(by cases x),λx=>(by cases x),d.old,λ_=>f,λx=>(by cases x)⟩
 |Wu a C=>
  have f:=d.r (by rw[a];simp);have zf:=d.it (hK a)
  have g:T.aw=false:=by cases e:T.aw with|false=>rfl|true=>rcases d.aw e with x|x|x<;>rw[a]at x<;>cases x
  refine⟨fX h hi ?_ ?_ ?_ ?_ ?_ ?_ ?_ ?_,fI hi (by rw[c];simp[am,a]) (by rw[c];simp[wt,a])⟩
  .exact⟨λx=>hK rfl,λ_ x=>d.sv (hM (hK a)) x,λx=>(by cases x),λ_=>zf,d.Yv,λx=>(by cases x),λx=>(by cases x),λx=>(by cases x),d.old,λ_=>f,λx=>(by cases x)⟩
  all_goals simp[c,fh,fq,fk,fa,fr,fw,fu,a]
 |Wv _ a E=>
  have f:=d.r (by rw[a];simp);have zf:=d.it (hM a);obtain⟨c1,I,c3,J,L,M,O⟩:=E.counts;refine⟨fX h hi (E.tok f (λx=>d.sv (hK a) x) (by show T.it+1<=4;omega) small (λx=>(P.aw x).1)) ?_ ?_ ?_ ?_ ?_ ?_ ?_,fI hi (by rw[c,E.am];simp[am,a]) ?_⟩
  .rw[c,c1];simp[fh,a]
  .rw[c,I];simp[fq,a]
  .rw[c,c3];simp[fk,a]
  .rw[c,J];simp[fa,a]
  .rw[c,L];simp[fr,a]
  .rw[c,M];simp[fu,a]
  .rw[c,O];simp[fw]
  .have S:=E.wt (n:=n);simp at S;rw[c];have e:wt n s.w T=4*n+1+(if T.aw then 0 else 4*n+1)+3*(4-T.it)+2:=by simp[wt,a]
   omega
 |take a C hl hs=>
  have f:=d.r (by rw[a];simp);refine⟨?_,pQ hi (by rw[c];simp only[am,a];omega)⟩;obtain⟨H,Q,K,A,R,W,U,N,z,y,B,F,D⟩:=h.num;obtain⟨t,o,j,p,q,u,v,N'⟩:=N.upd (T':={ pc:=.u0,r:=T.r }) (w':=T.nw) (ms':=s.ms) hi c;have Y:T.nw={ l:=true,w:=s.w.w && !T.aw,s:=false,k:=s.w.k }:=by rw[d.c2 a,qZ,<-C];simp[hl,hs]
  rw[Y]at N' ⊢;obtain⟨X,g2,g3⟩:=B hs;have hH0:H=0:=by
   grind
  have g:T.aw=true->s.w.w=true:=λx=>(P.aw x).1;simp only[fh,fq,fk,fa,fr,fw,fu,a]at N' t o j p q u v;simp at N';refine inv_of (ew h (dg rfl ar ar ar ar ar ar (λ_=>f) ar ar)) N' ab (by simp;omega) (λ_=>?_) ar ar;grind
 |queue a C Fz=>
  have f:=d.r (by rw[a];simp);refine⟨?_,uj hi (by rw[c];simp[am,a]) (by rw[c];simp[wt,a];omega)⟩;obtain⟨H,Q,K,A,R,W,U,N,z,y,B,F,D⟩:=h.num;obtain⟨t,o,j,p,q,u,v,N'⟩:=N.upd (T':={ pc:=.s1,sv:=T.sv,r:=T.r }) (w':=T.nw) (ms':=s.ms) hi c;have g:T.aw=true->s.w.w=true/\s.w.s=false:=λx=>P.aw x;have hsv:T.sv=true->T.aw=true:=d.sv (hM (hM (hK a)));have zz:(s.w.l||s.w.s)=true:=aS;have Y:T.nw={ l:=s.w.l || !s.w.s,w:=s.w.w && !T.aw,s:=s.w.s||(T.sv&&s.w.l),k:=s.w.k+1 }:=by rw[d.c2 a,qZ,<-C,if_pos zz]
  rw[Y]at N' ⊢;simp only[fh,fq,fk,fa,fr,fw,fu,a]at N' t o j p q u v;simp at N';refine inv_of (ew h (dg rfl ar ar ar ar ar ar (λ_=>f) ar ar)) N' z ?_ ?_ ?_ ?_
  .grind
  .grind
  .grind
  grind
 |Ww a C=>
  have f:=d.r (by rw[a];simp);refine⟨fX h hi ?_ ?_ ?_ ?_ ?_ ?_ ?_ ?_,fI hi (by rw[c];simp[am,a]) (by rw[c];simp[wt,a,eN C])⟩
  .exact⟨λx=>hM (hM rfl),λ_ x=>d.sv (hM (hM (hK a))) x,λx=>(by cases x),λx=>aS,d.Yv,λx=>(by cases x),λx=>(by cases x),λx=>(by cases x),d.old,λ_=>f,λx=>(by cases x)⟩
  all_goals simp[c,fh,fq,fk,fa,fr,fw,fu,a]
 |Wx _ a E=>
  have f:=d.r (by rw[a];simp);obtain⟨c1,I,c3,J,L,M,O⟩:=E.counts;refine⟨fX h hi (E.tok f (λx=>d.sv (hM (hM (hM a))) x) d.Yv small (λx=>(P.aw x).1)) ?_ ?_ ?_ ?_ ?_ ?_ ?_,fI hi (by rw[c,E.am];simp[am,a]) ?_⟩
  .rw[c,c1];simp[fh,a]
  .rw[c,I];simp[fq,a]
  .rw[c,c3];simp[fk,a]
  .rw[c,J];simp[fa,a]
  .rw[c,L];simp[fr,a]
  .rw[c,M];simp[fu,a]
  .rw[c,O];simp[fw]
  .have S:=E.wt (n:=n);simp at S;rw[c];have e:wt n s.w T=4*n+1+(if T.aw then 0 else 4*n+1)+3*(4-T.it)+5:=by simp[wt,a]
   omega
 |woken b a hb GB=>
  have f:=d.r (by rw[a];simp)
  have g:T.aw=false:=by cases e:T.aw with|false=>rfl|true=>rcases d.aw e with x|x|x<;>rw[a]at x<;>cases x
  refine⟨?_,fI hi (by rw[c];simp[am,a]) ?_⟩
  .obtain⟨H,Q,K,A,R,W,U,N,z,y,B,F,D⟩:=h.num;obtain⟨t,o,j,p,q,u,v,N'⟩:=N.upd (T':={ pc:=.r2,sv:=b,r:=T.r }) (w':=s.w) (ms':=s.ms-1) hi c;simp only[fh,fq,fk,fa,fr,fw,fu,a,g]at N' t o j p q u v;simp at N' o;refine inv_of (ew h (dg rfl ar ar ar ar ar ar (λ_=>f) ar ar)) N' z y (λhs=>?_) (λhs=>?_) D
   .grind
   grind
  .rw[c];have e1:wt n s.w T=0:=by simp[wt,a]
   have e2:wt n s.w { pc:=.r2,sv:=b,r:=T.r }=4*n+18:=rfl;obtain⟨m,hm⟩:∃m,s.ms=m+1:=⟨s.ms-1,ab⟩
   rw[e1,e2,hm,Nat.add_sub_cancel,ec,ed];omega
 |Wz _ a hs E=>
  have f:=d.r (by rw[a];simp)
  have g:T.aw=false:=by cases e:T.aw with|false=>rfl|true=>rcases d.aw e with x|x|x<;>rw[a]at x<;>cases x
  obtain⟨c1,I,c3,J,L,M,O⟩:=E.counts;refine⟨?_,fI hi (by rw[c,E.am];simp[am,a]) ?_⟩
  .obtain⟨H,Q,K,A,R,W,U,N,z,y,B,F,D⟩:=h.num;obtain⟨t,o,j,p,q,u,v,N'⟩:=N.upd (T':=T') (w':=s.w) (ms':=s.ms) hi c;rw[c1,I,c3,J,L,M,O]at N';simp only[fh,fq,fk,fa,fr,fw,fu,a,g]at N' t o j p q u v;simp at N' j;refine inv_of (ew h (E.tok f (λx=>rfl) ar small (λ_=>P.r2n a hs))) N' z y (λhs=>?_) (λfR=>aS) D;grind
  .have S:=E.wt (n:=n);simp at S;rw[c];have e:wt n s.w T=4*n+18:=by simp[wt,a]
   omega
 |handed a hs=>
  have f:=d.r (by rw[a];simp)
  have g:T.aw=false:=by cases e:T.aw with|false=>rfl|true=>rcases d.aw e with x|x|x<;>rw[a]at x<;>cases x
  refine⟨?_,fI hi (by rw[c];simp[am,a]) (by rw[c];simp[wt,a])⟩;obtain⟨H,Q,K,A,R,W,U,N,z,y,B,F,D⟩:=h.num;obtain⟨t,o,j,p,q,u,v,N'⟩:=N.upd (T':={ pc:=.a1,sv:=T.sv,ex:=!T.sv||s.w.k==1,r:=T.r }) (w':=s.w) (ms':=s.ms) hi c;simp only[fh,fq,fk,fa,fr,fw,fu,a,g]at N' t o j p q u v;simp at N' j;refine inv_of (ew h (dg rfl ar ar ar ar ar ar (λ_=>f) ar ar)) N' z y (λfR=>aS) (λ_=>?_) D;grind
 |acK a=>
  have f:=d.r (by rw[a];simp)
  have g:T.aw=false:=by cases e:T.aw with|false=>rfl|true=>rcases d.aw e with x|x|x<;>rw[a]at x<;>cases x
  obtain⟨a1,a2,a3,a4⟩:=P.a1 a;refine⟨?_,pQ hi (by rw[c];simp only[am,a];omega)⟩;obtain⟨H,Q,K,A,R,W,U,N,z,y,B,F,D⟩:=h.num;obtain⟨t,o,j,p,q,u,v,N'⟩:=N.upd (T':={ pc:=.u0,r:=T.r }) (w':={ l:=true,w:=s.w.w,s:=s.w.s && !T.ex,k:=s.w.k-1 }) (ms':=s.ms) hi c;simp only[fh,fq,fk,fa,fr,fw,fu,a,g]at N' t o j p q u v;simp at N' p;obtain⟨X,g2,g3,g4⟩:=F a3;refine inv_of (ew h (dg rfl ar ar ar ar ar ar (λ_=>f) ar ar)) N' ab (by simp;omega) (λ_=>?_) (λ_=>?_) ar
  .simp[a2];omega
  .simp[a2];omega
 |free a hs hk=>
  have f:=d.r (by rw[a];simp)
  have g:T.aw=false:=by cases e:T.aw with|false=>rfl|true=>rcases d.aw e with x|x|x<;>rw[a]at x<;>cases x
  have hl:=P.u0 a;obtain⟨c1,I,c3,J,L,M,O⟩:=lz T.r;refine⟨?_,pQ hi (by rw[c,uk];simp only[am,a];omega)⟩;obtain⟨H,Q,K,A,R,W,U,N,z,y,B,F,D⟩:=h.num;obtain⟨t,o,j,p,q,u,v,N'⟩:=N.upd (T':=bP T.r) (w':={ s.w with l:=false }) (ms':=s.ms) hi c;rw[c1,I,c3,J,L,M,O]at N';simp only[fh,fq,fk,fa,fr,fw,fu,a,g]at N' t o j p q u v;simp at N';have:=y.1 hl;refine inv_of (ew h (ri _)) N' ab (by simp;omega) (by simpa using B) (by simp[hs]) (λ_ FA _ WB=>?_);grind
 |hand a hs=>
  have f:=d.r (by rw[a];simp)
  have g:T.aw=false:=by cases e:T.aw with|false=>rfl|true=>rcases d.aw e with x|x|x<;>rw[a]at x<;>cases x
  have hl:=P.u0 a;refine⟨?_,pQ hi (by rw[c];simp only[am,a];omega)⟩;obtain⟨H,Q,K,A,R,W,U,N,z,y,B,F,D⟩:=h.num;obtain⟨t,o,j,p,q,u,v,N'⟩:=N.upd (T':={ pc:=.us,r:=T.r }) (w':={ s.w with l:=false }) (ms':=s.ms) hi c;simp only[fh,fq,fk,fa,fr,fw,fu,a,g]at N' t o j p q u v;simp at N';have:=y.1 hl;obtain⟨X,g2,g3,g4⟩:=F hs;refine inv_of (ew h (dg rfl ar ar ar ar ar ar (λ_=>f) ar ar)) N' ab (by simp;omega) (by simp[hs]) (λ_=>?_) (by simp[hs]);simp[X];omega
 |acL a hs hk C=>
  have f:=d.r (by rw[a];simp)
  have g:T.aw=false:=by cases e:T.aw with|false=>rfl|true=>rcases d.aw e with x|x|x<;>rw[a]at x<;>cases x
  have hl:=P.u0 a;refine⟨?_,pQ hi (by rw[c];simp only[am,a];omega)⟩;obtain⟨H,Q,K,A,R,W,U,N,z,y,B,F,D⟩:=h.num;obtain⟨t,o,j,p,q,u,v,N'⟩:=N.upd (T':={ pc:=.uc,old:={ s.w with l:=false },r:=T.r }) (w':={ s.w with l:=false }) (ms':=s.ms) hi c;simp only[fh,fq,fk,fa,fr,fw,fu,a,g]at N' t o j p q u v;simp at N';have:=y.1 hl;refine inv_of (ew h ?_) N' ab (by simp;omega) (by simpa using B) (by simp[hs]) (λ_ _ _ _=>ab);exact⟨λx=>(by cases x),λx=>aS,λx=>(by cases x),λx=>aS,ar,λx=>(by cases x),λx=>(by cases x),λ_=>⟨rfl,hs,C,hk⟩,small,λ_=>f,λx=>(by cases x)⟩
 |release a C=>
  have f:=d.r (by rw[a];simp)
  have g:T.aw=false:=by cases e:T.aw with|false=>rfl|true=>rcases d.aw e with x|x|x<;>rw[a]at x<;>cases x
  obtain⟨o1,V,Z,o4⟩:=d.uc a;refine⟨?_,uj hi (by rw[c];simp[am,a]) (by rw[c];simp[wt,a];omega)⟩;obtain⟨H,Q,K,A,R,W,U,N,z,y,B,F,D⟩:=h.num;obtain⟨t,o,j,p,q,u,v,N'⟩:=N.upd (T':={ pc:=.us,r:=T.r }) (w':={ s.w with k:=s.w.k-1,w:=true }) (ms':=s.ms) hi c;rw[<-C]at o1 V Z o4;simp only[fh,fq,fk,fa,fr,fw,fu,a,g]at N' t o j p q u v;simp at N';obtain⟨X,g2,g3⟩:=B V;simp[Z]at X;refine inv_of (ew h (dg rfl ar ar ar ar ar ar (λ_=>f) ar ar)) N' z (by simpa using y) (λ_=>?_) (by simp[V]) ar;simp;omega
 |again a C=>
  have f:=d.r (by rw[a];simp)
  have g:T.aw=false:=by cases e:T.aw with|false=>rfl|true=>rcases d.aw e with x|x|x<;>rw[a]at x<;>cases x
  refine⟨fX h hi (dg rfl ar ar ar ar ar ar (λ_=>f) ar ar) ?_ ?_ ?_ ?_ ?_ ?_ ?_,fI hi (by rw[c];simp[am,a]) (by rw[c];simp[wt,a,eN C])⟩<;>simp[c,fh,fq,fk,fa,fr,fw,fu,a,g]
 |leave a hk=>
  have f:=d.r (by rw[a];simp)
  have g:T.aw=false:=by cases e:T.aw with|false=>rfl|true=>rcases d.aw e with x|x|x<;>rw[a]at x<;>cases x
  obtain⟨c1,I,c3,J,L,M,O⟩:=lz T.r;refine⟨?_,fI hi (by rw[c,uk];simp[am,a]) ?_⟩
  .obtain⟨H,Q,K,A,R,W,U,N,z,y,B,F,D⟩:=h.num;obtain⟨t,o,j,p,q,u,v,N'⟩:=N.upd (T':=bP T.r) (w':=s.w) (ms':=s.ms) hi c;rw[c1,I,c3,J,L,M,O]at N';simp only[fh,fq,fk,fa,fr,fw,fu,a,g]at N' t o j p q u v;simp at N';refine inv_of (ew h (ri _)) N' z y B F (λe1 e2 e3 e4=>?_);grind
  .rw[c];have e1:wt n s.w T=16*n+42:=by simp[wt,a]
   have:=Ai (n:=n) T.r s.w;omega
 |WA a hk hl C hs=>
  have f:=d.r (by rw[a];simp)
  have g:T.aw=false:=by cases e:T.aw with|false=>rfl|true=>rcases d.aw e with x|x|x<;>rw[a]at x<;>cases x
  refine⟨fX h hi ?_ ?_ ?_ ?_ ?_ ?_ ?_ ?_,fI hi (by rw[c];simp[am,a]) (by rw[c];simp[wt,a])⟩
  .exact⟨λx=>(by cases x),λx=>aS,λx=>(by cases x),λx=>aS,ar,λx=>(by cases x),λx=>(by cases x),λ_=>⟨hl,hs,C,hk⟩,small,λ_=>f,λx=>(by cases x)⟩
  all_goals simp[c,fh,fq,fk,fa,fr,fw,fu,a,g]
 |post a=>
  have f:=d.r (by rw[a];simp)
  have g:T.aw=false:=by cases e:T.aw with|false=>rfl|true=>rcases d.aw e with x|x|x<;>rw[a]at x<;>cases x
  obtain⟨c1,I,c3,J,L,M,O⟩:=lz T.r;refine⟨?_,fI hi (by rw[c,uk];simp[am,a]) ?_⟩
  .obtain⟨H,Q,K,A,R,W,U,N,z,y,B,F,D⟩:=h.num;obtain⟨t,o,j,p,q,u,v,N'⟩:=N.upd (T':=bP T.r) (w':=s.w) (ms':=s.ms+1) hi c;rw[c1,I,c3,J,L,M,O]at N';simp only[fh,fq,fk,fa,fr,fw,fu,a,g]at N' t o j p q u v;simp at N' q;refine inv_of (ew h (ri _)) N' z y (λhs=>?_) (λhs=>?_) D
   .grind
   grind
  .rw[c];have e1:wt n s.w T=12*n+40:=by simp[wt,a]
   have:=Ai (n:=n) T.r s.w;grind
def Inv.live(h:Inv n s)(hb:∀i,i<n->(s.th i).pc=.out\/((s.th i).pc=.s1/\s.ms=0)):∀i,i<n->(s.th i).pc=.out:=by
 have zero:∀f:Th->Nat,(∀T,T.pc=.out\/T.pc=.s1->f T=0)->sumTo n (λa=>f (s.th a))=0:=by
  intro f hf;have:=eE (f:=λa=>f (s.th a)) (c:=0) (j:=n) λi hi=>aS;omega
 intro i hi
 rcases hb i hi with e|⟨e,g⟩
 .exact e
 exfalso;have z1:=zero fh (λT e=>by rcases e with e|e<;>simp[fh,e]);have k:=zero fk (λT e=>by rcases e with e|e<;>simp[fk,e]);have m:=zero fa (λT e=>by rcases e with e|e<;>simp[fa,e]);have o:=zero fr (λT e=>by rcases e with e|e<;>simp[fr,e]);have p:=zero fu (λT e=>by rcases e with e|e<;>simp[fu,e]);have q:sumTo n (λa=>fw (s.th a))=0:=by
  have:=eE (f:=λa=>fw (s.th a)) (c:=0) (j:=n) λi hi=>by
   unfold fw;split
   .rename_i b
    rcases(h.tok i hi).aw b with x|x|x<;>grind<;>rw[y]at x<;>cases x
   .exact eg _
  omega
 have q1:1<=sumTo n (λa=>fq (s.th a)):=by
  have:=eD (f:=λa=>fq (s.th a)) hi;have e1:fq (s.th i)=1:=by simp[fq,e]
  grind
 cases hs:s.w.s with
 |true=>have:=(h.star hs).2.2.1;omega
 |false=>
  obtain⟨r,t,u⟩:=h.norm hs;have d:s.w.w=false:=by
   grind
  have hl:s.w.l=false:=by
   cases e:s.w.l with
   |false=>rfl
   |true=>have:=h.lock.1 e;omega
  have:=h.Yw hs d hl ab;omega
end
end Go.cD
namespace Go.Ph
open Go.Conc Go.ConcN
open Go.ConcM (MuAt muA msA OsLater muBlock)
open Go.ConcR (KK WgAt stA smA rd wr mk)
open Go.cD (Wd Th Mv Safe)
inductive Tree where
 |leaf
 |node (f:aP->Tree)
inductive Tree.Lt:Tree->Tree->Prop
 |sub (f:aP->Tree) (w:aP):Tree.Lt (f w) (.node f)
def Tree.wf:WellFounded Tree.Lt:=⟨λt=>by
 induction t with
 |leaf=>exact⟨_,λ_ h=>by cases h⟩
 |node f a=>exact⟨_,λ_ h=>by cases h with|sub _ w=>exact a w⟩⟩
def _root_.Go.cD.Wd.num(x:Wd):Nat:=(if x.l then 1 else 0)+(if x.w then 2 else 0)+(if x.s then 4 else 0)+8*x.k
structure Sh where
 mw:Wd
 ms:Nat
 v:Nat
 wt:Nat
 ws:Nat
structure Fix where
 P:a7
 tM:a8
 tW:a8
 tT:a8
 Mu:Nat
 Wg:Nat
 Tb:Nat
 size:Nat
 n:Nat
 Shun:Loc->Prop
variable (X:Fix)
def ShAt(w:aP)(s:Sh):Prop:=eP X.tM X.Mu w (s.mw.num:Int) (s.ms:Int)/\WgAt X.tW X.Wg w ((s.v:Int)*KK+(s.wt:Int)) (s.ws:Int)
def Live(w:aP):Prop:=(∃st a,eP X.tM X.Mu w st a)/\(∃st a,WgAt X.tW X.Wg w st a)/\∃c:Array a9,w.heap[X.Tb]?=some (hu c X.tT)/\c.size=X.size
def OZ(l:Loc):Prop:=∃a,l=hV a/\(a.block=X.Mu\/a.block=X.Wg)
def jm(b:Nat):Prop:=b≠X.Mu/\b≠X.Wg/\b≠X.Tb
structure Vw where
 g:Nat
 st:Nat->Prop
 row:Nat->Prop
abbrev Own:=Nat->Prop
structure Rl(V:Vw)(M:Own)(w ai:aP):Prop where
 tape:ai.tape=w.tape
 output:ai.output=w.output
 os:eQ w.os ai.os
 size:w.heap.size<=ai.heap.size
 st:∀b,V.st b->ai.heap[b]?=w.heap[b]?
 own:∀b,M b->ai.heap[b]?=w.heap[b]?
 live:Live X w->Live X ai
 row:∀o,V.row o->ai.cell? ⟨X.Tb,o,none⟩=w.cell? ⟨X.Tb,o,none⟩
def TR(V:Vw)(M:Own)(l:Loc):Prop:=match l with
 |hV a=>M a.block\/(a.block=X.Tb/\V.row a.off)
 |hX b=>M b
 |_=>False
def RdL(V:Vw)(l:Loc):Prop:=¬X.Shun l/\match l with
 |hV a=>V.st a.block
 |hX b=>V.st b
 |_=>False
def jG(V:Vw)(M:Own)(B:Nat)(e:bb):Prop:=
 (∀x,(eT e).touch? = some x->x.loc.isMemory=true/\((OZ X x.loc/\if V.g=0 then x.kind≠hJ else x.kind=hI)\/(x.kind=hJ/\(TR X V M x.loc\/(RdL X V x.loc/\x.write=false)))))/\
 e.loc≠hY (.release (stA X.Wg))/\(eT e).low B
structure Dl(V:Vw)(q:Bool)(M:Own)(d:Nat)(w w':aP)(es:Array bb)(M':Own)(d':Nat):Prop where
 tape:w'.tape=w.tape
 output:w'.output=w.output
 os:eQ w.os w'.os
 size:w.heap.size<=w'.heap.size
 block:∀b,b<w.heap.size->¬M b->b≠X.Mu->b≠X.Wg->b≠X.Tb->w'.heap[b]?=w.heap[b]?
 tb:∀c:Array a9,w.heap[X.Tb]?=some (hu c X.tT)->∃c':Array a9,w'.heap[X.Tb]?=some (hu c' X.tT)/\c'.size=c.size
 cells:∀o,¬V.row o->w'.cell? ⟨X.Tb,o,none⟩=w.cell? ⟨X.Tb,o,none⟩
 calm:q=true->w'.heap[X.Tb]?=w.heap[X.Tb]?
 own:∀b,M' b↔M b\/(w.heap.size<=b/\b<w'.heap.size)
 ev:∀e∈es,jG X V M' w'.heap.size e
 ai1:q=true->∀j e,es[j]?=some e->(eT e).touch? = none\/((∃ad wr,e=⟨hV ad,wr,true⟩)/\0<bi d (es.extract 0 j))
 deaf:d'=bi d es
def L3(w w':aP):Prop:=w'.heap[X.Mu]?=w.heap[X.Mu]?/\w'.heap[X.Wg]?=w.heap[X.Wg]?
abbrev Stp:=Own->Nat->bj->aP->Prop
def jA(V:Vw)(q:Bool)(Stop:Stp):Tree->Own->Nat->bj->aP->Prop
 |.leaf,M,d,g,w=>∀ai,Rl X V M w ai->Stop M d g ai
 |.node f,M,d,g,w=>∀ai,Rl X V M w ai->Stop M d g ai\/(g.status=hZ/\∃a w' es b c,stepG X.P (V.g==0) g ai=gj a w' es/\Dl X V q M d ai w' es b c/\L3 X ai w'/\a.status=hZ/\jA V q Stop (f ai) b c a w')
def ay(V:Vw)(q:Bool)(Stop:Stp)(M:Own)(d:Nat)(g:bj)(w:aP):Prop:=∃t,jA X V q Stop t M d g w
section
variable {X}{V:Vw}{q:Bool}{Stop WG:Stp}{M:Own}{d:Nat}{g:bj}{w ai GD:aP}
def Rl.refl(V:Vw)(M:Own)(w:aP):Rl X V M w w:=⟨rfl,rfl,h7 _,eg _,λ_ _=>rfl,λ_ _=>rfl,id,λ_ _=>rfl⟩
def Rl.trans(h:Rl X V M w ai)(k:Rl X V M ai GD):Rl X V M w GD:=
 ⟨k.tape.trans h.tape,k.output.trans h.output,h.os.trans k.os,eh h.size k.size,λb hb=>(k.st b hb).trans (h.st b hb),λb hb=>(k.own b hb).trans (h.own b hb),λl=>k.live (h.live l),λo a=>(k.row o a).trans (h.row o a)⟩
def ay.stop(h:∀ai,Rl X V M w ai->Stop M d g ai):ay X V q Stop M d g w:=⟨.leaf,h⟩
def ay.either(h:∀ai,Rl X V M w ai->Stop M d g ai\/(g.status=hZ/\∃g' w' es M' d',stepG X.P (V.g==0) g ai=gj g' w' es/\Dl X V q M d ai w' es M' d'/\L3 X ai w'/\g'.status=hZ/\ay X V q Stop M' d' g' w')):ay X V q Stop M d g w:=by
 have key:∀ai,∃t:Tree,Rl X V M w ai->Stop M d g ai\/(g.status=hZ/\∃g' w' es M' d',stepG X.P (V.g==0) g ai=gj g' w' es/\Dl X V q M d ai w' es M' d'/\L3 X ai w'/\g'.status=hZ/\jA X V q Stop t M' d' g' w'):=by
  intro ai;by_cases a:Rl X V M w ai
  .rcases h ai a with hs|⟨b,g',w',es,M',d',c,e,i,j,t,k⟩
   .exact⟨.leaf,λ_=>hK hs⟩
   .exact⟨t,λ_=>hM ⟨b,g',w',es,M',d',c,e,i,j,k⟩⟩
  .exact⟨.leaf,λx=>absurd x a⟩
 obtain⟨f,hf⟩:=eM key;exact⟨.node f,λai a=>hf ai a⟩
def ay.step(a:g.status=hZ)(h:∀ai,Rl X V M w ai->∃g' w' es M' d',stepG X.P (V.g==0) g ai=gj g' w' es/\Dl X V q M d ai w' es M' d'/\L3 X ai w'/\g'.status=hZ/\ay X V q Stop M' d' g' w'):ay X V q Stop M d g w:=
 .either λai r=>hM ⟨a,h ai r⟩
def jA.rely:∀{t:Tree},jA X V q Stop t M d g w->Rl X V M w ai->jA X V q Stop t M d g ai
 |.leaf,h,r=>λGD a=>h GD (r.trans a)
 |.node _,h,r=>λGD a=>h GD (r.trans a)
def ay.rely(h:ay X V q Stop M d g w)(r:Rl X V M w ai):ay X V q Stop M d g ai:=h.imp λ_ x=>x.rely r
def ay.mono(h:ay X V q Stop M d g w)(hs:∀M d g w,Stop M d g w->WG M d g w):ay X V q WG M d g w:=by
 obtain⟨t,a⟩:=h
 induction t generalizing M d g w with
 |leaf=>exact .stop λai r=>hs _ _ _ _ (a ai r)
 |node f b=>
  refine .either λai r=>?_
  rcases a ai r with x|⟨c,e,w',es,i,j,k,l,m,n,o⟩
  .exact hK (hs _ _ _ _ x)
  grind
end
end Go.Ph
namespace Go.Ph
open Go.Conc Go.ConcN
open Go.ConcM (MuAt muA msA OsLater muBlock)
open Go.ConcR (KK WgAt stA smA rd wr mk)
open Go.cD (Wd Th Mv Safe Head eR spin)
inductive Alt:Th->Th->Prop
 |refl (T:Th):Alt T T
 |head (T H:Th):Head T H->(T.aw=true->T.old.w=true)->Alt (eR T) H
 |r2 (T:Th) (b:Bool):T.pc=.r2->(T.sv=true->b=true)->Alt T { T with sv:=b }
variable (X:Fix)
def nR(V:Vw)(q:Bool)(a:Sh->Prop)(f:Sh->Sh)(wake:Bool)(bm:Sh->Stp):Stp:=λM d g w=>
 g.status=hZ/\g.offers=none/\(wake=true->bq X.P g=true)/\∀s,ShAt X w s->a s->
  ∃b w' es e h,stepG X.P (V.g==0) g w=gj b w' es/\ShAt X w' (f s)/\Dl X V q M d w w' es e h/\b.status=hZ/\bm s e h b w'
def acP(V:Vw)(q:Bool)(a:Sh->Prop)(waits:Sh->Prop)(f:Sh->Sh)(bm:Sh->Stp):Stp:=λM d g w=>
 g.status=hZ/\g.offers=none/\∀s,ShAt X w s->a s->(waits s->stepG X.P (V.g==0) g w=gj { g with status:=h6 } w #[])/\
  (¬waits s->∃b w' es e h,stepG X.P (V.g==0) g w=gj b w' es/\ShAt X w' (f s)/\Dl X V q M d w w' es e h/\b.status=hZ/\bm s e h b w')
section
variable (V:Vw)(Fin:aP->Prop)
def AtD4:Stp:=nR X V true (λs=>s.v=0/\s.wt=0/\s.ws=0) (λs=>{ s with ws:=1 }) true (λ_ _ d g _=>∃q,da X.P q d g)
def AtD3:Stp:=nR X V true (λs=>s.v=0/\s.wt=1/\s.ws=0) (λs=>{ s with wt:=0 }) false (λ_=>ay X V true (AtD4 X V))
def AtD2:Stp:=nR X V true (λs=>s.v=0/\s.wt=1/\s.ws=0) id false (λ_=>ay X V true (AtD3 X V))
def AtD1:Stp:=nR X V true (λs=>1<=s.v/\s.v<=X.n/\s.wt<=1/\s.ws=0) (λs=>{ s with v:=s.v-1 }) false
 (λs=>if s.v=1/\s.wt=1 then ay X V true (AtD2 X V) else λ_ d g _=>∃q,da X.P q d g)
def O0:Stp:=λM d g w=>g.status=hZ/\d=0/\Fin w/\∃a,stepG X.P (V.g==0) g w=gj a w #[mk (hO (stA X.Wg))]/\a.status=hZ/\ay X V true (AtD1 X V) M 0 a w
def iF:Nat->Th->Stp
 |0,_,_,_,_,_=>True
 |k+1,T,M,d,g,w=>g.status=hZ/\g.offers=none/\(T.pc=.us->bq X.P g=true)/\∀s,ShAt X w s->cD.Safe T s.mw->s.mw.k<=X.n->s.ms<=1->
  (T.pc=.s1/\s.ms=0->stepG X.P (V.g==0) g w=gj { g with status:=h6 } w #[])/\
  (¬(T.pc=.s1/\s.ms=0)->∃e h a f w' es i j,Mv s.mw s.ms T e h a/\stepG X.P (V.g==0) g w=gj f w' es/\ShAt X w' { s with mw:=h,ms:=a }/\Dl X V false M d w w' es i j/\f.status=hZ/\
    ay X V false (λM d g w=>if e.pc=.out then O0 X V Fin M d g w else∃b,Alt e b/\iF k b M d g w) i j f w')
def eU(k:Nat)(T:Th):Stp:=λM d g w=>if T.pc=.out then O0 X V Fin M d g w else∃a,Alt T a/\iF X V Fin k a M d g w
end
section
variable (c:Nat)(np:Nat)(row:Nat->Nat->Prop)(Fin:Nat->aP->Prop)(Post:Own->bj->aP->Prop)
def Yy:Stp:=λM d g w=>g.status=hZ/\d=0/\Post M g w
def O1(V:Vw):Stp:=λM d g w=>g.status=hZ/\d=0/\∃a,stepG X.P (V.g==0) g w=gj a w #[mk (hN (stA X.Wg))]/\a.status=hZ/\ay X V false (Yy Post) M 0 a w
def AtW4(V:Vw):Stp:=nR X V false (λs=>s.v=0/\s.wt=0/\s.ws=0) id false (λ_=>ay X V false (O1 X Post V))
def AtW3(V:Vw):Stp:=acP X V false (λs=>s.ws<=1) (λs=>s.ws=0) (λs=>{ s with ws:=s.ws-1 }) (λ_=>ay X V false (AtW4 X Post V))
mutual
def AtW1(V:Vw):Nat->Stp
 |0=>λ_ _ _ _=>True
 |k+1=>nR X V false (λs=>s.v<=X.n/\s.wt=0/\s.ws=0) id false (λs=>if s.v=0 then ay X V false (O1 X Post V) else ay X V false (AtW2 V k s.v))
def AtW2(V:Vw):Nat->Nat->Stp
 |0,_=>λ_ _ _ _=>True
 |k+1,a=>nR X V false (λs=>s.v<=X.n/\s.wt=0/\s.ws=0) (λs=>if s.v=a then { s with wt:=1 } else s) false
  (λs=>if s.v=a then ay X V false (AtW3 X Post V) else ay X V false (AtW1 V k))
end
def rj(j:Nat)(V:Vw)(M:Own):Vw:=⟨c+j,λb=>V.st b\/M b,row j⟩
def Vw.more(V:Vw)(M:Own):Vw:={ V with st:=λb=>V.st b\/M b }
def nobody:Own:=λ_=>False
def AtGo(j:Nat)(a:Vw->Stp)(V:Vw):Stp:=λM d g w=>g.status=hZ/\d=0/\∃b child,stepG X.P (V.g==0) g w=.spawn b child w #[]/\b.status=hZ/\child.status=hZ/\
 ((∀o,row j o->w.cell? ⟨X.Tb,o,none⟩=some (h8 im 0))->∀k,ay X (rj c row j V M) false (eU X (rj c row j V M) (Fin j) k { pc:=.l0,r:=np }) nobody 0 child w)/\ay X (V.more M) false (a (V.more M)) nobody 0 b w
def Ta:Nat->Vw->Stp
 |0,V=>λM d g w=>∀k,AtW1 X Post V k M d g w
 |r+1,V=>nR X V false (λs=>s.v<X.n/\s.wt=0/\s.ws=0) (λs=>{ s with v:=s.v+1 }) false (λ_=>ay X V false (AtGo X c np row Fin (X.n-(r+1)) (Ta r) V))
end
end Go.Ph
namespace Go.Ph
open Go.Conc Go.ConcN
open Go.ConcM (MuAt muA msA OsLater muBlock)
open Go.ConcR (KK WgAt stA smA rd wr mk)
open Go.cD (Wd Th Mv Head eR spin)
inductive WP where
 |mu|d1|d2|d3|d4|quit
 deriving DecidableEq
inductive MP where
 |add|go|w1|w2 (v:Nat)|w3|w4|aq|an
 deriving DecidableEq
structure Gh where
 j:Nat
 th:Nat->Th
 wp:Nat->WP
 mp:MP
 V:Nat->Vw
 M:Nat->Own
 tr:Nat->Tree
 q:Nat->Nat
 fu:Nat->Nat
 s:Sh
structure CB extends Fix where
 c:Nat
 np:Nat
 row:Nat->Nat->Prop
 Fin:Nat->aP->Prop
 Post:Own->bj->aP->Prop
 sE:Nat
 w₀:aP
variable (Y:CB)
def gid(a:Nat):Nat:=if a=0 then 0 else Y.c+(a-1)
def Gh.q?(G:Gh):Nat->Bool
 |0=>false
 |k+1=>decide (G.wp k≠.mu)
def stM(j f:Nat)(V:Vw):MP->Stp
 |.add=>Ta Y.toFix Y.c Y.np Y.row Y.Fin Y.Post (Y.n-j) V
 |.go=>AtGo Y.toFix Y.c Y.np Y.row Y.Fin j (Ta Y.toFix Y.c Y.np Y.row Y.Fin Y.Post (Y.n-(j+1))) V
 |.w1=>AtW1 Y.toFix Y.Post V f
 |.w2 v=>AtW2 Y.toFix Y.Post V f v
 |.w3=>AtW3 Y.toFix Y.Post V
 |.w4=>AtW4 Y.toFix Y.Post V
 |.aq=>O1 Y.toFix Y.Post V
 |.an=>Yy Y.Post
def NH(V:Vw)(k f:Nat)(T:Th):WP->Stp
 |.mu=>eU Y.toFix V (Y.Fin k) f T
 |.d1=>AtD1 Y.toFix V
 |.d2=>AtD2 Y.toFix V
 |.d3=>AtD3 Y.toFix V
 |.d4=>AtD4 Y.toFix V
 |.quit=>λ_ _ _ _=>False
def Gh.um(G:Gh):Nat->Stp
 |0=>stM Y G.j (G.fu 0) (G.V 0) G.mp
 |k+1=>NH Y (G.V (k+1)) k (G.fu (k+1)) (G.th k) (G.wp k)
def Gh.waits(G:Gh):Nat->Prop
 |0=>G.mp=.w3/\G.s.ws=0
 |k+1=>G.wp k=.mu/\(G.th k).pc=.s1/\G.s.ms=0
def Gh.gone(G:Gh):Nat->Prop
 |0=>False
 |k+1=>G.wp k=.quit
inductive Sit(G:Gh)(a:Nat)(d:Nat)(g:bj)(w:aP):Prop
 |run:¬G.gone a->g.status=hZ->jA Y.toFix (G.V a) (G.q? a) (G.um Y a) (G.tr a) (G.M a) d g w->Sit G a d g w
 |wait (fJ:bj):¬G.gone a->g={ fJ with status:=h6 }->fJ.status=hZ->fJ.offers=none->G.waits a->jA Y.toFix (G.V a) (G.q? a) (G.um Y a) (G.tr a) (G.M a) d fJ w->Sit G a d g w
 |gone:G.gone a->da Y.P (G.q (gid Y a)) d g->Sit G a d g w
structure OI(G:Gh)(w:aP):Prop where
 ap:∀a,a<=G.j->∀b,(G.M a b\/(G.V a).st b)->b<w.heap.size/\jm Y.toFix b
 dj:∀a a',a<=G.j->a'<=G.j->a≠a'->∀b,G.M a b->¬G.M a' b/\¬(G.V a').st b
 self:∀a,a<=G.j->∀b,G.M a b->¬(G.V a).st b
 rows:∀a a',a<=G.j->a'<=G.j->a≠a'->∀o,(G.V a).row o->¬(G.V a').row o
 base:∀a,a<=G.j->∀b,G.M a b->Y.sE<=b
 num:∀a,a<=G.j->(G.V a).g=gid Y a
 ids:Y.Mu≠Y.Wg/\Y.Mu≠Y.Tb/\Y.Wg≠Y.Tb/\Y.sE<=Y.Mu/\Y.sE<=Y.Wg/\Y.sE<=Y.Tb/\Y.Mu<w.heap.size/\Y.Wg<w.heap.size/\Y.Tb<w.heap.size
 main:(G.V 0).row=λ_=>False
 afT:∀k,k<G.j->(G.V (k+1)).row=Y.row k
def BK(G:Gh)(g:Nat)(l:Loc):Prop:=Y.c<=g/\g<Y.c+G.j/\TR Y.toFix (G.V (g-Y.c+1)) (G.M (g-Y.c+1)) l
def O5(G:Gh)(g:Nat)(l:Loc):Prop:=Y.c<=g/\g<Y.c+G.j/\RdL Y.toFix (G.V (g-Y.c+1)) l
def fv:WP->Nat
 |.mu | .d1=>1
 |_=>0
def fd:WP->Nat
 |.d2 | .d3=>1
 |_=>0
def f4:WP->Nat
 |.d4=>1
 |_=>0
structure WI(G:Gh):Prop where
 v:G.s.v=sumTo G.j (λk=>fv (G.wp k))+(if G.mp=.go then 1 else 0)
 early:(G.mp=.add\/G.mp=.go)->G.j<Y.n
 late:G.mp≠.add->G.mp≠.go->G.j=Y.n
 le:G.j<=Y.n
 calm:(G.mp=.add\/G.mp=.go\/G.mp=.w1\/∃v,G.mp=.w2 v)->G.s.wt=0/\G.s.ws=0/\sumTo G.j (λk=>fd (G.wp k))=0/\sumTo G.j (λk=>f4 (G.wp k))=0
 w3:G.mp=.w3->(G.s.wt=1/\G.s.ws=0/\sumTo G.j (λk=>f4 (G.wp k))=0/\(if G.s.v=0 then 1 else 0)=sumTo G.j (λk=>fd (G.wp k)))\/
  (G.s.wt=0/\G.s.v=0/\sumTo G.j (λk=>fd (G.wp k))=0/\sumTo G.j (λk=>f4 (G.wp k))+G.s.ws=1)
 done:(G.mp=.w4\/G.mp=.aq\/G.mp=.an)->G.s.v=0/\G.s.wt=0/\G.s.ws=0/\∀k,k<G.j->G.wp k=.quit
 nz:∀v,G.mp=.w2 v->v≠0
def wW:WP->Nat
 |.mu=>30
 |.d1=>25
 |.d2=>10
 |.d3=>9
 |.d4=>8
 |.quit=>0
def wM(n j:Nat)(v:Nat):MP->Nat
 |.add=>50*(n-j)+20
 |.go=>50*(n-j)+15
 |.w1=>10
 |.w2 a=>if v=a then 9 else 12
 |.w3=>8
 |.w4=>7
 |.aq=>6
 |.an=>0
def vK(G:Gh):Nat:=wM Y.n G.j G.s.v G.mp+sumTo G.j (λk=>wW (G.wp k))
def muK(n:Nat):Nat:=(16*n+43)*n+(4*n+19)+1
def oD(G:Gh):cD.St:=⟨G.th,G.s.mw,G.s.ms⟩
def phi(G:Gh):Nat:=cD.nQ Y.n (oD G)*muK Y.n+cD.uh Y.n (oD G)
structure MI(G:Gh)(gs:Array bj)(w:aP)(t:aa):Prop where
 cpos:0<Y.c
 size:gs.size=Y.c+G.j
 sit:∀a,a<=G.j->∀g,gs[gid Y a]?=some g->Sit Y G a (c9 t (gid Y a)) g w
 old:∀i g,0<i->i<Y.c->gs[i]?=some g->da Y.P (G.q i) (c9 t i) g
 above:∀i,gs.size<=i->c9 t i=0
 sh:ShAt Y.toFix w G.s
 tb:∃cs:Array a9,w.heap[Y.Tb]?=some (hu cs Y.tT)/\cs.size=Y.toFix.size
 mun:cD.Inv Y.n (oD G)
 fresh:∀k,G.j<=k->k<Y.n->G.th k={ pc:=.l0,r:=Y.np }
 out:∀k,k<G.j->G.wp k≠.mu->(G.th k).pc=.out
 wi:WI Y G
 fuel:∀k,k<G.j->phi Y G+1<=G.fu (k+1)
 fuel0:vK Y G+1<=G.fu 0
 oi:OI Y G w
 shun:∀l,Y.Shun l->l.low Y.sE/\l.isMemory=true
 tri:TI Y.Shun (OZ Y.toFix) (BK Y G) (O5 Y G) Y.c G.j t
 rel:∀k,k<G.j->G.wp k≠.mu->∃r,ep (stA Y.Wg) t (Y.c+k) r
 norel:NoRelease (stA Y.Wg) t
 low:∀op∈t,op.act.low w.heap.size
 fin:∀k,k<G.j->G.wp k≠.mu->Y.Fin k w
 acq:G.mp=.an->∃p,t.act? p=some (eW (hN (stA Y.Wg)))/\t.g? p=some 0/\t.heard p/\∀k,k<G.j->∃r,ep (stA Y.Wg) t (Y.c+k) r/\r<p
 tape:w.tape=Y.w₀.tape
 output:w.output=Y.w₀.output
 os:eQ Y.w₀.os w.os
 kept:∀b,b<Y.sE->w.heap[b]?=Y.w₀.heap[b]?
 rowok:∀k k' o,k≠k'->Y.row k o->¬Y.row k' o
 un:∀k,G.j<=k->∀o,Y.row k o->w.cell? ⟨Y.Tb,o,none⟩=some (h8 im 0)
section
variable {Y:CB}{G G':Gh}{gs:Array bj}{w w':aP}{t:aa}{a b d d':Nat}{g g':bj}{es:Array bb}{M':Own}{q:Bool}
def iZ:gid Y 0=0:=rfl
def bQ(k:Nat):gid Y (k+1)=Y.c+k:=by simp[gid]
def wm(hc:0<Y.c)(h:gid Y a=gid Y b):a=b:=by
 unfold gid at h;grind
def Yz(h:a<=G.j)(hc:0<Y.c):gid Y a<Y.c+G.j:=by
 unfold gid;split<;>omega
def TU(hs:ShAt Y.toFix w G.s)(c:∃cs:Array a9,w.heap[Y.Tb]?=some (hu cs Y.tT)/\cs.size=Y.toFix.size):Live Y.toFix w:=
 ⟨⟨_,_,hs.1⟩,⟨_,_,hs.2⟩,c⟩
def acQ(c:Dl Y.toFix (G.V a) q (G.M a) d w w' es M' d')(e:∃cs:Array a9,w.heap[Y.Tb]?=some (hu cs Y.tT)/\cs.size=Y.toFix.size):∃cs:Array a9,w'.heap[Y.Tb]?=some (hu cs Y.tT)/\cs.size=Y.toFix.size:=by
 obtain⟨cs,f,h⟩:=e;obtain⟨cs',i,j⟩:=c.tb cs f;grind
def OI.rl(O:OI Y G w)(f:a<=G.j)(hb:b<=G.j)(i:a≠b)(c:Dl Y.toFix (G.V a) q (G.M a) d w w' es M' d')(hl:Live Y.toFix w->Live Y.toFix w'):Rl Y.toFix (G.V b) (G.M b) w w':=by
 refine⟨c.tape,c.output,c.os,c.size,λx e=>?_,λx e=>?_,hl,λo p=>c.cells o λh=>O.rows a b f hb i o h p⟩
 .obtain⟨k,l,m,n⟩:=O.ap b hb x (hM e);exact c.block x k (λh=>(O.dj a b f hb i x h).2 e) l m n
 .obtain⟨k,l,m,n⟩:=O.ap b hb x (hK e);exact c.block x k (λh=>(O.dj a b f hb i x h).1 e) l m n
def OI.after(O:OI Y G w)(F:a<=G.j)(u:Dl Y.toFix (G.V a) q (G.M a) d w w' es M' d')(m:G'.j=G.j)(n:G'.V=G.V)(s:G'.M=upd G.M a M'):OI Y G' w':=by
 have f:∀b x,(upd G.M a M') b x->G.M b x\/(b=a/\w.heap.size<=x/\x<w'.heap.size):=by
  intro b x h;by_cases e:b=a
  .subst e;rw[et]at h;exact((u.own x).1 h).imp id λy=>⟨rfl,y⟩
  .rw[eu _ _ e]at h;exact hK h
 obtain⟨v,z,A,B,C,D,H,i8,I⟩:=O.ids;have J:=u.size;refine⟨λb hb x c=>?_,λb b' hb i p x c=>?_,λb hb x c=>?_,λb b' hb i p=>?_,λb hb x c=>?_,λb hb=>?_,⟨v,z,A,B,C,D,ab,ab,ab⟩,by rw[n];exact O.main,λk E=>by rw[n];exact O.afT k (m▸E)⟩
 .rw[m]at hb;rw[s,n]at c
  rcases c with c|c
  .rcases f b x c with h|⟨_,r,l⟩
   .obtain⟨r,l⟩:=O.ap b hb x (hK h);exact⟨ab,l⟩
   .exact⟨l,by unfold jm;omega⟩
  .obtain⟨r,l⟩:=O.ap b hb x (hM c);exact⟨ab,l⟩
 .rw[m]at hb i;rw[s]at c ⊢;rw[n]
  rcases f b x c with h|⟨rfl,r,l⟩
  .refine⟨λo=>?_,(O.dj b b' hb i p x h).2⟩
   rcases f b' x o with k|⟨rfl,k1,_⟩
   .exact(O.dj b b' hb i p x h).1 k
   .have:=(O.ap b hb x (hK h)).1;omega
  .refine⟨λo=>?_,λo=>?_⟩
   .rcases f b' x o with k|⟨e,_⟩
    .have:=(O.ap b' i x (hK k)).1;omega
    .exact p e.symm
   .have:=(O.ap b' i x (hM o)).1;omega
 .rw[m]at hb;rw[s]at c;rw[n]
  rcases f b x c with h|⟨rfl,r,l⟩
  .exact O.self b hb x h
  .intro o;have:=(O.ap b hb x (hM o)).1;omega
 .rw[m]at hb i;rw[n];exact O.rows b b' hb i p
 .rw[m]at hb;rw[s]at c
  rcases f b x c with h|⟨rfl,r,l⟩
  .exact O.base b hb x h
  .omega
 .rw[m]at hb;rw[n];exact O.num b hb
def again_blocked(c:bj)(e:c.status=hZ)(f:c.offers=none)(w:aP):({ c with status:=h6 }:bj).again w=c:=by
 obtain⟨fr,cs,st,h,of⟩:=c;simp only at e f;subst e f;rfl
def zF(P:a7)(x e c:bj)(f:c.status=hZ)(h:c.offers=none)(w:aP) :
 woken P x e w { c with status:=h6 }={ c with status:=h6 }\/woken P x e w { c with status:=h6 }=c:=by
 unfold woken;split
 .exact hM (again_blocked c f h w)
 .exact hK rfl
def GF(P:a7)(x e c:bj)(f:c.status=hZ)(h:c.offers=none)(w:aP)(i:bq P x=true)(j:e.status=hZ) :
 woken P x e w { c with status:=h6 }=c:=by
 unfold woken;rw[if_pos (by simp[i,j])];exact again_blocked c f h w
def Sit.other(h:Sit Y G b d g w)(r:Rl Y.toFix (G.V b) (G.M b) w w')(x i:bj)(e1:G'.V b=G.V b)(j:G'.M b=G.M b)(l:G'.tr b=G.tr b)(m:G'.um Y b=G.um Y b)(n:G'.q? b=G.q? b)(f:G'.gone b↔G.gone b)(s:G'.q (gid Y b)=G.q (gid Y b))
 (u:G.waits b->G'.waits b\/(bq Y.P x=true/\i.status=hZ)):Sit Y G' b d (woken Y.P x i w' g) w':=by
 cases h with
 |run hg c h=>
  rw[woken_run c];exact .run (λy=>hg (f.1 y)) c (by rw[e1,j,l,m,n];exact h.rely r)
 |wait o hg e c p v h=>
  subst e
  rcases u v with k|⟨k1,k2⟩
  .rcases zF Y.P x i o c p w' with e|e
   .rw[e];exact .wait o (λy=>hg (f.1 y)) rfl c p k (by rw[e1,j,l,m,n];exact h.rely r)
   .rw[e];exact .run (λy=>hg (f.1 y)) c (by rw[e1,j,l,m,n];exact h.rely r)
  .rw[GF Y.P x i o c p w' k1 k2];exact .run (λy=>hg (f.1 y)) c (by rw[e1,j,l,m,n];exact h.rely r)
 |gone hg h=>
  rw[db h];exact .gone (f.2 hg) (by rw[s];exact h)
def Sit.status(h:Sit Y G b d g w):g.status=hZ\/g.status=h6\/g.status=.finished:=by
 cases h with
 |run _ h _=>exact hK h
 |wait _ _ e _ _ _ _=>grind
 |gone _ h=>exact h.status.imp id hM
theorem TV{x:MemAct}{c:ag}{B:Nat}(h:x.touch? = some c)(hl:x.low B):c.loc.low B:=by
 cases x with
 |access e=>simp[eV]at h;subst h;exact hl
 |mark m=>cases m<;>simp[eV]at h<;>(subst h;exact hl)
 |_=>simp[eV]at h
def Aj(f:∀op∈t,op.act.low w.heap.size){l:Loc}(hl:¬l.low w.heap.size):∀i x,cB t i=some x->x.loc≠l:=by
 intro i x c e;obtain⟨op,h,j⟩:=cQ c;grind[TV,mem_of_getElem?]
def O6{V:Vw}{M:Own}{l:Loc}(h:TR Y.toFix V M l):l.isMemory=true:=by
 cases l<;>first|rfl|exact h.elim
def TW{V:Vw}{l:Loc}(h:RdL Y.toFix V l):l.isMemory=true:=by
 cases l<;>first|rfl|exact h.2.elim
def Jj:∀k l,(BK Y G k l\/O5 Y G k l)->l.isMemory=true:=λ_ _ h=>h.elim (λx=>O6 x.2.2) (λx=>TW x.2.2)
def OI.shun(O:OI Y G w)(hs:∀l,Y.Shun l->l.low Y.sE/\l.isMemory=true):∀l,OZ Y.toFix l->¬Y.Shun l/\l.isMemory=true:=by
 rintro l⟨a,rfl,h⟩;refine⟨λx=>?_,rfl⟩;have:=(hs _ x).1;obtain⟨_,_,_,c,e,_⟩:=O.ids;have:a.block<Y.sE:=this
 rcases h with h|h<;>omega
def OI.fam(O:OI Y G w)(hs:∀l,Y.Shun l->l.low Y.sE/\l.isMemory=true):Fam Y.Shun (OZ Y.toFix) (BK Y G) (O5 Y G):=by
 obtain⟨I,J,K,L,N,P,_⟩:=O.ids;have blk:∀{V:Vw}{M:Own}{l:Loc},TR Y.toFix V M l->∃x,(l=hX x\/∃f:aL,l=hV f/\f.block=x)/\(M x\/(x=Y.Tb/\∃f:aL,l=hV f/\V.row f.off)):=by
  intro V M l h
  cases l with
  |cell f=>exact⟨f.block,hM ⟨f,rfl,rfl⟩,h.imp id λx=>⟨x.1,f,rfl,x.2⟩⟩
  |obj r=>exact⟨r,hK rfl,hK h⟩
  |_=>exact h.elim
 have st:∀{V:Vw}{l:Loc},RdL Y.toFix V l->∃x,(l=hX x\/∃f:aL,l=hV f/\f.block=x)/\V.st x:=by
  intro V l h
  cases l with
  |cell f=>exact⟨f.block,hM ⟨f,rfl,rfl⟩,h.2⟩
  |obj r=>exact⟨r,hK rfl,h.2⟩
  |_=>exact h.2.elim
 have same:∀{l:Loc}{x y:Nat},(l=hX x\/∃f:aL,l=hV f/\f.block=x)->(l=hX y\/∃f:aL,l=hV f/\f.block=y)->x=y:=by
  grind
 refine⟨λk k' l h C=>?_,λk k' l h C=>?_,λk l h=>⟨λp=>?_,λp=>?_⟩,λk l h=>⟨λp=>?_,λp=>h.2.2.1 p⟩⟩
 .obtain⟨A,B,o⟩:=h;obtain⟨E,F,s⟩:=C;refine eI λQ=>?_;obtain⟨x,v,m⟩:=blk o;obtain⟨y,hy,n⟩:=blk s;obtain rfl:=same v hy;have i:k-Y.c+1<=G.j:=ab;have u:k' - Y.c+1<=G.j:=ab;have z:k-Y.c+1≠k' - Y.c+1:=ab
  rcases m with m|⟨e,f,e1,m⟩
  .rcases n with n|⟨e,_⟩
   .exact(O.dj _ _ i u z x m).1 n
   .exact(O.ap _ i x (hK m)).2.2.2 e
  .rcases n with n|⟨_,H,D,n⟩
   .exact(O.ap _ u x (hK n)).2.2.2 e
   .rw[e1]at D;cases D;exact O.rows _ _ i u z _ m n
 .obtain⟨A,B,o⟩:=h;obtain⟨E,F,s⟩:=C;obtain⟨x,v,m⟩:=blk o;obtain⟨y,hy,n⟩:=st s;obtain rfl:=same v hy;have i:k-Y.c+1<=G.j:=ab;have u:k' - Y.c+1<=G.j:=ab
  rcases m with m|⟨e,_⟩
  .by_cases e:k-Y.c+1=k' - Y.c+1
   .rw[<-e]at n;exact O.self _ i x m n
   .exact(O.dj _ _ i u e x m).2 n
  .exact(O.ap _ u x (hM n)).2.2.2 e
 .obtain⟨A,B,o⟩:=h;obtain⟨f,rfl,hb⟩:=p;have i:k-Y.c+1<=G.j:=ab
  rcases o with m|⟨e,_⟩
  .obtain⟨_,a1,a2,_⟩:=O.ap _ i _ (hK m);grind
  grind
 .obtain⟨A,B,o⟩:=h;have i:k-Y.c+1<=G.j:=ab;obtain⟨x,v,m⟩:=blk o;have R:x<Y.sE:=by
   have:=(hs _ p).1
   rcases v with rfl|⟨f,rfl,rfl⟩
   .exact this
   .exact this
  rcases m with m|⟨e,_⟩
  .have:=O.base _ i x m;omega
  .omega
 .obtain⟨A,B,o⟩:=h;obtain⟨f,rfl,hb⟩:=p;have i:k-Y.c+1<=G.j:=ab;obtain⟨_,a1,a2,_⟩:=O.ap _ i _ (hM o.2);grind
end
def nG(Y:CB):Prop:=∀k w w',(∀o,Y.row k o->w'.cell? ⟨Y.Tb,o,none⟩=w.cell? ⟨Y.Tb,o,none⟩)->Y.Fin k w->Y.Fin k w'
section
variable {Y:CB}{G G':Gh}{gs:Array bj}{w w':aP}{t:aa}{a b d d':Nat}{g g':bj}{es:Array bb}{M':Own}{q:Bool}
def YA{k B:Nat}(p:k<G'.j)(hc:0<Y.c)(i:(G'.V (k+1)).g=Y.c+k)(fn:bv)(pos:String)(l:∀e∈es,jG Y.toFix (G'.V (k+1)) (G'.M (k+1)) B e) :
 ∀op∈e6 (Y.c+k) fn pos es,OkW (OZ Y.toFix) (BK Y G') (O5 Y G') (Y.c+k) op:=by
 intro op m;obtain⟨e,f,rfl⟩:=dd m;refine⟨rfl,λx n=>?_⟩;obtain⟨o,h⟩:=(l e f).1 x n;rw[i,if_neg ab]at h;have hi:Y.c+k-Y.c+1=k+1:=ab;refine⟨o,h.imp id λy=>⟨y.1,y.2.imp (λz=>⟨ab,ab,by rw[hi];exact z⟩) λz=>⟨⟨ab,ab,by rw[hi];exact z.1⟩,z.2⟩⟩⟩
def YB(O:OI Y G' w')(hs:∀l,Y.Shun l->l.low Y.sE/\l.isMemory=true){B:Nat}(fn:bv)(pos:String)(u:∀e∈es,jG Y.toFix (G'.V 0) (G'.M 0) B e) :
 ∀op∈e6 0 fn pos es,Ok0 Y.Shun (OZ Y.toFix) (BK Y G') (O5 Y G') Y.c G'.j op:=by
 intro op v;obtain⟨e,o,rfl⟩:=dd v;refine⟨rfl,λx A J=>?_⟩;obtain⟨_,s⟩:=(u e o).1 x A;have C:=O.num 0 (ei _);rw[C,iZ,if_pos rfl]at s;obtain⟨K,L,N,P,Q,R,_⟩:=O.ids;have key:∀y,(x.loc=hX y\/∃f:aL,x.loc=hV f/\f.block=y)->(G'.M 0 y\/(G'.V 0).st y)->¬OZ Y.toFix x.loc/\∀k,Y.c<=k->k<Y.c+G'.j->¬BK Y G' k x.loc:=by
  intro y hy m;obtain⟨_,a1,a2,a3⟩:=O.ap 0 (ei _) y m;refine⟨?_,λk k1 k2 D=>?_⟩
  .rintro⟨f,e1,hb⟩;grind
  .obtain⟨_,_,i⟩:=D;have n:k-Y.c+1<=G'.j:=ab;have p:G'.M (k-Y.c+1) y:=by
    rcases hy with hy|⟨f,hy,rfl⟩
    .rw[hy]at i;exact i
    .rw[hy]at i;exact i.resolve_right λz=>a3 z.1
   have:=O.dj (k-Y.c+1) 0 n (ei _) ab y p;exact m.elim this.1 this.2
 rcases s with h|⟨_,h|⟨h,E⟩⟩
 .exact hK h
 .obtain⟨y,hy,m⟩:∃y,(x.loc=hX y\/∃f:aL,x.loc=hV f/\f.block=y)/\G'.M 0 y:=by
   cases hl:x.loc with
   |cell f=>
    rw[hl]at h;refine⟨f.block,hM ⟨f,rfl,rfl⟩,h.resolve_right λz=>?_⟩;have:=z.2;rw[O.main]at this;exact this
   |obj r=>rw[hl]at h;exact⟨r,hK rfl,h⟩
   |_=>rw[hl]at h;exact h.elim
  obtain⟨k1,k2⟩:=key y hy (hK m);refine hM ⟨k1,λF=>?_,k2,λ_ k c1 S H=>?_⟩
  .have hb:=O.base 0 (ei _) y m;have:=(hs _ F).1
   rcases hy with hy|⟨f,hy,rfl⟩
   .rw[hy]at this;have:y<Y.sE:=this;omega
   .rw[hy]at this;have:f.block<Y.sE:=this;omega
  .obtain⟨_,_,i⟩:=H;have n:k-Y.c+1<=G'.j:=ab;have I:(G'.V (k-Y.c+1)).st y:=by
    rcases hy with hy|⟨f,hy,rfl⟩
    .rw[hy]at i;exact i.2
    .rw[hy]at i;exact i.2
   exact(O.dj 0 (k-Y.c+1) (ei _) n ab y m).2 I
 .obtain⟨y,hy,m⟩:∃y,(x.loc=hX y\/∃f:aL,x.loc=hV f/\f.block=y)/\(G'.V 0).st y:=by
   cases hl:x.loc with
   |cell f=>rw[hl]at h;exact⟨f.block,hM ⟨f,rfl,rfl⟩,h.2⟩
   |obj r=>rw[hl]at h;exact⟨r,hK rfl,h.2⟩
   |_=>rw[hl]at h;exact h.2.elim
  obtain⟨k1,k2⟩:=key y hy (hM m);exact hM ⟨k1,h.1,k2,λz=>by rw[E]at z;cases z⟩
def O7(m:MI Y G gs w t)(C:a<=G.j)(s:Dl Y.toFix (G.V a) q (G.M a) d w w' es M' d')(i:G'.j=G.j)(o:G'.V=G.V)(u:G'.M=upd G.M a M'):TI Y.Shun (OZ Y.toFix) (BK Y G') (O5 Y G') Y.c G'.j t:=by
 have B:O5 Y G'=O5 Y G:=by funext k l;simp only[O5,i,o]
 rw[B,i];have v:∀b x,G.M b x->G'.M b x:=by
  intro b x h;rw[u];by_cases e:b=a
  .subst e;rw[et];exact(s.own x).2 (hK h)
  .rw[eu _ _ e];exact h
 have z:∀b x,G'.M b x->G.M b x\/w.heap.size<=x:=by
  intro b x h;rw[u]at h;by_cases e:b=a
  .subst e;rw[et]at h;exact((s.own x).1 h).imp id (·.1)
  .rw[eu _ _ e]at h;exact hK h
 refine m.tri.grow (λk l h=>⟨h.1,i▸h.2.1,?_⟩) (λk l h=>?_)
 .have f:=h.2.2;rw[o]
  cases l with
  |cell A=>exact f.imp (v _ _) id
  |obj r=>exact v _ _ f
  |_=>exact f.elim
 .obtain⟨p,n,f⟩:=h;rw[i]at n;rw[o]at f
  cases l with
  |cell A=>
   rcases f with f|f
   .rcases z _ _ f with x|x
    .exact hK ⟨p,n,hK x⟩
    .exact hM (Aj m.low (λy:A.block<w.heap.size=>ab))
   .exact hK ⟨p,n,hM f⟩
  |obj r=>
   rcases z _ _ f with x|x
   .exact hK ⟨p,n,x⟩
   .exact hM (Aj m.low (λy:r<w.heap.size=>ab))
  |_=>exact f.elim
def Ma{i:Nat}(hi:i<Y.c)(e:0<i):i≠gid Y a:=by
 unfold gid;split<;>omega
def MI.own(m:MI Y G gs w t)(hF:nG Y)(z:a<=G.j)(hg:gs[gid Y a]?=some g)
 (l:Dl Y.toFix (G.V a) (G.q? a) (G.M a) (c9 t (gid Y a)) w w' es M' d')
 (v:G'.j=G.j) (L:G'.V=G.V) (N:G'.M=upd G.M a M') (Z:∀i,i≠gid Y a->G'.q i=G.q i)
 (same:∀b,b<=G.j->b≠a->G'.tr b=G.tr b/\G'.um Y b=G.um Y b/\G'.q? b=G.q? b/\(G'.gone b↔G.gone b))
 (wk:∀b,b<=G.j->b≠a->G.waits b->G'.waits b\/(bq Y.P g=true/\g'.status=hZ))
 (E:∀k,k<G.j->G'.wp k≠.mu->G.wp k≠.mu\/(a=k+1/\es=#[e7 (hO (stA Y.Wg))]/\c9 t (Y.c+k)=0/\Y.Fin k w'))
 (Q:G'.mp=.an->G.mp=.an\/(a=0/\es=#[e7 (hN (stA Y.Wg))]/\c9 t 0=0/\∀k,k<G.j->G.wp k=.quit))
 (sit:Sit Y G' a d' g' w') (sh:ShAt Y.toFix w' G'.s) (mun:cD.Inv Y.n (oD G')) (fresh:∀k,G.j<=k->G'.th k=G.th k) (out:∀k,k<G.j->G'.wp k≠.mu->(G'.th k).pc=.out)
 (wi:WI Y G') (fuel:∀k,k<G.j->phi Y G'+1<=G'.fu (k+1)) (fuel0:vK Y G'+1<=G'.fu 0) :
 MI Y G' ((gs.map (woken Y.P g g' w')).setIfInBounds (gid Y a) g') w' (t++e6 (gid Y a) g.frame.fn g.frame.place es):=by
 have aH:gid Y a<gs.size:=(Array.getElem?_eq_some_iff.1 hg).1;have F:=acQ l m.tb;have R:Live Y.toFix w->Live Y.toFix w':=λ_=>TU sh F;have B:=m.oi.after z l v L N;have S:∀b,b≠gid Y a->c9 (t++e6 (gid Y a) g.frame.fn g.frame.place es) b=c9 t b:=λb hb=>
  Deaf_other t (eN hb) _ (λop H=>by obtain⟨e,_,rfl⟩:=dd H;rfl)
 have hDa:c9 (t++e6 (gid Y a) g.frame.fn g.frame.place es) (gid Y a)=d':=by rw[Deaf_own];exact l.deaf.symm
 have I:∀e∈es,jG Y.toFix (G'.V a) (G'.M a) w'.heap.size e:=by rw[L,N,et];exact l.ev
 have fW:((gs.map (woken Y.P g g' w')).setIfInBounds (gid Y a) g').size=gs.size:=ar;have xB:∀i x,i≠gid Y a->((gs.map (woken Y.P g g' w')).setIfInBounds (gid Y a) g')[i]?=some x->∃y,gs[i]?=some y/\x=woken Y.P g g' w' y:=by
  grind
 have YD:∀k,k<G.j->G.wp k≠.mu->∀r,ep (stA Y.Wg) t (Y.c+k) r->ep (stA Y.Wg) (t++e6 (gid Y a) g.frame.fn g.frame.place es) (Y.c+k) r:=by
  intro k f A r u;by_cases e:a=k+1
  .subst e;rw[bQ];refine u.appOwn _ _ _ λj e T=>?_;have J:G.q? (k+1)=true:=by simp[Gh.q?,A]
   have:=l.ai1 J j e T;rw[bQ]at this;exact this
  .exact u.appOther (g:=gid Y a) (λop H=>by obtain⟨e,_,rfl⟩:=dd H;rfl) (λx=>e (by
    have:gid Y a=gid Y (k+1):=by rw[bQ];exact x
    exact wm m.cpos this))
 refine⟨m.cpos,by rw[fW,v];exact m.size,λb hb x U=>?_,λi x D hi U=>?_,λi hi=>?_,sh,F,mun,λk f By=>?_,λk f=>out k (v▸f),wi,λk f=>fuel k (v▸f),fuel0,B,m.shun,?_,λk f A=>?_,?_,λop H=>?_,λk f A=>?_,λhm=>?_,l.tape.trans m.tape,l.output.trans m.output,m.os.trans l.os,λb hb=>?_,m.rowok,λk f o O=>?_⟩
 .rw[v]at hb;by_cases e:b=a
  .grind
  .have C:gid Y b≠gid Y a:=λx=>e (wm m.cpos x);obtain⟨y,hy,rfl⟩:=xB _ _ C U;rw[S _ C];obtain⟨s1,s2,s3,s4⟩:=same b hb e;exact(m.sit b hb y hy).other (m.oi.rl z hb (eN e) l R) g g' (by rw[L]) (by rw[N,eu _ _ e]) s1 s2 s3 s4 (Z _ C) (wk b hb e)
 .have C:i≠gid Y a:=Ma hi D;obtain⟨y,hy,rfl⟩:=xB _ _ C U;have:=m.old i y D hi hy;rw[S _ C,db this,Z _ C];exact this
 .rw[fW]at hi;rw[S _ ab];exact m.above i hi
 .rw[v]at f;rw[fresh k f];exact m.fresh k f By
 .have T0:=O7 m z l v L N
  cases a with
  |zero=>exact T0.app0 (B.fam m.shun) (B.shun m.shun) Jj m.cpos (YB B m.shun _ _ I)
  |succ k=>
   rw[bQ];have f:k<G'.j:=by rw[v];exact z
   refine T0.appW (B.fam m.shun) (B.shun m.shun) ab ab (YA f m.cpos ?_ _ _ I);have:=B.num (k+1) f;rwa[bQ]at this
 .rw[v]at f
  rcases E k f A with h|⟨rfl,rfl,D,_⟩
  .obtain⟨r,u⟩:=m.rel k f h;grind
  .rw[bQ];exact⟨t.size,RelBy.new D _ _⟩
 .exact m.norel.app (norel_of (Wg:=Y.Wg) λe W=>(l.ev e W).2.1)
 .rcases Array.mem_append.1 H with h|h
  .exact MemAct.low_mono l.size (m.low op h)
  .obtain⟨e,W,rfl⟩:=dd h;exact(l.ev e W).2.2
 .rw[v]at f
  rcases E k f A with FA|⟨_,_,_,hf⟩
  case inr=>exact hf
  refine hF k w w' (λo O=>?_) (m.fin k f FA);by_cases e:a=k+1
  .subst e;have J:G.q? (k+1)=true:=by simp[Gh.q?,FA]
   simp only[e9,l.calm J]
  .refine l.cells o λu=>?_;exact m.oi.rows a (k+1) z f e o u (by rw[m.oi.afT k f];exact O)
 .rcases Q hm with K|⟨rfl,rfl,D,J⟩
  case inr=>
   have e1:e6 (gid Y 0) g.frame.fn g.frame.place #[e7 (hN (stA Y.Wg))]=#[{ g:=0,fn:=g.frame.fn,pos:=g.frame.place,act:=eW (hN (stA Y.Wg)) }]:=by rw[ofEvents_eq];simp[iZ];rfl
   refine⟨t.size,?_,?_,⟨0,?_,?_⟩,λk f=>?_⟩
   .rw[e1];simp[Trace.act?]
   .rw[e1];simp[Trace.g?]
   .rw[e1];simp[Trace.g?]
   .rw[deaf_old (eg _)];exact D
   .rw[v]at f;have A:G.wp k≠.mu:=by rw[J k f];simp
    obtain⟨r,u⟩:=m.rel k f A;exact⟨r,YD k f A r u,df u.act⟩
  obtain⟨p,p1,p2,p3,p4⟩:=m.acq K;have X:=df p1;refine⟨p,by rw[act?_old X];exact p1,by rw[g?_old X];exact p2,(heard_old X).2 p3,λk f=>?_⟩;rw[v]at f;obtain⟨r,u,hrp⟩:=p4 k f;have hd:=m.wi.done (hM (hM K));grind
 .rw[l.block b ?_ ?_ ?_ ?_ ?_,m.kept b hb]
  all_goals obtain⟨i1,i2,i3,i4,i5,i6,i7,i8,i9⟩:=m.oi.ids
  .omega
  .intro h;have:=m.oi.base a z b h;omega
  .omega
  .omega
  .omega
 .rw[v]at f;rw[l.cells o λu=>?_]
  .exact m.un k f o O
  .cases a with
   |zero=>rw[m.oi.main]at u;exact u
   |succ i=>
    rw[m.oi.afT i z]at u;exact m.rowok i k o (by have:i<G.j:=z;omega) u O
end
end Go.Ph
namespace Go.cD
open Go.ConcN (sumTo upd sumTo_upd upd_ne upd_same sumTo_congr le_sumTo sumTo_le)
section
variable {n:Nat}{s s':St}
def Inv.LY(h:Inv n s):s.ms<=1:=by
 cases hs:s.w.s with
 |false=>
  have:=(h.norm hs).1;split at this<;>omega
 |true=>have:=(h.star hs).2.2.1;omega
def YE(n:Nat)(w:Wd)(T:Th):wt n w T<=16*n+43:=by
 unfold wt;grind
def O8(h:s.ms<=1):uh n s<=(16*n+43)*n+(4*n+19):=by
 have a:=eE (f:=λi=>wt n s.w (s.th i)) (c:=16*n+43) (j:=n) λi _=>YE n s.w (s.th i);have b:(4*n+19)*s.ms<=4*n+19:=by
  have:=Nat.mul_le_mul_left (4*n+19) h;omega
 unfold uh;omega
def O9(h:OY n s' s)(a:s'.ms<=1):nQ n s'*((16*n+43)*n+(4*n+19)+1)+uh n s'<nQ n s*((16*n+43)*n+(4*n+19)+1)+uh n s:=by
 generalize b:(16*n+43)*n+(4*n+19)=K;have c:=O8 (n:=n) a;rw[b]at c
 rcases h with h|⟨d,e⟩
 .have:(nQ n s'+1)*(K+1)<=nQ n s*(K+1):=Nat.mul_le_mul_right _ h;grind
 .rw[d];omega
def mU{b:Type}(f:Nat->b)(i:Nat)(x y:b):upd (upd f i x) i y=upd f i y:=by
 funext a;unfold upd;split<;>rfl
def ja{b:Type}(f:Nat->b)(i:Nat):upd f i (f i)=f:=by
 funext a;unfold upd;grind
end
end Go.cD
namespace Go.Ph
open Go.Conc Go.ConcN
open Go.ConcM (MuAt muA msA OsLater muBlock)
open Go.ConcR (KK WgAt stA smA rd wr mk)
open Go.cD (Wd Th Mv Head eR spin mU ja)
def YF(n:Nat)(f' f:Nat->Tree):Prop:=∃a,a<n/\Tree.Lt (f' a) (f a)/\∀b,b≠a->f' b=f b
def Jk:∀(n:Nat)(f:Nat->Tree),Acc (YF n) f
 |0,f=>⟨_,λ_ h=>by obtain⟨a,j,_⟩:=h;omega⟩
 |n+1,f=>by
  have key:∀x:Tree,Acc Tree.Lt x->∀f:Nat->Tree,f n=x->Acc (YF (n+1)) f:=by
   intro x k
   induction k with
   |intro x _ l=>
    intro f hf;have inner:∀h:Nat->Tree,Acc (YF n) h->h n=x->Acc (YF (n+1)) h:=by
     intro h m
     induction m with
     |intro h _ c=>
      intro o;refine⟨_,λp r=>?_⟩;obtain⟨a,j,s,i⟩:=r;by_cases e:a=n
      .grind
      .exact c p ⟨a,ab,s,i⟩ ((i n (eN e)).trans o)
    exact inner f (Jk n f) hf
  exact key (f n) (Tree.wf.apply _) f rfl
structure Mz where
 a:Nat
 b:Nat
 c:Nat
 f:Nat->Tree
 e:Nat
def ML(n:Nat)(x y:Mz):Prop:=x.a<y.a\/(x.a=y.a/\(x.b<y.b\/(x.b=y.b/\(x.c<y.c\/(x.c=y.c/\(YF n x.f y.f\/(x.f=y.f/\x.e<y.e)))))))
def acT(n:Nat):WellFounded (ML n):=by
 have w1:WellFounded (fl (YF n) (· < · : Nat->Nat->Prop)):=(fm ⟨YF n,⟨Jk n⟩⟩ ej).wf;have w2:=(fm ej ⟨_,w1⟩).wf;have w3:=(fm ej ⟨_,w2⟩).wf;have w4:=(fm ej ⟨_,w3⟩).wf;refine Subrelation.wf (r:=InvImage _ λx:Mz=>(x.a,x.b,x.c,x.f,x.e)) (λ{x y}h=>?_) (InvImage.wf _ w4);obtain⟨a,b,c,f,e⟩:=x;obtain⟨i,b',j,k,l⟩:=y;simp only[ML]at h;show fl _ _ (a,b,c,f,e) (i,b',j,k,l)
 rcases h with h|⟨rfl,h⟩
 .exact .left _ _ h
 .refine .right _ ?_
  rcases h with h|⟨rfl,h⟩
  .exact .left _ _ h
  .refine .right _ ?_
   rcases h with h|⟨rfl,h⟩
   .exact .left _ _ h
   grind
section
variable {Y:CB}{G G':Gh}{gs:Array bj}{w w':aP}{t:aa}{a b d d':Nat}{g g':bj}{es:Array bb}{M':Own}{q:Bool}
def qs(Y:CB)(G:Gh):Nat:=sumTo Y.c (λi=>if i=0 then 0 else G.q i)+sumTo G.j (λk=>if G.wp k=.quit then G.q (Y.c+k) else 0)
def rn:Option bj->Nat
 |some g=>if g.status=hZ then 1 else 0
 |none=>0
def awk(Y:CB)(G:Gh)(gs:Array bj):Nat:=sumTo (G.j+1) (λa=>rn gs[gid Y a]?)
def mz(Y:CB)(G:Gh)(gs:Array bj):Mz:=⟨vK Y G,phi Y G,qs Y G,G.tr,awk Y G gs⟩
def Made(Y:CB)(G:Gh)(gs:Array bj)(w:aP)(t:aa)(a:Nat)(g:bj):Prop:=
 ∃g' w' es G',stepG Y.P (gid Y a==0) g w=gj g' w' es/\MI Y G' ((gs.map (woken Y.P g g' w')).setIfInBounds (gid Y a) g') w' (t++e6 (gid Y a) g.frame.fn g.frame.place es)/\
  ML (Y.n+1) (mz Y G' ((gs.map (woken Y.P g g' w')).setIfInBounds (gid Y a) g')) (mz Y G gs)
def fT(m:MI Y G gs w t)(c:a<=G.j):((G.V a).g==0)=(gid Y a==0):=by rw[m.oi.num a c]
def MI.loc(m:MI Y G gs w t)(hF:nG Y)(e:a<=G.j)(hg:gs[gid Y a]?=some g)(n:¬G.gone a){f:aP->Tree}(hf:G.tr a=.node f)
 (h:∃g' w' es M' d',stepG Y.P ((G.V a).g==0) g w=gj g' w' es/\Dl Y.toFix (G.V a) (G.q? a) (G.M a) (c9 t (gid Y a)) w w' es M' d'/\L3 Y.toFix w w'/\g'.status=hZ/\jA Y.toFix (G.V a) (G.q? a) (G.um Y a) (f w) M' d' g' w'):Made Y G gs w t a g:=by
 obtain⟨g',w',es,M',d',hs,o,i,p,r⟩:=h;rw[fT m e]at hs;have key:=MI.own (G':={ G with M:=upd G.M a M',tr:=upd G.tr a (f w) }) (g':=g') m hF e hg o rfl rfl rfl (λ_ _=>rfl) (λb hb l=>⟨eu _ _ l,rfl,rfl,fp⟩) (λb hb l c=>hK c) (λk u c=>hK c) (λs=>hK s)
  (.run n p (by simp only[et];exact r)) ⟨by rw[eP,i.1];exact m.sh.1,by rw[WgAt,i.2];exact m.sh.2⟩ m.mun (λ_ _=>rfl) m.out ⟨m.wi.v,m.wi.early,m.wi.late,m.wi.le,m.wi.calm,m.wi.w3,m.wi.done,m.wi.nz⟩ m.fuel m.fuel0
 refine⟨g',w',es,_,hs,key,hM ⟨rfl,hM ⟨rfl,hM ⟨rfl,hK ⟨a,?_,?_,λb hb=>eu _ _ hb⟩⟩⟩⟩⟩
 .have:=m.wi.le;omega
 .simp only[mz,et,hf];exact .sub f w
end
end Go.Ph
namespace Go.Ph
open Go.Conc Go.ConcN
open Go.ConcM (MuAt muA msA OsLater muBlock)
open Go.ConcR (KK WgAt stA smA rd wr)
open Go.cD (Wd Th Mv Head eR spin mU ja)
def Ds(T:Th):cD.fh (eR T)=0/\cD.fq (eR T)=0/\cD.fk (eR T)=0/\cD.fa (eR T)=0/\cD.fr (eR T)=0/\cD.fu (eR T)=0/\cD.fw (eR T)=cD.fw T:=(Head.c2 (T:=T)).counts
def TX{n:Nat}{w:Wd}{T H:Th}(h:Head T H):cD.wt n w H<=cD.wt n w (eR T):=by
 cases h with
 |c2=>exact eg _
 |spin e f i=>
  have c:cD.wt n w (eR T)=4*n+1+(if T.aw then 0 else 4*n+1)+3*(4-T.it)+4+(if T.old=w then 0 else 4):=rfl;rw[c]
  cases hc:(!T.aw && !T.old.w&&T.old.k != 0) with
  |true=>
   have e1:cD.wt n w (cD.spin T)=4*n+1+(if T.aw then 0 else 4*n+1)+3*(4-T.it)+3:=by simp only[cD.wt,cD.spin,hc,if_true]
   rw[e1];omega
  |false=>
   have e1:cD.wt n w (cD.spin T)=4*n+1+(if T.aw then 0 else 4*n+1)+3*(4-T.it)+2:=by simp only[cD.wt,cD.spin,hc,ft,if_false]
   rw[e1];omega
def TY{n:Nat}{s:cD.St}{i:Nat}{T T':Th}(h:cD.Inv n s)(hi:i<n)(c:s.th i=T)(hA:Alt T T') :
 cD.Inv n ⟨upd s.th i T',s.w,s.ms⟩/\cD.nQ n ⟨upd s.th i T',s.w,s.ms⟩=cD.nQ n s/\cD.uh n ⟨upd s.th i T',s.w,s.ms⟩<=cD.uh n s:=by
 have f:=h.tok i hi;have e1:=eq s.th T' cD.am hi;have o:=eq s.th T' (cD.wt n s.w) hi
 cases hA with
 |refl=>subst c;rw[ja];simp_all
 |head l _ k m=>
  rw[c]at f e1 o;obtain⟨c1,p,c3,u,v,y,z⟩:=k.counts;obtain⟨k1,k2,k3,A,B,C,D⟩:=Ds l;refine⟨cD.fX h hi (k.tok (f.r (by simp[eR])) (f.sv (hM (hM (hK rfl)))) f.Yv f.old m) ?_ ?_ ?_ ?_ ?_ ?_ ?_,?_,?_⟩
  .rw[c,c1,k1]
  .rw[c,p,k2]
  .rw[c,c3,k3]
  .rw[c,u,A]
  .rw[c,v,B]
  .rw[c,y,C]
  .rw[c,z,D]
  .have:cD.am T'=cD.am (eR l):=by rw[k.am,(Head.c2 (T:=l)).am]
   unfold cD.nQ;simp only;omega
  .have:=TX (n:=n) (w:=s.w) k;unfold cD.uh;simp only;omega
 |r2 _ b j hb=>
  rw[c]at f e1 o
  have m:T.aw=false:=by cases e:T.aw with|false=>rfl|true=>rcases f.aw e with x|x|x<;>rw[j]at x<;>cases x
  refine⟨cD.fX h hi ?_ ?_ ?_ ?_ ?_ ?_ ?_ ?_,?_,?_⟩
  .exact cD.dg m (by simp[j]) (by simp[j]) (by simp[j]) (by simp[j]) (by simp[j]) f.old (λ_=>f.r (by simp[j])) (by simp[j]) f.Yv
  all_goals first
   |(simp[c,cD.fh,cD.fq,cD.fk,cD.fa,cD.fr,cD.fw,cD.fu];done)
   |(have:cD.am { T with sv:=b }=cD.am T:=by simp[cD.am]
     unfold cD.nQ;simp only;omega)
   |(have:cD.wt n s.w { T with sv:=b }=cD.wt n s.w T:=by simp[cD.wt,j]
     unfold cD.uh;simp only;omega)
def TZ{w w':Wd}{ms ms':Nat}{T T':Th}(h:Mv w ms T T' w' ms'):ms'<=ms\/T.pc=.us:=by
 cases h<;>grind
def YG{T T':Th}(h:Alt T T')(c:T'.pc=.s1):T'=T:=by
 cases h with
 |refl=>rfl
 |head i _ f _=>rcases f.pc with e|e|e<;>rw[e]at c<;>cases c
 |r2 _ _ j _=>grind
section
variable {Y:CB}{G G':Gh}{gs:Array bj}{w w':aP}{t:aa}{a b d d':Nat}{g g':bj}{es:Array bb}{M':Own}{q:Bool}
def MI.mutex(m:MI Y G gs w t)(hF:nG Y){k:Nat}(h:k<G.j)(hg:gs[gid Y (k+1)]?=some g)(o:G.wp k=.mu)(z:(G.th k).pc≠.out)
 (f:eU Y.toFix (G.V (k+1)) (Y.Fin k) (G.fu (k+1)) (G.th k) (G.M (k+1)) (c9 t (gid Y (k+1))) g w) (A:¬((G.th k).pc=.s1/\G.s.ms=0)):Made Y G gs w t (k+1) g:=by
 unfold eU at f;rw[if_neg z]at f;obtain⟨B,hA,f⟩:=f;have C:k<Y.n:=ek h m.wi.le;obtain⟨p,R,i3⟩:=TY (s:=oD G) m.mun C rfl hA;have S:=m.fuel k h;obtain⟨r,D⟩:∃r,G.fu (k+1)=r+1:=⟨G.fu (k+1)-1,ab⟩
 rw[D]at f;obtain⟨h1,h2,U,W⟩:=f;have J:=p.safe C;simp only[et]at J;obtain⟨_,X⟩:=W G.s m.sh J p.small p.LY;have E:¬(B.pc=.s1/\G.s.ms=0):=fun⟨x,y⟩=>A ⟨by rw[<-YG hA x];exact x,y⟩;obtain⟨K,L,i,g',w',es,M',d',l,hs,Z,hD,N,O,YH⟩:=X E;rw[fT m (show k+1<=G.j from h)]at hs;obtain⟨F,P⟩:=p.move C (T:=B) (by simp only[et]) l;simp only[mU]at F P;have Q:=cD.O9 P F.LY;have GG:phi Y { G with th:=upd G.th k K,M:=upd G.M (k+1) M',tr:=upd G.tr (k+1) O,fu:=upd G.fu (k+1) r,s:=⟨L,i,G.s.v,G.s.wt,G.s.ws⟩ }<phi Y G:=by
  have H:cD.nQ Y.n ⟨upd (oD G).th k B,(oD G).w,(oD G).ms⟩=cD.nQ Y.n (oD G):=R;rw[H]at Q;unfold phi muK;refine ek Q ?_;omega
 have hq:G.q? (k+1)=false:=by simp[Gh.q?,o]
 have key:=MI.own (G':={ G with th:=upd G.th k K,M:=upd G.M (k+1) M',tr:=upd G.tr (k+1) O,fu:=upd G.fu (k+1) r,s:=⟨L,i,G.s.v,G.s.wt,G.s.ws⟩ }) (g':=g') m hF (show k+1<=G.j from h) hg (by rw[hq];exact hD) rfl rfl rfl (λ_ _=>rfl)
  (λb hb I=>⟨eu _ _ I,by
    cases b with
    |zero=>simp only[Gh.um];rw[eu _ _ ab]
    |succ b=>simp only[Gh.um];rw[eu _ _ I,eu _ _ ab],rfl,fp⟩)
  (λb hb I c=>by
    cases b with
    |zero=>exact hK c
    |succ b=>
     obtain⟨x1,x2,x3⟩:=c
     rcases TZ l with e|e
     .exact hK ⟨x1,by simp only;rw[eu _ _ ab];exact x2,by simp only;omega⟩
     .exact hM ⟨U e,N⟩)
  (λk h c=>hK c) (λhm=>hK hm)
  (.run (by simp[Gh.gone,o]) N (by simp only[Gh.q?,Gh.um,o,et,ne_eq,not_true_eq_false,decide_false];exact YH)) Z F (λk' u=>eu _ _ ab)
  (λk' u c=>by
    have:k'≠k:=λe=>c (by rw[e];exact o)
    simp only;rw[eu _ _ this];exact m.out k' u c)
  ⟨m.wi.v,m.wi.early,m.wi.late,m.wi.le,m.wi.calm,m.wi.w3,m.wi.done,m.wi.nz⟩
  (λk' u=>by
    by_cases e:k'=k
    .subst e;simp only[et];omega
    .simp only;rw[eu _ _ ab];have:=m.fuel k' u;omega)
  (by simp only;rw[eu _ _ ab];exact m.fuel0)
 exact⟨g',w',es,_,hs,key,hM ⟨rfl,hK GG⟩⟩
def MI.block(m:MI Y G gs w t)(hF:nG Y)(p:a<=G.j)(hg:gs[gid Y a]?=some g)(r:¬G.gone a)(n:g.status=hZ)(f:g.offers=none)(e:G.waits a)
 (s:jA Y.toFix (G.V a) (G.q? a) (G.um Y a) (G.tr a) (G.M a) (c9 t (gid Y a)) g w) (hs:stepG Y.P (gid Y a==0) g w=gj { g with status:=h6 } w #[]):Made Y G gs w t a g:=by
 have u:Dl Y.toFix (G.V a) (G.q? a) (G.M a) (c9 t (gid Y a)) w w #[] (G.M a) (c9 t (gid Y a)):=
  ⟨rfl,rfl,h7 _,eg _,λ_ _ _ _ _ _=>rfl,λc h=>⟨c,h,rfl⟩,λ_ _=>rfl,λ_=>rfl,λb=>⟨hK,λh=>h.resolve_right λx=>ab⟩,ar,ar,rfl⟩
 have v:G.M=upd G.M a (G.M a):=(ja _ _).symm;have key:=MI.own (G':=G) (g':={ g with status:=h6 }) m hF p hg u rfl rfl v (λ_ _=>rfl) (λb hb y=>⟨rfl,rfl,rfl,fp⟩) (λb hb y e=>hK e) (λk C e=>hK e) (λz=>hK z)
  (.wait g r rfl n f e s) m.sh m.mun (λ_ _=>rfl) m.out m.wi m.fuel m.fuel0
 refine⟨_,_,_,G,hs,key,hM ⟨rfl,hM ⟨rfl,hM ⟨rfl,hM ⟨rfl,?_⟩⟩⟩⟩⟩;have l:gs.map (woken Y.P g { g with status:=h6 } w)=gs:=by
  have:woken Y.P g { g with status:=h6 } w=id:=by funext o;exact eS rfl
  rw[this,Array.map_id]
 show awk Y G _<awk Y G gs;rw[l];unfold awk;have A:gid Y a<gs.size:=(Array.getElem?_eq_some_iff.1 hg).1;have B:sumTo (G.j+1) (λb=>rn (gs.setIfInBounds (gid Y a) { g with status:=h6 })[gid Y b]?)=sumTo (G.j+1) (λb=>upd (λa=>rn gs[gid Y a]?) a 0 b):=by
  refine eF λb _=>?_;by_cases h:b=a
  .subst h;rw[et,Array.getElem?_setIfInBounds_self_of_lt A];rfl
  .rw[eu _ _ h,Array.getElem?_setIfInBounds_ne λx=>h (wm m.cpos x.symm)]
 rw[B];have D:sumTo (G.j+1) (λb=>upd (λa=>rn gs[gid Y a]?) a 0 b)+rn (some g)=sumTo (G.j+1) (λa=>rn gs[gid Y a]?)+0:=by
  have:=eq (j:=G.j+1) (i:=a) (λa=>rn gs[gid Y a]?) 0 id ab;simpa only[id,hg]using this
 have E:rn (some g)=1:=by simp[rn,n]
 omega
def lU:fv .mu=1:=rfl
def nH:fv .d1=1:=rfl
def oE:fv .d2=0:=rfl
def oF:fv .d3=0:=rfl
def oG:fv .d4=0:=rfl
def gV:fv .quit=0:=rfl
def oH:fd .mu=0:=rfl
def oI:fd .d1=0:=rfl
def nI:fd .d2=1:=rfl
def nJ:fd .d3=1:=rfl
def oJ:fd .d4=0:=rfl
def gW:fd .quit=0:=rfl
def oK:f4 .mu=0:=rfl
def oL:f4 .d1=0:=rfl
def oM:f4 .d2=0:=rfl
def oN:f4 .d3=0:=rfl
def nK:f4 .d4=1:=rfl
def gX:f4 .quit=0:=rfl
def acU(n j v v':Nat)(p:MP):wM n j v' p<=wM n j v p+3:=by
 cases p<;>simp only[wM]<;>(repeat' split)<;>omega
def MI.GH(m:MI Y G gs w t)(hF:nG Y){k:Nat}(C:k<G.j)(hg:gs[gid Y (k+1)]?=some g){p':WP}{s':Sh}(S:G.wp k≠.quit)(I:(G.th k).pc=.out)(J:p'≠.mu)
 (hs:stepG Y.P (gid Y (k+1)==0) g w=gj g' w' es) (K:ShAt Y.toFix w' s') (l:s'.mw=G.s.mw) (D:s'.ms=G.s.ms)
 (L:Dl Y.toFix (G.V (k+1)) (G.q? (k+1)) (G.M (k+1)) (c9 t (gid Y (k+1))) w w' es M' d') (E:g'.status=hZ)
 (N:(p'≠.quit/\ay Y.toFix (G.V (k+1)) true (NH Y (G.V (k+1)) k (G.fu (k+1)) (G.th k) p') M' d' g' w')\/(p'=.quit/\∃n,da Y.P n d' g'))
 (hrel:G.wp k≠.mu\/(es=#[e7 (hO (stA Y.Wg))]/\c9 t (Y.c+k)=0/\Y.Fin k w'))
 (y:G.s.ws=0->s'.ws=0\/bq Y.P g=true)
 (z:∀q:Nat->Nat,∀M tr,WI Y { G with wp:=upd G.wp k p',M:=M,tr:=tr,q:=q,s:=s' }) (A:wW p'+3<wW (G.wp k)\/(wW p'<wW (G.wp k)/\s'.v=G.s.v)):Made Y G gs w t (k+1) g:=by
 obtain⟨f,n,O⟩:∃(f:Tree)(n:Nat),(p'≠.quit/\jA Y.toFix (G.V (k+1)) true (NH Y (G.V (k+1)) k (G.fu (k+1)) (G.th k) p') f M' d' g' w')\/(p'=.quit/\da Y.P n d' g'):=by
  rcases N with⟨h,f,o⟩|⟨h,n,o⟩
  .grind
  .exact⟨.leaf,n,hM ⟨h,o⟩⟩
 have Q:∀q M tr,phi Y { G with wp:=upd G.wp k p',M:=M,tr:=tr,q:=q,s:=s' }=phi Y G:=by
  intro q M tr;have:oD { G with wp:=upd G.wp k p',M:=M,tr:=tr,q:=q,s:=s' }=oD G:=by simp[oD,l,D]
  unfold phi;rw[this]
 have F:∀q M tr,vK Y { G with wp:=upd G.wp k p',M:=M,tr:=tr,q:=q,s:=s' }<vK Y G:=by
  intro q M tr;have e:=eq (j:=G.j) G.wp p' wW C;unfold vK;simp only
  rcases A with A|⟨A,hv⟩
  .have:=acU Y.n G.j G.s.v s'.v G.mp;omega
  .rw[hv];omega
 have key:=MI.own (G':={ G with wp:=upd G.wp k p',M:=upd G.M (k+1) M',tr:=upd G.tr (k+1) f,q:=upd G.q (Y.c+k) n,s:=s' }) (g':=g') m hF (show k+1<=G.j from C) hg L rfl rfl rfl (λi hi=>eu _ _ (by rwa[bQ]at hi))
  (λb hb B=>by
    cases b with
    |zero=>exact⟨eu G.tr f B,rfl,rfl,fp⟩
    |succ b=>
     have p:b≠k:=ab
     exact⟨eu _ _ B,by simp only[Gh.um,eu _ _ p],by simp only[Gh.q?,eu _ _ p],by simp only[Gh.gone,eu _ _ p]⟩)
  (λb hb B H=>by
    cases b with
    |zero=>
     obtain⟨x1,x2⟩:=H;exact(y x2).imp (λx=>⟨x1,x⟩) λx=>⟨x,E⟩
    |succ b=>
     have p:b≠k:=ab;obtain⟨x1,x2,x3⟩:=H
     exact hK ⟨by simp only[eu _ _ p];exact x1,x2,by simp only;omega⟩)
  (λk' u r=>by
    by_cases e:k'=k
    .grind
    .simp only[eu _ _ e]at r;exact hK r)
  (λR=>hK R)
  (by
    rcases O with⟨h,o⟩|⟨h,o⟩
    .refine .run (by simp only[Gh.gone,et];exact h) E ?_;simp only[Gh.um,Gh.q?,et];grind
    .refine .gone (by simp only[Gh.gone,et];exact h) ?_;simp only[bQ,et]
     exact o)
  K (by simp only[oD,l,D];exact m.mun) (λ_ _=>rfl)
  (λk' u r=>by
    by_cases e:k'=k
    .subst e;exact I
    .simp only[eu _ _ e]at r;exact m.out k' u r)
  (z _ _ _) (λk' u=>by rw[Q];exact m.fuel k' u) (by have:=F (upd G.q (Y.c+k) n) (upd G.M (k+1) M') (upd G.tr (k+1) f);have:=m.fuel0;simp only at *;omega)
 exact⟨g',w',es,_,hs,key,hK (F _ _ _)⟩
def WI.GJ(_:WI Y G){k:Nat}(e:k<G.j)(p':WP):sumTo G.j (λi=>fv (upd G.wp k p' i))+fv (G.wp k)=sumTo G.j (λi=>fv (G.wp i))+fv p'/\
 sumTo G.j (λi=>fd (upd G.wp k p' i))+fd (G.wp k)=sumTo G.j (λi=>fd (G.wp i))+fd p'/\sumTo G.j (λi=>f4 (upd G.wp k p' i))+f4 (G.wp k)=sumTo G.j (λi=>f4 (G.wp i))+f4 p'/\
 fv (G.wp k)<=sumTo G.j (λi=>fv (G.wp i))/\fd (G.wp k)<=sumTo G.j (λi=>fd (G.wp i))/\f4 (G.wp k)<=sumTo G.j (λi=>f4 (G.wp i))/\sumTo G.j (λi=>fv (G.wp i))<=G.j:=by
 refine⟨eq G.wp p' fv e,eq G.wp p' fd e,eq G.wp p' f4 e,eD (f:=λi=>fv (G.wp i)) e,eD (f:=λi=>fd (G.wp i)) e,eD (f:=λi=>f4 (G.wp i)) e,?_⟩;have:=eE (f:=λi=>fv (G.wp i)) (c:=1) (j:=G.j) λi _=>by cases G.wp i<;>simp[fv]
 omega
def WI.Jl(h:WI Y G){k:Nat}(c:k<G.j)(f:G.wp k≠.quit):G.mp≠.w4/\G.mp≠.aq/\G.mp≠.an:=
 ⟨λe=>f ((h.done (hK e)).2.2.2 k c),λe=>f ((h.done (hM (hK e))).2.2.2 k c),λe=>f ((h.done (hM (hM e))).2.2.2 k c)⟩
def WI.cases(h:WI Y G){k:Nat}(c:k<G.j)(f:G.wp k≠.quit):(G.mp=.add\/G.mp=.go\/G.mp=.w1\/∃v,G.mp=.w2 v)\/G.mp=.w3:=by
 obtain⟨i,l,m⟩:=h.Jl c f
 cases e:G.mp with
 |add=>exact hK (hK rfl)
 |go=>exact hK (hM (hK rfl))
 |w1=>grind
 |w2 v=>grind
 |w3=>exact hM rfl
 |w4=>exact absurd e i
 |aq=>exact absurd e l
 |an=>exact absurd e m
def WI.GH(h:WI Y G){k:Nat}(c:k<G.j)(f:G.wp k≠.quit){p':WP}{s':Sh}{q:Nat->Nat}{M:Nat->Own}{tr:Nat->Tree}
 (hv:s'.v+fv (G.wp k)=G.s.v+fv p')
 (l:(G.mp=.add\/G.mp=.go\/G.mp=.w1\/∃v,G.mp=.w2 v)->s'.wt=0/\s'.ws=0/\sumTo G.j (λi=>fd (upd G.wp k p' i))=0/\sumTo G.j (λi=>f4 (upd G.wp k p' i))=0)
 (m:G.mp=.w3->(s'.wt=1/\s'.ws=0/\sumTo G.j (λi=>f4 (upd G.wp k p' i))=0/\(if s'.v=0 then 1 else 0)=sumTo G.j (λi=>fd (upd G.wp k p' i)))\/
   (s'.wt=0/\s'.v=0/\sumTo G.j (λi=>fd (upd G.wp k p' i))=0/\sumTo G.j (λi=>f4 (upd G.wp k p' i))+s'.ws=1)):WI Y { G with wp:=upd G.wp k p',M:=M,tr:=tr,q:=q,s:=s' }:=by
 obtain⟨n,o,p,r,u,x,y⟩:=h.GJ c p';obtain⟨d1,d2,d3⟩:=h.Jl c f;have:=h.v;refine⟨?_,h.early,h.late,h.le,l,m,λe=>?_,h.nz⟩
 .grind
 grind
def MI.Jm(m:MI Y G gs w t)(hF:nG Y){k:Nat}(l:k<G.j)(hg:gs[gid Y (k+1)]?=some g)(p:G.wp k≠.quit)(dO:g.status=hZ)(hT:jA Y.toFix (G.V (k+1)) (G.q? (k+1)) (G.um Y (k+1)) (G.tr (k+1)) (G.M (k+1)) (c9 t (gid Y (k+1))) g w)
 (o:G.um Y (k+1) (G.M (k+1)) (c9 t (gid Y (k+1))) g w):Made Y G gs w t (k+1) g:=by
 have O:k+1<=G.j:=l;have W:=m.wi;simp only[Gh.um]at o
 cases f:G.wp k with
 |mu=>
  rw[f]at o;by_cases S:(G.th k).pc=.out
  .
   simp only[NH,eU]at o;rw[if_pos S]at o;obtain⟨R,A,P,g',hs,y,Mb⟩:=o;rw[fT m O]at hs;rw[bQ]at A;have X:G.q? (k+1)=false:=by simp[Gh.q?,f]
   have kG:(eT (e7 (hO (stA Y.Wg)))).touch? = none:=rfl;obtain⟨i1,i2,i3,i4,i5,i6,i7,i8,i9⟩:=m.oi.ids;refine m.GH hF l hg (p':=.d1) (s':=G.s) p S ar hs m.sh rfl rfl (M':=G.M (k+1)) (d':=0) ?_ y (hK ⟨ar,Mb⟩) (hM ⟨rfl,A,P⟩) (λh=>hK h)
    (λq M tr=>?_) (hM ⟨by simp[f,wW],rfl⟩)
   .rw[bQ,A,X];refine⟨rfl,rfl,h7 _,eg _,λ_ _ _ _ _ _=>rfl,λc h=>⟨c,h,rfl⟩,λ_ _=>rfl,λ_=>rfl,λb=>⟨hK,λh=>h.resolve_right λx=>ab⟩,λe he=>?_,ar,rfl⟩;simp at he;subst he;exact⟨λx hx=>(by rw[kG]at hx;cases hx),by simp[e7],(show Y.Wg<_ from i8)⟩
   .obtain⟨B,C,D,F,H,I,U⟩:=W.GJ l .d1;simp only[f,lU,nH,oE,oF,oG,gV,oH,oI,nI,nJ,oJ,gW,oK,oL,oM,oN,nK,gX]at B C D;refine W.GH l p (by simp only[f,lU,nH,oE,oF,oG,gV,oH,oI,nI,nJ,oJ,gW,oK,oL,oM,oN,nK,gX]) (λe=>?_) (λe=>?_)
    .obtain⟨c1,r,c3,u⟩:=W.calm e;grind
    .rcases W.w3 e with⟨c1,r,c3,u⟩|⟨c1,r,c3,u⟩
     .grind
     grind
  .by_cases hb:(G.th k).pc=.s1/\G.s.ms=0
   .have ai8:=o;simp only[NH,eU]at o;rw[if_neg S]at o;obtain⟨T',hA,o⟩:=o;have hfu:=m.fuel k l;obtain⟨f0,Z⟩:∃f0,G.fu (k+1)=f0+1:=⟨G.fu (k+1)-1,ab⟩
    rw[Z]at o;obtain⟨R,A,P,E⟩:=o;have Mc:T'=G.th k:=by
     generalize hth:G.th k=T at hA hb
     cases hA with
     |refl=>rfl
     |head T0 _ hH _=>simp[eR]at hb
     |r2 _ b tL _=>rw[hb.1]at tL;cases tL
    subst Mc;have By:k<Y.n:=ek l m.wi.le;obtain⟨h5,_⟩:=E G.s m.sh (m.mun.safe By) m.mun.small m.mun.LY;have hs:=h5 hb;rw[fT m O]at hs;exact m.block hF O hg (by simp only[Gh.gone];exact p) dO A ⟨f,hb⟩ hT hs
   .exact m.mutex hF l hg f S o hb
 |d1=>
  rw[f]at o;simp only[NH,AtD1,nR]at o;obtain⟨R,A,P,E⟩:=o;obtain⟨B,C,D,F,H,I,U⟩:=W.GJ l .quit;obtain⟨o1,o2,o3,_⟩:=W.GJ l .d2;simp only[f,lU,nH,oE,oF,oG,gV,oH,oI,nI,nJ,oJ,gW,oK,oL,oM,oN,nK,gX]at B C D F H I o1 o2 o3;have hv:=W.v;have hle:=W.le;have zg:G.s.wt<=1/\G.s.ws=0/\(G.s.wt=1->G.mp=.w3):=by
   rcases W.cases l p with e|e
   .obtain⟨c1,r,_⟩:=W.calm e;grind
   .refine⟨?_,?_,λ_=>e⟩<;>rcases W.w3 e with⟨c1,r,_⟩|⟨c1,r,_⟩<;>omega
  have hvn:G.s.v<=Y.n:=by
   by_cases e:G.mp=.go
   .have:=W.early (hM e);rw[if_pos e]at hv;omega
   .rw[if_neg e]at hv;omega
  obtain⟨g',w',es,M',d',hs,J,K,y,z⟩:=E G.s m.sh ⟨ab,hvn,zg.1,zg.2.1⟩;rw[fT m O]at hs;have L:G.q? (k+1)=true:=by simp[Gh.q?,f]
  have N:=m.out k l (by rw[f];simp);by_cases e1:G.s.v=1/\G.s.wt=1
  .rw[if_pos e1]at z;have Q:=zg.2.2 e1.2;refine m.GH hF l hg (p':=.d2) (s':={ G.s with v:=G.s.v-1 }) p N ar hs J rfl rfl (by rw[L];exact K) y (hK ⟨ar,z⟩) (hK (by rw[f];simp)) (λh=>hK h) (λq M tr=>?_) (hK (by simp[f,wW]));refine W.GH l p (by simp only[f,lU,nH,oE,oF,oG,gV,oH,oI,nI,nJ,oJ,gW,oK,oL,oM,oN,nK,gX];omega) (λe=>?_) (λe=>?_)
   .grind
   .rcases W.w3 e with⟨c1,r,c3,u⟩|⟨c1,r,c3,u⟩
    .grind
    .omega
  .rw[if_neg e1]at z;refine m.GH hF l hg (p':=.quit) (s':={ G.s with v:=G.s.v-1 }) p N ar hs J rfl rfl (by rw[L];exact K) y (hM ⟨rfl,z⟩) (hK (by rw[f];simp)) (λh=>hK h) (λq M tr=>?_) (hK (by simp[f,wW]));refine W.GH l p (by simp only[f,lU,nH,oE,oF,oG,gV,oH,oI,nI,nJ,oJ,gW,oK,oL,oM,oN,nK,gX];omega) (λe=>?_) (λe=>?_)
   .obtain⟨c1,r,c3,u⟩:=W.calm e;grind
   .rcases W.w3 e with⟨c1,r,c3,u⟩|⟨c1,r,c3,u⟩
    .grind
    .omega
 |d2=>
  rw[f]at o;simp only[NH,AtD2,nR]at o;obtain⟨R,A,P,E⟩:=o;obtain⟨B,C,D,F,H,I,U⟩:=W.GJ l .d3;simp only[f,lU,nH,oE,oF,oG,gV,oH,oI,nI,nJ,oJ,gW,oK,oL,oM,oN,nK,gX]at B C D F H I;have Q:G.mp=.w3:=by
   rcases W.cases l p with e|e
   .have:=(W.calm e).2.2.1;omega
   .exact e
  have hv:G.s.v=0/\G.s.wt=1/\G.s.ws=0:=by
   rcases W.w3 Q with⟨c1,r,c3,u⟩|⟨c1,r,c3,u⟩
   .grind
   .omega
  obtain⟨g',w',es,M',d',hs,J,K,y,z⟩:=E G.s m.sh hv;rw[fT m O]at hs;have L:G.q? (k+1)=true:=by simp[Gh.q?,f]
  have N:=m.out k l (by rw[f];simp);refine m.GH hF l hg (p':=.d3) (s':=G.s) p N ar hs J rfl rfl (by rw[L];exact K) y (hK ⟨ar,z⟩) (hK (by rw[f];simp)) (λh=>hK h) (λq M tr=>?_) (hM ⟨by simp[f,wW],rfl⟩);refine W.GH l p (by simp only[f,lU,nH,oE,oF,oG,gV,oH,oI,nI,nJ,oJ,gW,oK,oL,oM,oN,nK,gX]) (λe=>?_) (λe=>?_)
  .grind
  .rcases W.w3 e with⟨c1,r,c3,u⟩|⟨c1,r,c3,u⟩
   .grind
   grind
 |d3=>
  rw[f]at o;simp only[NH,AtD3,nR]at o;obtain⟨R,A,P,E⟩:=o;obtain⟨B,C,D,F,H,I,U⟩:=W.GJ l .d4;simp only[f,lU,nH,oE,oF,oG,gV,oH,oI,nI,nJ,oJ,gW,oK,oL,oM,oN,nK,gX]at B C D F H I;have Q:G.mp=.w3:=by
   rcases W.cases l p with e|e
   .have:=(W.calm e).2.2.1;omega
   .exact e
  have hv:G.s.v=0/\G.s.wt=1/\G.s.ws=0/\sumTo G.j (λi=>fd (G.wp i))=1/\sumTo G.j (λi=>f4 (G.wp i))=0:=by
   rcases W.w3 Q with⟨c1,r,c3,u⟩|⟨c1,r,c3,u⟩
   .grind
   .omega
  obtain⟨g',w',es,M',d',hs,J,K,y,z⟩:=E G.s m.sh ⟨hv.1,hv.2.1,hv.2.2.1⟩;rw[fT m O]at hs;have L:G.q? (k+1)=true:=by simp[Gh.q?,f]
  have N:=m.out k l (by rw[f];simp);refine m.GH hF l hg (p':=.d4) (s':={ G.s with wt:=0 }) p N ar hs J rfl rfl (by rw[L];exact K) y (hK ⟨ar,z⟩) (hK (by rw[f];simp)) (λh=>hK h) (λq M tr=>?_) (hM ⟨by simp[f,wW],rfl⟩);refine W.GH l p (by simp only[f,lU,nH,oE,oF,oG,gV,oH,oI,nI,nJ,oJ,gW,oK,oL,oM,oN,nK,gX]) (λe=>?_) (λe=>?_)
  .grind
  grind
 |d4=>
  rw[f]at o;simp only[NH,AtD4,nR]at o;obtain⟨R,A,P,E⟩:=o;obtain⟨B,C,D,F,H,I,U⟩:=W.GJ l .quit;simp only[f,lU,nH,oE,oF,oG,gV,oH,oI,nI,nJ,oJ,gW,oK,oL,oM,oN,nK,gX]at B C D F H I;have Q:G.mp=.w3:=by
   rcases W.cases l p with e|e
   .have:=(W.calm e).2.2.2;omega
   .exact e
  have hv:G.s.v=0/\G.s.wt=0/\G.s.ws=0/\sumTo G.j (λi=>fd (G.wp i))=0/\sumTo G.j (λi=>f4 (G.wp i))=1:=by
   rcases W.w3 Q with⟨c1,r,c3,u⟩|⟨c1,r,c3,u⟩
   .omega
   grind
  obtain⟨g',w',es,M',d',hs,J,K,y,z⟩:=E G.s m.sh ⟨hv.1,hv.2.1,hv.2.2.1⟩;rw[fT m O]at hs;have L:G.q? (k+1)=true:=by simp[Gh.q?,f]
  have N:=m.out k l (by rw[f];simp);refine m.GH hF l hg (p':=.quit) (s':={ G.s with ws:=1 }) p N ar hs J rfl rfl (by rw[L];exact K) y (hM ⟨rfl,z⟩) (hK (by rw[f];simp)) (λ_=>hM (P trivial)) (λq M tr=>?_) (hM ⟨by simp[f,wW],rfl⟩);refine W.GH l p (by simp only[f,lU,nH,oE,oF,oG,gV,oH,oI,nI,nJ,oJ,gW,oK,oL,oM,oN,nK,gX]) (λe=>?_) (λe=>?_)
  .grind
  grind
 |quit=>exact absurd f p
def MI.main(m:MI Y G gs w t)(hF:nG Y)(hg:gs[gid Y 0]?=some g){mp':MP}{s':Sh}{f0:Nat}(hs:stepG Y.P (gid Y 0==0) g w=gj g' w' es)(p:ShAt Y.toFix w' s')(c:s'.mw=G.s.mw)(l:s'.ms=G.s.ms)
 (r:Dl Y.toFix (G.V 0) false (G.M 0) (c9 t (gid Y 0)) w w' es M' d') (u:g'.status=hZ) (x:ay Y.toFix (G.V 0) false (stM Y G.j f0 (G.V 0) mp') M' d' g' w')
 (f:mp'=.an->es=#[e7 (hN (stA Y.Wg))]/\c9 t 0=0/\∀k,k<G.j->G.wp k=.quit)
 (i:∀M tr fu,WI Y { G with mp:=mp',M:=M,tr:=tr,s:=s',fu:=fu }) (F:wM Y.n G.j s'.v mp'<wM Y.n G.j G.s.v G.mp) (hf:vK Y G<=f0):Made Y G gs w t 0 g:=by
 obtain⟨o,y⟩:=x;have z:∀M tr fu,phi Y { G with mp:=mp',M:=M,tr:=tr,s:=s',fu:=fu }=phi Y G:=by
  intro M tr fu;have:oD { G with mp:=mp',M:=M,tr:=tr,s:=s',fu:=fu }=oD G:=by simp[oD,c,l]
  unfold phi;rw[this]
 have A:∀M tr fu,vK Y { G with mp:=mp',M:=M,tr:=tr,s:=s',fu:=fu }<vK Y G:=by
  intro M tr fu;unfold vK;simp only;omega
 have key:=MI.own (G':={ G with mp:=mp',M:=upd G.M 0 M',tr:=upd G.tr 0 o,s:=s',fu:=upd G.fu 0 f0 }) (g':=g') m hF (ei _) hg r rfl rfl rfl (λ_ _=>rfl)
  (λb hb e=>by
    cases b with
    |zero=>exact absurd rfl e
    |succ b=>exact⟨eu G.tr o e,by simp only[Gh.um];rw[eu _ _ e],rfl,fp⟩)
  (λb hb e B=>by
    cases b with
    |zero=>exact absurd rfl e
    |succ b=>
     obtain⟨x1,x2,x3⟩:=B
     exact hK ⟨x1,x2,by simp only;omega⟩)
  (λk H C=>hK C) (λD=>hM ⟨rfl,f D⟩) (.run (λh=>h) u (by simp only[Gh.um,Gh.q?,et];exact y))
  p (by simp only[oD,c,l];exact m.mun) (λ_ _=>rfl) m.out (i _ _ _) (λk' E=>by rw[z];simp only;rw[eu _ _ ab];exact m.fuel k' E)
  (by grind[et])
 exact⟨g',w',es,_,hs,key,hK (A _ _ _)⟩
def Dv(m:sumTo G.j (λk=>fv (G.wp k))=0)(n:sumTo G.j (λk=>fd (G.wp k))=0)(o:sumTo G.j (λk=>f4 (G.wp k))=0):∀k,k<G.j->G.wp k=.quit:=by
 intro k c;have h:fv (G.wp k)<=_:=eD (f:=λk=>fv (G.wp k)) c;have i:fd (G.wp k)<=_:=eD (f:=λk=>fd (G.wp k)) c;have l:f4 (G.wp k)<=_:=eD (f:=λk=>f4 (G.wp k)) c;rw[m]at h;rw[n]at i;rw[o]at l
 cases e:G.wp k with
 |quit=>rfl
 |mu=>rw[e,lU]at h;omega
 |d1=>rw[e,nH]at h;omega
 |d2=>rw[e,nI]at i;omega
 |d3=>rw[e,nJ]at i;omega
 |d4=>rw[e,nK]at l;omega
def WI.vle(h:WI Y G):G.s.v<=Y.n:=by
 have k:=eE (f:=λi=>fv (G.wp i)) (c:=1) (j:=G.j) λi _=>by cases G.wp i<;>simp[fv]
 have hv:=h.v;have:=h.le;by_cases e:G.mp=.go
 .have:=h.early (hM e);rw[if_pos e]at hv;omega
 .rw[if_neg e]at hv;omega
def MI.Pa(m:MI Y G gs w t)(hF:nG Y)(hg:gs[gid Y 0]?=some g)(S:g.status=hZ)(T:jA Y.toFix (G.V 0) (G.q? 0) (G.um Y 0) (G.tr 0) (G.M 0) (c9 t (gid Y 0)) g w)
 (o:G.um Y 0 (G.M 0) (c9 t (gid Y 0)) g w) (p:G.mp≠.go) (J:G.mp≠.an):Made Y G gs w t 0 g:=by
 have W:=m.wi;have hv:=W.v;have U:=m.fuel0;simp only[Gh.um]at o
 cases l:G.mp with
 |go=>exact absurd l p
 |an=>exact absurd l J
 |add=>
  rw[l]at o;have A:=W.early (hK l);obtain⟨c1,u,c3,z⟩:=W.calm (hK l);obtain⟨r,K⟩:∃r,Y.n-G.j=r+1:=⟨Y.n-G.j-1,ab⟩
  have X:Y.n-(r+1)=G.j:=ab;have L:Y.n-(G.j+1)=r:=ab;have N:G.s.v<Y.n:=by
   have H:=eE (f:=λi=>fv (G.wp i)) (c:=1) (j:=G.j) λi _=>by cases G.wp i<;>simp[fv]
   grind
  simp only[stM]at o;rw[K]at o;simp only[Ta,nR,X]at o;obtain⟨H,E,I,F⟩:=o;obtain⟨g',w',es,M',d',hs,B,C,D,y⟩:=F G.s m.sh ⟨N,c1,u⟩;rw[fT m (ei _)]at hs;refine m.main hF hg (mp':=.go) (s':={ G.s with v:=G.s.v+1 }) (f0:=G.fu 0) hs B rfl rfl C D (by simp only[stM,L];exact y) ar (λM tr fu=>?_) (by rw[l];simp only[wM];omega) ab;rw[if_neg (by rw[l];simp)]at hv;refine⟨?_,λ_=>A,λ_ h=>absurd rfl h,W.le,λ_=>⟨c1,u,c3,z⟩,ar,ar,ar⟩;simp only[if_true];omega
 |w1=>
  rw[l]at o;obtain⟨c1,u,c3,z⟩:=W.calm (hM (hM (hK l)));obtain⟨f,hf⟩:∃f,G.fu 0=f+1:=⟨G.fu 0-1,ab⟩
  rw[hf]at o;simp only[stM,AtW1,nR]at o;obtain⟨H,E,I,F⟩:=o;obtain⟨g',w',es,M',d',hs,B,C,D,y⟩:=F G.s m.sh ⟨W.vle,c1,u⟩;rw[fT m (ei _)]at hs;have A:=W.late (by rw[l];simp) p;rw[if_neg p]at hv;by_cases e:G.s.v=0
  .rw[if_pos e]at y;have aq:=Dv (G:=G) ab c3 z;refine m.main hF hg (mp':=.aq) (s':=G.s) (f0:=G.fu 0) hs B rfl rfl C D (by simp only[stM];exact y) ar (λM tr fu=>?_) (by rw[l];simp[wM]) ab;exact⟨by simp only[hv];simp,ar,λ_ _=>A,W.le,ar,ar,λ_=>⟨e,c1,u,aq⟩,ar⟩
  .rw[if_neg e]at y;refine m.main hF hg (mp':=.w2 G.s.v) (s':=G.s) (f0:=f) hs B rfl rfl C D (by simp only[stM];exact y) ar (λM tr fu=>?_) (by rw[l];simp[wM]) ab;exact⟨by simp only[hv];simp,ar,λ_ _=>A,W.le,λ_=>⟨c1,u,c3,z⟩,ar,ar,λv h=>by cases h;exact e⟩
 |w2 O=>
  rw[l]at o;obtain⟨c1,u,c3,z⟩:=W.calm (hM (hM (hM ⟨O,l⟩)));obtain⟨f,hf⟩:∃f,G.fu 0=f+1:=⟨G.fu 0-1,ab⟩
  rw[hf]at o;simp only[stM,AtW2,nR]at o;obtain⟨H,E,I,F⟩:=o;obtain⟨g',w',es,M',d',hs,B,C,D,y⟩:=F G.s m.sh ⟨W.vle,c1,u⟩;rw[fT m (ei _)]at hs;have A:=W.late (by rw[l];simp) p;have Z:=W.nz O l;rw[if_neg p]at hv;by_cases e:G.s.v=O
  .rw[if_pos e]at y B;refine m.main hF hg (mp':=.w3) (s':={ G.s with wt:=1 }) (f0:=G.fu 0) hs B rfl rfl C D (by simp only[stM];exact y) ar (λM tr fu=>?_) (by rw[l];simp[wM,e]) ab;exact⟨by simp only[hv];simp,ar,λ_ _=>A,W.le,ar,λ_=>hK ⟨rfl,u,z,aS⟩,ar,ar⟩
  .rw[if_neg e]at y B;refine m.main hF hg (mp':=.w1) (s':=G.s) (f0:=f) hs B rfl rfl C D (by simp only[stM];exact y) ar (λM tr fu=>?_) (by rw[l];simp[wM,e]) ab;exact⟨by simp only[hv];simp,ar,λ_ _=>A,W.le,λ_=>⟨c1,u,c3,z⟩,ar,ar,ar⟩
 |w3=>
  rw[l]at o;have ai8:=o;simp only[stM,AtW3,acP]at o;obtain⟨H,E,I⟩:=o
  have P:G.s.ws<=1:=by rcases W.w3 l with⟨c1,u,c3,z⟩|⟨c1,u,c3,z⟩<;>omega
  obtain⟨F,h5⟩:=I G.s m.sh P;have A:=W.late (by rw[l];simp) p;rw[if_neg p]at hv;by_cases e:G.s.ws=0
  .have hs:=F e;rw[fT m (ei _)]at hs;exact m.block hF (ei _) hg (λh=>h) S E ⟨l,e⟩ T hs
  .obtain⟨g',w',es,M',d',hs,B,C,D,y⟩:=h5 e;rw[fT m (ei _)]at hs;obtain⟨d1,d2,d3,d4⟩:G.s.wt=0/\G.s.v=0/\sumTo G.j (λk=>fd (G.wp k))=0/\sumTo G.j (λk=>f4 (G.wp k))+G.s.ws=1:=by
    rcases W.w3 l with⟨c1,u,c3,z⟩|h
    .omega
    .exact h
   have aq:=Dv (G:=G) ab d3 ab;refine m.main hF hg (mp':=.w4) (s':={ G.s with ws:=G.s.ws-1 }) (f0:=G.fu 0) hs B rfl rfl C D (by simp only[stM];exact y) ar (λM tr fu=>?_) (by rw[l];simp[wM]) ab;exact⟨by simp only[hv];simp,ar,λ_ _=>A,W.le,ar,ar,λ_=>⟨d2,d1,by simp only;omega,aq⟩,ar⟩
 |w4=>
  rw[l]at o;simp only[stM,AtW4,nR]at o;obtain⟨H,E,I,F⟩:=o;obtain⟨c1,u,c3,z⟩:=W.done (hK l);obtain⟨g',w',es,M',d',hs,B,C,D,y⟩:=F G.s m.sh ⟨c1,u,c3⟩;rw[fT m (ei _)]at hs;have A:=W.late (by rw[l];simp) p;rw[if_neg p]at hv;refine m.main hF hg (mp':=.aq) (s':=G.s) (f0:=G.fu 0) hs B rfl rfl C D (by simp only[stM];exact y) ar (λM tr fu=>?_) (by rw[l];simp[wM]) ab;exact⟨by simp only[hv];simp,ar,λ_ _=>A,W.le,ar,ar,λ_=>⟨c1,u,c3,z⟩,ar⟩
 |aq=>
  rw[l]at o;simp only[stM,O1]at o;obtain⟨H,E,g',hs,K,y⟩:=o;rw[fT m (ei _)]at hs;obtain⟨c1,u,c3,z⟩:=W.done (hM (hK l));have A:=W.late (by rw[l];simp) p;rw[if_neg p]at hv;rw[iZ]at E;obtain⟨i1,i2,i3,i4,i5,i6,i7,i8,i9⟩:=m.oi.ids;have kG:(eT (e7 (hN (stA Y.Wg)))).touch? = none:=rfl;refine m.main hF hg (mp':=.an) (s':=G.s) (f0:=G.fu 0) (M':=G.M 0) (d':=0) hs m.sh rfl rfl ?_ K (by simp only[stM];exact y) (λ_=>⟨rfl,E,z⟩) (λM tr fu=>?_) (by rw[l];simp[wM]) ab
  .rw[iZ,E];refine⟨rfl,rfl,h7 _,eg _,λ_ _ _ _ _ _=>rfl,λc h=>⟨c,h,rfl⟩,λ_ _=>rfl,λ_=>rfl,λb=>⟨hK,λh=>h.resolve_right λx=>ab⟩,λe Q=>?_,ar,rfl⟩;simp at Q;subst Q;exact⟨λx R=>(by rw[kG]at R;cases R),by simp[e7],(show Y.Wg<_ from i8)⟩
  .exact⟨by simp only[hv];simp,ar,λ_ _=>A,W.le,ar,ar,λ_=>⟨c1,u,c3,z⟩,ar⟩
end
def Jn(Y:CB):Prop:=∀k k' o,k≠k'->Y.row k o->¬Y.row k' o
section
variable {Y:CB}{G G':Gh}{gs:Array bj}{w w':aP}{t:aa}{a b d d':Nat}{g g':bj}{es:Array bb}{M':Own}{q:Bool}{sl:Option (Nat×Nat)}
def Sit.same(h:Sit Y G b d g w)(e1:G'.V b=G.V b)(n:G'.M b=G.M b)(o:G'.tr b=G.tr b)(p:G'.um Y b=G.um Y b)(r:G'.q? b=G.q? b)(c:G'.gone b↔G.gone b)(i:G'.q (gid Y b)=G.q (gid Y b))(j:G.waits b->G'.waits b):Sit Y G' b d g w:=by
 cases h with
 |run hg f h=>exact .run (λy=>hg (c.1 y)) f aS
 |wait k hg e f l m h=>exact .wait k (λy=>hg (c.1 y)) e f l (j m) aS
 |gone hg h=>exact .gone (c.2 hg) (by rw[i];exact h)
def Md(t:aa)(x y:ac)(k n:Nat)(c:x.act=.go n)(hy:y.act=eX):c9 (t ++ #[x,y]) k=c9 t k:=by
 have:=Deaf_append t k [x,y];rw[show(#[x,y]:Array ac)=[x,y].toArray from rfl,this];simp[deafStep,c,hy]
def ru{ad:aL}{u:aa}{k r:Nat}(h:ep ad t k r)(c:∀op∈u,op.act.touch? = none):ep ad (t++u) k r:=by
 refine h.app λi hi _ hc=>?_;obtain⟨x,e,_⟩:=hc;grind[cQ,getElem?_append_cases]
def MI.spawn(m:MI Y G gs w t)(GK:Jn Y)(hg:gs[gid Y 0]?=some g)(R:G.mp=.go)(aF:G.um Y 0 (G.M 0) (c9 t (gid Y 0)) g w) :
 ∃jk ops G',runT Y.P (crowd gs w sl) 0=(.next (crowd jk w sl),ops)/\MI Y G' jk w (t++ops)/\ML (Y.n+1) (mz Y G' jk) (mz Y G gs):=by
 have W:=m.wi;have hj:=W.early (hM R);obtain⟨c1,c2,c3,c4⟩:=W.calm (hM (hK R));have hv:=W.v;rw[if_pos R]at hv;simp only[Gh.um]at aF;rw[R]at aF;simp only[stM,AtGo]at aF;obtain⟨h1,h2,g',child,hs,gl,hrc,aic,t0,YH⟩:=aF;rw[fT m (ei _)]at hs;rw[iZ]at hg h2 hs;obtain⟨t1,ht1⟩:=aic (m.un G.j (eg _)) (phi Y G+1);have sw:=runT_crowd_spawn (P:=Y.P) (sl:=sl) hg (show stepG Y.P (0==0) g w=_ from hs);have Dt:∃(u:MP)(N:Tree),(u=.add/\G.j+1<Y.n\/u=.w1/\G.j+1=Y.n)/\jA Y.toFix ((G.V 0).more (G.M 0)) false (stM Y (G.j+1) (vK Y G+1) ((G.V 0).more (G.M 0)) u) N nobody 0 g' w:=by
  rcases ea (G.j+1) Y.n with E|ve
  .exact⟨.add,t0,hK ⟨rfl,E⟩,by simp only[stM];exact YH⟩
  .have e:Y.n-(G.j+1)=0:=ab;rw[e]at YH;have:ay Y.toFix ((G.V 0).more (G.M 0)) false (stM Y (G.j+1) (vK Y G+1) ((G.V 0).more (G.M 0)) .w1) nobody 0 g' w:=ay.mono ⟨t0,YH⟩ λM d g w h=>by
    simp only[stM];exact h (vK Y G+1)
   obtain⟨N,h⟩:=this;grind
 obtain⟨u,N,hmp,aie⟩:=Dt;have xC:u≠.go/\u≠.an/\u≠.w3/\u≠.w4/\u≠.aq/\∀v,u≠.w2 v:=aS;let G':Gh:={ j:=G.j+1,th:=G.th,wp:=upd G.wp G.j .mu,mp:=u,V:=upd (upd G.V 0 ((G.V 0).more (G.M 0))) (G.j+1) (rj Y.c Y.row G.j (G.V 0) (G.M 0)),M:=upd (upd G.M 0 nobody) (G.j+1) nobody,tr:=upd (upd G.tr 0 N) (G.j+1) t1,q:=G.q,fu:=upd (upd G.fu 0 (vK Y G+1)) (G.j+1) (phi Y G+1),s:=G.s }
 have S:G'.V 0=(G.V 0).more (G.M 0):=(eu (upd G.V 0 ((G.V 0).more (G.M 0))) (rj Y.c Y.row G.j (G.V 0) (G.M 0)) (show 0≠G.j+1 by omega)).trans (et G.V 0 _);have K:G'.V (G.j+1)=rj Y.c Y.row G.j (G.V 0) (G.M 0):=et _ _ _;have C:∀k,k<G.j->G'.V (k+1)=G.V (k+1):=λk p=>(eu (upd G.V 0 ((G.V 0).more (G.M 0))) (rj Y.c Y.row G.j (G.V 0) (G.M 0)) (show k+1≠G.j+1 by omega)).trans (eu G.V _ (show k+1≠0 by omega));have T:G'.M 0=nobody:=(eu (upd G.M 0 nobody) nobody (show 0≠G.j+1 by omega)).trans (et G.M 0 _);have Q:G'.M (G.j+1)=nobody:=et _ _ _;have Mk:∀k,k<G.j->G'.M (k+1)=G.M (k+1):=λk p=>(eu (upd G.M 0 nobody) nobody (show k+1≠G.j+1 by omega)).trans (eu G.M _ (show k+1≠0 by omega));have L:G'.wp G.j=.mu:=et _ _ _;have F:∀k,k<G.j->G'.wp k=G.wp k:=λk p=>eu _ _ ab;have GG:phi Y G'=phi Y G:=rfl;have LO:∀f:WP->Nat,sumTo (G.j+1) (λk=>f (G'.wp k))=sumTo G.j (λk=>f (G.wp k))+f .mu:=by
  intro f;rw[sumTo,L,eF λk p=>by rw[F k p]]
 have GI:vK Y G'<vK Y G:=by
  have e1:vK Y G'=wM Y.n (G.j+1) G.s.v u+sumTo (G.j+1) (λk=>wW (G'.wp k)):=rfl;have H:vK Y G=wM Y.n G.j G.s.v G.mp+sumTo G.j (λk=>wW (G.wp k)):=rfl;rw[e1,H,LO,R]
  rcases hmp with⟨rfl,E⟩|⟨rfl,he⟩
  .simp only[wM,wW];omega
  .simp only[wM,wW];omega
 have O:=m.oi;have D:∀a,a<=G.j+1->a=0\/a=G.j+1\/∃k,k<G.j/\a=k+1:=by
  intro a A
  cases a with
  |zero=>exact hK rfl
  |succ k=>
   grind
 have O':OI Y G' w:=by
  refine⟨λa A b hb=>?_,λa a' A ha' bu b hb=>?_,λa A b hb=>?_,λa a' A ha' bu o=>?_,λa A b hb=>?_,λa A=>?_,O.ids,?_,λk p=>?_⟩
  .rcases D a A with rfl|rfl|⟨k,p,rfl⟩
   .rw[T,S]at hb
    rcases hb with hb|hb|hb
    .exact hb.elim
    .exact O.ap 0 (ei _) b (hM hb)
    .exact O.ap 0 (ei _) b (hK hb)
   .rw[Q,K]at hb
    rcases hb with hb|hb|hb
    .exact hb.elim
    .exact O.ap 0 (ei _) b (hM hb)
    .exact O.ap 0 (ei _) b (hK hb)
   .rw[Mk k p,C k p]at hb;exact O.ap (k+1) p b hb
  .rcases D a A with rfl|rfl|⟨k,p,rfl⟩
   .rw[T]at hb;exact hb.elim
   .rw[Q]at hb;exact hb.elim
   .rw[Mk k p]at hb
    rcases D a' ha' with rfl|rfl|⟨k',B,rfl⟩
    .rw[T,S];have:=O.dj (k+1) 0 p (ei _) ab b hb;exact⟨λh=>h,λh=>h.elim this.2 this.1⟩
    .rw[Q,K];have:=O.dj (k+1) 0 p (ei _) ab b hb;exact⟨λh=>h,λh=>h.elim this.2 this.1⟩
    .rw[Mk k' B,C k' B];exact O.dj (k+1) (k'+1) p B bu b hb
  .rcases D a A with rfl|rfl|⟨k,p,rfl⟩
   .rw[T]at hb;exact hb.elim
   .rw[Q]at hb;exact hb.elim
   .rw[Mk k p]at hb;rw[C k p];exact O.self (k+1) p b hb
  .have YK:(G'.V 0).row=λ_=>False:=by rw[S];exact O.main
   have U:(G'.V (G.j+1)).row=Y.row G.j:=by rw[K];rfl
   have T4:∀k,k<G.j->(G'.V (k+1)).row=Y.row k:=λk p=>by rw[C k p];exact O.afT k p
   rcases D a A with rfl|rfl|⟨k,p,rfl⟩
   .grind
   .rcases D a' ha' with rfl|rfl|⟨k',B,rfl⟩
    .rw[YK];exact λ_ h=>h
    .exact absurd rfl bu
    .rw[U,T4 k' B];exact GK _ _ o ab
   .rcases D a' ha' with rfl|rfl|⟨k',B,rfl⟩
    .rw[YK];exact λ_ h=>h
    .rw[U,T4 k p];exact GK _ _ o ab
    .rw[T4 k p,T4 k' B];exact GK _ _ o ab
  .rcases D a A with rfl|rfl|⟨k,p,rfl⟩
   .rw[T]at hb;exact hb.elim
   .rw[Q]at hb;exact hb.elim
   .rw[Mk k p]at hb;exact O.base (k+1) p b hb
  .rcases D a A with rfl|rfl|⟨k,p,rfl⟩
   .rw[S];exact O.num 0 (ei _)
   .rw[K,bQ];rfl
   .rw[C k p];exact O.num (k+1) p
  .rw[S];exact O.main
  .by_cases e:k=G.j
   .subst e;rw[K];rfl
   .rw[C k aS];exact O.afT k aS
 have WM:gs.size=Y.c+G.j:=m.size;have cpos:=m.cpos;let x:ac:={ g:=0,fn:=g.frame.fn,pos:=g.frame.place,act:=.go (Y.c+G.j) }
 let y:ac:={ g:=Y.c+G.j,fn:=child.frame.fn,pos:=g.frame.place,act:=eX }
 have Gp:(((e6 0 g.frame.fn g.frame.place #[]).push { g:=0,fn:=g.frame.fn,pos:=g.frame.place,act:=.go gs.size }).push { g:=gs.size,fn:=child.frame.fn,pos:=g.frame.place,act:=eX })=#[x,y]:=by
  rw[WM];rfl
 have Dw:∀op∈(#[x,y]:Array ac),op.act.touch? = none:=by
  intro op X;simp only[dL,dQ,dT,or_false]at X
  rcases X with rfl|rfl<;>rfl
 have hD:∀k,c9 (t ++ #[x,y]) k=c9 t k:=λk=>Md t x y k _ rfl rfl;have tri:TI Y.Shun (OZ Y.toFix) (BK Y G') (O5 Y G') Y.c (G.j+1) (t ++ #[x,y]):=by
  refine TI.fork (O'.fam m.shun) Jj (m.tri.choose (λk l k1 k2=>?_) (λk l k1 k2=>?_)) ⟨rfl,rfl⟩ ⟨rfl,rfl⟩ h2 (m.above _ ab)
  .have hi:k-Y.c<G.j:=ab;simp only[BK,C _ hi,Mk _ hi];grind
  .have hi:k-Y.c<G.j:=ab;simp only[O5,C _ hi];grind
 have acY:0<gs.size:=ab;have aif:((gs.setIfInBounds 0 g').push child)[0]?=some g':=by
  grind
 have aih:((gs.setIfInBounds 0 g').push child)[Y.c+G.j]?=some child:=by
  grind
 have Z:∀i z,i≠0->i≠Y.c+G.j->((gs.setIfInBounds 0 g').push child)[i]?=some z->gs[i]?=some z:=by
  grind
 refine⟨_,_,G',sw,?_,hK GI⟩;rw[Gp];refine⟨cpos,?_,λa A z I=>?_,λi z h0 hi I=>?_,λi hi=>?_,m.sh,m.tb,m.mun,λk p By=>m.fresh k aS By,λk p J=>?_,?_,λk p=>?_,?_,O',m.shun,tri,λk p J=>?_,m.norel.app λop X=>?_,λop X=>?_,λk p J=>?_,λhm=>absurd hm xC.2.1,m.tape,m.output,m.os,m.kept,m.rowok,λk p o ho=>m.un k aS o ho⟩
 .grind
 .rw[hD]
  rcases D a A with rfl|rfl|⟨k,p,rfl⟩
  .rw[iZ,aif]at I;obtain rfl:=Option.some.inj I;rw[iZ,h2];refine .run (λh=>h) gl ?_;have e1:G'.tr 0=N:=(eu (upd G.tr 0 N) t1 (show 0≠G.j+1 by omega)).trans (et G.tr 0 _);have H:G'.fu 0=vK Y G+1:=(eu (upd G.fu 0 (vK Y G+1)) (phi Y G+1) (show 0≠G.j+1 by omega)).trans (et G.fu 0 _);show jA Y.toFix (G'.V 0) false (stM Y (G.j+1) (G'.fu 0) (G'.V 0) u) (G'.tr 0) (G'.M 0) 0 g' w;grind
  .rw[bQ,aih]at I;obtain rfl:=Option.some.inj I;rw[bQ,m.above _ ab];have hq:G'.q? (G.j+1)=false:=by simp only[Gh.q?,L,ne_eq,not_true_eq_false,decide_false]
   have e1:G'.tr (G.j+1)=t1:=et _ _ _;have H:G'.fu (G.j+1)=phi Y G+1:=et _ _ _;refine .run (by simp only[Gh.gone,L];simp) hrc ?_;rw[hq,e1,K,Q];show jA Y.toFix _ false (NH Y (G'.V (G.j+1)) G.j (G'.fu (G.j+1)) (G.th G.j) (G'.wp G.j)) t1 nobody 0 child w;rw[L,K,H,m.fresh G.j (eg _) hj];exact ht1
  .rw[bQ]at I ⊢;have Yt:=Z _ z ab ab I;have hs:=m.sit (k+1) p z (by rw[bQ];exact Yt);rw[bQ]at hs;refine hs.same (C k p) (Mk k p) ?_ ?_ ?_ ?_ rfl ?_
   .grind[eu]
   .have H:G'.fu (k+1)=G.fu (k+1):=(eu (upd G.fu 0 (vK Y G+1)) (phi Y G+1) (show k+1≠G.j+1 by omega)).trans (eu G.fu _ (show k+1≠0 by omega));show NH Y (G'.V (k+1)) k (G'.fu (k+1)) (G.th k) (G'.wp k)=NH Y (G.V (k+1)) k (G.fu (k+1)) (G.th k) (G.wp k);rw[C k p,H,F k p]
   .simp only[Gh.q?,F k p]
   .simp only[Gh.gone,F k p]
   .exact fun⟨x1,x2,x3⟩=>⟨by rw[F k p];exact x1,x2,x3⟩
 .rw[hD];exact m.old i z h0 hi (Z i z ab ab I)
 .rw[hD];simp only[Array.size_push,Array.size_setIfInBounds]at hi;exact m.above i ab
 .have B:k<G.j+1:=p;by_cases e:k=G.j
  .subst e;exact absurd L J
  .have:k<G.j:=ab;exact m.out k this (by rw[<-F k this];exact J)
 .refine⟨?_,λh=>?_,λh1 h2=>?_,?_,λ_=>⟨c1,c2,?_,?_⟩,λh=>absurd h xC.2.2.1,λh=>?_,λv h=>absurd h (xC.2.2.2.2.2 v)⟩
  .show G.s.v=sumTo (G.j+1) (λk=>fv (G'.wp k))+(if u=.go then 1 else 0)
   rw[LO,if_neg xC.1,lU];omega
  .grind
  .grind
  .show G.j+1<=Y.n;omega
  .show sumTo (G.j+1) (λk=>fd (G'.wp k))=0;rw[LO,c3];rfl
  .show sumTo (G.j+1) (λk=>f4 (G'.wp k))=0;rw[LO,c4];rfl
  grind
 .rw[GG];have B:k<G.j+1:=p;show phi Y G+1<=upd (upd G.fu 0 (vK Y G+1)) (G.j+1) (phi Y G+1) (k+1);by_cases e:k=G.j
  .subst e;rw[et];omega
  .rw[eu _ _ ab,eu _ _ ab];exact m.fuel k ab
 .have H:G'.fu 0=vK Y G+1:=(eu (upd G.fu 0 (vK Y G+1)) (phi Y G+1) (show 0≠G.j+1 by omega)).trans (et G.fu 0 _);rw[H];omega
 .have B:k<G.j+1:=p;by_cases e:k=G.j
  .subst e;exact absurd L J
  .have E:k<G.j:=ab;obtain⟨r,hr⟩:=m.rel k E (by rw[<-F k E];exact J);exact⟨r,ru hr Dw⟩
 .grind
 .rcases Array.mem_append.1 X with h|h
  .exact m.low op h
  .simp only[dL,dQ,dT,or_false]at h
   rcases h with rfl|rfl<;>trivial
 .have B:k<G.j+1:=p;by_cases e:k=G.j
  .subst e;exact absurd L J
  .have E:k<G.j:=ab;exact m.fin k E (by rw[<-F k E];exact J)
def WN(V:Vw)(M:Own)(w:aP)(d:Nat):Rl Y.toFix V M w (w.at d):=⟨rfl,rfl,h7 _,eg _,λ_ _=>rfl,λ_ _=>rfl,id,λ_ _=>rfl⟩
def Sit.at(h:Sit Y G b d g w)(n:Nat):Sit Y G b d g (w.at n):=by
 cases h with
 |run hg c h=>exact .run hg c (h.rely (WN _ _ _ _))
 |wait f hg e c i j h=>exact .wait f hg e c i j (h.rely (WN _ _ _ _))
 |gone hg h=>exact .gone hg h
def MI.at(m:MI Y G gs w t)(hF:nG Y)(n:Nat):MI Y G gs (w.at n) t:=
 ⟨m.cpos,m.size,λa c g hg=>(m.sit a c g hg).at n,m.old,m.above,m.sh,m.tb,m.mun,m.fresh,m.out,m.wi,m.fuel,m.fuel0,⟨m.oi.ap,m.oi.dj,m.oi.self,m.oi.rows,m.oi.base,m.oi.num,m.oi.ids,m.oi.main,m.oi.afT⟩,m.shun,m.tri,m.rel,m.norel,m.low,
  λk e f=>hF k w (w.at n) (λ_ _=>rfl) (m.fin k e f),m.acq,m.tape,m.output,m.os,m.kept,m.rowok,m.un⟩
def MI.slip(m:MI Y G gs w t){i n:Nat}(hi:gs[i]?=some g)(X:0<i)(H:i<Y.c\/∃k,k<G.j/\i=Y.c+k/\G.wp k=.quit)(I:G.q i=n+1)(z:∀e∈es,e.mute=true)
 (J:da Y.P n (bi (c9 t i) es) g') :
 ∃G',MI Y G' ((gs.map (woken Y.P g g' w)).setIfInBounds i g') w (t++e6 i g.frame.fn g.frame.place es)/\ML (Y.n+1) (mz Y G' ((gs.map (woken Y.P g g' w)).setIfInBounds i g')) (mz Y G gs):=by
 have Z:i<gs.size:=(Array.getElem?_eq_some_iff.1 hi).1;have K:∀b,b≠i->c9 (t++e6 i g.frame.fn g.frame.place es) b=c9 t b:=λb hb=>
  Deaf_other t (eN hb) _ (λop f=>by obtain⟨e,_,rfl⟩:=dd f;rfl)
 have A:c9 (t++e6 i g.frame.fn g.frame.place es) i=bi (c9 t i) es:=Deaf_own _ _ _ _ _;have C:∀op∈e6 i g.frame.fn g.frame.place es,op.act.touch? = none:=λop f=>by
  obtain⟨e,B,rfl⟩:=dd f;exact dk (z e B)
 have L:∀b x,b≠i->((gs.map (woken Y.P g g' w)).setIfInBounds i g')[b]?=some x->∃y,gs[b]?=some y/\x=woken Y.P g g' w y:=by
  grind
 have M:∀x,((gs.map (woken Y.P g g' w)).setIfInBounds i g')[i]?=some x->x=g':=by
  grind
 refine⟨{ G with q:=upd G.q i n },⟨m.cpos,by simpa using m.size,λb hb x s=>?_,λb x O hb s=>?_,λb hb=>?_,m.sh,m.tb,m.mun,m.fresh,m.out,⟨m.wi.v,m.wi.early,m.wi.late,m.wi.le,m.wi.calm,m.wi.w3,m.wi.done,m.wi.nz⟩,m.fuel,m.fuel0,
  ⟨m.oi.ap,m.oi.dj,m.oi.self,m.oi.rows,m.oi.base,m.oi.num,m.oi.ids,m.oi.main,m.oi.afT⟩,m.shun,?_,λk u Q=>?_,m.norel.app λop f=>?_,λop f=>?_,m.fin,λz=>?_,m.tape,m.output,m.os,m.kept,m.rowok,m.un⟩,?_⟩
 .by_cases e:gid Y b=i
  .rw[e]at s ⊢;obtain rfl:=M x s;rw[A]
   rcases H with h|⟨k,u,rfl,o⟩
   .exfalso
    cases b with
    |zero=>rw[iZ]at e;omega
    |succ b=>rw[bQ]at e;omega
   .have:b=k+1:=wm m.cpos (e.trans (bQ k).symm);subst this;exact .gone o (by simp only[bQ,et];exact J)
  .obtain⟨y,hy,rfl⟩:=L _ _ e s;rw[K _ e];exact(m.sit b hb y hy).other (Rl.refl _ _ _) g g' rfl rfl rfl rfl rfl fp (eu _ _ e) hK
 .by_cases e:b=i
  .subst e;obtain rfl:=M x s;rw[A];simp only[et];exact J
  .obtain⟨y,hy,rfl⟩:=L _ _ e s;have:=m.old b y O hb hy;grind[db,eu]
 .have R:gs.size<=b:=by simpa using hb
  rw[K _ ab];exact m.above b R
 .exact m.tri.appMute (g:=i) (λop f=>by obtain⟨e,_,rfl⟩:=dd f;rfl) C
 .obtain⟨r,D⟩:=m.rel k u Q;exact⟨r,ru D C⟩
 .obtain⟨e,B,rfl⟩:=dd f;have:=z e B;obtain⟨l,x,y⟩:=e;intro hc
  cases l with
  |mark S=>cases S<;>simp_all [fO,eT]
  |_=>simp_all [fO]
 .rcases Array.mem_append.1 f with h|h
  .exact m.low op h
  .obtain⟨e,B,rfl⟩:=dd h;exact dp (z e B) _
 .obtain⟨p,N,T,U,V⟩:=m.acq z;have E:=df N;refine⟨p,by rw[act?_old E];exact N,by rw[g?_old E];exact T,(heard_old E).2 U,λk u=>?_⟩;obtain⟨r,D,F⟩:=V k u;exact⟨r,ru D C,F⟩
 .refine hM ⟨rfl,hM ⟨rfl,hK ?_⟩⟩;show qs Y { G with q:=upd G.q i n }<qs Y G;unfold qs;simp only
  rcases H with h|⟨k,u,rfl,o⟩
  .have e1:sumTo Y.c (λb=>if b=0 then 0 else upd G.q i n b)+(n+1)=sumTo Y.c (λb=>if b=0 then 0 else G.q b)+n:=by
    have:=eq (j:=Y.c) (λb=>if b=0 then 0 else G.q b) n id h;simp only[id]at this;rw[if_neg ab,I]at this;rw[<-this];congr 1;refine eF λb _=>?_;by_cases e:b=i
    .subst e;rw[et,et,if_neg ab]
    .rw[eu _ _ e,eu _ _ e]
   have W:sumTo G.j (λk=>if G.wp k=.quit then upd G.q i n (Y.c+k) else 0)=sumTo G.j (λk=>if G.wp k=.quit then G.q (Y.c+k) else 0):=
    eF λk _=>by rw[eu _ _ ab]
   omega
  .have e1:sumTo Y.c (λb=>if b=0 then 0 else upd G.q (Y.c+k) n b)=sumTo Y.c (λb=>if b=0 then 0 else G.q b):=
    eF λb hb=>by rw[eu _ _ ab]
   have W:sumTo G.j (λb=>if G.wp b=.quit then upd G.q (Y.c+k) n (Y.c+b) else 0)+(n+1)=sumTo G.j (λb=>if G.wp b=.quit then G.q (Y.c+b) else 0)+n:=by
    have:=eq (j:=G.j) (λb=>if G.wp b=.quit then G.q (Y.c+b) else 0) n id u;simp only[id]at this;rw[if_pos o,I]at this;rw[<-this];congr 1;refine eF λb _=>?_;by_cases e:b=k
    .subst e;rw[et,et,if_pos o]
    .rw[eu _ _ e,eu _ _ ab]
   omega
def MI.T7(m:MI Y G gs w t):∃(i:Nat)(g:bj),gs[i]?=some g/\g.status=hZ:=by
 refine eI λA=>?_;have x:∀(i:Nat)(g:bj),gs[i]?=some g->g.status≠hZ:=λi g h l=>A ⟨i,g,h,l⟩;have F:=m.size;have W:=m.wi;have n:∀a,a<=G.j->∃g,gs[gid Y a]?=some g:=λa B=>⟨_,fP (by have:=Yz (Y:=Y) B m.cpos;omega)⟩
 obtain⟨C,y⟩:=n 0 (ei _);have o:G.mp=.w3/\G.s.ws=0:=by
  cases m.sit 0 (ei _) C y with
  |run _ l _=>exact absurd l (x _ _ y)
  |wait _ _ _ _ _ r _=>exact r
  |gone h _=>exact h.elim
 have H:=W.late (by rw[o.1];simp) (by rw[o.1];simp);have e:∀k,k<G.j->G.wp k=.quit\/(G.wp k=.mu/\(G.th k).pc=.s1/\G.s.ms=0):=by
  intro k e;obtain⟨g,hg⟩:=n (k+1) e
  cases m.sit (k+1) e g hg with
  |run _ l _=>exact absurd l (x _ _ hg)
  |wait _ _ _ _ _ r _=>exact hM r
  |gone h _=>exact hK h
 have D:=m.mun.live λk I=>by
  rcases e k ab with h|⟨_,h⟩
  .exact hK (m.out k ab (by rw[h];simp))
  .exact hM h
 have J:∀k,k<G.j->G.wp k=.quit:=by
  intro k u
  rcases e k u with h|⟨_,h,_⟩
  .exact h
  .have:(G.th k).pc=.out:=D k ab;rw[this]at h;cases h
 have z:∀f:WP->Nat,f .quit=0->sumTo G.j (λk=>f (G.wp k))=0:=λf hf=>by
  have:=eE (f:=λk=>f (G.wp k)) (c:=0) (j:=G.j) λk e=>aS;omega
 have hv:=W.v;rw[z fv rfl,if_neg (by rw[o.1];simp)]at hv
 rcases W.w3 o.1 with⟨c1,E,c3,p⟩|⟨c1,E,c3,p⟩
 .rw[if_pos hv,z fd rfl]at p;cases p
 .rw[z f4 rfl,o.2]at p;cases p
def nL(Y:CB)(G:Gh)(gs:Array bj)(w:aP)(t:aa):Prop:=G.mp=.an/\∃g,gs[0]?=some g/\g.status=hZ/\c9 t 0=0/\Y.Post (G.M 0) g w
def GL(Y:CB):Prop:=∀M g w d,Y.Post M g (w.at d)->Y.Post M g w
def MI.step(m:MI Y G gs w t)(hF:nG Y)(N:Jn Y)(O:GL Y):nL Y G gs w t\/
 ∃l w' p ops G',stepT Y.P (crowd gs w sl)=(.next (crowd l w' p),ops)/\MI Y G' l w' (t++ops)/\ML (Y.n+1) (mz Y G' l) (mz Y G gs):=by
 have X:=m.size;have cpos:=m.cpos;have who:∀i,i<gs.size->i=gid Y 0\/(0<i/\i<Y.c)\/∃k,k<G.j/\i=gid Y (k+1):=by
  intro i hi
  rcases Nat.eq_zero_or_pos i with rfl|h
  .exact hK rfl
  .rcases ea i Y.c with u|u
   .exact hM (hK ⟨h,u⟩)
   .exact hM (hM ⟨i-Y.c,ab,by rw[bQ];omega⟩)
 have Q:∀g∈gs,awake g:=by
  intro g hg;obtain⟨i,hi,rfl⟩:=Array.mem_iff_getElem.1 hg;have D:gs[i]?=some gs[i]:=fP hi
  rcases who i hi with rfl|⟨u,z⟩|⟨k,x,rfl⟩
  .exact dq (m.sit 0 (ei _) _ D).status
  .exact dq ((m.old i _ u z D).status.imp id hM)
  .exact dq (m.sit (k+1) x _ D).status
 obtain⟨i,g,d,p,hi,o,E⟩:=crowd_pick (P:=Y.P) (w:=w) (sl:=sl) Q m.T7;have R:i<gs.size:=(Array.getElem?_eq_some_iff.1 hi).1;have m':=m.at hF d;have finish:∀a,i=gid Y a->Made Y G gs (w.at d) t a g->∃l w' p ops G',stepT Y.P (crowd gs w sl)=(.next (crowd l w' p),ops)/\MI Y G' l w' (t++ops)/\ML (Y.n+1) (mz Y G' l) (mz Y G gs):=by
  rintro a rfl⟨g',w',es,G',u,z,S⟩;exact⟨_,w',p,_,G',by rw[E];exact dt hi u,z,S⟩
 rcases who i R with rfl|⟨u,z⟩|⟨k,x,rfl⟩
 .
  cases m'.sit 0 (ei _) g hi with
  |wait T _ e _ _ _ _=>subst e;cases o
  |gone h _=>exact h.elim
  |run A _ v=>
   have stop:G.um Y 0 (G.M 0) (c9 t (gid Y 0)) g (w.at d)->nL Y G gs w t\/∃l w' p ops G',stepT Y.P (crowd gs w sl)=(.next (crowd l w' p),ops)/\MI Y G' l w' (t++ops)/\ML (Y.n+1) (mz Y G' l) (mz Y G gs):=by
    intro hs;by_cases e1:G.mp=.an
    .left;simp only[Gh.um]at hs;rw[e1]at hs;obtain⟨x1,x2,x3⟩:=hs;exact⟨e1,g,hi,x1,x2,O _ _ _ _ x3⟩
    .right;by_cases L:G.mp=.go
     .obtain⟨l,ops,G',B,C,U⟩:=m'.spawn (sl:=p) N hi L hs;exact⟨l,w.at d,p,ops,G',by rw[E];exact B,C,U⟩
     .exact finish 0 rfl (m'.Pa hF hi o v hs L e1)
   cases hf:G.tr 0 with
   |leaf=>
    have r:=v;rw[hf]at r;exact stop (r _ (Rl.refl _ _ _))
   |node f=>
    have r:=v;rw[hf]at r
    rcases r _ (Rl.refl _ _ _) with hs|⟨_,F⟩
    .exact stop hs
    .exact hM (finish 0 rfl (m'.loc hF (ei _) hi A hf F))
 .
  right;have s:=m'.old i g u z hi
  cases y:G.q i with
  |zero=>rw[y]at s;rw[s.1]at o;cases o
  |succ n=>
   rw[y]at s
   rcases s with⟨H,_⟩|⟨_,g',es,I,V,J⟩
   .rw[H]at o;cases o
   have W:(i==0)=false:=by simp;omega
   obtain⟨G',B,C⟩:=m'.slip hi u (hK z) y I J;exact⟨_,w.at d,p,_,G',by grind[dt],B,C⟩
 .
  right
  cases m'.sit (k+1) x g hi with
  |wait T _ e _ _ _ _=>subst e;cases o
  |gone K s=>
   rw[bQ]at hi E;rw[bQ]at s
   cases y:G.q (Y.c+k) with
   |zero=>rw[y]at s;rw[s.1]at o;cases o
   |succ n=>
    rw[y]at s
    rcases s with⟨H,_⟩|⟨_,g',es,I,V,J⟩
    .rw[H]at o;cases o
    have W:(Y.c+k==0)=false:=by simp;omega
    obtain⟨G',B,C⟩:=m'.slip hi ab (hM ⟨k,x,rfl,K⟩) y I J;exact⟨_,w.at d,p,_,G',by grind[dt],B,C⟩
  |run A _ v=>
   cases hf:G.tr (k+1) with
   |leaf=>
    have r:=v;rw[hf]at r;exact finish (k+1) rfl (m'.Jm hF x hi A o v (r _ (Rl.refl _ _ _)))
   |node f=>
    have r:=v;rw[hf]at r
    rcases r _ (Rl.refl _ _ _) with hs|⟨_,F⟩
    .exact finish (k+1) rfl (m'.Jm hF x hi A o v hs)
    .exact finish (k+1) rfl (m'.loc hF x hi A hf F)
def MI.runs(hF:nG Y)(f:Jn Y)(i:GL Y):∀(z:Mz)(G:Gh)(gs:Array bj)(w:aP)(sl:Option (Nat×Nat))(t:aa),mz Y G gs=z->MI Y G gs w t->
 ∃N c w1 e t1 G1,runNT Y.P N (crowd gs w sl) t=(.next (crowd c w1 e),t1)/\MI Y G1 c w1 t1/\nL Y G1 c w1 t1:=by
 intro z
 induction (acT (Y.n+1)).apply z with
 |intro z _ j=>
  rintro G gs w sl t rfl m
  rcases m.step (sl:=sl) hF f i with h|⟨k,w',l,ops,G',o,p,r⟩
  .exact⟨0,gs,w,sl,t,G,rfl,m,h⟩
  .obtain⟨N,c,w1,e,t1,G1,s,u,v⟩:=j _ r G' k w' l (t++ops) rfl p;exact⟨N+1,c,w1,e,t1,G1,by simp only[runNT,o];exact s,u,v⟩
def nL.T8(m:MI Y G gs w t)(h:nL Y G gs w t):Leavers Y.P t gs G.q:=by
 refine⟨λi g o hi=>?_,m.above⟩;have p:i<gs.size:=(Array.getElem?_eq_some_iff.1 hi).1
 rcases ea i Y.c with l|l
 .exact m.old i g o l hi
 .have r:=m.size;have n:i-Y.c<G.j:=ab;have e:gid Y (i-Y.c+1)=i:=by rw[bQ];omega
  have f:=(m.wi.done (hM (hM h.1))).2.2.2 (i-Y.c) n;have hs:=m.sit (i-Y.c+1) n g (by rw[e];exact hi);rw[e]at hs
  cases hs with
  |run k _ _=>exact absurd f k
  |wait _ k _ _ _ _ _=>exact absurd f k
  |gone _ f=>rw[e]at f;exact f
def nL.GA(m:MI Y G gs w t)(h:nL Y G gs w t):Past (λl=>Y.Shun l\/OZ Y.toFix l) w.heap.size t:=by
 obtain⟨p,f,i,j,n⟩:=m.acq h.1;obtain⟨_,_,_,_,hd,_⟩:=h;refine m.tri.GA (λk k1 k2 _=>?_) m.norel f i j hd m.low;have e:Y.c+(k-Y.c)=k:=ab;have:=n (k-Y.c) ab;rw[e]at this;exact this
def nL.fin(m:MI Y G gs w t)(h:nL Y G gs w t):∀k,k<Y.n->Y.Fin k w:=by
 intro k e;have f:=m.wi.late (by rw[h.1];simp) (by rw[h.1];simp);have c:=(m.wi.done (hM (hM h.1))).2.2.2 k ab;exact m.fin k ab (by rw[c];simp)
end
end Go.Ph
namespace Go.Ph
open Go.Conc Go.ConcN
open Go.ConcR (stA)
noncomputable def nx(P:a7)(mn:Bool)(g:bj):bj:=match stepG P mn g default with
 |gj g' _ _=>g'
 |_=>g
noncomputable def ex(P:a7)(mn:Bool)(g:bj):Array bb:=match stepG P mn g default with
 |gj _ _ es=>es
 |_=>#[]
noncomputable def adv(P:a7)(mn:Bool):Nat->bj->bj
 |0,g=>g
 |n+1,g=>adv P mn n (nx P mn g)
noncomputable def YL(P:a7)(mn:Bool):Nat->Nat->bj->Nat
 |0,d,_=>d
 |n+1,d,g=>YL P mn n (bi d (ex P mn g)) (nx P mn g)
def mutes(es:Array bb):Bool:=es.toList.all fO
noncomputable def Dz(P:a7)(mn:Bool)(w:aP):Nat->bj->List (bC×bL×Bool)
 |0,_=>[]
 |n+1,g=>(g.status,stepG P mn g w,mutes (ex P mn g))::Dz P mn w n (nx P mn g)
noncomputable def DC(P:a7)(mn:Bool)(w:aP):Nat->bj->List (bC×bL×Bool)
 |0,_=>[]
 |n+1,g=>(hZ,gj (nx P mn g) w (ex P mn g),true)::DC P mn w n (nx P mn g)
def uo(P:a7)(mn:Bool)(n:Nat)(g:bj):Prop:=(∀w,Dz P mn w n g=DC P mn w n g)/\(adv P mn n g).status=hZ
section
variable {X:Fix}{V:Vw}{q:Bool}{Stop:Stp}{M:Own}{d:Nat}{g g':bj}{w:aP}{es:Array bb}
def T9(a:∀e∈es,e.mute=true)(d:Nat)(w:aP):Dl X V q M d w w es M (bi d es):=
 ⟨rfl,rfl,h7 _,eg _,λ_ _ _ _ _ _=>rfl,λc h=>⟨c,h,rfl⟩,λ_ _=>rfl,λ_=>rfl,λb=>⟨hK,λh=>h.resolve_right λx=>ab⟩,
   λe f=>⟨λx i=>(by rw[dk (a e f)]at i;cases i),λh=>(by have:=a e f;obtain⟨l,x,y⟩:=e;simp only at h;subst h;simp[fO]at this),dp (a e f) _⟩,
   λ_ j e h=>hK (dk (a e (fY h))),rfl⟩
def ay.mute1(hs:g.status=hZ)(h:∀w,stepG X.P (V.g==0) g w=gj g' w es)(b:∀e∈es,e.mute=true)(c:g'.status=hZ)(f:ay X V q Stop M (bi d es) g' w):ay X V q Stop M d g w:=
 .step hs λa r=>⟨g',a,es,M,_,h a,T9 b d a,⟨rfl,rfl⟩,c,f.rely r⟩
def ay.quiet{mn:Bool}(c:(V.g==0)=mn):∀(n:Nat){g:bj}{d:Nat},uo X.P mn n g->ay X V q Stop M (YL X.P mn n d g) (adv X.P mn n g) w->ay X V q Stop M d g w
 |0,_,_,_,b=>b
 |n+1,g,d,h,b=>by
  have a:∀w,g.status=hZ/\stepG X.P mn g w=gj (nx X.P mn g) w (ex X.P mn g)/\mutes (ex X.P mn g)=true/\Dz X.P mn w n (nx X.P mn g)=DC X.P mn w n (nx X.P mn g):=λw=>by
   have:=h.1 w;simp only[Dz,DC,f3,f5]at this;exact⟨this.1.1,this.1.2.1,this.1.2.2,this.2⟩
  have f:=ay.quiet c n (g:=nx X.P mn g) (d:=bi d (ex X.P mn g)) ⟨λw=>(a w).2.2.2,h.2⟩ b;have i:(nx X.P mn g).status=hZ:=by
   cases n with
   |zero=>exact h.2
   |succ n=>
    have:=(a w).2.2.2;simp only[Dz,DC,f3,f5]at this;exact this.1.1
  refine .mute1 (a w).1 (λw=>by rw[c];exact(a w).2.1) (λe j=>?_) i f;have:=(a w).2.2.1;simp only[mutes,dU]at this;exact this e (Array.mem_toList_iff.2 j)
end
section
variable (P:a7)(mn:Bool)(S:bj->Bool)
noncomputable def wu:Nat->bj->bj
 |0,g=>g
 |n+1,g=>@fz (λ_=>bj) (wu n (nx P mn g)) g (S g)
noncomputable def xD:Nat->Nat->bj->Nat
 |0,d,_=>d
 |n+1,d,g=>@fz (λ_=>Nat) (xD n (bi d (ex P mn g)) (nx P mn g)) d (S g)
noncomputable def vg(w:aP):Nat->bj->List (bC×bL×Bool)
 |0,_=>[]
 |n+1,g=>@fz (λ_=>List (bC×bL×Bool)) ((g.status,stepG P mn g w,mutes (ex P mn g))::vg w n (nx P mn g)) [] (S g)
noncomputable def vh(w:aP):Nat->bj->List (bC×bL×Bool)
 |0,_=>[]
 |n+1,g=>@fz (λ_=>List (bC×bL×Bool)) ((hZ,gj (nx P mn g) w (ex P mn g),true)::vh w n (nx P mn g)) [] (S g)
def ff(n:Nat)(g:bj):Prop:=(∀w,vg P mn S w n g=vh P mn S w n g)/\(wu P mn S n g).status=hZ
end
section
variable {X:Fix}{V:Vw}{q:Bool}{Stop:Stp}{M:Own}{g g':bj}{w:aP}{S:bj->Bool}
def ay.oO{mn:Bool}(i:(V.g==0)=mn):∀(n:Nat){g:bj}{d:Nat},ff X.P mn S n g->ay X V q Stop M (xD X.P mn S n d g) (wu X.P mn S n g) w->ay X V q Stop M d g w
 |0,_,_,_,a=>a
 |n+1,g,d,h,a=>by
  cases c:S g with
  |true=>simpa only[wu,xD,c]using a
  |false=>
   simp only[wu,xD,c]at a;have f:=h.2;simp only[wu,c]at f;have b:∀w,g.status=hZ/\stepG X.P mn g w=gj (nx X.P mn g) w (ex X.P mn g)/\mutes (ex X.P mn g)=true/\vg X.P mn S w n (nx X.P mn g)=vh X.P mn S w n (nx X.P mn g):=λw=>by
    have:=h.1 w;simp only[vg,vh,c,f3,f5]at this;grind
   have l:=ay.oO i n (g:=nx X.P mn g) (d:=bi d (ex X.P mn g)) ⟨λw=>(b w).2.2.2,f⟩ a;have m:(nx X.P mn g).status=hZ:=by
    cases n with
    |zero=>exact f
    |succ n=>
     have j:=(b w).2.2.2
     cases k:S (nx X.P mn g) with
     |true=>simpa only[wu,k]using f
     |false=>
      simp only[vg,vh,k,f3,f5]at j;exact j.1.1
   refine .mute1 (b w).1 (λw=>by rw[i];exact(b w).2.1) (λe o=>?_) m l;have:=(b w).2.2.1;simp only[mutes,dU]at this;grind
end
end Go.Ph
namespace Go.Ph
open Go.Conc Go.ConcN
def pS:Op->Bool
 |.defer _=>false
 |_=>true
def bF(g:bj):Option bM:=
 if g.status=hZ/\g.dying.isNone=true/\g.offers.isNone=true/\(g.frame.kind==f6)=false then
  match g.frame.mode,g.frame.todo with
  |ip,iC ops (i::_)::_=>match ops[i]? with
   |some o=>if Region.wanted o (yielded ops g.frame.tmps)=true/\pS o.op=true then some o else none
   |none=>none
  |_,_=>none
 else none
def fin(g:bj)(v:a9):bj:={ g with frame:=g.frame.finish v }
section
variable {P:a7}{mn:Bool}{g:bj}{o:bM}{w w':aP}{v:a9}
def gF(h:bF g=some o):∃fn tmps ops i rest k defers kind a cs,g={ frame:=⟨fn,tmps,iC ops (i::rest)::k,defers,ip,kind,a⟩,callers:=cs,status:=hZ,dying:=none,offers:=none }/\
 (kind==f6)=false/\ops[i]?=some o/\Region.wanted o (yielded ops tmps)=true/\pS o.op=true:=by
 obtain⟨⟨fn,tmps,todo,defers,mode,kind,a⟩,cs,status,dying,offers⟩:=g;unfold bF at h;simp only at h;split at h
 .rename_i hc;obtain⟨b,c,d,j⟩:=hc;obtain rfl:=b;obtain rfl:=Option.isNone_iff_eq_none.1 c;obtain rfl:=Option.isNone_iff_eq_none.1 d;split at h
  .grind
  .cases h
 .cases h
def lV(h:bF g=some o):stepG P mn g w=f8 P true g.frame g.callers none (bR g.frame.eval o) w:=by
 obtain⟨fn,tmps,ops,i,a,k,defers,kind,b,cs,rfl,q,d,m,j⟩:=gF h;have n:f9 P true ⟨fn,tmps,iC ops (i::a)::k,defers,ip,kind,b⟩ cs none w=f8 P true ⟨fn,tmps,iC ops (i::a)::k,defers,ip,kind,b⟩ cs none (bR (ge ⟨fn,tmps,iC ops (i::a)::k,defers,ip,kind,b⟩) o) w:=by
  unfold f9;simp only[Frame.oper?,d]
  cases b with
  |none=>rfl
  |some l=>
   cases p:o.op with
   |defer c=>rw[p]at j;cases j
   |_=>rfl
 rw[<-n];simp[stepG,gc,d,m]
def dF(h:bF g=some o)(b:(bR g.frame.eval o).run P w=.ok (.value v) w'):stepG P mn g w=gj (fin g v) w' (seen P g.frame.fn ((bR g.frame.eval o).events P w #[])):=by
 rw[lV h];obtain⟨fn,tmps,ops,i,a,k,defers,kind,j,cs,rfl,c,l,m,n⟩:=gF h;have d:kind≠f6:=by simpa using c
 simp[f8,b,d,gg,fin]
def Me(h:bF g=some o)(b:(bR g.frame.eval o).run P w=.ok .skip w'):stepG P mn g w=gj (fin g undef) w' (seen P g.frame.fn ((bR g.frame.eval o).events P w #[])):=by
 rw[lV h];obtain⟨fn,tmps,ops,i,a,k,defers,kind,j,cs,rfl,c,l,m,n⟩:=gF h;have d:kind≠f6:=by simpa using c
 simp[f8,b,d,gg,fin]
def BL(h:bF g=some o)(c:(bR g.frame.eval o).run P w=.halt .blocked w):stepG P mn g w=gj { g with status:=h6 } w #[]:=by
 rw[lV h];obtain⟨fn,tmps,ops,i,a,k,defers,kind,b,cs,rfl,d,l,m,n⟩:=gF h;have p:kind≠f6:=by simpa using d
 have hf:((bR (ge ⟨fn,tmps,iC ops (i::a)::k,defers,ip,kind,b⟩) o).runT P w #[]).1=.halt .blocked w:=by rw[gp,c]
 unfold f8;simp only[if_true];generalize(bR (ge ⟨fn,tmps,iC ops (i::a)::k,defers,ip,kind,b⟩) o).runT P w #[]=j at hf;obtain⟨r,es⟩:=j;simp only at hf;subst hf;simp[gg,seen]
def BM(o:bM):Option (bv×Array bT):=match o.op with
 |.call { callee:=.value (.func f),args,.. }=>some (f,args)
 |_=>none
def DD{f:bv}{a:Array bT}{ev:bT->a9}(h:BM o=some (f,a))(hf:ev (.func f)=ib (.func f) #[] #[]):bR ev o=b1 f (a.map ev):=by
 unfold BM at h;split at h
 .rename_i b;cases h;unfold bR;simp[b,b8,gy,b9,hf]
 .cases h
def az(g:bj):Option (bv×Array a9):=match bF g with
 |some o=>match BM o with
  |some (f,a)=>some (f,a.map g.frame.eval)
  |none=>none
 |none=>none
theorem kL{f:bv}{args:Array a9}(h:az g=some (f,args)):∃o,bF g=some o/\bR g.frame.eval o=b1 f args:=by
 unfold az at h;split at h
 .rename_i o a;split at h
  .rename_i c b hc;cases h;exact⟨o,a,DD hc rfl⟩
  .cases h
 .cases h
section
variable {f:bv}{fn:ca}{args:Array a9}{e:Array a9->Sem a9}{Ua:Array bb}
def GN(h:az g=some (f,args))(hf:P.funcs[f]?=some fn)(a:(fn.name == "runtime.NumGoroutine")=false)(hb:fn.body.isNone=true)(b:gB fn=none)(c:gD fn=some e)
 (d:(e args).run P w=.ok v w') (j:(e args).events P w #[⟨hY (hS f),false,true⟩]=#[⟨hY (hS f),false,true⟩]++Ua) (hs:∀x∈Ua,x.sync=true/\∀g,x.loc≠hY (hS g)):stepG P mn g w=gj (fin g v) w' Ua:=by
 obtain⟨o,i,e1⟩:=kL h;rw[dF (v:=v) (w':=w') i (by rw[e1,cb hf a hb b c,d];rfl),e1,du hf a hb b c];grind [seen_entry]
def ry(h:az g=some (f,args))(hf:P.funcs[f]?=some fn)(a:(fn.name == "runtime.NumGoroutine")=false)(hb:fn.body.isNone=true)(b:gB fn=none)(c:gD fn=some e)
 (d:(e args).run P w=.halt .blocked w):stepG P mn g w=gj { g with status:=h6 } w #[]:=by
 obtain⟨o,i,e1⟩:=kL h;exact BL i (by rw[e1,cb hf a hb b c,d];rfl)
end
end
open Go.ConcM (MuAt muA msA OsLater muBlock)
open Go.ConcR (KK WgAt stA smA rd wr mk)
structure WO(X:Fix):Prop where
 mw:X.Mu≠X.Wg
 mt:X.Mu≠X.Tb
 wt:X.Wg≠X.Tb
structure Clear(X:Fix)(V:Vw)(M:Own):Prop where
 ids:WO X
 st:∀b,V.st b->jm X b
 own:∀b,M b->jm X b
section
variable {X:Fix}{V:Vw}{q:Bool}{Stop:Stp}{M:Own}{d:Nat}{g g':bj}{w w':aP}{es:Array bb}{B:Nat}
def eo{a:aL}{wr:Bool}(c:a.block=X.Mu\/a.block=X.Wg)(h:a.block<B):jG X V M B ⟨hV a,wr,true⟩:=by
 refine⟨λx b=>?_,ar,h⟩;have e:(eT ⟨hV a,wr,true⟩).touch? = some ⟨hV a,wr,hI⟩:=rfl;rw[e]at b;cases b;exact⟨rfl,hK ⟨⟨a,rfl,c⟩,by split<;>simp⟩⟩
theorem lX{e:bb}(h:e.mute=true):jG X V M B e:=
 ⟨λx a=>(by rw[dk h]at a;cases a),λb=>by obtain⟨l,x,y⟩:=e;simp only at b;subst b;simp[fO]at h,dp h _⟩
def uq{m:Mark}(b:(eW m).touch? = none)(c:m≠.release (stA X.Wg))(hl:(eW m).low B):jG X V M B (mk m):=
 ⟨λx a=>(by rw[show(eT (mk m))=eW m from rfl,b]at a;cases a),λh=>c (by cases h;rfl),hl⟩
def BN(hc:Clear X V M)(a:w'.tape=w.tape)(c:w'.output=w.output)(i:eQ w.os w'.os)(j:w'.heap.size=w.heap.size)(hb:∀b,b≠X.Mu->b≠X.Wg->w'.heap[b]?=w.heap[b]?)
 (hl:Live X w->Live X w'):Rl X V M w w':=
 ⟨a,c,i,ab,λb h=>hb b (hc.st b h).1 (hc.st b h).2.1,λb h=>hb b (hc.own b h).1 (hc.own b h).2.1,hl,λo _=>by simp only[e9,hb X.Tb hc.ids.mt.symm hc.ids.wt.symm]⟩
def jI(hc:WO X)(i:w'.tape=w.tape)(k:w'.output=w.output)(l:eQ w.os w'.os)(s:w'.heap.size=w.heap.size)(hb:∀b,b≠X.Mu->b≠X.Wg->w'.heap[b]?=w.heap[b]?)
 (m:∀e∈es,jG X V M w'.heap.size e)
 (n:q=true->∀j e,es[j]?=some e->(eT e).touch? = none\/((∃ad wr,e=⟨hV ad,wr,true⟩)/\0<bi d (es.extract 0 j))):Dl X V q M d w w' es M (bi d es):=by
 have a:=hb X.Tb hc.mt.symm hc.wt.symm
 exact⟨i,k,l,ab,λb _ _ p r _=>hb b p r,λc h=>⟨c,by rw[a];exact h,rfl⟩,λo _=>by simp only[e9,a],λ_=>a,
  λb=>⟨hK,λh=>h.resolve_right λx=>ab⟩,m,n,rfl⟩
def ay.idle(hc:Clear X V M)(hs:g.status=hZ)
 (h:∀k,Rl X V M w k->∃g' w' es,stepG X.P (V.g==0) g k=gj g' w' es/\w'.tape=k.tape/\w'.output=k.output/\eQ k.os w'.os/\w'.heap=k.heap/\(∀e∈es,jG X V M k.heap.size e/\(eT e).touch? = none)/\
   g'.status=hZ/\ay X V q Stop M (bi d es) g' w):ay X V q Stop M d g w:=
 .step hs λk r=>by
  obtain⟨g',w',es,t,m,n,p,i,s,u,x⟩:=h k r;refine⟨g',w',es,M,_,t,jI hc.ids m n p (by rw[i]) (λb _ _=>by rw[i]) (λe l=>by rw[i];exact(s e l).1) (λ_ j e l=>hK (s e (fY l)).2),⟨by rw[i],by rw[i]⟩,u,?_⟩;refine x.rely (r.trans (BN hc m n p (by rw[i]) (λb _ _=>by rw[i]) ?_));rintro⟨⟨a,b,k1⟩,⟨y,b',k2⟩,c,k3,z⟩;exact⟨⟨a,b,by unfold eP at k1 ⊢;rw[i];exact k1⟩,⟨y,b',by unfold WgAt at k2 ⊢;rw[i];exact k2⟩,c,by rw[i];exact k3,z⟩
end
structure cw(P:a7)(f:bv)(nr:Bool)(e:Array a9->Sem a9):Prop where
 ex:∃fn,P.funcs[f]?=some fn/\(fn.name == "runtime.NumGoroutine")=false/\fn.body.isNone=true/\gB fn=none/\gD fn=some e/\fn.norace=nr
section
variable {P:a7}{mn:Bool}{g:bj}{w w':aP}{f:bv}{args:Array a9}{nr:Bool}{e:Array a9->Sem a9}{v:a9}{Ua:Array bb}
def cw.step(hb:cw P f nr e)(h:az g=some (f,args))(a:(e args).run P w=.ok v w')(b:(e args).events P w #[⟨hY (hS f),false,true⟩]=#[⟨hY (hS f),false,true⟩]++Ua)(hs:∀x∈Ua,x.sync=true/\∀g,x.loc≠hY (hS g)) :
 stepG P mn g w=gj (fin g v) w' Ua:=by
 obtain⟨fn,c,i,j,k,l,_⟩:=hb.ex;exact GN h c i j k l a b hs
def cw.blocked(hb:cw P f nr e)(h:az g=some (f,args))(a:(e args).run P w=.halt .blocked w):stepG P mn g w=gj { g with status:=h6 } w #[]:=by
 obtain⟨fn,b,c,i,j,k,_⟩:=hb.ex;exact ry h b c i j k a
def cw.out(hb:cw P f true e)(h:az g=some (f,args))(i:(e args).run P w=.ok v w')(k:(e args).events P w #[⟨hY (hS f),false,true⟩]=#[⟨hY (hS f),false,true⟩] ++ #[⟨.output,true,false⟩]) :
 stepG P mn g w=gj (fin g v) w' #[]:=by
 obtain⟨fn,hf,a,hb,b,c,l⟩:=hb.ex;obtain⟨o,j,e1⟩:=kL h;rw[dF (v:=v) (w':=w') j (by rw[e1,cb hf a hb b c,i];rfl),e1,du hf a hb b c];grind [seen_entry_out]
theorem aK{o:bM}(h:bF g=some o):g.status=hZ/\g.offers=none/\∀v,(fin g v).status=hZ:=by
 obtain⟨fn,tmps,ops,i,a,k,defers,kind,b,cs,rfl,c,j,l,m⟩:=gF h;exact⟨rfl,rfl,λ_=>rfl⟩
def aj(h:az g=some (f,args)):g.status=hZ/\g.offers=none/\∀v,(fin g v).status=hZ:=by
 grind[kL,aK]
end
section
variable {X:Fix}{V:Vw}{q:Bool}{Stop:Stp}{M:Own}{d:Nat}{g:bj}{w:aP}{f:bv}{nr:Bool}{args:Array a9}{o:bM}
def ay.Jo(hc:Clear X V M)(a:az g=some (f,args)){m:Mark}(hb:cw X.P f nr (λ_=>do mark m;pure gE))(b:(⟨hY m,false,true⟩:bb).mute=true)
 (i:ay X V q Stop M (bi d #[⟨hY m,false,true⟩]) (fin g (ih #[])) w):ay X V q Stop M d g w:=
 .idle hc (aj a).1 λj _=>⟨_,j,#[⟨hY m,false,true⟩],hb.step a (by simp[gE]) ar (by
  intro x c;simp at c;subst c
  exact⟨rfl,λg h=>by cases h;simp[fO]at b⟩),rfl,rfl,h7 _,rfl,(by
  grind[lX,dk]),(aj a).2.2 _,i⟩
def kM{P:a7}{mn:Bool}(c:az g=some (f,args)){mk':aL->Mark}(hb:cw P f nr (gG mk'))(h:∀a g,mk' a≠hS g){ad:aL}(b:args[0]?=some (ii (some ad))) :
 stepG P mn g w=gj (fin g (ih #[])) w #[mk (mk' ad)]:=
 hb.step c (by simp[gG,gL,b,gE]) (by simp[gG,gL,b,mk]) (by
  intro x b;simp[mk]at b
  grind)
def ay.Pe(hc:Clear X V M)(c:az g=some (f,args)){mk':aL->Mark}(hb:cw X.P f nr (gG mk'))(h:∀a g,mk' a≠hS g){ad:aL}(i:args[0]?=some (ii (some ad)))
 (k:∀b,Rl X V M w b->jG X V M b.heap.size (mk (mk' ad))/\(eT (mk (mk' ad))).touch? = none) (hd:∀d,bi d #[mk (mk' ad)]=d)
 (j:ay X V q Stop M d (fin g (ih #[])) w):ay X V q Stop M d g w:=
 .idle hc (aj c).1 λb r=>⟨_,b,#[mk (mk' ad)],kM c hb h i,rfl,rfl,h7 _,rfl,(by
  grind),(aj c).2.2 _,by rw[hd];exact j⟩
def ay.nano(hc:Clear X V M)(b:az g=some (f,args))(hb:cw X.P f true Extern.OsHooks.nano)(c:∀n:Nat,ay X V q Stop M d (fin g (h8 im (n:Int))) w):ay X V q Stop M d g w:=
 .idle hc (aj b).1 λa _=>⟨_,a.later,#[],hb.out (v:=h8 im ((a.os.mono+a.tick:Nat):Int)) b rfl rfl,rfl,rfl,⟨a.tick,rfl⟩,rfl,ar,(aj b).2.2 _,c _⟩
def ay.canSpin(hc:Clear X V M){k:IntKind}{n:Int}(a:az g=some (f,#[h8 k n]))(hb:cw X.P f nr g0)(i:∀b:Bool,(b=true->n<4)->ay X V q Stop M d (fin g (ik b)) w):ay X V q Stop M d g w:=
 .idle hc (aj a).1 λh _=>by
  by_cases c:n>=4
  .exact⟨_,h,#[],hb.step (v:=ik false) a (by rw[dv,if_pos c];rfl) (by rw[dv,if_pos c];rfl) ar,rfl,rfl,h7 _,rfl,ar,(aj a).2.2 _,i _ ar⟩
  .exact⟨_,h.asked,#[],hb.step (v:=ik h.spins) a (by rw[dv,if_neg c];rfl) (by rw[dv,if_neg c];rfl) ar,rfl,rfl,h7 _,rfl,ar,(aj a).2.2 _,i _ (λ_=>ab)⟩
def ay.nothing(hc:Clear X V M)(a:az g=some (f,args))(hb:cw X.P f nr g1)(b:ay X V q Stop M d (fin g (ih #[])) w):ay X V q Stop M d g w:=
 .idle hc (aj a).1 λc _=>⟨_,c,#[],hb.step (v:=ih #[]) a (by simp[g1,g6]) (by simp[g1]) ar,rfl,rfl,h7 _,rfl,ar,(aj a).2.2 _,b⟩
def ay.conv(hc:Clear X V M)(c:bF g=some o){src dst t:a8}{x:bT}(m:o.op=iP src dst x){a:aL}(n:g.frame.eval x=ii (some a))
 (hs:X.P.underlying src=some (.pointer t)) (hd:X.P.underlying dst=some .unsafePointer) (h:(X.P.info? t).map (λi=>decide (i.size=0))=some false)
 (hl:∀b,Rl X V M w b->∃v,b.cell? a=some v) (j:ay X V q Stop M d (fin g (ii (some a))) w):ay X V q Stop M d g w:=
 .idle hc (aK c).1 λb r=>by
  obtain⟨v,hv⟩:=hl b r;have e1:bR g.frame.eval o=(do let y<-convert src dst (ii (some a));pure (.value y)):=by
   unfold bR;grind
  have k:=run_convert_to_unsafe hs hd h hv;have l:=events_convert_to_unsafe hs hd h hv #[];refine⟨_,b,#[],?_,rfl,rfl,h7 _,rfl,ar,(aK c).2.2 _,j⟩;rw[dF (v:=ii (some a)) (w':=b) c (by rw[e1];simp[k]),e1];simp[l,dx]
def xG{P:a7}{mn:Bool}(h:bF g=some o){t:a8}{x:bT}(a:o.op=iU t x){ad:aL}(b:g.frame.eval x=ii (some ad)){k:IntKind}{v:Int}(c:P.underlying t=some (.int k))(hc:w.cell? ad=some (h8 k v))(i:(P.funcs[g.frame.fn]?).any (·.norace)=true) :
 stepG P mn g w=gj (fin g (h8 k v)) w #[]:=by
 have j:(bR g.frame.eval o).run P w=.ok (.value (h8 k v)) w:=by
  unfold bR;simp only[a,b];simp[go_sem,hc,isAgg,cd c]
 have l:(bR g.frame.eval o).events P w #[]=#[⟨hV ad,false,false⟩]:=by
  unfold bR;simp only[a,b];simp[go_sem,hc,isAgg,cd c]
 rw[dF h j,l,seen_def,i];simp[seenStep]
def ay.ad2(hc:Clear X V M)(b:bF g=some o){t:a8}{x:bT}(c:o.op=iU t x){ad:aL}(h:g.frame.eval x=ii (some ad)){k:IntKind}(i:X.P.underlying t=some (.int k))(j:(X.P.funcs[g.frame.fn]?).any (·.norace)=true)
 (hl:∀a,Rl X V M w a->∃v,a.cell? ad=some (h8 k v)) (l:∀v,ay X V q Stop M d (fin g (h8 k v)) w):ay X V q Stop M d g w:=
 .idle hc (aK b).1 λa r=>by
  obtain⟨v,hv⟩:=hl a r;exact⟨_,a,#[],xG b c h i hv j,rfl,rfl,h7 _,rfl,ar,(aK b).2.2 _,l v⟩
end
section
variable {X:Fix}{V:Vw}{q:Bool}{Stop:Stp}{M:Own}{d:Nat}{g g':bj}{w w':aP}{es:Array bb}{B:Nat}
def Own.more(M:Own)(w w':aP):Own:=λb=>M b\/(w.heap.size<=b/\b<w'.heap.size)
theorem DF{a:aL}{wr:Bool}(c:M a.block)(f:a.block<B):jG X V M B ⟨hV a,wr,false⟩:=by
 refine⟨λx b=>?_,ar,f⟩;have e:(eT ⟨hV a,wr,false⟩).touch? = some ⟨hV a,wr,hJ⟩:=rfl;rw[e]at b;cases b;exact⟨rfl,hM ⟨rfl,hK (hK c)⟩⟩
def Pf{a:aL}{wr:Bool}(c:a.block=X.Tb)(f:V.row a.off)(h:a.block<B):jG X V M B ⟨hV a,wr,false⟩:=by
 refine⟨λx b=>?_,ar,h⟩;have e:(eT ⟨hV a,wr,false⟩).touch? = some ⟨hV a,wr,hJ⟩:=rfl;rw[e]at b;cases b;exact⟨rfl,hM ⟨rfl,hK (hM ⟨c,f⟩)⟩⟩
def DG{b:Nat}{wr:Bool}(hb:M b)(c:b<B):jG X V M B ⟨hX b,wr,false⟩:=by
 have e:(eT ⟨hX b,wr,false⟩).touch? = some ⟨hX b,wr,hJ⟩:=by cases wr<;>rfl
 have l:(eT ⟨hX b,wr,false⟩).low B:=by cases wr<;>exact c
 refine⟨λx a=>?_,ar,l⟩;rw[e]at a;cases a;exact⟨rfl,hM ⟨rfl,hK hb⟩⟩
theorem Ub{a:aL}(c:V.st a.block)(hs:¬X.Shun (hV a))(f:a.block<B):jG X V M B ⟨hV a,false,false⟩:=by
 refine⟨λx b=>?_,ar,f⟩;have e:(eT ⟨hV a,false,false⟩).touch? = some ⟨hV a,false,hJ⟩:=rfl;rw[e]at b;cases b;exact⟨rfl,hM ⟨rfl,hM ⟨⟨hs,c⟩,rfl⟩⟩⟩
def ay.own(hc:Clear X V M)(hs:g.status=hZ)(hl:Live X w)
 (h:∀a,Rl X V M w a->∃g' w' es,stepG X.P (V.g==0) g a=gj g' w' es/\w'.tape=a.tape/\w'.output=a.output/\eQ a.os w'.os/\a.heap.size<=w'.heap.size/\(∀b,b<a.heap.size->¬M b->w'.heap[b]?=a.heap[b]?)/\
   (∀e∈es,jG X V (M.more a w') w'.heap.size e)/\g'.status=hZ/\ay X V false Stop (M.more a w') (bi d es) g' w'):ay X V false Stop M d g w:=
 .step hs λa r=>by
  obtain⟨g',w',es,l,m,n,p,s,f,t,u,v⟩:=h a r;have i:∀{b:Nat}{o:Obj},a.heap[b]?=some o->b<a.heap.size:=λh=>(Array.getElem?_eq_some_iff.1 h).1;obtain⟨⟨_,_,v1⟩,⟨_,_,x⟩,c,y,z⟩:=r.live hl;have no:∀b,(b=X.Mu\/b=X.Wg\/b=X.Tb)->¬M b:=λb hb j=>by
   have:=hc.own b j
   rcases hb with rfl|rfl|rfl
   .exact this.1 rfl
   .exact this.2.1 rfl
   .exact this.2.2 rfl
  have k:=f X.Tb (i y) (no _ (hM (hM rfl)))
  refine⟨g',w',es,_,_,l,⟨m,n,p,s,λb hb j _ _ _=>f b hb j,λc h=>⟨c,by rw[k];exact h,rfl⟩,λo _=>by simp only[e9,k],ar,λb=>fp,t,ar,rfl⟩,
   ⟨f _ (i v1) (no _ (hK rfl)),f _ (i x) (no _ (hM (hK rfl)))⟩,u,v⟩
end
end Go.Ph
namespace Go.Ph
open Go.Conc Go.ConcN
section
variable {P:a7}{mn:Bool}{w w':aP}{g:bj}{o:bM}{t:a8}{x:bT}{a:aL}{v:a9}
def uu{ev:bT->a9}(b:o.op=iU t x)(c:ev x=ii (some a)):bR ev o=(do pure (.value (<-ce t a)):Sem bm):=by
 unfold bR;simp only[b,c];rfl
def GO(b:bF g=some o)(c:o.op=iU t x)(f:g.frame.eval x=ii (some a))(h:(ce t a).run P w=.ok v w) :
 ∃es,stepG P mn g w=gj (fin g v) w es/\∀e∈es,e∈(ce t a).events P w #[]:=by
 have e1:=uu c f;refine⟨_,dF (v:=v) (w':=w) b (by rw[e1];simp[h]),λe i=>?_⟩;have:=dC i;simp_all
theorem mV{es:Array bb}(d:Nat)(h:∀e∈es,(∃a wr,e=⟨hV a,wr,false⟩)\/∃b wr,e=⟨hX b,wr,false⟩):bi d es=d:=by
 unfold bi;rw[<-f1];have:∀e∈es.toList,(∃a wr,e=⟨hV a,wr,false⟩)\/∃b wr,e=⟨hX b,wr,false⟩:=λe c=>h e (Array.mem_toList_iff.1 c);generalize es.toList=l at this
 induction l generalizing d with
 |nil=>rfl
 |cons e l f=>
  rw[d8]
  rcases this e ar with⟨a,wr,rfl⟩|⟨b,wr,rfl⟩<;>grind
variable {X:Fix}{V:Vw}{Stop:Stp}{M:Own}{d:Nat}
def pU(M:Own)(w:aP):M.more w w=M:=by
 funext b;unfold Own.more;grind
def ay.load(hc:Clear X V M)(hl:Live X w)(f:bF g=some o)(i:o.op=iU t x)(j:g.frame.eval x=ii (some a))
 (h:∀b,Rl X V M w b->(ce t a).run X.P b=.ok v b/\a.block<b.heap.size/\∀e∈(ce t a).events X.P b #[],∃a':aL,a'.block=a.block/\e=⟨hV a',false,false⟩)
 (q:(V.st a.block/\∀a':aL,a'.block=a.block->¬X.Shun (hV a'))\/M a.block) (k:ay X V false Stop M d (fin g v) w):ay X V false Stop M d g w:=
 .own hc (aK f).1 hl λb r=>by
  obtain⟨l,s,m⟩:=h b r;obtain⟨es,e1,n⟩:=GO (P:=X.P) (mn:=V.g==0) f i j l;have p:∀e∈es,∃a':aL,a'.block=a.block/\e=⟨hV a',false,false⟩:=λe c=>m e (n e c);refine⟨_,b,es,e1,rfl,rfl,h7 _,eg _,λ_ _ _=>rfl,λe c=>?_,(aK f).2.2 _,?_⟩
  .obtain⟨a',k1,rfl⟩:=p e c;rw[pU];grind[Ub,DF]
  .rw[pU,mV d λe c=>aS];exact k.rely r
end
open Go.bJ
open Go.ConcM (MuAt muA msA OsLater muBlock)
open Go.ConcR (KK WgAt stA smA rd wr mk)
structure StO(V:Vw)(M:Own)(Bs:Nat)(ρ:Ren):Prop where
 st:∀a b,ρ a b->a<Bs->V.st b\/M b
 own:∀a b,ρ a b->Bs<=a->M b
section
variable {T:Tables}{fB fA:Array ca}{F:bv->Bool}{Z:a8->Bool}{X:Fix}{V:Vw}{M:Own}{Bs:Nat}{wL wL1 w w1:aP}{ρ aJ:Ren}{newL new:Array bb}
def GY(hc:Clear X V M)(k:StO V M Bs ρ)(I:GV T F Z Bs ρ wL w)(hs:cI Bs T.globals.size F (codeOk T F Z) ρ wL w aJ wL1 w1 new)(P:fK aJ newL.toList new.toList)
 (Q:∀a,a<Bs->wL1.heap[a]?=wL.heap[a]?) (t:∀e∈newL,¬BQ Bs e)
 (u:X.Mu<w.heap.size) (v:X.Wg<w.heap.size) (y:X.Tb<w.heap.size) (d:Nat) :
 let M':Own:=λb=>M b\/(w.heap.size<=b/\b<w1.heap.size)
 Dl X V false M d w w1 new M' (bi d new)/\L3 X w w1/\StO V M' Bs aJ:=by
 intro M';have z:∀b,(b=X.Mu\/b=X.Wg\/b=X.Tb)->∀a,¬ρ a b:=by
  intro b hb a h;have:jm X b:=by
   rcases ea a Bs with f|f
   .exact(k.st a b h f).elim (hc.st b) (hc.own b)
   .exact hc.own b (k.own a b h f)
  rcases hb with rfl|rfl|rfl
  .exact this.1 rfl
  .exact this.2.1 rfl
  .exact this.2.2 rfl
 have fr:∀b,b<w.heap.size->¬M b->w1.heap[b]?=w.heap[b]?:=by
  intro b hb A;by_cases h:∃a,ρ a b
  .obtain⟨a,h⟩:=h;have g:a<Bs:=Nat.lt_of_not_le λf=>A (k.own a b h f);obtain⟨o,o1,J,K,R⟩:=hs.keep a b h g;obtain⟨p,p',k1,k2,k3⟩:=I.wr.low h g;obtain⟨q,q',L,N,S⟩:=hs.wr.low (hs.le h) g;rw[J]at k2;cases k2;rw[K]at N;cases N;rw[Q a g,k1]at L;cases L;rw[J,K]
   cases R with
   |cells=>
    cases k3 with
    |cells=>cases S;rfl
    |acn _ _ U=>exact absurd rfl (U _ _ _)
   |loop=>rfl
   |same=>rfl
  .exact hs.frame b hb λa g=>h ⟨a,g⟩
 have B:w1.heap[X.Mu]?=w.heap[X.Mu]?:=hs.frame _ u (z _ (hK rfl));have C:w1.heap[X.Wg]?=w.heap[X.Wg]?:=hs.frame _ v (z _ (hM (hK rfl)));have l:w1.heap[X.Tb]?=w.heap[X.Tb]?:=hs.frame _ y (z _ (hM (hM rfl)));have j:StO V M' Bs aJ:=by
  refine⟨λa b h g=>?_,λa b h g=>?_⟩
  .rcases hs.only a b h with h|⟨h,_⟩
   .exact(k.st a b h g).imp id hK
   .have:=I.wr.base;omega
  .rcases hs.only a b h with n|⟨_,n⟩
   .exact hK (k.own a b n g)
   .exact hM ⟨n,(hs.wr.lt h).2⟩
 refine⟨⟨hs.wH,hs.mK,by rw[hs.XV];exact h7 _,hs.fV,λb hb A _ _ _=>fr b hb A,λc h=>⟨c,by rw[l];exact h,rfl⟩,λo _=>by simp only[e9,l],ar,λb=>fp,λe' n=>?_,ar,rfl⟩,⟨B,C⟩,j⟩;obtain⟨e,f,W⟩:=P.mem (Array.mem_toList_iff.2 n);have f:=t e (Array.mem_toList_iff.1 f)
 cases W with
 |@cell a O h i=>
  have D:=(hs.wr.lt h.1).2;have hb:Bs<=a.block:=eb f;refine⟨λx s=>?_,ar,D⟩;rw[show(eT ⟨hV O,i,false⟩).touch? = some ⟨hV O,i,hJ⟩from rfl]at s;cases s;exact⟨rfl,hM ⟨rfl,hK (hK (j.own _ _ h.1 hb))⟩⟩
 |@obj r E h i=>
  have D:=(hs.wr.lt h).2;have hb:Bs<=r:=eb f;have Y:(eT ⟨hX E,i,false⟩).touch? = some ⟨hX E,i,hJ⟩:=by cases i<;>rfl
  have t:(eT ⟨hX E,i,false⟩).low w1.heap.size:=by cases i<;>exact D
  refine⟨λx s=>?_,ar,t⟩;rw[Y]at s;cases s;exact⟨rfl,hM ⟨rfl,hK (j.own _ _ h hb)⟩⟩
 |mark m H=>
  have H:m=.noRoom:=H;subst H;exact uq rfl (bs) trivial
end
end Go.Ph
namespace Go.Ph
open Go.Conc Go.ConcN Go.bJ
open Go.ConcM (MuAt muA msA OsLater muBlock)
def Lone(P:a7)(bot:cf)(Bs:Nat):Nat->bj->aP->bj->aP->Prop
 |0,g,w,b,w2=>g=b/\w=w2
 |n+1,g,w,b,w2=>∃c w1 es,(∀f d,stepG P true g (fb w f d)=gj c (fb w1 f d) es)/\(∀a,a<Bs->w1.heap[a]?=w.heap[a]?)/\(∀e∈es,¬BQ Bs e)/\c.status=hZ/\
  (g.frame.mode≠ip->g.frame.defers=[]->g.callers≠[bot])/\Lone P bot Bs n c w1 b w2
def mX{ρ:Ren}:∀{l l':List bb}(d:Nat),fK ρ l l'->l'.foldl (λd e=>match e.loc with | hY .disable=>d+1 | hY .enable=>d-1|_=>d) d=d
 |[],_,d,h=>by cases h;rfl
 |_::_,_,d,h=>by
  cases h with
  |cons c a=>
   simp only[d8]
   cases c with
   |cell=>exact mX d a
   |obj=>exact mX d a
   |mark m b=>
    have b:m=.noRoom:=b;subst b;exact mX d a
def DN{ρ:Ren}{es a:Array bb}(d:Nat)(h:fK ρ es.toList a.toList):bi d a=d:=by
 unfold bi;rw[<-f1];exact mX d h
section
variable {T:Tables}{fB fA:Array ca}{F:bv->Bool}{Z:a8->Bool}{X:Fix}{V:Vw}{Stop:Stp}{Bs:Nat}{bot:cf}{up:List cf}
structure iG(T:Tables)(fB fA:Array ca)(F:bv->Bool)(Z:a8->Bool)(bot:cf)(up:List cf)(X:Fix)(V:Vw)(Bs:Nat)(ρ:Ren)(M:Own)(g:bj)(wL:aP)(g':bj)(w:aP):Prop where
 inj:ρ.bw T.globals.size
 wr:WC Bs T.globals.size F (codeOk T F Z) ρ wL w
 g:GC T fB fA F Z bot up ρ g g'
 own:StO V M Bs ρ
 clear:Clear X V M
 sG:∀b,V.st b->b<w.heap.size/\¬M b
structure qw(X:Fix)(V:Vw)(Bs:Nat)(ρ:Ren)(M:Own)(w w2:aP):Prop where
 size:w.heap.size<=w2.heap.size
 st:∀b,V.st b->w2.heap[b]?=w.heap[b]?
 own:∀b,M b->b<w.heap.size->(∀a,¬ρ a b)->w2.heap[b]?=w.heap[b]?
 row:∀o,V.row o->w2.cell? ⟨X.Tb,o,none⟩=w.cell? ⟨X.Tb,o,none⟩
 low:∀a b,ρ a b->a<Bs->w2.heap[b]?=w.heap[b]?
def qw.refl(V:Vw)(ρ:Ren)(M:Own)(w:aP):qw X V Bs ρ M w w:=⟨eg _,λ_ _=>rfl,λ_ _ _ _=>rfl,λ_ _=>rfl,λ_ _ _ _=>rfl⟩
def qw.ad4{ρ:Ren}{M:Own}{w c:aP}(d:StO V M Bs ρ)(r:Rl X V M w c):qw X V Bs ρ M w c:=⟨r.size,r.st,λb hb _ _=>r.own b hb,r.row,λa b h e=>(d.st a b h e).elim (r.st b) (r.own b)⟩
def qw.trans{ρ c:Ren}{M e:Own}{w w1 w2:aP}(h:qw X V Bs ρ M w w1)(j:∀b,M b->e b)(l:∀a b,c a b->ρ a b\/w.heap.size<=b)(d:ρ.le c)(k:qw X V Bs c e w1 w2):qw X V Bs ρ M w w2:=
 ⟨eh h.size k.size,λb hb=>(k.st b hb).trans (h.st b hb),λb hb hl m=>(k.own b (j b hb) (ek hl h.size) λa x=>by
   grind).trans (h.own b hb hl m),λo f=>(k.row o f).trans (h.row o f),λa b g i=>(k.low a b (d g) i).trans (h.low a b g i)⟩
def iG.wd{ρ:Ren}{M:Own}{g g':bj}{a w:aP}(h:iG T fB fA F Z bot up X V Bs ρ M g a g' w):GV T F Z Bs ρ (fb a w.tape w.drawn) w:=
 ⟨h.inj,⟨h.wr.pK,h.wr.gN,h.wr.base,h.wr.obj,h.wr.low⟩,rfl,rfl⟩
def iG.rely{ρ:Ren}{M:Own}{g g':bj}{j w k:aP}(h:iG T fB fA F Z bot up X V Bs ρ M g j g' w)(r:Rl X V M w k):iG T fB fA F Z bot up X V Bs ρ M g j g' k:=
 ⟨h.inj,⟨h.wr.pK,eh h.wr.gN r.size,h.wr.base,λ{a b}d hb=>by
   obtain⟨o,l,f,e,i⟩:=h.wr.obj d hb;exact⟨o,l,f,by rw[r.own b (h.own.own a b d hb)];exact e,i⟩,λ{a b}d hb=>by
   obtain⟨c,m,f,e,i⟩:=h.wr.low d hb;refine⟨c,m,f,?_,i⟩
   rcases h.own.st a b d hb with x|x
   .rw[r.st b x];exact e
   .rw[r.own b x];exact e⟩,h.g,h.own,h.clear,λb hb=>⟨ek (h.sG b hb).1 r.size,(h.sG b hb).2⟩⟩
def ay.lone(fit:zG T fB fA F Z)(hP:X.P=⟨T,fA⟩):∀(n:Nat){g:bj}{s:aP}{j:bj}{i:aP}{ρ:Ren}{M:Own}{d:Nat}{g':bj}{w:aP},Lone ⟨T,fB⟩ bot Bs n g s j i->iG T fB fA F Z bot up X V Bs ρ M g s g' w->Live X w->
 (∀t u B w2,iG T fB fA F Z bot up X V Bs t u j i B w2->Live X w2->(∀b,M b->u b)->(∀a b,ρ a b->t a b)->(∀a b,t a b->ρ a b\/(Bs<=a/\w.heap.size<=b))->qw X V Bs ρ M w w2->ay X V false Stop u d B w2)->ay X V false Stop M d g' w
 |0,g,s,j,i,ρ,M,d,g',w,h,hl,hv,k=>by
  obtain⟨rfl,rfl⟩:=h;exact k ρ M g' w hl hv (λ_ h=>h) (λ_ _ h=>h) (λ_ _ h=>hK h) (.refl _ _ _ _)
 |n+1,g,s,j,i,ρ,M,d,g',w,h,hl,hv,k=>by
  obtain⟨H,I,es,v,h2,h3,J,h4,h5⟩:=h;refine .step hl.g.st' λz r=>?_;have f:=hl.rely r;have K:=r.live hv;have st:=Mn (bot:=bot) (up:=up) (mn:=V.g==0) fit f.wd f.g h4;rw[v]at st
  rcases st with st|⟨e,he,qv⟩|st
  rotate_left
  .exact absurd qv (h3 e he)
  .exact absurd J st
  obtain⟨aJ,vY,l,aT,e,hs,kG,hg⟩:=st;have m:∀{b:Nat}{o:Obj},z.heap[b]?=some o->b<z.heap.size:=λh=>(Array.getElem?_eq_some_iff.1 h).1;obtain⟨⟨_,_,v1⟩,⟨_,_,L⟩,c,C,v4⟩:=K;obtain⟨a1,a2,a3⟩:=GY f.clear f.own f.wd hs kG h2 h3 (m v1) (m L) (m C) d
  have N:Live X l:=⟨⟨_,_,by unfold eP;rw[a2.1];exact v1⟩,⟨_,_,by unfold e8;rw[a2.2];exact L⟩,by
   obtain⟨c',k1,k2⟩:=a1.tb c C
   grind⟩
  rw[hP];refine⟨vY,l,aT,_,_,e,a1,a2,hg.st',?_⟩;rw[DN d kG]
  have YP:Clear X V (λb=>M b\/(z.heap.size<=b/\b<l.heap.size)):=⟨f.clear.ids,f.clear.st,λb hb=>by
   rcases hb with hb|hb
   .exact f.clear.own b hb
   .have:=m v1;have:=m L;have:=m C
    exact⟨ab,ab,ab⟩⟩
  have O:∀b,V.st b->b<l.heap.size/\¬(M b\/(z.heap.size<=b/\b<l.heap.size)):=λb hb=>by
   obtain⟨x,y⟩:=f.sG b hb;exact⟨ek x hs.fV,λh=>h.elim y λh=>ab⟩
  have Q:qw X V Bs ρ M z l:=⟨hs.fV,λb hb=>by
   obtain⟨x,y⟩:=f.sG b hb;have:=f.clear.st b hb;exact a1.block b x y this.1 this.2.1 this.2.2,λb hb hl R=>hs.frame b hl R,λo _=>by
   simp only[e9,hs.frame _ (m C) λa h=>by
    have:jm X X.Tb:=by
     rcases ea a Bs with v|v
     .exact(f.own.st a _ h v).elim (f.clear.st _) (f.clear.own _)
     .exact f.clear.own _ (f.own.own a _ h v)
    exact this.2.2 rfl],λa b S D=>by
   obtain⟨o,o1,H,j,g3⟩:=hs.keep a b S D;obtain⟨p,p',k1,k2,k3⟩:=f.wd.wr.low S D;obtain⟨q,q',U,E,W⟩:=hs.wr.low (hs.le S) D;rw[H]at k2;cases k2;rw[j]at E;cases E;have A:I.heap[a]?=some q:=U;have Y:s.heap[a]?=some p:=k1;rw[h2 a D,Y]at A;cases A;rw[H,j]
   cases g3 with
   |cells=>
    cases k3 with
    |cells=>cases W;rfl
    |acn _ _ R=>exact absurd rfl (R _ _ _)
   |loop=>rfl
   |same=>rfl⟩
  have ow:qw X V Bs ρ M w l:=(qw.ad4 hl.own r).trans (λ_ h=>h) (λ_ _ h=>hK h) (λ_ _ h=>h) Q;refine ay.lone fit hP n h5 ⟨hs.inj,⟨hs.wr.pK,hs.wr.gN,hs.wr.base,hs.wr.obj,hs.wr.low⟩,hg,a3,YP,O⟩ N λt u B w2 U E W j4 j5 j6=>?_;have only:∀a b,aJ a b->ρ a b\/(Bs<=a/\w.heap.size<=b):=λa b h=>(hs.only a b h).imp id λx=>⟨eh f.wr.base x.1,eh r.size x.2⟩
  refine k t u B w2 U E (λb hb=>W b (hK hb)) (λa b hab=>j4 a b (hs.le hab)) (λa b h=>?_) (ow.trans (λb hb=>hK hb) (λa b h=>(only a b h).imp id And.right) hs.le j6)
  rcases j5 a b h with h|h
  .exact only a b h
  .exact hM ⟨h.1,eh ow.size h.2⟩
end
end Go.Ph
namespace Go.Ph
open Go.Conc Go.ConcN Go.bJ
section
variable (P:a7)(Bs:Nat)(S:bj->Bool)
noncomputable def BR(g:bj)(w:aP):bj×aP:=match stepG P true g w with
 |gj a w1 _=>(a,w1)
 |_=>(g,w)
noncomputable def exL(g:bj)(w:aP):Array bb:=match stepG P true g w with
 |gj _ _ es=>es
 |_=>#[]
noncomputable def Jp:Nat->bj->aP->bj×aP
 |0,g,w=>(g,w)
 |n+1,g,w=>@fz (λ_=>bj×aP) (Jp n (BR P g w).1 (BR P g w).2) (g,w) (S g)
def hiE(Bs:Nat)(es:Array bb):Bool:=es.toList.all λe=>match e.loc with
 |hV a=>el Bs a.block
 |hX b=>el Bs b
 |_=>true
def BS(g:bj):Bool:=match g.frame.mode with
 |ip=>true
 |_=>!(g.frame.defers.isEmpty&&g.callers.length==1)
def Jq(g:bj):Bool:=match g.status with
 |hZ=>true
 |_=>false
noncomputable def DO(a:Tape)(d:Nat):Nat->bj->aP->List (bL×List Obj×Bool×Bool×Bool)
 |0,_,_=>[]
 |n+1,g,w=>@fz (λ_=>List (bL×List Obj×Bool×Bool×Bool)) ((stepG P true g (fb w a d),(BR P g w).2.heap.toList.take Bs,hiE Bs (exL P g w),Jq (BR P g w).1,BS g)::DO a d n (BR P g w).1 (BR P g w).2) [] (S g)
noncomputable def DQ(a:Tape)(d:Nat):Nat->bj->aP->List (bL×List Obj×Bool×Bool×Bool)
 |0,_,_=>[]
 |n+1,g,w=>@fz (λ_=>List (bL×List Obj×Bool×Bool×Bool)) ((gj (BR P g w).1 (fb (BR P g w).2 a d) (exL P g w),w.heap.toList.take Bs,true,true,true)::DQ a d n (BR P g w).1 (BR P g w).2) [] (S g)
end
def Uc{Bs:Nat}{es:Array bb}(h:hiE Bs es=true):∀e∈es,¬BQ Bs e:=by
 intro e c hl;simp only[hiE,dU]at h;have:=h e (Array.mem_toList_iff.2 c);obtain⟨loc,wr,d⟩:=e
 cases loc with
 |cell a=>exact absurd (em this) (Nat.not_le.2 hl)
 |obj b=>exact absurd (em this) (Nat.not_le.2 hl)
 |_=>exact hl
def Pm{g:bj}(h:Jq g=true):g.status=hZ:=by
 unfold Jq at h;grind
def Pn{P:a7}{Bs:Nat}{S:bj->Bool}(bot:cf):∀(n:Nat){g:bj}{w:aP},(∀b d,DO P Bs S b d n g w=DQ P Bs S b d n g w)->∃m,Lone P bot Bs m g w (Jp P S n g w).1 (Jp P S n g w).2
 |0,g,w,_=>⟨0,rfl,rfl⟩
 |n+1,g,w,h=>by
  cases c:S g with
  |true=>simp only[Jp,c];exact⟨0,rfl,rfl⟩
  |false=>
   simp only[Jp,c];have e:∀b d,stepG P true g (fb w b d)=gj (BR P g w).1 (fb (BR P g w).2 b d) (exL P g w)/\(BR P g w).2.heap.toList.take Bs=w.heap.toList.take Bs/\hiE Bs (exL P g w)=true/\Jq (BR P g w).1=true/\BS g=true/\
    DO P Bs S b d n (BR P g w).1 (BR P g w).2=DQ P Bs S b d n (BR P g w).1 (BR P g w).2:=λb d=>by
    have:=h b d;simp only[DO,DQ,c,f3,f5]at this;grind
   obtain⟨_,i,j,f,k,_⟩:=e w.tape 0;obtain⟨m,l⟩:=Pn bot n (λb d=>(e b d).2.2.2.2.2);refine⟨m+1,_,_,_,λb d=>(e b d).1,λa q=>?_,Uc j,Pm f,λo p r=>?_,l⟩
   .have:((BR P g w).2.heap.toList.take Bs)[a]?=(w.heap.toList.take Bs)[a]?:=by rw[i]
    grind
   .unfold BS at k;grind
section
variable {P:a7}{mn:Bool}{fr c:cf}{cs:List cf}{w:aP}{fn:ca}{v:a9}
def rB(a:fr.mode=iB)(b:fr.kind=f7)(hd:fr.defers=[])(hf:P.funcs[fr.fn]?=some fn)(e:(results fn fr.tmps).run P w=.ok v w)(g:(results fn fr.tmps).events P w #[]=#[]) :
 stepG P mn (G fr (c::cs)) w=gj (G (c.finish v) cs) w #[]:=by
 obtain⟨f,tmps,todo,defers,mode,kind,h⟩:=fr;simp only at a b hd hf e g;subst a b hd;simp[G,stepG,unwind,doReturn,hf,e,g,seen,gg]
variable {X:Fix}{V:Vw}{q:Bool}{Stop:Stp}{M:Own}{d:Nat}
def ay.leave1{t:Tmp}(hc:Clear X V M)(e:fr.mode=iB)(f:fr.kind=f7)(hd:fr.defers=[])(hf:X.P.funcs[fr.fn]?=some fn)(a:fn.results=#[.tmp t])
 (h:ay X V q Stop M d (G (c.finish (fr.tmps.getD t undef)) cs) w):ay X V q Stop M d (G fr (c::cs)) w:=
 .idle hc rfl λb _=>⟨_,b,#[],rB e f hd hf (results_tmp a _ X.P b) (events_results_tmp a _ _),rfl,rfl,h7 _,rfl,ar,rfl,h⟩
def ay.leave0(hc:Clear X V M)(e:fr.mode=iB)(f:fr.kind=f7)(hd:fr.defers=[])(hf:X.P.funcs[fr.fn]?=some fn)(a:fn.results=#[])
 (h:ay X V q Stop M d (G (c.finish (ih #[])) cs) w):ay X V q Stop M d (G fr (c::cs)) w:=
 .idle hc rfl λb _=>⟨_,b,#[],rB e f hd hf (results_none a _ X.P b) (events_results_none a _ _),rfl,rfl,h7 _,rfl,ar,rfl,h⟩
end
section
variable {P:a7}{mn:Bool}{w:aP}
def eval_const(fr:cf)(v:a9):fr.eval (.const v)=v:=rfl
def uw(fn:bv)(tmps:Array a9)(ps:Array Tmp)(assign body:Code)(b:Nat):Obj:=hw { state:=.ready,pending:=none,fn,tmps,params:=ps,assign,body,defers:=b }
def GZ{fn:bv}{tmps:Array a9}{f:bT}{ps:Array Tmp}{assign body:Code}{k:List ch}{defers:List ci}{kind:CallKind}{cs:List cf}{F:bv}{caps:Array a9}{fd:ca}
 (b:(kind==f6)=false) (hf:ge ⟨fn,tmps,iN (w.heap.size+1)::k,{ target:=i0 w.heap.size,args:=#[] }::defers,ip,kind,none⟩ f=ib (.func F) #[] caps)
 (hF:P.funcs[F]?=some fd) (hb:fd.body.isSome=true) (a:fd.name≠ "runtime.NumGoroutine") :
 stepG P mn (G ⟨fn,tmps,.code (.rangeFunc f ps assign body)::k,defers,ip,kind,none⟩ cs) w =
  gj (G (gf P F (#[ib (.yield (w.heap.size+1)) #[] #[]]++caps) f7) (⟨fn,tmps,iN (w.heap.size+1)::k,{ target:=i0 w.heap.size,args:=#[] }::defers,ip,kind,none⟩::cs))
   ((w.alloc (hz (some []))).alloc (uw fn tmps ps assign body w.heap.size)) #[]:=by
 have c:(Instr.enterLoop fn tmps ps assign body none).runT P w #[]=(.ok (w.heap.size+1,[{ target:=i0 w.heap.size,args:=#[] }]) ((w.alloc (hz (some []))).alloc (uw fn tmps ps assign body w.heap.size)),#[]):=by
  refine fo ?_ ?_
  .rw[gp,run_enterLoop_outer];rfl
  .rfl
 have g:fd.body.isNone=false:=bo;have h:(fd.name == "runtime.NumGoroutine")=false:=by simpa using a
 have e:∀w2,(do let d<-b8 (ge ⟨fn,tmps,iN (w.heap.size+1)::k,{ target:=i0 w.heap.size,args:=#[] }::defers,ip,kind,none⟩) { callee:=.value f,args:=#[.const (ib (.yield (w.heap.size+1)) #[] #[])],argTypes:=#[] } 0;b9 d.target d.args:Sem bm).runT P w2 #[]=(.ok (.enter F (#[ib (.yield (w.heap.size+1)) #[] #[]]++caps)) w2,#[]):=by
  intro w2;have e1:(do let d<-b8 (ge ⟨fn,tmps,iN (w.heap.size+1)::k,{ target:=i0 w.heap.size,args:=#[] }::defers,ip,kind,none⟩) { callee:=.value f,args:=#[.const (ib (.yield (w.heap.size+1)) #[] #[])],argTypes:=#[] } 0;b9 d.target d.args:Sem bm)=b1 F (#[ib (.yield (w.heap.size+1)) #[] #[]]++caps):=by
   simp[b8,hf,gy,b9,eval_const]
  rw[e1];obtain⟨kk,c1,i⟩:=uf (T:=P.toTables) hF hb a (#[ib (.yield (w.heap.size+1)) #[] #[]]++caps);rw[c1];show(kk P).runT P w2 #[]=_;simp_all
 simp only[G,stepG,gc,c];simp only[List.cons_append,List.nil_append];unfold f8;simp only[if_true,e,b,ft,if_false,gg,dx];simp[gf]
end
section
variable {P:a7}{mn:Bool}{w:aP}{g:bj}{o:bM}
def G3{x:bT}{xs:Array bT}{ts:Array a8}{l:Nat}{r:Loop}(c:bF g=some o)(f:o.op=.call { callee:=.value x,args:=xs,argTypes:=ts })(h:g.frame.eval x=ib (.yield l) #[] #[])
 (hl:w.heap[l]?=some (hw r)) (hs:xs.size=r.params.size) :
 ∃es,stepG P mn g w=gj (G (Frame.round l r.fn ((r.params.zip (xs.map g.frame.eval)).foldl (λtmps(t,a)=>tmps.setIfInBounds t a) r.tmps) r.assign r.body f7) (g.frame::g.callers)) w es/\∀e∈es,e=⟨hX l,false,false⟩:=by
 have e1:bR g.frame.eval o=g9 l (xs.map g.frame.eval):=by
  unfold bR;simp[f,b8,h,gy,b9]
 have j:=run_yield (P:=P) (args:=xs.map g.frame.eval) hl (by simpa using hs);rw[lV c];have b:(g9 l (xs.map g.frame.eval)).runT P w #[]=(.ok (.round l r.fn ((r.params.zip (xs.map g.frame.eval)).foldl (λtmps(t,a)=>tmps.setIfInBounds t a) r.tmps) r.assign r.body) w,#[⟨hX l,false,false⟩]):=by
  refine fo ?_ ?_
  .rw[gp];exact j
  .have m:¬((xs.map g.frame.eval).size≠r.params.size):=by simpa using hs
   have n:∀{p:Type}(k:Obj->Sem p)(es:Array bb),(gr l k).runT P w es=(k (hw r)).runT P w (es.push ⟨hX l,false,false⟩):=λk es=>by simp only[gt,hl,ht]
   show((gr l _).runT P w #[]).2=_;rw[n];show((if(xs.map g.frame.eval).size≠r.params.size then _ else _:Sem bm).runT P w _).2=_;rw[if_neg m];rfl
 obtain⟨fn,tmps,ops,i,d,k,defers,kind,u,cs,rfl,q,v,y,z⟩:=gF c;unfold f8;rw[e1];simp only[if_true,b,gg];simp only[q,ft,if_false,f2];exact⟨seen P fn #[⟨hX l,false,false⟩],rfl,λe s=>by simpa using Conc.mem_seen (P:=P) (fn:=fn) s⟩
end
section
variable {P:a7}{mn:Bool}{w w':aP}{g:bj}{o:bM}{t:a8}{x y ix:bT}{b off:Nat}{v:a9}
def jY{i:TypeInfo}{z:a9}(d:bF g=some o)(e:o.op=.alloc t)(hi:P.info? t=some i)(a:i.zero=some z) :
 stepG P mn g w=gj (fin g (ii (some ⟨w.heap.size,0,none⟩))) (w.alloc (hu z.cells t)) #[]:=by
 have e1:bR g.frame.eval o=(do pure (.value (<-ha t true (ih #[]))):Sem bm):=by
  unfold bR;simp only[e]
 have c:(ha t true (ih #[])).run P w=.ok (ii (some ⟨w.heap.size,0,none⟩)) (w.alloc (hu z.cells t)):=by
  simp[ha,zeroValue,cl,hi,a,newVar,newRow]
 have f:(ha t true (ih #[])).events P w #[]=#[]:=by
  simp[ha,zeroValue,cl,hi,a,newVar,newRow]
 rw[dF (v:=ii (some ⟨w.heap.size,0,none⟩)) (w':=w.alloc (hu z.cells t)) d (by rw[e1];simp[c]),e1];simp[c,f,dx]
def oR(g o:Nat)(t:a8):∀(vs:List a9)(i:Nat)(cur:Array a9)(w:aP)(es:Array bb),w.heap[g]?=some (hu cur t (0,0))->o+i+vs.length<=cur.size->(∀v∈vs,v.oneCell'=true)->
 ∀ev∈(cm ⟨g,o,none⟩ vs i).events P w es,ev∈es\/∃j,j<i+vs.length/\ev=⟨hV ⟨g,o+j,none⟩,true,false⟩
 |[],_,_,_,_,_,_,_=>λev h=>hK (by simpa[cm]using h)
 |v::a,i,cur,w,es,hg,hl,c=>λev h=>by
  have hi:o+i<cur.size:=by simp at hl;omega
  have d:(⟨g,o,none⟩:aL).add i=⟨g,o+i,none⟩:=by unfold Addr.add;split<;>simp_all
  have hcell:w.cell? ⟨g,o+i,none⟩=some cur[o+i]:=by simp[e9,hg,hi]
  have e:w.frozen? ⟨g,o+i,none⟩=false:=by simp[World.frozen?,hg]
  have f:(store ((⟨g,o,none⟩:aL).add i) v).run P w=.ok () (w.setRow g (cur.setIfInBounds (o+i) v)):=by
   grind[Go.run_store,setCell_eq_setRow]
  have k:(store ((⟨g,o,none⟩:aL).add i) v).events P w es=es.push ⟨hV ⟨g,o+i,none⟩,true,false⟩:=by
   rw[d,events_store P w es _ v _ (c v ar),hcell];grind
  simp only[cm,Sem.events_bind,f,Result.evThen_ok,k]at h
  rcases oR g o t a (i+1) (cur.setIfInBounds (o+i) v) (w.setRow g (cur.setIfInBounds (o+i) v)) _ (co w g cur _ t _ hg) (by simp at hl ⊢;omega) (λx l=>c x (by simp[l])) ev h with h|⟨j,m,h⟩
  .grind
  grind
def putRow(cur:Array a9)(off:Nat)(vs:Array a9):Array a9:=(cur.toList.take off++vs.toList++cur.toList.drop (off+vs.size)).toArray
theorem vj{cur vs:Array a9}{off:Nat}(h:off+vs.size<=cur.size):(putRow cur off vs).size=cur.size:=by
 simp[putRow];omega
def Mo{cur vs:Array a9}{off j:Nat}(h:off+vs.size<=cur.size)(a:j<vs.size):(putRow cur off vs)[off+j]?=vs[j]?:=by
 simp only[putRow,d9];grind
theorem G4{cur vs:Array a9}{off j:Nat}(h:off+vs.size<=cur.size)(a:j<off\/off+vs.size<=j):(putRow cur off vs)[j]?=cur[j]?:=by
 simp only[putRow,d9];grind
def rC{ty:a8}{cur:Array a9}(l:bF g=some o)(m:o.op=iY t x y)(n:g.frame.eval x=ii (some ⟨b,off,none⟩))(hy:g.frame.eval y=v)
 (hb:w.heap[b]?=some (hu cur ty (0,0))) (hs:(P.info? t).map (·.size)=some v.cells.size) (hl:off+v.cells.size<=cur.size) (d:∀c∈v.cells,c.oneCell'=true) :
 ∃es,stepG P mn g w=gj (fin g undef) (w.setRow b (putRow cur off v.cells)) es/\∀e∈es,∃j,j<v.cells.size/\e=⟨hV ⟨b,off+j,none⟩,true,false⟩:=by
 have e1:bR g.frame.eval o=(do cq t ⟨b,off,none⟩ v;pure .skip:Sem bm):=by
  unfold bR;simp only[m,n,hy,Instr.storeAt,Instr.sureAddr];rfl
 cases a:P.info? t with
 |none=>simp[a]at hs
 |some i=>
  have f:i.size=v.cells.size:=by simpa[a]using hs
  have k:=run_storeCells_at P b off ty v.cells.toList 0 cur w hb (by simpa using hl) (λc hc=>d c (by simpa using hc));have p:(cq t ⟨b,off,none⟩ v).run P w=.ok () (w.setRow b (putRow cur off v.cells)):=by
   simp[cq,ct,cl,a,f,k,putRow]
  refine⟨_,Me (w':=w.setRow b (putRow cur off v.cells)) l (by rw[e1];simp[p]),λe q=>?_⟩;have:=dC q;rw[e1]at this;have r:e∈(cq t ⟨b,off,none⟩ v).events P w #[]:=bo;have s:e∈(cm ⟨b,off,none⟩ v.cells.toList 0).events P w #[]:=by simpa[cq,ct,cl,a,f,k]using r
  rcases oR b off ty v.cells.toList 0 cur w #[] hb (by simpa using hl) (λc hc=>d c (by simpa using hc)) e s with h|⟨j,u,h⟩
  .simp at h
  grind
def xH{elem:a8}{n c:Nat}{k:IntKind}{i:Int}{a:aL}{d:Nat}(q:bF g=some o)(r:o.op=.indexAddr t x ix)(s:g.frame.eval x=il (some a) n c)(hi:g.frame.eval ix=h8 k i)
 (h:P.underlying t=some (.slice elem)) (hs:(P.info? elem).map (·.size)=some d) (j:0<=i) (l:i<n) :
 stepG P mn g w=gj (fin g (ii (some (a.add (i.toNat*d))))) w #[]:=by
 have e1:bR g.frame.eval o=(do pure (.value (<-hh t (il (some a) n c) (h8 k i))):Sem bm):=by
  unfold bR;simp only[r,s,hi]
 cases e:P.info? elem with
 |none=>simp[e]at hs
 |some f=>
  have m:f.size=d:=by simpa[e]using hs
  have p:(hh t (il (some a) n c) (h8 k i)).run P w=.ok (ii (some (a.add (i.toNat*d)))) w:=by
   simp[hh,asIntOf,cd h,j,l,ct,cl,e,m]
  have u:(hh t (il (some a) n c) (h8 k i)).events P w #[]=#[]:=by
   simp[hh,asIntOf,cd h,j,l,ct,cl,e,m]
  rw[dF (v:=ii (some (a.add (i.toNat*d)))) (w':=w) q (by rw[e1];simp[p]),e1];simp[p,u,dx]
end
section
variable {P:a7}{mn:Bool}{w:aP}{l:Nat}{r:Loop}
def rE{a:Type}(h:w.heap[l]?=some (hw r))(k:Obj->Sem a)(es:Array bb):(gr l k).runT P w es=(k (hw r)).runT P w (es.push ⟨hX l,false,false⟩):=by
 simp only[gt,h,ht]
def rF{c:Type}(h:w.heap[l]?=some (hw r))(a:Loop)(k:Sem c)(es:Array bb):(gw l (hw a) k).runT P w es=k.runT P (w.putObj l (hw a)) (es.push ⟨hX l,true,false⟩):=by
 simp only[gt,h,ht,fg]
def wz{a b:bb}:∀e∈(#[a,b]:Array bb),e=a\/e=b:=λe c=>by simpa using c
variable {fn:bv}{tmps:Array a9}{k:List ch}{defers:List ci}{kind:CallKind}{ro:Option Nat}{cs:List cf}
def G5(h:w.heap[l]?=some (hw r))(a:r.state=.ready)(c:(kind==f6)=false) :
 ∃es,stepG P mn (G ⟨fn,tmps,.beginRound::k,defers,ip,kind,some l⟩ cs) w=gj (G ⟨fn,tmps,k,defers,ip,kind,some l⟩ cs) (w.putObj l (hw { r with state:=.busy })) es/\∀e∈es,∃wr,e=⟨hX l,wr,false⟩:=by
 have e1:(do Instr.beginRound l;pure .skip:Sem bm).runT P w #[]=(.ok .skip (w.putObj l (hw { r with state:=.busy })),#[⟨hX l,false,false⟩,⟨hX l,true,false⟩]):=by
  show((gr l _).runT P w #[])=_;rw[rE h];show((gw l (hw { r with state:=.busy }) _).runT P w _)=_;rw[rF h];simp only[a];rfl
 refine⟨seen P fn #[⟨hX l,false,false⟩,⟨hX l,true,false⟩],?_,λe f=>?_⟩
 .simp only[G,stepG,gc];unfold f8;simp only[Option.elim,e1,if_true,c,ft,if_false,gg,Frame.finish,f2]
 .rcases wz e (dC f) with rfl|rfl
  .exact⟨_,rfl⟩
  .exact⟨_,rfl⟩
def zH{c:cf}(h:w.heap[l]?=some (hw r)) :
 ∃es,stepG P mn (G ⟨fn,tmps,[],defers,ip,f7,some l⟩ (c::cs)) w=gj (G (c.finish (ik true)) cs) (w.putObj l (hw { r with state:=.ready,pending:=none })) es/\∀e∈es,∃wr,e=⟨hX l,wr,false⟩:=by
 have e1:(Instr.endRound l none).runT P w #[]=(.ok (ik true) (w.putObj l (hw { r with state:=.ready,pending:=none })),#[⟨hX l,false,false⟩,⟨hX l,true,false⟩]):=by
  show((gr l _).runT P w #[])=_;rw[rE h];show((gw l (hw { r with state:=.ready,pending:=none }) _).runT P w _)=_;rw[rF h];rfl
 refine⟨seen P fn #[⟨hX l,false,false⟩,⟨hX l,true,false⟩],?_,λe a=>?_⟩
 .simp only[G,stepG,gc,e1,doReturn,gg,f2]
 .rcases wz e (dC a) with rfl|rfl
  .exact⟨_,rfl⟩
  .exact⟨_,rfl⟩
def BT(h:w.heap[l]?=some (hw r))(hb:r.state=.ready)(a:r.pending=none) :
 ∃es,stepG P mn (G ⟨fn,tmps,.endRangeFunc l::k,defers,ip,kind,ro⟩ cs) w=gj (G ⟨fn,tmps,k,defers,ip,kind,ro⟩ cs) (w.putObj l (hw { r with state:=.exhausted })) es/\∀e∈es,∃wr,e=⟨hX l,wr,false⟩:=by
 have e1:(Instr.endLoop l).runT P w #[]=(.ok none (w.putObj l (hw { r with state:=.exhausted })),#[⟨hX l,false,false⟩,⟨hX l,true,false⟩]):=by
  show((gr l _).runT P w #[])=_;rw[rE h];obtain⟨st,f,a1,a2,a3,a4,i,j⟩:=r;simp only at hb a;subst hb a;show((gw l (hw _) _).runT P w _)=_;rw[rF h];rfl
 refine⟨seen P fn #[⟨hX l,false,false⟩,⟨hX l,true,false⟩],?_,λe c=>?_⟩
 .simp only[G,stepG,gc,e1,gg,f2];rfl
 .rcases wz e (dC c) with rfl|rfl
  .exact⟨_,rfl⟩
  .exact⟨_,rfl⟩
def step_take{b:Nat}{ds:List ci}{a:Array a9}(h:w.heap[b]?=some (hz (some []))) :
 ∃es,stepG P mn (G ⟨fn,tmps,k,{ target:=i0 b,args:=a }::ds,iB,kind,ro⟩ cs) w=gj (G ⟨fn,tmps,k,ds,iB,kind,ro⟩ cs) (w.putObj b (hz none)) es/\∀e∈es,∃wr,e=⟨hX b,wr,false⟩:=by
 have e1:(Instr.takeDeferred b).runT P w #[]=(.ok [] (w.putObj b (hz none)),#[⟨hX b,false,false⟩,⟨hX b,true,false⟩]):=by
  show((gr b _).runT P w #[])=_;simp only[gt,h,ht];show((gw b (hz none) _).runT P w _)=_;simp only[gt,h,ht,fg];rfl
 refine⟨seen P fn #[⟨hX b,false,false⟩,⟨hX b,true,false⟩],?_,λe c=>?_⟩
 .simp only[G,stepG,unwind,e1,gg,f2];rfl
 .rcases wz e (dC c) with rfl|rfl
  .exact⟨_,rfl⟩
  .exact⟨_,rfl⟩
end
section
variable {X:Fix}{V:Vw}{Stop:Stp}{M:Own}{d:Nat}{w:aP}{g g':bj}{b:Nat}{o':Obj}
def Am{es:Array bb}{b:Nat}(d:Nat)(h:∀e∈es,∃wr,e=(⟨hX b,wr,false⟩:bb)):bi d es=d:=mV d λe a=>by
 grind
def ay.rec(hc:Clear X V M)(hs:g.status=hZ)(hl:Live X w)(hb:M b)(i:b<w.heap.size)
 (h:∀a,Rl X V M w a->∃es,stepG X.P (V.g==0) g a=gj g' (a.putObj b o') es/\∀e∈es,∃wr,e=⟨hX b,wr,false⟩) (j:g'.status=hZ)
 (m:∀a,Rl X V M w a->ay X V false Stop M d g' (a.putObj b o')):ay X V false Stop M d g w:=
 .own hc hs hl λa r=>by
  obtain⟨es,n,c⟩:=h a r;have f:M.more a (a.putObj b o')=M:=by
   funext x;unfold Own.more;grind[World.putObj_size]
  refine⟨_,_,es,n,rfl,rfl,h7 _,ar,λx q o=>World.putObj_heap_other λe=>o (e▸hb),λe p=>?_,j,?_⟩
  .obtain⟨wr,rfl⟩:=c e p;rw[f];exact DG hb (by simp;exact ek i r.size)
  .rw[f,Am d c];exact m a r
def ay.new(hc:Clear X V M)(hs:g.status=hZ)(hl:Live X w){o':aP->Obj}{G':Nat->bj}
 (h:∀a,Rl X V M w a->stepG X.P (V.g==0) g a=gj (G' a.heap.size) (a.alloc (o' a)) #[]) (c:∀n,(G' n).status=hZ)
 (e:∀a,Rl X V M w a->ay X V false Stop (λb=>M b\/b=a.heap.size) d (G' a.heap.size) (a.alloc (o' a))):ay X V false Stop M d g w:=
 .own hc hs hl λa r=>by
  have f:M.more a (a.alloc (o' a))=λb=>M b\/b=a.heap.size:=by
   funext x;unfold Own.more;grind[fi]
  refine⟨_,_,#[],h a r,rfl,rfl,h7 _,by simp[fi],λx i _=>?_,ar,c _,?_⟩
  .show(a.heap.push _)[x]?=_;grind
  .rw[f];exact e a r
end
open Go.ConcM (MuAt muA msA OsLater muBlock)
section
variable {X:Fix}{V:Vw}{Stop:Stp}{M:Own}{d:Nat}{w:aP}{g:bj}{o:bM}{t ty:a8}{x y:bT}{b off:Nat}{v:a9}{cur:Array a9}
def ay.DS(hc:Clear X V M)(hl:Live X w)(f:M b)(h:bF g=some o)(l:o.op=iY t x y)(m:g.frame.eval x=ii (some ⟨b,off,none⟩))(hy:g.frame.eval y=v)
 (hb:w.heap[b]?=some (hu cur ty (0,0))) (hs:(X.P.info? t).map (·.size)=some v.cells.size) (i:off+v.cells.size<=cur.size) (n:∀c∈v.cells,c.oneCell'=true)
 (A:∀a,Rl X V M w a->ay X V false Stop M d (fin g undef) (a.setRow b (putRow cur off v.cells))):ay X V false Stop M d g w:=
 .own hc (aK h).1 hl λa r=>by
  have k:a.heap[b]?=some (hu cur ty (0,0)):=by rw[r.own b f];exact hb
  obtain⟨es,e1,p⟩:=rC (P:=X.P) (mn:=V.g==0) h l m hy k hs i n;have q:b<a.heap.size:=(Array.getElem?_eq_some_iff.1 k).1;have s:M.more a (a.setRow b (putRow cur off v.cells))=M:=by
   funext x;unfold Own.more;grind[setRow_size]
  refine⟨_,_,es,e1,rfl,rfl,h7 _,ar,λx _ u=>cv _ _ _ _ λe=>u (e▸f),λe z=>?_,(aK h).2.2 _,?_⟩
  .obtain⟨j,_,rfl⟩:=p e z;rw[s];exact DF f (by simpa using q)
  grind[mV]
def Live.ad7{w:aP}(hi:WO X)(hl:Live X w){cur new:Array a9}(hb:w.heap[X.Tb]?=some (hu cur X.tT (0,0)))(hs:new.size=cur.size):Live X (w.setRow X.Tb new):=by
 obtain⟨⟨a1,a2,a⟩,⟨e,f,b⟩,c,c1,h⟩:=hl;rw[hb]at c1;cases c1;exact⟨⟨a1,a2,by unfold eP at a ⊢;rw[cv _ _ _ _ hi.mt];exact a⟩,⟨e,f,by unfold e8 at b ⊢;rw[cv _ _ _ _ hi.wt];exact b⟩,new,co w _ _ _ _ _ hb,hs.trans h⟩
def ay.Po(hc:Clear X V M)(l:bF g=some o)(s:o.op=iY t x y)(u:g.frame.eval x=ii (some ⟨X.Tb,off,none⟩))(hy:g.frame.eval y=v)(hl:Live X w)
 (hs:(X.P.info? t).map (·.size)=some v.cells.size) (z:off+v.cells.size<=X.size) (A:∀c∈v.cells,c.oneCell'=true) (m:∀j,j<v.cells.size->V.row (off+j))
 (B:∀a w':aP,Rl X V M w a->Live X w'->w'.heap.size=a.heap.size->(∀b,b≠X.Tb->w'.heap[b]?=a.heap[b]?)->(∀j,j<v.cells.size->w'.cell? ⟨X.Tb,off+j,none⟩=v.cells[j]?)->
   (∀j,(j<off\/off+v.cells.size<=j)->w'.cell? ⟨X.Tb,j,none⟩=a.cell? ⟨X.Tb,j,none⟩)->ay X V false Stop M d (fin g undef) w'):ay X V false Stop M d g w:=
 .step (aK l).1 λa r=>by
  have C:=r.live hl;obtain⟨⟨_,_,v1⟩,⟨_,_,K⟩,cur,i,L⟩:=C;have k:off+v.cells.size<=cur.size:=ab;obtain⟨es,e1,D⟩:=rC (P:=X.P) (mn:=V.g==0) l s u hy i hs k A;have E:X.Tb<a.heap.size:=(Array.getElem?_eq_some_iff.1 i).1;have n:=co a X.Tb cur (putRow cur off v.cells) _ _ i;have F:∀j,j<v.cells.size->(a.setRow X.Tb (putRow cur off v.cells)).cell? ⟨X.Tb,off+j,none⟩=v.cells[j]?:=λj f=>by
   simp only[e9,n];exact Mo k f
  have p:∀j,(j<off\/off+v.cells.size<=j)->(a.setRow X.Tb (putRow cur off v.cells)).cell? ⟨X.Tb,j,none⟩=a.cell? ⟨X.Tb,j,none⟩:=λj f=>by
   simp only[e9,n,i];exact G4 k f
  refine⟨_,_,es,M,d,e1,⟨rfl,rfl,h7 _,ar,λb _ _ _ _ H=>cv _ _ _ _ H,λc I=>?_,λj f=>?_,ar,λb=>⟨hK,λh=>h.resolve_right λx=>by simp at x;omega⟩,λe J=>?_,ar,?_⟩,⟨cv _ _ _ _ hc.ids.mt,cv _ _ _ _ hc.ids.wt⟩,(aK l).2.2 _,?_⟩
  .grind[vj]
  .refine p j ?_
   rcases ea j off with h|h
   .exact hK h
   .rcases ea j (off+v.cells.size) with q|q
    .exact absurd (by have:=m (j-off) ab;grind) f
    .exact hM q
  .obtain⟨j,f,rfl⟩:=D e J;exact Pf rfl (m j f) (by simpa using E)
  .grind[mV]
  .exact B a _ r (Live.ad7 hc.ids (r.live hl) i (vj k)) ar (λb hb=>cv _ _ _ _ hb) F p
end
end Go.Ph
namespace Go.Proofs
open Go.Ph Go.Conc
open Go.cD (Wd Th qZ)
noncomputable abbrev PP:=Tryz.prog
def bare:List Nat:=[76,77,78,79,80,81,84,87,88,91,92,94,95,108,109,110,111,112,114,116,119,120,121,122,123,124,125]
def eJ(g:bj):Bool:=match g.frame.mode with
 |iB=>(g.frame.fn==57||g.frame.fn==58)&&g.frame.defers.isEmpty
 |ip=>match g.frame.todo with
  |.code (.region 5 _ _)::_=>g.frame.fn==113
  |iC _ (_::_)::_=>match bF g with
   |some o=>match o.op with
    |iU .. | iY ..=>true
    |iP _ d _=>d==142
    |.call { callee:=.value (.func f),.. }=>bare.contains f
    |_=>false
   |none=>false
  |_=>false
 |_=>false
noncomputable abbrev TT(g:bj):bj:=wu PP false eJ 300 g
def fj(g:bj):Option (a8×a9):=match bF g with
 |some o=>match o.op with
  |iU t x=>some (t,g.frame.eval x)
  |_=>none
 |none=>none
def gu(g:bj):Option (a8×a8×a9):=match bF g with
 |some o=>match o.op with
  |iP s d x=>some (s,d,g.frame.eval x)
  |_=>none
 |none=>none
def gZ(g:bj):Option (bv×Option a9):=(az g).map λx=>(x.1,x.2[0]?)
structure gm(g g':bj):Prop where
 q:ff PP false eJ 300 g
 d:∀d,xD PP false eJ 300 d g=d
 e:TT g=g'
structure YQ(g g':bj):Prop where
 q:uo PP false 1 g
 d:∀d,YL PP false 1 d g=d
 h:gm (nx PP false g) g'
section
variable {X:Fix}{V:Vw}{q:Bool}{Stop:Stp}{M:Own}{d:Nat}{g g':bj}{w:aP}
def gm.run(h:gm g g')(a:X.P=PP)(hg:(V.g==0)=false)(b:ay X V q Stop M d g' w):ay X V q Stop M d g w:=by
 refine .oO (S:=eJ) hg 300 (by rw[a];exact h.q) ?_;have e:wu PP false eJ 300 g=g':=h.e;rw[a,h.d,e];exact b
def YQ.run(h:YQ g g')(a:X.P=PP)(hg:(V.g==0)=false)(b:ay X V q Stop M d g' w):ay X V q Stop M d g w:=by
 refine .quiet hg 1 (by rw[a];exact h.q) ?_;rw[a,h.d];exact h.h.run a hg b
end
def zj(n:Nat)(F:Nat->a9):Array a9:=((List.range n).map F).toArray
def Jr{n:Nat}{a:Array a9}{F:Nat->a9}(hs:a.size=n)(h:∀i,i<n->F i=a[i]!):a=zj n F:=by
 apply Array.ext
 .simp[zj,hs]
 .intro i b c;simp only[zj,List.getElem_toArray,List.getElem_map,List.getElem_range];grind
noncomputable abbrev pt(m:Nat):a9:=ii (some ⟨m,0,none⟩)
def F7(m:Nat)(f:Nat->a9)(st:a9)(sv aw:Bool)(it old:a9):Nat->a9
 |0=>ii (some ⟨m,0,none⟩)
 |2=>st
 |3=>ik sv
 |4=>ik aw
 |5=>it
 |6=>old
 |i=>f i
noncomputable def A7(m:Nat)(f:Nat->a9)(st:a9)(sv aw:Bool)(it old:a9):Array a9:=zj 139 (F7 m f st sv aw it old)
noncomputable def S7(a:Array a9)(td:List ch)(up:List cf):bj:=G { fn:=113,tmps:=a,todo:=td,defers:=[],mode:=ip,kind:=f7,roundOf:=none } up
section
variable {g:bj}{m:Nat}{st it old:a9}{sv aw:Bool}{td:List ch}{up:List cf}
def WS{a:Array a9}(hs:a.size=139)(b:a[0]! = ii (some ⟨m,0,none⟩))(c:a[2]! = st)(e:a[3]! = ik sv)(f:a[4]! = ik aw)(h:a[5]! = it)(j:a[6]! = old):a=A7 m (λi=>a[i]!) st sv aw it old:=
 Jr hs λi _=>by
  unfold F7;grind
def gK{a:Type}{b:bj->a}{v:a}(f:ff PP false eJ 300 g:=by exact⟨λ_=>ae,ae⟩)(hd:∀d,xD PP false eJ 300 d g=d:=by intro _;kernel_rfl)(h:TT g=S7 (TT g).frame.tmps td up:=by kernel_rfl)(hs:(TT g).frame.tmps.size=139:=by kernel_rfl)
 (j:(TT g).frame.tmps[0]! = ii (some ⟨m,0,none⟩):=by kernel_rfl) (k:(TT g).frame.tmps[2]! = st:=by kernel_rfl) (l:(TT g).frame.tmps[3]! = ik sv:=by kernel_rfl) (n:(TT g).frame.tmps[4]! = ik aw:=by kernel_rfl) (o:(TT g).frame.tmps[5]! = it:=by kernel_rfl) (p:(TT g).frame.tmps[6]! = old:=by kernel_rfl)
 (r:b (TT g)=v:=by kernel_rfl):∃f',gm g (S7 (A7 m f' st sv aw it old) td up)/\b (S7 (A7 m f' st sv aw it old) td up)=v:=by
 have e:=WS hs j k l n o p;have c:TT g=S7 (A7 m (λi=>(TT g).frame.tmps[i]!) st sv aw it old) td up:=by rw[<-e];exact h
 exact⟨_,⟨f,hd,c⟩,by rw[<-c];exact r⟩
end
def px(j:Nat)(v:a9)(f:Nat->a9):Nat->a9:=λi=>if i=j then v else f i
def Pp{g:bj}{m:Nat}{st it old:a9}{sv aw:Bool}{td:List ch}{up:List cf}{a:Type}{b:bj->a}{v:a}{j:Nat}{x:a9}(f:ff PP false eJ 300 g:=by exact⟨λ_=>ae,ae⟩)(hd:∀d,xD PP false eJ 300 d g=d:=by intro _;kernel_rfl)(h:TT g=S7 (TT g).frame.tmps td up:=by kernel_rfl)(hs:(TT g).frame.tmps.size=139:=by kernel_rfl)
 (k:(TT g).frame.tmps[0]! = ii (some ⟨m,0,none⟩):=by kernel_rfl) (l:(TT g).frame.tmps[2]! = st:=by kernel_rfl) (n:(TT g).frame.tmps[3]! = ik sv:=by kernel_rfl) (o:(TT g).frame.tmps[4]! = ik aw:=by kernel_rfl) (p:(TT g).frame.tmps[5]! = it:=by kernel_rfl) (r:(TT g).frame.tmps[6]! = old:=by kernel_rfl)
 (s:b (TT g)=v:=by kernel_rfl) (u:(TT g).frame.tmps[j]! = x:=by kernel_rfl):∃f',gm g (S7 (A7 m (px j x f') st sv aw it old) td up)/\b (S7 (A7 m (px j x f') st sv aw it old) td up)=v:=by
 have e:=WS hs k l n o p r;have t:(λi=>(TT g).frame.tmps[i]!)=px j x (λi=>(TT g).frame.tmps[i]!):=by
  funext i;unfold px;grind
 rw[t]at e;have c:TT g=S7 (A7 m (px j x (λi=>(TT g).frame.tmps[i]!)) st sv aw it old) td up:=by rw[<-e];exact h
 exact⟨_,⟨f,hd,c⟩,by rw[<-c];exact s⟩
noncomputable def z0:bj:=TT (G (gf PP 57 #[pt 0] f7) [default])
noncomputable def z1:bj:=TT (fin z0 (ih #[]))
noncomputable def zr0:bj:=TT (fin z1 (ik false))
noncomputable def CE:bj:=TT (fin zr0 (h8 io 9))
noncomputable def Ud:bj:=TT (nx PP false CE)
noncomputable def zc1:bj:=TT (fin Ud (ik true))
noncomputable def FC:bj:=TT (fin zc1 (ik false))
noncomputable def zr1:bj:=TT (fin FC (ih #[]))
noncomputable def xI:bj:=TT (fin Ud (ik false))
noncomputable def zr3:bj:=TT (fin xI (ik false))
noncomputable def Te:bj:=TT (fin xI (ik true))
noncomputable def FD:bj:=TT (fin Te (h8 im 5))
noncomputable def zn2:bj:=TT (fin FD (ih #[]))
noncomputable def WT:bj:=TT (fin zn2 (h8 im 5))
noncomputable def za1:bj:=TT (fin WT (h8 io 12))
noncomputable def WU:bj:=TT (fin za1 (h8 io 5))
noncomputable def zcv:bj:=TT (fin WU (ih #[]))
noncomputable def zaq:bj:=TT (fin zcv (pt 0))
variable (m:Nat)(f:Nat->a9)(up:List cf)
def ail(st it old v:a9)(a b:Bool):∃f',gm (fin (S7 (A7 m f st a b it old) zr0.frame.todo up) v) (S7 (A7 m f' st a b it v) CE.frame.todo up)/\hG (S7 (A7 m f' st a b it v) CE.frame.todo up)=hZ:=
 gK
def aim(st it old v:a9)(a b:Bool):∃f',gm (fin (S7 (A7 m f st a b it old) zr1.frame.todo up) v) (S7 (A7 m f' st a b it v) CE.frame.todo up)/\hG (S7 (A7 m f' st a b it v) CE.frame.todo up)=hZ:=
 gK
def ain(st it old v:a9)(a b:Bool):∃f',gm (fin (S7 (A7 m f st a b it old) zr3.frame.todo up) v) (S7 (A7 m f' st a b it v) CE.frame.todo up)/\hG (S7 (A7 m f' st a b it v) CE.frame.todo up)=hZ:=
 gK
def ada(st it old:a9)(a b:Bool):uo PP false 1 (S7 (A7 m f st a b it old) CE.frame.todo up)/\∀d,YL PP false 1 d (S7 (A7 m f st a b it old) CE.frame.todo up)=d:=⟨⟨λw=>ae,ae⟩,λd=>ae⟩
noncomputable abbrev wv(x:Wd):a9:=h8 io ((x.num:Nat):Int)
def YS(st it:a9)(a b w:Bool)(k:Nat)(c:k<=3):∃f',gm (nx PP false (S7 (A7 m f st a b it (wv ⟨true,w,false,k⟩)) CE.frame.todo up)) (S7 (A7 m (px 17 (ik true) f') st a b it (wv ⟨true,w,false,k⟩)) Ud.frame.todo up)/\az (S7 (A7 m (px 17 (ik true) f') st a b it (wv ⟨true,w,false,k⟩)) Ud.frame.todo up)=some (119,#[it]):=by
 cases w<;>((obtain rfl|rfl|rfl|rfl:k=0\/k=1\/k=2\/k=3:=ab))<;>exact Pp
def Ue(st it:a9)(b a w:Bool)(k:Nat)(d:k<=3)(c:a=true->w=true):∃f',gm (nx PP false (S7 (A7 m f st b a it (wv ⟨false,w,false,k⟩)) CE.frame.todo up)) (S7 (A7 m f' st b a it (wv ⟨false,w,false,k⟩)) xI.frame.todo up)/\az (S7 (A7 m f' st b a it (wv ⟨false,w,false,k⟩)) xI.frame.todo up)=some (112,#[pt m,wv ⟨false,w,false,k⟩,wv (qZ { pc:=.c2,old:=⟨false,w,false,k⟩,aw:=a,sv:=b,r:=0 })]):=by
 cases b<;>cases a<;>cases w<;>(first|exact absurd (c rfl) ao|skip)<;>((obtain rfl|rfl|rfl|rfl:k=0\/k=1\/k=2\/k=3:=ab))<;>exact gK
def Uf(st it:a9)(b a w:Bool)(k:Nat)(d:k<=3)(c:a=true->w=true):∃f',gm (nx PP false (S7 (A7 m f st b a it (wv ⟨false,w,true,k⟩)) CE.frame.todo up)) (S7 (A7 m f' st b a it (wv ⟨false,w,true,k⟩)) xI.frame.todo up)/\az (S7 (A7 m f' st b a it (wv ⟨false,w,true,k⟩)) xI.frame.todo up)=some (112,#[pt m,wv ⟨false,w,true,k⟩,wv (qZ { pc:=.c2,old:=⟨false,w,true,k⟩,aw:=a,sv:=b,r:=0 })]):=by
 cases b<;>cases a<;>cases w<;>(first|exact absurd (c rfl) ao|skip)<;>((obtain rfl|rfl|rfl|rfl:k=0\/k=1\/k=2\/k=3:=ab))<;>exact gK
def Ug(st it:a9)(b a w:Bool)(k:Nat)(d:k<=3)(c:a=true->w=true):∃f',gm (nx PP false (S7 (A7 m f st b a it (wv ⟨true,w,true,k⟩)) CE.frame.todo up)) (S7 (A7 m f' st b a it (wv ⟨true,w,true,k⟩)) xI.frame.todo up)/\az (S7 (A7 m f' st b a it (wv ⟨true,w,true,k⟩)) xI.frame.todo up)=some (112,#[pt m,wv ⟨true,w,true,k⟩,wv (qZ { pc:=.c2,old:=⟨true,w,true,k⟩,aw:=a,sv:=b,r:=0 })]):=by
 cases b<;>cases a<;>cases w<;>(first|exact absurd (c rfl) ao|skip)<;>((obtain rfl|rfl|rfl|rfl:k=0\/k=1\/k=2\/k=3:=ab))<;>exact gK
def Uh(st it:a9)(b a w:Bool)(k:Nat)(d:k<=3)(c:a=true->w=true):∃f',gm (fin (S7 (A7 m (px 17 (ik true) f) st b a it (wv ⟨true,w,false,k⟩)) Ud.frame.todo up) (ik false)) (S7 (A7 m f' st b a it (wv ⟨true,w,false,k⟩)) xI.frame.todo up)/\az (S7 (A7 m f' st b a it (wv ⟨true,w,false,k⟩)) xI.frame.todo up)=some (112,#[pt m,wv ⟨true,w,false,k⟩,wv (qZ { pc:=.c2,old:=⟨true,w,false,k⟩,aw:=a,sv:=b,r:=0 })]):=by
 cases b<;>cases a<;>cases w<;>(first|exact absurd (c rfl) ao|skip)<;>((obtain rfl|rfl|rfl|rfl:k=0\/k=1\/k=2\/k=3:=ab))<;>exact gK
def aio(st it:a9)(a:Bool)(k:Nat)(b:k<=3)(c:k≠0):∃f',gm (fin (S7 (A7 m (px 17 (ik true) f) st a false it (wv ⟨true,false,false,k⟩)) Ud.frame.todo up) (ik true)) (S7 (A7 m (px 33 (ik true) f') st a false it (wv ⟨true,false,false,k⟩)) zc1.frame.todo up)/\az (S7 (A7 m (px 33 (ik true) f') st a false it (wv ⟨true,false,false,k⟩)) zc1.frame.todo up)=some (112,#[pt m,wv ⟨true,false,false,k⟩,wv ⟨true,true,false,k⟩]):=by
 (obtain rfl|rfl|rfl:k=1\/k=2\/k=3:=ab)<;>exact Pp
def YT(st it:a9)(a w:Bool)(k:Nat)(b:k<=3):∃f',gm (fin (S7 (A7 m (px 17 (ik true) f) st a true it (wv ⟨true,w,false,k⟩)) Ud.frame.todo up) (ik true)) (S7 (A7 m f' st a true it (wv ⟨true,w,false,k⟩)) FC.frame.todo up)/\az (S7 (A7 m f' st a true it (wv ⟨true,w,false,k⟩)) FC.frame.todo up)=some (120,#[]):=by
 cases w<;>((obtain rfl|rfl|rfl|rfl:k=0\/k=1\/k=2\/k=3:=ab))<;>exact gK
def YU(st it:a9)(a:Bool)(k:Nat)(b:k<=3):∃f',gm (fin (S7 (A7 m (px 17 (ik true) f) st a false it (wv ⟨true,true,false,k⟩)) Ud.frame.todo up) (ik true)) (S7 (A7 m f' st a false it (wv ⟨true,true,false,k⟩)) FC.frame.todo up)/\az (S7 (A7 m f' st a false it (wv ⟨true,true,false,k⟩)) FC.frame.todo up)=some (120,#[]):=by
 ((obtain rfl|rfl|rfl|rfl:k=0\/k=1\/k=2\/k=3:=ab))<;>exact gK
def YV(st it:a9)(a:Bool):∃f',gm (fin (S7 (A7 m (px 17 (ik true) f) st a false it (wv ⟨true,false,false,0⟩)) Ud.frame.todo up) (ik true)) (S7 (A7 m f' st a false it (wv ⟨true,false,false,0⟩)) FC.frame.todo up)/\az (S7 (A7 m f' st a false it (wv ⟨true,false,false,0⟩)) FC.frame.todo up)=some (120,#[]):=
 gK
def adb(st it old:a9)(a b:Bool):∃f',gm (fin (S7 (A7 m (px 33 (ik true) f) st a b it old) zc1.frame.todo up) (ik true)) (S7 (A7 m f' st a true it old) FC.frame.todo up)/\az (S7 (A7 m f' st a true it old) FC.frame.todo up)=some (120,#[]):=
 gK
def ade(st it old:a9)(a b:Bool):∃f',gm (fin (S7 (A7 m (px 33 (ik true) f) st a b it old) zc1.frame.todo up) (ik false)) (S7 (A7 m f' st a b it old) FC.frame.todo up)/\az (S7 (A7 m f' st a b it old) FC.frame.todo up)=some (120,#[]):=
 gK
def adf(st old:a9)(it:Int)(a b:Bool):∃f',gm (fin (S7 (A7 m f st a b (h8 im it) old) FC.frame.todo up) (ih #[])) (S7 (A7 m f' st a b (h8 im (IntKind.i64.wrap (it+1))) old) zr1.frame.todo up)/\fj (S7 (A7 m f' st a b (h8 im (IntKind.i64.wrap (it+1))) old) zr1.frame.todo up)=some (21,pt m):=
 gK
def adg(st it old:a9)(a b:Bool):∃f',gm (fin (S7 (A7 m f st a b it old) xI.frame.todo up) (ik false)) (S7 (A7 m f' st a b it old) zr3.frame.todo up)/\fj (S7 (A7 m f' st a b it old) zr3.frame.todo up)=some (21,pt m):=
 gK
def G6(st it:a9)(a b w:Bool)(k:Nat)(c:k<=3):∃f',gm (fin (S7 (A7 m f st a b it (wv ⟨false,w,false,k⟩)) xI.frame.todo up) (ik true)) (S7 (A7 m f' st a b it (wv ⟨false,w,false,k⟩)) WU.frame.todo up)/\az (S7 (A7 m f' st a b it (wv ⟨false,w,false,k⟩)) WU.frame.todo up)=some (78,#[]):=by
 cases w<;>((obtain rfl|rfl|rfl|rfl:k=0\/k=1\/k=2\/k=3:=ab))<;>exact gK
def Mp(it:a9)(a b w:Bool)(k:Nat)(c:k<=3):∃f',gm (fin (S7 (A7 m f (h8 im 0) a b it (wv ⟨false,w,true,k⟩)) xI.frame.todo up) (ik true)) (S7 (A7 m f' (h8 im 0) a b it (wv ⟨false,w,true,k⟩)) Te.frame.todo up)/\az (S7 (A7 m f' (h8 im 0) a b it (wv ⟨false,w,true,k⟩)) Te.frame.todo up)=some (122,#[]):=by
 cases w<;>((obtain rfl|rfl|rfl|rfl:k=0\/k=1\/k=2\/k=3:=ab))<;>exact gK
def Mq(t:Nat)(it:a9)(a b w:Bool)(k:Nat)(c:k<=3):∃f',gm (fin (S7 (A7 m f (h8 im ((t+1:Nat):Int)) a b it (wv ⟨false,w,true,k⟩)) xI.frame.todo up) (ik true)) (S7 (A7 m f' (h8 im ((t+1:Nat):Int)) a b it (wv ⟨false,w,true,k⟩)) FD.frame.todo up)/\gZ (S7 (A7 m f' (h8 im ((t+1:Nat):Int)) a b it (wv ⟨false,w,true,k⟩)) FD.frame.todo up)=some (123,some (ii (some ⟨m,1,none⟩))):=by
 cases w<;>((obtain rfl|rfl|rfl|rfl:k=0\/k=1\/k=2\/k=3:=ab))<;>exact gK
def Mr(it:a9)(a b w:Bool)(k:Nat)(c:k<=3):∃f',gm (fin (S7 (A7 m f (h8 im 0) a b it (wv ⟨true,w,true,k⟩)) xI.frame.todo up) (ik true)) (S7 (A7 m f' (h8 im 0) a b it (wv ⟨true,w,true,k⟩)) Te.frame.todo up)/\az (S7 (A7 m f' (h8 im 0) a b it (wv ⟨true,w,true,k⟩)) Te.frame.todo up)=some (122,#[]):=by
 cases w<;>((obtain rfl|rfl|rfl|rfl:k=0\/k=1\/k=2\/k=3:=ab))<;>exact gK
def Ms(t:Nat)(it:a9)(a b w:Bool)(k:Nat)(c:k<=3):∃f',gm (fin (S7 (A7 m f (h8 im ((t+1:Nat):Int)) a b it (wv ⟨true,w,true,k⟩)) xI.frame.todo up) (ik true)) (S7 (A7 m f' (h8 im ((t+1:Nat):Int)) a b it (wv ⟨true,w,true,k⟩)) FD.frame.todo up)/\gZ (S7 (A7 m f' (h8 im ((t+1:Nat):Int)) a b it (wv ⟨true,w,true,k⟩)) FD.frame.todo up)=some (123,some (ii (some ⟨m,1,none⟩))):=by
 cases w<;>((obtain rfl|rfl|rfl|rfl:k=0\/k=1\/k=2\/k=3:=ab))<;>exact gK
def Mt(it:a9)(a b w:Bool)(k:Nat)(c:k<=3):∃f',gm (fin (S7 (A7 m f (h8 im 0) a b it (wv ⟨true,w,false,k⟩)) xI.frame.todo up) (ik true)) (S7 (A7 m f' (h8 im 0) a b it (wv ⟨true,w,false,k⟩)) Te.frame.todo up)/\az (S7 (A7 m f' (h8 im 0) a b it (wv ⟨true,w,false,k⟩)) Te.frame.todo up)=some (122,#[]):=by
 cases w<;>((obtain rfl|rfl|rfl|rfl:k=0\/k=1\/k=2\/k=3:=ab))<;>exact gK
def Mw(t:Nat)(it:a9)(a b w:Bool)(k:Nat)(c:k<=3):∃f',gm (fin (S7 (A7 m f (h8 im ((t+1:Nat):Int)) a b it (wv ⟨true,w,false,k⟩)) xI.frame.todo up) (ik true)) (S7 (A7 m f' (h8 im ((t+1:Nat):Int)) a b it (wv ⟨true,w,false,k⟩)) FD.frame.todo up)/\gZ (S7 (A7 m f' (h8 im ((t+1:Nat):Int)) a b it (wv ⟨true,w,false,k⟩)) FD.frame.todo up)=some (123,some (ii (some ⟨m,1,none⟩))):=by
 cases w<;>((obtain rfl|rfl|rfl|rfl:k=0\/k=1\/k=2\/k=3:=ab))<;>exact gK
def aip(st it old v:a9)(a b:Bool):∃f',gm (fin (S7 (A7 m f st a b it old) Te.frame.todo up) v) (S7 (A7 m f' v a b it old) FD.frame.todo up)/\gZ (S7 (A7 m f' v a b it old) FD.frame.todo up)=some (123,some (ii (some ⟨m,1,none⟩))):=
 gK
def adh(st it old:a9)(a:Bool):∃f',gm (fin (S7 (A7 m f st true a it old) FD.frame.todo up) (ih #[])) (S7 (A7 m f' st true a it old) WT.frame.todo up)/\fj (S7 (A7 m f' st true a it old) WT.frame.todo up)=some (21,pt m):=
 gK
def adi(st it old:a9)(a:Bool):∃f',gm (fin (S7 (A7 m f st false a it old) FD.frame.todo up) (ih #[])) (S7 (A7 m (px 95 (ik false) f') st false a it old) zn2.frame.todo up)/\az (S7 (A7 m (px 95 (ik false) f') st false a it old) zn2.frame.todo up)=some (122,#[]):=
 Pp
def aiq(it old:a9)(st v:Int)(a:Bool):∃f',gm (fin (S7 (A7 m (px 95 (ik false) f) (h8 im st) false a it old) zn2.frame.todo up) (h8 im v)) (S7 (A7 m f' (h8 im st) (decide (IntKind.i64.wrap (v-st) > 1000000)) a it old) WT.frame.todo up)/\fj (S7 (A7 m f' (h8 im st) (decide (IntKind.i64.wrap (v-st) > 1000000)) a it old) WT.frame.todo up)=some (21,pt m):=
 gK
def adj(st it old:a9)(a b l w:Bool)(k:Nat)(c:k<=3):∃f',gm (fin (S7 (A7 m f st a b it old) WT.frame.todo up) (wv ⟨l,w,false,k⟩)) (S7 (A7 m f' st a true (h8 im 0) (wv ⟨l,w,false,k⟩)) CE.frame.todo up)/\hG (S7 (A7 m f' st a true (h8 im 0) (wv ⟨l,w,false,k⟩)) CE.frame.todo up)=hZ:=by
 cases l<;>cases w<;>((obtain rfl|rfl|rfl|rfl:k=0\/k=1\/k=2\/k=3:=ab))<;>exact gK
def adk(st it old:a9)(a b:Bool)(k:Nat)(c:k<=3)(d:k≠0):∃f',gm (fin (S7 (A7 m f st a b it old) WT.frame.todo up) (wv ⟨false,false,true,k⟩)) (S7 (A7 m f' st a b it (wv ⟨false,false,true,k⟩)) za1.frame.todo up)/\az (S7 (A7 m f' st a b it (wv ⟨false,false,true,k⟩)) za1.frame.todo up)=some (114,#[pt m,h8 io (if(!a||k==1) then -11 else -7)]):=by
 cases a<;>(obtain rfl|rfl|rfl:k=1\/k=2\/k=3:=ab)<;>exact gK
def air(st it old v:a9)(a b:Bool):∃f',gm (fin (S7 (A7 m f st a b it old) za1.frame.todo up) v) (S7 (A7 m f' st a b it old) WU.frame.todo up)/\az (S7 (A7 m f' st a b it old) WU.frame.todo up)=some (78,#[]):=
 gK
def ais(st it old:a9)(a b:Bool):∃f',gm (fin (S7 (A7 m f st a b it old) WU.frame.todo up) (ih #[])) (S7 (A7 m f' st a b it old) zcv.frame.todo up)/\gu (S7 (A7 m f' st a b it old) zcv.frame.todo up)=some (175,142,pt m):=
 gK
def ait(st it old:a9)(a b:Bool):∃f',gm (fin (S7 (A7 m f st a b it old) zcv.frame.todo up) (pt m)) (S7 (A7 m f' st a b it old) zaq.frame.todo up)/\az (S7 (A7 m f' st a b it old) zaq.frame.todo up)=some (91,#[pt m]):=
 gK
structure Out(g:bj)(c0:cf)(cs:List cf):Prop where
 q:ff PP false eJ 300 g
 d:∀d,xD PP false eJ 300 d g=d
 q1:uo PP false 1 (TT g)
 d1:∀d,YL PP false 1 d (TT g)=d
 e:adv PP false 1 (TT g)=G (c0.finish (ih #[])) cs
def Out.run{X:Fix}{V:Vw}{q:Bool}{Stop:Stp}{M:Own}{d:Nat}{g:bj}{w:aP}{c0:cf}{cs:List cf}(h:Out g c0 cs)(a:X.P=PP)(hg:(V.g==0)=false)(b:ay X V q Stop M d (G (c0.finish (ih #[])) cs) w):ay X V q Stop M d g w:=by
 refine .oO (S:=eJ) hg 300 (by rw[a];exact h.q) ?_;refine .quiet hg 1 (by rw[a];exact h.q1) ?_;rw[a,h.d,h.d1];have e:=h.e;grind
def lB{g g':bj}(e:g'=TT g)(a:ff PP false eJ 300 g:=by exact⟨λ_=>ae,ae⟩)(hd:∀d,xD PP false eJ 300 d g=d:=by intro _;kernel_rfl):gm g g':=⟨a,hd,e.symm⟩
section
variable (m:Nat)(c0:cf)(cs:List cf)
noncomputable def yE:bj:=G (gf PP 57 #[pt m] f7) (c0::cs)
noncomputable def y0:bj:=TT (yE m c0 cs)
noncomputable def y1:bj:=TT (fin (y0 m c0 cs) (ih #[]))
noncomputable def y2:bj:=TT (fin (y1 m c0 cs) (ik true))
noncomputable def y3:bj:=TT (fin (y2 m c0 cs) (ih #[]))
noncomputable def y4:bj:=TT (fin (y3 m c0 cs) (pt m))
noncomputable def iw:List cf:=(TT (fin (y1 m c0 cs) (ik false))).callers
def l_E:gm (yE m c0 cs) (y0 m c0 cs):=lB (by delta y0;rfl)
def aiu:az (y0 m c0 cs)=some (77,#[]):=ae
def l_0:gm (fin (y0 m c0 cs) (ih #[])) (y1 m c0 cs):=lB (by delta y1;rfl)
def l_1:gm (fin (y1 m c0 cs) (ik true)) (y2 m c0 cs):=lB (by delta y2;rfl)
def aiv:az (y2 m c0 cs)=some (78,#[]):=ae
def l_2:gm (fin (y2 m c0 cs) (ih #[])) (y3 m c0 cs):=lB (by delta y3;rfl)
def aiw:gu (y3 m c0 cs)=some (175,142,pt m):=ae
def l_3:gm (fin (y3 m c0 cs) (pt m)) (y4 m c0 cs):=lB (by delta y4;rfl)
def aix:az (y4 m c0 cs)=some (91,#[pt m]):=ae
def l_4:Out (fin (y4 m c0 cs) (ih #[])) c0 cs:=⟨⟨λw=>ae,ae⟩,λd=>ae,⟨λw=>ae,ae⟩,λd=>ae,ae⟩
def l_s:∃f',gm (fin (y1 m c0 cs) (ik false)) (S7 (A7 m f' (h8 im 0) false false (h8 im 0) undef) zr0.frame.todo (iw m c0 cs))/\fj (S7 (A7 m f' (h8 im 0) false false (h8 im 0) undef) zr0.frame.todo (iw m c0 cs))=some (21,pt m):=
 gK
def l_e(f:Nat->a9)(st it old:a9)(a b:Bool):Out (fin (S7 (A7 m f st a b it old) zaq.frame.todo (iw m c0 cs)) (ih #[])) c0 cs:=
 ⟨⟨λw=>ae,ae⟩,λd=>ae,⟨λw=>ae,ae⟩,λd=>ae,ae⟩
end
def F4(m:Nat)(f:Nat->a9):Nat->a9
 |0=>ii (some ⟨m,0,none⟩)
 |i=>f i
noncomputable def A4(m:Nat)(f:Nat->a9):Array a9:=zj 21 (F4 m f)
noncomputable def mY(a:Array a9)(td:List ch):cf:={ fn:=90,tmps:=a,todo:=td,defers:=[],mode:=ip,kind:=f7,roundOf:=none }
def F9(m:Nat)(f:Nat->a9)(old:a9):Nat->a9
 |0=>ii (some ⟨m,0,none⟩)
 |4=>old
 |i=>f i
noncomputable def A9(m:Nat)(f:Nat->a9)(old:a9):Array a9:=zj 43 (F9 m f old)
noncomputable def vk(a:Array a9)(td:List ch):cf:={ fn:=115,tmps:=a,todo:=td,defers:=[],mode:=ip,kind:=f7,roundOf:=none }
section
variable {g:bj}{m:Nat}{old:a9}{td td4:List ch}{up:List cf}
def WV{a:Array a9}(hs:a.size=21)(b:a[0]! = ii (some ⟨m,0,none⟩)):a=A4 m (λi=>a[i]!):=
 Jr hs λi _=>by
  unfold F4;grind
def adl{a:Array a9}(hs:a.size=43)(b:a[0]! = ii (some ⟨m,0,none⟩))(c:a[4]! = old):a=A9 m (λi=>a[i]!) old:=
 Jr hs λi _=>by
  unfold F9;grind
def Ui{a:Type}{b:bj->a}{v:a}(h:ff PP false eJ 300 g:=by exact⟨λ_=>ae,ae⟩)(hd:∀d,xD PP false eJ 300 d g=d:=by intro _;kernel_rfl)(j:TT g=G (mY (TT g).frame.tmps td) up:=by kernel_rfl)(hs:(TT g).frame.tmps.size=21:=by kernel_rfl)
 (k:(TT g).frame.tmps[0]! = ii (some ⟨m,0,none⟩):=by kernel_rfl) (l:b (TT g)=v:=by kernel_rfl):∃f',gm g (G (mY (A4 m f') td) up)/\b (G (mY (A4 m f') td) up)=v:=by
 have e:=WV hs k;have c:TT g=G (mY (A4 m (λi=>(TT g).frame.tmps[i]!)) td) up:=by rw[<-e];exact j
 exact⟨_,⟨h,hd,c⟩,by rw[<-c];exact l⟩
def Pq{c:Type}{h:bj->c}{v:c}(k:ff PP false eJ 300 g:=by exact⟨λ_=>ae,ae⟩)(hd:∀d,xD PP false eJ 300 d g=d:=by intro _;kernel_rfl)(l:TT g=G (vk (TT g).frame.tmps td) (mY (TT g).callers.head!.tmps td4::up):=by kernel_rfl)(hs:(TT g).frame.tmps.size=43:=by kernel_rfl)
 (n:(TT g).frame.tmps[0]! = ii (some ⟨m,0,none⟩):=by kernel_rfl) (o:(TT g).frame.tmps[4]! = old:=by kernel_rfl) (a:(TT g).callers.head!.tmps.size=21:=by kernel_rfl) (b:(TT g).callers.head!.tmps[0]! = ii (some ⟨m,0,none⟩):=by kernel_rfl) (p:h (TT g)=v:=by kernel_rfl) :
 ∃f' f4,gm g (G (vk (A9 m f' old) td) (mY (A4 m f4) td4::up))/\h (G (vk (A9 m f' old) td) (mY (A4 m f4) td4::up))=v:=by
 have e:=adl hs n o;have q:=WV a b;have j:TT g=G (vk (A9 m (λi=>(TT g).frame.tmps[i]!) old) td) (mY (A4 m (λi=>(TT g).callers.head!.tmps[i]!)) td4::up):=by rw[<-e,<-q];exact l
 exact⟨_,_,⟨k,hd,j⟩,by rw[<-j];exact p⟩
end
section
variable (m:Nat)(c0:cf)(cs:List cf)
noncomputable def xE:bj:=G (gf PP 58 #[pt m] f7) (c0::cs)
noncomputable def x0:bj:=TT (xE m c0 cs)
noncomputable def x1(v:Int):bj:=TT (fin (x0 m c0 cs) (h8 io v))
noncomputable def x2(v:Int):bj:=TT (fin (x1 m c0 cs v) (pt m))
noncomputable def x3(v:Int):bj:=TT (fin (x2 m c0 cs v) (ih #[]))
noncomputable def x4(v:Int):bj:=TT (fin (x3 m c0 cs v) (ih #[]))
noncomputable def tN:List cf:=(x0 m c0 cs).callers
def u_E:gm (xE m c0 cs) (x0 m c0 cs):=lB (by delta x0;rfl)
def aiy:fj (x0 m c0 cs)=some (21,pt m):=ae
def u_0(v:Int):gm (fin (x0 m c0 cs) (h8 io v)) (x1 m c0 cs v):=lB (by delta x1;rfl)
def aiz(v:Int):gu (x1 m c0 cs v)=some (175,142,pt m):=ae
def u_1(v:Int):gm (fin (x1 m c0 cs v) (pt m)) (x2 m c0 cs v):=lB (by delta x2;rfl)
def aiA(v:Int):az (x2 m c0 cs v)=some (76,#[pt m]):=ae
def u_2(v:Int):gm (fin (x2 m c0 cs v) (ih #[])) (x3 m c0 cs v):=lB (by delta x3;rfl)
def aiB(v:Int):az (x3 m c0 cs v)=some (77,#[]):=ae
def u_3(v:Int):gm (fin (x3 m c0 cs v) (ih #[])) (x4 m c0 cs v):=lB (by delta x4;rfl)
def aiC(v:Int):az (x4 m c0 cs v)=some (114,#[pt m,h8 io (-1)]):=ae
end
noncomputable def wx4:bj:=x4 0 default [] 0
noncomputable def Pt:bj:=TT (fin wx4 (h8 io 0))
noncomputable def Tf:bj:=TT (fin wx4 (h8 io 8))
noncomputable def wus:bj:=TT (fin Tf (ik true))
noncomputable def wux:bj:=TT (fin Tf (ik false))
noncomputable def wuh:bj:=TT (fin wx4 (h8 io 4))
noncomputable def w4:List ch:=Tf.callers.head!.todo
section
variable (m:Nat)(c0:cf)(cs:List cf)(f f4:Nat->a9)
def YW(v:Int)(w:Bool)(k:Nat)(a:k<=3)(h:k=0\/w=true):∃f',gm (fin (x4 m c0 cs v) (wv ⟨false,w,false,k⟩)) (G (mY (A4 m f') Pt.frame.todo) (tN m c0 cs))/\az (G (mY (A4 m f') Pt.frame.todo) (tN m c0 cs))=some (78,#[]):=by
 cases w<;>(obtain rfl|rfl|rfl|rfl:k=0\/k=1\/k=2\/k=3:=ab)<;>(first|exact absurd h ao|skip)<;>exact Ui
def YX(v:Int)(w:Bool)(k:Nat)(b:k<=3):∃f' a,gm (fin (x4 m c0 cs v) (wv ⟨false,w,true,k⟩)) (G (vk (A9 m f' undef) wuh.frame.todo) (mY (A4 m a) w4::tN m c0 cs))/\gZ (G (vk (A9 m f' undef) wuh.frame.todo) (mY (A4 m a) w4::tN m c0 cs))=some (125,some (ii (some ⟨m,1,none⟩))):=by
 cases w<;>(obtain rfl|rfl|rfl|rfl:k=0\/k=1\/k=2\/k=3:=ab)<;>exact Pq
def YY(v:Int)(k:Nat)(b:k<=3)(c:k≠0):∃f' a,gm (fin (x4 m c0 cs v) (wv ⟨false,false,false,k⟩)) (G (vk (A9 m f' (wv ⟨false,false,false,k⟩)) Tf.frame.todo) (mY (A4 m a) w4::tN m c0 cs))/\az (G (vk (A9 m f' (wv ⟨false,false,false,k⟩)) Tf.frame.todo) (mY (A4 m a) w4::tN m c0 cs))=some (112,#[pt m,wv ⟨false,false,false,k⟩,wv ⟨false,true,false,k-1⟩]):=by
 (obtain rfl|rfl|rfl:k=1\/k=2\/k=3:=ab)<;>exact Pq
def adp(old:a9):∃f' a,gm (fin (G (vk (A9 m f old) Tf.frame.todo) (mY (A4 m f4) w4::tN m c0 cs)) (ik true)) (G (vk (A9 m f' old) wus.frame.todo) (mY (A4 m a) w4::tN m c0 cs))/\gZ (G (vk (A9 m f' old) wus.frame.todo) (mY (A4 m a) w4::tN m c0 cs))=some (125,some (ii (some ⟨m,1,none⟩))):=by
 exact Pq
def adq(old:a9):∃f' a,gm (fin (G (vk (A9 m f old) Tf.frame.todo) (mY (A4 m f4) w4::tN m c0 cs)) (ik false)) (G (vk (A9 m f' old) wux.frame.todo) (mY (A4 m a) w4::tN m c0 cs))/\fj (G (vk (A9 m f' old) wux.frame.todo) (mY (A4 m a) w4::tN m c0 cs))=some (21,pt m):=by
 exact Pq
def Uj(old:a9)(l w s:Bool)(k:Nat)(a:k<=3)(h:k=0\/l=true\/w=true\/s=true):∃f',gm (fin (G (vk (A9 m f old) wux.frame.todo) (mY (A4 m f4) w4::tN m c0 cs)) (wv ⟨l,w,s,k⟩)) (G (mY (A4 m f') Pt.frame.todo) (tN m c0 cs))/\az (G (mY (A4 m f') Pt.frame.todo) (tN m c0 cs))=some (78,#[]):=by
 cases l<;>cases w<;>cases s<;>(obtain rfl|rfl|rfl|rfl:k=0\/k=1\/k=2\/k=3:=ab)<;>(first|exact absurd h ao|skip)<;>exact Ui
def Uk(old:a9)(k:Nat)(b:k<=3)(c:k≠0):∃f' a,gm (fin (G (vk (A9 m f old) wux.frame.todo) (mY (A4 m f4) w4::tN m c0 cs)) (wv ⟨false,false,false,k⟩)) (G (vk (A9 m f' (wv ⟨false,false,false,k⟩)) Tf.frame.todo) (mY (A4 m a) w4::tN m c0 cs))/\az (G (vk (A9 m f' (wv ⟨false,false,false,k⟩)) Tf.frame.todo) (mY (A4 m a) w4::tN m c0 cs))=some (112,#[pt m,wv ⟨false,false,false,k⟩,wv ⟨false,true,false,k-1⟩]):=by
 (obtain rfl|rfl|rfl:k=1\/k=2\/k=3:=ab)<;>exact Pq
def aiE(old:a9):∃f',gm (fin (G (vk (A9 m f old) wus.frame.todo) (mY (A4 m f4) w4::tN m c0 cs)) (ih #[])) (G (mY (A4 m f') Pt.frame.todo) (tN m c0 cs))/\az (G (mY (A4 m f') Pt.frame.todo) (tN m c0 cs))=some (78,#[]):=by
 exact Ui
def aiF(old:a9):∃f',gm (fin (G (vk (A9 m f old) wuh.frame.todo) (mY (A4 m f4) w4::tN m c0 cs)) (ih #[])) (G (mY (A4 m f') Pt.frame.todo) (tN m c0 cs))/\az (G (mY (A4 m f') Pt.frame.todo) (tN m c0 cs))=some (78,#[]):=by
 exact Ui
def u_e:Out (fin (G (mY (A4 m f) Pt.frame.todo) (tN m c0 cs)) (ih #[])) c0 cs:=
 ⟨⟨λw=>ae,ae⟩,λd=>ae,⟨λw=>ae,ae⟩,λd=>ae,ae⟩
end
end Go.Proofs
namespace Go.Proofs
open Go.Ph Go.Conc
def adr:cw PP 77 false (λ_=>do mark .disable;pure gE):=⟨Tryz.f77,ae,ae,ae,ae,ae,ae⟩
def ads:cw PP 78 false (λ_=>do mark .enable;pure gE):=⟨Tryz.f78,ae,ae,ae,ae,ae,ae⟩
def adt:cw PP 76 false (gG hO):=⟨Tryz.f76,ae,ae,ae,ae,ae,ae⟩
def adu:cw PP 91 false (gG hN):=⟨Tryz.f91,ae,ae,ae,ae,ae,ae⟩
def adw:cw PP 112 true (Extern.Atomic.casT (.int io)):=⟨Tryz.f112,ae,ae,ae,ae,ae,ae⟩
def aiG:cw PP 114 true (Extern.Atomic.update (Op.intArith .add) io true):=⟨Tryz.f114,ae,ae,ae,ae,ae,ae⟩
def aiH:cw PP 119 true g0:=⟨Tryz.f119,ae,ae,ae,ae,ae,ae⟩
def aiI:cw PP 120 true g1:=⟨Tryz.f120,ae,ae,ae,ae,ae,ae⟩
def aiJ:cw PP 122 true Extern.OsHooks.nano:=⟨Tryz.f122,ae,ae,ae,ae,ae,ae⟩
def adx:cw PP 123 true g7:=⟨Tryz.f123,ae,ae,ae,ae,ae,ae⟩
def aiK:cw PP 125 true g8:=⟨Tryz.f125,ae,ae,ae,ae,ae,ae⟩
def Js:(PP.funcs[113]?).any (·.norace)=true:=ae
def ady:(PP.funcs[115]?).any (·.norace)=true:=ae
def u21:PP.underlying 21=some (.int io):=ae
def u237:PP.underlying 175=some (.pointer 118):=ae
def u216:PP.underlying 142=some .unsafePointer:=ae
def aiM:(PP.info? 118).map (λi=>decide (i.size=0))=some false:=ae
end Go.Proofs
