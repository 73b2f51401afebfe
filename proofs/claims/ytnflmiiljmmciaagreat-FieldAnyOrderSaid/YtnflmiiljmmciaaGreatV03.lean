/- Part of the proof of FieldAnyOrder. -/
import Derived.Test.YtnflmiiljmmciaaGreatV02
import Derived.Conc.RingWorld
import Derived.OrdersHeld
set_option linter.all false
open Go renaming Goroutine->aa,Program->ac,World->ag,Value->ai,Item->aF,Frame->aH,goexitEntry->aI,mayWake->aJ,Code->aL,Oper->aP,Deferred->aT,FuncId->a7,TypeId->a8,Operand->a9,Addr->bb,execOp->bi,run_underlying->bj,sizeOf->bq,typeInfo->bv,loadVar->bC,Event->bL,loadCellsFrom->bM,events_load->bR,getD_set_ne->bT,deafBehind->b1,events_store->b8,setCell_eq_setRow->b9,setRow_heap->ca,asAddr->cb
open Go.Conc renaming QuitsD->cd,seen_none->ce,aside_setCell->cf,casT_eq->ch,run_cas_hit_entry->ci,events_cas_hit_entry->cm,sync_rw->co,run_cas_miss_entry->cq,events_cas_miss_entry->ct,run_add_entry->cv,events_add_entry->cB,semEvents->cC,semEvents_sync->cQ
open Go.Frame renaming enter->c8
open Go.CallKind renaming early->c9,deferred->da,normal->db
open Array renaming ext->dd,replicate->df,getD_eq_getD_getElem?->dk,getElem?_replicate->dp
open List renaming range->dq
open Go.Region renaming ready->dt,linearise->du
open Go.Region.linearise renaming go->dv
open Go.Ph renaming Clear->dx,AtW1->dC,AtW2->dL
open Go.Sem renaming run->dO,events_bind->dQ,run_bind->dT,events->dU
open Go.Instr renaming indexAt->d8,sureAddr->d9,fieldAt->ea
open Nat renaming lt_or_ge->eb,le_trans->ec
open Option.some renaming injEq->ed
open Go.World renaming cell?->eg
open Go.Value renaming cells->eh,int->ei,tuple->ej,bool->ek,pointer->el,agg->em,func->ep
open Go.Proofs.Tryz renaming progTables->eq,funcs->et
open Go.Extern.Race renaming marked->eu
open Go.Extern.Sync renaming semrelease->eA,semacquire->eD,count->eE,none_->eF
open Go.Extern.Atomic renaming update->eI,loadT->eM,storeT->eN,casT->eP,read->eQ,none_->eS
open Go.Op renaming intArith->eT,load->eV,store->eW,convert->eX,indexAddr->e6,fieldAddr->e7
open Go.ConcR renaming WgAt->e8,wgBlock->e9,wgBlock->fb,mk->fg
open Go.Result renaming andThen->fi,evThen->fl
open Go.MemAct renaming ofEvent->fm,mark->fo
open Or renaming inl->fp,inr->ft
open Go.FrameMode renaming returning->fJ,run->fO,panicking->fP
open Go.Item renaming inRegion->fR,code->fY,beginRound->f0
open Go.IntKind renaming u64->f1,i64->f2,i32->f3,u32->f5
open Go.Code renaming rangeFunc->f6,region->f7,skip->f8
open Go.Operand renaming tmp->f9
open Go.Region.Mode renaming any->gc
open Go.Loc renaming cell->ge
open Go.Mode renaming atomic->gf
set_option maxRecDepth 100000
namespace Go.Ph
open Go.Conc
def ended(g:aa):Bool:=match g.status with
 |.finished=>true
 |_=>false
def mZ{P:ac}:∀(n:Nat){d:Nat}{g:aa},(∀w,vg P false ended w n g=vh P false ended w n g)->(wu P false ended n g).status=.finished->xD P false ended n d g=0->cd P n d g
 |0,_,_,_,h,b=>⟨h,b⟩
 |n+1,d,g,i,h,b=>by
  cases f:ended g with
  |true=>
   simp only[wu,xD,f]at h b;exact fp ⟨h,b⟩
  |false=>
   simp only[wu,xD,f]at h b;have c:∀w,g.status=.running/\stepG P false g w=.go (nx P false g) w (ex P false g)/\mutes (ex P false g)=true/\vg P false ended w n (nx P false g)=vh P false ended w n (nx P false g):=λw=>by
    have:=i w;simp only[vg,vh,f,List.cons.injEq,Prod.mk.injEq]at this;grind
   refine ft ⟨(c default).1,_,_,λe j=>?_,λw=>(c w).2.1,mZ n (λw=>(c w).2.2.2) h b⟩;have:=(c default).2.2.1;simp only[mutes,List.all_eq_true]at this;grind
end Go.Ph
namespace Go.Proofs
open Go.Ph Go.Conc
def lY(g:aa):Bool:=match g.frame.mode with
 |fJ=>(g.frame.fn==54||g.frame.fn==59)
 |fO=>match g.frame.todo with
  |fR _ (_::_)::_=>match bF g with
   |some o=>match o.op with
    |eV .. | eW ..=>true
    |eX _ d _=>d==142
    |.call { callee:=.value (.func f),.. }=>bare.contains f
    |_=>false
   |none=>false
  |_=>false
 |_=>false
noncomputable abbrev T2(mn:Bool)(g:aa):aa:=wu PP mn lY 400 g
structure fL(mn:Bool)(g g':aa):Prop where
 q:ff PP mn lY 400 g
 d:∀d,xD PP mn lY 400 d g=d
 e:T2 mn g=g'
def bU{mn:Bool}{g g':aa}(e:g'=T2 mn g)(b:ff PP mn lY 400 g:=by exact⟨λ_=>ae,ae⟩)(hd:∀d,xD PP mn lY 400 d g=d:=by intro _;kernel_rfl):fL mn g g':=⟨b,hd,e.symm⟩
def fL.run{X:Fix}{V:Vw}{q:Bool}{Stop:Stp}{M:Own}{d:Nat}{g g':aa}{w:ag}{mn:Bool}(h:fL mn g g')(b:X.P=PP)(hg:(V.g==0)=mn)(c:ay X V q Stop M d g' w):ay X V q Stop M d g w:=by
 refine .oO (S:=lY) hg 400 (by rw[b];exact h.q) ?_;have e:wu PP mn lY 400 g=g':=h.e;rw[b,h.d,e];exact c
noncomputable def frD(a:Array ai)(td:List aF):aH:={ fn:=55,tmps:=a,todo:=td,defers:=[],mode:=fJ,kind:=da,roundOf:=none }
noncomputable def ez(P:ac):aH:={ (default:aH) with fn:=P.funcs.size,defers:=[],mode:=fP [aI] }
section
variable (W:Nat)(a:Array ai)(td:List aF)
noncomputable def dE:aa:=G (c8 PP 56 #[pt W] da) [frD a td,ez PP]
noncomputable def d0:aa:=T2 false (dE W a td)
noncomputable def d1:aa:=T2 false (fin (d0 W a td) (pt W))
noncomputable def d2:aa:=T2 false (fin (d1 W a td) (ej #[]))
noncomputable def d3:aa:=T2 false (fin (d2 W a td) (ej #[]))
noncomputable def d4:aa:=T2 false (fin (d3 W a td) (ek false))
noncomputable def d5:aa:=T2 false (fin (d4 W a td) (ei f1 1))
noncomputable def d6:aa:=T2 false (fin (d5 W a td) (ei f1 1))
noncomputable def d7:aa:=T2 false (fin (d6 W a td) (ej #[]))
def d_E:fL false (dE W a td) (d0 W a td):=bU (by delta d0;rfl)
def aiN:gu (d0 W a td)=some (140,142,pt W):=ae
def d_0:fL false (fin (d0 W a td) (pt W)) (d1 W a td):=bU (by delta d1;rfl)
def aiO:az (d1 W a td)=some (76,#[pt W]):=ae
def d_1:fL false (fin (d1 W a td) (ej #[])) (d2 W a td):=bU (by delta d2;rfl)
def aiP:az (d2 W a td)=some (77,#[]):=ae
def d_2:fL false (fin (d2 W a td) (ej #[])) (d3 W a td):=bU (by delta d3;rfl)
def aiQ:az (d3 W a td)=some (79,#[]):=ae
def d_3:fL false (fin (d3 W a td) (ek false)) (d4 W a td):=bU (by delta d4;rfl)
def aiR:az (d4 W a td)=some (109,#[pt W,ei f1 18446744069414584320]):=ae
def d_4:fL false (fin (d4 W a td) (ei f1 1)) (d5 W a td):=bU (by delta d5;rfl)
def aiS:az (d5 W a td)=some (110,#[pt W]):=ae
def d_5:fL false (fin (d5 W a td) (ei f1 1)) (d6 W a td):=bU (by delta d6;rfl)
def aiT:az (d6 W a td)=some (111,#[pt W,ei f1 0]):=ae
def d_6:fL false (fin (d6 W a td) (ej #[])) (d7 W a td):=bU (by delta d7;rfl)
def aiU:gZ (d7 W a td)=some (88,some (el (some ⟨W,1,none⟩))):=ae
def aiV:aJ PP (d7 W a td)=true:=ae
end
noncomputable def uy(W bc bg bm bt:Nat):aa:=
 { frame:={ (default:aH) with fn:=PP.funcs.size,defers:=[{ target:=.fn (.func 55) #[pt W,pt bc,pt bg,pt bm,pt bt],args:=#[] }],mode:=fP [aI] },callers:=[],status:=.running,dying:=none }
section
variable (W bc bg bm bt:Nat)
noncomputable def k0:aa:=T2 false (uy W bc bg bm bt)
def k_E:fL false (uy W bc bg bm bt) (k0 W bc bg bm bt):=bU (by delta k0;rfl)
def aiW:fj (k0 W bc bg bm bt)=some (77,pt bc):=ae
noncomputable def k1(c:ai):aa:=T2 false (fin (k0 W bc bg bm bt) c)
def k_0(c:ai):fL false (fin (k0 W bc bg bm bt) c) (k1 W bc bg bm bt c):=bU (by delta k1;rfl)
def aiX(c:ai):fj (k1 W bc bg bm bt c)=some (3,pt bg):=ae
def DT(g:aa):Bool:=lY g||(match g.frame.todo with
 |[fY _]=>g.frame.fn==49||g.frame.fn==73
 |_=>false)
noncomputable abbrev T3(g:aa):aa:=wu PP false DT 400 g
noncomputable def k2(c:ai)(n:Int):aa:=T3 (fin (k1 W bc bg bm bt c) (ei f2 n))
def k_1(c:ai)(n:Int):ff PP false DT 400 (fin (k1 W bc bg bm bt c) (ei f2 n))/\∀d,xD PP false DT 400 d (fin (k1 W bc bg bm bt c) (ei f2 n))=d:=⟨⟨λw=>ae,ae⟩,λd=>ae⟩
end
def xJ(g:aa):Bool:=match g.frame.mode with
 |fO=>match g.frame.todo with
  |[]=>g.frame.roundOf.isSome
  |f0::_=>true
  |.endRangeFunc _::_=>true
  |fY (f6 ..)::_=>true
  |fY (f7 _ _ true)::_=>true
  |[fY _]=>g.frame.fn==49||g.frame.fn==57||g.frame.fn==58||g.frame.fn==73
  |fR _ (_::_)::_=>match bF g with
   |some o=>match o.op with
    |eV .. | eW .. | .alloc .. | .box ..=>true
    |_=>false
   |none=>false
  |_=>false
 |fJ=>true
 |_=>false
noncomputable abbrev T5(g:aa):aa:=wu PP false xJ 400 g
structure vN(g g':aa):Prop where
 q:ff PP false xJ 400 g
 d:∀d,xD PP false xJ 400 d g=d
 e:T5 g=g'
def jK{g g':aa}(e:T5 g=g')(a:ff PP false xJ 400 g:=by exact⟨λ_=>ae,ae⟩)(hd:∀d,xD PP false xJ 400 d g=d:=by intro _;kernel_rfl):vN g g':=⟨a,hd,e⟩
def vN.run{X:Fix}{V:Vw}{q:Bool}{Stop:Stp}{M:Own}{d:Nat}{g g':aa}{w:ag}(h:vN g g')(a:X.P=PP)(hg:(V.g==0)=false)(b:ay X V q Stop M d g' w):ay X V q Stop M d g w:=by
 refine .oO (S:=xJ) hg 400 (by rw[a];exact h.q) ?_;have e:wu PP false xJ 400 g=g':=h.e;rw[a,h.d,e];exact b
noncomputable def Jt:aL:=((PP.funcs[55]?).bind (·.body)).getD f8
def rangeAt:aL->Option (aL×aL)
 |f6 _ _ a b=>some (a,b)
 |.block _ b=>rangeAt b
 |.seq a b=>match rangeAt a with
  |some x=>some x
  |none=>rangeAt b
 |_=>none
noncomputable def vl:aL:=((rangeAt Jt).getD (f8,f8)).1
noncomputable def lZ:aL:=((rangeAt Jt).getD (f8,f8)).2
def jZ(i:Nat):aL->Option (Array aP)
 |f7 j ops _=>if j==i then some ops else none
 |.block _ b=>jZ i b
 |.loop b=>jZ i b
 |.cond _ a b=>match jZ i a with
  |some x=>some x
  |none=>jZ i b
 |.seq a b=>match jZ i a with
  |some x=>some x
  |none=>jZ i b
 |_=>none
noncomputable def dX:Array aP:=(jZ 4 lZ).getD #[]
section
variable (W bc bg bm bt:Nat)(c:ai)(n:Int)(cl:ai)(v:ai)(lb b5:Nat)(cs:List aH)
def Ul(a:ai)(f:Nat->ai):Nat->ai
 |0=>el (some ⟨W,0,none⟩)|1=>el (some ⟨bc,0,none⟩)|2=>el (some ⟨bg,0,none⟩)|3=>el (some ⟨bm,0,none⟩)|4=>el (some ⟨bt,0,none⟩)|5=>a|6=>c|7=>ei f2 n|8=>cl|9=>v|i=>f i
noncomputable def qJ(a:ai)(f:Nat->ai):Array ai:=zj 20 (Ul W bc bg bm bt c n cl v a f)
noncomputable def rG:List aT:=[{ target:=.fn (.func 56) #[],args:=#[pt W] }]
noncomputable def k3:aa:=T5 (G (((k2 W bc bg bm bt c n).callers.headD default).finish cl) [ez PP])
def aiY:k2 W bc bg bm bt c n=G (c8 PP 49 #[c,ei f2 n] db) [(k2 W bc bg bm bt c n).callers.headD default,ez PP]:=ae
noncomputable def kk:List aF:=(k3 0 0 0 0 0 undef 0 undef).frame.todo.tail
def k_3:vN (G (((k2 W bc bg bm bt c n).callers.headD default).finish cl) [ez PP]) (k3 W bc bg bm bt c n cl):=jK (by delta k3;rfl)
def aiZ:k3 W bc bg bm bt c n cl=G ⟨55,qJ W bc bg bm bt c n cl undef undef (λ_=>undef),fY (f6 (f9 8) #[9] vl lZ)::kk,rG W,fO,da,none⟩ [ez PP]:=ae
noncomputable def rd0(f:Nat->ai):aa:=G (Frame.round lb 55 (qJ W bc bg bm bt c n cl v undef f) vl lZ db) cs
noncomputable def q0(f:Nat->ai):aa:=T5 (rd0 W bc bg bm bt c n cl v lb cs f)
def q_0(f:Nat->ai):vN (rd0 W bc bg bm bt c n cl v lb cs f) (q0 W bc bg bm bt c n cl v lb cs f):=jK (by delta q0;rfl)
def aj0(f:Nat->ai):(bF (q0 W bc bg bm bt c n cl v lb cs f)).map (·.op)=some (.alloc 72):=ae
noncomputable def q1(f:Nat->ai):aa:=T5 (fin (q0 W bc bg bm bt c n cl v lb cs f) (pt b5))
def q_1(f:Nat->ai):vN (fin (q0 W bc bg bm bt c n cl v lb cs f) (pt b5)) (q1 W bc bg bm bt c n cl v lb b5 cs f):=jK (by delta q1;rfl)
def aj1(f:Nat->ai):(bF (q1 W bc bg bm bt c n cl v lb b5 cs f)).map (·.op)=some (eW 72 (f9 5) (f9 9))/\(q1 W bc bg bm bt c n cl v lb b5 cs f).frame.eval (f9 5)=pt b5/\(q1 W bc bg bm bt c n cl v lb b5 cs f).frame.eval (f9 9)=v:=⟨ae,ae,ae⟩
noncomputable def q2(f:Nat->ai):aa:=T5 (fin (q1 W bc bg bm bt c n cl v lb b5 cs f) undef)
def q_2(f:Nat->ai):vN (fin (q1 W bc bg bm bt c n cl v lb b5 cs f) undef) (q2 W bc bg bm bt c n cl v lb b5 cs f):=jK (by delta q2;rfl)
def aj2(f:Nat->ai):q2 W bc bg bm bt c n cl v lb b5 cs f=G ⟨55,qJ W bc bg bm bt c n cl v (pt b5) f,[f0,fY lZ],[],fO,db,some lb⟩ cs:=ae
noncomputable def q3(f:Nat->ai):aa:=T5 (G ⟨55,qJ W bc bg bm bt c n cl v (pt b5) f,[fY lZ],[],fO,db,some lb⟩ cs)
def q_3(f:Nat->ai):vN (G ⟨55,qJ W bc bg bm bt c n cl v (pt b5) f,[fY lZ],[],fO,db,some lb⟩ cs) (q3 W bc bg bm bt c n cl v lb b5 cs f):=jK (by delta q3;rfl)
noncomputable def c0(f:Nat->ai):aH:=(q3 W bc bg bm bt c n cl v lb b5 cs f).callers.headD default
def aj3(f:Nat->ai):q3 W bc bg bm bt c n cl v lb b5 cs f=G (c8 PP 57 #[pt bm] db) (c0 W bc bg bm bt c n cl v lb b5 cs f::cs):=ae
noncomputable def q4(f:Nat->ai):aa:=T5 (G ((c0 W bc bg bm bt c n cl v lb b5 cs f).finish (ej #[])) cs)
def q_4(f:Nat->ai):vN (G ((c0 W bc bg bm bt c n cl v lb b5 cs f).finish (ej #[])) cs) (q4 W bc bg bm bt c n cl v lb b5 cs f):=jK (by delta q4;rfl)
noncomputable def kr:List aF:=(q4 0 0 0 0 0 undef 0 undef undef 0 0 [] (λ_=>undef)).frame.todo.tail
def aj4(f:Nat->ai):q4 W bc bg bm bt c n cl v lb b5 cs f=G ⟨55,qJ W bc bg bm bt c n cl v (pt b5) (px 10 (ej #[]) f),fY (f7 4 dX true)::kr,[],fO,db,some lb⟩ cs:=ae
end
end Go.Proofs
namespace Go.Ph
open Go.Conc Go.ConcN Go.bJ Go.Proofs
section
variable {fn:a7}{tmps:Array ai}{ops:Array aP}{i:Nat}{rest:List Nat}{k:List aF}{ds:List aT}{kind:CallKind}{ro:Option Nat}{cs:List aH}{o:aP}
def DU(b:(kind==c9)=false)(c:ops[i]?=some o)(hg:o.guard=none)(hd:pS o.op=true):bF (G ⟨fn,tmps,fR ops (i::rest)::k,ds,fO,kind,ro⟩ cs)=some o:=by
 simp[bF,G,b,c,Region.wanted,hg,hd]
def xK(v:ai):fin (G ⟨fn,tmps,fR ops (i::rest)::k,ds,fO,kind,ro⟩ cs) v=G ⟨fn,(match(ops[i]?).bind (·.dst) with|some d=>tmps.setIfInBounds d v|none=>tmps),fR ops rest::k,ds,fO,kind,ro⟩ cs:=rfl
def Ju{n j:Nat}{F:Nat->ai}(h:j<n):(zj n F).getD j undef=F j:=by
 simp[zj,h]
def Jv{n j:Nat}{F:Nat->ai}{v:ai}:(zj n F).setIfInBounds j v=zj n (px j v F):=by
 apply dd
 .simp[zj]
 .intro i b c;simp only[zj,Array.getElem_setIfInBounds,List.getElem_toArray,List.getElem_map,List.getElem_range,px];grind
def Ap{n:Nat}{F b:Nat->ai}(h:∀i,i<n->F i=b i):zj n F=zj n b:=by
 unfold zj;grind
end
def left(ops:Array aP)(listed:Array Bool):Nat:=((dq ops.size).filter λi=>!listed.getD i true).length
def DV{ops:Array aP}{listed:Array Bool}{i:Nat}(hi:i<ops.size)(h:listed.getD i true=false):left ops (listed.setIfInBounds i true)<left ops listed:=by
 unfold left;have b:i<listed.size:=by
  grind
 have sub:∀l:List Nat,(l.filter λj=>!(listed.setIfInBounds i true).getD j true).length+(if i∈l then 1 else 0)<=(l.filter λj=>!listed.getD j true).length:=by
  intro l
  induction l with
  |nil=>simp
  |cons a l c=>
   by_cases e:i=a
   .subst e;have e1:(listed.setIfInBounds i true).getD i true=true:=by simp[b]
    grind
   .have e1:(listed.setIfInBounds i true).getD a true=listed.getD a true:=getD_set_ne true e;grind
 grind
section
variable {X:Fix}{V:Vw}{Stop:Stp}{M:Own}{d:Nat}{ops:Array aP}
def ay.lin{st:Array Bool->List Nat->aa}{I:Array Bool->ag->Prop}
 (j:∀listed w,dt gc ops listed=[]->I listed w->ay X V false Stop M d (st listed []) w)
 (l:∀listed i rest w,i∈dt gc ops listed->I listed w->(∀w',I (listed.setIfInBounds i true) w'->ay X V false Stop M d (st (listed.setIfInBounds i true) rest) w')->ay X V false Stop M d (st listed (i::rest)) w) :
 ∀fuel t listed w,I listed w->left ops listed<=fuel->ay X V false Stop M d (st listed (dv gc ops fuel t listed [])) w:=by
 intro fuel
 induction fuel with
 |zero=>
  intro t listed w b hl;have f:dt gc ops listed=[]:=by
   apply List.eq_nil_iff_forall_not_mem.2;intro i hi;obtain⟨c,o,e,_⟩:=mem_ready.1 hi;have:=DV (Array.getElem?_eq_some_iff.1 e).1 c;omega
  simpa[dv]using j listed w f b
 |succ fuel m=>
  intro t listed w b hl;simp only[dv]
  change ay X V false Stop M d (st listed (match(dt gc ops listed)[t % (dt gc ops listed).length]? with
   |some i=>dv gc ops fuel (t / (dt gc ops listed).length) (listed.setIfInBounds i true) [i]
   |none=>[].reverse)) w
  cases hi:(dt gc ops listed)[t % (dt gc ops listed).length]? with
  |none=>
   have n:dt gc ops listed=[]:=by
    cases f:dt gc ops listed with
    |nil=>rfl
    |cons x xs=>
     grind[Nat.mod_lt]
   grind
  |some i=>
   have h:=List.mem_of_getElem? hi;simp only[];rw[linearise_go_acc,List.reverse_singleton,List.singleton_append];refine l listed i _ w h b λw' p=>m _ _ w' p ?_;obtain⟨c,o,e,_⟩:=mem_ready.1 h;have:=DV (Array.getElem?_eq_some_iff.1 e).1 c;omega
def ay.draw{fn:a7}{tmps:Array ai}{k:List aF}{ds:List aT}{kind:CallKind}{ro:Option Nat}{cs:List aH}{id:Nat}{w:ag}(hc:dx X V M)(c:X.P.follows .mixedOrders=true)
 (h:∀t,ay X V false Stop M d (G ⟨fn,tmps,fR ops (du gc ops t)::k,ds,fO,kind,ro⟩ cs) w):ay X V false Stop M d (G ⟨fn,tmps,fY (f7 id ops true)::k,ds,fO,kind,ro⟩ cs) w:=
 .idle hc rfl λb _=>⟨G ⟨fn,tmps,fR ops (du gc ops (b.tape b.drawn (.order fn id)))::k,ds,fO,kind,ro⟩ cs,{ b with drawn:=b.drawn+1 },#[],by
  simp[G,stepG,stepG.exec,choose,dO,Question.forced,Question.cut,Region.schedule,c],rfl,rfl,.refl _,rfl,ar,rfl,h _⟩
end
section
variable {P:ac}{mn:Bool}{w:ag}{g:aa}{o:aP}{t elem:a8}{x ix:a9}{len:Nat}{k:IntKind}{i:Int}{a:bb}{sz:Nat}
def qK(j:bF g=some o)(l:o.op=e6 t x ix)(m:g.frame.eval x=el (some a))(hi:g.frame.eval ix=ei k i)
 (e:P.underlying t=some (.array len elem)) (hs:(P.info? elem).map (·.size)=some sz) (f:0<=i) (h:i<len) :
 stepG P mn g w=.go (fin g (el (some (a.add (i.toNat*sz))))) w #[]:=by
 have e1:bi g.frame.eval o=(do pure (.value (<-d8 t (el (some a)) (ei k i))):Sem Next):=by
  unfold bi;simp only[l,m,hi]
 cases b:P.info? elem with
 |none=>simp[b]at hs
 |some c=>
  have n:c.size=sz:=by simpa[b]using hs
  have p:(d8 t (el (some a)) (ei k i)).run P w=.ok (el (some (a.add (i.toNat*sz)))) w:=by
   simp[d8,asIntOf,bj e,d9,f,h,bq,bv,b,n]
  have q:(d8 t (el (some a)) (ei k i)).events P w #[]=#[]:=by
   simp[d8,asIntOf,bj e,d9,f,h,bq,bv,b]
  rw[dF (v:=el (some (a.add (i.toNat*sz)))) (w':=w) j (by rw[e1];simp[p]),e1];simp[q,ce]
end
end Go.Ph
namespace Go.Ph
open Go.Conc Go.ConcN Go.bJ
section
variable {P:ac}{w:ag}{t:a8}{a:bb}{v:ai}
def Mx(a:bb)(j:Nat):(a.add j).block=a.block:=by unfold Addr.add;split<;>rfl
theorem dY(b o j:Nat):(⟨b,o,none⟩:bb).add j=⟨b,o+j,none⟩:=by unfold Addr.add;split<;>simp_all
structure G7(P:ac)(w:ag)(t:a8)(a:bb)(v:ai):Prop where
 run:(bC t a).run P w=.ok v w
 ev:∀e∈(bC t a).events P w #[],∃a':bb,a'.block=a.block/\e=⟨ge a',false,false⟩
def qL(a:bb):∀(n i:Nat)(b:Array ai)(es:Array bL),(∀j,j<n->(w.cell? (a.add (i+j))).isSome)->∀e∈(bM a i n b).events P w es,e∈es\/∃j,e=⟨ge (a.add j),false,false⟩
 |0,_,_,_,_=>λe h=>fp (by simpa[bM]using h)
 |n+1,i,b,es,hc=>λe h=>by
  simp only[bM,dQ]at h;obtain⟨u,c⟩:=Option.isSome_iff_exists.1 (hc 0 ab);simp only[Nat.add_zero]at c;have f:(load (a.add i)).run P w=.ok u w:=by simp[c]
  have k:(load (a.add i)).events P w es=es.push ⟨ge (a.add i),false,false⟩:=by
   rw[bR,c];rfl
  rw[f,k]at h
  rcases qL a n (i+1) (b.push u) _ (λj l=>aS) e h with h|h
  .grind
  .exact ft h
def sH{d:TypeDesc}{n:Nat}{f:Nat->ai}(k:P.underlying t=some d)(hd:(match d with | .struct _ | .array _ _=>true|_=>false)=true)(hi:(P.info? t).map (·.size)=some n)
 (h:∀j,j<n->w.cell? (a.add j)=some (f j)):G7 P w t a (em ((dq n).map f).toArray):=by
 have c:(isAgg t).run P w=.ok true w:=by
  unfold isAgg;rw[dT,bj k w];cases d<;>simp_all
 have l:(isAgg t).events P w #[]=#[]:=by
  simp_all
 cases b:P.info? t with
 |none=>simp[b]at hi
 |some i=>
  have hs:i.size=n:=by simpa[b]using hi
  have hl:=run_loadCells (P:=P) w a n f h;refine⟨by simp[bC,dT,c,bq,bv,b,hs,hl],λe m=>?_⟩;have:e∈(loadCells a n).events P w #[]:=by simpa[bC,dQ,c,l,bq,bv,b,hs,hl]using m
  rcases qL (P:=P) (w:=w) a n 0 #[] #[] (λj p=>aS) e this with h|⟨j,h⟩
  .simp at h
  .exact⟨_,Mx a j,h⟩
def l8{d:TypeDesc}(c:P.underlying t=some d)(hd:(match d with | .struct _ | .array _ _=>true|_=>false)=false)(h:w.cell? a=some v):G7 P w t a v:=by
 have b:(isAgg t).run P w=.ok false w:=by
  unfold isAgg;rw[dT,bj c w];cases d<;>simp_all
 have f:(isAgg t).events P w #[]=#[]:=by
  simp_all
 refine⟨by simp[bC,dT,b,h],λe i=>?_⟩;have:e∈(load a).events P w #[]:=by simpa[bC,dQ,b,f]using i
 simp_all
def zI{mn:Bool}{g:aa}{o:aP}{x:a9}(b:bF g=some o)(c:o.op=.nilCheck x)(e:g.frame.eval x=el (some a)):stepG P mn g w=.go (fin g (el (some a))) w #[]:=by
 have e1:bi g.frame.eval o=pure (.value (el (some a))):=by
  unfold bi;simp only[c,e]
 rw[dF (v:=el (some a)) (w':=w) b (by rw[e1];rfl),e1];simp[ce]
variable {X:Fix}{V:Vw}{Stop:Stp}{M:Own}{d:Nat}{g:aa}{o:aP}{x:a9}
def ay.qM(hc:dx X V M)(hl:Live X w)(c:bF g=some o)(e:o.op=eV t x)(f:g.frame.eval x=el (some a))
 (h:∀b,Rl X V M w b->G7 X.P b t a v/\a.block<b.heap.size)
 (i:(V.st a.block/\∀a':bb,a'.block=a.block->¬X.Shun (ge a'))\/M a.block) (j:ay X V false Stop M d (fin g v) w):ay X V false Stop M d g w:=
 .load hc hl c e f (λb r=>⟨(h b r).1.run,(h b r).2,(h b r).1.ev⟩) i j
def ay.DW{g':aa}{w:ag}(hc:dx X V M)(hs:g.status=.running)(h:∀w,stepG X.P (V.g==0) g w=.go g' w #[])(c:g'.status=.running)(e:ay X V false Stop M d g' w):ay X V false Stop M d g w:=
 .idle hc hs λb _=>⟨_,b,#[],h b,rfl,rfl,.refl _,rfl,ar,c,e⟩
end
end Go.Ph
namespace Go.Proofs
open Go.Ph Go.Conc Go.bJ
def jL{i:Nat}{op:Op}{dst:Option Tmp}(h:(dX[i]?).map (λo=>(o.op,o.dst,o.guard))=some (op,dst,none)):∃o,dX[i]?=some o/\o.op=op/\o.dst=dst/\o.guard=none:=by
 grind
def adz:(dX[0]?).map (λo=>(o.op,o.dst,o.guard))=some (eV 81 (f9 4),some 11,none):=ae
def adA:(dX[1]?).map (λo=>(o.op,o.dst,o.guard))=some (eV 3 (f9 2),some 12,none):=ae
def adB:(dX[2]?).map (λo=>(o.op,o.dst,o.guard))=some (e7 72 (f9 5) 0,some 13,none):=ae
def adC:(dX[3]?).map (λo=>(o.op,o.dst,o.guard))=some (eV 3 (f9 13),some 14,none):=ae
def adD:(dX[4]?).map (λo=>(o.op,o.dst,o.guard))=some (eV 72 (f9 5),some 15,none):=ae
def adE:(dX[5]?).map (λo=>(o.op,o.dst,o.guard))=some (.nilCheck (f9 11),some 16,none):=ae
def adF:(dX[6]?).map (λo=>(o.op,o.dst,o.guard))=some (e6 113 (f9 16) (f9 12),some 17,none):=ae
def adG:(dX[7]?).map (λo=>(o.op,o.dst,o.guard))=some (e6 111 (f9 17) (f9 14),some 18,none):=ae
def adH:(dX[8]?).map (λo=>(o.op,o.dst,o.guard))=some (eW 72 (f9 18) (f9 15),none,none):=ae
def Pw:dX.size=9:=ae
def Aq:(dq 9).map (λi=>((dX[i]?).map λo=>o.after.toList.map (·.on)))=[some [],some [],some [],some [2],some [],some [0],some [5,1],some [6,3,0,1,2,3,4],some [7,4,0,1,2,3,4]]:=ae
def My:dX.all (λo=>o.after.all (Region.binds gc))=true:=ae
def mixed:PP.follows .mixedOrders=true:=ae
def WW:PP.underlying 81=some (.pointer 113):=ae
def ty3:PP.underlying 3=some (.int f2):=ae
noncomputable def fieldsOf(t:a8):Array Field:=match PP.underlying t with
 |some (.struct fs)=>fs
 |_=>#[]
def aj6:PP.underlying 72=some (.struct (fieldsOf 72)):=ae
def Un:(PP.info? 72).map (·.size)=some 5:=ae
def adJ:PP.underlying 113=some (.array 3 111):=ae
def DX{mn:Bool}{g:aa}{o:aP}{x:a9}{w:ag}{b:Nat}(c:bF g=some o)(e:o.op=e7 72 x 0)(f:g.frame.eval x=el (some ⟨b,0,none⟩)):stepG PP mn g w=.go (fin g (el (some ⟨b,0,none⟩))) w #[]:=by
 have e1:bi g.frame.eval o=(do pure (.value (<-ea 72 (el (some ⟨b,0,none⟩)) 0)):Sem Next):=by
  unfold bi;simp only[e,f]
 have h:∀es,(ea 72 (el (some ⟨b,0,none⟩)) 0).runT PP w es=(.ok (el (some ⟨b,0,none⟩)) w,es):=λes=>ae;have i:(ea 72 (el (some ⟨b,0,none⟩)) 0).run PP w=.ok (el (some ⟨b,0,none⟩)) w:=by rw[<-Sem.runT_fst,h #[]]
 have j:(ea 72 (el (some ⟨b,0,none⟩)) 0).events PP w #[]=#[]:=bo;rw[dF (v:=el (some ⟨b,0,none⟩)) (w':=w) c (by rw[e1];simp[i]),e1];simp[j,ce]
def adK:(PP.info? 111).map (·.size)=some 25:=ae
def adM:PP.underlying 111=some (.array 5 72):=ae
structure R4(X:Fix)(V:Vw)(M:Own)(Q Q':ag->Prop)(bg bt b5 n p:Nat)(vs:Array ai):Prop where
 hP:X.P=PP
 hg:(V.g==0)=false
 hc:dx X V M
 hQ:∀w w',Q w->Rl X V M w w'->Q w'
 live:∀w,Q w->Live X w
 st:∀b,V.st b->∀a':bb,a'.block=b->¬X.Shun (ge a')
 bt:V.st bt/\∀w,Q w->w.cell? ⟨bt,0,none⟩=some (el (some ⟨X.Tb,0,none⟩))
 bg:V.st bg/\∀w,Q w->w.cell? ⟨bg,0,none⟩=some (ei f2 (n:Int))
 b5:M b5/\∀w,Q w->∃fz,w.heap[b5]?=some (.cells vs 72 fz)
 hv:vs.size=5/\vs[0]?=some (ei f2 (p:Int))/\∀c∈vs,c.oneCell'=true
 hn:n<3
 hp:p<5
 fW:X.size=75
 row:∀j,j<5->V.row (n*25+p*5+j)
 hQ':∀w w',Q w->Live X w'->w'.heap.size=w.heap.size->(∀b,b≠X.Tb->w'.heap[b]?=w.heap[b]?)->(∀j,j<5->w'.cell? ⟨X.Tb,n*25+p*5+j,none⟩=vs[j]?)->(∀j,(j<n*25+p*5\/n*25+p*5+5<=j)->w'.cell? ⟨X.Tb,j,none⟩=w.cell? ⟨X.Tb,j,none⟩)->Q' w'
section
variable {X:Fix}{V:Vw}{Stop:Stp}{M:Own}{Q Q':ag->Prop}{bg bt b5 n p:Nat}{vs:Array ai}
def zJ(a b5 n p:Nat)(vs:Array ai):Nat->ai
 |0=>el (some ⟨a,0,none⟩)
 |1=>ei f2 (n:Int)
 |2=>el (some ⟨b5,0,none⟩)
 |3=>ei f2 (p:Int)
 |4=>em vs
 |5=>el (some ⟨a,0,none⟩)
 |6=>el (some ⟨a,n*25,none⟩)
 |_=>el (some ⟨a,n*25+p*5,none⟩)
def Jw(fv base:Nat->ai)(listed:Array Bool):Nat->ai:=λi=>if 11<=i/\i<=18/\listed.getD (i-11) false=true then fv (i-11) else base i
def oS{fv base:Nat->ai}{listed:Array Bool}{i:Nat}(h:i<11):Jw fv base listed i=base i:=by
 unfold Jw;rw[if_neg ab]
def kN{fv base:Nat->ai}{listed:Array Bool}{i:Nat}(h:i<8)(hl:listed.getD i false=true):Jw fv base listed (11+i)=fv i:=by
 unfold Jw;grind
def Uo{fv base:Nat->ai}{listed:Array Bool}{i:Nat}(h:i<8)(hs:i<listed.size):px (11+i) (fv i) (Jw fv base listed)=Jw fv base (listed.setIfInBounds i true):=by
 funext j;unfold px Jw;by_cases e:j=11+i
 .subst e;have e1:11+i-11=i:=ab;rw[if_pos rfl,if_pos ⟨ab,ab,by rw[e1];simp[hs]⟩,e1]
 .rw[if_neg e];by_cases c:11<=j/\j<=18
  .have a:i≠j-11:=ab;rw[bT false a]
  grind
def Px{fv base:Nat->ai}{listed:Array Bool}:Jw fv base (listed.setIfInBounds 8 true)=Jw fv base listed:=by
 funext j;unfold Jw;by_cases c:11<=j/\j<=18
 .have a:8≠j-11:=ab;rw[bT false a]
 grind
def Y0{listed:Array Bool}{i:Nat}(h:i∈dt gc dX listed):i<9/\listed.getD i true=false/\i<listed.size/\
 (i=3->listed.getD 2 false=true)/\(i=5->listed.getD 0 false=true)/\(i=6->listed.getD 5 false=true/\listed.getD 1 false=true)/\(i=7->listed.getD 6 false=true/\listed.getD 3 false=true)/\
 (i=8->listed.getD 7 false=true/\listed.getD 4 false=true):=by
 obtain⟨f,o,c,g⟩:=mem_ready.1 h;have hi:i<9:=by have:=(Array.getElem?_eq_some_iff.1 c).1;rw[Pw]at this;exact this
 have hs:i<listed.size:=by
  rcases eb i listed.size with d|d
  .exact d
  .simp[d]at f
 have hb:∀e∈o.after,listed.getD e.on false=true:=λe b=>g e b (by
  have:=Array.all_eq_true_iff_forall_mem.1 My o (Array.mem_of_getElem? c)
  exact Array.all_eq_true_iff_forall_mem.1 this e b)
 have k:(dq 9)[i]?=some i:=by simp[hi]
 have hl:((dq 9).map (λi=>((dX[i]?).map λo=>o.after.toList.map (·.on))))[i]?=some (some (o.after.toList.map (·.on))):=by
  rw[List.getElem?_map,k];simp[c]
 rw[Aq]at hl;have a:∀j,j∈o.after.toList.map (·.on)->listed.getD j false=true:=λj l=>by
  obtain⟨e,b,rfl⟩:=List.mem_map.1 l;exact hb e (Array.mem_toList_iff.1 b)
 refine⟨hi,f,hs,λe=>?_,λe=>?_,λe=>?_,λe=>?_,λe=>?_⟩<;>subst e<;>simp only[List.getElem?_cons_succ,List.getElem?_cons_zero,ed]at hl<;>rw[<-hl]at a
 .exact a 2 ar
 .exact a 0 ar
 .exact⟨a 5 ar,a 1 ar⟩
 .exact⟨a 6 ar,a 3 ar⟩
 .exact⟨a 7 ar,a 4 ar⟩
def aj8{listed:Array Bool}(h:dt gc dX listed=[])(hs:listed.size=9):∀i,i<9->listed.getD i false=true:=by
 have key:∀i,i<9->(∀j,(∃l,((dq 9).map (λi=>((dX[i]?).map λo=>o.after.toList.map (·.on))))[i]?=some (some l)/\j∈l)->listed.getD j false=true)->listed.getD i false=true:=by
  intro i hi b
  cases hg:listed.getD i true with
  |true=>
   grind
  |false=>
   have c:i<dX.size:=by rw[Pw];exact hi
   have:i∈dt gc dX listed:=mem_ready.2 ⟨hg,dX[i],Array.getElem?_eq_getElem c,λe d _=>b _ ⟨dX[i].after.toList.map (·.on),by
    grind,List.mem_map.2 ⟨e,Array.mem_toList_iff.2 d,rfl⟩⟩⟩
   grind
 rw[Aq]at key;have k0:=key 0 ab ar;have k1:=key 1 ab ar;have k2:=key 2 ab ar;have k3:=key 3 ab (by simp at k2;simp[k2]);have f:=key 4 ab ar;have a:=key 5 ab (by simp at k0;simp[k0]);have g:=key 6 ab (by simp at a k1;simp[a,k1]);have k:=key 7 ab bo;have m:=key 8 ab bo;intro i hi;obtain rfl|rfl|rfl|rfl|rfl|rfl|rfl|rfl|rfl:i=0\/i=1\/i=2\/i=3\/i=4\/i=5\/i=6\/i=7\/i=8:=ab
 all_goals assumption
def Y1(listed:Array Bool):Prop:=(listed.getD 3 false=true->listed.getD 2 false=true)/\(listed.getD 5 false=true->listed.getD 0 false=true)/\(listed.getD 6 false=true->listed.getD 5 false=true/\listed.getD 1 false=true)/\
 (listed.getD 7 false=true->listed.getD 6 false=true/\listed.getD 3 false=true)/\(listed.getD 8 false=true->listed.getD 7 false=true/\listed.getD 4 false=true)
def MA(n j:Nat):(df n false).getD j false=false:=by
 rw[dk,dp];split<;>rfl
def Py(n:Nat):Y1 (df n false):=by
 unfold Y1;simp only[MA];simp
def Up{listed:Array Bool}(h:Y1 listed)(f:listed.getD 8 false=true):∀i,i<9->listed.getD i false=true:=by
 obtain⟨a,b,c,d,e⟩:=h;grind
def Uq{listed:Array Bool}{i:Nat}(h:Y1 listed)(hs:i<listed.size)(k:(i=3->listed.getD 2 false=true)/\(i=5->listed.getD 0 false=true)/\(i=6->listed.getD 5 false=true/\listed.getD 1 false=true)/\(i=7->listed.getD 6 false=true/\listed.getD 3 false=true)/\
 (i=8->listed.getD 7 false=true/\listed.getD 4 false=true)):Y1 (listed.setIfInBounds i true):=by
 obtain⟨a,b,c,d,e⟩:=h;obtain⟨f,b',g,l,m⟩:=k;have or:∀j,(listed.setIfInBounds i true).getD j false=true->i=j\/listed.getD j false=true:=λj o=>by
  by_cases e:i=j
  .exact fp e
  simp_all
 have up:∀{j},listed.getD j false=true->(listed.setIfInBounds i true).getD j false=true:=λh=>Go.getD_set_true h;refine⟨λh=>?_,λh=>?_,λh=>?_,λh=>?_,λh=>?_⟩
 .exact up ((or _ h).elim f a)
 .exact up ((or _ h).elim b' b)
 .grind
 .grind
 grind
noncomputable def Ur(F:Nat->ai)(a:List aF)(lb:Nat):aH:=⟨55,zj 20 F,a,[],fO,db,some lb⟩
noncomputable def DY(fv base:Nat->ai)(lb:Nat)(cs:List aH)(listed:Array Bool)(rest:List Nat):aa:=G (Ur (Jw fv base listed) (fR dX rest::kr) lb) cs
def vm{fv base:Nat->ai}{lb:Nat}{cs:List aH}{listed:Array Bool}{rest:List Nat}{i:Nat}{o:aP}(a:dX[i]?=some o)(hd:o.dst=some (11+i))(h:i<8)(hs:i<listed.size) :
 fin (DY fv base lb cs listed (i::rest)) (fv i)=DY fv base lb cs (listed.setIfInBounds i true) rest:=by
 unfold DY Ur;rw[xK,a];simp only[Option.bind_some,hd,Jv,Uo h hs]
def adN{fv base:Nat->ai}{lb:Nat}{cs:List aH}{listed:Array Bool}{rest:List Nat}{o:aP}(a:dX[8]?=some o)(hd:o.dst=none)(v:ai) :
 fin (DY fv base lb cs listed (8::rest)) v=DY fv base lb cs (listed.setIfInBounds 8 true) rest:=by
 unfold DY Ur;rw[xK,a];simp only[Option.bind_some,hd,Px]
def Us{fv base:Nat->ai}{lb:Nat}{cs:List aH}{listed:Array Bool}{rest:List Nat}{i:Nat}{o:aP}(a:dX[i]?=some o)(hg:o.guard=none)(hd:pS o.op=true):bF (DY fv base lb cs listed (i::rest))=some o:=
 DU rfl a hg hd
def NP{F:Nat->ai}{a:List aF}{lb j:Nat}(h:j<20):(Ur F a lb).eval (f9 j)=F j:=Ju h
def Ut(R:R4 X V M Q Q' bg bt b5 n p vs){base:Nat->ai}(C:base 2=el (some ⟨bg,0,none⟩))(S:base 4=el (some ⟨bt,0,none⟩))(N:base 5=el (some ⟨b5,0,none⟩)){lb:Nat}{cs:List aH}{d:Nat}{w:ag}(T:Q w)
 (U:∀F w',(∀j,j<11->F j=base j)->Q' w'->ay X V false Stop M d (G (Ur F (fR dX []::kr) lb) cs) w') :
 ay X V false Stop M d (G (Ur base (fY (f7 4 dX true)::kr) lb) cs) w:=by
 have W:(V.g==0)=false:=R.hg;refine .draw R.hc (by rw[R.hP];exact mixed) λt=>?_;have Y:G ⟨55,zj 20 base,fR dX (du gc dX t)::kr,[],fO,db,some lb⟩ cs=DY (zJ X.Tb b5 n p vs) base lb cs (df dX.size false) (dv gc dX dX.size t (df dX.size false) []):=by
  unfold DY Ur;have:Jw (zJ X.Tb b5 n p vs) base (df dX.size false)=base:=by
   funext j;unfold Jw;rw[if_neg];intro h;have:=h.2.2;rw[dk,dp]at this;grind
  rw[this];rfl
 rw[Y];refine ay.lin (I:=λlisted w'=>listed.size=9/\Y1 listed/\(if listed.getD 8 false=true then Q' w' else Q w')) (λlisted w' Z B=>?_) (λlisted i b w' hi B k=>?_) dX.size t _ w ⟨by rw[Array.size_replicate];exact Pw,Py _,?_⟩ ?_
 .have ha:=aj8 Z B.1;have s:=B.2.2;rw[if_pos (ha 8 ab)]at s;exact U _ _ (λj x=>oS x) s
 .obtain⟨D,h0,hs,a3,O,E,H,J⟩:=Y0 hi;obtain⟨fW,y,s⟩:=B;have K:listed.getD 8 false=false:=by
   cases K:listed.getD 8 false with
   |false=>rfl
   |true=>
    have:=Up y K i D;grind
  rw[if_neg (by rw[K];simp)]at s;have WY:=Uq y hs ⟨a3,O,E,H,J⟩;have next:∀w',i≠8->Q w'->(listed.setIfInBounds i true).size=9/\Y1 (listed.setIfInBounds i true)/\(if(listed.setIfInBounds i true).getD 8 false=true then Q' w' else Q w'):=λw' bu s=>by
   simp_all
  have hl:=R.live _ s;have L:∀{w:ag}{a:bb}{v:ai},w.cell? a=some v->a.block<w.heap.size:=λ{w a v}h=>by
   unfold eg at h;grind
  have z:∀u,Q u->∀j,j<5->u.cell? ((⟨b5,0,none⟩:bb).add j)=some (vs.getD j undef):=λu h j x=>by
   obtain⟨fz,h⟩:=R.b5.2 _ h;have zK:j<vs.size:=by rw[R.hv.1];exact x
   rw[dY,Nat.zero_add,cell_of_row _ _ _ _ _ _ h];simp[zK]
  have Ua:((dq 5).map λj=>vs.getD j undef).toArray=vs:=by
   apply dd
   .simp[R.hv.1]
   .intro j h1 C;simp[C]
  obtain rfl|rfl|rfl|rfl|rfl|rfl|rfl|rfl|rfl:i=0\/i=1\/i=2\/i=3\/i=4\/i=5\/i=6\/i=7\/i=8:=ab
  .obtain⟨o,l,e1,m,q⟩:=jL adz;refine .qM (v:=zJ X.Tb b5 n p vs 0) R.hc hl (Us l q (by rw[e1];rfl)) e1 ((NP ab).trans ((oS ab).trans S)) (λu r=>?_) (fp ⟨R.bt.1,R.st _ R.bt.1⟩) ?_
   .have:=R.bt.2 _ (R.hQ _ _ s r);exact⟨l8 (by rw[R.hP];exact WW) rfl this,L this⟩
   .rw[vm l m ab hs];grind
  .obtain⟨o,l,e1,m,q⟩:=jL adA;refine .qM (v:=zJ X.Tb b5 n p vs 1) R.hc hl (Us l q (by rw[e1];rfl)) e1 ((NP ab).trans ((oS ab).trans C)) (λu r=>?_) (fp ⟨R.bg.1,R.st _ R.bg.1⟩) ?_
   .have:=R.bg.2 _ (R.hQ _ _ s r);exact⟨l8 (by rw[R.hP];exact ty3) rfl this,L this⟩
   .rw[vm l m ab hs];grind
  .obtain⟨o,l,e1,m,q⟩:=jL adB;refine .DW (g':=fin (DY (zJ X.Tb b5 n p vs) base lb cs listed (2::b)) (zJ X.Tb b5 n p vs 2)) R.hc rfl (λw=>?_) rfl ?_
   .rw[W,R.hP];have hx:(Ur (Jw (zJ X.Tb b5 n p vs) base listed) (fR dX (2::b)::kr) lb).eval (f9 5)=el (some ⟨b5,0,none⟩):=(NP ab).trans ((oS ab).trans N);exact DX (Us l q (by rw[e1];rfl)) e1 hx
   .rw[vm l m ab hs];grind
  .obtain⟨o,l,e1,m,q⟩:=jL adC;refine .qM (v:=zJ X.Tb b5 n p vs 3) R.hc hl (Us l q (by rw[e1];rfl)) e1 ((NP ab).trans (kN (i:=2) ab (a3 rfl))) (λu r=>?_) (ft R.b5.1) ?_
   .have h:=z _ (R.hQ _ _ s r) 0 ab;have e:vs.getD 0 undef=ei f2 (p:Int):=by rw[dk,R.hv.2.1];rfl
    rw[e,dY]at h;exact⟨l8 (by rw[R.hP];exact ty3) rfl h,L h⟩
   .rw[vm l m ab hs];grind
  .obtain⟨o,l,e1,m,q⟩:=jL adD;refine .qM (v:=zJ X.Tb b5 n p vs 4) R.hc hl (Us l q (by rw[e1];rfl)) e1 ((NP ab).trans ((oS ab).trans N)) (λu r=>?_) (ft R.b5.1) ?_
   .have A:=R.hQ _ _ s r;have:=sH (P:=X.P) (w:=u) (t:=72) (a:=⟨b5,0,none⟩) (n:=5) (f:=λj=>vs.getD j undef) (by rw[R.hP];exact aj6) rfl (by rw[R.hP];exact Un) (z _ A);rw[Ua]at this;obtain⟨fz,hb⟩:=R.b5.2 _ A;exact⟨this,(Array.getElem?_eq_some_iff.1 hb).1⟩
   .rw[vm l m ab hs];grind
  .obtain⟨o,l,e1,m,q⟩:=jL adE;refine .DW (g':=fin (DY (zJ X.Tb b5 n p vs) base lb cs listed (5::b)) (zJ X.Tb b5 n p vs 5)) R.hc rfl (λw=>?_) rfl ?_
   .exact zI (Us l q (by rw[e1];rfl)) e1 ((NP ab).trans (kN (i:=0) ab (O rfl)))
   .rw[vm l m ab hs];grind
  .obtain⟨o,l,e1,m,q⟩:=jL adF;refine .DW (g':=fin (DY (zJ X.Tb b5 n p vs) base lb cs listed (6::b)) (zJ X.Tb b5 n p vs 6)) R.hc rfl (λw=>?_) rfl ?_
   .have x1:(DY (zJ X.Tb b5 n p vs) base lb cs listed (6::b)).frame.eval (f9 16)=el (some ⟨X.Tb,0,none⟩):=(NP ab).trans (kN (i:=5) ab (E rfl).1);have x2:(DY (zJ X.Tb b5 n p vs) base lb cs listed (6::b)).frame.eval (f9 12)=ei f2 (n:Int):=(NP ab).trans (kN (i:=1) ab (E rfl).2);have:=qK (P:=X.P) (mn:=V.g==0) (w:=w) (Us l q (by rw[e1];rfl)) e1 x1 x2 (by rw[R.hP];exact adJ) (by rw[R.hP];exact adK) ab (by have:=R.hn;omega);rw[dY]at this;simpa[zJ]using this
   .rw[vm l m ab hs];grind
  .obtain⟨o,l,e1,m,q⟩:=jL adG;refine .DW (g':=fin (DY (zJ X.Tb b5 n p vs) base lb cs listed (7::b)) (zJ X.Tb b5 n p vs 7)) R.hc rfl (λw=>?_) rfl ?_
   .have x1:(DY (zJ X.Tb b5 n p vs) base lb cs listed (7::b)).frame.eval (f9 17)=el (some ⟨X.Tb,n*25,none⟩):=(NP ab).trans (kN (i:=6) ab (H rfl).1);have x2:(DY (zJ X.Tb b5 n p vs) base lb cs listed (7::b)).frame.eval (f9 14)=ei f2 (p:Int):=(NP ab).trans (kN (i:=3) ab (H rfl).2);have:=qK (P:=X.P) (mn:=V.g==0) (w:=w) (Us l q (by rw[e1];rfl)) e1 x1 x2 (by rw[R.hP];exact adM) (by rw[R.hP];exact Un) ab (by have:=R.hp;omega);rw[dY]at this;simpa[zJ]using this
   .rw[vm l m ab hs];grind
  .obtain⟨o,l,e1,m,q⟩:=jL adH;refine .Po (v:=em vs) R.hc (Us l q (by rw[e1];rfl)) e1 ((NP ab).trans (kN (i:=7) ab (J rfl).1)) ((NP ab).trans (kN (i:=4) ab (J rfl).2)) hl (by rw[R.hP,Un];simp[eh,R.hv.1]) (by rw[R.fW];simp only[eh,R.hv.1];have:=R.hn;have:=R.hp;omega)
    (λc hc=>R.hv.2.2 c hc) (λj x=>R.row j (by simpa[eh,R.hv.1]using x)) λu w2 r l1 l2 l3 l4 l5=>?_
   have hQ':=R.hQ' u w2 (R.hQ _ _ s r) l1 l2 l3 (λj x=>by simpa[eh]using l4 j (by simpa[eh,R.hv.1]using x)) (λj x=>l5 j (by simpa[eh,R.hv.1]using x));rw[adN l m];simp_all
 .rw[if_neg]
  .exact T
  .rw[dk,dp];split<;>simp
 .unfold left;grind
end
end Go.Proofs
namespace Go.Proofs
open Go.Ph Go.Conc
section
variable (W bc bg bm bt:Nat)(c:ai)(n:Int)(cl:ai)(v:ai)(lb b5:Nat)(cs:List aH)
noncomputable def q5(f:Nat->ai):aa:=T5 (G ⟨55,qJ W bc bg bm bt c n cl v (pt b5) f,fR dX []::kr,[],fO,db,some lb⟩ cs)
def q_5(f:Nat->ai):vN (G ⟨55,qJ W bc bg bm bt c n cl v (pt b5) f,fR dX []::kr,[],fO,db,some lb⟩ cs) (q5 W bc bg bm bt c n cl v lb b5 cs f):=jK (by delta q5;rfl)
noncomputable def c1(f:Nat->ai):aH:=(q5 W bc bg bm bt c n cl v lb b5 cs f).callers.headD default
def aj9(f:Nat->ai):q5 W bc bg bm bt c n cl v lb b5 cs f=G (c8 PP 58 #[pt bm] db) (c1 W bc bg bm bt c n cl v lb b5 cs f::cs):=ae
noncomputable def q6(f:Nat->ai):aa:=T5 (G ((c1 W bc bg bm bt c n cl v lb b5 cs f).finish (ej #[])) cs)
def q_6(f:Nat->ai):vN (G ((c1 W bc bg bm bt c n cl v lb b5 cs f).finish (ej #[])) cs) (q6 W bc bg bm bt c n cl v lb b5 cs f):=jK (by delta q6;rfl)
def aja(f:Nat->ai):q6 W bc bg bm bt c n cl v lb b5 cs f=G ⟨55,qJ W bc bg bm bt c n cl v (pt b5) (px 19 (ej #[]) f),[],[],fO,db,some lb⟩ cs:=ae
noncomputable def Pz(b:Nat):List aT:={ target:=.collected b,args:=#[] }::rG W
noncomputable def e1(b:Nat):aa:=T5 (G ⟨55,qJ W bc bg bm bt c n cl undef undef (λ_=>undef),kk,Pz W b,fO,da,none⟩ [ez PP])
def e_1(b:Nat):vN (G ⟨55,qJ W bc bg bm bt c n cl undef undef (λ_=>undef),kk,Pz W b,fO,da,none⟩ [ez PP]) (e1 W bc bg bm bt c n cl b):=jK (by delta e1;rfl)
def ajb(b:Nat):e1 W bc bg bm bt c n cl b=G ⟨55,qJ W bc bg bm bt c n cl undef undef (λ_=>undef),[],Pz W b,fJ,da,none⟩ [ez PP]:=ae
def e_2:uo PP false 1 (G ⟨55,qJ W bc bg bm bt c n cl undef undef (λ_=>undef),[],rG W,fJ,da,none⟩ [ez PP])/\∀d,YL PP false 1 d (G ⟨55,qJ W bc bg bm bt c n cl undef undef (λ_=>undef),[],rG W,fJ,da,none⟩ [ez PP])=d:=⟨⟨λw=>ae,ae⟩,λd=>ae⟩
def ajc:adv PP false 1 (G ⟨55,qJ W bc bg bm bt c n cl undef undef (λ_=>undef),[],rG W,fJ,da,none⟩ [ez PP])=dE W (qJ W bc bg bm bt c n cl undef undef (λ_=>undef)) []:=ae
end
end Go.Proofs
namespace Go.Proofs
open Go.bJ Go.Ph
def F3:a7->Bool:=λf=>f==49||f==73||f==74
def Y2:(dq Tryz.progTables.types.size).all (BI eq F3)=true:=ae
def PD:dM eq F3 ZZ:=Jf (Nat.le_refl _) Y2 ae
def adQ:Jg eq et F3 NN ZZ 146=true:=ae
def PE:Tryz.funcs.size<=cn:=of_decide_eq_true ae
def Y3:((et[49]?).any (·.norace)=false/\(et[73]?).any (·.norace)=false)/\(et[74]?).any (·.norace)=false:=⟨⟨ae,ae⟩,ae⟩
def PF:PP.funcs.all (λf=>((f.body.map readies).getD []).isEmpty)=true:=ae
def Uu(g:Nat):PP.stepOf g=none:=by
 unfold Program.stepOf;rw[Array.findIdx?_eq_none_iff];intro f hf;have:=Array.all_eq_true_iff_forall_mem.1 PF f hf
 cases h:f.body with
 |none=>rfl
 |some c=>
  grind
def Uv:PP.follows .staticDataAhead=true:=ae
def Y4(fr:aH)(cs:List aH)(d:Option Dying)(g:Nat)(w:ag):∃o w1 es,early PP fr cs d g w=.ended o w1 es:=by
 unfold early;simp only[Uv,Uu,Bool.not_true,Bool.false_eq_true,if_false];exact⟨_,_,_,rfl⟩
def adR:zG eq et et F3 ZZ:=by
 have h:Fits eq et et F3 NN ZZ:=BJ PD (n:=146) (λf hf=>by
  simp only[F3,Bool.or_eq_true,beq_iff_eq]at hf
  grind) (λf _=>rfl) (λf a=>by cases a) adQ PE
 refine⟨h.zero,h.fns,λf hf=>h.same f hf rfl,ao,λf hf=>?_,Y4⟩;simp only[F3,Bool.or_eq_true,beq_iff_eq]at hf
 rcases hf with(rfl|rfl)|rfl
 .exact Y3.1.1
 .exact Y3.1.2
 .exact Y3.2
end Go.Proofs
namespace Go.Ph
open Go.Conc Go.ConcN Go.bJ
section
variable {T:Tables}{fB fA:Array Func}{F:a7->Bool}{Z:a8->Bool}{X:Fix}{V:Vw}{Bs:Nat}{bot:aH}{up:List aH}{ρ ρ':Ren}{M M':Own}{g g':aa}{wL w w':ag}{v v':ai}
def iG.same(h:iG T fB fA F Z bot up X V Bs ρ M g wL g' w)(hs:w.heap.size<=w'.heap.size)(hb:∀a b,ρ a b->w'.heap[b]?=w.heap[b]?):iG T fB fA F Z bot up X V Bs ρ M g wL g' w':=
 ⟨h.inj,⟨h.wr.pK,ec h.wr.gN hs,h.wr.base,λ{a b}c d=>by
   obtain⟨o,e,f,i,j⟩:=h.wr.obj c d;grind,λ{a b}c d=>by
   obtain⟨o,e,f,i,j⟩:=h.wr.low c d
   grind⟩,h.g,h.own,h.clear,λb hb=>⟨Nat.lt_of_lt_of_le (h.sG b hb).1 hs,(h.sG b hb).2⟩⟩
def iG.more(h:iG T fB fA F Z bot up X V Bs ρ M g wL g' w)(e:∀b,M b->M' b)(hc:dx X V M')(hd:∀b,V.st b->¬M' b):iG T fB fA F Z bot up X V Bs ρ M' g wL g' w:=
 ⟨h.inj,h.wr,h.g,⟨λa b c d=>(h.own.st a b c d).imp id (e b),λa b c d=>e b (h.own.own a b c d)⟩,hc,λb hb=>⟨(h.sG b hb).1,hd b hb⟩⟩
def iG.apart(h:iG T fB fA F Z bot up X V Bs ρ M g wL g' w){a b:Nat}(d:ρ a b):jm X b:=by
 rcases eb a Bs with c|c
 .exact(h.own.st a b d c).elim (h.clear.st b) (h.clear.own b)
 .exact h.clear.own b (h.own.own a b d c)
def _root_.Go.bJ.GC.fin(h:GC T fB fA F Z bot up ρ g g')(hv:VR F ρ v v'):GC T fB fA F Z bot up ρ (fin g v) (fin g' v'):=by
 obtain⟨a,⟨l,b,c,d,e,f⟩,i,j,k,m,n,o⟩:=h;exact⟨a.finish hv,⟨l,b,c,d,e,f.top (bZ _ _)⟩,i,j,k,m,n,o⟩
def iG.fin(h:iG T fB fA F Z bot up X V Bs ρ M g wL g' w)(hv:VR F ρ v v'):iG T fB fA F Z bot up X V Bs ρ M (fin g v) wL (fin g' v') w:=
 ⟨h.inj,h.wr,h.g.fin hv,h.own,h.clear,h.sG⟩
def _root_.Go.bJ.GC.op(h:GC T fB fA F Z bot up ρ g g'){o:aP}(p:bF g=some o):bF g'=some o/\∀j,VR F ρ (g.frame.eval (f9 j)) (g'.frame.eval (f9 j)):=by
 obtain⟨a,⟨l,r,s,t,u,x⟩,y,c,z,d,A,e⟩:=h;obtain⟨fn,tmps,ops,i,f,k,defers,kind,B,cs,rfl,k1,k2,k3,C⟩:=gF p;obtain⟨⟨D,q,E,H,I,J,K⟩,cs',st',Bl,Bm⟩:=g';have b:=a.todo;have m:=a.mode;have n:=a.bX;simp only at b m n c d e;subst c d e n;cases m
 cases b with
 |cons hi b=>
  cases hi with
  |inRegion _ _ L=>
   have hy:yielded ops q=yielded ops tmps:=funext λj=>(oo ops a.tmps j).symm;refine⟨?_,λj=>VA.getD a.tmps j .undef⟩;simp only[bF,Option.isNone_none];grind
def iG.back(h:iG T fB fA F Z bot up X V Bs ρ M g wL g' w)(j:g.frame.mode=fJ)(hd:g.frame.defers=[])(hc:g.callers=[bot]) :
 ∃fr',g'=G fr' up/\fr'.fn=g.frame.fn/\fr'.mode=fJ/\fr'.kind=db/\fr'.defers=[]/\VA F ρ g.frame.tmps fr'.tmps:=by
 obtain⟨b,⟨l,o,p,d,k,q⟩,r,e,s,f,t,i⟩:=h.g;obtain⟨fr',cs',n,u,x⟩:=g';simp only at e f i d;subst e f i d;have hl:l=[]:=by
  simp_all
 subst hl;cases k;have c:=b.mode;have a:=b.defers;simp only at c a;rw[j]at c;rw[hd]at a;refine⟨fr',by simp[G],b.fn,?_,b.bX,?_,b.tmps⟩
 .generalize fr'.mode=m at c;cases c;rfl
 .generalize fr'.defers=m at a;cases a;rfl
def oT{k:IntKind}{n:Int}(h:VR F ρ (ei k n) v):v=ei k n:=by cases h;rfl
def PG{c:Nat}(d:ρ.bw c){a b o:Nat}(h:VR F ρ (el (some ⟨a,o,none⟩)) v)(e:ρ a b):v=el (some ⟨b,o,none⟩):=by
 cases h with
 |@ptr _ f x=>
  obtain⟨b',i,j⟩:=f;obtain⟨x1,x2,x3⟩:=x;simp only at x1 x2 x3;subst x2 x3;rw[d.fn x1 e]
def Jy{a o:Nat}(h:VR F ρ (el (some ⟨a,o,none⟩)) v):∃b,ρ a b/\v=el (some ⟨b,o,none⟩):=by
 cases h with
 |@ptr _ c x=>
  obtain⟨b',d,e⟩:=c;obtain⟨x1,x2,x3⟩:=x;grind
def xL{d:Nat}(e:ρ.bw d){a b o l c:Nat}(h:VR F ρ (.slice (some ⟨a,o,none⟩) l c) v)(f:ρ a b)(hl:0<l):v=.slice (some ⟨b,o,none⟩) l c:=by
 cases h with
 |dK=>grind
 |@slice _ i _ _ x=>
  obtain⟨b',j,k⟩:=i;obtain⟨x1,x2,x3⟩:=x;simp only at x1 x2 x3;subst x2 x3;rw[e.fn x1 f]
def PI{j:Nat}(k:ρ.bw j)(hF:∀f,F f=true->f<cn){b:Nat}(h:VR F ρ (ep (.func (cn+0)) #[] #[]) v)(m:ρ 0 b):v=ep (.yield b) #[] #[]:=by
 generalize n:(Fn.func (cn+0))=fx at h
 cases h with
 |@func fn r a d s c h e i=>
  have e1:d=#[]:=by cases o:d.toList with|nil=>grind|cons x y=>rw[o]at e;cases e
  have p:c=#[]:=by cases q:c.toList with|nil=>grind|cons x y=>rw[q]at i;cases i
  subst e1 p
  cases h with
  |func f hf=>
   grind
  |yield hl=>cases n
  |@spec l t hl=>
   have:l=0:=by
    grind
   subst this;rw[k.fn hl m]
def Y5{a:Array ai}(h:VR F ρ (em a) v):∃a',v=em a'/\VA F ρ a a':=by
 cases h with
 |agg h=>exact⟨_,rfl,h⟩
def Uw{l:List Int}{k:IntKind}{l':List ai}(h:cU F ρ (l.map (ei k)) l'):l'=l.map (ei k):=by
 induction l generalizing l' with
 |nil=>cases h;rfl
 |cons n l c=>
  cases h with
  |cons a b=>rw[oT a,c b];rfl
def Ux{j:Nat}(k:ρ.bw j){f:a7}(hF:∀f,F f=true->f<cn)(hf:f<cn){a b:Nat}(h:VR F ρ (ep (.func f) #[] #[el (some ⟨a,0,none⟩),el (some ⟨b,0,none⟩)]) v) :
 ∃a' b',ρ a a'/\ρ b b'/\v=ep (.func f) #[] #[el (some ⟨a',0,none⟩),el (some ⟨b',0,none⟩)]:=by
 generalize c:(Fn.func f)=fx at h
 cases h with
 |@func fn t x d y y' h e i=>
  have e1:d=#[]:=by cases l:d.toList with|nil=>grind|cons x y=>rw[l]at e;cases e
  subst e1;generalize hy:y'.toList=u at i
  cases i with
  |cons m n=>
   cases n with
   |cons o p=>
    cases p;obtain⟨a',q,rfl⟩:=Jy m;obtain⟨b',r,rfl⟩:=Jy o;have s:y'=#[el (some ⟨a',0,none⟩),el (some ⟨b',0,none⟩)]:=by
     grind
    subst s;refine⟨a',b',q,r,?_⟩
    cases h with
    |func f hf=>cases c;rfl
    |yield hl=>cases c
    |spec hl=>
     grind
end
end Go.Ph
namespace Go.Proofs
open Go.Ph Go.Conc
section
variable (W:Nat)(a:Array ai)(td:List aF)
def adZ:cd PP 400 1 (fin (d4 W a td) (ei f1 0)):=mZ 400 (λw=>ae) ae ae
def ae0:cd PP 400 1 (fin (d4 W a td) (ei f1 4294967296)):=mZ 400 (λw=>ae) ae ae
def ae1:cd PP 400 1 (fin (d4 W a td) (ei f1 4294967297)):=mZ 400 (λw=>ae) ae ae
def ae2:cd PP 400 1 (fin (d4 W a td) (ei f1 8589934592)):=mZ 400 (λw=>ae) ae ae
def ae3:cd PP 400 1 (fin (d4 W a td) (ei f1 8589934593)):=mZ 400 (λw=>ae) ae ae
def ajn:cd PP 400 1 (fin (d7 W a td) (ej #[])):=mZ 400 (λw=>ae) ae ae
end
def ajo:cw PP 79 false (λ_=>pure (ek false)):=⟨Tryz.f79,ae,ae,ae,ae,ae,ae⟩
def ajp:cw PP 84 false (eu .read):=⟨Tryz.f84,ae,ae,ae,ae,ae,ae⟩
def ajq:cw PP 94 false (eu .write):=⟨Tryz.f94,ae,ae,ae,ae,ae,ae⟩
def ajr:cw PP 88 true eA:=⟨Tryz.f88,ae,ae,ae,ae,ae,ae⟩
def ajs:cw PP 95 true eD:=⟨Tryz.f95,ae,ae,ae,ae,ae,ae⟩
def ae4:cw PP 109 true (eI (eT .add) f1 true):=⟨Tryz.f109,ae,ae,ae,ae,ae,ae⟩
def Zl:cw PP 110 true (eM (.int f1)):=⟨Tryz.f110,ae,ae,ae,ae,ae,ae⟩
def ajt:cw PP 111 true eN:=⟨Tryz.f111,ae,ae,ae,ae,ae,ae⟩
def aju:cw PP 116 true (eP (.int f1)):=⟨Tryz.f116,ae,ae,ae,ae,ae,ae⟩
def u214:PP.underlying 140=some (.pointer 127):=ae
def u222:∃t,PP.underlying 148=some (.pointer t)/\(PP.info? t).map (λi=>decide (i.size=0))=some false:=⟨116,ae,ae⟩
def ajx:(PP.info? 127).map (λi=>decide (i.size=0))=some false:=ae
end Go.Proofs
namespace Go.Ph
open Go.Conc Go.ConcN
open Go.ConcM (MuAt muA msA OsLater muBlock)
open Go.ConcR (KK WgAt stA smA rd wr mk)
open Go.cD (Wd Th Mv Safe Head eR spin qZ)
def _root_.Go.cD.Wd.UA{x y:Wd}(h:x.num=y.num):x=y:=by
 obtain⟨l,w,s,k⟩:=x;obtain⟨a,w',s',k'⟩:=y;simp only[Wd.num]at h;grind
section
variable {X:Fix}{V:Vw}{q:Bool}{Stop:Stp}{M:Own}{d:Nat}{g g':aa}{w w':ag}{es:Array bL}{s s':Sh}{mn:Bool}
def Au(h:ShAt X w' s')(hb:w'.heap[X.Tb]?=w.heap[X.Tb]?)(hl:Live X w):Live X w':=⟨⟨_,_,h.1⟩,⟨_,_,h.2⟩,by rw[hb];exact hl.2.2⟩
def sL(hc:dx X V M){a:bb}(j:a.block=X.Mu\/a.block=X.Wg)(v:ai)(h:ShAt X (w.setCell a v) s'):Rl X V M w (w.setCell a v)/\
 ∀d es,(∀e∈es,jG X V M w.heap.size e)->Dl X V false M d w (w.setCell a v) es M (b1 d es):=by
 have A:=cf w a v;have hb:∀b,b≠X.Mu->b≠X.Wg->(w.setCell a v).heap[b]?=w.heap[b]?:=λb k l=>A.block b aS;have c:OsLater w.os (w.setCell a v).os:=by rw[A.os];exact .refl _
 exact⟨BN hc A.tape A.output c A.size hb (Au h (hb _ hc.ids.mt.symm hc.ids.wt.symm)),λd es i=>jI hc.ids A.tape A.output c A.size hb (by rw[A.size];exact i) ar⟩
def JC(hc:dx X V M)(d:Nat)(w:ag)(es:Array bL)(a:∀e∈es,jG X V M w.heap.size e):Dl X V false M d w w es M (b1 d es):=
 jI hc.ids rfl rfl (.refl _) rfl (λ_ _ _=>rfl) a ar
def xO(h:ShAt X w s):X.Mu<w.heap.size:=by
 have:=h.1;unfold MuAt at this;grind
def lC(h:ShAt X w s):X.Wg<w.heap.size:=by
 have:=h.2;unfold e8 at this;grind
def ShAt.setMu(hi:WO X)(h:ShAt X w s)(x:Wd):ShAt X (w.setCell (muA X.Mu) (ei f3 ((x.num:Nat):Int))) { s with mw:=x }:=
 ⟨h.1.setSt _,((cf w (muA X.Mu) _).block X.Wg hi.mw.symm).trans h.2⟩
def ShAt.setMs(hi:WO X)(h:ShAt X w s)(x:Nat):ShAt X (w.setCell (msA X.Mu) (ei f5 (x:Int))) { s with ms:=x }:=
 ⟨h.1.setSm _,((cf w (msA X.Mu) _).block X.Wg hi.mw.symm).trans h.2⟩
variable {o:aP}{f:a7}{nr:Bool}{P:ac}
def DZ{x:Wd}(b:az g=some (f,#[el (some ⟨X.Mu,0,none⟩),ei f3 ((s.mw.num:Nat):Int),ei f3 ((x.num:Nat):Int)]))(hb:cw P f nr (eP (.int f3)))(a:ShAt X w s) :
 stepG P mn g w=.go (fin g (ek true)) (w.setCell (muA X.Mu) (ei f3 ((x.num:Nat):Int))) #[⟨ge (muA X.Mu),false,true⟩,⟨ge (muA X.Mu),true,true⟩]:=
 hb.step b (by rw[ch];exact ci a.1.cellSt (a.1.thaw 0)) (by rw[ch];exact(cm a.1.cellSt (a.1.thaw 0) _).trans rfl) (co _)
def B5{old x:Wd}(c:az g=some (f,#[el (some ⟨X.Mu,0,none⟩),ei f3 ((old.num:Nat):Int),ei f3 ((x.num:Nat):Int)]))(hb:cw P f nr (eP (.int f3)))(a:ShAt X w s)(h:s.mw≠old) :
 stepG P mn g w=.go (fin g (ek false)) w #[⟨ge (muA X.Mu),false,true⟩]:=by
 have b:¬((s.mw.num:Nat):Int)=((old.num:Nat):Int):=λe=>h (Wd.UA ab);exact hb.step c (by rw[ch];exact cq a.1.cellSt (a.1.thaw 0) b) (by rw[ch];exact(ct a.1.cellSt (a.1.thaw 0) b _).trans rfl) (sync_r _)
def PO{n:Int}{x:Wd}(c:az g=some (f,#[el (some ⟨X.Mu,0,none⟩),ei f3 n]))(hb:cw P f nr (eI (eT .add) f3 true))(a:ShAt X w s)(e:IntKind.i32.wrap (((s.mw.num:Nat):Int)+n)=((x.num:Nat):Int)) :
 stepG P mn g w=.go (fin g (ei f3 ((x.num:Nat):Int))) (w.setCell (muA X.Mu) (ei f3 ((x.num:Nat):Int))) #[⟨ge (muA X.Mu),false,true⟩,⟨ge (muA X.Mu),true,true⟩]:=by
 have b:=cv (P:=P) (d:=n) a.1.cellSt (a.1.thaw 0);have h:=λes=>cB (P:=P) (d:=n) a.1.cellSt (a.1.thaw 0) es;rw[e]at b;exact hb.step c b ((h _).trans rfl) (co _)
def D5{a:Array ai}(h:az g=some (f,a))(c:a[0]?=some (el (some ⟨X.Mu,1,none⟩)))(hb:cw P f nr eD)(i:ShAt X w s) :
 if s.ms=0 then stepG P mn g w=.go { g with status:=.blocked } w #[] else stepG P mn g w=.go (fin g (ej #[])) (w.setCell (msA X.Mu) (ei f5 ((s.ms-1:Nat):Int))) (cC (msA X.Mu)):=by
 have hc:=i.1.cellSm;have j:=i.1.thaw 1;unfold msA at hc;split
 .rename_i b;rw[b]at hc;exact hb.blocked h (by simp[eD,eE,c,hc])
 .rename_i b;have e:((s.ms:Nat):Int)-1=((s.ms-1:Nat):Int):=ab;rw[<-e];exact hb.step h (by simp[eD,eE,c,hc,b,j,msA,eF,run_store P w ⟨X.Mu,1,none⟩ (ei f5 ((s.ms:Int)-1)) gf rfl,fi])
   (by simp[eD,eE,c,hc,b,j,msA,cC,bR,b8 P w _ ⟨X.Mu,1,none⟩ (ei f5 ((s.ms:Int)-1)) gf rfl,run_store P w ⟨X.Mu,1,none⟩ (ei f5 ((s.ms:Int)-1)) gf rfl,fl]) (cQ _)
def sr{a:Array ai}(j:az g=some (f,a))(b:a[0]?=some (el (some ⟨X.Mu,1,none⟩)))(hb:cw P f nr eA)(c:ShAt X w s)(k:s.ms<=1) :
 stepG P mn g w=.go (fin g (ej #[])) (w.setCell (msA X.Mu) (ei f5 ((s.ms+1:Nat):Int))) (cC (msA X.Mu)):=by
 have hc:=c.1.cellSm;have i:=c.1.thaw 1;unfold msA at hc;have e:IntKind.u32.wrap (((s.ms:Nat):Int)+1)=((s.ms+1:Nat):Int):=by
  obtain h|h:s.ms=0\/s.ms=1:=ab
  .rw[h];decide
  .rw[h];decide
 rw[<-e];exact hb.step j (by simp[eA,eE,b,hc,i,msA,eF,eT,run_store P w ⟨X.Mu,1,none⟩ (ei f5 (IntKind.u32.wrap ((s.ms:Int)+1))) gf rfl,fi])
  (by simp[eA,eE,b,hc,i,msA,cC,eT,bR,b8 P w _ ⟨X.Mu,1,none⟩ (ei f5 (IntKind.u32.wrap ((s.ms:Int)+1))) gf rfl,run_store P w ⟨X.Mu,1,none⟩ (ei f5 (IntKind.u32.wrap ((s.ms:Int)+1))) gf rfl,fl]) (cQ _)
def PR(h:X.Mu<w.heap.size):∀e∈(#[⟨ge (muA X.Mu),false,true⟩,⟨ge (muA X.Mu),true,true⟩]:Array bL),jG X V M w.heap.size e:=by
 intro e a;simp at a
 rcases a with rfl|rfl<;>exact eo (fp rfl) h
def ae5(h:X.Mu<w.heap.size):∀e∈(#[⟨ge (muA X.Mu),false,true⟩]:Array bL),jG X V M w.heap.size e:=by
 intro e a;simp at a;subst a;exact eo (fp rfl) h
def JD(h:X.Mu<w.heap.size):∀e∈cC (msA X.Mu),jG X V M w.heap.size e:=by
 intro e a;simp[cC]at a
 rcases a with rfl|rfl|rfl|rfl
 .exact lX rfl
 .exact eo (fp rfl) h
 .exact eo (fp rfl) h
 .exact lX rfl
end
end Go.Ph
namespace Go.Ph
open Go.Conc Go.ConcN Go.RowKit
open Go.ConcM (MuAt muA msA OsLater muBlock)
open Go.ConcR (KK WgAt stA smA rd wr mk wgBlock)
open Go.cD (Wd)
section
variable {X:Fix}{V:Vw}{q:Bool}{M:Own}{d:Nat}{g:aa}{w w':ag}{es:Array bL}{s s':Sh}{mn:Bool}{f:a7}{nr:Bool}{P:ac}
def vP(v wt:Nat):Int:=(v:Int)*KK+(wt:Int)
def er(h:ShAt X w s):w.cell? (stA X.Wg)=some (ei f1 (vP s.v s.wt)):=by have:=h.2;unfold e8 e9 at this;simp[eg,stA,this,vP]
def vn(h:ShAt X w s):w.cell? (smA X.Wg)=some (ei f5 (s.ws:Int)):=by have:=h.2;unfold e8 e9 at this;simp[eg,smA,this]
def fM(h:ShAt X w s)(off:Nat):w.frozen? ⟨X.Wg,off,none⟩=false:=by have:=h.2;unfold e8 e9 at this;simp[World.frozen?,this]
def ShAt.setWg(hi:WO X)(h:ShAt X w s)(v wt:Nat):ShAt X (w.setCell (stA X.Wg) (ei f1 (vP v wt))) { s with v:=v,wt:=wt }:=
 ⟨((cf w (stA X.Wg) _).block X.Mu hi.mw).trans h.1,by
   have:=h.2;unfold e8 e9 at this⊢;rw[stA,b9 w X.Wg 0 _ _ (0,0) _ this,ca w X.Wg _ _ _ _ this]
   simp[vP]⟩
def ShAt.setWs(hi:WO X)(h:ShAt X w s)(n:Nat):ShAt X (w.setCell (smA X.Wg) (ei f5 (n:Int))) { s with ws:=n }:=
 ⟨((cf w (smA X.Wg) _).block X.Mu hi.mw).trans h.1,by
   have:=h.2;unfold e8 e9 at this⊢;rw[smA,b9 w X.Wg 1 _ _ (0,0) _ this,ca w X.Wg _ _ _ _ this]
   simp⟩
def uz(hc:dx X V M){a:bb}(l:a.block=X.Mu\/a.block=X.Wg)(v:ai)(h:ShAt X (w.setCell a v) s'):Rl X V M w (w.setCell a v)/\
 ∀d es,(∀e∈es,jG X V M w.heap.size e)->(q=true->∀j e,es[j]?=some e->(fm e).touch? = none\/((∃ad wr,e=⟨ge ad,wr,true⟩)/\0<b1 d (es.extract 0 j)))->Dl X V q M d w (w.setCell a v) es M (b1 d es):=by
 have A:=cf w a v;have hb:∀b,b≠X.Mu->b≠X.Wg->(w.setCell a v).heap[b]?=w.heap[b]?:=λb m n=>A.block b aS;have c:OsLater w.os (w.setCell a v).os:=by rw[A.os];exact .refl _
 exact⟨BN hc A.tape A.output c A.size hb (Au h (hb _ hc.ids.mt.symm hc.ids.wt.symm)),λd es i k=>jI hc.ids A.tape A.output c A.size hb (by rw[A.size];exact i) k⟩
def Xb{ad:bb}{wr:Bool}{j:Nat}{e:bL}(d:Nat)(h:(#[⟨ge ad,wr,true⟩]:Array bL)[j]?=some e):(fm e).touch? = none\/((∃ad wr,e=⟨ge ad,wr,true⟩)/\0<b1 (d+1) ((#[⟨ge ad,wr,true⟩]:Array bL).extract 0 j)):=by
 match j,h with
 |0,h=>exact ft ⟨⟨ad,wr,by simpa using h.symm⟩,by simp[b1]⟩
 |j+1,h=>simp at h
def ae6{ad:bb}{j:Nat}{e:bL}(d:Nat)(h:(#[⟨ge ad,false,true⟩,⟨ge ad,true,true⟩]:Array bL)[j]?=some e):(fm e).touch? = none\/((∃ad wr,e=⟨ge ad,wr,true⟩)/\0<b1 (d+1) ((#[⟨ge ad,false,true⟩,⟨ge ad,true,true⟩]:Array bL).extract 0 j)):=by
 match j,h with
 |0,h=>exact ft ⟨⟨ad,false,by simpa using h.symm⟩,by simp[b1]⟩
 |1,h=>exact ft ⟨⟨ad,true,by simpa using h.symm⟩,by simp[b1]⟩
 |j+2,h=>simp at h
def ae7{ad:bb}{j:Nat}{e:bL}(d:Nat)(h:(cC ad)[j]?=some e):(fm e).touch? = none\/((∃ad wr,e=⟨ge ad,wr,true⟩)/\0<b1 (d+1) ((cC ad).extract 0 j)):=by
 unfold cC at h⊢
 match j,h with
 |0,h=>exact fp (by simp at h;subst h;rfl)
 |1,h=>exact ft ⟨⟨ad,false,by simpa using h.symm⟩,by simp[b1]⟩
 |2,h=>exact ft ⟨⟨ad,true,by simpa using h.symm⟩,by simp[b1]⟩
 |3,h=>exact fp (by simp at h;subst h;rfl)
 |j+4,h=>simp at h
def xP{n:Int}{v wt:Nat}(c:az g=some (f,#[el (some ⟨X.Wg,0,none⟩),ei f1 n]))(hb:cw P f nr (eI (eT .add) f1 true))(a:ShAt X w s)(e:IntKind.u64.wrap (vP s.v s.wt+n)=vP v wt) :
 stepG P mn g w=.go (fin g (ei f1 (vP v wt))) (w.setCell (stA X.Wg) (ei f1 (vP v wt))) #[⟨ge (stA X.Wg),false,true⟩,⟨ge (stA X.Wg),true,true⟩]:=by
 have b:=cv (P:=P) (d:=n) (er a) (fM a 0);have h:=λes=>cB (P:=P) (d:=n) (er a) (fM a 0) es;rw[e]at b;exact hb.step c b ((h _).trans rfl) (co _)
def oV(a:az g=some (f,#[el (some ⟨X.Wg,0,none⟩)]))(hb:cw P f nr (eM (.int f1)))(b:ShAt X w s) :
 stepG P mn g w=.go (fin g (ei f1 (vP s.v s.wt))) w #[⟨ge (stA X.Wg),false,true⟩]:=by
 have hc:w.cell? ⟨X.Wg,0,none⟩=_:=er b;refine hb.step a ?_ ?_ (sync_r _)
 .change dO P (do eQ (.int f1) (<-cb (el (some ⟨X.Wg,0,none⟩)))) w=_;simp[eQ,cb,hc]
 .change dU P (do eQ (.int f1) (<-cb (el (some ⟨X.Wg,0,none⟩)))) w _=_;simp[eQ,cb,hc,bR,stA]
def B6{n:Int}(c:az g=some (f,#[el (some ⟨X.Wg,0,none⟩),ei f1 n]))(hb:cw P f nr eN)(a:ShAt X w s) :
 stepG P mn g w=.go (fin g (ej #[])) (w.setCell (stA X.Wg) (ei f1 n)) #[⟨ge (stA X.Wg),true,true⟩]:=by
 have hc:w.cell? ⟨X.Wg,0,none⟩=_:=er a;have b:=fM a 0;refine hb.step c ?_ ?_ aS
 .change dO P (do
   store (<-cb (el (some ⟨X.Wg,0,none⟩))) (ei f1 n) gf
   pure eS) w=_
  simp[cb,hc,b,run_store P w ⟨X.Wg,0,none⟩ (ei f1 n) gf rfl,stA,fi,eS]
 .change dU P (do
   store (<-cb (el (some ⟨X.Wg,0,none⟩))) (ei f1 n) gf
   pure eS) w _=_
  simp[cb,hc,b,b8 P w _ ⟨X.Wg,0,none⟩ (ei f1 n) gf rfl,stA]
def G9{o n:Int}{v wt:Nat}(b:az g=some (f,#[el (some ⟨X.Wg,0,none⟩),ei f1 o,ei f1 n]))(hb:cw P f nr (eP (.int f1)))(a:ShAt X w s)(h:n=vP v wt) :
 if vP s.v s.wt=o then stepG P mn g w=.go (fin g (ek true)) (w.setCell (stA X.Wg) (ei f1 (vP v wt))) #[⟨ge (stA X.Wg),false,true⟩,⟨ge (stA X.Wg),true,true⟩]
 else stepG P mn g w=.go (fin g (ek false)) w #[⟨ge (stA X.Wg),false,true⟩]:=by
 subst h;split
 .rename_i e;subst e;exact hb.step b (by rw[ch];exact ci (er a) (fM a 0)) (by rw[ch];exact(cm (er a) (fM a 0) _).trans rfl) (co _)
 .rename_i c;exact hb.step b (by rw[ch];exact cq (er a) (fM a 0) c) (by rw[ch];exact(ct (er a) (fM a 0) c _).trans rfl) (sync_r _)
def He{args:Array ai}(c:az g=some (f,args))(b:args[0]?=some (el (some ⟨X.Wg,1,none⟩)))(hb:cw P f nr eD)(h:ShAt X w s) :
 if s.ws=0 then stepG P mn g w=.go { g with status:=.blocked } w #[] else stepG P mn g w=.go (fin g (ej #[])) (w.setCell (smA X.Wg) (ei f5 ((s.ws-1:Nat):Int))) (cC (smA X.Wg)):=by
 have hc:=vn h;have i:=fM h 1;unfold smA at hc;split
 .rename_i a;rw[a]at hc;exact hb.blocked c (by simp[eD,eE,b,hc])
 .rename_i a;have e:((s.ws:Nat):Int)-1=((s.ws-1:Nat):Int):=ab;rw[<-e];exact hb.step c (by simp[eD,eE,b,hc,a,i,smA,eF,run_store P w ⟨X.Wg,1,none⟩ (ei f5 ((s.ws:Int)-1)) gf rfl,fi])
   (by simp[eD,eE,b,hc,a,i,smA,cC,bR,b8 P w _ ⟨X.Wg,1,none⟩ (ei f5 ((s.ws:Int)-1)) gf rfl,run_store P w ⟨X.Wg,1,none⟩ (ei f5 ((s.ws:Int)-1)) gf rfl,fl]) (cQ _)
def Hf{args:Array ai}(h:az g=some (f,args))(a:args[0]?=some (el (some ⟨X.Wg,1,none⟩)))(hb:cw P f nr eA)(b:ShAt X w s)(i:s.ws=0) :
 stepG P mn g w=.go (fin g (ej #[])) (w.setCell (smA X.Wg) (ei f5 ((1:Nat):Int))) (cC (smA X.Wg)):=by
 have hc:=vn b;have c:=fM b 1;unfold smA at hc;rw[i]at hc;have e:IntKind.u32.wrap (((0:Nat):Int)+1)=((1:Nat):Int):=ao;rw[<-e];exact hb.step h (by simp[eA,eE,a,hc,c,smA,eF,eT,run_store P w ⟨X.Wg,1,none⟩ (ei f5 (IntKind.u32.wrap 1)) gf rfl,fi])
  (by simp[eA,eE,a,hc,c,smA,cC,eT,bR,b8 P w _ ⟨X.Wg,1,none⟩ (ei f5 (IntKind.u32.wrap 1)) gf rfl,run_store P w ⟨X.Wg,1,none⟩ (ei f5 (IntKind.u32.wrap 1)) gf rfl,fl]) (cQ _)
end
end Go.Ph
namespace Go.Proofs
open Go.Ph Go.Conc Go.ConcN
open Go.ConcM (MuAt muA msA OsLater muBlock)
open Go.ConcR (KK WgAt stA smA rd wr mk)
structure Gk(X:Fix)(V:Vw)(M:Own)(F:ag->Prop)(mn:Bool):Prop where
 hP:X.P=PP
 hg:(V.g==0)=mn
 hc:dx X V M
 hF:∀w w',F w->Rl X V M w w'->F w'
 hL:∀w,F w->Live X w
 hn:X.n<=3
def sM{g:aa}{s d:a8}{v:ai}(h:gu g=some (s,d,v)):∃o x,bF g=some o/\o.op=eX s d x/\g.frame.eval x=v:=by
 unfold gu at h;split at h
 .rename_i o a;split at h
  .rename_i c e x b;simp only[ed,Prod.mk.injEq]at h;obtain⟨rfl,rfl,rfl⟩:=h;exact⟨o,x,a,b,rfl⟩
  .cases h
 .cases h
def vo{g:aa}{f:a7}{v:ai}(h:gZ g=some (f,some v)):∃args,az g=some (f,args)/\args[0]?=some v:=by
 unfold gZ at h
 cases hc:az g with
 |none=>rw[hc]at h;cases h
 |some x=>
  obtain⟨a,args⟩:=x;rw[hc]at h;simp only[Option.map_some,ed,Prod.mk.injEq]at h;obtain⟨rfl,h⟩:=h;exact⟨args,rfl,h⟩
section
variable {X:Fix}{V:Vw}{M:Own}{F:ag->Prop}{Fin:ag->Prop}{Stop:Stp}{d:Nat}{g g':aa}{w:ag}{q mn:Bool}
def Gk.aB(L:Gk X V M F mn)(h:fL mn g g')(a:ay X V q Stop M d g' w):ay X V q Stop M d g w:=h.run L.hP L.hg a
def Gk.sG(L:Gk X V M F mn)(a:az g=some (77,#[]))(b:ay X V q Stop M (d+1) (fin g (ej #[])) w):ay X V q Stop M d g w:=
 .Jo (m:=.disable) L.hc a (by rw[L.hP];exact adr) rfl b
def Gk.en(L:Gk X V M F mn)(a:az g=some (78,#[]))(b:ay X V q Stop M d (fin g (ej #[])) w):ay X V q Stop M (d+1) g w:=
 .Jo (m:=.enable) L.hc a (by rw[L.hP];exact ads) rfl b
def Gk.idle(L:Gk X V M F mn)(a:az g=some (79,#[]))(b:ay X V q Stop M d (fin g (ek false)) w):ay X V q Stop M d g w:=
 ay.idle L.hc (aj a).1 λc _=>⟨_,c,#[],(by rw[L.hP];exact ajo:cw X.P 79 false _).step (v:=ek false) a ar ar ar,rfl,rfl,.refl _,rfl,ar,(aj a).2.2 _,b⟩
def Gk.low(L:Gk X V M F mn)(a:F w):X.Wg<w.heap.size:=by
 obtain⟨_,⟨_,_,k⟩,_⟩:=L.hL _ a;unfold e8 at k;exact(Array.getElem?_eq_some_iff.1 k).1
def Gk.conv(L:Gk X V M F mn)(a:gu g=some (140,142,pt X.Wg))(b:F w)(c:ay X V q Stop M d (fin g (pt X.Wg)) w):ay X V q Stop M d g w:=by
 obtain⟨o,x,e,f,h⟩:=sM a
 exact .conv L.hc e f h (by rw[L.hP];exact u214) (by rw[L.hP];exact u216) (by rw[L.hP];exact ajx) (λi r=>by
  obtain⟨_,⟨_,_,k⟩,_⟩:=L.hL _ (L.hF _ _ b r);unfold e8 fb at k
  exact⟨_,by simp[eg,k];rfl⟩) c
def Gk.Xc(L:Gk X V M F mn)(a:gu g=some (148,142,el (some ⟨X.Wg,1,none⟩)))(b:F w)(c:ay X V q Stop M d (fin g (el (some ⟨X.Wg,1,none⟩))) w):ay X V q Stop M d g w:=by
 obtain⟨o,x,e,f,h⟩:=sM a;obtain⟨t,k1,k2⟩:=u222
 exact .conv L.hc e f h (by rw[L.hP];exact k1) (by rw[L.hP];exact u216) (by rw[L.hP];exact k2) (λi r=>by
  obtain⟨_,⟨_,_,k⟩,_⟩:=L.hL _ (L.hF _ _ b r);unfold e8 fb at k
  exact⟨_,by simp[eg,k];rfl⟩) c
def PS(L:Gk X V M F mn)(h:X.Wg<w.heap.size):∀e∈(#[⟨ge (stA X.Wg),false,true⟩,⟨ge (stA X.Wg),true,true⟩]:Array bL),jG X V M w.heap.size e:=by
 have:=L.hP;intro e a;simp at a
 rcases a with rfl|rfl<;>exact eo (ft rfl) h
def xQ(L:Gk X V M F mn)(h:X.Wg<w.heap.size)(wr:Bool):∀e∈(#[⟨ge (stA X.Wg),wr,true⟩]:Array bL),jG X V M w.heap.size e:=by
 have:=L.hP;intro e a;simp at a;subst a;exact eo (ft rfl) h
def PT(L:Gk X V M F mn)(h:X.Wg<w.heap.size):∀e∈cC (smA X.Wg),jG X V M w.heap.size e:=by
 have:=L.hP;intro e a;simp[cC]at a
 rcases a with rfl|rfl|rfl|rfl
 .exact lX rfl
 .exact eo (ft rfl) h
 .exact eo (ft rfl) h
 .exact lX rfl
def MF(L:Gk X V M F false)(u:∀w,F w->Fin w)(a:Array ai)(b:List aF)(k:F w):ay X V false (O0 X V Fin) M 0 (dE X.Wg a b) w:=by
 have x:∀w,F w->ay X V true (AtD4 X V) M 1 (d7 X.Wg a b) w:=λw k=>.stop λn r=>by
  obtain⟨args,c,y⟩:=vo (aiU X.Wg a b);refine⟨(aj c).1,(aj c).2.1,λ_=>by rw[L.hP];exact aiV X.Wg a b,λs f m=>?_⟩;have l:=f.setWs L.hc.ids 1;obtain⟨o,p⟩:=uz (q:=true) L.hc (ft rfl) _ l;exact⟨_,_,_,M,1,Hf c y (by rw[L.hP];exact ajr:cw X.P 88 true _) f m.2.2,l,p 1 _ (PT L (lC f)) (λ_ j e h=>ae7 0 h),(aj c).2.2 _,400,by rw[L.hP];exact ajn X.Wg a b⟩
 have z:∀w,F w->ay X V true (AtD3 X V) M 1 (d6 X.Wg a b) w:=λw k=>.stop λn r=>by
  have c:=aiT X.Wg a b;refine⟨(aj c).1,(aj c).2.1,λh=>(by cases h),λs f m=>?_⟩;have l:=f.setWg L.hc.ids 0 0;have e:({ s with v:=0,wt:=0 }:Sh)={ s with wt:=0 }:=by rw[<-m.1]
  have st:=B6 (mn:=V.g==0) c (by rw[L.hP];exact ajt:cw X.P 111 true _) f;obtain⟨o,p⟩:=uz (q:=true) L.hc (ft rfl) _ l;rw[e]at l;exact⟨_,_,_,M,1,st,l,p 1 _ (xQ L (lC f) true) (λ_ j e h=>Xb 0 h),(aj c).2.2 _,L.aB (d_6 X.Wg a b) (x _ (L.hF _ _ (L.hF _ _ k r) o))⟩
 have A:∀w,F w->ay X V true (AtD2 X V) M 1 (d5 X.Wg a b) w:=λw k=>.stop λn r=>by
  have c:=aiS X.Wg a b;refine⟨(aj c).1,(aj c).2.1,λh=>(by cases h),λs f m=>?_⟩;have st:=oV (mn:=V.g==0) c (by rw[L.hP];exact Zl:cw X.P 110 true _) f;have e:vP s.v s.wt=1:=by rw[m.1,m.2.1];rfl
  rw[e]at st;exact⟨_,n,_,M,1,st,f,jI L.hc.ids rfl rfl (.refl _) rfl (λ_ _ _=>rfl) (xQ L (lC f) false) (λ_ j e h=>Xb 0 h),(aj c).2.2 _,L.aB (d_5 X.Wg a b) (z _ (L.hF _ _ k r))⟩
 have B:∀w,F w->ay X V true (AtD1 X V) M 1 (d4 X.Wg a b) w:=λw k=>.stop λn r=>by
  have c:=aiR X.Wg a b;refine⟨(aj c).1,(aj c).2.1,λh=>(by cases h),λs f m=>?_⟩;obtain⟨D,E,H,I⟩:=m;have J:=L.hn;have C:IntKind.u64.wrap (vP s.v s.wt+18446744069414584320)=vP (s.v-1) s.wt:=by
   obtain h|h|h:s.v=1\/s.v=2\/s.v=3:=ab
   all_goals
    obtain i|i:s.wt=0\/s.wt=1:=ab
    all_goals (rw[h,i];decide)
  have l:=f.setWg L.hc.ids (s.v-1) s.wt;have st:=xP (mn:=V.g==0) c (by rw[L.hP];exact ae4:cw X.P 109 true _) f C;obtain⟨o,p⟩:=uz (q:=true) L.hc (ft rfl) _ l;refine⟨_,_,_,M,1,st,l,p 1 _ (PS L (lC f)) (λ_ j e h=>ae6 0 h),(aj c).2.2 _,?_⟩;by_cases hv:s.v=1/\s.wt=1
  .simp only[hv,and_self,if_true];rw[show vP (1-1) 1=1 from rfl];exact L.aB (d_4 X.Wg a b) (A _ (by rw[hv.1,hv.2]at o;exact L.hF _ _ (L.hF _ _ k r) o))
  .simp only[if_neg hv];refine⟨400,?_⟩;rw[L.hP];obtain h|h|h:s.v=1\/s.v=2\/s.v=3:=ab
   .obtain i:s.wt=0:=ab;rw[h,i];exact adZ X.Wg a b
   .obtain i|i:s.wt=0\/s.wt=1:=ab
    .rw[h,i];exact ae0 X.Wg a b
    .rw[h,i];exact ae1 X.Wg a b
   .obtain i|i:s.wt=0\/s.wt=1:=ab
    .rw[h,i];exact ae2 X.Wg a b
    .rw[h,i];exact ae3 X.Wg a b
 refine L.aB (d_E X.Wg a b) (L.conv (aiN X.Wg a b) k (L.aB (d_0 X.Wg a b) (.stop λn r=>?_)));have c:=aiO X.Wg a b;have t:=L.hF _ _ k r;refine⟨(aj c).1,rfl,u _ t,_,kM (mk':=.releaseMerge) (ad:=⟨X.Wg,0,none⟩) c (by rw[L.hP];exact adt:cw X.P 76 false _) (λ_ _ h=>by cases h) rfl,(aj c).2.2 _,?_⟩;exact L.aB (d_1 X.Wg a b) (L.sG (aiP X.Wg a b) (L.aB (d_2 X.Wg a b) (L.idle (aiQ X.Wg a b) (L.aB (d_3 X.Wg a b) (B _ t)))))
end
open Go.cD (Wd Th Mv Safe Head eR spin qZ)
structure Lk(X:Fix)(V:Vw)(M:Own)(F:ag->Prop):Prop where
 hP:X.P=PP
 hg:(V.g==0)=false
 hc:dx X V M
 hF:∀w w',F w->Rl X V M w w'->F w'
 hL:∀w,F w->Live X w
 hn:X.n<=3
def kO{g:aa}{t:a8}{v:ai}(h:fj g=some (t,v)):∃o x,bF g=some o/\o.op=eV t x/\g.frame.eval x=v:=by
 unfold fj at h;grind
def D6{g:aa}{s d:a8}{v:ai}(h:gu g=some (s,d,v)):∃o x,bF g=some o/\o.op=eX s d x/\g.frame.eval x=v:=by
 unfold gu at h;grind
def xR{g:aa}{f:a7}{v:ai}(h:gZ g=some (f,some v)):∃args,az g=some (f,args)/\args[0]?=some v:=by
 unfold gZ at h
 cases hc:az g with
 |none=>rw[hc]at h;cases h
 |some x=>
  grind
section
variable {X:Fix}{V:Vw}{M:Own}{F:ag->Prop}{Fin:ag->Prop}{Stop:Stp}{d:Nat}{g g':aa}{w:ag}{q:Bool}
def Lk.aB(L:Lk X V M F)(h:gm g g')(a:ay X V q Stop M d g' w):ay X V q Stop M d g w:=h.run L.hP L.hg a
def Lk.sG(L:Lk X V M F)(a:az g=some (77,#[]))(b:ay X V q Stop M (d+1) (fin g (ej #[])) w):ay X V q Stop M d g w:=
 .Jo (m:=.disable) L.hc a (by rw[L.hP];exact adr) rfl b
def Lk.en(L:Lk X V M F)(a:az g=some (78,#[]))(b:ay X V q Stop M d (fin g (ej #[])) w):ay X V q Stop M (d+1) g w:=
 .Jo (m:=.enable) L.hc a (by rw[L.hP];exact ads) rfl b
def Lk.conv(L:Lk X V M F)(a:gu g=some (175,142,pt X.Mu))(b:F w)(c:ay X V q Stop M d (fin g (pt X.Mu)) w):ay X V q Stop M d g w:=by
 obtain⟨o,x,e,f,h⟩:=D6 a
 exact .conv L.hc e f h (by rw[L.hP];exact u237) (by rw[L.hP];exact u216) (by rw[L.hP];exact aiM) (λi r=>by
  obtain⟨⟨_,_,k⟩,_⟩:=L.hL _ (L.hF _ _ b r)
  exact⟨_,k.cellSt⟩) c
def Lk.low(L:Lk X V M F)(a:F w):X.Mu<w.heap.size:=by
 obtain⟨⟨_,_,k⟩,_⟩:=L.hL _ a;unfold MuAt at k;grind
def Lk.acq(L:Lk X V M F)(a:az g=some (91,#[pt X.Mu]))(b:F w)(c:ay X V q Stop M d (fin g (ej #[])) w):ay X V q Stop M d g w:=
 .Pe (mk':=.acquire) (ad:=⟨X.Mu,0,none⟩) L.hc a (by rw[L.hP];exact adu) (λ_ _ h=>by cases h) rfl (λe r=>⟨uq rfl (bs) (L.low (L.hF _ _ b r)),rfl⟩) (λ_=>rfl) c
def Lk.ajy(L:Lk X V M F)(a:az g=some (76,#[pt X.Mu]))(b:F w)(c:ay X V q Stop M d (fin g (ej #[])) w):ay X V q Stop M d g w:=
 .Pe (mk':=.releaseMerge) (ad:=⟨X.Mu,0,none⟩) L.hc a (by rw[L.hP];exact adt) (λ_ _ h=>by cases h) rfl (λe r=>⟨uq rfl (bs) (L.low (L.hF _ _ b r)),rfl⟩) (λ_=>rfl) c
def Lk.nano(L:Lk X V M F)(a:az g=some (122,#[]))(b:∀n:Nat,ay X V q Stop M d (fin g (ei f2 (n:Int))) w):ay X V q Stop M d g w:=
 .nano L.hc a (by rw[L.hP];exact aiJ) b
def Lk.ae8(L:Lk X V M F){n:Int}(a:az g=some (119,#[ei f2 n]))(c:∀b:Bool,(b=true->n<4)->ay X V q Stop M d (fin g (ek b)) w):ay X V q Stop M d g w:=
 .canSpin L.hc a (by rw[L.hP];exact aiH) c
def Lk.spins(L:Lk X V M F)(a:az g=some (120,#[]))(b:ay X V q Stop M d (fin g (ej #[])) w):ay X V q Stop M d g w:=
 .nothing L.hc a (by rw[L.hP];exact aiI) b
def PV(X:Fix)(c0:aH)(cs:List aH)(T:Th)(g:aa):Prop:=
 let up:=iw X.Mu c0 cs
 T.old.k<=3/\match T.pc with
 |.l0=>g=y1 X.Mu c0 cs
 |.r0=>T.aw=false/\T.sv=false/\T.it=0/\∃f a,g=S7 (A7 X.Mu f (ei f2 0) false false (ei f2 0) a) zr0.frame.todo up/\fj g=some (21,pt X.Mu)
 |.c1=>T.it<4/\T.aw=false/\T.old.l=true/\T.old.w=false/\T.old.s=false/\∃f,∃t:Nat,g=S7 (A7 X.Mu (px 33 (ek true) f) (ei f2 (t:Int)) T.sv false (ei f2 (T.it:Int)) (wv T.old)) zc1.frame.todo up/\az g=some (112,#[pt X.Mu,wv T.old,wv { T.old with w:=true }])
 |.r1=>T.it<4/\∃f,∃t:Nat,g=S7 (A7 X.Mu f (ei f2 (t:Int)) T.sv T.aw (ei f2 ((T.it+1:Nat):Int)) (wv T.old)) zr1.frame.todo up/\fj g=some (21,pt X.Mu)
 |.c2=>T.it<=4/\∃f,∃t:Nat,g=S7 (A7 X.Mu f (ei f2 (t:Int)) T.sv T.aw (ei f2 (T.it:Int)) (wv T.old)) xI.frame.todo up/\az g=some (112,#[pt X.Mu,wv T.old,wv T.nw])
 |.r3=>T.it<=4/\∃f,∃t:Nat,g=S7 (A7 X.Mu f (ei f2 (t:Int)) T.sv T.aw (ei f2 (T.it:Int)) (wv T.old)) zr3.frame.todo up/\fj g=some (21,pt X.Mu)
 |.s1=>∃f,∃t:Nat,∃b it a,g=S7 (A7 X.Mu f (ei f2 (t:Int)) T.sv b it a) FD.frame.todo up/\gZ g=some (123,some (el (some ⟨X.Mu,1,none⟩)))
 |.r2=>∃f,∃t:Nat,∃b it a,g=S7 (A7 X.Mu f (ei f2 (t:Int)) T.sv b it a) WT.frame.todo up/\fj g=some (21,pt X.Mu)
 |.a1=>∃f,∃st b it a,g=S7 (A7 X.Mu f st T.sv b it a) za1.frame.todo up/\az g=some (114,#[pt X.Mu,ei f3 (if T.ex then -11 else -7)])
 |_=>False
variable {c0:aH}{cs:List aH}{k:Nat}
def MG(X:Fix)(V:Vw)(Fin:ag->Prop)(M:Own)(F:ag->Prop)(c0:aH)(cs:List aH)(r k:Nat):Prop:=∀T g w,T.r=r->PV X c0 cs T g->F w->iF X V Fin k T M 1 g w
def ae9{T T':Th}(h:T.pc≠.out)(a:Alt T T')(b:iF X V Fin k T' M d g w):eU X V Fin k T M d g w:=by
 unfold eU;grind
def MG.run{r:Nat}(A:MG X V Fin M F c0 cs r k)(L:Lk X V M F){T T':Th}(b:T.r=r)(c:T'.pc≠.out)(a:Alt T' T)(h:PV X c0 cs T g)(e:F w):ay X V false (eU X V Fin k T') M 1 g w:=
 .stop λf i=>ae9 c a (A T g f b h (L.hF _ _ e i))
def sO{r:Nat}(A:MG X V Fin M F c0 cs r k)(L:Lk X V M F){T:Th}(E:T.r=r)(m:T.old.k<=3)(C:T.aw=true->T.old.w=true)(hi:T.it<=4)(f:Nat->ai)(t:Nat)(H:F w) :
 ay X V false (eU X V Fin k (eR T)) M 1 (S7 (A7 X.Mu f (ei f2 (t:Int)) T.sv T.aw (ei f2 (T.it:Int)) (wv T.old)) CE.frame.todo (iw X.Mu c0 cs)) w:=by
 obtain⟨N,hd⟩:=ada X.Mu f (iw X.Mu c0 cs) (ei f2 (t:Int)) (ei f2 (T.it:Int)) (wv T.old) T.sv T.aw;obtain⟨pc,⟨l,c,s,n⟩,o,i,a,it,ex,p⟩:=T;simp only at E m C hi N hd;have I:(eR ⟨pc,⟨l,c,s,n⟩,o,i,a,it,ex,p⟩).pc≠.out:=by simp[eR]
 have go:∀g',gm (nx PP false (S7 (A7 X.Mu f (ei f2 (t:Int)) a i (ei f2 (it:Int)) (wv ⟨l,c,s,n⟩)) CE.frame.todo (iw X.Mu c0 cs))) g'->ay X V false (eU X V Fin k (eR ⟨pc,⟨l,c,s,n⟩,o,i,a,it,ex,p⟩)) M 1 g' w->
  ay X V false (eU X V Fin k (eR ⟨pc,⟨l,c,s,n⟩,o,i,a,it,ex,p⟩)) M 1 (S7 (A7 X.Mu f (ei f2 (t:Int)) a i (ei f2 (it:Int)) (wv ⟨l,c,s,n⟩)) CE.frame.todo (iw X.Mu c0 cs)) w:=
  λg' h Q=>YQ.run ⟨N,hd,h⟩ L.hP L.hg Q
 have u:∀j,az (S7 (A7 X.Mu j (ei f2 (t:Int)) a i (ei f2 (it:Int)) (wv ⟨l,c,s,n⟩)) xI.frame.todo (iw X.Mu c0 cs))=some (112,#[pt X.Mu,wv ⟨l,c,s,n⟩,wv (qZ { pc:=.c2,old:=⟨l,c,s,n⟩,aw:=i,sv:=a,r:=0 })])->
  ay X V false (eU X V Fin k (eR ⟨pc,⟨l,c,s,n⟩,o,i,a,it,ex,p⟩)) M 1 (S7 (A7 X.Mu j (ei f2 (t:Int)) a i (ei f2 (it:Int)) (wv ⟨l,c,s,n⟩)) xI.frame.todo (iw X.Mu c0 cs)) w:=
  λj h=>A.run L (T:=eR ⟨pc,⟨l,c,s,n⟩,o,i,a,it,ex,p⟩) E I (.refl _) ⟨m,hi,j,t,rfl,h⟩ H
 by_cases R:l=true/\s=false
 .obtain⟨rfl,rfl⟩:=R;obtain⟨j,y,z⟩:=YS X.Mu f (iw X.Mu c0 cs) (ei f2 (t:Int)) (ei f2 (it:Int)) a i c n m;refine go _ y (L.ae8 z λb hb=>?_)
  cases b with
  |false=>
   obtain⟨D,v,x⟩:=Uh X.Mu j (iw X.Mu c0 cs) (ei f2 (t:Int)) (ei f2 (it:Int)) a i c n m C;exact L.aB v (u _ x)
  |true=>
   have J:it<4:=by have:=hb rfl;omega
   have alt:Alt (eR ⟨pc,⟨true,c,false,n⟩,o,i,a,it,ex,p⟩) (spin ⟨pc,⟨true,c,false,n⟩,o,i,a,it,ex,p⟩):=.head _ _ (.spin rfl rfl J) C;have B:∀j,az (S7 (A7 X.Mu j (ei f2 (t:Int)) a i (ei f2 (it:Int)) (wv ⟨true,c,false,n⟩)) FC.frame.todo (iw X.Mu c0 cs))=some (120,#[])->(spin ⟨pc,⟨true,c,false,n⟩,o,i,a,it,ex,p⟩).pc=.r1->
    ay X V false (eU X V Fin k (eR ⟨pc,⟨true,c,false,n⟩,o,i,a,it,ex,p⟩)) M 1 (S7 (A7 X.Mu j (ei f2 (t:Int)) a i (ei f2 (it:Int)) (wv ⟨true,c,false,n⟩)) FC.frame.todo (iw X.Mu c0 cs)) w:=by
    intro j S U;refine L.spins S ?_;obtain⟨W,O,P⟩:=adf X.Mu j (iw X.Mu c0 cs) (ei f2 (t:Int)) (wv ⟨true,c,false,n⟩) (it:Int) a i;have e:IntKind.i64.wrap ((it:Int)+1)=((it+1:Nat):Int):=by
     obtain h|h|h|h:it=0\/it=1\/it=2\/it=3:=ab
     all_goals (rw[h];decide)
    rw[e]at O P;refine L.aB O (A.run L (T:=spin ⟨pc,⟨true,c,false,n⟩,o,i,a,it,ex,p⟩) E I alt ⟨m,?_⟩ H);rw[U];exact⟨J,W,t,rfl,P⟩
   cases i with
   |true=>
    obtain⟨D,v,x⟩:=YT X.Mu j (iw X.Mu c0 cs) (ei f2 (t:Int)) (ei f2 (it:Int)) a c n m;exact L.aB v (B _ x (by simp[spin]))
   |false=>
    cases c with
    |true=>
     obtain⟨D,v,x⟩:=YU X.Mu j (iw X.Mu c0 cs) (ei f2 (t:Int)) (ei f2 (it:Int)) a n m;exact L.aB v (B _ x (by simp[spin]))
    |false=>
     by_cases K:n=0
     .subst K;obtain⟨D,v,x⟩:=YV X.Mu j (iw X.Mu c0 cs) (ei f2 (t:Int)) (ei f2 (it:Int)) a;exact L.aB v (B _ x (by simp[spin]))
     .obtain⟨D,v,x⟩:=aio X.Mu j (iw X.Mu c0 cs) (ei f2 (t:Int)) (ei f2 (it:Int)) a n m K;refine L.aB v (A.run L (T:=spin ⟨pc,⟨true,false,false,n⟩,o,false,a,it,ex,p⟩) E I alt ⟨m,?_⟩ H);have:(spin ⟨pc,⟨true,false,false,n⟩,o,false,a,it,ex,p⟩).pc=.c1:=by simp[spin,K]
      rw[this];exact⟨J,rfl,rfl,rfl,rfl,D,t,rfl,x⟩
 .cases l with
  |false=>
   cases s with
   |false=>
    obtain⟨j,y,z⟩:=Ue X.Mu f (iw X.Mu c0 cs) (ei f2 (t:Int)) (ei f2 (it:Int)) a i c n m C;exact go _ y (u _ z)
   |true=>
    obtain⟨j,y,z⟩:=Uf X.Mu f (iw X.Mu c0 cs) (ei f2 (t:Int)) (ei f2 (it:Int)) a i c n m C;exact go _ y (u _ z)
  |true=>
   cases s with
   |false=>grind
   |true=>
    obtain⟨j,y,z⟩:=Ug X.Mu f (iw X.Mu c0 cs) (ei f2 (t:Int)) (ei f2 (it:Int)) a i c n m C;exact go _ y (u _ z)
end
end Go.Proofs
namespace Go.Proofs
open Go.Ph Go.Conc Go.ConcN
open Go.ConcM (MuAt muA msA OsLater muBlock)
open Go.ConcR (KK WgAt stA smA rd wr mk)
open Go.cD (Wd Th Mv Head eR spin qZ)
def aea(m:Nat)(c0:aH)(cs:List aH):az (y1 m c0 cs)=some (112,#[pt m,wv {},wv { l:=true }]):=ae
def xS{x:Wd}{l w s:Bool}(a:x.l=l)(b:x.w=w)(c:x.s=s):x=⟨l,w,s,x.k⟩:=by
 subst a b c;rfl
section
variable {X:Fix}{V:Vw}{M:Own}{F:ag->Prop}{Fin:ag->Prop}{d:Nat}{g:aa}{w:ag}{k:Nat}{T:Th}
def B7(b:g.status=.running/\g.offers=none)(c:T.pc≠.us)(f:T.pc≠.s1)
 (H:∀s,ShAt X w s->cD.Safe T s.mw->s.mw.k<=X.n->s.ms<=1->∃T' a ms' g' w' es,Mv s.mw s.ms T T' a ms'/\stepG X.P (V.g==0) g w=.go g' w' es/\ShAt X w' { s with mw:=a,ms:=ms' }/\
   Dl X V false M d w w' es M d/\g'.status=.running/\ay X V false (eU X V Fin k T') M d g' w'):iF X V Fin (k+1) T M d g w:=by
 unfold iF;refine⟨b.1,b.2,λe=>absurd e c,λs h i j l=>⟨λe=>absurd e.1 f,λ_=>?_⟩⟩;obtain⟨T',a,ms',g',w',es,a1,a2,a3,a4,m,o⟩:=H s h i j l;exact⟨T',a,ms',g',w',es,M,d,a1,a2,a3,a4,m,o⟩
def sP(L:Lk X V M F)(h:fj g=some (21,pt X.Mu))(c:(PP.funcs[g.frame.fn]?).any (·.norace)=true)(e:T.pc≠.us)(f:T.pc≠.s1)
 (H:∀s:Sh,cD.Safe T s.mw->s.mw.k<=3->∃T',Mv s.mw s.ms T T' s.mw s.ms/\ay X V false (eU X V Fin k T') M d (fin g (wv s.mw)) w):iF X V Fin (k+1) T M d g w:=by
 obtain⟨o,x,a,i,j⟩:=kO h;refine B7 ⟨(aK a).1,(aK a).2.1⟩ e f λs b l m n=>?_;obtain⟨T',a1,a2⟩:=H s l (ec m L.hn);exact⟨T',s.mw,s.ms,_,w,#[],a1,xG a i j (by rw[L.hP];exact u21) b.1.cellSt (by rw[L.hP];exact c),b,JC L.hc d w #[] ar,(aK a).2.2 _,a2⟩
def B8(L:Lk X V M F){old nw:Wd}(h:az g=some (112,#[pt X.Mu,wv old,wv nw]))(c:T.pc≠.us)(f:T.pc≠.s1)(i:F w)
 (H:∀s:Sh,cD.Safe T s.mw->s.mw.k<=3->(s.mw=old->∃T',Mv s.mw s.ms T T' nw s.ms/\∀w',F w'->ay X V false (eU X V Fin k T') M d (fin g (ek true)) w')/\
   (s.mw≠old->∃T',Mv s.mw s.ms T T' s.mw s.ms/\ay X V false (eU X V Fin k T') M d (fin g (ek false)) w)):iF X V Fin (k+1) T M d g w:=by
 refine B7 ⟨(aj h).1,(aj h).2.1⟩ c f λs a j l q=>?_;obtain⟨m,n⟩:=H s j (ec l L.hn);by_cases e:s.mw=old
 .obtain⟨T',a1,a2⟩:=m e;subst e;have b:=a.setMu L.hc.ids nw;obtain⟨o,p⟩:=sL L.hc (fp rfl) _ b;exact⟨T',nw,s.ms,_,_,_,a1,DZ h (by rw[L.hP];exact adw) a,b,p d _ (PR (xO a)),(aj h).2.2 _,a2 _ (L.hF _ _ i o)⟩
 .obtain⟨T',a1,a2⟩:=n e;exact⟨T',s.mw,s.ms,_,w,_,a1,B5 h (by rw[L.hP];exact adw) a e,a,JC L.hc d w _ (ae5 (xO a)),(aj h).2.2 _,a2⟩
def PW(L:Lk X V M F){n:Int}(h:az g=some (114,#[pt X.Mu,ei f3 n]))(c:T.pc≠.us)(e:T.pc≠.s1)(f:F w)
 (H:∀s:Sh,cD.Safe T s.mw->s.mw.k<=3->∃T' x,IntKind.i32.wrap (((s.mw.num:Nat):Int)+n)=((x.num:Nat):Int)/\Mv s.mw s.ms T T' x s.ms/\∀w',F w'->ay X V false (eU X V Fin k T') M d (fin g (wv x)) w'):iF X V Fin (k+1) T M d g w:=by
 refine B7 ⟨(aj h).1,(aj h).2.1⟩ c e λs a i j o=>?_;obtain⟨T',x,a0,a1,a2⟩:=H s i (ec j L.hn);have b:=a.setMu L.hc.ids x;obtain⟨l,m⟩:=sL L.hc (fp rfl) _ b;exact⟨T',x,s.ms,_,_,_,a1,PO h (by rw[L.hP];exact aiG) a a0,b,m d _ (PR (xO a)),(aj h).2.2 _,a2 _ (L.hF _ _ f l)⟩
def Zn(L:Lk X V M F)(h:gZ g=some (123,some (el (some ⟨X.Mu,1,none⟩))))(a:T.pc=.s1)(l:F w)
 (H:∀s:Sh,cD.Safe T s.mw->s.ms≠0->∃T',Mv s.mw s.ms T T' s.mw (s.ms-1)/\∀w',F w'->ay X V false (eU X V Fin k T') M d (fin g (ej #[])) w'):iF X V Fin (k+1) T M d g w:=by
 obtain⟨args,b,i⟩:=xR h;unfold iF;refine⟨(aj b).1,(aj b).2.1,λe=>(by rw[a]at e;cases e),λs c m p q=>⟨λe=>?_,λe=>?_⟩⟩
 .have:=D5 (mn:=V.g==0) b i (by rw[L.hP];exact adx:cw X.P 123 true _) c;rwa[if_pos e.2]at this
 .have f:s.ms≠0:=λf=>e ⟨a,f⟩;obtain⟨T',a1,a2⟩:=H s m f;have st:=D5 (mn:=V.g==0) b i (by rw[L.hP];exact adx:cw X.P 123 true _) c;rw[if_neg f]at st;have j:=c.setMs L.hc.ids (s.ms-1);obtain⟨n,o⟩:=sL L.hc (fp rfl) _ j;exact⟨T',s.mw,s.ms-1,_,_,_,M,d,a1,st,j,o d _ (JD (xO c)),(aj b).2.2 _,a2 _ (L.hF _ _ l n)⟩
variable {c0:aH}{cs:List aH}
def uA(X:Fix)(V:Vw)(Fin:ag->Prop)(M:Own)(F:ag->Prop)(c0:aH)(cs:List aH)(r:Nat):Prop:=∀k w,F w->ay X V false (eU X V Fin k { pc:=.u0,r:=r }) M 0 (G (c0.finish (ej #[])) cs) w
def aeb{r:Nat}(L:Lk X V M F)(e:uA X V Fin M F c0 cs r)(f:Nat->ai)(st:ai)(a b:Bool)(it old:ai)(w:ag)(c:F w)(hc:az (S7 (A7 X.Mu f st a b it old) WU.frame.todo (iw X.Mu c0 cs))=some (78,#[])) :
 ay X V false (eU X V Fin k { pc:=.u0,r:=r }) M 1 (S7 (A7 X.Mu f st a b it old) WU.frame.todo (iw X.Mu c0 cs)) w:=by
 refine L.en hc ?_;obtain⟨h,a1,a2⟩:=ais X.Mu f (iw X.Mu c0 cs) st it old a b;refine L.aB a1 (L.conv a2 c ?_);obtain⟨i,a3,a4⟩:=ait X.Mu h (iw X.Mu c0 cs) st it old a b;exact L.aB a3 (L.acq a4 c ((l_e X.Mu c0 cs i st it old a b).run L.hP L.hg (e k w c)))
def Zo{a:Nat}(L:Lk X V M F)(m:uA X V Fin M F c0 cs a)(A:MG X V Fin M F c0 cs a k){old nw:Wd}{f i:Bool}{it:Nat}{ex:Bool}(o:old.k<=3)(h:PV X c0 cs ⟨.l0,old,nw,f,i,it,ex,a⟩ g)(j:F w) :
 iF X V Fin (k+1) ⟨.l0,old,nw,f,i,it,ex,a⟩ M 1 g w:=by
 have b:g=y1 X.Mu c0 cs:=h.2;have hl:=aea X.Mu c0 cs;rw[<-b]at hl;refine B8 L (old:={}) (nw:={ l:=true }) hl (bs) (bs) j λs _ _=>⟨λe=>⟨_,.lock _ rfl e,λw' c=>?_⟩,λe=>⟨_,.acJ _ rfl e,?_⟩⟩
 .rw[b];refine L.aB (l_1 X.Mu c0 cs) (L.en (aiv X.Mu c0 cs) (L.aB (l_2 X.Mu c0 cs) (L.conv (aiw X.Mu c0 cs) c (L.aB (l_3 X.Mu c0 cs) (L.acq (aix X.Mu c0 cs) c ((l_4 X.Mu c0 cs).run L.hP L.hg (m k w' c)))))))
 .rw[b];obtain⟨n,a1,a2⟩:=l_s X.Mu c0 cs;exact L.aB a1 (A.run L (T:={ pc:=.r0,r:=a }) rfl ar (.refl _) ⟨ar,rfl,rfl,rfl,n,undef,rfl,a2⟩ j)
def Zp{a:Nat}(L:Lk X V M F)(j:uA X V Fin M F c0 cs a)(A:MG X V Fin M F c0 cs a k){old nw:Wd}{b c:Bool}{it:Nat}{ex:Bool}(l:old.k<=3)(h:PV X c0 cs ⟨.r0,old,nw,b,c,it,ex,a⟩ g)(e:F w) :
 iF X V Fin (k+1) ⟨.r0,old,nw,b,c,it,ex,a⟩ M 1 g w:=by
 replace h:=h.2;obtain⟨rfl,rfl,rfl,f,o,rfl,hl⟩:=h;refine sP L hl Js (bs) (bs) λs _ hs=>⟨_,.Ws _ _ rfl .c2,?_⟩
 obtain⟨i,a1,a2⟩:=ail X.Mu f (iw X.Mu c0 cs) (ei f2 0) (ei f2 0) o (wv s.mw) false false;exact L.aB a1 (sO A L (T:={ pc:=.r0,old:=s.mw,r:=a }) rfl hs ar ar i 0 e)
def Zq{b:Nat}(L:Lk X V M F)(x:uA X V Fin M F c0 cs b)(A:MG X V Fin M F c0 cs b k){old nw:Wd}{m a:Bool}{it:Nat}{ex:Bool}(r:old.k<=3)(h:PV X c0 cs ⟨.c1,old,nw,m,a,it,ex,b⟩ g)(n:F w) :
 iF X V Fin (k+1) ⟨.c1,old,nw,m,a,it,ex,b⟩ M 1 g w:=by
 replace h:=h.2;obtain⟨o,rfl,y,z,B,f,t,rfl,hc⟩:=h;have j:∀c i w',F w'->az (S7 (A7 X.Mu i (ei f2 (t:Int)) a c (ei f2 (it:Int)) (wv old)) FC.frame.todo (iw X.Mu c0 cs))=some (120,#[])->
  ay X V false (eU X V Fin k ⟨.r1,old,nw,c,a,it,ex,b⟩) M 1 (S7 (A7 X.Mu i (ei f2 (t:Int)) a c (ei f2 (it:Int)) (wv old)) FC.frame.todo (iw X.Mu c0 cs)) w':=by
  intro c i w' l u;refine L.spins u ?_;obtain⟨v,p,q⟩:=adf X.Mu i (iw X.Mu c0 cs) (ei f2 (t:Int)) (wv old) (it:Int) a c;have e:IntKind.i64.wrap ((it:Int)+1)=((it+1:Nat):Int):=by
   obtain h|h|h|h:it=0\/it=1\/it=2\/it=3:=by simp only at o;omega
   all_goals (rw[h];decide)
  rw[e]at p q;exact L.aB p (A.run L (T:=⟨.r1,old,nw,c,a,it,ex,b⟩) rfl ar (.refl _) ⟨r,o,v,t,rfl,q⟩ l)
 refine B8 L hc (bs) (bs) n λs C _=>⟨λe=>⟨⟨.r1,old,nw,true,a,it,ex,b⟩,?_,λw' l=>?_⟩,λe=>⟨_,.Wu _ rfl e,?_⟩⟩
 .have:=Mv.Wt (w:=s.mw) (ms:=s.ms) (⟨.c1,old,nw,false,a,it,ex,b⟩:Th) rfl e;grind
 .obtain⟨i,a1,a2⟩:=adb X.Mu f (iw X.Mu c0 cs) (ei f2 (t:Int)) (ei f2 (it:Int)) (wv old) a false;exact L.aB a1 (j _ _ _ l a2)
 .obtain⟨i,a1,a2⟩:=ade X.Mu f (iw X.Mu c0 cs) (ei f2 (t:Int)) (ei f2 (it:Int)) (wv old) a false;exact L.aB a1 (j _ _ _ n a2)
def Zr{a:Nat}(L:Lk X V M F)(n:uA X V Fin M F c0 cs a)(A:MG X V Fin M F c0 cs a k){old nw:Wd}{b c:Bool}{it:Nat}{ex:Bool}(o:old.k<=3)(h:PV X c0 cs ⟨.r1,old,nw,b,c,it,ex,a⟩ g)(i:F w) :
 iF X V Fin (k+1) ⟨.r1,old,nw,b,c,it,ex,a⟩ M 1 g w:=by
 replace h:=h.2;obtain⟨j,f,t,rfl,hl⟩:=h;refine sP L hl Js (bs) (bs) λs l hs=>⟨_,.Wv _ _ rfl .c2,?_⟩
 obtain⟨m,a1,a2⟩:=aim X.Mu f (iw X.Mu c0 cs) (ei f2 (t:Int)) (ei f2 ((it+1:Nat):Int)) (wv old) (wv s.mw) c b;exact L.aB a1 (sO A L (T:=⟨.r1,s.mw,nw,b,c,it+1,ex,a⟩) rfl hs (λe=>(l.aw e).1) (by simp only at j ⊢;omega) m t i)
def Zs{o:Nat}(L:Lk X V M F)(C:uA X V Fin M F c0 cs o)(A:MG X V Fin M F c0 cs o k){old nw:Wd}{b a:Bool}{it:Nat}{ex:Bool}(m:old.k<=3)(h:PV X c0 cs ⟨.c2,old,nw,b,a,it,ex,o⟩ g)(B:F w) :
 iF X V Fin (k+1) ⟨.c2,old,nw,b,a,it,ex,o⟩ M 1 g w:=by
 replace h:=h.2;obtain⟨D,f,t,rfl,hc⟩:=h;refine B8 L hc (bs) (bs) B λs H hs=>⟨λe=>?_,λe=>⟨_,.Ww _ rfl e,?_⟩⟩
 .by_cases u:s.mw.l=false/\s.mw.s=false
  .refine⟨_,.take _ rfl e u.1 u.2,λw' z=>?_⟩;simp only at e;rw[e]at u;obtain⟨l,i,j,n⟩:=old;obtain⟨rfl,rfl⟩:=u;obtain⟨c,a1,a2⟩:=G6 X.Mu f (iw X.Mu c0 cs) (ei f2 (t:Int)) (ei f2 (it:Int)) a b i n m;exact L.aB a1 (aeb L C _ _ _ _ _ _ _ z a2)
  .have v:s.mw.l=true\/s.mw.s=true:=by
    grind
   refine⟨_,.queue _ rfl e v,λw' z=>?_⟩;simp only at e;rw[e]at v;have q:∀c(p:Nat)x y,gZ (S7 (A7 X.Mu c (ei f2 (p:Int)) a b x y) FD.frame.todo (iw X.Mu c0 cs))=some (123,some (el (some ⟨X.Mu,1,none⟩)))->
    ay X V false (eU X V Fin k { pc:=.s1,sv:=a,r:=o }) M 1 (S7 (A7 X.Mu c (ei f2 (p:Int)) a b x y) FD.frame.todo (iw X.Mu c0 cs)) w':=
    λc p x y hs=>A.run L (T:={ pc:=.s1,sv:=a,r:=o }) rfl ar (.refl _) ⟨ar,c,p,b,x,y,rfl,hs⟩ z
   obtain⟨l,i,j,n⟩:=old
   have key:(∃c,gm (fin (S7 (A7 X.Mu f (ei f2 (t:Int)) a b (ei f2 (it:Int)) (wv ⟨l,i,j,n⟩)) xI.frame.todo (iw X.Mu c0 cs)) (ek true)) (S7 (A7 X.Mu c (ei f2 (t:Int)) a b (ei f2 (it:Int)) (wv ⟨l,i,j,n⟩)) Te.frame.todo (iw X.Mu c0 cs))/\
    az (S7 (A7 X.Mu c (ei f2 (t:Int)) a b (ei f2 (it:Int)) (wv ⟨l,i,j,n⟩)) Te.frame.todo (iw X.Mu c0 cs))=some (122,#[]))\/
    (∃c,gm (fin (S7 (A7 X.Mu f (ei f2 (t:Int)) a b (ei f2 (it:Int)) (wv ⟨l,i,j,n⟩)) xI.frame.todo (iw X.Mu c0 cs)) (ek true)) (S7 (A7 X.Mu c (ei f2 (t:Int)) a b (ei f2 (it:Int)) (wv ⟨l,i,j,n⟩)) FD.frame.todo (iw X.Mu c0 cs))/\
    gZ (S7 (A7 X.Mu c (ei f2 (t:Int)) a b (ei f2 (it:Int)) (wv ⟨l,i,j,n⟩)) FD.frame.todo (iw X.Mu c0 cs))=some (123,some (el (some ⟨X.Mu,1,none⟩)))):=by
    cases t with
    |zero=>
     left;cases l<;>cases j<;>simp at v
     .exact Mp X.Mu f (iw X.Mu c0 cs) (ei f2 (it:Int)) a b i n m
     .exact Mt X.Mu f (iw X.Mu c0 cs) (ei f2 (it:Int)) a b i n m
     .exact Mr X.Mu f (iw X.Mu c0 cs) (ei f2 (it:Int)) a b i n m
    |succ t=>
     right;cases l<;>cases j<;>simp at v
     .exact Mq X.Mu f (iw X.Mu c0 cs) t (ei f2 (it:Int)) a b i n m
     .exact Mw X.Mu f (iw X.Mu c0 cs) t (ei f2 (it:Int)) a b i n m
     .exact Ms X.Mu f (iw X.Mu c0 cs) t (ei f2 (it:Int)) a b i n m
   rcases key with⟨c,a1,a2⟩|⟨c,a1,a2⟩
   .refine L.aB a1 (L.nano a2 λp=>?_);obtain⟨E,a3,a4⟩:=aip X.Mu c (iw X.Mu c0 cs) (ei f2 (t:Int)) (ei f2 (it:Int)) (wv ⟨l,i,j,n⟩) (ei f2 (p:Int)) a b;exact L.aB a3 (q E p _ _ a4)
   .exact L.aB a1 (q c t _ _ a2)
 .obtain⟨c,a1,a2⟩:=adg X.Mu f (iw X.Mu c0 cs) (ei f2 (t:Int)) (ei f2 (it:Int)) (wv old) a b;exact L.aB a1 (A.run L (T:=⟨.r3,old,nw,b,a,it,ex,o⟩) rfl ar (.refl _) ⟨m,D,c,t,rfl,a2⟩ B)
def Zt{a:Nat}(L:Lk X V M F)(n:uA X V Fin M F c0 cs a)(A:MG X V Fin M F c0 cs a k){old nw:Wd}{b c:Bool}{it:Nat}{ex:Bool}(o:old.k<=3)(h:PV X c0 cs ⟨.r3,old,nw,b,c,it,ex,a⟩ g)(i:F w) :
 iF X V Fin (k+1) ⟨.r3,old,nw,b,c,it,ex,a⟩ M 1 g w:=by
 replace h:=h.2;obtain⟨j,f,t,rfl,hl⟩:=h;refine sP L hl Js (bs) (bs) λs l hs=>⟨_,.Wx _ _ rfl .c2,?_⟩
 obtain⟨m,a1,a2⟩:=ain X.Mu f (iw X.Mu c0 cs) (ei f2 (t:Int)) (ei f2 (it:Int)) (wv old) (wv s.mw) c b;exact L.aB a1 (sO A L (T:=⟨.r3,s.mw,nw,b,c,it,ex,a⟩) rfl hs (λe=>(l.aw e).1) j m t i)
def Zu{a:Nat}(L:Lk X V M F)(v:uA X V Fin M F c0 cs a)(A:MG X V Fin M F c0 cs a k){old nw:Wd}{m j:Bool}{it:Nat}{ex:Bool}(x:old.k<=3)(h:PV X c0 cs ⟨.s1,old,nw,m,j,it,ex,a⟩ g)(p:F w) :
 iF X V Fin (k+1) ⟨.s1,old,nw,m,j,it,ex,a⟩ M 1 g w:=by
 replace h:=h.2;obtain⟨f,t,b,c,i,rfl,hs⟩:=h;refine Zn L hs rfl p λs _ q=>⟨_,.woken _ j rfl (λe=>e) q,λw' o=>?_⟩
 cases j with
 |true=>
  obtain⟨l,a1,a2⟩:=adh X.Mu f (iw X.Mu c0 cs) (ei f2 (t:Int)) c i b;exact L.aB a1 (A.run L (T:={ pc:=.r2,sv:=true,r:=a }) rfl ar (.refl _) ⟨ar,l,t,b,c,i,rfl,a2⟩ o)
 |false=>
  obtain⟨l,a1,a2⟩:=adi X.Mu f (iw X.Mu c0 cs) (ei f2 (t:Int)) c i b;refine L.aB a1 (L.nano a2 λn=>?_);obtain⟨u,a3,a4⟩:=aiq X.Mu l (iw X.Mu c0 cs) c i (t:Int) (n:Int) b;exact L.aB a3 (A.run L (T:={ pc:=.r2,sv:=decide (IntKind.i64.wrap ((n:Int)-(t:Int)) > 1000000),r:=a }) rfl ar (.r2 _ _ rfl ar) ⟨ar,u,t,b,c,i,rfl,a4⟩ o)
def Zv{b:Nat}(L:Lk X V M F)(y:uA X V Fin M F c0 cs b)(A:MG X V Fin M F c0 cs b k){old nw:Wd}{n a:Bool}{it:Nat}{ex:Bool}(z:old.k<=3)(h:PV X c0 cs ⟨.r2,old,nw,n,a,it,ex,b⟩ g)(o:F w) :
 iF X V Fin (k+1) ⟨.r2,old,nw,n,a,it,ex,b⟩ M 1 g w:=by
 replace h:=h.2;obtain⟨f,t,i,j,p,rfl,hl⟩:=h;refine sP L hl Js (bs) (bs) λs q hs=>?_
 cases c:s.mw.s with
 |false=>
  refine⟨_,.Wz _ _ rfl c .c2,?_⟩;have e:s.mw=⟨s.mw.l,s.mw.w,false,s.mw.k⟩:=xS rfl rfl c;obtain⟨m,a1,a2⟩:=adj X.Mu f (iw X.Mu c0 cs) (ei f2 (t:Int)) j p a i s.mw.l s.mw.w s.mw.k hs;rw[<-e]at a1;exact L.aB a1 (sO A L (T:=⟨.r2,s.mw,nw,true,a,0,ex,b⟩) rfl hs (λ_=>q.r2n rfl c) ar m t o)
 |true=>
  obtain⟨u,v,x⟩:=q.r2 rfl c;refine⟨_,.handed _ rfl c,?_⟩;have e:s.mw=⟨false,false,true,s.mw.k⟩:=xS u v c;obtain⟨m,a1,a2⟩:=adk X.Mu f (iw X.Mu c0 cs) (ei f2 (t:Int)) j p a i s.mw.k hs x;rw[<-e]at a1 a2;exact L.aB a1 (A.run L (T:={ pc:=.a1,sv:=a,ex:=!a||s.mw.k==1,r:=b }) rfl ar (.refl _) ⟨ar,m,_,i,j,_,rfl,a2⟩ o)
def Zw{a:Nat}(L:Lk X V M F)(e:uA X V Fin M F c0 cs a)(A:MG X V Fin M F c0 cs a k){old nw:Wd}{c b:Bool}{it:Nat}{ex:Bool}(u:old.k<=3)(h:PV X c0 cs ⟨.a1,old,nw,c,b,it,ex,a⟩ g)(i:F w) :
 iF X V Fin (k+1) ⟨.a1,old,nw,c,b,it,ex,a⟩ M 1 g w:=by
 replace h:=h.2;obtain⟨f,st,j,m,n,rfl,hc⟩:=h;refine PW L hc (bs) (bs) i λs o hs=>⟨_,_,?_,.acK _ rfl,λw' p=>?_⟩
 .obtain⟨q,r,t,v⟩:=o.a1 rfl;rw[xS q r t];obtain h|h|h:s.mw.k=1\/s.mw.k=2\/s.mw.k=3:=ab
  all_goals (rw[h];simp only;cases ex<;>rfl)
 .obtain⟨x,a1,a2⟩:=air X.Mu f (iw X.Mu c0 cs) st m n (wv { l:=true,w:=s.mw.w,s:=s.mw.s && !ex,k:=s.mw.k-1 }) b j;exact L.aB a1 (aeb L e _ _ _ _ _ _ _ p a2)
def arr(L:Lk X V M F)(r:Nat)(a:uA X V Fin M F c0 cs r):∀k,MG X V Fin M F c0 cs r k
 |0=>λ_ _ _ _ _ _=>trivial
 |k+1=>λT g w e h c=>by
  have A:=arr L r a k;have b:=h.1;obtain⟨pc,f,i,j,l,it,ex,m⟩:=T;simp only at e b;subst e
  cases pc with
  |l0=>exact Zo L a A b h c
  |r0=>exact Zp L a A b h c
  |c1=>exact Zq L a A b h c
  |r1=>exact Zr L a A b h c
  |c2=>exact Zs L a A b h c
  |r3=>exact Zt L a A b h c
  |s1=>exact Zu L a A b h c
  |r2=>exact Zv L a A b h c
  |a1=>exact Zw L a A b h c
  |_=>exact absurd h.2 id
def MH(L:Lk X V M F)(r:Nat)(a:uA X V Fin M F c0 cs r)(k:Nat)(b:F w) :
 ay X V false (eU X V Fin k { pc:=.l0,r:=r }) M 0 (G (c8 X.P 57 #[el (some ⟨X.Mu,0,none⟩)] db) (c0::cs)) w:=by
 rw[L.hP];exact L.aB (l_E X.Mu c0 cs) (L.sG (aiu X.Mu c0 cs) (L.aB (l_0 X.Mu c0 cs) ((arr L r a k).run L (T:={ pc:=.l0,r:=r }) rfl ar (.refl _) ⟨ar,rfl⟩ b)))
end
end Go.Proofs
namespace Go.Proofs
open Go.Ph Go.Conc Go.ConcN
open Go.ConcM (MuAt muA msA OsLater muBlock)
open Go.ConcR (KK WgAt stA smA rd wr mk)
open Go.cD (Wd Th Mv bP)
def aec(m:Nat)(f:Nat->ai)(o:ai)(up:List aH):aJ PP (G (vk (A9 m f o) wus.frame.todo) up)=true:=ae
def aed(m:Nat)(f:Nat->ai)(o:ai)(up:List aH):aJ PP (G (vk (A9 m f o) wuh.frame.todo) up)=true:=ae
def aee(m:Nat)(c0:aH)(cs:List aH):(PP.funcs[(x0 m c0 cs).frame.fn]?).any (·.norace)=true:=ae
section
variable {X:Fix}{V:Vw}{M:Own}{F:ag->Prop}{Fin:ag->Prop}{d:Nat}{g:aa}{w:ag}{k:Nat}{T:Th}{c0:aH}{cs:List aH}{r:Nat}
def PX(L:Lk X V M F)(h:gZ g=some (125,some (el (some ⟨X.Mu,1,none⟩))))(i:aJ X.P g=true)(b:T.pc=.us)(j:F w)
 (H:∀s:Sh,∃T',Mv s.mw s.ms T T' s.mw (s.ms+1)/\∀w',F w'->ay X V false (eU X V Fin k T') M d (fin g (ej #[])) w'):iF X V Fin (k+1) T M d g w:=by
 obtain⟨args,a,l⟩:=xR h;unfold iF;refine⟨(aj a).1,(aj a).2.1,λ_=>i,λs c p q m=>⟨λe=>(by rw[b]at e;cases e.1),λ_=>?_⟩⟩;obtain⟨T',a1,a2⟩:=H s;have st:=sr (mn:=V.g==0) a l (by rw[L.hP];exact aiK:cw X.P 125 true _) c m;have f:=c.setMs L.hc.ids (s.ms+1);obtain⟨n,o⟩:=sL L.hc (fp rfl) _ f;exact⟨T',s.mw,s.ms+1,_,_,_,M,d,a1,st,f,o d _ (JD (xO c)),(aj a).2.2 _,a2 _ (L.hF _ _ j n)⟩
def PU(X:Fix)(c0:aH)(cs:List aH)(T:Th)(g:aa):Prop:=
 let up:=tN X.Mu c0 cs
 match T.pc with
 |.u0=>∃v,g=x4 X.Mu c0 cs v
 |.uc=>∃n,n<=3/\n≠0/\T.old=⟨false,false,false,n⟩/\∃f f4,g=G (vk (A9 X.Mu f (wv ⟨false,false,false,n⟩)) Tf.frame.todo) (mY (A4 X.Mu f4) w4::up)/\az g=some (112,#[pt X.Mu,wv ⟨false,false,false,n⟩,wv ⟨false,true,false,n-1⟩])
 |.ux=>∃f f4 a,g=G (vk (A9 X.Mu f a) wux.frame.todo) (mY (A4 X.Mu f4) w4::up)/\fj g=some (21,pt X.Mu)
 |.us=>∃f f4 a,(g=G (vk (A9 X.Mu f a) wus.frame.todo) (mY (A4 X.Mu f4) w4::up)\/g=G (vk (A9 X.Mu f a) wuh.frame.todo) (mY (A4 X.Mu f4) w4::up))/\gZ g=some (125,some (el (some ⟨X.Mu,1,none⟩)))
 |_=>False
def MJ(X:Fix)(V:Vw)(Fin:ag->Prop)(M:Own)(F:ag->Prop)(c0:aH)(cs:List aH)(r k:Nat):Prop:=∀T g w,T.r=r->PU X c0 cs T g->F w->iF X V Fin k T M 1 g w
def MJ.run(A:MJ X V Fin M F c0 cs r k)(L:Lk X V M F){T:Th}(a:T.r=r)(b:T.pc≠.out)(h:PU X c0 cs T g)(c:F w):ay X V false (eU X V Fin k T) M 1 g w:=
 .stop λe f=>ae9 b (.refl _) (A T g e a h (L.hF _ _ c f))
def MK(X:Fix)(V:Vw)(Fin:ag->Prop)(M:Own)(F:ag->Prop)(c0:aH)(cs:List aH)(r:Nat):Prop:=∀k w,F w->ay X V false (eU X V Fin k (bP r)) M 0 (G (c0.finish (ej #[])) cs) w
def UC(L:Lk X V M F)(hd:MK X V Fin M F c0 cs r)(f:Nat->ai)(w:ag)(a:F w)(hc:az (G (mY (A4 X.Mu f) Pt.frame.todo) (tN X.Mu c0 cs))=some (78,#[])) :
 ay X V false (eU X V Fin k (bP r)) M 1 (G (mY (A4 X.Mu f) Pt.frame.todo) (tN X.Mu c0 cs)) w:=
 L.en hc ((u_e X.Mu c0 cs f).run L.hP L.hg (hd k w a))
def Zx{a:Nat}(L:Lk X V M F)(hd:MK X V Fin M F c0 cs a)(A:MJ X V Fin M F c0 cs a k){old nw:Wd}{p q:Bool}{it:Nat}{ex:Bool}(h:PU X c0 cs ⟨.u0,old,nw,p,q,it,ex,a⟩ g)(x:F w) :
 iF X V Fin (k+1) ⟨.u0,old,nw,p,q,it,ex,a⟩ M 1 g w:=by
 obtain⟨v,i⟩:=h;have hl:=aiC X.Mu c0 cs v;rw[<-i]at hl;refine PW L hl (bs) (bs) x λs y hs=>?_;have t:=y.u0 rfl;have j:IntKind.i32.wrap (((s.mw.num:Nat):Int) + -1)=((({ s.mw with l:=false }:Wd).num:Nat):Int):=by
  obtain⟨z,D⟩:=s;obtain⟨l,B,C,n⟩:=z;simp only at t hs ⊢;subst t;obtain h|h|h|h:n=0\/n=1\/n=2\/n=3:=ab
  all_goals (subst h;cases B<;>cases C<;>rfl)
 cases b:s.mw.s with
 |true=>
  refine⟨_,_,j,.hand _ rfl b,λw' c=>?_⟩;obtain⟨f,f4,a1,a2⟩:=YX X.Mu c0 cs v s.mw.w s.mw.k hs;have e:({ s.mw with l:=false }:Wd)=⟨false,s.mw.w,true,s.mw.k⟩:=xS rfl rfl b;rw[i,e];exact L.aB a1 (A.run L (T:={ pc:=.us,r:=a }) rfl ar ⟨f,f4,_,ft rfl,a2⟩ c)
 |false=>
  by_cases m:s.mw.k=0\/s.mw.w=true
  .refine⟨_,_,j,.free _ rfl b m,λw' c=>?_⟩;obtain⟨f,a1,a2⟩:=YW X.Mu c0 cs v s.mw.w s.mw.k hs m;have e:({ s.mw with l:=false }:Wd)=⟨false,s.mw.w,false,s.mw.k⟩:=xS rfl rfl b;rw[i,e];exact L.aB a1 (UC L hd f w' c a2)
  .have o:s.mw.k≠0:=λh=>m (fp h);have u:s.mw.w=false:=aS;refine⟨_,_,j,.acL _ rfl b o u,λw' c=>?_⟩;obtain⟨f,f4,a1,a2⟩:=YY X.Mu c0 cs v s.mw.k hs o;have e:({ s.mw with l:=false }:Wd)=⟨false,false,false,s.mw.k⟩:=xS rfl u b;rw[i,e];exact L.aB a1 (A.run L (T:={ pc:=.uc,old:=⟨false,false,false,s.mw.k⟩,r:=a }) rfl ar ⟨s.mw.k,hs,o,rfl,f,f4,rfl,a2⟩ c)
def Zy{a:Nat}(L:Lk X V M F)(A:MJ X V Fin M F c0 cs a k){old nw:Wd}{b c:Bool}{it:Nat}{ex:Bool}(h:PU X c0 cs ⟨.uc,old,nw,b,c,it,ex,a⟩ g)(l:F w) :
 iF X V Fin (k+1) ⟨.uc,old,nw,b,c,it,ex,a⟩ M 1 g w:=by
 obtain⟨n,o,p,e,f,f4,rfl,hc⟩:=h;simp only at e;subst e;refine B8 L hc (bs) (bs) l λs _ _=>⟨λe=>⟨{ pc:=.us,r:=a },?_,λw' m=>?_⟩,λe=>⟨_,.again _ rfl e,?_⟩⟩
 .have:=Mv.release (w:=s.mw) (ms:=s.ms) (⟨.uc,⟨false,false,false,n⟩,nw,b,c,it,ex,a⟩:Th) rfl e;grind
 .obtain⟨i,j,a1,a2⟩:=adp X.Mu c0 cs f f4 (wv ⟨false,false,false,n⟩);exact L.aB a1 (A.run L (T:={ pc:=.us,r:=a }) rfl ar ⟨i,j,_,fp rfl,a2⟩ m)
 .obtain⟨i,j,a1,a2⟩:=adq X.Mu c0 cs f f4 (wv ⟨false,false,false,n⟩);exact L.aB a1 (A.run L (T:={ pc:=.ux,r:=a }) rfl ar ⟨i,j,_,rfl,a2⟩ l)
def Zz{a:Nat}(L:Lk X V M F)(hd:MK X V Fin M F c0 cs a)(A:MJ X V Fin M F c0 cs a k){old nw:Wd}{j m:Bool}{it:Nat}{ex:Bool}(h:PU X c0 cs ⟨.ux,old,nw,j,m,it,ex,a⟩ g)(n:F w) :
 iF X V Fin (k+1) ⟨.ux,old,nw,j,m,it,ex,a⟩ M 1 g w:=by
 obtain⟨f,f4,o,rfl,hl⟩:=h;refine sP L hl ady (bs) (bs) λs _ hs=>?_;by_cases b:s.mw.k=0\/s.mw.l=true\/s.mw.w=true\/s.mw.s=true
 .refine⟨_,.leave _ rfl b,?_⟩;obtain⟨c,a1,a2⟩:=Uj X.Mu c0 cs f f4 o s.mw.l s.mw.w s.mw.s s.mw.k hs b;exact L.aB a1 (UC L hd c w n a2)
 .have i:s.mw.k≠0:=λh=>b (fp h);have p:s.mw.l=false:=aS;have q:s.mw.w=false:=aS;have t:s.mw.s=false:=aS;refine⟨_,.WA _ rfl i p q t,?_⟩;obtain⟨c,u,a1,a2⟩:=Uk X.Mu c0 cs f f4 o s.mw.k hs i;have e:s.mw=⟨false,false,false,s.mw.k⟩:=xS p q t;rw[<-e]at a1;refine L.aB a1 (A.run L (T:={ pc:=.uc,old:=s.mw,r:=a }) rfl ar ⟨s.mw.k,hs,i,e,c,u,?_,?_⟩ n)
  .rw[<-e]
  grind
def ZA{a:Nat}(L:Lk X V M F)(hd:MK X V Fin M F c0 cs a){old nw:Wd}{e i:Bool}{it:Nat}{ex:Bool}(h:PU X c0 cs ⟨.us,old,nw,e,i,it,ex,a⟩ g)(j:F w) :
 iF X V Fin (k+1) ⟨.us,old,nw,e,i,it,ex,a⟩ M 1 g w:=by
 obtain⟨f,f4,o,h,hs⟩:=h
 rcases h with rfl|rfl
 .refine PX L hs (by rw[L.hP];exact aec _ _ _ _) rfl j λs=>⟨_,.post _ rfl,λw' b=>?_⟩
  obtain⟨c,a1,a2⟩:=aiE X.Mu c0 cs f f4 o;exact L.aB a1 (UC L hd c w' b a2)
 .refine PX L hs (by rw[L.hP];exact aed _ _ _ _) rfl j λs=>⟨_,.post _ rfl,λw' b=>?_⟩
  obtain⟨c,a1,a2⟩:=aiF X.Mu c0 cs f f4 o;exact L.aB a1 (UC L hd c w' b a2)
def aef(L:Lk X V M F)(r:Nat)(hd:MK X V Fin M F c0 cs r):∀k,MJ X V Fin M F c0 cs r k
 |0=>λ_ _ _ _ _ _=>trivial
 |k+1=>λT g w b h a=>by
  have A:=aef L r hd k;obtain⟨pc,c,e,f,i,it,ex,j⟩:=T;simp only at b;subst b
  cases pc with
  |u0=>exact Zx L hd A h a
  |uc=>exact Zy L A h a
  |ux=>exact Zz L hd A h a
  |us=>exact ZA L hd h a
  |_=>exact absurd h id
def D7(L:Lk X V M F)(r:Nat)(hd:MK X V Fin M F c0 cs r)(k:Nat)(a:F w) :
 ay X V false (eU X V Fin k { pc:=.u0,r:=r }) M 0 (G (c8 X.P 58 #[el (some ⟨X.Mu,0,none⟩)] db) (c0::cs)) w:=by
 rw[L.hP];refine L.aB (u_E X.Mu c0 cs) ?_;obtain⟨o,x,c,e,f⟩:=kO (aiy X.Mu c0 cs);refine .ad2 L.hc c e f (k:=f3) (by rw[L.hP];exact u21) (by rw[L.hP];exact aee X.Mu c0 cs) (λi h=>?_) λv=>?_
 .obtain⟨⟨_,_,k⟩,_⟩:=L.hL _ (L.hF _ _ a h);exact⟨_,k.cellSt⟩
 refine L.aB (u_0 X.Mu c0 cs v) ?_;refine L.conv (aiz X.Mu c0 cs v) a ?_;refine L.aB (u_1 X.Mu c0 cs v) ?_;refine L.ajy (aiA X.Mu c0 cs v) a ?_;refine L.aB (u_2 X.Mu c0 cs v) ?_;refine L.sG (aiB X.Mu c0 cs v) ?_;refine L.aB (u_3 X.Mu c0 cs v) ?_;have b:PU X c0 cs { pc:=.u0,r:=r } (x4 X.Mu c0 cs v):=by
  unfold PU;grind
 generalize x4 X.Mu c0 cs v=g at b ⊢;exact(aef L r hd k).run L (T:={ pc:=.u0,r:=r }) rfl ar b a
end
end Go.Proofs
namespace Go.Proofs
open Go.Ph Go.Conc
structure Ea(k d d':Nat)(g:aa)(c0:aH)(cs:List aH):Prop where
 q:ff PP true lY 400 g
 d0:∀d,xD PP true lY 400 d g=d
 q1:uo PP true k (T2 true g)
 d1:YL PP true k d (T2 true g)=d'
 e:adv PP true k (T2 true g)=G (c0.finish (ej #[])) cs
def Ea.run{X:Fix}{V:Vw}{q:Bool}{Stop:Stp}{M:Own}{k d d':Nat}{g:aa}{w:ag}{c0:aH}{cs:List aH}(h:Ea k d d' g c0 cs)(a:X.P=PP)(hg:(V.g==0)=true)(b:ay X V q Stop M d' (G (c0.finish (ej #[])) cs) w):ay X V q Stop M d g w:=by
 refine .oO (S:=lY) hg 400 (by rw[a];exact h.q) ?_;refine .quiet hg k (by rw[a];exact h.q1) ?_;have e:=h.e;have d1:=h.d1;unfold T2 at e d1;rw[a,h.d0,d1,e];exact b
def JG(v:Nat):ai:=ei f1 ((v:Int)*4294967296)
section
variable (W:Nat)(c0:aH)(cs:List aH)
noncomputable def aE:aa:=G (c8 PP 54 #[pt W,ei f2 1] db) (c0::cs)
noncomputable def a0:aa:=T2 true (aE W c0 cs)
noncomputable def a1:aa:=T2 true (fin (a0 W c0 cs) (ej #[]))
noncomputable def a2:aa:=T2 true (fin (a1 W c0 cs) (ek false))
noncomputable def a3:aa:=T2 true (fin (a2 W c0 cs) (JG 1))
noncomputable def a4:aa:=T2 true (fin (a3 W c0 cs) (el (some ⟨W,1,none⟩)))
def a_E  : fL true (aE W c0 cs) (a0 W c0 cs):=bU (by delta a0;rfl)
def ajB  : az (a0 W c0 cs)=some (77,#[]):=ae
def a_0  : fL true (fin (a0 W c0 cs) (ej #[])) (a1 W c0 cs):=bU (by delta a1;rfl)
def ajC  : az (a1 W c0 cs)=some (79,#[]):=ae
def a_1  : fL true (fin (a1 W c0 cs) (ek false)) (a2 W c0 cs):=bU (by delta a2;rfl)
def ajD  : az (a2 W c0 cs)=some (109,#[pt W,ei f1 4294967296]):=ae
def a_2  : fL true (fin (a2 W c0 cs) (JG 1)) (a3 W c0 cs):=bU (by delta a3;rfl)
def ajE  : gu (a3 W c0 cs)=some (148,142,el (some ⟨W,1,none⟩)):=ae
def a_3  : fL true (fin (a3 W c0 cs) (el (some ⟨W,1,none⟩))) (a4 W c0 cs):=bU (by delta a4;rfl)
def ajF  : az (a4 W c0 cs)=some (84,#[el (some ⟨W,1,none⟩)]):=ae
def a_4:Ea 2 1 0 (fin (a4 W c0 cs) (ej #[])) c0 cs:=⟨⟨λw=>ae,ae⟩,λd=>ae,⟨λw=>ae,ae⟩,ae,ae⟩
def ajG:Ea 2 1 0 (fin (a2 W c0 cs) (JG 2)) c0 cs:=⟨⟨λw=>ae,ae⟩,λd=>ae,⟨λw=>ae,ae⟩,ae,ae⟩
def ajH:Ea 2 1 0 (fin (a2 W c0 cs) (JG 3)) c0 cs:=⟨⟨λw=>ae,ae⟩,λd=>ae,⟨λw=>ae,ae⟩,ae,ae⟩
end
def F41(W:Nat)(f:Nat->ai):Nat->ai
 |0=>el (some ⟨W,0,none⟩)
 |i=>f i
noncomputable def A41(W:Nat)(f:Nat->ai):Array ai:=zj 84 (F41 W f)
noncomputable def aem(a:Array ai)(b:List aF):aH:={ fn:=59,tmps:=a,todo:=b,defers:=[],mode:=fO,kind:=db,roundOf:=none }
def ZC{W:Nat}{a:Array ai}(hs:a.size=84)(b:a[0]! = el (some ⟨W,0,none⟩)):a=A41 W (λi=>a[i]!):=
 Jr hs λi _=>by
  unfold F41;grind
section
variable (W:Nat)(c0:aH)(cs:List aH)
noncomputable def wE:aa:=G (c8 PP 59 #[pt W] db) (c0::cs)
noncomputable def w0:aa:=T2 true (wE W c0 cs)
noncomputable def w1s:aa:=T2 true (fin (w0 W default []) (ej #[]))
noncomputable def w1(f:Nat->ai):aa:=G (w1s W).frame (aem (A41 W f) (w1s 0).callers.head!.todo::c0::cs)
variable (f:Nat->ai)(v:Nat)
noncomputable def w2:aa:=T2 true (fin (w1 W c0 cs f) (JG v))
noncomputable def w3a:aa:=T2 true (fin (w2 W c0 cs f v) (ek true))
noncomputable def w3b:aa:=T2 true (fin (w3a W c0 cs f v) (el (some ⟨W,1,none⟩)))
noncomputable def w3:aa:=T2 true (fin (w3b W c0 cs f v) (ej #[]))
noncomputable def gw4:aa:=T2 true (fin (w3 W c0 cs f v) (ej #[]))
noncomputable def w5:aa:=T2 true (fin (gw4 W c0 cs f v) (JG 0))
noncomputable def w6:aa:=T2 true (fin (w5 W c0 cs f v) (ej #[]))
noncomputable def w7:aa:=T2 true (fin (w6 W c0 cs f v) (pt W))
noncomputable def v5:aa:=T2 true (fin (w1 W c0 cs f) (JG 0))
noncomputable def v6:aa:=T2 true (fin (v5 W c0 cs f) (ej #[]))
noncomputable def v7:aa:=T2 true (fin (v6 W c0 cs f) (pt W))
def Xd{g:aa}(a:ff PP true lY 400 g:=by exact⟨λ_=>ae,ae⟩)(hd:∀d,xD PP true lY 400 d g=d:=by intro _;kernel_rfl)(b:T2 true g=G (w1s W).frame (aem (T2 true g).callers.head!.tmps (w1s 0).callers.head!.todo::c0::cs):=by kernel_rfl)(hs:(T2 true g).callers.head!.tmps.size=84:=by kernel_rfl)
 (c:(T2 true g).callers.head!.tmps[0]! = el (some ⟨W,0,none⟩):=by kernel_rfl):∃f',fL true g (w1 W c0 cs f'):=by
 have e:=ZC hs c;exact⟨_,a,hd,by unfold w1;rw[<-e];exact b⟩
def w_E  : fL true (wE W c0 cs) (w0 W c0 cs):=bU (by delta w0;rfl)
def ajI  : az (w0 W c0 cs)=some (77,#[]):=ae
def w_0:∃f',fL true (fin (w0 W c0 cs) (ej #[])) (w1 W c0 cs f'):=Xd W c0 cs
def ajJ  : az (w1 W c0 cs f)=some (110,#[pt W]):=ae
def v_1  : fL true (fin (w1 W c0 cs f) (JG 0)) (v5 W c0 cs f):=bU (by delta v5;rfl)
def ajK  : az (v5 W c0 cs f)=some (78,#[]):=ae
def v_5  : fL true (fin (v5 W c0 cs f) (ej #[])) (v6 W c0 cs f):=bU (by delta v6;rfl)
def ajL  : gu (v6 W c0 cs f)=some (140,142,pt W):=ae
def v_6  : fL true (fin (v6 W c0 cs f) (pt W)) (v7 W c0 cs f):=bU (by delta v7;rfl)
def ajM  : az (v7 W c0 cs f)=some (91,#[pt W]):=ae
def v_7:Ea 1 0 0 (fin (v7 W c0 cs f) (ej #[])) c0 cs:=⟨⟨λw=>ae,ae⟩,λd=>ae,⟨λw=>ae,ae⟩,ae,ae⟩
def w_1(a:1<=v)(b:v<=3):fL true (fin (w1 W c0 cs f) (JG v)) (w2 W c0 cs f v):=by
 (obtain rfl|rfl|rfl:v=1\/v=2\/v=3:=ab)<;>exact bU (by delta w2;rfl)
def ajN(a:1<=v)(b:v<=3):az (w2 W c0 cs f v)=some (116,#[pt W,JG v,ei f1 ((v:Int)*4294967296+1)]):=by
 (obtain rfl|rfl|rfl:v=1\/v=2\/v=3:=ab)<;>kernel_rfl
def w_2(a:1<=v)(b:v<=3):fL true (fin (w2 W c0 cs f v) (ek true)) (w3a W c0 cs f v):=by
 (obtain rfl|rfl|rfl:v=1\/v=2\/v=3:=ab)<;>exact bU (by delta w3a;rfl)
def aep(a:1<=v)(b:v<=3):gu (w3a W c0 cs f v)=some (148,142,el (some ⟨W,1,none⟩)):=by
 (obtain rfl|rfl|rfl:v=1\/v=2\/v=3:=ab)<;>kernel_rfl
def ajO(a:1<=v)(b:v<=3):∃f',fL true (fin (w2 W c0 cs f v) (ek false)) (w1 W c0 cs f'):=by
 (obtain rfl|rfl|rfl:v=1\/v=2\/v=3:=ab)<;>exact Xd W c0 cs
def ajP(a:1<=v)(b:v<=3):fL true (fin (w3a W c0 cs f v) (el (some ⟨W,1,none⟩))) (w3b W c0 cs f v):=by
 (obtain rfl|rfl|rfl:v=1\/v=2\/v=3:=ab)<;>exact bU (by delta w3b;rfl)
def aeq(a:1<=v)(b:v<=3):az (w3b W c0 cs f v)=some (94,#[el (some ⟨W,1,none⟩)]):=by
 (obtain rfl|rfl|rfl:v=1\/v=2\/v=3:=ab)<;>kernel_rfl
def ajQ(a:1<=v)(b:v<=3):fL true (fin (w3b W c0 cs f v) (ej #[])) (w3 W c0 cs f v):=by
 (obtain rfl|rfl|rfl:v=1\/v=2\/v=3:=ab)<;>exact bU (by delta w3;rfl)
def ajR(a:1<=v)(b:v<=3):gZ (w3 W c0 cs f v)=some (95,some (el (some ⟨W,1,none⟩))):=by
 (obtain rfl|rfl|rfl:v=1\/v=2\/v=3:=ab)<;>kernel_rfl
def w_3(a:1<=v)(b:v<=3):fL true (fin (w3 W c0 cs f v) (ej #[])) (gw4 W c0 cs f v):=by
 (obtain rfl|rfl|rfl:v=1\/v=2\/v=3:=ab)<;>exact bU (by delta gw4;rfl)
def ajS(a:1<=v)(b:v<=3):az (gw4 W c0 cs f v)=some (110,#[pt W]):=by
 (obtain rfl|rfl|rfl:v=1\/v=2\/v=3:=ab)<;>kernel_rfl
def w_4(a:1<=v)(b:v<=3):fL true (fin (gw4 W c0 cs f v) (JG 0)) (w5 W c0 cs f v):=by
 (obtain rfl|rfl|rfl:v=1\/v=2\/v=3:=ab)<;>exact bU (by delta w5;rfl)
def ajT(a:1<=v)(b:v<=3):az (w5 W c0 cs f v)=some (78,#[]):=by
 (obtain rfl|rfl|rfl:v=1\/v=2\/v=3:=ab)<;>kernel_rfl
def w_5(a:1<=v)(b:v<=3):fL true (fin (w5 W c0 cs f v) (ej #[])) (w6 W c0 cs f v):=by
 (obtain rfl|rfl|rfl:v=1\/v=2\/v=3:=ab)<;>exact bU (by delta w6;rfl)
def ajU(a:1<=v)(b:v<=3):gu (w6 W c0 cs f v)=some (140,142,pt W):=by
 (obtain rfl|rfl|rfl:v=1\/v=2\/v=3:=ab)<;>kernel_rfl
def w_6(a:1<=v)(b:v<=3):fL true (fin (w6 W c0 cs f v) (pt W)) (w7 W c0 cs f v):=by
 (obtain rfl|rfl|rfl:v=1\/v=2\/v=3:=ab)<;>exact bU (by delta w7;rfl)
def ajV(a:1<=v)(b:v<=3):az (w7 W c0 cs f v)=some (91,#[pt W]):=by
 (obtain rfl|rfl|rfl:v=1\/v=2\/v=3:=ab)<;>kernel_rfl
def w_7(a:1<=v)(b:v<=3):Ea 1 0 0 (fin (w7 W c0 cs f v) (ej #[])) c0 cs:=by
 (obtain rfl|rfl|rfl:v=1\/v=2\/v=3:=ab)<;>exact⟨⟨λw=>ae,ae⟩,λd=>ae,⟨λw=>ae,ae⟩,ae,ae⟩
end
open Go.ConcN
open Go.ConcM (MuAt muA msA OsLater muBlock)
open Go.ConcR (KK WgAt stA smA rd wr mk)
def sR(v:Nat):ei f1 (vP v 0)=JG v:=by simp[vP,JG,KK]
def UH(v:Nat):vP v 0=(v:Int)*4294967296:=by simp[vP,KK]
section
variable {X:Fix}{V:Vw}{M:Own}{F:ag->Prop}{Stop:Stp}{d:Nat}{g g':aa}{w:ag}
variable {c np:Nat}{row:Nat->Nat->Prop}{Fin:Nat->ag->Prop}{Post:Own->aa->ag->Prop}{c0:aH}{cs:List aH}
def Gk.said(L:Gk X V M F true){f:a7}{mk':bb->Mark}{m wr':Bool}(i:az g=some (f,#[el (some ⟨X.Wg,1,none⟩)]))(hb:cw PP f m (eu mk'))(j:∀a g,mk' a≠.extern g)
 (n:∀a,(fo (mk' a)).touch? = some ⟨ge a,wr',.said⟩) (hl:∀a B,a.block<B->(fo (mk' a)).low B) (o:∀a b,mk' a≠.release b) (hd:∀d a,b1 d #[fg (mk' a)]=d) (p:F w) (q:ay X V false Stop M d (fin g (ej #[])) w):ay X V false Stop M d g w:=
 .step (aj i).1 λs r=>by
  have t:=L.hF _ _ p r;refine⟨_,s,#[fg (mk' ⟨X.Wg,1,none⟩)],M,_,kM (ad:=⟨X.Wg,1,none⟩) i (by rw[L.hP];exact hb) j rfl,jI L.hc.ids rfl rfl (.refl _) rfl (λ_ _ _=>rfl) (λe k=>?_) ar,⟨rfl,rfl⟩,(aj i).2.2 _,?_⟩
  .simp only[List.mem_toArray,List.mem_singleton]at k;subst k;refine⟨λx l=>?_,λh=>o _ _ (Loc.mark.inj h),hl _ _ (L.low t)⟩;rw[show fm (fg (mk' ⟨X.Wg,1,none⟩))=.mark (mk' ⟨X.Wg,1,none⟩) from rfl,n]at l;cases l;have:V.g=0:=by simpa using L.hg
   exact⟨rfl,fp ⟨⟨_,rfl,ft rfl⟩,by rw[if_pos this];simp⟩⟩
  .rw[hd];exact q.rely r
def P6(L:Gk X V M F true)(r:Nat)(b:∀w,F w->ay X V false (AtGo X c np row Fin (X.n-(r+1)) (Ta X c np row Fin Post r) V) M 0 (G (c0.finish (ej #[])) cs) w)(k:F w) :
 ay X V false (Ta X c np row Fin Post (r+1) V) M 0 (aE X.Wg c0 cs) w:=by
 refine L.aB (a_E X.Wg c0 cs) (L.sG (ajB X.Wg c0 cs) (L.aB (a_0 X.Wg c0 cs) (L.idle (ajC X.Wg c0 cs) (L.aB (a_1 X.Wg c0 cs) (.stop λx l=>?_)))));have e:=ajD X.Wg c0 cs;have m:=L.hF _ _ k l;refine⟨(aj e).1,(aj e).2.1,λh=>(by cases h),λs i o=>?_⟩;obtain⟨y,f,z⟩:=o;have A:=L.hn;have p:IntKind.u64.wrap (vP s.v s.wt+4294967296)=vP (s.v+1) s.wt:=by
  obtain h|h|h:s.v=0\/s.v=1\/s.v=2:=ab
  all_goals (rw[h,f];decide)
 have j:=i.setWg L.hc.ids (s.v+1) s.wt;have st:=xP (mn:=V.g==0) e (by rw[L.hP];exact ae4:cw X.P 109 true _) i p;obtain⟨t,u⟩:=uz (q:=false) L.hc (ft rfl) _ j;refine⟨_,_,_,M,1,st,j,u 1 _ (PS L (lC i)) ar,(aj e).2.2 _,?_⟩;have a:=L.hF _ _ m t;obtain h|h:s.v=0\/1<=s.v:=ab
 .rw[h,f]at a ⊢;rw[sR]at a ⊢;refine L.aB (a_2 X.Wg c0 cs) (L.Xc (ajE X.Wg c0 cs) a (L.aB (a_3 X.Wg c0 cs) ?_));exact L.said (wr':=false) (ajF X.Wg c0 cs) ajp (λ_ _ h=>by cases h) (λ_=>rfl) (λ_ _ h=>h) (λ_ _ h=>by cases h) (λ_ _=>rfl) a ((a_4 X.Wg c0 cs).run L.hP L.hg (b _ a))
 .obtain h|h:s.v=1\/s.v=2:=ab
  .rw[h,f]at a ⊢;rw[sR]at a ⊢;exact(ajG X.Wg c0 cs).run L.hP L.hg (b _ a)
  .rw[h,f]at a ⊢;rw[sR]at a ⊢;exact(ajH X.Wg c0 cs).run L.hP L.hg (b _ a)
def aer(L:Gk X V M F true)(h:gZ g=some (95,some (el (some ⟨X.Wg,1,none⟩))))(i:F w)(H:∀w',F w'->ay X V false (Ph.AtW4 X Post V) M 1 (fin g (ej #[])) w'):Ph.AtW3 X Post V M 1 g w:=by
 obtain⟨args,a,j⟩:=vo h;refine⟨(aj a).1,(aj a).2.1,λs b n=>?_⟩;have st:=He (mn:=V.g==0) a j (by rw[L.hP];exact ajs:cw X.P 95 true _) b;refine⟨λe=>?_,λe=>?_⟩
 .grind
 .have k:¬s.ws=0:=e;rw[if_neg k]at st;have f:=b.setWs L.hc.ids (s.ws-1);obtain⟨l,m⟩:=uz (q:=false) L.hc (ft rfl) _ f;exact⟨_,_,_,M,1,st,f,m 1 _ (PT L (lC b)) ar,(aj a).2.2 _,H _ (L.hF _ _ i l)⟩
theorem MO{g:aa}{w:ag}{d:Nat}:dC X Post V 0 M d g w:=by unfold dC;exact True.intro
theorem MQ{g:aa}{w:ag}{d v:Nat}:dL X Post V 0 v M d g w:=by unfold dL;exact True.intro
def MR(L:Gk X V M F true)(A:∀w,F w->ay X V false (Yy Post) M 0 (G (c0.finish (ej #[])) cs) w)(j:F w) :
 ay X V false (Ta X c np row Fin Post 0 V) M 0 (wE X.Wg c0 cs) w:=by
 have u:∀g w,F w->az g=some (91,#[pt X.Wg])->Ea 1 0 0 (fin g (ej #[])) c0 cs->ay X V false (O1 X Post V) M 0 g w:=by
  intro g w j i B;refine .stop λn m=>⟨(aj i).1,rfl,_,kM (mk':=.acquire) (ad:=⟨X.Wg,0,none⟩) i (by rw[L.hP];exact adu:cw X.P 91 false _) (λ_ _ h=>by cases h) rfl,(aj i).2.2 _,?_⟩
  exact B.run L.hP L.hg (A _ (L.hF _ _ j m))
 have C:∀f v w,1<=v->v<=3->F w->ay X V false (AtW4 X Post V) M 1 (gw4 X.Wg c0 cs f v) w:=by
  intro f v w a b j;refine .stop λn m=>?_;have i:=ajS X.Wg c0 cs f v a b;refine⟨(aj i).1,(aj i).2.1,λh=>(by cases h),λs l o=>?_⟩;have x:=L.hF _ _ j m;have st:=oV (mn:=V.g==0) i (by rw[L.hP];exact Zl:cw X.P 110 true _) l;have e:ei f1 (vP s.v s.wt)=JG 0:=by rw[o.1,o.2.1,sR]
  rw[e]at st
  exact⟨_,n,_,M,1,st,l,jI L.hc.ids rfl rfl (.refl _) rfl (λ_ _ _=>rfl) (xQ L (lC l) false) ar,(aj i).2.2 _,
   L.aB (w_4 X.Wg c0 cs f v a b) (L.en (ajT X.Wg c0 cs f v a b) (L.aB (w_5 X.Wg c0 cs f v a b) (L.conv (ajU X.Wg c0 cs f v a b) x (L.aB (w_6 X.Wg c0 cs f v a b) (u _ _ x (ajV X.Wg c0 cs f v a b) (w_7 X.Wg c0 cs f v a b))))))⟩
 have D:∀f v w,1<=v->v<=3->F w->ay X V false (AtW3 X Post V) M 1 (w3 X.Wg c0 cs f v) w:=by
  intro f v w a b j;exact .stop λn m=>aer L (ajR X.Wg c0 cs f v a b) (L.hF _ _ j m) λw' E=>L.aB (w_3 X.Wg c0 cs f v a b) (C _ _ _ a b E)
 have p:∀k,(∀f w,F w->AtW1 X Post V k M 1 (w1 X.Wg c0 cs f) w)/\∀f v w,1<=v->v<=3->F w->AtW2 X Post V k v M 1 (w2 X.Wg c0 cs f v) w:=by
  intro k
  induction k with
  |zero=>grind[MO,MQ]
  |succ k y=>
   refine⟨λf w j=>?_,λf v w a b j=>?_⟩
   .have i:=ajJ X.Wg c0 cs f;unfold dC;refine⟨(aj i).1,(aj i).2.1,λh=>(by cases h),λs l o=>?_⟩;obtain⟨H,r,I⟩:=o;have J:=L.hn;have st:=oV (mn:=V.g==0) i (by rw[L.hP];exact Zl:cw X.P 110 true _) l;rw[r,sR]at st;refine⟨_,w,_,M,1,st,l,jI L.hc.ids rfl rfl (.refl _) rfl (λ_ _ _=>rfl) (xQ L (lC l) false) ar,(aj i).2.2 _,?_⟩;by_cases hv:s.v=0
    .simp only[if_pos hv];rw[hv];exact L.aB (v_1 X.Wg c0 cs f) (L.en (ajK X.Wg c0 cs f) (L.aB (v_5 X.Wg c0 cs f) (L.conv (ajL X.Wg c0 cs f) j (L.aB (v_6 X.Wg c0 cs f) (u _ _ j (ajM X.Wg c0 cs f) (v_7 X.Wg c0 cs f))))))
    .simp only[if_neg hv];exact L.aB (w_1 X.Wg c0 cs f s.v ab ab) (.stop λn m=>y.2 f s.v n ab ab (L.hF _ _ j m))
   .have i:=ajN X.Wg c0 cs f v a b;unfold dL;refine⟨(aj i).1,(aj i).2.1,λh=>(by cases h),λs l o=>?_⟩;obtain⟨H,r,I⟩:=o;have J:=L.hn;have st:=G9 (v:=v) (wt:=1) (mn:=V.g==0) i (by rw[L.hP];exact aju:cw X.P 116 true _) l (by simp[vP,KK]);have e:(vP s.v s.wt=(v:Int)*4294967296)↔s.v=v:=by rw[r,UH];omega
    by_cases hv:s.v=v
    .rw[if_pos (e.2 hv)]at st;have z:=l.setWg L.hc.ids v 1;obtain⟨K,N⟩:=uz (q:=false) L.hc (ft rfl) _ z;have O:({ s with v:=v,wt:=1 }:Sh)={ s with wt:=1 }:=by rw[<-hv]
     rw[O]at z;have t:=L.hF _ _ j K;refine⟨_,_,_,M,1,st,?_,N 1 _ (PS L (lC l)) ar,(aj i).2.2 _,?_⟩
     .grind
     .simp only[if_pos hv];refine L.aB (w_2 X.Wg c0 cs f v a b) (L.Xc (aep X.Wg c0 cs f v a b) t (L.aB (ajP X.Wg c0 cs f v a b) ?_));exact L.said (wr':=true) (aeq X.Wg c0 cs f v a b) ajq (λ_ _ h=>by cases h) (λ_=>rfl) (λ_ _ h=>h) (λ_ _ h=>by cases h) (λ_ _=>rfl) t (L.aB (ajQ X.Wg c0 cs f v a b) (D _ _ _ a b t))
    .rw[if_neg (λh=>hv (e.1 h))]at st;refine⟨_,w,_,M,1,st,?_,jI L.hc.ids rfl rfl (.refl _) rfl (λ_ _ _=>rfl) (xQ L (lC l) false) ar,(aj i).2.2 _,?_⟩
     .grind
     .simp only[if_neg hv];obtain⟨Q,hf⟩:=ajO X.Wg c0 cs f v a b;exact L.aB hf (.stop λn m=>y.1 Q n (L.hF _ _ j m))
 obtain⟨f,hf⟩:=w_0 X.Wg c0 cs;refine L.aB (w_E X.Wg c0 cs) (L.sG (ajI X.Wg c0 cs) (L.aB hf (.stop λn m k=>?_)));exact(p k).1 f n (L.hF _ _ j m)
end
end Go.Proofs
