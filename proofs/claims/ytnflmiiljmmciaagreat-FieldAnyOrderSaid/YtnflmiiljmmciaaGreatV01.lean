/- Part of the proof of FieldAnyOrder. -/
import Derived.Test.YtnflmiiljmmciaaGreatV00
import Derived.Calls
import Derived.Conc.Beside
import Derived.Conc.FxBegin
import Derived.Conc.HoldsTime
import Derived.KernelRfl
import Derived.Test.YtnflmiiljmmciaaGreatProg
set_option linter.all false
open Go renaming Program->aa,Frame->ac,Goroutine->ad,Value->ag,World->ai,unwind->aH,FuncId->aI,results->aL,Tables->a7,Func->a8,TypeId->a9,Tape->bb,Event->bi,doReturn->bj,Trace->bm,Code->bq,Oper->bv,Result->bC,GStep->bL,yielded->bM
open Go.stepG renaming exec->bR,apply->bT,oper->b1
open Go.Frame renaming catches->b8,enter->b9,raise->ca,eval->cb
open Go.bJ renaming codeOk->cd,Term->ce
open Go.Program renaming mk->cf
open Bool renaming false_eq_true->ch,not_true->ci,and_eq_true->cl,not_false->co,and_true->cq,false_and->ct,true_and->cB
open Go.Result renaming world->cC,ok->cQ,halt->c8
open Go.World renaming re->c9,cell?->da,frozen?->db,shape?->dd,farLoad->df,noCell->dk,farStore->dp,freeze->dq
open Nat renaming succ_pos->dt,eq_zero_or_pos->du,lt_of_lt_of_le->dv,le_trans->dx,le_refl->dC,lt_or_ge->dL,lt_irrefl->dO
open Go.Conc renaming Leavers->dT,Past->d8,awake_of->d9,runT_crowd_go->ea,woken_quitsD->eb,Deaf_other->ec,mem_ofEvents->ed,seenStep->eh,seen_def->ei,mem_seen->ej
open Array renaming getElem?_eq_getElem->ek,getElem?_setIfInBounds_ne->el,getElem?_map->em,getElem?_setIfInBounds_self_of_lt->ep,ext_getElem?->eq,toList_append->et,append_assoc->eu,toList_push->eA
open Go.MemOp renaming ofEvents->eD
open Go.MemAct renaming ofEvent->eE,touch?->eF
open Go.bJ.Ren renaming le_trans->eI,le_refl->eM,kW->eN
open Go.GStep renaming after->eQ,ended->eS,go->eT
open Go.ConcX renaming runNT_trans->eV
open SizeOf renaming sizeOf->eW
open List renaming range->eX,foldl_cons->e6
open Go.Proofs.Tryz renaming progTables->e7
open Go.Sem renaming runT->e8,store->e9,getObj->fb,setObj->fg
open Go.Item renaming code->fi,endRangeFunc->fl,inRangeFunc->fm
open Go.FrameMode renaming run->fo,panicking->fp,returning->ft
open Go.CallKind renaming normal->fJ
open Go.GoStatus renaming running->fO
open Or renaming inl->fP,inr->fY
open Go.Loc renaming cell->f0,obj->f1,mark->f2
open Go.Obj renaming cells->f3,loop->f5
open Go.Value renaming int->f6,string->f7,slice->f8,tuple->f9,func->gc
open Go.Halt renaming unsupported->ge,panic->gf,stuck->gg
open Go.Outcome renaming stuck->gj
open Go.Operand renaming const->gl,tmp->gp
open Go.Op renaming build->gr,field->gt,binOp->gw,call->gy,move->gB,indexAddr->gD,load->gE
open Go.BinOp renaming xor->gG,add->gL,lss->g0
open Go.IntKind renaming i64->g6
open Go.Code renaming seq->g7,region->g8
namespace Go.bJ
def Gv : "fmt's door no such".startsWith "fmt's door" = true:=by decide +kernel
def qX:Extern.next "fmt's door no such" = none:=by
 have h:(Extern.next "fmt's door no such").isNone=true:=by decide +kernel
 simp_all
def aX(P:aa):ac:={ fn:=P.funcs.size,tmps:=#[],todo:=[.call { target:=.nil,args:=#[] } false "fmt's door no such" #[]],defers:=[],mode:=fo,kind:=fJ }
def Yh(P:aa):P.funcs[P.funcs.size]?=none:=ar
abbrev fH(fr:ac)(cs:List ac):ad:={ frame:=fr,callers:=cs,status:=fO,dying:=none }
def vH(P:aa)(v:ag)(w:ai):∃o w2 es,stepG P true (fH ((aX P).finish v) []) w=eS o w2 es:=by
 show∃o w2 es,bR P true true { (aX P) with todo:=[.extern "fmt's door no such" #[v]] } [] none w=eS o w2 es;unfold bR;simp only[qX];exact⟨_,_,_,rfl⟩
def xz(P:aa)(c:List PanicEntry)(w:ai):∃o w2 es,stepG P true (fH ((aX P).raise c) []) w=eS o w2 es:=by
 have:b8 P { (aX P) with mode:=fp c }=true:=by
  unfold b8;simp only[aX,Yh,Gv]
 show∃o w2 es,aH P true { (aX P) with mode:=fp c } [] none w=eS o w2 es;unfold aH;simp only[aX]at this⊢;simp_all
def lP(bot:ac)(g:ad):Prop:=g.frame.mode≠fo/\g.frame.defers=[]/\g.callers=[bot]
def lQ(P:aa)(f:aI)(R:ag->ai->Prop)(g:ad)(w:ai):Prop:=
 g.callers=[aX P]/\g.frame.mode=ft/\g.frame.defers=[]/\g.frame.fn=f/\∃fn v,P.funcs[f]?=some fn/\(∀a d,(aL fn g.frame.tmps).run P (w.re a d)=cQ v (w.re a d))/\R v w
section
variable {T:a7}{fB fA:Array a8}{F X:aI->Bool}{Z:a9->Bool}{ρ σ:Ren}{w w':ai}
def iE(T:a7)(fB:Array a8)(F:aI->Bool)(Z:a9->Bool)(g:ad)(w:ai):Prop:=
 ∃ρ a w',GR T fB fB F (λ_:aI=>false) Z (aX ⟨T,fB⟩) ρ g a/\ρ.bw T.globals.size/\WR T.globals.size F (cd T F Z) ρ w w'
def Gm.noX{f f':ac}(h:Gm T fB fA F (λ_:aI=>false) Z ρ f f'):aQ T F Z fB fA ρ f f':=by
 cases h with
 |alike h=>exact h
 |enters x a _ _=>cases a
def Jc(c:ρ.bw T.globals.size)(a:WR T.globals.size F (cd T F Z) ρ w w')(b:bb)(d:Nat):Wd T F Z ρ (w.re b d) (w'.re b d):=⟨c,⟨a.pK,a.gN,a.obj⟩,rfl,rfl⟩
def iE.re{g:ad}(h:iE T fB F Z g w)(b:bb)(d:Nat):iE T fB F Z g (w.re b d):=by
 obtain⟨ρ,c,w',e,f,a⟩:=h;exact⟨ρ,c,w',e,f,⟨a.pK,a.gN,a.obj⟩⟩
def Bz{g:ad}(hs:¬lP (aX (cf T fB)) g):g.frame.mode≠fo->g.frame.defers=[]->g.callers≠[aX (cf T fB)]:=λa b c=>hs ⟨a,b,c⟩
def iE.Wm(fit:Fits T fB fB F (λ_:aI=>false) Z){g:ad}(h:iE T fB F Z g w)(hs:¬lP (aX (cf T fB)) g):∃ρ w' s',ρ.bw T.globals.size/\ef T fB fB F (λ_:aI=>false) Z (aX (cf T fB)) ρ w w' (stepG (cf T fB) true g w) s':=by
 obtain⟨ρ,d,w',a,b,c⟩:=h;have:=sr fit (Jc b c w.tape w.drawn) a a.top.noX (Bz hs);exact⟨ρ,_,_,b,this⟩
def iE.step(fit:Fits T fB fB F (λ_:aI=>false) Z){g b:ad}{w1:ai}{es:Array bi}(h:iE T fB F Z g w)(hs:¬lP (aX (cf T fB)) g)(e:stepG (cf T fB) true g w=eT b w1 es):iE T fB F Z b w1:=by
 obtain⟨ρ,w',j,k,c⟩:=h.Wm fit hs;rw[e]at c;obtain⟨d,f,i,l,_,_,_,a,hg⟩:=c;exact⟨d,f,i,hg,a.inj,⟨a.wr.pK,a.wr.gN,a.wr.obj⟩⟩
def iE.loc(fit:Fits T fB fB F (λ_:aI=>false) Z){g:ad}(h:iE T fB F Z g w)(hs:¬lP (aX (cf T fB)) g):gq (stepG (cf T fB) true g) w:=by
 obtain⟨ρ,d,w',a,b,c⟩:=h;exact OG fit (Jc b c w.tape w.drawn) a a.top.noX (Bz hs)
def iE.fH{g:ad}(h:iE T fB F Z g w):g=fH g.frame g.callers:=by
 obtain⟨ρ,b,w',a,c,e⟩:=h;obtain⟨_,_,st,_,f,_,of,_⟩:=a;obtain⟨fr,cs,s,d,o⟩:=g;grind
def pO{g:ad}(h:iE T fB F Z g w)(hs:lP (aX (cf T fB)) g) :
 (∃fr w1 es,stepG (cf T fB) true g w=eT (fH fr []) w1 es/\∀w,∃o w2 es,stepG (cf T fB) true (fH fr []) w=eS o w2 es)\/∃o w1 es,stepG (cf T fB) true g w=eS o w1 es:=by
 have hg:=h.fH;obtain⟨ρ,n,w',p,u,x⟩:=h;have d:=p.top.noX;obtain⟨f,i,m⟩:=hs;rw[m]at hg;have e:=d.mode;have j:=d.ret;have k:=d.same;have l:=d.kind;have a:=d.todo;obtain⟨fr,cs,st,y,of⟩:=g;simp only at hg f i m e j k l a;cases hg;obtain⟨fn,tmps,todo,defers,mode,kind,b⟩:=fr;simp only at f i e j k l a;subst i l;generalize n.frame.mode=m' at e
 cases e with
 |run=>exact absurd rfl f
 |@panicking c z hc=>
  have e1:stepG (cf T fB) true (fH ⟨fn,tmps,todo,[],fp c,fJ,b⟩ [aX (cf T fB)]) w=eT (fH ((aX (cf T fB)).raise c) []) w:=by
   show aH (cf T fB) true ⟨fn,tmps,todo,[],fp c,fJ,b⟩ [aX (cf T fB)] none w=_;unfold aH;simp only[iR a (cf T fB) fn tmps [] (fp c) fJ b,ch,if_false]
  exact fP ⟨_,_,_,e1,λw=>xz (cf T fB) c w⟩
 |returning=>
  obtain⟨fx,c,q,A,r,s⟩:=(k (j rfl)).ex;have e1:∃es,(∃v w1,stepG (cf T fB) true (fH ⟨fn,tmps,todo,[],ft,fJ,b⟩ [aX (cf T fB)]) w=eT (fH ((aX (cf T fB)).finish v) []) w1 es)\/∃o w2,stepG (cf T fB) true (fH ⟨fn,tmps,todo,[],ft,fJ,b⟩ [aX (cf T fB)]) w=eS o w2 es:=by
   show∃es,(∃v w1,aH (cf T fB) true ⟨fn,tmps,todo,[],ft,fJ,b⟩ [aX (cf T fB)] none w=eT (fH ((aX (cf T fB)).finish v) []) w1 es)\/∃o w2,aH (cf T fB) true ⟨fn,tmps,todo,[],ft,fJ,b⟩ [aX (cf T fB)] none w=eS o w2 es;unfold aH;simp only[q,Sem.runT_eq,bj]
   cases(aL fx tmps).run (cf T fB) w with
   |ok v w1=>exact⟨_,fP ⟨v,w1,rfl⟩⟩
   |halt t w1=>cases t<;>exact⟨_,fY ⟨_,_,rfl⟩⟩
  obtain⟨B,⟨v,w2,e1⟩|⟨o,w2,e1⟩⟩:=e1
  .exact fP ⟨_,_,_,e1,λw=>vH (cf T fB) v w⟩
  grind
def Dn{fr fr':ac}{cs cs':List ac}{w w':ai}(h:lone fr cs w=lone fr' cs' w'):fr=fr'/\cs=cs'/\w=w':=by
 have a:=congrArg Machine.world h;have b:=congrArg Machine.gs h;simp only[lone]at a b;grind
def Jd{g:ad}{fr:ac}{cs:List ac}{w1:ai}{es:Array bi}(hg:g=fH g.frame g.callers)(e:stepG (cf T fB) true g w=eT (fH fr cs) w1 es):step (cf T fB) (lone g.frame g.callers w)=.next (lone fr cs w1):=by
 rw[hg]at e;exact step_lone_go (by rw[e];rfl)
def qY{g:ad}{o:Outcome}{w1:ai}{es:Array bi}(hg:g=fH g.frame g.callers)(e:stepG (cf T fB) true g w=eS o w1 es):step (cf T fB) (lone g.frame g.callers w)=.ended o w1:=by
 rw[hg]at e;exact step_lone_ended (by rw[e];rfl)
theorem cy.head{P:aa}{n:Nat}{g a b:ad}{w w1 w2:ai}{es:Array bi}(k:stepG P true g w=eT a w1 es)(h:cy P n a w1 b w2):cy P (n+1) g w b w2:=by
 induction h with
 |zero=>exact .succ (.zero _ _) k
 |succ _ k' c=>exact .succ (c k) k'
def zC(fit:Fits T fB fB F (λ_:aI=>false) Z):∀(n:Nat)(g:ad)(w:ai),iE T fB F Z g w->∀fr w',runN (cf T fB) n (lone g.frame g.callers w)=.next (lone fr [aX (cf T fB)] w')->cy (cf T fB) n g w (fH fr [aX (cf T fB)]) w'/\iE T fB F Z (fH fr [aX (cf T fB)]) w':=by
 intro n
 induction n with
 |zero=>
  intro g w hi fr w' h;have d:lone g.frame g.callers w=lone fr [aX (cf T fB)] w':=by simpa[runN]using h
  obtain⟨a,b,c⟩:=Dn d;have hg:=hi.fH;rw[a,b]at hg;rw[hg,c]at hi;rw[hg,c];exact⟨.zero _ _,hi⟩
 |succ n q=>
  intro g w hi fr w' h;have hg:=hi.fH;by_cases hs:lP (aX (cf T fB)) g
  .rcases pO hi hs with⟨i,w1,es,e,l⟩|⟨o,w1,es,e⟩
   .rw[runN,Jd hg e]at h;simp only at h
    cases n with
    |zero=>
     have d:lone i [] w1=lone fr [aX (cf T fB)] w':=by simpa[runN]using h
     have:=(Dn d).2.1;cases this
    |succ n=>
     obtain⟨o,w2,r,m⟩:=l w1;rw[runN,qY (g:=fH i []) rfl m]at h;cases h
   .rw[runN,qY hg e]at h;cases h
  .obtain⟨ρ,w2,s,t,j⟩:=hi.Wm fit hs
   cases e:stepG (cf T fB) true g w with
   |go u w1 es=>
    have p:=hi.step fit hs e;have f:=p.fH;have k:=e;rw[f]at k;rw[runN,Jd hg k]at h;grind[cy.head]
   |ended o w1 es=>
    rw[runN,qY hg e]at h;cases h
   |_=>rw[e]at j;exact j.elim
def Gw{fn:a8}{tmps g:Array ag}(a:ρ.bw T.globals.size)(j:WR T.globals.size F (cd T F Z) ρ w w')(h:VA F ρ tmps g){v:ag}(e:(aL fn tmps).run (cf T fB) w=cQ v w)(b:bb)(d:Nat):(aL fn tmps).run (cf T fB) (w.re b d)=cQ v (w.re b d):=by
 have hl:=av.loc (mP (T:=T) (fB:=fB) (fA:=fB) (Z:=Z) a fn h) a (Jc a j w.tape w.drawn).wr rfl rfl;obtain⟨_,_,c⟩:=hl;have k:(aL fn tmps).run (cf T fB) (w.re w.tape w.drawn)=cQ v w:=e;have f:=c b d;rw[show(w.re w.tape w.drawn)=w from rfl,e]at f;simpa[Result.re,cC]using f (λi hi=>by simp[cC]at hi)
def zD(fit:Fits T fB fB F (λ_:aI=>false) Z){w0 j:ai}(H:ρ.bw T.globals.size)(I:WR T.globals.size F (cd T F Z) ρ w0 j){f:aI}(hf:F f=true){args y:Array ag}(z:VA F ρ args y){R:ag->ai->Prop}
 (J:∀v w i d,R v w->R v (c9 w i d)) (calls:∀σ:bb,Calls (cf T fB) f args (w0.re σ 0) fun | .returned v,w'=>R v w'|_,_=>False) :
 ce (cf T fB) (lQ (cf T fB) f R) (fH (b9 (cf T fB) f args fJ) [aX (cf T fB)]) w0:=by
 have A:iE T fB F Z (fH (b9 (cf T fB) f args fJ) [aX (cf T fB)]) w0:=
  ⟨ρ,fH (b9 (cf T fB) f y fJ) [],j,⟨.alike (fe (fit.same f hf rfl) hf z),⟨[],rfl,.nil,(λx K=>by cases K;rfl),λ_=>fe (fit.same f hf rfl) hf z⟩,rfl,rfl,rfl,rfl,rfl,rfl⟩,H,I⟩
 have L:∀g w i d,lQ (cf T fB) f R g w->lQ (cf T fB) f R g (c9 w i d):=by
  rintro g w i d⟨a,b,c,e,fn,v,l,M,N⟩;exact⟨a,b,c,e,fn,v,l,λp O=>M p O,J v w i d N⟩
 refine Bv (Inv:=iE T fB F Z) (Stop:=λg=>lP (aX (cf T fB)) g) (λg w i d h=>h.re i d) (λg w g1 w1 es h hs e=>h.step fit hs e) (λg w h hs=>h.loc fit hs) ?_ L A ?_
 .intro g w g2 w2 m hi hs k q;obtain⟨g3,w3,NF,B⟩:=k.next (.zero g w) (dt m)
  rcases pO hi hs with⟨P,w1,es,e,Q⟩|⟨o,w1,es,e⟩
  .have l:cy (cf T fB) 1 g w (fH P []) w1:=.succ (.zero _ _) e
   cases m with
   |zero=>
    obtain⟨rfl,rfl⟩:=k.det l;have:=q.1;cases this
   |succ m=>
    obtain⟨g4,w4,S,C⟩:=k.next l ab;obtain⟨o,w5,U,V⟩:=Q w1;rw[V]at C;cases C
  .rw[e]at B;cases B
 .intro σ;obtain⟨e,w',fr,r,hc,D,hl⟩:=calls σ [aX (cf T fB)]
  cases e with
  |returned v=>
   obtain⟨n,W⟩:=hc;obtain⟨k,aJ,g',aP,s,t,Y⟩:=zC fit n _ _ (A.re σ 0) fr w' W;refine⟨n,_,_,k,rfl,hl.1,hl.2.1,D,?_⟩;obtain⟨_,_,_,fn,E,u⟩:=hl;rw[D]at E;exact⟨fn,v,E,λi d=>Gw t Y s.top.noX.tmps u i d,r⟩
  |panicked c=>exact r.elim
  |outgrown=>exact r.elim
end
open Go.Conc
open Go.ConcN (sumTo upd sumTo_upd upd_ne upd_same)
section
variable {P:aa}{Shun:Loc->Prop}
def Gx(Q:Nat->ad->ai->Array bi->Prop) :
 ∀(M:Nat)(gs:Array ad)(a:ad)(w:ai)(sl:Option (Nat×Nat))(t:bm)(q:Nat->Nat)(B:Nat),sumTo gs.size q<=M->gs[0]?=some a->a.status=fO->dT P t gs q->d8 Shun B t->(∀op∈t,gs.size<=op.g->op.act.touch? = none)->
  (∀d,∃a' w' es,stepG P true a (w.at d)=eT a' w' es/\Q d a' w' es/\B<=w'.heap.size/\∀e∈es,EvL Shun w'.heap.size e)->
  ∃(N d:Nat)(b:Array ad)(a':ad)(w':ai)(es:Array bi)(o:Option (Nat×Nat))(k:bm)(p:Nat->Nat),
   runNT P N (crowd gs w sl) t=(.next (crowd b w' o),k)/\b.size=gs.size/\b[0]?=some a'/\stepG P true a (w.at d)=eT a' w' es/\Q d a' w' es/\dT P k b p/\d8 Shun w'.heap.size k/\(∀op∈k,b.size<=op.g->op.act.touch? = none):=by
 intro M
 induction M with
 |zero=>
  intro gs a w sl t q B m c l f i j n;exact aux Q 0 (λ_ _ _ _ _ _ h=>absurd h (Nat.not_lt_zero _)) gs w sl t q B m c l f i j n
 |succ M r=>
  intro gs a w sl t q B m c l f i j n;exact aux Q (M+1) (λgs w sl t q B h c f i j hs=>r gs a w sl t q B (Nat.le_of_lt_succ h) c l f i j hs) gs w sl t q B m c l f i j n
 where
 aux (Q:Nat->ad->ai->Array bi->Prop) (M:Nat) {a:ad} (T:∀(gs:Array ad)(w:ai)(sl:Option (Nat×Nat))(t:bm)(q:Nat->Nat)(B:Nat),sumTo gs.size q<M->gs[0]?=some a->dT P t gs q->d8 Shun B t->(∀op∈t,gs.size<=op.g->op.act.touch? = none)->
  (∀d,∃a' w' es,stepG P true a (w.at d)=eT a' w' es/\Q d a' w' es/\B<=w'.heap.size/\∀e∈es,EvL Shun w'.heap.size e)->
  ∃(N d:Nat)(b:Array ad)(a':ad)(w':ai)(es:Array bi)(n:Option (Nat×Nat))(c:bm)(u:Nat->Nat),
   runNT P N (crowd gs w sl) t=(.next (crowd b w' n),c)/\b.size=gs.size/\b[0]?=some a'/\stepG P true a (w.at d)=eT a' w' es/\Q d a' w' es/\dT P c b u/\d8 Shun w'.heap.size c/\(∀op∈c,b.size<=op.g->op.act.touch? = none)) :
  ∀(gs:Array ad)(w:ai)(sl:Option (Nat×Nat))(t:bm)(q:Nat->Nat)(B:Nat),sumTo gs.size q<=M->gs[0]?=some a->a.status=fO->dT P t gs q->d8 Shun B t->(∀op∈t,gs.size<=op.g->op.act.touch? = none)->
  (∀d,∃a' w' es,stepG P true a (w.at d)=eT a' w' es/\Q d a' w' es/\B<=w'.heap.size/\∀e∈es,EvL Shun w'.heap.size e)->
  ∃(N d:Nat)(b:Array ad)(a':ad)(w':ai)(es:Array bi)(n:Option (Nat×Nat))(c:bm)(u:Nat->Nat),
   runNT P N (crowd gs w sl) t=(.next (crowd b w' n),c)/\b.size=gs.size/\b[0]?=some a'/\stepG P true a (w.at d)=eT a' w' es/\Q d a' w' es/\dT P c b u/\d8 Shun w'.heap.size c/\(∀op∈c,b.size<=op.g->op.act.touch? = none):=by
  intro gs w sl t q B hM K U r L O R;have V:∀g∈gs,awake g:=by
   intro g hg;obtain⟨i,hi,rfl⟩:=Array.mem_iff_getElem.1 hg
   rcases du i with rfl|D
   .grind[ek,d9]
   .exact d9 ((r.old i _ D (ek hi)).status.elim fP λx=>fY (fY x))
  obtain⟨i,g,d,n,hi,hg,S⟩:=crowd_pick (P:=P) (w:=w) (sl:=sl) V ⟨0,a,K,U⟩
  rcases du i with rfl|D
  .obtain rfl:g=a:=aS;obtain⟨a',w',es,l,W,X,Y⟩:=R d;have E:=ea (P:=P) (sl:=n) (i:=0) hi (show stepG P (0==0) g (w.at d)=_ from l);have s:((gs.map (woken P g a' w')).setIfInBounds 0 a').size=gs.size:=ar;have z:0<gs.size:=(Array.getElem?_eq_some_iff.1 K).1
   refine⟨1,d,(gs.map (woken P g a' w')).setIfInBounds 0 a',a',w',es,n,t++eD 0 g.frame.fn g.frame.place es,q,by simp only[runNT,S,E],s,by simp[z],l,W,
    ⟨λj x m o=>?_,λj m=>?_⟩,(L.mono X).own Y,λop f=>?_⟩
   .have Z:0≠j:=ab;rw[el Z,em]at o;obtain⟨y,hy,rfl⟩:=Option.map_eq_some_iff.1 o;have p:=r.old j y m hy;rw[eb p,ec t ab _ (λop f=>by obtain⟨e,_,rfl⟩:=ed f;rfl)];exact p
   .rw[ec t (g':=0) (by simp at m;omega) _ (λop f=>by obtain⟨e,_,rfl⟩:=ed f;rfl)];exact r.above j (by simpa using m)
   .rw[s]
    rcases Array.mem_append.1 f with h|h
    .exact O op h
    .obtain⟨e,_,rfl⟩:=ed h;grind
  .have p:=r.old i g D hi;have Yl:(i==0)=false:=by simp;omega
   have z:i<gs.size:=(Array.getElem?_eq_some_iff.1 hi).1
   cases F:q i with
   |zero=>rw[F]at p;rw[p.1]at hg;cases hg
   |succ k=>
    rw[F]at p
    rcases p with⟨hf,_⟩|⟨_,A,es,hm,Gz,Ym⟩
    .rw[hf]at hg;cases hg
    have E:=ea (P:=P) (sl:=n) (i:=i) hi (by rw[Yl];exact Gz (w.at d));have s:((gs.map (woken P g A (w.at d))).setIfInBounds i A).size=gs.size:=ar;have LO:sumTo gs.size (upd q i k)+(k+1)=sumTo gs.size q+k:=by
     have:=sumTo_upd q k id z;simpa[F]using this
    obtain⟨N,d2,b,H,SY,tJ,Yn,c,u,hr,fR,TK,l,hS,I,J⟩:=T ((gs.map (woken P g A (w.at d))).setIfInBounds i A) (w.at d) n (t++eD i g.frame.fn g.frame.place es) (upd q i k) B (by rw[s];omega)
     (by
       grind [el,woken_run])
     ⟨λj x m o=>by
       by_cases C:i=j
       .subst C;rw[ep (by simpa using z)]at o;obtain rfl:=Option.some.inj o;rw[upd_same,Deaf_own];exact Ym
       .rw[el C,em]at o;obtain⟨y,hy,rfl⟩:=Option.map_eq_some_iff.1 o;have v:=r.old j y m hy;rw[eb v,upd_ne q k (Ne.symm C),ec t C _ (λop f=>by obtain⟨e,_,rfl⟩:=ed f;rfl)];exact v,λj m=>by
       rw[ec t (g':=i) (by simp at m;omega) _ (λop f=>by obtain⟨e,_,rfl⟩:=ed f;rfl)]
       exact r.above j (by simpa using m)⟩
     (L.mute ab hm) (λop f=>by
      rw[s]
      rcases Array.mem_append.1 f with h|h
      .exact O op h
      .obtain⟨e,_,rfl⟩:=ed h;grind) (λd2=>R d2)
    exact⟨N+1,d2,b,H,SY,tJ,Yn,c,u,by simp only[runNT,S,E];exact hr,fR.trans s,TK,l,hS,I,J⟩
end
end Go.bJ
namespace Go.bJ
open Go.Conc Go.ConcM
structure TL(Shun:Loc->Prop)(ρ:Ren)(n:Nat):Prop where
 cell:∀a,Shun (f0 a)->a.block<n/\∀r,¬ρ r a.block
 obj:∀b,Shun (f1 b)->b<n/\∀r,¬ρ r b
 mem:∀l,Shun l->l.isMemory=true
section
variable {T:a7}{fB fA:Array a8}{F X:aI->Bool}{Z:a9->Bool}{ρ aJ:Ren}{w w' w1 aP:ai}{Shun:Loc->Prop}
def TL.step{es:Array bi}(h:TL Shun ρ w'.heap.size)(c:cE T.globals.size F (cd T F Z) ρ w w' aJ w1 aP es):TL Shun aJ aP.heap.size:=by
 refine⟨λa g=>?_,λb hb=>?_,h.mem⟩
 .obtain⟨d,e⟩:=h.cell a g;refine⟨dv d c.fV,λr f=>?_⟩
  rcases c.only _ _ f with x|⟨_,x⟩
  .exact e _ x
  .omega
 .obtain⟨d,e⟩:=h.obj b hb;refine⟨dv d c.fV,λr f=>?_⟩
  rcases c.only _ _ f with x|⟨_,x⟩
  .exact e _ x
  .omega
def Ls.evL(g:WR T.globals.size F (cd T F Z) ρ w w')(i:TL Shun ρ w'.heap.size){e:bi}(h:Ls ρ e):EvL Shun w'.heap.size e:=by
 obtain⟨loc,wr,k⟩:=e
 cases loc with
 |cell a=>
  obtain⟨rfl,r,d⟩:=h;refine⟨λx c hs=>?_,ar,ar,(g.lt d).2⟩;have f:x=⟨f0 a,wr,.plain⟩:=by simpa[eE,eF]using c.symm
  subst f;exact absurd d ((i.cell a hs).2 r)
 |obj b=>
  obtain⟨rfl,r,d⟩:=h;have e1:eE ⟨f1 b,wr,false⟩=.access ⟨f1 b,wr,false⟩:=by cases wr<;>rfl
  refine⟨λx c hs=>?_,ar,ar,?_⟩
  .rw[e1]at c;have f:x=⟨f1 b,wr,.plain⟩:=by simpa[eF]using c.symm
   subst f;exact absurd d ((i.obj b hs).2 r)
  .rw[e1];exact(g.lt d).2
 |mark m=>
  have j:m=.noRoom:=h;subst j;exact⟨λx c _=>by simp[eE,eF]at c,ar,ar,trivial⟩
 |output=>exact h.elim
 |goroutines=>exact h.elim
structure Dp(P:aa)(Shun:Loc->Prop)(gs:Array ad)(g:ad)(w:ai)(t:bm)(q:Nat->Nat):Prop where
 main:gs[0]?=some g
 old:dT P t gs q
 GA:d8 Shun w.heap.size t
 num:∀op∈t,gs.size<=op.g->op.act.touch? = none
structure Kept(ρ:Ren)(w' aP:ai):Prop where
 tape:aP.tape=w'.tape
 os:OsLater w'.os aP.os
 output:aP.output=w'.output
 size:w'.heap.size<=aP.heap.size
 block:∀b,b<w'.heap.size->(∀a,¬ρ a b)->aP.heap[b]?=w'.heap[b]?
def Kept.TM{es:Array bi}{d:Nat}(h:cE T.globals.size F (cd T F Z) ρ (w.re w'.tape d) (w'.re w'.tape d) aJ w1 aP es):Kept ρ w' aP:=
 ⟨h.wH,by rw[h.XV];exact .refl _,h.mK,h.fV,h.frame⟩
def sA(ρ aJ:Ren)(w w' w1 aP:ai):Prop:=ρ.le aJ/\(∀a b,aJ a b->ρ a b\/(w.heap.size<=a/\w'.heap.size<=b))/\
 ∀a b,ρ a b->∀i,nX w1 a i->nX w a i/\aP.cell? ⟨b,i,none⟩=w'.cell? ⟨b,i,none⟩
def Kept.trans{c:ai}(h:Kept ρ w' aP)(hg:∀a b,aJ a b->ρ a b\/w'.heap.size<=b)(k:Kept aJ aP c):Kept ρ w' c:=
 ⟨k.tape.trans h.tape,h.os.trans k.os,k.output.trans h.output,dx h.size k.size,λb hb d=>by
   rw[k.block b (dv hb h.size) λa x=>?_,h.block b hb d]
   grind⟩
def BD(T:a7)(fB fA:Array a8)(F X:aI->Bool)(Z:a9->Bool)(End:ad->ai->Prop):Prop:=
 ∀(x:aI),X x=true->∀(ρ:Ren)(a f:Array ag)(c b:ac)(l e:List ac)(w w':ai)(gs:Array ad)(i:Option (Nat×Nat))(t:bm)(q:Nat->Nat)(Shun:Loc->Prop),
  ρ.bw T.globals.size->WR T.globals.size F (cd T F Z) ρ w w'->VA F ρ a f->aQ T F Z fB fA ρ c b->cj T F Z fB fA ρ l e->
  ce ⟨T,fB⟩ End (fH (b9 ⟨T,fB⟩ x a fJ) (c::l++[aX ⟨T,fB⟩])) w->iE T fB F Z (fH (b9 ⟨T,fB⟩ x a fJ) (c::l++[aX ⟨T,fB⟩])) w->
  Dp ⟨T,fA⟩ Shun gs (fH (b9 ⟨T,fA⟩ x f fJ) (b::e)) w' t q->TL Shun ρ w'.heap.size->Calm w'.tape->
  ∃(N:Nat)(aJ:Ren)(v v':ag)(w1 aP:ai)(g:Array ad)(j:Option (Nat×Nat))(t1:bm)(q1:Nat->Nat)(h:Loc->Prop),
   runNT ⟨T,fA⟩ N (crowd gs w' i) t=(.next (crowd g aP j),t1)/\Dp ⟨T,fA⟩ h g (fH (b.finish v') e) aP t1 q1/\TL h aJ aP.heap.size/\
   VR F aJ v v'/\aJ.bw T.globals.size/\WR T.globals.size F (cd T F Z) aJ w1 aP/\sA ρ aJ w w' w1 aP/\Kept ρ w' aP/\
   (∃m k d,cy ⟨T,fB⟩ (m+1) (fH (b9 ⟨T,fB⟩ x a fJ) (c::l++[aX ⟨T,fB⟩])) (w.re k d) (fH (c.finish v) (l++[aX ⟨T,fB⟩])) w1)/\iE T fB F Z (fH (c.finish v) (l++[aX ⟨T,fB⟩])) w1/\w.heap.size<=w1.heap.size
def results_tmp{fn:a8}{t:Tmp}(h:fn.results=#[.tmp t])(tmps:Array ag):aL fn tmps=pure (tmps.getD t undef):=by
 unfold aL;simp_all
def sA.trans{c:Ren}{w2 d:ai}(h:sA ρ aJ w w' w1 aP)(k:sA aJ c w1 aP w2 d)(j:w.heap.size<=w1.heap.size)(l:w'.heap.size<=aP.heap.size):sA ρ c w w' w2 d:=
 ⟨eI h.1 k.1,λa b x=>by
   rcases k.2.1 a b x with y|⟨y,z⟩
   .exact h.2.1 a b y
   grind,λa b x i f=>by
   obtain⟨y,e⟩:=k.2.2 a b (h.1 x) i f;obtain⟨z,g⟩:=h.2.2 a b x i y
   exact⟨z,e.trans g⟩⟩
def kK(T:a7)(fB fA:Array a8)(F X:aI->Bool)(Z:a9->Bool)(R:ag->ai->Prop)(g:ad)(w:ai):Prop:=
 ∀(ρ:Ren)(c:ad)(w':ai)(gs:Array ad)(f:Option (Nat×Nat))(t:bm)(q:Nat->Nat)(Shun:Loc->Prop),
  iE T fB F Z g w->GR T fB fA F X Z (aX ⟨T,fB⟩) ρ g c->ρ.bw T.globals.size->WR T.globals.size F (cd T F Z) ρ w w'->Dp ⟨T,fA⟩ Shun gs c w' t q->TL Shun ρ w'.heap.size->Calm w'.tape->
  ∃(N:Nat)(aJ:Ren)(v v':ag)(a aP:ai)(e:Array ad)(b:ad)(h:Option (Nat×Nat))(t1:bm)(q1:Nat->Nat)(i:Loc->Prop),
   runNT ⟨T,fA⟩ N (crowd gs w' f) t=(.next (crowd e aP h),t1)/\Dp ⟨T,fA⟩ i e b aP t1 q1/\b.status=fO/\(∀d,stepG ⟨T,fA⟩ true b (aP.at d)=eS (.done v') (aP.at d))/\
   VR F aJ v v'/\R v a/\WR T.globals.size F (cd T F Z) aJ a aP/\aJ.bw T.globals.size/\sA ρ aJ w w' a aP/\Kept ρ w' aP
def BF(W:Fits T fB fA F X Z)(Y:Fits T fB fB F (λ_:aI=>false) Z){f:aI}{R:ag->ai->Prop}(B:T.inits.idxOf? f=none){fn:a8}{tr:Tmp}(j:fB[f]?=some fn)(k:fA[f]?=some fn)(x:fn.results=#[.tmp tr])
 {g:ad} {w:ai} (h:lQ (cf T fB) f R g w):kK T fB fA F X Z R g w:=by
 intro ρ m w' gs C t q Shun hi hg D E H vJ lS;obtain⟨e1,I,J,K,n,v,L,M,N⟩:=h;have i:fB[f]?=some n:=L;rw[j]at i;cases i;obtain⟨O,⟨l,hl,hcs,hb,o⟩,st,c,dy,y,of,z⟩:=hg;obtain rfl:l=[]:=by
  simp_all
 have e:=o rfl;have P:v=g.frame.tmps.getD tr undef:=by
  have:=M w.tape w.drawn;rw[results_tmp x]at this;cases this;rfl
 refine⟨0,ρ,v,m.frame.tmps.getD tr undef,w,w',gs,m,C,t,q,Shun,rfl,H,c,λd=>?_,?_,N,E,D,⟨eM _,λa b h=>fP h,λ_ _ _ _ h=>⟨h,rfl⟩⟩,⟨rfl,.refl _,rfl,dC _,λ_ _ _=>rfl⟩⟩
 .obtain⟨p,cs',s',d',o'⟩:=m;simp only at hcs c y z e;subst c y z;cases hcs;have r:=e.mode;have s:=e.defers;have u:=e.fn;have A:=e.bX;rw[I]at r;rw[J]at s;rw[K]at u;obtain⟨Q,S,U,cv,dQ,bX,V⟩:=p;simp only at r s u A;subst u A;cases r;cases s;show aH (cf T fA) true ⟨Q,S,U,[],ft,fJ,V⟩ [] none (w'.at d)=_;unfold aH;simp only[k,results_tmp x];show eQ _ (bj (cf T fA) true _ [] none _ _)=_;unfold bj;simp only[B];rfl
 .rw[P];exact VA.getD e.tmps tr .undef
def vf{End:ad->ai->Prop}(hE:∀fr w,¬End (fH fr []) w){g:ad}{w:ai}{G1:bb->Nat->ad}{W1:bb->Nat->ai}(hi:iE T fB F Z g w)(hs:lP (aX (cf T fB)) g)
 (h:∀c d,∃es,stepG (cf T fB) true g (w.re c d)=eT (G1 c d) (W1 c d) es) (k:∀c d,ce (cf T fB) End (G1 c d) (W1 c d)):False:=by
 obtain⟨es,e⟩:=h w.tape w.drawn;have f:stepG (cf T fB) true g w=eT (G1 w.tape w.drawn) (W1 w.tape w.drawn) es:=e;have i:=k w.tape w.drawn
 rcases pO hi hs with⟨q,w1,l,e1,m⟩|⟨o,w1,l,e1⟩
 .rw[e1]at f
  injection f with a b _
  rw[<-a,<-b]at i
  cases i with
  |done hd=>exact hE _ _ hd
  |step r s n k2=>
   obtain⟨t,j⟩:=n w.tape w.drawn;obtain⟨o,w3,u,p⟩:=m (w1.re w.tape w.drawn);rw[p]at j;cases j
 .rw[e1]at f;cases f
def TN{f f':ac}(h:Gm T fB fA F X Z ρ f f'):aQ T F Z fB fA ρ f f'\/∃x a a',X x=true/\F x=true/\VA F ρ a a'/\f=b9 (cf T fB) x a fJ/\f'=b9 (cf T fA) x a' fJ:=by
 cases h with
 |alike h=>exact fP h
 |enters x b hf h=>grind
def BH(OM:Fits T fB fA F X Z)(LR:Fits T fB fB F (λ_:aI=>false) Z){f:aI}{R:ag->ai->Prop}(ph:BD T fB fA F X Z (lQ (cf T fB) f R)){g:ad}{w:ai}{G1:bb->Nat->ad}{W1:bb->Nat->ai}
 (h:∀i d,∃es,stepG (cf T fB) true g (w.re i d)=eT (G1 i d) (W1 i d) es) (k:∀i d,ce (cf T fB) (lQ (cf T fB) f R) (G1 i d) (W1 i d))
 (ih:∀i d,kK T fB fA F X Z R (G1 i d) (W1 i d)) (S:∀n E w2 i d,cy (cf T fB) (n+1) g (w.re i d) E w2->kK T fB fA F X Z R E w2):kK T fB fA F X Z R g w:=by
 intro ρ p w' gs U t q Shun hi hg L M s V W;have step:∀(ρ:Ren)(p:ad)(w':ai),GR T fB fA F X Z (aX (cf T fB)) ρ g p->aQ T F Z fB fA ρ g.frame p.frame->ρ.bw T.globals.size->WR T.globals.size F (cd T F Z) ρ w w'->¬lP (aX (cf T fB)) g->∀d,
  ∃aJ o aP es r d2,stepG (cf T fA) true p (w'.at d)=eT o aP es/\cE T.globals.size F (cd T F Z) ρ (w.re w'.tape d) (w'.re w'.tape d) aJ ((W1 w'.tape d).re r d2) aP es/\GR T fB fA F X Z (aX (cf T fB)) aJ (G1 w'.tape d) o:=by
  intro ρ p w' hg H L M hs d;have:=sr OM (Jc L M w'.tape d) hg H (Bz hs);obtain⟨es,e⟩:=h w'.tape d;rw[e]at this;obtain⟨aJ,vY,aP,aT,r,d2,e1,s,A⟩:=this;exact⟨aJ,vY,aP,aT,r,d2,e1,s,A⟩
 have hs:¬lP (aX (cf T fB)) g:=λhs=>vf (λfr w hd=>by have:=hd.1;cases this) hi hs h k;have alike:aQ T F Z fB fA ρ g.frame p.frame->∃(N:Nat)(aJ:Ren)(v v':ag)(B aP:ai)(O:Array ad)(Y:ad)(rQ:Option (Nat×Nat))(t1:bm)(q1:Nat->Nat)(qF:Loc->Prop),
  runNT (cf T fA) N (crowd gs w' U) t=(.next (crowd O aP rQ),t1)/\Dp (cf T fA) qF O Y aP t1 q1/\Y.status=fO/\(∀d,stepG (cf T fA) true Y (aP.at d)=eS (.done v') (aP.at d))/\
  VR F aJ v v'/\R v B/\WR T.globals.size F (cd T F Z) aJ B aP/\aJ.bw T.globals.size/\sA ρ aJ w w' B aP/\Kept ρ w' aP:=by
  intro H;obtain⟨N,d,jk,o,aP,es,ov,t',q',hr,fW,TK,hgo,⟨aJ,r,d2,j,A⟩,hL',hP',hN'⟩:=Gx (P:=cf T fA) (Shun:=Shun)
   (λd o aP es=>∃aJ r d2,cE T.globals.size F (cd T F Z) ρ (w.re w'.tape d) (w'.re w'.tape d) aJ ((W1 w'.tape d).re r d2) aP es/\GR T fB fA F X Z (aX (cf T fB)) aJ (G1 w'.tape d) o)
   (Go.ConcN.sumTo gs.size q) gs p w' U t q w'.heap.size (dC _) s.main hg.st' s.old s.GA s.num (λd=>by
    obtain⟨aJ,o,aP,es,r,d2,e1,I,e3⟩:=step ρ p w' hg H L M hs d
    exact⟨o,aP,es,e1,⟨aJ,r,d2,I,e3⟩,I.fV,λe he=>Ls.evL I.wr (TL.step (w':=w'.re w'.tape d) V I) (I.ev e he)⟩)
  have Wr:Kept ρ w' aP:=Kept.TM j;obtain⟨es0,e0⟩:=h w'.tape d;have Gu:iE T fB F Z (G1 w'.tape d) (W1 w'.tape d):=(hi.re w'.tape d).step LR hs e0;obtain⟨N2,dU,v,v',B,jz,C,E,D,t2,q2,OP,r1,r2,r3,r4,r5,r6,r7,r8,r9,TP⟩:=ih w'.tape d aJ o aP jk ov t' q' Shun Gu A j.inj ⟨j.wr.pK,j.wr.gN,j.wr.obj⟩ ⟨TK,hL',hP',hN'⟩ (TL.step (w':=w'.re w'.tape d) V j) (by rw[Wr.tape];exact W);have acD:sA ρ aJ w w' (W1 w'.tape d) aP:=⟨j.le,j.only,j.hol⟩
  refine⟨N+N2,dU,v,v',B,jz,C,E,D,t2,q2,OP,eV hr r1,r2,r3,r4,r5,r6,r7,r8,acD.trans r9 j.size j.fV,Wr.trans (λa b x=>?_) TP⟩
  rcases j.only a b x with y|⟨_,y⟩
  .exact fP y
  .exact fY y
 have OQ:=hg;obtain⟨acA,⟨l,hl,hcs,hb,hal⟩,st,J,dy,Bl,of,Bm⟩:=hg
 cases l with
 |nil=>exact alike (hal rfl)
 |cons c l=>
  rcases TN acA with H|⟨x,a,o,hx,hf,ha,lR,K⟩
  .exact alike H
  .have eg:g=fH (b9 (cf T fB) x a fJ) (c::l++[aX (cf T fB)]):=by rw[hi.fH,lR,hl]
   obtain⟨fr',cs',s',d',o'⟩:=p;simp only at hcs J Bl Bm K;subst J Bl Bm K
   cases hcs with
   |@cons _ c' _ l' hc sB=>
    rw[eg]at hi;have ht:ce (cf T fB) (lQ (cf T fB) f R) (fH (b9 (cf T fB) x a fJ) (c::l++[aX (cf T fB)])) w:=by
     rw[<-eg];exact .step G1 W1 h k
    obtain⟨N,aJ,v,v',w1,aP,O,rQ,t1,q1,qF,p1,p2,p3,p4,p5,p6,Q,p8,⟨m,i,d,p9⟩,Cz,Fy⟩:=ph x hx ρ a o c c' l l' w w' gs U t q Shun L M ha hc sB ht hi s V W;rw[<-eg]at p9;have OS:=S m _ _ i d p9;have eP:dn (c.finish v::l):=by
     have:dn (c::l):=hb.pop;exact this.top (bZ _ _)
    have LS:=(hc.mono Q.1).finish p4;obtain⟨N2,dU,u,u',B,jz,C,E,D,t2,q2,OP,r1,r2,r3,r4,r5,r6,r7,r8,r9,TP⟩:=OS aJ (fH (c'.finish v') l') aP O rQ t1 q1 qF Cz
     ⟨.alike LS,⟨l,rfl,sB.mono Q.1,eP,λ_=>LS⟩,rfl,rfl,rfl,rfl,rfl,rfl⟩ p5 p6 p2 p3 (by rw[p8.tape];exact W)
    refine⟨N+N2,dU,u,u',B,jz,C,E,D,t2,q2,OP,eV p1 r1,r2,r3,r4,r5,r6,r7,r8,Q.trans r9 Fy p8.size,p8.trans (λa b y=>?_) TP⟩
    rcases Q.2.1 a b y with z|⟨_,z⟩
    .exact fP z
    .exact fY z
def LU{R:ag->ai->Prop}{g b:ad}{w w2:ai}{n:Nat}(hi:iE T fB F Z g w)(hs:lP (aX (cf T fB)) g)(a:cy (cf T fB) (n+1) g w b w2):kK T fB fA F X Z R b w2:=by
 obtain⟨p,w3,r,c⟩:=a.next (.zero g w) (dt n)
 rcases pO hi hs with⟨h,w1,es,e,i⟩|⟨o,w1,es,e⟩
 .have d:cy (cf T fB) 1 g w (fH h []) w1:=.succ (.zero _ _) e
  cases n with
  |zero=>
   obtain⟨rfl,rfl⟩:=a.det d;intro ρ s w' gs u t q Shun _ hg;obtain⟨_,⟨l,hl,_⟩,_⟩:=hg;cases l<;>cases hl
  |succ n=>
   obtain⟨v,w4,j,f⟩:=a.next d ab;obtain⟨o,w5,k,m⟩:=i w1;rw[m]at f;cases f
 .rw[e]at c;cases c
def Yp(x:Fits T fB fA F X Z)(p:Fits T fB fB F (λ_:aI=>false) Z){f:aI}{R:ag->ai->Prop}(A:∀v w i d,R v w->R v (c9 w i d))(B:T.inits.idxOf? f=none){fn:a8}{tr:Tmp}(q:fB[f]?=some fn)(r:fA[f]?=some fn)(C:fn.results=#[.tmp tr])
 (D:BD T fB fA F X Z (lQ (cf T fB) f R)) {g:ad} {w:ai} (E:ce (cf T fB) (lQ (cf T fB) f R) g w) :
 iE T fB F Z g w->∀n j w2 i d,cy (cf T fB) n g (w.re i d) j w2->kK T fB fA F X Z R j w2:=by
 induction E with
 |@done g w h=>
  intro hi n j w2 i d l;have H:lQ (cf T fB) f R g (w.re i d):=by
   obtain⟨a,b,c,e,fn,v,s,I,J⟩:=h;exact⟨a,b,c,e,fn,v,s,λm t=>I m t,A v w i d J⟩
  cases n with
  |zero=>cases l;exact BF x p B q r C H
  |succ n=>
   have hs:lP (aX (cf T fB)) g:=⟨by rw[h.2.1];simp,h.2.2.1,h.1⟩
   exact LU (hi.re i d) hs l
 |@step g w u o h k y=>
  intro hi n j w2 i d l;have hs:¬lP (aX (cf T fB)) g:=λhs=>vf (λfr w hd=>by have:=hd.1;cases this) hi hs h k;have z:∀i d,iE T fB F Z (u i d) (o i d):=λi d=>by
   obtain⟨es,e⟩:=h i d;exact(hi.re i d).step p hs e
  have later:∀n j w2 i d,cy (cf T fB) (n+1) g (w.re i d) j w2->kK T fB fA F X Z R j w2:=by
   intro n j w2 i d l;obtain⟨es,e⟩:=h i d;have s:cy (cf T fB) 1 g (w.re i d) (u i d) (o i d):=.succ (.zero _ _) e;rw[Nat.add_comm]at l;exact y i d (z i d) n j w2 (o i d).tape (o i d).drawn (l.suffix s)
  cases n with
  |zero=>
   cases l;refine BH x p D (G1:=u) (W1:=o) (λi d=>h i d) k (λi d=>?_) (λn j w2 m t hc=>later n j w2 m t hc);exact y i d (z i d) 0 _ _ (o i d).tape (o i d).drawn (.zero _ _)
  |succ n=>exact later n j w2 i d l
end
end Go.bJ
namespace Go.bJ
def Sb(W:ai)(b:Nat):Prop:=∃c t a,W.heap[b]?=some (f3 c t a)
def ox(W:ai):Ren:=λa b=>a=b/\Sb W a
structure Rep(F:aI->Bool)(W:ai)(v v':ag):Prop where
 vr:VR F (ox W) v v'
 int:∀k n,v'=f6 k n->v=v'
 str:∀s,v'=f7 s->v=v'
 sl:∀b l c,v'=f8 b l c->(b=none\/(∃a,b=some a/\Sb W a.block)\/(l=0/\c=0))->∃b',v=f8 b' l c/\(0<c->b'=b)
 fn:∀(aJ:Ren)(u:ag),(∀b,¬aJ W.heap.size b)->(∀{a b b':Nat},aJ a b->aJ a b'->b=b')->(ox W).le aJ->VR F aJ v u->u=v'\/v=f9 #[]\/∃c,v=.agg c
section
variable {F:aI->Bool}{W:ai}
def gU{v':ag}(h:XU v'=true)(hs:∀b l c,v'=f8 b l c->¬(b=none\/(∃a,b=some a/\Sb W a.block)\/(l=0/\c=0))):Rep F W (f9 #[]) v':=
 ⟨.hole v' h,(λk n e=>by subst e;cases h),(λs e=>by subst e;cases h),(λb l c e k=>absurd k (hs b l c e)),λ_ _ _ _ _ _=>fY (fP rfl)⟩
def OT(n:Nat)(c:∀v':ag,eW v'<=n->∃v,Rep F W v v'):∀l:List ag,(∀x∈l,eW x<=n)->∃a:List ag,cU F (ox W) a l:=by
 intro l
 induction l with
 |nil=>exact λ_=>⟨[],.nil⟩
 |cons x l b=>
  intro h;obtain⟨v,hv⟩:=c x (h x ar);obtain⟨a,hl⟩:=b λy hy=>h y (by simp[hy]);exact⟨v::a,.cons hv.vr hl⟩
def TQ:∀(n:Nat)(v':ag),eW v'<=n->∃v,Rep F W v v':=by
 intro n
 induction n with
 |zero=>intro v' h;cases v'<;>simp at h
 |succ n z=>
  intro v' E
  cases v' with
  |bool b=>exact⟨.bool b,.bool b,λ_ _ _=>rfl,λ_ _=>rfl,(λ_ _ _ e=>by cases e),λ_ _ _ _ _ h=>by cases h;exact fP rfl⟩
  |int k m=>exact⟨f6 k m,.int k m,λ_ _ _=>rfl,λ_ _=>rfl,(λ_ _ _ e=>by cases e),λ_ _ _ _ _ h=>by cases h;exact fP rfl⟩
  |string s=>exact⟨f7 s,.string s,λ_ _ _=>rfl,λ_ _=>rfl,(λ_ _ _ e=>by cases e),λ_ _ _ _ _ h=>by cases h;exact fP rfl⟩
  |float k b=>exact⟨_,gU rfl λ_ _ _ e=>by cases e⟩
  |complex k a b=>exact⟨_,gU rfl λ_ _ _ e=>by cases e⟩
  |pointer p=>cases p with
   |none=>exact⟨.pointer none,.dS,λ_ _ _=>rfl,λ_ _=>rfl,(λ_ _ _ e=>by cases e),λ_ _ _ _ _ h=>by cases h;exact fP rfl⟩
   |some p=>exact⟨_,gU rfl λ_ _ _ e=>by cases e⟩
  |slice b l c=>
   cases b with
   |none=>exact⟨f8 none l c,.di l c,λ_ _ _=>rfl,λ_ _=>rfl,(λ_ _ _ e _=>aS),λ_ _ _ _ _ h=>by cases h;exact fP rfl⟩
   |some a=>
    by_cases A:l=0/\c=0
    .obtain⟨rfl,rfl⟩:=A;refine⟨f8 (some ⟨W.heap.size,N1 a,none⟩) 0 0,.dK _ a,(λ_ _ e=>by cases e),(λ_ e=>by cases e),(λ_ _ _ e _=>aS),λj u o _ _ h=>?_⟩;left;generalize d:(⟨W.heap.size,N1 a,none⟩:Addr)=x at h
     cases h with
     |slice _ _ g=>subst d;exact absurd g.1 (o _)
     |dK D y=>
      grind[Addr.mk.injEq,N3]
    .by_cases q:Sb W a.block
     .refine⟨f8 (some a) l c,.slice l c ⟨⟨rfl,q⟩,rfl,rfl⟩,(λ_ _ e=>by cases e),(λ_ e=>by cases e),(λ_ _ _ e _=>aS),λj u o hf i h=>?_⟩;left
      cases h with
      |@slice _ B _ _ g=>
       obtain⟨w,H,I⟩:=g;have e:=hf w (i ⟨rfl,q⟩);obtain⟨J,L,M⟩:=a;obtain⟨N,O,P⟩:=B;grind
      |dK D y=>grind
     .refine⟨_,gU rfl λ_ _ _ e=>?_⟩;grind
  |map r=>exact⟨_,gU rfl λ_ _ _ e=>by cases e⟩
  |chan r=>exact⟨_,gU rfl λ_ _ _ e=>by cases e⟩
  |func fn f c=>
   cases fn with
   |method m=>
    refine⟨_,.wG m f c,(λ_ _ e=>by cases e),(λ_ e=>by cases e),(λ_ _ _ e=>by cases e),λj u _ _ _ h=>?_⟩;left
    cases h with
    |func h=>cases h
    |wG=>rfl
   |_=>exact⟨_,gU rfl λ_ _ _ e=>by cases e⟩
  |nilFunc=>exact⟨.nilFunc,.nilFunc,λ_ _ _=>rfl,λ_ _=>rfl,(λ_ _ _ e=>by cases e),λ_ _ _ _ _ h=>by cases h;exact fP rfl⟩
  |iface t v=>exact⟨_,gU rfl λ_ _ _ e=>by cases e⟩
  |nilIface=>exact⟨.nilIface,.nilIface,λ_ _ _=>rfl,λ_ _=>rfl,(λ_ _ _ e=>by cases e),λ_ _ _ _ _ h=>by cases h;exact fP rfl⟩
  |agg cs=>
   obtain⟨C,hl⟩:=OT n z cs.toList λx d=>by
    have w:eW x<eW cs:=Array.sizeOf_lt_of_mem (Array.mem_toList_iff.1 d);grind
   exact⟨.agg ⟨C⟩,.agg hl,(λ_ _ e=>by cases e),(λ_ e=>by cases e),(λ_ _ _ e=>by cases e),λ_ _ _ _ _ _=>fY (fY ⟨_,rfl⟩)⟩
  |tuple vs=>exact⟨_,gU rfl λ_ _ _ e=>by cases e⟩
def OU(v':ag):∃v,Rep F W v v':=TQ _ v' (dC _)
end
noncomputable def rep(F:aI->Bool)(W:ai)(v:ag):ag:=Classical.choose (OU (F:=F) (W:=W) v)
def oy(F:aI->Bool)(W:ai)(v:ag):Rep F W (rep F W v) v:=Classical.choose_spec (OU (F:=F) (W:=W) v)
noncomputable def acF(F:aI->Bool)(W:ai):Obj->Obj
 |f3 c t a=>f3 (c.map (rep F W)) t a
 |o=>o
noncomputable def cV(F:aI->Bool)(W:ai):ai:={ W with heap:=(W.heap.map (acF F W)).push (.deferred none) }
section
variable {F:aI->Bool}{K:bq->Bool}{W:ai}{G:Nat}
def mT:(cV F W).heap.size=W.heap.size+1:=by simp[cV]
def oz{b:Nat}{c:Array ag}{t:a9}{a:Nat×Nat}(h:W.heap[b]?=some (f3 c t a)):(cV F W).heap[b]?=some (f3 (c.map (rep F W)) t a):=by
 have hl:=bE h;show((W.heap.map (acF F W)).push (.deferred none))[b]?=_;rw[Array.getElem?_push_lt (by simpa using hl),<-ek (by simpa using hl),em,h];rfl
def xA{b i:Nat}{v:ag}(h:W.cell? ⟨b,i,none⟩=some v):(cV F W).cell? ⟨b,i,none⟩=some (rep F W v)/\Sb W b:=by
 unfold da at h
 cases hb:W.heap[b]? with
 |none=>simp only[hb]at h;cases h
 |some o=>
  cases o with
  |cells c t a=>
   simp only[hb]at h;have h:c[i]?=some v:=h;refine⟨?_,c,t,a,hb⟩;unfold da;simp only[oz hb];grind
  |_=>simp only[hb]at h;cases h
def Je(l:List ag):cU F (ox W) (l.map (rep F W)) l:=by
 induction l with
 |nil=>exact .nil
 |cons v l a=>exact .cons (oy F W v).vr a
def Yq(c:Array ag):VA F (ox W) (c.map (rep F W)) c:=by
 show cU _ _ _ _;rw[Array.toList_map];exact Je _
def Yr:(ox W).bw G:=⟨λh k=>h.1.symm.trans k.1,λh k=>h.1.trans k.1.symm,λh=>by rw[h.1]⟩
def wr0(b:G<=W.heap.size){w:ai}(a:w.heap=(cV F W).heap):WR G F K (ox W) w W:=by
 refine⟨by rw[a,mT];omega,b,λ{r e}h=>?_⟩;obtain⟨rfl,c,t,d,h⟩:=h;exact⟨_,_,by rw[a];exact oz h,h,.cells t d (Yq c)⟩
def LV{d:Ren}{g w0 j:ai}(q:w0.heap=(cV F W).heap)(r:∀b,b<W.heap.size->g.heap[b]?=(cV F W).heap[b]?)(s:WR G F K d g j)(w:d.bw G)(hg:sA (ox W) d w0 W g j)(z:Kept (ox W) W j) :
 ∀b,b<W.heap.size->j.heap[b]?=W.heap[b]?:=by
 intro b hb;by_cases l:Sb W b
 .obtain⟨c,t,m,h⟩:=l;have A:d b b:=hg.1 ⟨rfl,c,t,m,h⟩;obtain⟨o,J,n,B,C⟩:=s.obj A;have D:=oz (F:=F) h;rw[r b hb,D]at n;cases n;have E:∀b,¬d W.heap.size b:=λb x=>by
   rcases hg.2.1 _ _ x with⟨_,_,_,_,y⟩|⟨y,_⟩
   .grind
   .rw[q,mT]at y;omega
  cases C with
  |@cells _ L _ _ hc=>
   rw[B,h];congr 2;apply eq;intro i
   rcases VA.get? hc i with⟨f,p⟩|⟨v,u,f,p,hv⟩
   .grind
   .rw[em,Option.map_eq_some_iff]at f;obtain⟨v',f,rfl⟩:=f
    rcases(oy F W v').fn d u E (λa b=>w.fn a b) hg.1 hv with e|e
    .rw[f,p,e]
    .have H:nX g b i:=by
      refine⟨rep F W v',?_,e⟩;unfold da;grind
     obtain⟨_,k⟩:=hg.2.2 b b ⟨rfl,c,t,m,h⟩ i H;unfold da at k;grind
 .exact z.block b hb λa I=>l (by obtain⟨rfl,h⟩:=I;exact h)
end
def BI(T:a7)(F:aI->Bool)(t:a9):Bool:=match T.types[t]? with
 |some i=>(match i.zero with|some v=>pM F 12 v|none=>true)
 |none=>true
def Zof(n:Nat):a9->Bool:=λt=>decide (t<n)
def Jf{T:a7}{F:aI->Bool}{n:Nat}(c:n<=T.types.size)(h:(eX n).all (BI T F)=true)(a:((T.info? 0).all λi=>(i.methods.find? (·.name == "")).isNone)=true):dM T F (Zof n):=by
 refine⟨?_,λi hi=>by rw[hi]at a;simpa using a⟩;intro t i v d hi hv;have hl:t<n:=by simpa[Zof]using d
 have b:=List.all_eq_true.1 h t (List.mem_range.2 hl);unfold Tables.info? at hi;rw[if_pos (dv hl c)]at hi;simp only[BI,hi,hv]at b;exact uY 12 b
def mI(T:a7)(F:aI->Bool)(Z:a9->Bool)(fn:a8):Bool:=
 fn.name != "runtime.NumGoroutine" && match fn.body with|some c=>cd T F Z c|none=>false
def Jg(T:a7)(fs:Array a8)(F X:aI->Bool)(Z:a9->Bool)(n:Nat):Bool:=
 (eX n).all λf=>!F f||X f||match fs[f]? with|some fn=>mI T F Z fn|none=>false
def BJ{T:a7}{fB fA:Array a8}{F X:aI->Bool}{Z:a9->Bool}{n:Nat}(i:dM T F Z)(j:∀f,F f=true->f<n)(same:∀f,X f=false->fB[f]?=fA[f]?)
 (k:∀f,X f=true->(∃b,fB[f]?=some b/\b.body.isSome=true/\b.name≠ "runtime.NumGoroutine")/\∃a,fA[f]?=some a/\a.body.isSome=true/\a.name≠ "runtime.NumGoroutine")
 (h:Jg T fA F X Z n=true) (p:fB.size<=cn):Fits T fB fA F X Z:=by
 have key:∀f,F f=true->X f=false->∃fn c,fA[f]?=some fn/\fn.body=some c/\cd T F Z c=true/\fn.name≠ "runtime.NumGoroutine":=by
  intro f hf d;have:=List.all_eq_true.1 h f (List.mem_range.2 (j f hf));simp only[hf,d,ci,Bool.false_or]at this
  cases e:fA[f]? with
  |none=>rw[e]at this;cases this
  |some fn=>
   rw[e]at this;simp only[mI,cl,bne_iff_ne,ne_eq]at this;grind
 refine⟨i,⟨λl=>Array.getElem?_eq_none ab,λf hf=>?_⟩,λf hf d=>?_⟩
 .cases d:X f with
  |true=>exact k f d
  |false=>
   grind
 .obtain⟨fn,c,g,m,o,_⟩:=key f hf d;exact⟨fn,c,(same f d).trans g,g,m,o⟩
end Go.bJ
namespace Go.Proofs
open Go.bJ
private def dat(l:List Nat):Array Edge:=(l.map λi=>{ on:=i,ground:=Ground.data }).toArray
private def opr(dst:Option Nat)(op:Op)(after:List Nat:=[])(type:a9:=0):bv:={ dst,op,type,pos:= "b",after:=dat after,guard:=none }
def FF:aI->Bool:=λf=>decide (f<146) && !([2,54,55,56,57,58,59,82,83,85,86,89,90,93,113,115,0,1,76,77,78,79,80,81,84,87,88,91,92,94,95,108,109,110,111,112,114,116,119,120,121,122,123,124,125,130,131,132,133,134,135,136,137,138,139,140,141,142,143,144,145].contains f)
def XX:aI->Bool:=λf=>f==29
def NN:aI->Bool:=λ_=>false
noncomputable def ZZ:a9->Bool:=Zof Tryz.progTables.types.size
def zeros:(eX Tryz.progTables.types.size).all (BI e7 FF)=true:=ae
def Jh:dM e7 FF ZZ:=Jf (dC _) zeros ae
def acG:Jg e7 Tryz.funcs FF XX ZZ 146=true:=ae
end Go.Proofs
namespace Go.bJ
open Go.Conc Go.ConcM
open Go.ConcN (sumTo upd sumTo_upd upd_ne upd_same)
section
variable {P:aa}{Shun:Loc->Prop}
def Dq(Q:Nat->ad->ai->Array bi->Prop)(C:Nat) :
 ∀(M:Nat)(gs:Array ad)(a:ad)(w:ai)(sl:Option (Nat×Nat))(t:bm)(q:Nat->Nat)(B:Nat),sumTo gs.size q<=M->gs[0]?=some a->a.status=fO->dT P t gs q->d8 Shun B t->(∀op∈t,gs.size<=op.g->op.act.touch? = none)->B<=C->
  (∀d,∃a' w' es,stepG P true a (w.at d)=eT a' w' es/\Q d a' w' es/\∀e∈es,EvL Shun C e)->
  ∃(N d:Nat)(l:Array ad)(a':ad)(w':ai)(es:Array bi)(o:Option (Nat×Nat))(p:bm)(D:Nat->Nat),
   runNT P N (crowd gs w sl) t=(.next (crowd l w' o),p)/\l.size=gs.size/\l[0]?=some a'/\stepG P true a (w.at d)=eT a' w' es/\Q d a' w' es/\dT P p l D/\d8 Shun C p/\(∀op∈p,l.size<=op.g->op.act.touch? = none):=by
 intro M
 induction M using Nat.strongRecOn with
 |ind M W=>
  intro gs a w sl t q B hM L O r R S T U;have X:∀g∈gs,awake g:=by
   intro g hg;obtain⟨i,hi,rfl⟩:=Array.mem_iff_getElem.1 hg
   rcases du i with rfl|E
   .grind[ek,d9]
   .exact d9 ((r.old i _ E (ek hi)).status.elim fP λx=>fY (fY x))
  obtain⟨i,g,d,o,hi,hg,V⟩:=crowd_pick (P:=P) (w:=w) (sl:=sl) X ⟨0,a,L,O⟩
  rcases du i with rfl|E
  .obtain rfl:g=a:=aS;obtain⟨a',w',es,c,Y,Z⟩:=U d;have F:=ea (P:=P) (sl:=o) (i:=0) hi (show stepG P (0==0) g (w.at d)=_ from c);have s:((gs.map (woken P g a' w')).setIfInBounds 0 a').size=gs.size:=ar;have v:0<gs.size:=(Array.getElem?_eq_some_iff.1 L).1
   refine⟨1,d,(gs.map (woken P g a' w')).setIfInBounds 0 a',a',w',es,o,t++eD 0 g.frame.fn g.frame.place es,q,by simp only[runNT,V,F],s,by simp[v],c,Y,
    ⟨λj x f m=>?_,λj f=>?_⟩,(R.mono T).own Z,λop b=>?_⟩
   .have bu:0≠j:=ab;rw[el bu,em]at m;obtain⟨y,hy,rfl⟩:=Option.map_eq_some_iff.1 m;have n:=r.old j y f hy;rw[eb n,ec t ab _ (λop b=>by obtain⟨e,_,rfl⟩:=ed b;rfl)];exact n
   .rw[ec t (g':=0) (by simp at f;omega) _ (λop b=>by obtain⟨e,_,rfl⟩:=ed b;rfl)];exact r.above j (by simpa using f)
   .rw[s]
    rcases Array.mem_append.1 b with h|h
    .exact S op h
    .obtain⟨e,_,rfl⟩:=ed h;grind
  .have n:=r.old i g E hi;have Yl:(i==0)=false:=by simp;omega
   have v:i<gs.size:=(Array.getElem?_eq_some_iff.1 hi).1
   cases H:q i with
   |zero=>rw[H]at n;rw[n.1]at hg;cases hg
   |succ k=>
    rw[H]at n
    rcases n with⟨hf,_⟩|⟨_,z,es,hm,Gz,Ym⟩
    .rw[hf]at hg;cases hg
    have F:=ea (P:=P) (sl:=o) (i:=i) hi (by rw[Yl];exact Gz (w.at d));have s:((gs.map (woken P g z (w.at d))).setIfInBounds i z).size=gs.size:=ar;have LO:sumTo gs.size (upd q i k)+(k+1)=sumTo gs.size q+k:=by
     have:=sumTo_upd q k id v;simpa[H]using this
    obtain⟨N,d2,l,I,SY,tJ,Yn,p,D,hr,fR,TK,c,hS,J,K⟩:=W (sumTo gs.size (upd q i k)) ab ((gs.map (woken P g z (w.at d))).setIfInBounds i z) a (w.at d) o (t++eD i g.frame.fn g.frame.place es) (upd q i k) B (by rw[s];omega)
     (by
       grind [el,woken_run]) O
     ⟨λj x f m=>by
       by_cases A:i=j
       .subst A;rw[ep (by simpa using v)]at m;obtain rfl:=Option.some.inj m;rw[upd_same,Deaf_own];exact Ym
       .rw[el A,em]at m;obtain⟨y,hy,rfl⟩:=Option.map_eq_some_iff.1 m;have u:=r.old j y f hy;rw[eb u,upd_ne q k (Ne.symm A),ec t A _ (λop b=>by obtain⟨e,_,rfl⟩:=ed b;rfl)];exact u,λj f=>by
       rw[ec t (g':=i) (by simp at f;omega) _ (λop b=>by obtain⟨e,_,rfl⟩:=ed b;rfl)]
       exact r.above j (by simpa using f)⟩
     (R.mute ab hm) (λop b=>by
      rw[s]
      rcases Array.mem_append.1 b with h|h
      .exact S op h
      .obtain⟨e,_,rfl⟩:=ed h;grind) T (λd2=>U d2)
    exact⟨N+1,d2,l,I,SY,tJ,Yn,p,D,by simp only[runNT,V,F];exact hr,fR.trans s,TK,c,hS,J,K⟩
inductive jF(P:aa)(Shun:Loc->Prop)(Q:Nat->ad->ai->Prop):Nat->ad->ai->Prop
 |done {B:Nat} {g:ad} {w:ai}:Q B g w->jF P Shun Q B g w
 |step {B:Nat} {g:ad} {w:ai} (B':Nat) (G1:Nat->ad) (W1:Nat->ai):g.status=fO->B<=B'->(∀d,∃es,stepG P true g (w.at d)=eT (G1 d) (W1 d) es/\∀e∈es,EvL Shun B' e)->(∀d,jF P Shun Q B' (G1 d) (W1 d))->jF P Shun Q B g w
def jF.one{Q:Nat->ad->ai->Prop}{B:Nat}{g:ad}{w:ai}(a:Nat)(b:g.status=fO)(c:B<=a)(h:∀d,∃g' w' es,stepG P true g (w.at d)=eT g' w' es/\(∀e∈es,EvL Shun a e)/\jF P Shun Q a g' w'):jF P Shun Q B g w:=
 .step a (λd=>(h d).choose) (λd=>(h d).choose_spec.choose) b c (λd=>⟨_,(h d).choose_spec.choose_spec.choose_spec.1,(h d).choose_spec.choose_spec.choose_spec.2.1⟩) (λd=>(h d).choose_spec.choose_spec.choose_spec.2.2)
def jF.run{Q:Nat->ad->ai->Prop}{B:Nat}{g:ad}{w:ai}(h:jF P Shun Q B g w):∀(gs:Array ad)(sl:Option (Nat×Nat))(t:bm)(q:Nat->Nat),gs[0]?=some g->dT P t gs q->d8 Shun B t->(∀op∈t,gs.size<=op.g->op.act.touch? = none)->
 ∃(N i:Nat)(f:Array ad)(j:ad)(w1:ai)(k:Option (Nat×Nat))(t1:bm)(q1:Nat->Nat),runNT P N (crowd gs w sl) t=(.next (crowd f w1 k),t1)/\f.size=gs.size/\f[0]?=some j/\dT P t1 f q1/\d8 Shun i t1/\(∀op∈t1,f.size<=op.g->op.act.touch? = none)/\Q i j w1:=by
 induction h with
 |@done B g w s=>exact λgs sl t q l m n o=>⟨0,B,gs,g,w,sl,t,q,rfl,rfl,l,m,n,o,s⟩
 |@step B g w p V W u v hs _ x=>
  intro gs sl t q l m n o
  obtain⟨N,d,y,r,w',es,z,A,C,D,E,F,X,H,I,J,K⟩:=Dq (P:=P) (Shun:=Shun) (λd r w' es=>∀(gs:Array ad)(sl:Option (Nat×Nat))(t:bm)(q:Nat->Nat),gs[0]?=some r->dT P t gs q->d8 Shun p t->(∀op∈t,gs.size<=op.g->op.act.touch? = none)->
   ∃(N i:Nat)(f:Array ad)(j:ad)(w1:ai)(k:Option (Nat×Nat))(t1:bm)(q1:Nat->Nat),runNT P N (crowd gs w' sl) t=(.next (crowd f w1 k),t1)/\f.size=gs.size/\f[0]?=some j/\dT P t1 f q1/\d8 Shun i t1/\(∀op∈t1,f.size<=op.g->op.act.touch? = none)/\Q i j w1) p (sumTo gs.size q) gs g w sl t q B (dC _) l u m n o v (λd=>by
   obtain⟨es,L,M⟩:=hs d
   exact⟨_,_,es,L,λgs sl t q a b c e=>x d gs sl t q a b c e,M⟩)
  obtain⟨O,i,f,j,w1,k,t1,q1,k1,k2,k3,R,S,T,U⟩:=H y z A C F I J K;exact⟨N+O,i,f,j,w1,k,t1,q1,eV D k1,k2.trans E,k3,R,S,T,U⟩
end
end Go.bJ
namespace Go.bJ
inductive Mf:Obj->Obj->Prop
 |cells {c c':Array ag} (t:a9) (fz:Nat×Nat) (h:c.size=c'.size):Mf (f3 c t fz) (f3 c' t fz)
 |loop (l l':Loop):Mf (f5 l) (f5 l')
 |acn (l:Loop) (o':Obj) (h:∀c t fz,o'≠f3 c t fz):Mf (f5 l) o'
inductive DH:Obj->Obj->Prop
 |cells (c:Array ag) (t:a9) (fz fz':Nat×Nat):DH (f3 c t fz) (f3 c t fz')
 |loop (l:Loop):DH (f5 l) (f5 l)
 |same (o:Obj):DH o o
def DH.trans{a b c:Obj}(h:DH a b)(k:DH b c):DH a c:=by
 cases h with
 |cells=>
  cases k with
  |cells=>exact .cells _ _ _ _
  |same=>exact .cells _ _ _ _
 |loop=>exact k
 |same=>exact k
def Mf.up{o o':Obj}(h:Mf o o'):DH o' o':=by
 cases h with
 |cells t a _=>exact .cells _ _ _ _
 |loop=>exact .loop _
 |acn=>exact .same _
structure WC(Bs G:Nat)(F:aI->Bool)(K:bq->Bool)(ρ:Ren)(w w':ai):Prop where
 pK:G<=w.heap.size
 gN:G<=w'.heap.size
 base:Bs<=w.heap.size
 obj:∀{r r':Nat},ρ r r'->Bs<=r->∃o o',w.heap[r]?=some o/\w'.heap[r']?=some o'/\OR F K ρ o o'
 low:∀{r r':Nat},ρ r r'->r<Bs->∃o o',w.heap[r]?=some o/\w'.heap[r']?=some o'/\Mf o o'
section
variable {Bs G:Nat}{F:aI->Bool}{K:bq->Bool}{ρ σ:Ren}{w w':ai}
def WC.lt(h:WC Bs G F K ρ w w'){r a:Nat}(x:ρ r a):r<w.heap.size/\a<w'.heap.size:=by
 rcases dL r Bs with hb|hb
 .obtain⟨o,b,c,d,_⟩:=h.low x hb;grind
 .obtain⟨o,b,c,d,_⟩:=h.obj x hb;grind
def WC.fresh(h:WC Bs G F K ρ w w'):(∀b,¬ρ w.heap.size b)/\(∀a,¬ρ a w'.heap.size):=
 ⟨λ_ x=>absurd (h.lt x).1 (dO _),λ_ x=>absurd (h.lt x).2 (dO _)⟩
def WC.push(h:WC Bs G F K ρ w w'){o o':Obj}(x:OR F K (ρ.ext w.heap.size w'.heap.size) o o') :
 WC Bs G F K (ρ.ext w.heap.size w'.heap.size) { w with heap:=w.heap.push o } { w' with heap:=w'.heap.push o' }:=by
 have c:∀{d:Type}{a:Array d}{i:Nat}{v u:d},a[i]?=some v->(a.push u)[i]?=some v:=λ{d a i v u}e=>by
  grind
 refine⟨by have:=h.pK;simp;omega,by have:=h.gN;simp;omega,by have:=h.base;simp;omega,λ{r k}b hb=>?_,λ{r k}b hb=>?_⟩
 .rcases b with b|⟨rfl,rfl⟩
  .obtain⟨p,l,f,g,j⟩:=h.obj b hb;exact⟨p,l,c f,c g,j.mono (eN _ _ _)⟩
  grind
 .rcases b with b|⟨rfl,rfl⟩
  .obtain⟨o,o',f,g,j⟩:=h.low b hb;grind
  .have:=h.base;omega
def WC.put(h:WC Bs G F K ρ w w')(d:ρ.bw G){r a:Nat}(b:ρ r a)(hb:Bs<=r){o o':Obj}(x:OR F K ρ o o') :
 WC Bs G F K ρ { w with heap:=w.heap.setIfInBounds r o } { w' with heap:=w'.heap.setIfInBounds a o' }:=by
 obtain⟨m,n⟩:=h.lt b;refine⟨by simpa using h.pK,by simpa using h.gN,by simpa using h.base,λ{s f}hs g=>?_,λ{s f}hs g=>?_⟩
 .by_cases e:r=s
  .subst e;obtain rfl:=d.fn b hs;grind
  .have i:a≠f:=λy=>e (d.inj b (y▸hs));obtain⟨p,q,j,k,l⟩:=h.obj hs g;grind
 .have e:r≠s:=ab;have i:a≠f:=λy=>e (d.inj b (y▸hs));obtain⟨c,t,j,k,l⟩:=h.low hs g;grind
def WC.YO(h:WC Bs G F K ρ w w')(d:ρ.bw G){r a:Nat}(b:ρ r a)(hb:r<Bs){c c':Array ag}{t:a9}{f:Nat×Nat}(x:c.size=c'.size) :
 WC Bs G F K ρ { w with heap:=w.heap.setIfInBounds r (f3 c t f) } { w' with heap:=w'.heap.setIfInBounds a (f3 c' t f) }:=by
 obtain⟨j,k⟩:=h.lt b;refine⟨by simpa using h.pK,by simpa using h.gN,by simpa using h.base,λ{s g}hs i=>?_,λ{s g}hs i=>?_⟩
 .have e:r≠s:=ab;have l:a≠g:=λy=>e (d.inj b (y▸hs));obtain⟨p,m,n,o,q⟩:=h.obj hs i;grind
 .by_cases e:r=s
  .subst e;obtain rfl:=d.fn b hs;exact⟨_,_,by simp[j],by simp[k],.cells t f x⟩
  .have l:a≠g:=λy=>e (d.inj b (y▸hs));obtain⟨p,m,n,o,q⟩:=h.low hs i;grind
structure cI(Bs G:Nat)(F:aI->Bool)(K:bq->Bool)(ρ:Ren)(w w':ai)(aJ:Ren)(w1 aP:ai)(new:Array bi):Prop where
 le:ρ.le aJ
 inj:aJ.bw G
 wr:WC Bs G F K aJ w1 aP
 tape:w1.tape=aP.tape
 drawn:w1.drawn=aP.drawn
 wH:aP.tape=w'.tape
 XV:aP.os=w'.os
 mK:aP.output=w'.output
 size:w.heap.size<=w1.heap.size
 fV:w'.heap.size<=aP.heap.size
 frame:∀b,b<w'.heap.size->(∀a,¬ρ a b)->aP.heap[b]?=w'.heap[b]?
 N7:∀b,w'.heap.size<=b->b<aP.heap.size->∃a,aJ a b
 only:∀a b,aJ a b->ρ a b\/(w.heap.size<=a/\w'.heap.size<=b)
 ev:∀e∈new,Ls aJ e
 keep:∀a b,ρ a b->a<Bs->∃o o1,w'.heap[b]?=some o/\aP.heap[b]?=some o1/\DH o o1
def cI.refl(f:ρ.bw G)(d:WC Bs G F K ρ w w')(g:w.tape=w'.tape)(hd:w.drawn=w'.drawn):cI Bs G F K ρ w w' ρ w w' #[]:=
 ⟨eM _,f,d,g,hd,rfl,rfl,rfl,dC _,dC _,λ_ _ _=>rfl,λ_ i c=>absurd c (Nat.not_lt.2 i),λ_ _ h=>fP h,ar,λa b h hb=>by
   obtain⟨o,e,_,c,j⟩:=d.low h hb
   exact⟨e,e,c,c,j.up⟩⟩
def cI.trans{ρ g i:Ren}{w w' w1 c w2 j:ai}{e1 l:Array bi}(h:cI Bs G F K ρ w w' g w1 c e1)(k:cI Bs G F K g w1 c i w2 j l):cI Bs G F K ρ w w' i w2 j (e1++l):=by
 refine⟨eI h.le k.le,k.inj,k.wr,k.tape,k.drawn,k.wH.trans h.wH,k.XV.trans h.XV,k.mK.trans h.mK,dx h.size k.size,dx h.fV k.fV,λb hb m=>?_,λb d f=>?_,λa b x=>?_,λe q=>?_,λa b n hb=>?_⟩
 .rw[k.frame b (dv hb h.fV) (λa x=>?_),h.frame b hb m]
  rcases h.only a b x with y|⟨_,y⟩
  .exact m a y
  .omega
 .rcases dL b c.heap.size with hl|hg
  .exact(h.N7 b d hl).imp λ_ x=>k.le x
  .exact k.N7 b hg f
 .rcases k.only a b x with y|⟨y1,y2⟩
  .exact h.only a b y
  .exact fY ⟨dx h.size y1,dx h.fV y2⟩
 .rcases Array.mem_append.1 q with x|x
  .exact(h.ev e x).mono k.le
  .exact k.ev e x
 .obtain⟨o,v,d,f,r⟩:=h.keep a b n hb;obtain⟨z,s,p,t,u⟩:=k.keep a b (h.le n) hb;rw[f]at p;cases p;exact⟨o,s,d,t,r.trans u⟩
def cI.less{a:Ren}{w1 b:ai}{es c:Array bi}(h:cI Bs G F K ρ w w' a w1 b es)(k:∀e∈c,e∈es):cI Bs G F K ρ w w' a w1 b c:=
 { h with ev:=λe d=>h.ev e (k e d) }
def BO(b:ρ.bw G)(c:WC Bs G F K ρ w w')(d:w.tape=w'.tape)(hd:w.drawn=w'.drawn){e:bi}(f:Ls ρ e):cI Bs G F K ρ w w' ρ w w' #[e]:=
 { cI.refl b c d hd with ev:=λx a=>by simp at a;rw[a];exact f }
def uv(c:ρ.bw G)(g:WC Bs G F K ρ w w')(j:w.tape=w'.tape)(hd:w.drawn=w'.drawn){r d:Nat}(i:ρ r d)(hb:Bs<=r){o o':Obj}(k:OR F K ρ o o'){new:Array bi}(l:∀e∈new,Ls ρ e) :
 cI Bs G F K ρ w w' ρ { w with heap:=w.heap.setIfInBounds r o } { w' with heap:=w'.heap.setIfInBounds d o' } new:=
 ⟨eM _,c,g.put c i hb k,j,hd,rfl,rfl,rfl,ar,ar,λb _ p=>by
   grind,
   λb q f=>by simp at f;omega,λ_ _ h=>fP h,l,λa b h m=>by
    obtain⟨o,o',_,f,n⟩:=g.low h m;have:d≠b:=λe=>by
     have:=c.inj i (e▸h);omega
    exact⟨o',o',f,aS,n.up⟩⟩
def BP(i:ρ.bw G)(g:WC Bs G F K ρ w w')(m:w.tape=w'.tape)(hd:w.drawn=w'.drawn){r f:Nat}(j:ρ r f)(hb:r<Bs){c c':Array ag}{t:a9}{k fz':Nat×Nat}(d:w'.heap[f]?=some (f3 c' t k))(x:c.size=c'.size) :
 cI Bs G F K ρ w w' ρ { w with heap:=w.heap.setIfInBounds r (f3 c t fz') } { w' with heap:=w'.heap.setIfInBounds f (f3 c' t fz') } #[]:=
 ⟨eM _,i,g.YO i j hb x,m,hd,rfl,rfl,rfl,ar,ar,λb _ q=>by
   grind,
   λb s d=>by simp at d;omega,λ_ _ h=>fP h,ar,λa b h n=>by
    by_cases e:f=b
    .subst e;exact⟨_,_,d,by simp[(g.lt j).2],.cells c' t k fz'⟩
    .obtain⟨o,l,_,d,p⟩:=g.low h n
     exact⟨l,l,d,aS,p.up⟩⟩
def Mg(f:ρ.bw G)(c:WC Bs G F K ρ w w')(g:w.tape=w'.tape)(hd:w.drawn=w'.drawn){o o':Obj}(i:OR F K ρ o o') :
 cI Bs G F K ρ w w' (ρ.ext w.heap.size w'.heap.size) { w with heap:=w.heap.push o } { w' with heap:=w'.heap.push o' } #[]:=
 ⟨eN _ _ _,f.ext c.fresh.1 c.fresh.2 c.pK c.gN,c.push (i.mono (eN _ _ _)),g,hd,rfl,rfl,rfl,ar,ar,λb hb _=>by
   grind,
   λb k d=>⟨w.heap.size,fY ⟨rfl,by simp at d;omega⟩⟩,λa b h=>by
    rcases h with h|⟨rfl,rfl⟩
    .exact fP h
    grind,ar,λa b h hb=>by
    obtain⟨p,e,_,d,j⟩:=c.low h hb;have l:=bE d
    exact⟨e,e,d,by
     grind,j.up⟩⟩
def pV(b:WC Bs G F K ρ w w'){r a:Nat}(c:ρ r a):(Bs<=r/\∃o o',w.heap[r]?=some o/\w'.heap[a]?=some o'/\OR F K ρ o o')\/(r<Bs/\∃o o',w.heap[r]?=some o/\w'.heap[a]?=some o'/\Mf o o'):=by
 rcases dL r Bs with hb|hb
 .exact fY ⟨hb,b.low c hb⟩
 .exact fP ⟨hb,b.obj c hb⟩
def vi(g:WC Bs G F K ρ w w'){a a':Addr}(b:AR ρ a a'):w.frozen? a=w'.frozen? a':=by
 rcases pV g b.1 with⟨_,o,c,d,e,f⟩|⟨_,o,c,d,e,f⟩
 .cases f<;>simp[db,d,e,b.2.1]
 .cases f with
  |acn l c h=>cases c<;>simp_all [db]
  |_=>simp[db,d,e,b.2.1]
def GQ(f:WC Bs G F K ρ w w'){r e:Nat}(g:ρ r e):w.shape? r=w'.shape? e:=by
 rcases pV f g with⟨_,o,c,a,b,d⟩|⟨_,o,c,a,b,d⟩
 .cases d with
  |cells t h hc=>simp[dd,a,b,VA.size hc]
  |_=>simp[dd,a,b]
 .cases d with
  |cells t h hs=>simp[dd,a,b,hs]
  |loop=>simp[dd,a,b]
  |acn l c i=>cases c<;>simp_all [dd]
def BQ(Bs:Nat)(e:bi):Prop:=match e.loc with
 |f0 a=>a.block<Bs
 |f1 b=>b<Bs
 |_=>False
def oP(e:bi):Prop:=∀g,e.loc≠f2 (.extern g)
def Ak(Bs:Nat)(es c:Array bi):Prop:=∃(a:List bi)(e:bi)(b:List bi),c.toList=es.toList++a++e::b/\(∀x∈a,oP x)/\BQ Bs e/\oP e
def Ak.more{es new c:Array bi}(h:Ak Bs (es++new) c)(i:∀x∈new,oP x):Ak Bs es c:=by
 obtain⟨b,e,a,d,j,f,g⟩:=h;refine⟨new.toList++b,e,a,by rw[d];simp,λx k=>?_,f,g⟩;grind
def Mh{f:Type}{P:aa}(s:Sem f):∀(w:ai)(es:Array bi),∃rest:List bi,(s.runT P w es).2.toList=es.toList++rest:=by
 induction s with
 |pure a=>simp_all
 |halt h=>simp_all
 |load m a k b=>
  intro w es;simp only[e8];split
  .obtain⟨r,d⟩:=b _ w (es.push _);exact⟨_::r,by rw[d];simp;rfl⟩
  .split
   .obtain⟨r,d⟩:=b _ w _;exact⟨_,by rw[d,et,List.append_assoc]⟩
   .exact⟨[],ar⟩
 |store m a v k b=>
  intro w es
  have key:∀c:Array bi,∃rest:List bi,((match w.cell? a with
   |some _=>if w.frozen? a then(Result.halt (ge (.unsafePointer "a write to bytes that a string shares")) w,es) else k.runT P (w.setCell a v) (es.push ⟨f0 a,true,m == .atomic⟩)
   |none=>match w.farStore P a v (m == .atomic) with
    |.ok (w,e)=>k.runT P w (es++e.toArray.map (⟨.cell ·,true,m == .atomic⟩))
    |.error h=>(c8 h w,es)):bC _×Array bi).2.toList=es.toList++rest:=by
   intro _;split
   .split
    .exact⟨[],ar⟩
    .obtain⟨r,d⟩:=b (w.setCell a v) (es.push _);exact⟨_::r,by rw[d];simp;rfl⟩
   .split
    .rename_i w2 e _;obtain⟨r,d⟩:=b w2 (es++e.toArray.map (⟨.cell ·,true,m == .atomic⟩));grind
    .exact⟨[],ar⟩
  cases v<;>first|exact key #[]|exact⟨[],by simp[e8]⟩
 |new o k b=>intro w es;simp only[e8];exact b _ _ _
 |shape r k b=>intro w es;simp only[e8];exact b _ _ _
 |freeze a n k b=>intro w es;simp only[e8];exact b _ _
 |frozen a k b=>intro w es;simp only[e8];exact b _ _ _
 |getObj r k b=>
  intro w es;simp only[e8];split
  .exact⟨[],ar⟩
  .obtain⟨r,d⟩:=b _ w (es.push _);exact⟨_::r,by rw[d];simp;rfl⟩
  .exact⟨[],ar⟩
 |setObj r o k b=>
  intro w es;simp only[e8];split
  .exact⟨[],ar⟩
  .obtain⟨r,d⟩:=b _ (es.push _);exact⟨_::r,by rw[d];simp;rfl⟩
  .exact⟨[],ar⟩
 |choose q k b=>
  intro w es;simp only[e8];split
  .exact b _ _ _
  .exact b _ _ _
 |sys c k b=>
  intro w es;simp only[e8];obtain⟨r,d⟩:=b (w.sys c).1 (w.sys c).2 (es.push _);exact⟨_::r,by rw[d];simp;rfl⟩
 |program k b=>intro w es;simp only[e8];exact b _ _ _
 |mark m k b=>
  intro w es;simp only[e8];obtain⟨r,d⟩:=b w (es.push _);exact⟨_::r,by rw[d];simp;rfl⟩
def mW{a:Type}{P:aa}(s:Sem a)(w:ai)(es:Array bi){e:bi}(h:BQ Bs e)(b:oP e):Ak Bs es (s.runT P w (es.push e)).2:=by
 obtain⟨r,c⟩:=Mh (P:=P) s w (es.push e);exact⟨[],e,r,by rw[c];simp,ar,h,b⟩
end
inductive NL(ρ:Ren):bi->bi->Prop
 |cell {a a':Addr} (h:AR ρ a a') (wr:Bool):NL ρ ⟨f0 a,wr,false⟩ ⟨f0 a',wr,false⟩
 |obj {r r':Nat} (h:ρ r r') (wr:Bool):NL ρ ⟨f1 r,wr,false⟩ ⟨f1 r',wr,false⟩
 |mark (m:Mark) (h:lE m):NL ρ ⟨f2 m,false,true⟩ ⟨f2 m,false,true⟩
inductive fK(ρ:Ren):List bi->List bi->Prop
 |nil:fK ρ [] []
 |cons {e e':bi} {l l':List bi} (h:NL ρ e e') (t:fK ρ l l'):fK ρ (e::l) (e'::l')
def NL.mono{ρ b:Ren}(h:ρ.le b){e e':bi}(x:NL ρ e e'):NL b e e':=by
 cases x with
 |cell a w=>exact .cell (a.mono h) w
 |obj a w=>exact .obj (h a) w
 |mark m k=>exact .mark m k
def fK.mono{ρ b:Ren}(h:ρ.le b){l l':List bi}(x:fK ρ l l'):fK b l l':=by
 induction x with
 |nil=>exact .nil
 |cons a _ c=>exact .cons (a.mono h) c
theorem fK.append{ρ:Ren}{l l' m m':List bi}(x:fK ρ l l')(y:fK ρ m m'):fK ρ (l++m) (l'++m'):=by
 induction x with
 |nil=>exact y
 |cons a _ b=>exact .cons a b
def fK.one{ρ:Ren}{e e':bi}(x:NL ρ e e'):fK ρ [e] [e']:=.cons x .nil
def fK.mem{ρ:Ren}{l l':List bi}(x:fK ρ l l'){e':bi}(h:e'∈l'):∃e,e∈l/\NL ρ e e':=by
 induction x with
 |nil=>cases h
 |cons a _ b=>
  grind
def NL.oP{ρ:Ren}{e e':bi}(x:NL ρ e e'):oP e:=by
 cases x with
 |cell a w=>intro g h;cases h
 |obj a w=>intro g h;cases h
 |mark m k=>intro g h;have k:m=.noRoom:=k;subst k;cases h
def fK.oP{ρ:Ren}{l l':List bi}(x:fK ρ l l'):∀e∈l,bJ.oP e:=by
 induction x with
 |nil=>intro e h;cases h
 |cons a _ b=>
  intro e h
  rcases List.mem_cons.1 h with rfl|h
  .exact a.oP
  .exact b e h
section
variable (Bs G:Nat)(F:aI->Bool)(K:bq->Bool)
def Mi{f g:Type}(RA:Ren->f->g->Prop)(ρ:Ren)(w w':ai)(es h:Array bi)(i:bC g×Array bi):bC f×Array bi->Prop
 |(cQ a w1,e)=>∃c j d b new,e=es++b/\i=(cQ j d,h++new)/\cI Bs G F K ρ w w' c w1 d new/\fK c b.toList new.toList/\RA c a j
 |(c8 (gf v) w1,e)=>∃c v' d b new,e=es++b/\i=(c8 (gf v') d,h++new)/\cI Bs G F K ρ w w' c w1 d new/\fK c b.toList new.toList/\VR F c v v'
 |(c8 (gg _) _,_)=>True
 |(c8 (ge u) _,_)=>dw u=true
 |(c8 _ _,_)=>False
def jo{a b:Type}(RA:Ren->a->b->Prop)(ρ:Ren)(w w':ai)(es c:Array bi)(d:bC b×Array bi)(r:bC a×Array bi):Prop:=Mi Bs G F K RA ρ w w' es c d r\/Ak Bs es r.2
end
section
variable {T:a7}{fB fA:Array a8}{Bs G:Nat}{F:aI->Bool}{K:bq->Bool}
def Mi.step{j l:Type}{RA:Ren->j->l->Prop}{ρ b:Ren}{w w' w1 m:ai}{es n newL new:Array bi}{o:bC l×Array bi}{r:bC j×Array bi}
 (hs:cI Bs G F K ρ w w' b w1 m new) (p:fK b newL.toList new.toList) (h:Mi Bs G F K RA b w1 m (es++newL) (n++new) o r):Mi Bs G F K RA ρ w w' es n o r:=by
 match r,h with
 |(cQ a w2,q),⟨c,s,d,f,g,e1,e,k,i,t⟩=>exact⟨c,s,d,newL++f,new++g,by rw[e1,eu],by rw[e,eu],hs.trans k,by rw[et,et];exact(p.mono k.le).append i,t⟩
 |(c8 (gf v) w2,q),⟨c,v',d,f,g,e1,e,k,i,hv⟩=>exact⟨c,v',d,newL++f,new++g,by rw[e1,eu],by rw[e,eu],hs.trans k,by rw[et,et];exact(p.mono k.le).append i,hv⟩
 |(c8 .blocked _,_),h=>exact h
 |(c8 .waiting _,_),h=>exact h
 |(c8 (.exit _) _,_),h=>exact h
 |(c8 (.fatal _) _,_),h=>exact h
 |(c8 (.throw _) _,_),h=>exact h
 |(c8 .goexit _,_),h=>exact h
 |(c8 (ge _) _,_),h=>exact h
 |(c8 (gg _) _,_),_=>trivial
def jo.step{b c:Type}{RA:Ren->b->c->Prop}{ρ a:Ren}{w w' w1 d:ai}{es e newL new:Array bi}{f:bC c×Array bi}{r:bC b×Array bi}
 (hs:cI Bs G F K ρ w w' a w1 d new) (g:fK a newL.toList new.toList) (h:jo Bs G F K RA a w1 d (es++newL) (e++new) f r):jo Bs G F K RA ρ w w' es e f r:=
 h.imp (Mi.step hs g) λh=>h.more λx i=>g.oP x (Array.mem_toList_iff.2 i)
def jo.quiet{a b:Type}{RA:Ren->a->b->Prop}{ρ c:Ren}{w w' w1 d:ai}{es e:Array bi}{f:bC b×Array bi}{r:bC a×Array bi}
 (hs:cI Bs G F K ρ w w' c w1 d #[]) (h:jo Bs G F K RA c w1 d es e f r):jo Bs G F K RA ρ w w' es e f r:=
 jo.step (newL:=#[]) hs .nil (by simpa using h)
def jo.one{b c:Type}{RA:Ren->b->c->Prop}{ρ a:Ren}{w w' w1 d:ai}{es f:Array bi}{e e':bi}{g:bC c×Array bi}{r:bC b×Array bi}
 (hs:cI Bs G F K ρ w w' a w1 d #[e']) (i:NL a e e') (h:jo Bs G F K RA a w1 d (es.push e) (f.push e') g r):jo Bs G F K RA ρ w w' es f g r:=
 jo.step (newL:=#[e]) hs (.one i) (by simpa using h)
def Al{ρ:Ren}{w w':ai}(l:WC Bs G F K ρ w w'){a a':Addr}(h:AR ρ a a') :
 (w.cell? a=none/\(∃s:String,∀m,w.farLoad ⟨T,fB⟩ a m=.error (gg s))/\∀v,∃s:String,w.farStore ⟨T,fB⟩ a v false=.error (gg s))\/
 (Bs<=a.block/\∃v v' c c' t g,w.cell? a=some v/\w'.cell? a'=some v'/\VR F ρ v v'/\a.spot=none/\w.heap[a.block]?=some (f3 c t g)/\w'.heap[a'.block]?=some (f3 c' t g)/\VA F ρ c c')\/
 (a.block<Bs/\∃v,w.cell? a=some v):=by
 rcases pV l h.1 with⟨hb,o,n,b,i,d⟩|⟨hb,o,n,b,i,d⟩
 .have f:w.cell? a=none->(∃s:String,∀m,w.farLoad ⟨T,fB⟩ a m=.error (gg s))/\∀v,∃s:String,w.farStore ⟨T,fB⟩ a v false=.error (gg s):=by
   intro _;refine⟨?_,λv=>⟨ "store: no such cell",?_⟩⟩
   .cases d<;>exact⟨ "load: no such cell",λm=>by simp only[df,b,dk]⟩
   .have hf:w.farStore ⟨T,fB⟩ a v false=.error (w.noCell a "store: no such cell"):=by
     cases d<;>simp[dp,b]
    rw[hf,mM b d]
  cases d with
  |@cells c c' t g hc=>
   by_cases hs:a.spot=none
   .rcases VA.get? hc a.off with⟨j,k⟩|⟨v,v',j,k,hv⟩
    .left;have e:w.cell? a=none:=by simp[da,b,hs,j]
     exact⟨e,f e⟩
    .right;left;refine⟨hb,v,v',c,c',t,g,by simp[da,b,hs,j],?_,hv,hs,b,i,hc⟩;have p:a'.spot=none:=by rw[<-h.2.2];exact hs
     simp[da,i,p,<-h.2.1,k]
   .left;have e:w.cell? a=none:=by simp[da,b,Option.isSome_iff_ne_none.2 hs]
    exact⟨e,f e⟩
  |_=>
   left;have e:w.cell? a=none:=by simp[da,b]
   exact⟨e,f e⟩
 .cases e:w.cell? a with
  |some v=>grind
  |none=>
   left;refine⟨rfl,⟨ "load: no such cell",λm=>by cases d<;>simp only[df,b,dk]⟩,λv=>⟨ "store: no such cell",?_⟩⟩;have hf:w.farStore ⟨T,fB⟩ a v false=.error (w.noCell a "store: no such cell"):=by cases d<;>simp[dp,b]
   rw[hf];cases d<;>simp only[dk,b]
def bW.runT{b:Type}{s:Sem b}(h:bW T fB s):∀(w:ai)(es:Array bi),∃x c,Lr x/\s.runT ⟨T,fB⟩ w es=(c8 x w,c):=by
 induction s with
 |halt x=>exact λw es=>⟨x,es,h,rfl⟩
 |program k a=>exact λw es=>a _ h w es
 |shape r k a=>exact λw es=>a (w.shape? r) (h _) w es
 |frozen r k a=>exact λw es=>a (w.frozen? r) (h _) w es
 |mark m k a=>exact λw es=>a h.2 w _
 |_=>exact h.elim
def bW.GU{a b:Type}{RA:Ren->a->b->Prop}{ρ:Ren}{w w':ai}{es d:Array bi}{f:bC b×Array bi}{s:Sem a}(h:bW T fB s):jo Bs G F K RA ρ w w' es d f (s.runT ⟨T,fB⟩ w es):=by
 obtain⟨x,g,c,e⟩:=h.runT w es;rw[e];left
 cases x with
 |stuck _=>trivial
 |unsupported u=>exact c
 |_=>exact c.elim
def av.GU{Z cm:Type}{RA:Ren->Z->cm->Prop}{s:Sem Z}:∀{ρ:Ren}{s':Sem cm}{w w':ai}(es j:Array bi),av T fB fA F K RA ρ s s'->ρ.bw T.globals.size->WC Bs T.globals.size F K ρ w w'->w.tape=w'.tape->w.drawn=w'.drawn->
 jo Bs T.globals.size F K RA ρ w w' es j (s'.runT ⟨T,fA⟩ w' j) (s.runT ⟨T,fB⟩ w es):=by
 induction s with
 |pure a=>
  rintro ρ s' w w' es j⟨D,rfl,h⟩f b d hd;exact fP ⟨ρ,D,w',#[],#[],ar,by simp[e8],cI.refl f b d hd,.nil,h⟩
 |halt h=>
  intro ρ s' w w' es j hs f b d hd;cases h<;>first|exact fP hs|exact fP trivial|(obtain⟨v',rfl,hv⟩:=hs;exact fP ⟨ρ,v',w',#[],#[],ar,by simp[e8],cI.refl f b d hd,.nil,hv⟩)
 |load m a k x=>
  rintro ρ s' w w' es j⟨m',D,k',rfl,rfl,rfl,B,y⟩f b d hd
  rcases Al (T:=T) (fB:=fB) b B with⟨E,⟨s,L⟩,_⟩|⟨hb,v,v',c,c',t,z,E,L,hv,_⟩|⟨hb,v,E⟩
  .simp only[e8,E,L];exact fP trivial
  .simp only[e8,E,L];exact jo.one (e:=⟨f0 a,false,false⟩) (e':=⟨f0 D,false,false⟩) (BO f b d hd ⟨rfl,_,B.1⟩) (.cell B false) (x v _ _ (y v v' hv) f b d hd)
  .simp only[e8,E];exact fY (mW (k v) w es (e:=⟨f0 a,false,false⟩) hb (λg h=>by cases h))
 |store m a v k x=>
  rintro ρ s' w w' es j⟨m',D,v',k',rfl,rfl,rfl,B,hv,y⟩f b d hd;have key:(∀c,v≠.agg c)->(∀c,v≠f9 c)->(∀c,v'≠.agg c)->(∀c,v'≠f9 c)->
   jo Bs T.globals.size F K RA ρ w w' es j ((e9 .plain D v' k').runT ⟨T,fA⟩ w' j) ((e9 .plain a v k).runT ⟨T,fB⟩ w es):=by
   intro Q R V W;rw[qR _ _ _ _ _ Q R,qR _ _ _ _ _ V W]
   rcases Al (T:=T) (fB:=fB) b B with⟨E,_,L⟩|⟨hb,u,u',c,c',t,z,E,L,hu,hs,h3,h4,hc⟩|⟨hb,u,E⟩
   .obtain⟨s,hf⟩:=L v;simp only[E,hf];exact fP trivial
   .have fR:D.spot=none:=by rw[<-B.2.2];exact hs
    rw[E,L];simp only[<-vi b B];split
    .refine fP ?_;show dw (.unsafePointer _)=true;rfl
    .rw[setCell_eq w a _ h3 hs,setCell_eq w' D _ h4 fR,<-B.2.1];have aF:=uv f b d hd B.1 hb (.cells t z (VA.set hc a.off hv)) (new:=#[⟨f0 D,true,false⟩]) (λe S=>by simp at S;subst S;exact⟨rfl,_,B.1⟩);exact jo.one aF (.cell B true) (x _ _ y f aF.wr d hd)
   .rw[E];by_cases hz:w.frozen? a=true
    .refine fP ?_;simp only[hz,if_true];show dw (.unsafePointer _)=true;rfl
    .refine fY ?_;simp only[hz];exact mW k _ es (e:=⟨f0 a,true,false⟩) hb (λg h=>by cases h)
  cases hv<;>first|exact fP trivial|exact key ar ar ar ar
 |new o k x=>
  rintro ρ s' w w' es j⟨H,k',rfl,C,y⟩f b d hd;simp only[e8];have hs:=Mg f b d hd C;exact jo.quiet hs (x w.heap.size es j (y _ _ b.fresh.1 b.fresh.2 b.pK b.gN) hs.inj hs.wr d hd)
 |shape r k x=>
  rintro ρ s' w w' es j(⟨M,k',rfl,J,y⟩|h)f b d hd
  .simp only[e8,<-GQ b J];exact x _ es j (y _) f b d hd
  .exact bW.GU (s:=.shape r k) h
 |freeze a n k x=>
  rintro ρ s' w w' es j⟨D,k',rfl,B,y⟩f b d hd;simp only[e8];by_cases N:n=0
  .subst N;have e1:w.freeze a 0=w:=by simp[dq]
   have X:w'.freeze D 0=w':=by simp[dq]
   rw[e1,X];exact x es j y f b d hd
  have idle:∀{w:ai}{a:Addr}{o:Obj},w.heap[a.block]?=some o->(∀c t z,o≠f3 c t z)->w.freeze a n=w:=by
   intro w a o h bu;unfold dq;rw[if_neg N];obtain⟨heap,_,_,_,_⟩:=w;congr 1;apply eq;intro i;rw[Array.getElem?_modify];split
   .rename_i e;subst e;show Option.map _ heap[a.block]?=heap[a.block]?;have h':heap[a.block]?=some o:=h;rw[h'];cases o<;>first|rfl|exact absurd rfl (bu _ _ _)
   .rfl
  rcases pV b B.1 with⟨hb,o,H,A,I,C⟩|⟨hb,o,H,A,I,C⟩
  .cases C with
   |@cells c c' t z hc=>
    obtain⟨U,hi⟩:=z;rw[iz w a n N A,iz w' D n N I,<-B.2.1];have hs:=uv f b d hd B.1 hb (.cells t (if U==hi then(a.off,a.off+n) else(min U a.off,max hi (a.off+n))) hc) (new:=#[]) ar;exact jo.quiet hs (x es j y f hs.wr d hd)
   |_=>
    rw[idle A ar,idle I ar];exact x es j y f b d hd
  .cases C with
   |cells t z fW=>
    obtain⟨U,hi⟩:=z;rw[iz w a n N A,iz w' D n N I,<-B.2.1];have hs:=BP f b d hd B.1 hb (fz':=if U==hi then(a.off,a.off+n) else(min U a.off,max hi (a.off+n))) I fW;exact jo.quiet hs (x es j y f hs.wr d hd)
   |loop=>
    rw[idle A ar,idle I ar];exact x es j y f b d hd
   |acn l H N=>
    rw[idle A ar,idle I N];exact x es j y f b d hd
 |frozen a k x=>
  rintro ρ s' w w' es j(⟨D,k',rfl,B,y⟩|h)f b d hd
  .simp only[e8,<-vi b B];exact x _ es j (y _) f b d hd
  .exact bW.GU (s:=.frozen a k) h
 |getObj r k x=>
  rintro ρ s' w w' es j⟨M,k',rfl,J,y⟩f b d hd;have one:∀{P:aa}{β:Type}{w:ai}{r:Nat}{o:Obj}{k:Obj->Sem β}{es:Array bi},w.heap[r]?=some o->(∀c t z,o≠f3 c t z)->o.isChan=false->(fb r k).runT P w es=(k o).runT P w (es.push ⟨f1 r,false,false⟩):=by
   intro P β w r o k es g Q R;simp only[e8,g];cases o<;>first|rfl|exact absurd rfl (Q _ _ _)|(simp only[R])
  rcases pV b J with⟨hb,o,H,A,I,C⟩|⟨hb,o,H,A,I,C⟩
  rotate_left
  .cases C with
   |cells=>simp only[e8,A];exact fP trivial
   |loop=>
    rw[one A ar rfl];exact fY (mW _ w es (e:=⟨f1 r,false,false⟩) hb (λg h=>by cases h))
   |acn=>
    rw[one A ar rfl];exact fY (mW _ w es (e:=⟨f1 r,false,false⟩) hb (λg h=>by cases h))
  have key:(∀c t z,o≠f3 c t z)->(∀c t z,H≠f3 c t z)->o.isChan=false->H.isChan=false->
   jo Bs T.globals.size F K RA ρ w w' es j ((fb M k').runT ⟨T,fA⟩ w' j) ((fb r k).runT ⟨T,fB⟩ w es):=by
   intro Q R V W;rw[one A Q V,one I R W];exact jo.one (e:=⟨f1 r,false,false⟩) (e':=⟨f1 M,false,false⟩) (BO f b d hd ⟨rfl,_,J⟩) (.obj J false) (x o _ _ (y o H C) f b d hd)
  cases C with
  |cells t z hc=>simp only[e8,A];exact fP trivial
  |_=>exact key ar ar rfl rfl
 |setObj r o k x=>
  rintro ρ s' w w' es j⟨M,H,k',rfl,J,⟨C,_⟩,y⟩f b d hd;have uQ:H.isChan=false:=by cases C<;>rfl
  have O:o.isChan=false:=by cases C<;>rfl
  rcases pV b J with⟨hb,p,p',A,I,Y⟩|⟨hb,p,p',A,I,Y⟩
  rotate_left
  .cases Y with
   |cells=>simp only[e8,A];exact fP trivial
   |loop=>
    simp only[e8,A,O];exact fY (mW _ _ es (e:=⟨f1 r,true,false⟩) hb (λg h=>by cases h))
   |acn=>
    simp only[e8,A,O];exact fY (mW _ _ es (e:=⟨f1 r,true,false⟩) hb (λg h=>by cases h))
  have key:(∀c t z,p≠f3 c t z)->(∀c t z,p'≠f3 c t z)->
   jo Bs T.globals.size F K RA ρ w w' es j ((fg M H k').runT ⟨T,fA⟩ w' j) ((fg r o k).runT ⟨T,fB⟩ w es):=by
   intro Q R;have e1:(fg r o k).runT ⟨T,fB⟩ w es=k.runT ⟨T,fB⟩ { w with heap:=w.heap.setIfInBounds r o } (es.push ⟨f1 r,true,false⟩):=by
    simp only[e8,A,O]
   have X:(fg M H k').runT ⟨T,fA⟩ w' j=k'.runT ⟨T,fA⟩ { w' with heap:=w'.heap.setIfInBounds M H } (j.push ⟨f1 M,true,false⟩):=by
    simp only[e8,I,uQ]
   rw[e1,X];have hs:=uv f b d hd J hb C (new:=#[⟨f1 M,true,false⟩]) (λe S=>by simp at S;subst S;exact⟨rfl,_,J⟩);exact jo.one hs (.obj J true) (x _ _ y f hs.wr d hd)
  cases Y with
  |cells t z hc=>simp only[e8,A];exact fP trivial
  |_=>exact key ar ar
 |choose q k x=>
  rintro ρ s' w w' es j⟨k',rfl,y⟩f b d hd;simp only[e8];split
  .exact x _ es j (y _) f b d hd
  .rw[<-d,<-hd];have wK:WC Bs T.globals.size F K ρ { w with drawn:=w.drawn+1 } { w' with drawn:=w.drawn+1 }:=⟨b.pK,b.gN,b.base,b.obj,b.low⟩
   have hs:cI Bs T.globals.size F K ρ w w' ρ { w with drawn:=w.drawn+1 } { w' with drawn:=w.drawn+1 } #[]:=
    ⟨eM _,f,wK,d,rfl,rfl,rfl,rfl,dC _,dC _,λ_ _ _=>rfl,λ_ E L=>absurd L (Nat.not_lt.2 E),λ_ _ h=>fP h,ar,(cI.refl f b d hd).keep⟩
   have:=x (q.cut (w.tape w.drawn q)) es j (y _) f wK d rfl;exact jo.quiet hs (by simpa[d]using this)
 |sys c k x=>intro ρ s' w w' es j h;exact h.elim
 |program k x=>
  rintro ρ s' w w' es j(⟨k',rfl,y⟩|CS)f b d hd
  .simp only[e8];exact x _ es j y f b d hd
  .exact bW.GU (s:=.program k) CS
 |mark m k x=>
  rintro ρ s' w w' es j(⟨k',rfl,hm,y⟩|h)f b d hd;rotate_left
  .exact bW.GU (s:=.mark m k) h
  simp only[e8];exact jo.one (e:=⟨f2 m,false,true⟩) (e':=⟨f2 m,false,true⟩) (BO f b d hd hm) (.mark m hm) (x _ _ y f b d hd)
end
section
variable (T:a7)(fB fA:Array a8)(F:aI->Bool)(Z:a9->Bool)(bot:ac)(up:List ac)(Bs:Nat)
structure GC(ρ:Ren)(g g':ad):Prop where
 top:aQ T F Z fB fA ρ g.frame g'.frame
 callers:∃l l',g.callers=l++[bot]/\g'.callers=l'++up/\cj T F Z fB fA ρ l l'/\dn (g.frame::l)
 st:g.status=fO
 st':g'.status=fO
 dy:g.dying=none
 Bl:g'.dying=none
 of:g.offers=none
 Bm:g'.offers=none
def dG(ρ:Ren)(w w':ai):bL->bL->Prop
 |eT c w1 es,g=>(∃a d f b,g=eT d f b/\cI Bs T.globals.size F (cd T F Z) ρ w w' a w1 f b/\fK a es.toList b.toList/\GC T fB fA F Z bot up a c d)\/(∃e∈es,BQ Bs e)\/c.status≠fO
 |_,_=>True
structure GV(ρ:Ren)(w w':ai):Prop where
 inj:ρ.bw T.globals.size
 wr:WC Bs T.globals.size F (cd T F Z) ρ w w'
 tape:w.tape=w'.tape
 drawn:w.drawn=w'.drawn
structure zG:Prop where
 zero:dM T F Z
 fns:si fB fA F
 same:∀f,F f=true->Bi T fB fA F Z f
 noU:F Ya=false
 nr:∀f,F f=true->(fB[f]?).any (·.norace)=false
 early:∀fr cs d g w,∃o w1 es,early ⟨T,fB⟩ fr cs d g w=eS o w1 es
end
section
variable {T:a7}{fB fA:Array a8}{F:aI->Bool}{Z:a9->Bool}{bot:ac}{up:List ac}{Bs:Nat}{ρ σ:Ren}{w w':ai}
def cI.wd{a:Ren}{w1 b:ai}{es:Array bi}(h:cI Bs T.globals.size F (cd T F Z) ρ w w' a w1 b es):GV T F Z Bs a w1 b:=⟨h.inj,h.wr,h.tape,h.drawn⟩
def GV.refl(h:GV T F Z Bs ρ w w'):cI Bs T.globals.size F (cd T F Z) ρ w w' ρ w w' #[]:=cI.refl h.inj h.wr h.tape h.drawn
def DI{q:aI->Bool}:∀(l:List bi)(k:Array bi),(∀x∈l,oP x)->(l.foldl (eh q) (false,k))=(false,k++l.toArray)
 |[],k,_=>ar
 |x::l,k,h=>by
  have a:=h x ar;have e1:eh q (false,k) x=(false,k.push x):=by
   obtain⟨loc,wr,b⟩:=x
   cases loc with
   |mark m=>
    cases m with
    |extern g=>exact absurd rfl (a g)
    |_=>rfl
   |_=>rfl
  rw[e6,e1,DI l _ λy hy=>h y (by simp[hy])];simp
def DJ{q:aI->Bool}{e:bi}:∀(l:List bi)(b:Bool)(k:Array bi),e∈k->e∈(l.foldl (eh q) (b,k)).2
 |[],_,_,h=>h
 |x::l,b,k,h=>by
  rw[e6];have plain:e∈(if b && !x.sync then k else k.push x):=by
   grind
  have:∃b' k',eh q (b,k) x=(b',k')/\e∈k':=by
   obtain⟨loc,wr,c⟩:=x
   cases loc with
   |mark m=>
    cases m with
    |extern g=>exact⟨_,_,rfl,h⟩
    |_=>exact⟨_,_,rfl,plain⟩
   |_=>exact⟨_,_,rfl,plain⟩
  obtain⟨b',k',e1,a⟩:=this;rw[e1];exact DJ l b' k' a
def DK{P:aa}{fn:aI}(f:(P.funcs[fn]?).any (·.norace)=false){b:Array bi}(h:Ak Bs #[] b):∃e∈seen P fn b,BQ Bs e:=by
 obtain⟨a,e,c,g,i,d,j⟩:=h;refine⟨e,?_,d⟩;rw[ei,f,g];simp only[List.nil_append,List.foldl_append,e6];rw[DI a _ i];apply DJ;obtain⟨loc,wr,k⟩:=e
 cases loc with
 |mark m=>exact d.elim
 |_=>simp[eh]
def dG.Pj{es:Array bi}{s s':bL}(h:∃e∈es,BQ Bs e):dG T fB fA F Z bot up Bs ρ w w' (eQ es s) s':=by
 obtain⟨e,a,b⟩:=h
 cases s with
 |go c w1 d=>exact fY (fP ⟨e,Array.mem_append.2 (fP a),b⟩)
 |_=>trivial
def sF{q:aI->Bool}{i:aI->Bool}:∀{l l':List bi}(b:Bool)(k k':Array bi),fK ρ l l'->fK ρ k.toList k'.toList->fK ρ (l.foldl (eh q) (b,k)).2.toList (l'.foldl (eh i) (b,k')).2.toList
 |[],_,b,k,k',h,c=>by cases h;exact c
 |e::l,_,b,k,k',h,c=>by
  cases h with
  |@cons _ j _ l' g d=>
   simp only[e6];have push:fK ρ (k.push e).toList (k'.push j).toList:=by
    rw[eA,eA];exact c.append (.one g)
   cases g with
   |cell a wr=>cases b<;>simp only[eh,co,cq,ct,ch,if_false,if_true,cB]<;>exact sF _ _ _ d (by first|exact push|exact c)
   |obj a wr=>cases b<;>simp only[eh,co,cq,ct,ch,if_false,if_true,cB]<;>exact sF _ _ _ d (by first|exact push|exact c)
   |mark m f=>
    have f:m=.noRoom:=f;subst f;cases b<;>simp only[eh,ci,Bool.and_false,ch,if_false]<;>exact sF _ _ _ d push
def rz(fit:zG T fB fA F Z){f:aI}(hf:F f=true){l l':Array bi}(h:fK ρ l.toList l'.toList):fK ρ (seen ⟨T,fB⟩ f l).toList (seen ⟨T,fA⟩ f l').toList:=by
 rw[ei,ei];obtain⟨fn,c,a,b,_⟩:=(fit.same f hf).ex;have e:((⟨T,fB⟩:aa).funcs[f]?).any (·.norace)=((⟨T,fA⟩:aa).funcs[f]?).any (·.norace):=by
  grind
 rw[e];exact sF _ _ _ h .nil
def dG.comp{b:Ren}{w1 c:ai}{new es a:Array bi}{s s':bL}(f:cI Bs T.globals.size F (cd T F Z) ρ w w' b w1 c new)(h:dG T fB fA F Z bot up Bs b w1 c s s')(g:∀e∈a,e∈new)(i:fK b es.toList a.toList) :
 dG T fB fA F Z bot up Bs ρ w w' (eQ es s) (eQ a s'):=by
 cases s with
 |go t w2 j=>
  rcases h with⟨d,l,m,n,e,k,o,p⟩|⟨e,q,r⟩|h
  .subst e;refine fP ⟨d,l,m,a++n,rfl,(f.less g).trans k,?_,p⟩;show fK d (es++j).toList _;rw[et,et];exact(i.mono k.le).append o
  .exact fY (fP ⟨e,Array.mem_append.2 (fY q),r⟩)
  .exact fY (fY h)
 |_=>trivial
def rA(fit:zG T fB fA F Z)(x:GV T F Z Bs ρ w w'){fr fr':ac}{cs cs':List ac}(d:aQ T F Z fB fA ρ fr fr')(hcs:cj T F Z fB fA ρ cs cs')(hb:dn (fr::cs))
 {s s':Sem Next} (hs:av T fB fA F (cd T F Z) (gT F (cd T F Z)) ρ s s') :
 dG T fB fA F Z bot up Bs ρ w w' (bT ⟨T,fB⟩ true fr (cs++[bot]) none s w) (bT ⟨T,fA⟩ true fr' (cs'++up) none s' w'):=by
 have i:=av.GU #[] #[] hs x.inj x.wr x.tape x.drawn;have D:(fr'.kind == .early)=false:=by rw[d.bX];rfl
 have early:(fr.kind == .early)=false:=by rw[d.kind];rfl
 have J:=fit.nr _ d.mI;generalize K:s.runT ⟨T,fB⟩ w #[]=L at i;obtain⟨r,es⟩:=L;unfold bT;simp only[if_true,K];have sub:∀{new:Array bi},∀e∈seen ⟨T,fA⟩ fr'.fn (#[]++new) ++ #[],e∈new:=λe M=>ej (by simpa using M);have q:∀{c:Ren}{b new:Array bi},fK c b.toList new.toList->fK c (seen ⟨T,fB⟩ fr.fn (#[]++b) ++ #[]).toList (seen ⟨T,fA⟩ fr'.fn (#[]++new) ++ #[]).toList:=λh=>by
  simp only[Array.empty_append,Array.append_empty];rw[d.fn];exact rz fit d.mI h
 rcases i with i|i
 rotate_left
 .
  have E:∃e∈seen ⟨T,fB⟩ fr.fn es,BQ Bs e:=DK (P:=⟨T,fB⟩) J i
  cases r with
  |ok a w1=>
   simp only[early,ch,if_false];exact dG.Pj E
  |halt h w1=>
   cases h with
   |blocked=>exact fY (fY ar)
   |waiting=>exact fY (fY ar)
   |unsupported u=>
    cases u with
    |initOrder g=>
     obtain⟨o,w2,S,e⟩:=fit.early fr (cs++[bot]) none g w1;simp only[e];trivial
    |_=>trivial
   |_=>
    simp only[early,ch,if_false];exact dG.Pj E
 cases r with
 |ok a w1=>
  obtain⟨c,H,I,b,new,B,e1,j,p,N⟩:=i;subst B;rw[e1];simp only[D,early,ch,if_false];have y:=d.mono j.le;have z:=hcs.mono j.le;have A:cI Bs T.globals.size F (cd T F Z) ρ w w' c w1 I (seen ⟨T,fA⟩ fr'.fn (#[]++new) ++ #[]):=j.less sub
  cases N with
  |value hv=>exact fP ⟨c,_,_,_,rfl,A,q p,y.finish hv,⟨_,_,rfl,rfl,z,hb.top (bZ _ _)⟩,rfl,rfl,rfl,rfl,rfl,rfl⟩
  |skip=>exact fP ⟨c,_,_,_,rfl,A,q p,y.finish .undef,⟨_,_,rfl,rfl,z,hb.top (bZ _ _)⟩,rfl,rfl,rfl,rfl,rfl,rfl⟩
  |@enter f hf a H C=>
   refine fP ⟨c,_,_,_,rfl,A,q p,?_,⟨fr::cs,fr'::cs',rfl,rfl,.cons y z,hb.push _⟩,rfl,rfl,rfl,rfl,rfl,rfl⟩;have top:∀k k':CallKind,k=fJ->k'=fJ->aQ T F Z fB fA c (b9 ⟨T,fB⟩ f a k) (b9 ⟨T,fA⟩ f H k'):=by
    rintro k k' rfl rfl;exact fe (fit.same f hf) hf C
   refine top _ _ ?_ ?_
   .have n:=d.todo;generalize fr.todo=l at n ⊢;generalize fr'.todo=O at n ⊢
    cases n with
    |nil=>rfl
    |cons h t=>cases h<;>rfl
   .have n:=d.todo;generalize fr.todo=l at n ⊢;generalize fr'.todo=O at n ⊢
    cases n with
    |nil=>rfl
    |cons h t=>cases h<;>rfl
  |round hl f hf C assign body Q R=>
   refine fP ⟨c,_,_,_,rfl,A,q p,?_,⟨fr::cs,fr'::cs',rfl,rfl,.cons y z,hb.push _⟩,rfl,rfl,rfl,rfl,rfl,rfl⟩;exact⟨rfl,(bs),hf,C,.cons (.code _ Q) (.cons .beginRound (.cons (.code _ R) .nil)),.nil,.run,rfl,rfl,.some hl,(bs)⟩
 |halt h w1=>
  cases h with
  |panic v=>
   obtain⟨c,v',I,b,new,B,e1,j,p,hv⟩:=i;subst B;rw[e1];simp only[D,early,ch,if_false];exact fP ⟨c,_,_,_,rfl,j.less sub,q p,(d.mono j.le).raise (.cons hv .nil),⟨_,_,rfl,rfl,hcs.mono j.le,hb.top (eC _ _)⟩,rfl,rfl,rfl,rfl,rfl,rfl⟩
  |stuck m=>trivial
  |unsupported u=>
   cases u with
   |initOrder g=>exact absurd i (by simp[Mi,dw])
   |_=>trivial
  |_=>exact i.elim
end
section
variable {T:a7}{fB fA:Array a8}{F:aI->Bool}{Z:a9->Bool}{bot:ac}{up:List ac}{Bs:Nat}{mn:Bool}{ρ σ:Ren}{w w':ai}
def jJ(a:GV T F Z Bs ρ w w'){fr fr':ac}{cs cs':List ac}(b:aQ T F Z fB fA ρ fr fr')(hcs:cj T F Z fB fA ρ cs cs')(hb:dn (fr::cs)) :
 dG T fB fA F Z bot up Bs ρ w w' (eT { frame:=fr,callers:=cs++[bot],status:=fO,dying:=none } w) (eT { frame:=fr',callers:=cs'++up,status:=fO,dying:=none } w'):=
 fP ⟨ρ,_,_,_,rfl,a.refl,.nil,b,⟨cs,cs',rfl,rfl,hcs,hb⟩,rfl,rfl,rfl,rfl,rfl,rfl⟩
def qI(b:GV T F Z Bs ρ w w'){fr fr':ac}{cs cs':List ac}(a:aQ T F Z fB fA ρ fr fr')(hcs:cj T F Z fB fA ρ cs cs')(hb:dn (fr::cs))(c:cs≠[]){v v':ag}(hv:VR F ρ v v') :
 dG T fB fA F Z bot up Bs ρ w w' (bj (cf T fB) true fr (cs++[bot]) none v w) (bj (cf T fA) mn fr' (cs'++up) none v' w'):=by
 cases hcs with
 |nil=>exact absurd rfl c
 |@cons f d l e h t=>
  show(dG T fB fA F Z bot up Bs) ρ w w' (bj (cf T fB) true fr (f::(l++[bot])) none v w) (bj (cf T fA) mn fr' (d::(e++up)) none v' w');simp only[bj,a.kind,a.bX];exact jJ b (h.finish hv) t (hb.pop.top (bZ _ _))
def oQ(fit:zG T fB fA F Z){j k:Type}{RA:Ren->j->k->Prop}(l:GV T F Z Bs ρ w w'){s:Sem j}{s':Sem k}(hs:av T fB fA F (cd T F Z) RA ρ s s'){f:bC j->bL}{f':bC k->bL}(fn x:aI)(y:x=fn)(hF:F fn=true)
 (z:∀(b:Ren)(a:j)(a':k)(w1 c:ai)(new:Array bi),cI Bs T.globals.size F (cd T F Z) ρ w w' b w1 c new->RA b a a'->dG T fB fA F Z bot up Bs b w1 c (f (cQ a w1)) (f' (cQ a' c)))
 (A:∀(b:Ren)(v v':ag)(w1 c:ai)(new:Array bi),cI Bs T.globals.size F (cd T F Z) ρ w w' b w1 c new->VR F b v v'->dG T fB fA F Z bot up Bs b w1 c (f (c8 (gf v) w1)) (f' (c8 (gf v') c)))
 (g:∀m w1,∃o w2 es,f (c8 (gg m) w1)=eS o w2 es) (B:∀u w1,dw u=true->∃o w2 es,f (c8 (ge u) w1)=eS o w2 es) :
 dG T fB fA F Z bot up Bs ρ w w' (eQ (seen (cf T fB) fn (s.runT (cf T fB) w #[]).2) (f (s.runT (cf T fB) w #[]).1)) (eQ (seen (cf T fA) x (s'.runT (cf T fA) w' #[]).2) (f' (s'.runT (cf T fA) w' #[]).1)):=by
 subst y;have d:=av.GU #[] #[] hs l.inj l.wr l.tape l.drawn;generalize s.runT (cf T fB) w #[]=C at d;obtain⟨r,es⟩:=C
 rcases d with d|d
 rotate_left
 .exact dG.Pj (DK (P:=cf T fB) (fit.nr _ hF) d)
 cases r with
 |ok a w1=>
  obtain⟨b,a',c,i,new,n,e1,g,p,q⟩:=d;subst n;rw[e1];exact dG.comp g (z b a a' w1 c new g q) (λe t=>by simpa using ej t) (rz fit hF (by simpa using p))
 |halt h w1=>
  cases h with
  |panic v=>
   obtain⟨b,v',c,i,new,n,e1,g,p,q⟩:=d;subst n;rw[e1];exact dG.comp g (A b v v' w1 c new g q) (λe t=>by simpa using ej t) (rz fit hF (by simpa using p))
  |stuck m=>
   obtain⟨o,w2,D,e⟩:=g m w1;simp only;rw[e];trivial
  |unsupported u=>
   obtain⟨o,w2,D,e⟩:=B u w1 d;simp only;rw[e];trivial
  |_=>exact d.elim
def GX(fit:zG T fB fA F Z)(d:GV T F Z Bs ρ w w'){fr fr':ac}{cs cs':List ac}(b:aQ T F Z fB fA ρ fr fr')(hcs:cj T F Z fB fA ρ cs cs')(hb:dn (fr::cs))(j:Option bq)(h:∀c,j=some c->cd T F Z c=true) :
 dG T fB fA F Z bot up Bs ρ w w' (mR (cf T fB) true fr (cs++[bot]) none w j) (mR (cf T fA) mn fr' (cs'++up) none w' j):=by
 rcases jP b.roundOf with⟨e1,e⟩|⟨l,k,e1,e,hl⟩
 .rw[iW e1,iW e]
  cases sn j with
  |false=>trivial
  |true=>exact jJ d (b.returning e1) hcs (hb.top rfl)
 .rw[iX e1,iX e];have i:cs≠[]:=by
   rintro rfl;have:=hb fr rfl;rw[e1]at this;cases this
  exact oQ fit d (oq d.inj hl j h) (f:=λr=>match r with | cQ v w=>bj (cf T fB) true fr (cs++[bot]) none v w | c8 _ w=>eS (gj "range over a function: no such loop" (fr.pos (cf T fB))) w)
   (f':=λr=>match r with | cQ v w=>bj (cf T fA) mn fr' (cs'++up) none v w | c8 _ w=>eS (gj "range over a function: no such loop" (fr'.pos (cf T fA))) w) fr.fn fr'.fn b.fn b.mI
   (λm a n w1 o new g hv=>qI g.wd (b.mono g.le) (hcs.mono g.le) hb i hv) (λ_ _ _ _ _ _ _ _=>trivial) (λ_ _=>⟨_,_,_,rfl⟩) (λ_ _ _=>⟨_,_,_,rfl⟩)
def Ml(fit:zG T fB fA F Z)(d:GV T F Z Bs ρ w w'){fr fr':ac}{cs cs':List ac}(a:aQ T F Z fB fA ρ fr fr')(hcs:cj T F Z fB fA ρ cs cs')(hb:dn (fr::cs)){ops:Array bv}{i:Nat}{rest:List Nat}{k:List Item}
 (f:fr.todo=.inRegion ops (i::rest)::k) (g:(ops.toList.all λo=>jh T F Z o.op)=true) :
 dG T fB fA F Z bot up Bs ρ w w' (b1 (cf T fB) true fr (cs++[bot]) none w) (b1 (cf T fA) true fr' (cs'++up) none w'):=by
 unfold b1;rw[a.oper?];have e:fr.oper? = ops[i]?:=by unfold Frame.oper?;rw[f]
 rw[e]
 cases h:ops[i]? with
 |none=>trivial
 |some o=>
  have ok:=Bo g h;simp only;have main:dG T fB fA F Z bot up Bs ρ w w' (bT (cf T fB) true fr (cs++[bot]) none (execOp fr.eval o) w) (bT (cf T fA) true fr' (cs'++up) none (execOp fr'.eval o) w'):=
   rA (bot:=bot) (up:=up) fit d a hcs hb (ug fit.zero fit.fns d.inj (dD a.tmps) o ok (acm fit.noU ok))
  have b:=a.roundOf;generalize e1:fr.roundOf=r at b;generalize l:fr'.roundOf=m at b
  cases b with
  |none=>exact main
  |some hl=>
   cases j:o.op with
   |defer c=>rw[j]at ok;cases ok
   |_=>exact main
def DL(fit:zG T fB fA F Z)(e:GV T F Z Bs ρ w w'){fr fr':ac}{cs cs':List ac}(p:aQ T F Z fB fA ρ fr fr')(hcs:cj T F Z fB fA ρ cs cs')(hb:dn (fr::cs))(E:fr.mode≠fo)(g:fr.defers=[]->cs≠[]) :
 dG T fB fA F Z bot up Bs ρ w w' (aH (cf T fB) true fr (cs++[bot]) none w) (aH (cf T fA) mn fr' (cs'++up) none w'):=by
 have hd:=p.defers;obtain⟨fn,tmps,todo,defers,mode,kind,i⟩:=fr;obtain⟨b,j,q,X,L,k,m⟩:=fr';have M:=p;obtain⟨H,u,n,x,o,N,y,I,J,K,z⟩:=p;simp only at H u n x o N y I J K z E g hd;subst H
 cases hd with
 |@cons r Y ds A O t=>
  unfold aH;simp only;exact oQ fit e (jj e.inj O)
   (f:=λr=>match r with
     |cQ calls w=>eT { frame:={ fn:=b,tmps,todo,defers:=calls++ds,mode,kind,roundOf:=i },callers:=cs++[bot],status:=fO,dying:=none } w
     |c8 _ w=>eS (gj "the deferred calls of a range-over-func loop have been taken" _) w)
   (f':=λr=>match r with
     |cQ calls w=>eT { frame:={ fn:=b,tmps:=j,todo:=q,defers:=calls++A,mode:=L,kind:=k,roundOf:=m },callers:=cs'++up,status:=fO,dying:=none } w
     |c8 _ w=>eS (gj "the deferred calls of a range-over-func loop have been taken" _) w) b b rfl n
   (λP a Q w1 R new d S=>by
     obtain⟨rfl,rfl⟩:=S
     exact jJ d.wd ⟨rfl,u,n,cU.mono d.le x,o.mono d.le,t.mono d.le,y.mono d.le,I,J,K.mono d.le,z⟩ (hcs.mono d.le) (hb.top rfl))
   (λ_ _ _ _ _ _ _ _=>trivial) (λ_ _=>⟨_,_,_,rfl⟩) (λ_ _ _=>⟨_,_,_,rfl⟩)
 |nil=>
  have g:=g rfl
  cases y with
  |run=>exact absurd rfl E
  |@panicking c B hc=>
   cases hcs with
   |nil=>exact absurd rfl g
   |@cons f C l D h t=>
    show(dG T fB fA F Z bot up Bs) ρ w w' (aH (cf T fB) true _ (f::(l++[bot])) none w) (aH (cf T fA) mn _ (C::(D++up)) none w');have e1:aH (cf T fB) true { fn:=b,tmps:=tmps,todo:=todo,defers:=[],mode:=fp c,kind:=kind,roundOf:=i } (f::(l++[bot])) none w=eT { frame:=f.raise c,callers:=l++[bot],status:=fO,dying:=none } w:=by
     unfold aH;simp only[iR o (cf T fB) b tmps [] (fp c) kind i,ch,if_false]
    have U:aH (cf T fA) mn { fn:=b,tmps:=j,todo:=q,defers:=[],mode:=fp B,kind:=k,roundOf:=m } (C::(D++up)) none w'=eT { frame:=C.raise B,callers:=D++up,status:=fO,dying:=none } w':=by
     unfold aH;simp only[ot o (cf T fA) b j [] (fp B) k m,ch,if_false]
    rw[e1,U];exact jJ e (h.raise hc) t (hb.pop.top (eC _ _))
  |returning=>
   obtain⟨fx,c,V,W,g3,g4⟩:=(u (z rfl)).ex;unfold aH;simp only[V,W]
   exact oQ fit e (mP e.inj fx x) (f:=λr=>match r with
    |cQ v w=>bj (cf T fB) true { fn:=b,tmps,todo,defers:=[],mode:=ft,kind,roundOf:=i } (cs++[bot]) none v w
    |c8 (gg s) w=>eS (gj s _) w
    |c8 _ w=>eS (gj "return: the result variables cannot be read" _) w)
    (f':=λr=>match r with
     |cQ v w=>bj (cf T fA) mn { fn:=b,tmps:=j,todo:=q,defers:=[],mode:=ft,kind:=k,roundOf:=m } (cs'++up) none v w
     |c8 (gg s) w=>eS (gj s _) w
     |c8 _ w=>eS (gj "return: the result variables cannot be read" _) w) b b rfl n
    (λP a Q w1 R new d hv=>qI d.wd (M.mono d.le) (hcs.mono d.le) hb g hv) (λ_ _ _ _ _ _ _ _=>trivial) (λ_ _=>⟨_,_,_,rfl⟩) (λ_ _ _=>⟨_,_,_,rfl⟩)
def vM(c:GV T F Z Bs ρ w w')(q:Question):∃n f w1 d,(choose q).run (cf T fB) w=cQ n w1/\(choose q).run (cf T fA) w'=cQ n d/\cI Bs T.globals.size F (cd T F Z) ρ w w' f w1 d #[]:=by
 have e:∀(P:aa)(w:ai),(choose q).run P w=if q.forced then cQ 0 w else cQ (q.cut (w.tape w.drawn q)) { w with drawn:=w.drawn+1 }:=λP w=>rfl
 rw[e,e,c.tape,c.drawn]
 cases q.forced with
 |true=>exact⟨0,ρ,w,w',rfl,rfl,c.refl⟩
 |false=>
  have hb:=c.refl;refine⟨_,ρ,_,_,rfl,rfl,?_⟩;exact⟨hb.le,hb.inj,⟨c.wr.pK,c.wr.gN,c.wr.base,c.wr.obj,c.wr.low⟩,rfl,rfl,rfl,rfl,rfl,dC _,dC _,λ_ _ _=>rfl,λ_ a b=>absurd b (Nat.not_lt.2 a),λ_ _ h=>fP h,ar,hb.keep⟩
def dG.Oy{a:Ren}{w1 b:ai}{s s':bL}(c:cI Bs T.globals.size F (cd T F Z) ρ w w' a w1 b #[])(h:dG T fB fA F Z bot up Bs a w1 b s s'):dG T fB fA F Z bot up Bs ρ w w' s s':=by
 cases s with
 |go m w2 n=>
  exact h.imp (fun⟨d,f,g,i,e,k,j,l⟩=>⟨d,f,g,i,e,by simpa using c.trans k,j,l⟩) id
 |_=>trivial
def Mm(fit:zG T fB fA F Z)(p:GV T F Z Bs ρ w w'){fr fr':ac}{cs cs':List ac}(g:aQ T F Z fB fA ρ fr fr')(hcs:cj T F Z fB fA ρ cs cs')(hb:dn (fr::cs)) :
 dG T fB fA F Z bot up Bs ρ w w' (bR (cf T fB) true true fr (cs++[bot]) none w) (bR (cf T fA) mn true fr' (cs'++up) none w'):=by
 obtain⟨fn,tmps,todo,defers,mode,kind,x⟩:=fr;obtain⟨q,u,S,y,z,A,B⟩:=fr';have U:cN T F Z ρ todo S:=g.todo;have to:∀{N O:List Item},cN T F Z ρ N O->dG T fB fA F Z bot up Bs ρ w w' (eT { frame:=⟨fn,tmps,N,defers,mode,kind,x⟩,callers:=cs++[bot],status:=fO,dying:=none } w) (eT { frame:=⟨q,u,O,y,z,A,B⟩,callers:=cs'++up,status:=fO,dying:=none } w'):=
  λh=>jJ p (g.lO h) hcs (hb.top rfl)
 have lv:=λj V=>GX (bot:=bot) (up:=up) (mn:=mn) fit p g hcs hb j V;unfold bR
 cases U with
 |nil=>exact lv none (λc e=>by cases e)
 |@cons i i' k k' h t=>
  cases h with
  |inBlock id=>exact to t
  |inLoop c hc=>exact to (.cons (.code c hc) (.cons (.inLoop c hc) t))
  |inScope c hc=>exact to t
  |inRangeFunc hl=>trivial
  |beginRound=>
   refine rA fit p g hcs hb (vX p.inj ?_)
   rcases jP g.roundOf with⟨C,D⟩|⟨l,E,C,D,hl⟩
   .simp only at C D;subst C D;exact ak
   .simp only at C D;subst C D;exact lg p.inj hl
  |@endRangeFunc l E hl=>
   exact oQ fit p (qW p.inj hl)
    (f:=λr=>match r with
      |cQ jump w=>eT { frame:=⟨fn,tmps,(jump.map fi).toList++k,defers,mode,kind,x⟩,callers:=cs++[bot],status:=fO,dying:=none } w
      |c8 (gf v) w=>eT { frame:=ca ⟨fn,tmps,fl l::k,defers,mode,kind,x⟩ [{ v,recovered:=false }],callers:=cs++[bot],status:=fO,dying:=none } w
      |c8 _ w=>eS (gj "range over a function: no such loop" _) w)
    (f':=λr=>match r with
      |cQ jump w=>eT { frame:=⟨q,u,(jump.map fi).toList++k',y,z,A,B⟩,callers:=cs'++up,status:=fO,dying:=none } w
      |c8 (gf v) w=>eT { frame:=ca ⟨q,u,fl E::k',y,z,A,B⟩ [{ v,recovered:=false }],callers:=cs'++up,status:=fO,dying:=none } w
      |c8 _ w=>eS (gj "range over a function: no such loop" _) w) fn q g.fn g.mI
    (λH a P w1 J new o K=>by
      obtain⟨rfl,W⟩:=K;refine jJ o.wd ((g.mono o.le).lO (cN.append ?_ (t.mono o.le))) (hcs.mono o.le) (hb.top rfl)
      cases a with
      |none=>exact .nil
      |some c=>exact .cons (.code c (W c rfl)) .nil)
    (λH v v' w1 J new o hv=>jJ o.wd ((g.mono o.le).raise (.cons hv .nil)) (hcs.mono o.le) (hb.top (eC _ _)))
    (λ_ _=>⟨_,_,_,rfl⟩) (λ_ _ _=>⟨_,_,_,rfl⟩)
  |inRegion ops todo X=>
   cases todo with
   |nil=>exact to t
   |cons i Q=>
    simp only;rw[show bM ops u=bM ops tmps from funext λj=>(oo ops g.tmps j).symm]
    cases((ops[i]?).map (Region.wanted · (bM ops tmps))).getD false with
    |true=>exact Ml fit p g hcs hb rfl X
    |false=>exact jJ p (g.finish .undef) hcs (hb.top (bZ _ _))
  |code c hc=>
   cases c with
   |ret=>exact lv (some .ret) (λc e=>by cases e;rfl)
   |skip=>exact to t
   |label _=>exact to t
   |seq a b=>
    simp only[cd,cl]at hc;exact to (.cons (.code a hc.1) (.cons (.code b hc.2) t))
   |cond c a b=>
    simp only[cd,cl]at hc;have hv:=dD g.tmps c hc.1.1;simp only;generalize cb _ c=v at hv ⊢;generalize cb _ c=v' at hv ⊢
    cases hv with
    |bool b'=>
     cases b' with
     |true=>exact to (.cons (.code a hc.1.2) t)
     |false=>exact to (.cons (.code b hc.2) t)
    |_=>trivial
   |block id b=>exact to (.cons (.code b hc) (.cons (.inBlock id) t))
   |loop b=>exact to (.cons (.code b hc) (.cons (.inLoop b hc) t))
   |scope b=>exact to (.cons (.code b hc) (.cons (.inScope b hc) t))
   |exit id=>
    simp only
    rcases xo id t with⟨x1,x2⟩|⟨m,m',x1,x2,L⟩
    .rw[x1,x2];exact lv (some (.exit id)) (λc e=>by cases e;rfl)
    .rw[x1,x2];exact to L
   |goto id=>
    simp only
    rcases xq id t with⟨x1,x2⟩|⟨m,m',x1,x2,L⟩
    .rw[x1,x2];exact lv (some (.goto id)) (λc e=>by cases e;rfl)
    .rw[x1,x2];exact to L
   |refuse Y=>cases hc
   |rangeFunc f params assign body=>
    simp only[cd,cl]at hc;simp only;have I:=g.fn;simp only at I;subst I;have hs:=mO (T:=T) (fB:=fB) (fA:=fA) (Z:=Z) p.inj q g.mI g.tmps params assign body hc.1.2 hc.2 g.roundOf;exact oQ fit p hs
     (f:=λr=>match r with
       |cQ (l,mark) w=>
        let fr:ac:=⟨q,tmps,fm l::k,mark++defers,mode,kind,x⟩
        let call:Call:={ callee:=.value f,args:=#[gl (gc (.yield l) #[] #[])],argTypes:=#[] }
        bT (cf T fB) true fr (cs++[bot]) none (do let d<-resolve fr.eval call 0;invoke d.target d.args) w
       |c8 _ w=>eS (gj "range over a function: no such loop" _) w)
     (f':=λr=>match r with
       |cQ (l,mark) w=>
        let fr:ac:=⟨q,u,fm l::k',mark++y,z,A,B⟩
        let call:Call:={ callee:=.value f,args:=#[gl (gc (.yield l) #[] #[])],argTypes:=#[] }
        bT (cf T fA) true fr (cs'++up) none (do let d<-resolve fr.eval call 0;invoke d.target d.args) w
       |c8 _ w=>eS (gj "range over a function: no such loop" _) w) q q rfl g.mI
     (λH a P w1 J new o K=>by
       obtain⟨l,mark⟩:=a;obtain⟨E,OA⟩:=P;obtain⟨hl,M⟩:=K;have s:=g.mono o.le;have R:aQ T F Z fB fA H ⟨q,tmps,fm l::k,mark++defers,mode,kind,x⟩ ⟨q,u,fm E::k',OA++y,z,A,B⟩:=
        ⟨s.fn,s.same,s.mI,s.tmps,.cons (.inRangeFunc hl) (t.mono o.le),fS.append M s.defers,s.mode,s.kind,s.bX,s.roundOf,s.ret⟩
       exact rA fit o.wd R (hcs.mono o.le) (hb.top rfl) (jE fit.zero fit.fns o.inj (dD R.tmps f hc.1.1) (by
        have hv:cU F H [gc (.yield l) #[] #[]] [gc (.yield E) #[] #[]]:=.cons (.func (.yield hl) .nil .nil) .nil
        simpa[cb]using hv)))
     (λ_ _ _ _ _ _ _ _=>trivial) (λ_ _=>⟨_,_,_,rfl⟩) (λ_ _ _=>⟨_,_,_,rfl⟩)
   |region id ops draw=>
    simp only
    cases draw with
    |false=>exact to (.cons (.inRegion ops _ hc) t)
    |true=>
     simp only[ci,ch,if_false];obtain⟨n,H,w1,J,c1,c2,o⟩:=vM (fB:=fB) (fA:=fA) p (.order fn id);have I:=g.fn;simp only at I;subst I;rw[c1,c2];exact dG.Oy o (jJ o.wd ((g.mono o.le).lO (.cons (.inRegion ops _ hc) (t.mono o.le))) (hcs.mono o.le) (hb.top rfl))
def Mn(fit:zG T fB fA F Z)(f:GV T F Z Bs ρ w w'){g g':ad}(hg:GC T fB fA F Z bot up ρ g g')
 (i:g.frame.mode≠fo->g.frame.defers=[]->g.callers≠[bot]):dG T fB fA F Z bot up Bs ρ w w' (stepG (cf T fB) true g w) (stepG (cf T fA) mn g' w'):=by
 obtain⟨b,⟨l,r,hl,j,hcs,hb⟩,st,a,k,m,of,n⟩:=hg;obtain⟨fr,cs,status,dying,offers⟩:=g;obtain⟨c,cs',s,t,u⟩:=g';simp only at st a k m of n hl j hcs b hb i;subst st a k m of n hl j;have d:=Mm (bot:=bot) (up:=up) (mn:=mn) fit f b hcs hb;have o:=λh=>DL (bot:=bot) (up:=up) (mn:=mn) fit f b hcs hb h (λhd e=>by subst e;exact i h hd rfl);obtain⟨fn,tmps,todo,defers,mode,kind,v⟩:=fr;obtain⟨x,y,z,A,p,B,C⟩:=c;have q:qE F ρ mode p:=b.mode;unfold stepG
 cases q with
 |run=>exact d
 |returning=>exact o ar
 |panicking _=>exact o ar
end
end Go.bJ
namespace Go.Proofs
set_option maxRecDepth 100000
def aD(dst:Option Nat)(op:Op)(guard:Option (Nat×Bool)):bv:={ dst,op,type:=0,pos:= "b",after:=#[],guard }
noncomputable def adS:Array bv:=#[
 aD (some 3) (gr 77 #[(0,gp 0)]) (none),
 aD (some 4) (gt 77 (gp 0) 0) (none),
 aD (some 5) (gt 27 (gp 4) 0) (none),
 aD (some 6) (gt 27 (gp 4) 1) (none),
 aD (some 7) (gt 27 (gp 4) 2) (none),
 aD (some 8) (gt 27 (gp 4) 3) (none),
 aD (some 9) (gt 27 (gp 4) 4) (none),
 aD (some 10) (gt 27 (gp 4) 5) (none),
 aD (some 11) (gw gG 3 (gp 5) (gl (f6 g6 0)) 3) (none),
 aD (some 12) (gw gG 3 (gp 6) (gl (f6 g6 0)) 3) (none),
 aD (some 13) (gy { callee:=.builtin .len,args:=#[gp 7],argTypes:=#[22] }) (none),
 aD (some 14) (gy { callee:=.builtin .len,args:=#[gp 8],argTypes:=#[23] }) (none),
 aD (some 15) (gy { callee:=.builtin .len,args:=#[gp 9],argTypes:=#[24] }) (none),
 aD (some 16) (gy { callee:=.builtin .len,args:=#[gp 10],argTypes:=#[25] }) (none),
 aD (some 17) (gw .leq 3 (gl (f6 g6 2)) (gp 15) 3) (none),
 aD (none) (gt 3 (gl (f6 g6 0)) 0) (some (14,false)),
 aD (some 18) (gw .leq 3 (gp 15) (gl (f6 g6 5)) 3) (none),
 aD (none) (gt 3 (gl (f6 g6 0)) 0) (some (16,false)),
 aD (some 19) (gw .leq 3 (gp 16) (gl (f6 g6 3)) 3) (none),
 aD (none) (gt 3 (gl (f6 g6 0)) 0) (some (18,false)),
 aD (some 3) (gw .eql 24 (gp 9) (gl (f8 none 0 0)) 24) (none),
 aD (none) (gt 3 (gl (f6 g6 0)) 0) (some (20,true)),
 aD (some 20) (gB (gl (f6 g6 0))) (none),
 aD (some 21) (gB (gl (f6 g6 0))) (none)]
noncomputable def ahD:Array bv:=#[
 aD (some 23) (gD 24 (gp 9) (gp 20)) (none),
 aD (some 24) (gE 88 (gp 23)) (none),
 aD (some 25) (gt 88 (gp 24) 0) (none),
 aD (some 26) (gw gL 9 (gp 25) (gl (f7 ByteArray.empty)) 9) (none),
 aD (some 27) (gt 88 (gp 24) 1) (none),
 aD (some 28) (gt 56 (gp 27) 0) (none),
 aD (some 29) (gw gG 3 (gp 28) (gl (f6 g6 0)) 3) (none),
 aD (some 30) (gt 56 (gp 27) 1) (none),
 aD (some 31) (gw gG 3 (gp 30) (gl (f6 g6 0)) 3) (none),
 aD (some 32) (gt 88 (gp 24) 2) (none),
 aD (some 33) (gt 56 (gp 32) 0) (none),
 aD (some 34) (gw gG 3 (gp 33) (gl (f6 g6 0)) 3) (none),
 aD (some 35) (gt 56 (gp 32) 1) (none),
 aD (some 36) (gw gG 3 (gp 35) (gl (f6 g6 0)) 3) (none),
 aD (some 37) (gt 88 (gp 24) 5) (none),
 aD (some 38) (gt 56 (gp 37) 0) (none),
 aD (some 39) (gw gG 3 (gp 38) (gl (f6 g6 0)) 3) (none),
 aD (some 40) (gt 56 (gp 37) 1) (none),
 aD (some 41) (gw gG 3 (gp 40) (gl (f6 g6 0)) 3) (none),
 aD (some 42) (gt 88 (gp 24) 6) (none),
 aD (some 43) (gt 56 (gp 42) 0) (none),
 aD (some 44) (gw gG 3 (gp 43) (gl (f6 g6 0)) 3) (none),
 aD (some 45) (gt 56 (gp 42) 1) (none),
 aD (some 46) (gw gG 3 (gp 45) (gl (f6 g6 0)) 3) (none),
 aD (some 47) (gt 88 (gp 24) 3) (none),
 aD (some 48) (gw gG 3 (gp 47) (gl (f6 g6 0)) 3) (none),
 aD (some 49) (gt 88 (gp 24) 4) (none),
 aD (some 50) (gw gG 3 (gp 49) (gl (f6 g6 0)) 3) (none),
 aD (some 51) (gt 88 (gp 24) 7) (none),
 aD (some 52) (gy { callee:=.builtin .len,args:=#[gp 51],argTypes:=#[42] }) (none),
 aD (some 53) (gw gL 3 (gp 20) (gl (f6 g6 1)) 3) (none),
 aD (some 20) (gB (gp 53)) (none)]
noncomputable def aen:Array bv:=#[
 aD (some 11) (gw .eql 25 (gp 10) (gl (f8 none 0 0)) 25) (none),
 aD (none) (gt 3 (gl (f6 g6 0)) 0) (some (0,true)),
 aD (some 55) (gD 25 (gp 10) (gp 21)) (none),
 aD (some 56) (gE 32 (gp 55)) (none),
 aD (some 57) (gt 32 (gp 56) 0) (none),
 aD (some 58) (gw gL 9 (gp 57) (gl (f7 ByteArray.empty)) 9) (none),
 aD (some 59) (gt 32 (gp 56) 1) (none),
 aD (some 60) (gw gG 3 (gp 59) (gl (f6 g6 0)) 3) (none),
 aD (some 61) (gw .leq 3 (gl (f6 g6 0)) (gp 59) 3) (none),
 aD (none) (gt 3 (gl (f6 g6 0)) 0) (some (8,false)),
 aD (some 62) (gw g0 3 (gp 59) (gp 15) 3) (none),
 aD (none) (gt 3 (gl (f6 g6 0)) 0) (some (10,false)),
 aD (some 63) (gt 32 (gp 56) 2) (none),
 aD (some 64) (gw gG 3 (gp 63) (gl (f6 g6 0)) 3) (none),
 aD (some 65) (gw gL 3 (gp 21) (gl (f6 g6 1)) 3) (none),
 aD (some 21) (gB (gp 65)) (none)]
noncomputable def amH:Array bv:=#[aD (some 22) (gw g0 3 (gp 20) (gp 15) 3) (none)]
noncomputable def amI:Array bv:=#[aD (some 54) (gw g0 3 (gp 21) (gp 16) 3) (none)]
noncomputable def ap2:Array bv:=#[
 aD (some 66) (.alloc 113) (none),
 aD (some 67) (gB (gl (f6 g6 0))) (none)]
noncomputable def amJ:Array bv:=#[
 aD (some 68) (gw g0 3 (gp 67) (gp 16) 3) (none)]
noncomputable def opsL:Array bv:=#[
 aD (some 69) (gD 25 (gp 10) (gp 67)) (none),
 aD (some 70) (gE 32 (gp 69)) (none),
 aD (some 71) (gt 32 (gp 70) 1) (none),
 aD (some 72) (gt 32 (gp 70) 2) (none),
 aD (some 73) (gt 32 (gp 70) 2) (none),
 aD (some 74) (gB (gl (f6 g6 0))) (none)]
noncomputable def al8:Array bv:=#[
 aD (some 75) (gw g0 3 (gp 74) (gp 15) 3) (none)]
noncomputable def agX:Array bv:=#[
 aD (some 76) (gD 24 (gp 9) (gp 71)) (none),
 aD (some 77) (gE 88 (gp 76)) (none),
 aD (some 78) (gt 88 (gp 77) 5) (none),
 aD (some 79) (gt 56 (gp 78) 0) (none),
 aD (some 80) (gt 56 (gp 78) 1) (none),
 aD (some 81) (gt 88 (gp 77) 6) (none),
 aD (some 82) (gt 56 (gp 81) 0) (none),
 aD (some 83) (gt 56 (gp 81) 1) (none),
 aD (some 84) (gw gL 3 (gp 72) (gp 79) 3) (none),
 aD (some 85) (gw gL 3 (gp 73) (gp 80) 3) (none),
 aD (some 86) (gr 56 #[(0,gp 72),(1,gp 73)]) (none),
 aD (some 87) (gr 56 #[(0,gp 84),(1,gp 85)]) (none),
 aD (some 88) (gr 72 #[(0,gp 71),(1,gp 86),(2,gp 87)]) (none),
 aD (some 89) (gD 113 (gp 66) (gp 67)) (none),
 aD (some 90) (gD 111 (gp 89) (gp 71)) (none),
 aD (none) (.store 72 (gp 90) (gp 88)) (none),
 aD (some 91) (gw gL 3 (gp 84) (gp 82) 3) (none),
 aD (some 92) (gw gL 3 (gp 85) (gp 83) 3) (none),
 aD (some 72) (gB (gp 91)) (none),
 aD (some 73) (gB (gp 92)) (none),
 aD (some 93) (gw gL 3 (gp 71) (gl (f6 g6 1)) 3) (none),
 aD (some 94) (gw .eql 3 (gp 93) (gp 15) 3) (none),
 aD (some 95) (.pick (gp 94) (gl (f6 g6 0)) (gp 93)) (none),
 aD (some 71) (gB (gp 95)) (none),
 aD (some 96) (gw gL 3 (gp 74) (gl (f6 g6 1)) 3) (none),
 aD (some 74) (gB (gp 96)) (none)]
noncomputable def amK:Array bv:=#[
 aD (some 97) (gw gL 3 (gp 67) (gl (f6 g6 1)) 3) (none),
 aD (some 67) (gB (gp 97)) (none)]
noncomputable def ap3:Array bv:=#[
 aD (some 2) (gB (gp 66)) (none)]
noncomputable def ac6(n r:Nat)(test:Array bv)(t:Nat)(body:bq):bq:=.block n (.loop (g7 (g8 r test false) (g7 (.cond (gp t) .skip (.exit n)) body)))
noncomputable def aeo:bq:=g7 (g8 5 ap2 false) (g7 (ac6 2 6 amJ 68 (g7 (g8 7 opsL false) (g7 (ac6 3 8 al8 75 (g8 9 agX false)) (g8 10 amK false)))) (g7 (g8 11 ap3 false) .ret))
noncomputable def sU:bq:=g7 (g8 0 adS false) (g7 (ac6 0 1 amH 22 (g8 2 ahD false)) (g7 (ac6 1 3 amI 54 (g8 4 aen false)) aeo))
noncomputable def nS:a8:={ Tryz.f29 with ntmps:=98,body:=some sU }
noncomputable def cY:aa:={ toTables:=e7,funcs:=Tryz.funcs.setIfInBounds 29 nS }
end Go.Proofs
