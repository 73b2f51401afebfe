/- Part of the proof of FieldNarrow. -/
import Derived.Test.YtmpgbncpnljnoaaGreatU00
import Derived.Calls
import Derived.Conc.Beside
import Derived.Conc.FxBegin
import Derived.Conc.HoldsTime
import Derived.KernelRfl
import Derived.Test.YtmpgbncpnljnoaaGreatProg
set_option linter.all false
open Go renaming Tables->aa,FuncId->ab,TypeId->ac,Question->ad,choose->ae,Program->ag,yielded->ai,resolve->ao,Goroutine->ap,Result->aq,setObj->ar,doReturn->aw,unwind->aB,results->aH
open Go.Program renaming mk->aI
open Go.bJ renaming codeOk->aL
open Nat renaming le_refl->aS,sub_self->a5,le_trans->a6,lt_or_ge->a7,succ_pos->a8,eq_zero_or_pos->a9,lt_of_lt_of_le->ba
open Go.stepG renaming exec->bb,apply->bc,oper->bd
open Go.Item renaming code->bg,endRangeFunc->bi,inRangeFunc->bj
open Go.Frame renaming raise->bm,eval->bo,enter->bp,catches->bq
open Bool renaming and_eq_true->br,not_true->bs,false_eq_true->bt
open Go.Result renaming ok->bv,world->bx,halt->bA
open Go.Sem renaming run->bC,choose->bL,run_bind'->bM,runT_fst->bR
open Go.World renaming freeze->bT,re->b1
open Array renaming toList_modify->b2,toList_push->b3,getElem?_eq_getElem->b4,getElem?_setIfInBounds_ne->b5,getElem?_map->b6
open Go.GStep renaming after->b8,go->b9,ended->ca
open Classical renaming byContradiction->cb
open List renaming range->cc,getElem?_append_left->cd
open Go.Conc renaming Leavers->ce,runT_crowd_go->cf,woken_quitsD->cg,Deaf_other->ch,mem_ofEvents->ci
open Go.MemAct renaming ofEvent->cl,touch?->cm
open Or renaming inl->co,inr->cp
open Go.GoStatus renaming running->cq
open Go.Halt renaming panic->ct,stuck->cu,unsupported->cx
open Go.Outcome renaming stuck->cB
open Go.Fn renaming yield->cC
open Go.FrameMode renaming run->cQ,panicking->c4,returning->c5
open Go.CallKind renaming normal->c6
namespace Go.bJ
section
variable {T:aa}{fB fA:Array Func}{F X:ab->Bool}{Z:ac->Bool}{bot:Frame}{ρ σ:Ren}{w w':World}
def ou(c:Wd T F Z ρ w w')(q:ad):∃n f w1 d,(ae q).run (aI T fB) w=bv n w1/\(ae q).run (aI T fA) w'=bv n d/\cE T.globals.size F (aL T F Z) ρ w w' f w1 d #[]:=by
 have e:∀(P:ag)(w:World),(ae q).run P w=if q.forced then bv 0 w else bv (q.cut (w.tape w.drawn q)) { w with drawn:=w.drawn+1 }:=λP w=>rfl
 rw[e,e,c.tape,c.drawn]
 cases q.forced with
 |true=>exact⟨0,ρ,w,w',rfl,rfl,c.refl⟩
 |false=>
  have hb:=c.refl;refine⟨_,ρ,_,_,rfl,rfl,?_⟩;exact⟨hb.le,hb.inj,⟨c.wr.pK,c.wr.gN,c.wr.obj⟩,rfl,rfl,rfl,rfl,rfl,aS _,aS _,λ_ _ _=>rfl,λ_ a b=>absurd b (Nat.not_lt.2 a),λ_ _ h=>co h,by simp,λ_ _ _ _ h=>⟨h,rfl⟩⟩
def ef.Oy{a:Ren}{w1 b:World}{s s':GStep}(c:cE T.globals.size F (aL T F Z) ρ w w' a w1 b #[])(h:ef T fB fA F X Z bot a w1 b s s'):ef T fB fA F X Z bot ρ w w' s s':=by
 cases s with
 |go n w2 o=>
  obtain⟨f,g,i,j,l,d,e,k,m⟩:=h;exact⟨f,g,i,j,l,d,e,by simpa using c.trans k,m⟩
 |ended _ _ _=>trivial
 |_=>exact h.elim
def Oz(fit:Fits T fB fA F X Z)(p:Wd T F Z ρ w w'){fr fr':Frame}{cs cs':List Frame}(o:aQ T F Z fB fA ρ fr fr')(hcs:cj T F Z fB fA ρ cs cs')(hb:dn (fr::cs)) :
 ef T fB fA F X Z bot ρ w w' (bb (aI T fB) true true fr (cs++[bot]) none w) (bb (aI T fA) true true fr' cs' none w'):=by
 obtain⟨fn,tmps,todo,defers,mode,kind,x⟩:=fr;obtain⟨q,u,S,y,z,A,B⟩:=fr';have U:cN T F Z ρ todo S:=o.todo;have to:∀{N O:List Item},cN T F Z ρ N O->ef T fB fA F X Z bot ρ w w' (b9 { frame:=⟨fn,tmps,N,defers,mode,kind,x⟩,callers:=cs++[bot],status:=cq,dying:=none } w) (b9 { frame:=⟨q,u,O,y,z,A,B⟩,callers:=cs',status:=cq,dying:=none } w'):=
  λh=>mQ p (o.lO h) hcs (hb.top rfl)
 have lv:=λj V=>LI (bot:=bot) (X:=X) p o hcs hb j V;unfold bb
 cases U with
 |nil=>exact lv none (λc e=>by cases e)
 |@cons i i' k k' h t=>
  cases h with
  |inBlock id=>exact to t
  |inLoop c hc=>exact to (.cons (.code c hc) (.cons (.inLoop c hc) t))
  |inScope c hc=>exact to t
  |inRangeFunc hl=>trivial
  |beginRound=>
   refine Af fit p o hcs hb (vX p.inj ?_)
   rcases jP o.roundOf with⟨C,D⟩|⟨l,E,C,D,hl⟩
   ·simp only at C D;subst C D;exact ak
   ·simp only at C D;subst C D;exact lg p.inj hl
  |@endRangeFunc l E hl=>
   exact sk p (qW p.inj hl)
    (f:=λr=>match r with
      |bv jump w=>b9 { frame:=⟨fn,tmps,(jump.map bg).toList++k,defers,mode,kind,x⟩,callers:=cs++[bot],status:=cq,dying:=none } w
      |bA (ct v) w=>b9 { frame:=bm ⟨fn,tmps,bi l::k,defers,mode,kind,x⟩ [{ v,recovered:=false }],callers:=cs++[bot],status:=cq,dying:=none } w
      |bA _ w=>ca (cB "range over a function: no such loop" _) w)
    (f':=λr=>match r with
      |bv jump w=>b9 { frame:=⟨q,u,(jump.map bg).toList++k',y,z,A,B⟩,callers:=cs',status:=cq,dying:=none } w
      |bA (ct v) w=>b9 { frame:=bm ⟨q,u,bi E::k',y,z,A,B⟩ [{ v,recovered:=false }],callers:=cs',status:=cq,dying:=none } w
      |bA _ w=>ca (cB "range over a function: no such loop" _) w) fn q
    (λH a P w1 J new g K=>by
      obtain⟨rfl,W⟩:=K;refine mQ g.wd ((o.mono g.le).lO (cN.append ?_ (t.mono g.le))) (hcs.mono g.le) (hb.top rfl)
      cases a with
      |none=>exact .nil
      |some c=>exact .cons (.code c (W c rfl)) .nil)
    (λH v v' w1 J new g hv=>mQ g.wd ((o.mono g.le).raise (.cons hv .nil)) (hcs.mono g.le) (hb.top (eC _ _)))
    (λ_ _=>⟨_,_,_,rfl⟩) (λ_ _ _=>⟨_,_,_,rfl⟩)
  |inRegion ops todo Y=>
   cases todo with
   |nil=>exact to t
   |cons i Q=>
    simp only;rw[show ai ops u=ai ops tmps from funext λj=>(oo ops o.tmps j).symm]
    cases((ops[i]?).map (Region.wanted · (ai ops tmps))).getD false with
    |true=>exact Ox fit p o hcs hb rfl Y
    |false=>exact mQ p (o.finish .undef) hcs (hb.top (bZ _ _))
  |code c hc=>
   cases c with
   |ret=>exact lv (some .ret) (λc e=>by cases e;rfl)
   |skip=>exact to t
   |label _=>exact to t
   |seq a b=>
    simp only[aL,br]at hc;exact to (.cons (.code a hc.1) (.cons (.code b hc.2) t))
   |cond c a b=>
    simp only[aL,br]at hc;have hv:=dD o.tmps c hc.1.1;simp only;generalize bo _ c=v at hv ⊢;generalize bo _ c=v' at hv ⊢
    cases hv with
    |bool b'=>
     cases b' with
     |true=>exact to (.cons (.code a hc.1.2) t)
     |false=>exact to (.cons (.code b hc.2) t)
    |_=>trivial
   |block id b=>exact to (.cons (.code b hc) (.cons (.inBlock id) t))
   |loop b=>exact to (.cons (.code b hc) (.cons (.inLoop b hc) t))
   |scope b=>exact to (.cons (.code b hc) (.cons (.inScope b hc) t))
   |exit id=>
    simp only
    rcases xo id t with⟨x1,x2⟩|⟨m,m',x1,x2,L⟩
    ·rw[x1,x2];exact lv (some (.exit id)) (λc e=>by cases e;rfl)
    ·rw[x1,x2];exact to L
   |goto id=>
    simp only
    rcases xq id t with⟨x1,x2⟩|⟨m,m',x1,x2,L⟩
    ·rw[x1,x2];exact lv (some (.goto id)) (λc e=>by cases e;rfl)
    ·rw[x1,x2];exact to L
   |refuse why=>cases hc
   |rangeFunc f params assign body=>
    simp only[aL,br]at hc;simp only;have I:=o.fn;simp only at I;subst I;have hs:=mO (T:=T) (fB:=fB) (fA:=fA) (Z:=Z) p.inj q o.mI o.tmps params assign body hc.1.2 hc.2 o.roundOf;exact sk p hs
     (f:=λr=>match r with
       |bv (l,mark) w=>
        let fr:Frame:=⟨q,tmps,bj l::k,mark++defers,mode,kind,x⟩
        let call:Call:={ callee:=.value f,args:=#[.const (.func (cC l) #[] #[])],argTypes:=#[] }
        bc (aI T fB) true fr (cs++[bot]) none (do let d<-ao fr.eval call 0;invoke d.target d.args) w
       |bA _ w=>ca (cB "range over a function: no such loop" _) w)
     (f':=λr=>match r with
       |bv (l,mark) w=>
        let fr:Frame:=⟨q,u,bj l::k',mark++y,z,A,B⟩
        let call:Call:={ callee:=.value f,args:=#[.const (.func (cC l) #[] #[])],argTypes:=#[] }
        bc (aI T fA) true fr cs' none (do let d<-ao fr.eval call 0;invoke d.target d.args) w
       |bA _ w=>ca (cB "range over a function: no such loop" _) w) q q
     (λH a P w1 J new g K=>by
       obtain⟨l,mark⟩:=a;obtain⟨E,OA⟩:=P;obtain⟨hl,M⟩:=K;have s:=o.mono g.le;have R:aQ T F Z fB fA H ⟨q,tmps,bj l::k,mark++defers,mode,kind,x⟩ ⟨q,u,bj E::k',OA++y,z,A,B⟩:=
        ⟨s.fn,s.same,s.mI,s.tmps,.cons (.inRangeFunc hl) (t.mono g.le),fS.append M s.defers,s.mode,s.kind,s.bX,s.roundOf,s.ret⟩
       exact Af fit g.wd R (hcs.mono g.le) (hb.top rfl) (jE fit.zero fit.fns g.inj (dD R.tmps f hc.1.1) (by
        have hv:cU F H [.func (cC l) #[] #[]] [.func (cC E) #[] #[]]:=.cons (.func (.yield hl) .nil .nil) .nil
        simpa[bo]using hv)))
     (λ_ _ _ _ _ _ _ _=>trivial) (λ_ _=>⟨_,_,_,rfl⟩) (λ_ _ _=>⟨_,_,_,rfl⟩)
   |region id ops draw=>
    simp only
    cases draw with
    |false=>exact to (.cons (.inRegion ops _ hc) t)
    |true=>
     simp only[bs,bt,if_false];obtain⟨n,H,w1,J,c1,c2,g⟩:=ou (fB:=fB) (fA:=fA) p (.order fn id);have I:=o.fn;simp only at I;subst I;rw[c1,c2];exact ef.Oy g (mQ g.wd ((o.mono g.le).lO (.cons (.inRegion ops _ hc) (t.mono g.le))) (hcs.mono g.le) (hb.top rfl))
def sr(fit:Fits T fB fA F X Z)(f:Wd T F Z ρ w w'){g g':ap}(hg:GR T fB fA F X Z bot ρ g g')(b:aQ T F Z fB fA ρ g.frame g'.frame)
 (i:g.frame.mode≠cQ->g.frame.defers=[]->g.callers≠[bot]):ef T fB fA F X Z bot ρ w w' (stepG (aI T fB) true g w) (stepG (aI T fA) true g' w'):=by
 obtain⟨_,⟨l,hl,hcs,hb,_⟩,st,a,j,k,of,m⟩:=hg;obtain⟨fr,cs,status,dying,offers⟩:=g;obtain⟨c,cs',q,r,s⟩:=g';simp only at st a j k of m hl hcs b hb i;subst st a j k of m hl;have d:=Oz (bot:=bot) fit f b hcs hb;have n:=λh=>Gq (bot:=bot) (X:=X) f b hcs hb h (λhd e=>by subst e;exact i h hd rfl);obtain⟨fn,tmps,todo,defers,mode,kind,t⟩:=fr;obtain⟨u,v,x,y,o,z,A⟩:=c;have p:qE F ρ mode o:=b.mode;unfold stepG
 cases p with
 |run=>exact d
 |returning=>exact n (by simp)
 |panicking _=>exact n (by simp)
end
def dN{b:Type}(f:World->aq b)(w:World):Prop:=
 w.drawn<=(f w).world.drawn/\(f w).world.tape=w.tape/\
  ∀(a:Tape)(d:Nat),(∀i,i<(f w).world.drawn-w.drawn->a (d+i)=w.tape (w.drawn+i))->f (w.re a d)=(f w).re a (d+((f w).world.drawn-w.drawn))
def dN.pass{j:Type}{f g:World->aq j}{w w1:World}(i:f w=g w1)(hd:w1.drawn=w.drawn)(k:w1.tape=w.tape)(l:∀e d,f (w.re e d)=g (w1.re e d))(h:dN g w1):dN f w:=by
 obtain⟨a,b,c⟩:=h;refine⟨by rw[i,<-hd];exact a,by rw[i,<-k];exact b,λe d m=>?_⟩
 grind
def dN.stop{e:Type}{f:World->aq e}{w:World}{h:Halt}(c:∀a d,f (w.re a d)=bA h (w.re a d)):dN f w:=by
 have b:f w=bA h w:=c w.tape w.drawn;refine⟨by rw[b];exact aS _,by rw[b];rfl,λa d _=>?_⟩;rw[b,c];show Result.halt h (w.re a d)=bA h (w.re a (d+(w.drawn-w.drawn)));rw[a5];rfl
section
variable {T:aa}{fB fA:Array Func}{G:Nat}{F:ab->Bool}{K:Code->Bool}
def bW.TF{a:Type}{s:Sem a}(h:bW T fB s){w:World}:dN (s.run ⟨T,fB⟩) w:=by
 obtain⟨x,_,e⟩:=h.run w;exact dN.stop e
def av.loc{W X:Type}{RA:Ren->W->X->Prop}{s:Sem W}:∀{ρ:Ren}{s':Sem X}{w w':World},av T fB fA F K RA ρ s s'->ρ.bw T.globals.size->WR T.globals.size F K ρ w w'->w.tape=w'.tape->w.drawn=w'.drawn->
 dN (s.run ⟨T,fB⟩) w:=by
 induction s with
 |pure a=>
  rintro ρ s' w w' _ l f j hd;refine⟨aS _,rfl,λe d _=>?_⟩;show bv a (w.re e d)=bv a (w.re e (d+(w.drawn-w.drawn)));rw[a5];rfl
 |halt h=>intro ρ s' w w' hs l f j hd;exact dN.stop λ_ _=>rfl
 |load m a k x=>
  rintro ρ s' w w'⟨m',J,k',rfl,rfl,rfl,C,y⟩l f j hd
  rcases lF (T:=T) (fB:=fB) f C with⟨D,s,S⟩|⟨v,v',c,Y,t,z,D,S,hv,_⟩
  ·refine dN.stop (h:=cu s) λe d=>?_;have e1:(w.re e d).cell? a=none:=D;have I:∀m,(w.re e d).farLoad ⟨T,fB⟩ a m=.error (cu s):=S;simp only[bC,e1,I]
  ·exact dN.pass (g:=(k v).run ⟨T,fB⟩) (w1:=w) (by simp only[bC,D]) rfl rfl (λe d=>by have e1:(w.re e d).cell? a=some v:=D;simp only[bC,e1]) (x v (y v v' hv) l f j hd)
 |store m a v k x=>
  rintro ρ s' w w'⟨m',J,v',k',rfl,rfl,rfl,C,hv,y⟩l f j hd;have key:(∀c,v≠.agg c)->(∀c,v≠.tuple c)->dN ((Sem.store .plain a v k).run ⟨T,fB⟩) w:=by
   intro H L
   rcases lF (T:=T) (fB:=fB) f C with⟨D,_⟩|⟨u,u',c,Y,t,z,D,S,hu,hs,Z,h4,hc⟩
   ·obtain⟨o,M,A,P,B⟩:=f.obj C.1;refine dN.stop (h:=cu "store: no such cell") λe d=>?_;rw[run_store _ _ _ _ H L];have e1:(w.re e d).cell? a=none:=D;have E:(w.re e d).heap[a.block]?=some o:=A;have hf:(w.re e d).farStore ⟨T,fB⟩ a v false=.error ((w.re e d).noCell a "store: no such cell"):=by
     cases B<;>simp[World.farStore,E]
    rw[e1];simp only[hf,mM E B]
   ·cases hz:w.frozen? a with
    |true=>
     refine dN.stop (h:=cx (.unsafePointer "a write to bytes that a string shares")) λe d=>?_;rw[run_store _ _ _ _ H L];have e1:(w.re e d).cell? a=some u:=D;have I:(w.re e d).frozen? a=true:=hz
     grind
    |false=>
     have fR:J.spot=none:=by rw[<-C.2.2];exact hs
     have aF:=lG l f j hd C.1 (.cells t z (VA.set hc a.off hv)) (new:=#[]) (by simp) (CR Z h4 v v' H L);refine dN.pass (g:=k.run ⟨T,fB⟩) (w1:=w.setCell a v) ?_ rfl rfl (λe d=>?_) ?_
     ·rw[run_store _ _ _ _ H L,D];grind
     ·have e1:(w.re e d).cell? a=some u:=D;have I:(w.re e d).frozen? a=false:=hz;rw[run_store _ _ _ _ H L,e1];simp only[I,bt,if_false];rfl
     ·rw[setCell_eq w a _ Z hs];exact x y l aF.wr j hd
  cases hv with
  |agg _=>exact dN.stop λ_ _=>rfl
  |tuple _=>exact dN.stop λ_ _=>rfl
  |hole _ _=>exact dN.stop λ_ _=>rfl
  |_=>exact key (by simp) (by simp)
 |new o k x=>
  rintro ρ s' w w'⟨M,k',rfl,B,y⟩l f j hd;have hs:=CQ l f j hd B;exact dN.pass (g:=(k w.heap.size).run ⟨T,fB⟩) (w1:={ w with heap:=w.heap.push o }) rfl rfl rfl (λe d=>rfl) (x w.heap.size (y _ _ f.fresh.1 f.fresh.2 f.pK f.gN) hs.inj hs.wr j hd)
 |shape r k x=>
  rintro ρ s' w w'(⟨r',k',rfl,N,y⟩|h)l f j hd;rotate_left
  ·exact bW.TF (s:=.shape r k) h
  exact dN.pass (g:=(k (w.shape? r)).run ⟨T,fB⟩) (w1:=w) rfl rfl rfl (λe d=>rfl) (x _ (y _) l f j hd)
 |freeze a n k x=>
  rintro ρ s' w w'⟨J,k',rfl,C,y⟩l f j hd;have fr:∀e d,(w.re e d).freeze a n=(w.freeze a n).re e d:=λe d=>by unfold bT;split<;>rfl
  have fd:(w.freeze a n).drawn=w.drawn/\(w.freeze a n).tape=w.tape:=by unfold bT;grind
  refine dN.pass (g:=k.run ⟨T,fB⟩) (w1:=w.freeze a n) rfl fd.1 fd.2 (λe d=>by simp only[bC,fr]) ?_;by_cases U:n=0
  ·subst U;have e1:w.freeze a 0=w:=by simp[bT]
   grind
  obtain⟨o,M,A,P,B⟩:=f.obj C.1;have idle:(∀c t z,o≠.cells c t z)->w.freeze a n=w:=by
   intro bu;unfold bT;rw[if_neg U];obtain⟨heap,_,_,_,_⟩:=w;congr 1
   grind
  cases B with
  |@cells c Y t z hc=>
   obtain⟨lo,hi⟩:=z;rw[iz w a n U A];have hs:=lG l f j hd C.1 (.cells t (if lo==hi then(a.off,a.off+n) else(min lo a.off,max hi (a.off+n))) hc) (new:=#[]) (by simp) (IY A P _ _);exact x y l hs.wr j hd
  |_=>
   rw[idle (by simp)];exact x y l f j hd
 |frozen a k x=>
  rintro ρ s' w w'(⟨J,k',rfl,C,y⟩|h)l f j hd;rotate_left
  ·exact bW.TF (s:=.frozen a k) h
  exact dN.pass (g:=(k (w.frozen? a)).run ⟨T,fB⟩) (w1:=w) rfl rfl rfl (λe d=>rfl) (x _ (y _) l f j hd)
 |getObj r k x=>
  rintro ρ s' w w'⟨r',k',rfl,N,y⟩l f j hd;obtain⟨o,M,A,P,B⟩:=f.obj N;have key:(∀c t z,o≠.cells c t z)->dN ((Sem.getObj r k).run ⟨T,fB⟩) w:=by
   intro H;refine dN.pass (g:=(k o).run ⟨T,fB⟩) (w1:=w) ?_ rfl rfl (λe d=>?_) (x o (y o M B) l f j hd)
   ·simp only[bC,A]
   ·have E:(w.re e d).heap[r]?=some o:=A;simp only[bC,E]
  cases B with
  |cells t z hc=>
   refine dN.stop (h:=cu "getObj: a row of cells") λe d=>?_
   ·have E:(w.re e d).heap[r]?=_:=A;simp only[bC,E]
  |_=>exact key (by simp)
 |setObj r o k x=>
  rintro ρ s' w w'⟨r',M,k',rfl,N,⟨B,N8⟩,y⟩l f j hd;obtain⟨p,p',A,P,hp⟩:=f.obj N;have hs:=lG l f j hd N B (new:=#[]) (by simp) N8.hol;have key:(∀c t z,p≠.cells c t z)->dN ((Sem.setObj r o k).run ⟨T,fB⟩) w:=by
   intro H;refine dN.pass (g:=k.run ⟨T,fB⟩) (w1:={ w with heap:=w.heap.setIfInBounds r o }) ?_ rfl rfl (λe d=>?_) (x y l hs.wr j hd)
   ·simp only[bC,A]
   ·have E:(w.re e d).heap[r]?=some p:=A;simp only[bC,E];rfl
  cases hp with
  |cells t z hc=>
   refine dN.stop (h:=cu "setObj: a row of cells") λe d=>?_
   ·have E:(w.re e d).heap[r]?=_:=A;simp only[bC,E]
  |_=>exact key (by simp)
 |choose q k x=>
  rintro ρ s' w w'⟨k',rfl,y⟩l f j hd
  cases hf:q.forced with
  |true=>exact dN.pass (g:=(k 0).run ⟨T,fB⟩) (w1:=w) (by simp only[bC,hf,if_true]) rfl rfl (λe d=>by simp only[bC,hf,if_true]) (x _ (y _) l f j hd)
  |false=>
   have wK:WR T.globals.size F K ρ { w with drawn:=w.drawn+1 } { w' with drawn:=w'.drawn+1 }:=⟨f.pK,f.gN,f.obj⟩
   obtain⟨a,b,c⟩:=x (q.cut (w.tape w.drawn q)) (y _) l wK j (by simp only[hd]);have Q:(bL q k).run ⟨T,fB⟩ w=(k (q.cut (w.tape w.drawn q))).run ⟨T,fB⟩ { w with drawn:=w.drawn+1 }:=by simp only[bC,hf,bt,if_false]
   generalize hR:(k (q.cut (w.tape w.drawn q))).run ⟨T,fB⟩ { w with drawn:=w.drawn+1 }=R at a b c Q;have J:w.drawn+1<=R.world.drawn:=a;refine⟨by rw[Q];omega,by rw[Q];exact b,λe d V=>?_⟩;rw[Q]at V ⊢;have O:=V 0 (by omega);simp only[Nat.add_zero]at O;have e1:(bL q k).run ⟨T,fB⟩ (w.re e d)=(k (q.cut (e d q))).run ⟨T,fB⟩ (w.re e (d+1)):=by
    simp only[bC,hf,bt,if_false];rfl
   rw[e1,O]
   have:=c e (d+1) (λi hi=>by
    have mS:i<R.world.drawn-(w.drawn+1):=hi;show e (d+1+i)=w.tape (w.drawn+1+i);have:=V (1+i) (by omega)
    grind)
   have I:d+1+(R.world.drawn-(w.drawn+1))=d+(R.world.drawn-w.drawn):=by omega
   rw[<-I];exact this
 |sys c k x=>intro ρ s' w w' h;exact h.elim
 |program k x=>
  rintro ρ s' w w'(⟨k',rfl,y⟩|CS)l f j hd
  ·exact dN.pass (g:=(k ⟨T,fB⟩).run ⟨T,fB⟩) (w1:=w) rfl rfl rfl (λe d=>rfl) (x _ y l f j hd)
  ·exact bW.TF (s:=.program k) CS
 |mark m k x=>
  rintro ρ s' w w'(⟨k',rfl,hm,y⟩|h)l f j hd
  ·exact dN.pass (g:=k.run ⟨T,fB⟩) (w1:=w) rfl rfl rfl (λe d=>rfl) (x y l f j hd)
  ·exact bW.TF (s:=.mark m k) h
def dN.bind{l m:Type}{P:ag}{s:Sem l}{f:l->Sem m}{w:World}(hs:dN (s.run P) w)(hf:∀a w1,s.run P w=bv a w1->dN ((f a).run P) w1):dN ((s.bind f).run P) w:=by
 obtain⟨a,b,c⟩:=hs
 cases j:s.run P w with
 |halt h w1=>
  rw[j]at a b c;have e:(s.bind f).run P w=bA h w1:=by rw[bM,j];rfl
  refine⟨by rw[e];exact a,by rw[e];exact b,λk d g=>?_⟩;rw[e]at g ⊢;rw[bM,c k d g];rfl
 |ok x w1=>
  rw[j]at a b c;obtain⟨a2,n,o⟩:=hf x w1 j;have e:(s.bind f).run P w=(f x).run P w1:=by rw[bM,j];rfl
  have r:w.drawn<=w1.drawn:=a;have b':w1.tape=w.tape:=b;refine⟨by grind,by rw[e];exact n.trans b',λk d g=>?_⟩;rw[e]at g ⊢;have p:=c k d (λi hi=>g i (by have:i<w1.drawn-w.drawn:=hi;omega))
  have q:=o k (d+(w1.drawn-w.drawn)) (λi hi=>by
   have:=g ((w1.drawn-w.drawn)+i) (by omega)
   grind)
  rw[bM,p];show(f x).run P (w1.re k (d+(w1.drawn-w.drawn)))=_;rw[q];congr 1;omega
def TG{ρ:Ren}(l:ρ.bw T.globals.size){w w':World}(u:WR T.globals.size F K ρ w w')(y:w.tape=w'.tape)(hd:w.drawn=w'.drawn)(t:ac){m:Nat}(B:∀k e,tY T t=some (.map k e)->og T m k=true){x C i i' v v':Value}(D:VR F ρ x C)(hi:VR F ρ i i')(hv:VR F ρ v v') :
 dN ((Instr.mapUpdate t x i v).run ⟨T,fB⟩) w:=by
 rw[jg];have z:=uX (fB:=fB) (fA:=fB) (F:=F) (K:=K) l t B D hi;refine dN.bind (av.loc z l u y hd) λa w1 e=>?_;have h:=av.run #[] z l u y hd;rw[e]at h;obtain⟨E,H,N,new,_,k,I⟩:=h;obtain⟨r,es,clock,O⟩:=a;obtain⟨o,f,P,J⟩:=H;obtain⟨p,g,hc,d⟩:=I;simp only at p g hc d;subst hc;have hi:=hi.mono k.le;have hv:=hv.mono k.le;have put:∀(j:Nat){c:Ren}{k k':Value},E.le c->VR F c k k'->av T fB fB F K fF c (ar r (.map (es.modify j λe=>{ e with key:=k,val:=v }) clock)) (ar o (.map (f.modify j λe=>{ e with key:=k',val:=v' }) clock)):=by
  intro j c k k' b q;refine dV (b p) (.map _ ?_);rw[b2,b2];exact bD.modify (g.mono b) j λe Q L=>⟨q,hv.mono b,L.born⟩
 cases d with
 |none=>
  refine av.loc (fA:=fB) (s':=ar o (.map (f.push { key:=i',val:=v',born:=clock }) (clock+1))) (dV p (.map _ ?_)) k.inj k.wr k.tape k.drawn;rw[b3,b3];exact bD.append g (.cons ⟨hi,hv,rfl⟩ .nil)
 |some j _=>
  have hold:=Aa g j hi;unfold rZ;simp only;generalize(((es[j]?).map (·.key)).getD i)=s at hold;generalize(((f[j]?).map (·.key)).getD i')=M at hold;unfold Instr.keyThatStays;by_cases A:Instr.sameBits 10000 s i=true
  ·rw[if_pos A];exact av.loc (put j (Ren.le_refl _) hi) k.inj k.wr k.tape k.drawn
  ·rw[if_neg A];refine av.loc (fA:=fB) (RA:=fF) (s':=Sem.bind (do pure (if(<-ae (.extern "map.whichKeyStays" 2))=0 then i' else M)) λk'=>ar o (.map (f.modify j λe=>{ e with key:=k',val:=v' }) clock)) ?_ k.inj k.wr k.tape k.drawn;refine av.bind k.inj (RA:=RV F) ?_ λc b _ k k' q=>put j b q;refine af k.inj (lH _) λc b _ n n' e=>?_;subst e;refine ah ?_
   split
   ·exact hi.mono b
   ·exact hold.mono b
def OC{c:Type}(P:ag)(a:c)(w:World):dN ((Sem.pure a).run P) w:=by
 refine⟨aS _,rfl,λb d _=>?_⟩;show bv a (w.re b d)=bv a (w.re b (d+(w.drawn-w.drawn)));rw[a5];rfl
def Yg{Z:ac->Bool}(g:dM T F Z)(hF:si fB fA F){ρ:Ren}(b:ρ.bw T.globals.size){w w':World}(c:WR T.globals.size F K ρ w w')(d:w.tape=w'.tape)(hd:w.drawn=w'.drawn){e e':Operand->Value}(a:lN F ρ e e')(o:Oper)(ok:jh T F Z o.op=true) :
 dN ((execOp e o).run ⟨T,fB⟩) w:=by
 by_cases f:Dc o.op=true
 ·obtain⟨t,x,y,z,h,i⟩:=xj e o f;obtain⟨k1,k2,k3,j⟩:=Dd h ok;rw[i];exact dN.bind (TG b c d hd t k1 (a x k2) (a y k3) (a z j)) λ_ _ _=>OC _ _ _
 ·exact av.loc (ug (fA:=fA) g hF b a o ok (by simpa using f)) b c d hd
end
def gq(f:World->GStep)(w:World):Prop:=
 ∀b w1 es,f w=b9 b w1 es->w.drawn<=w1.drawn/\w1.tape=w.tape/\
  ∀(a:Tape)(d:Nat),(∀i,i<w1.drawn-w.drawn->a (d+i)=w.tape (w.drawn+i))->∃c,f (w.re a d)=b9 b (w1.re a (d+(w1.drawn-w.drawn))) c
@[simp] def vZ(w:World):w.re w.tape w.drawn=w:=rfl
def gq.pure{f:World->GStep}{w:World}(G:ap)(h:∀a d,∃es,f (w.re a d)=b9 G (w.re a d) es):gq f w:=by
 intro c w1 es e;obtain⟨b,g⟩:=h w.tape w.drawn
 simp_all
def gq.never{f:World->GStep}{w:World}(h:∀a w1 es,f w≠b9 a w1 es):gq f w:=λa w1 es e=>absurd e (h a w1 es)
section
variable {T:aa}{fB fA:Array Func}{F X:ab->Bool}{Z:ac->Bool}{bot:Frame}{ρ σ:Ren}{w w':World}
def qp.ends{c d:Type}{RA:Ren->c->d->Prop}{s:Sem c}{f:aq d×Array Event}(b:qp T.globals.size F (aL T F Z) RA ρ w w' #[] f (s.run (aI T fB) w)) :
 (∃a w1,s.run (aI T fB) w=bv a w1/\∃e a',RA e a a')\/(∃v w1,s.run (aI T fB) w=bA (ct v) w1)\/(∃m w1,s.run (aI T fB) w=bA (cu m) w1)\/∃u w1,s.run (aI T fB) w=bA (cx u) w1/\dw u=true:=by
 generalize s.run (aI T fB) w=r at b
 cases r with
 |ok a w1=>
  obtain⟨e,a',g,new,_,_,e1,i,j⟩:=b
  grind
 |halt h w1=>
  cases h with
  |panic v=>grind
  |stuck m=>grind
  |unsupported u=>exact cp (cp (cp ⟨u,w1,rfl,b⟩))
  |_=>exact b.elim
def SR.ends{c d:Type}{RA:Ren->c->d->Prop}(b:Wd T F Z ρ w w'){s:Sem c}{s':Sem d}(hs:av T fB fA F (aL T F Z) RA ρ s s') :
 (∃a w1,s.run (aI T fB) w=bv a w1/\∃e a',RA e a a')\/(∃v w1,s.run (aI T fB) w=bA (ct v) w1)\/(∃m w1,s.run (aI T fB) w=bA (cu m) w1)\/∃u w1,s.run (aI T fB) w=bA (cx u) w1/\dw u=true:=
 qp.ends (av.run #[] hs b.inj b.wr b.tape b.drawn).zu
def iD{a:Type}(P:ag)(s:Sem a)(w:World){r:aq a}(h:s.run P w=r):s.runT P w #[]=(r,(s.runT P w #[]).2):=Prod.ext ((bR P s w #[]).trans h) rfl
section
variable {P:ag}{fr:Frame}{cs:List Frame}{s:Sem Next}{w w1:World}
def Df{v:Value}(h:s.run P w=bv (.value v) w1):∃es,bc P true fr cs none s w=b9 { frame:=fr.finish v,callers:=cs,status:=cq,dying:=none } w1 es:=by
 unfold bc;simp only[if_true];rw[iD P s w h];exact⟨_,rfl⟩
def Gr(h:s.run P w=bv .skip w1):∃es,bc P true fr cs none s w=b9 { frame:=fr.finish undef,callers:=cs,status:=cq,dying:=none } w1 es:=by
 unfold bc;simp only[if_true];rw[iD P s w h];exact⟨_,rfl⟩
def Dg{f:ab}{a:Array Value}(h:s.run P w=bv (.enter f a) w1):∃es,bc P true fr cs none s w=b9 { frame:=bp P f a (match fr.todo with | .call _ true _ _::_=>.wrapped|_=>c6),callers:=fr::cs,status:=cq,dying:=none } w1 es:=by
 unfold bc;simp only[if_true];rw[iD P s w h];exact⟨_,rfl⟩
def Dh{l:Nat}{f:ab}{a:Array Value}{c d:Code}(h:s.run P w=bv (.round l f a c d) w1):∃es,bc P true fr cs none s w=b9 { frame:=Frame.round l f a c d c6,callers:=fr::cs,status:=cq,dying:=none } w1 es:=by
 unfold bc;simp only[if_true];rw[iD P s w h];exact⟨_,rfl⟩
def Di{v:Value}(h:s.run P w=bA (ct v) w1):∃es,bc P true fr cs none s w=b9 { frame:=fr.raise [{ v,recovered:=false }],callers:=cs,status:=cq,dying:=none } w1 es:=by
 unfold bc;simp only[if_true];rw[iD P s w h];exact⟨_,rfl⟩
def Dj{m:String}(h:s.run P w=bA (cu m) w1):∃o w2 es,bc P true fr cs none s w=ca o w2 es:=by
 unfold bc;simp only[if_true];rw[iD P s w h];exact⟨_,_,_,rfl⟩
def su{u:Unsupported}(h:s.run P w=bA (cx u) w1)(a:dw u=true):∃o w2 es,bc P true fr cs none s w=ca o w2 es:=by
 unfold bc;simp only[if_true];rw[iD P s w h];cases u<;>first|exact⟨_,_,_,rfl⟩|cases a
end
def gq.from{l:Type}{P:ag}{s:Sem l}{w:World}(hs:dN (s.run P) w){f:World->GStep}
 (h:(∃g r,s.run P w=r/\∀i d,s.run P (w.re i d)=r.re i (d+(r.world.drawn-w.drawn))->∃es,f (w.re i d)=b9 g (r.world.re i (d+(r.world.drawn-w.drawn))) es)\/∀k w1 es,f w≠b9 k w1 es):gq f w:=by
 obtain⟨a,b,c⟩:=hs
 rcases h with⟨g,r,m,h⟩|n
 ·subst m;intro k w1 es e
  have j:=h w.tape w.drawn (by
   grind)
  have o:w.drawn+((s.run P w).world.drawn-w.drawn)=(s.run P w).world.drawn:=by omega
  obtain⟨p,j⟩:=j;rw[vZ,e,o,<-b,vZ]at j;cases j;exact⟨a,b,λi d q=>h i d (c i d q)⟩
 ·exact gq.never n
def xy{fr:Frame}{cs:List Frame}{s:Sem Next}{g:aq Next×Array Event}(hl:dN (s.run (aI T fB)) w)(i:qp T.globals.size F (aL T F Z) (gT F (aL T F Z)) ρ w w' #[] g (s.run (aI T fB) w)) :
 gq (λw=>bc (aI T fB) true fr cs none s w) w:=by
 refine gq.from hl ?_
 rcases qp.ends i with⟨a,w1,h,n,p,j⟩|⟨v,w1,h⟩|⟨m,w1,h⟩|⟨u,w1,h,k⟩
 ·cases j with
  |value hv=>exact co ⟨_,_,h,λb d e=>Df e⟩
  |skip=>exact co ⟨_,_,h,λb d e=>Gr e⟩
  |enter f hf l=>exact co ⟨_,_,h,λb d e=>Dg e⟩
  |round hl f hf l c d q r=>exact co ⟨_,_,h,λb d e=>Dh e⟩
 ·exact co ⟨_,_,h,λb d e=>Di e⟩
 ·obtain⟨o,w2,es,e⟩:=Dj (fr:=fr) (cs:=cs) h
  grind
 ·obtain⟨o,w2,es,e⟩:=su (fr:=fr) (cs:=cs) h k
  grind
def Ah(a:Wd T F Z ρ w w'){fr:Frame}{cs:List Frame}{s s':Sem Next}(hs:av T fB fA F (aL T F Z) (gT F (aL T F Z)) ρ s s') :
 gq (λw=>bc (aI T fB) true fr cs none s w) w:=
 xy (av.loc hs a.inj a.wr a.tape a.drawn) (av.run #[] hs a.inj a.wr a.tape a.drawn).zu
def wh{j l:Type}{RA:Ren->j->l->Prop}(k:Wd T F Z ρ w w'){s:Sem j}{s':Sem l}(hs:av T fB fA F (aL T F Z) RA ρ s s'){f:aq j->GStep}(fn:ab)
 (t:∀(n:Ren)(a:j)(a':l)(w1:World),s.run (aI T fB) w=bv a w1->RA n a a'->(∃g,∀w,∃es,f (bv a w)=b9 g w es)\/∀w c w1 es,f (bv a w)≠b9 c w1 es)
 (x:∀v,(∃g,∀w,∃es,f (bA (ct v) w)=b9 g w es)\/∀w c w1 es,f (bA (ct v) w)≠b9 c w1 es)
 (y:∀m w1,∃o w2 es,f (bA (cu m) w1)=ca o w2 es) (z:∀u w1,dw u=true->∃o w2 es,f (bA (cx u) w1)=ca o w2 es) :
 gq (λw=>b8 (seen (aI T fB) fn (s.runT (aI T fB) w #[]).2) (f (s.runT (aI T fB) w #[]).1)) w:=by
 refine gq.from (av.loc hs k.inj k.wr k.tape k.drawn) ?_;have no:∀(r:aq j),s.run (aI T fB) w=r->(∀c w1 es,f r≠b9 c w1 es)->∀c w1 es,b8 (seen (aI T fB) fn (s.runT (aI T fB) w #[]).2) (f (s.runT (aI T fB) w #[]).1)≠b9 c w1 es:=by
  intro r p i c w1 es e;rw[bR,p]at e
  cases q:f r with
  |go C w2 D=>exact i _ _ _ q
  |_=>rw[q]at e;cases e
 have yes:∀(r:aq j)(g:ap),s.run (aI T fB) w=r->(∀(b:Tape)(d:Nat),∃es,f (r.re b d)=b9 g (r.world.re b d) es)->
  ∀b d,s.run (aI T fB) (w.re b d)=r.re b (d+(r.world.drawn-w.drawn))->∃es,b8 (seen (aI T fB) fn (s.runT (aI T fB) (w.re b d) #[]).2) (f (s.runT (aI T fB) (w.re b d) #[]).1)=b9 g (r.world.re b (d+(r.world.drawn-w.drawn))) es:=by
  intro r g p hy b d e;rw[bR,e];obtain⟨es,A⟩:=hy b (d+(r.world.drawn-w.drawn));rw[A];exact⟨_,rfl⟩
 rcases SR.ends k hs with⟨a,w1,h,n,a',i⟩|⟨v,w1,h⟩|⟨m,w1,h⟩|⟨u,w1,h,B⟩
 ·rcases t n a a' w1 h i with⟨g,hg⟩|i
  ·exact co ⟨g,_,h,yes _ g h λb d=>hg _⟩
  ·exact cp (no _ h (i _))
 ·rcases x v with⟨g,hg⟩|i
  ·exact co ⟨g,_,h,yes _ g h λb d=>hg _⟩
  ·exact cp (no _ h (i _))
 ·obtain⟨o,w2,es,e⟩:=y m w1
  grind
 ·obtain⟨o,w2,es,e⟩:=z u w1 B
  grind
end
section
variable {T:aa}{fB fA:Array Func}{F X:ab->Bool}{Z:ac->Bool}{bot:Frame}{ρ σ:Ren}{w w':World}
def Bu(g:ap):gq (λw=>b9 g w) w:=gq.pure g λ_ _=>⟨_,rfl⟩
def pN(f:World->GStep)(h:∀w,∃o w2 es,f w=ca o w2 es):gq f w:=gq.never λb w1 es e=>by
 obtain⟨o,w2,c,a⟩:=h w;rw[a]at e;cases e
def gq.seq{n:Type}{P:ag}{s:Sem n}(hs:dN (s.run P) w){f:World->GStep}{g:n->World->GStep}(o:Outcome)(h:∀a w1,s.run P w=bv a w1->gq (g a) w1)
 (hf:∀k d,∃es,f (w.re k d)=b8 es (match s.run P (w.re k d) with | bv a w=>g a w | bA _ w=>ca o w)):gq f w:=by
 obtain⟨a,b,c⟩:=hs;intro B w2 es e;obtain⟨q,j⟩:=hf w.tape w.drawn;rw[vZ,e]at j
 cases m:s.run P w with
 |halt h w1=>rw[m]at j;cases j
 |ok x w1=>
  rw[m]at j a b c;have r:w.drawn<=w1.drawn:=a;have b':w1.tape=w.tape:=b
  cases hg:g x w1 with
  |go C w3 D=>
   simp only[hg]at j;cases j;obtain⟨a2,t,u⟩:=h x w1 m _ _ _ hg;refine⟨a6 r a2,t.trans b',λk d p=>?_⟩;have v:=c k d (λi hi=>p i (by have E:i<w1.drawn-w.drawn:=hi;omega))
   obtain⟨y,z⟩:=u k (d+(w1.drawn-w.drawn)) (λi hi=>by
    have:=p ((w1.drawn-w.drawn)+i) (by omega)
    grind)
   obtain⟨l,A⟩:=hf k d;rw[A,v];show∃H,b8 l (g x (w1.re k (d+(w1.drawn-w.drawn))))=_;rw[z];refine⟨l++y,?_⟩;show GStep.go _ _ _=_;congr 2;omega
  |_=>simp only[hg]at j;cases j
def va{P:ag}{fr f:Frame}{cs:List Frame}(a:fr.kind=c6)(v:Value):∃g,∀w,∃es,aw P true fr (f::cs) none v w=b9 g w es:=
 ⟨_,λw=>⟨#[],by simp only[aw,a];rfl⟩⟩
def LM(d:Wd T F Z ρ w w'){fr fr':Frame}{cs:List Frame}(g:aQ T F Z fB fA ρ fr fr')(hb:dn (fr::cs))(j:Option Code)(h:∀c,j=some c->aL T F Z c=true) :
 gq (λw=>mR (aI T fB) true fr (cs++[bot]) none w j) w:=by
 rcases jP g.roundOf with⟨e1,i⟩|⟨l,m,e1,i,hl⟩
 ·simp only[iW e1]
  cases sn j with
  |false=>exact pN _ λw=>⟨_,_,_,rfl⟩
  |true=>exact Bu _
 ·simp only[iX e1];have k:cs≠[]:=by
   rintro rfl;have:=hb fr rfl;rw[e1]at this;cases this
  obtain⟨f,b,rfl⟩:∃f b,cs=f::b:=by
   cases cs with
   |nil=>exact absurd rfl k
   |cons f b=>exact⟨f,b,rfl⟩
  exact wh d (oq (T:=T) (fB:=fB) (fA:=fA) (Z:=Z) d.inj hl j h) (f:=λr=>match r with | bv v w=>aw (aI T fB) true fr (f::(b++[bot])) none v w | bA _ w=>ca (cB "range over a function: no such loop" (fr.pos (aI T fB))) w) fr.fn
   (λ_ a _ _ _ _=>co (va g.kind a)) (λ_=>cp λ_ _ _ _ e=>by cases e) (λ_ _=>⟨_,_,_,rfl⟩) (λ_ _ _=>⟨_,_,_,rfl⟩)
def OD(fit:Fits T fB fA F X Z)(a:Wd T F Z ρ w w'){fr fr':Frame}{cs:List Frame}(b:aQ T F Z fB fA ρ fr fr'){ops:Array Oper}{i:Nat}{rest:List Nat}{k:List Item}
 (f:fr.todo=.inRegion ops (i::rest)::k) (g:(ops.toList.all λo=>jh T F Z o.op)=true) :
 gq (λw=>bd (aI T fB) true fr (cs++[bot]) none w) w:=by
 unfold bd;have e:fr.oper? = ops[i]?:=by unfold Frame.oper?;rw[f]
 rw[e]
 cases h:ops[i]? with
 |none=>exact pN _ λw=>⟨_,_,_,rfl⟩
 |some o=>
  have ok:=Bo g h;simp only;have main:gq (λw=>bc (aI T fB) true fr (cs++[bot]) none (execOp fr.eval o) w) w:=
   xy (Yg fit.zero fit.fns a.inj a.wr a.tape a.drawn (dD b.tmps) o ok) (De (fA:=fA) fit.zero fit.fns a.inj a.wr a.tape a.drawn (dD b.tmps) o ok #[])
  have d:=b.roundOf;generalize e1:fr.roundOf=r at d;generalize l:fr'.roundOf=m at d
  cases d with
  |none=>exact main
  |some hl=>
   cases j:o.op with
   |defer c=>rw[j]at ok;cases ok
   |_=>exact main
def OE(fit:Fits T fB fA F X Z)(o:Wd T F Z ρ w w'){fr fr':Frame}{cs:List Frame}(s:aQ T F Z fB fA ρ fr fr')(hb:dn (fr::cs)) :
 gq (λw=>bb (aI T fB) true true fr (cs++[bot]) none w) w:=by
 obtain⟨fn,tmps,todo,defers,mode,kind,p⟩:=fr;obtain⟨q,K,L,M,N,O,C⟩:=fr';have P:cN T F Z ρ todo L:=s.todo;have to:∀D:List Item,gq (λw=>b9 { frame:=⟨fn,tmps,D,defers,mode,kind,p⟩,callers:=cs++[bot],status:=cq,dying:=none } w) w:=λD=>Bu _;have lv:=λj Q=>LM (bot:=bot) o s hb j Q;unfold bb
 cases P with
 |nil=>exact lv none (λc e=>by cases e)
 |@cons i i' k k' h t=>
  cases h with
  |inBlock id=>exact to _
  |inLoop c hc=>exact to _
  |inScope c hc=>exact to _
  |inRangeFunc hl=>exact pN _ λw=>⟨_,_,_,rfl⟩
  |beginRound=>
   refine Ah (fA:=fA) o (s':=do(C.elim (stuck "beginRound: no round") Instr.beginRound);pure .skip) (vX o.inj ?_)
   rcases jP s.roundOf with⟨u,y⟩|⟨l,R,u,y,hl⟩
   ·simp only at u y;subst u y;exact ak
   ·simp only at u y;subst u y;exact lg (fA:=fA) o.inj hl
  |@endRangeFunc l R hl=>
   exact wh o (qW (fA:=fA) o.inj hl)
    (f:=λr=>match r with
      |bv jump w=>b9 { frame:=⟨fn,tmps,(jump.map bg).toList++k,defers,mode,kind,p⟩,callers:=cs++[bot],status:=cq,dying:=none } w
      |bA (ct v) w=>b9 { frame:=bm ⟨fn,tmps,bi l::k,defers,mode,kind,p⟩ [{ v,recovered:=false }],callers:=cs++[bot],status:=cq,dying:=none } w
      |bA _ w=>ca (cB "range over a function: no such loop" _) w) fn
    (λ_ _ _ _ _ _=>co ⟨_,λ_=>⟨_,rfl⟩⟩) (λ_=>co ⟨_,λ_=>⟨_,rfl⟩⟩) (λ_ _=>⟨_,_,_,rfl⟩) (λ_ _ _=>⟨_,_,_,rfl⟩)
  |inRegion ops todo S=>
   cases todo with
   |nil=>exact to _
   |cons i E=>
    simp only
    cases((ops[i]?).map (Region.wanted · (ai ops tmps))).getD false with
    |true=>exact OD fit o s rfl S
    |false=>exact Bu _
  |code c hc=>
   cases c with
   |ret=>exact lv (some .ret) (λc e=>by cases e;rfl)
   |skip=>exact to _
   |label _=>exact to _
   |seq a b=>exact to _
   |cond c a b=>
    simp only
    cases bo _ c with
    |bool b'=>exact Bu _
    |_=>exact pN _ λw=>⟨_,_,_,rfl⟩
   |block id b=>exact to _
   |loop b=>exact to _
   |scope b=>exact to _
   |exit id=>
    simp only
    cases exitTo id k with
    |none=>exact lv (some (.exit id)) (λc e=>by cases e;rfl)
    |some m=>exact to _
   |goto id=>
    simp only
    cases gotoIn id k with
    |none=>exact lv (some (.goto id)) (λc e=>by cases e;rfl)
    |some m=>exact to _
   |refuse U=>cases hc
   |rangeFunc f params assign body=>
    simp only[aL,br]at hc;simp only;have H:=s.fn;simp only at H;subst H;have hs:=mO (T:=T) (fB:=fB) (fA:=fA) (Z:=Z) o.inj q s.mI s.tmps params assign body hc.1.2 hc.2 s.roundOf
    refine gq.seq (av.loc hs o.inj o.wr o.tape o.drawn) (g:=fun(x:Nat×List Deferred)w=>
     let fr:Frame:=⟨q,tmps,bj x.1::k,x.2++defers,mode,kind,p⟩
     let call:Call:={ callee:=.value f,args:=#[.const (.func (cC x.1) #[] #[])],argTypes:=#[] }
     bc (aI T fB) true fr (cs++[bot]) none (do let d<-ao fr.eval call 0;invoke d.target d.args) w) (cB "range over a function: no such loop" (Frame.pos (aI T fB) ⟨q,tmps,.code (.rangeFunc f params assign body)::k,defers,mode,kind,p⟩)) ?_ (λB d=>?_)
    ·intro x w1 V;have I:=av.run #[] hs o.inj o.wr o.tape o.drawn;rw[V]at I;obtain⟨J,z,W,new,e1,A,hl,Y⟩:=I;have h0:=s.mono A.le;have hv:cU F J [.func (cC x.1) #[] #[]] [.func (cC z.1) #[] #[]]:=.cons (.func (.yield hl) .nil .nil) .nil;have he:=dD (fr:=⟨q,tmps,bj x.1::k,x.2++defers,mode,kind,p⟩) (fr':=⟨q,K,bj z.1::k',z.2++M,N,O,C⟩) h0.tmps f hc.1.1;exact Ah (fA:=fA) A.wd (jE (a:=#[Operand.const (.func (cC x.1) #[] #[])].map (bo ⟨q,tmps,bj x.1::k,x.2++defers,mode,kind,p⟩)) (a':=#[.func (cC z.1) #[] #[]]) fit.zero fit.fns A.inj he (by simpa[bo]using hv))
    ·refine⟨seen (aI T fB) q ((Instr.enterLoop q tmps params assign body p).runT (aI T fB) (w.re B d) #[]).2,?_⟩;show b8 (seen (aI T fB) q ((Instr.enterLoop q tmps params assign body p).runT (aI T fB) (w.re B d) #[]).2) _=_
     grind[bR]
   |region id ops draw=>
    simp only
    cases draw with
    |false=>exact to _
    |true=>
     simp only[bs,bt,if_false];have hs:av T fB fA F (aL T F Z) fF ρ (ae (.order fn id)) (ae (.order fn id)):=lH _;have hl:=av.loc hs o.inj o.wr o.tape o.drawn;refine gq.from hl (co ?_);obtain⟨n,J,w1,W,c1,c2,A⟩:=ou (fB:=fB) (fA:=fA) o (.order fn id);refine⟨{ frame:=⟨fn,tmps,.inRegion ops (Region.schedule (Tables.follows T .mixedOrders) ops n)::k,defers,mode,kind,p⟩,callers:=cs++[bot],status:=cq,dying:=none },bv n w1,c1,λB d e=>?_⟩;rw[e];exact⟨#[],rfl⟩
def Gs(h:Wd T F Z ρ w w'){fr fr':Frame}{cs cs':List Frame}(j:aQ T F Z fB fA ρ fr fr')(hcs:cj T F Z fB fA ρ cs cs')(k:fr.mode≠cQ)(l:fr.defers=[]->cs≠[]) :
 gq (λw=>aB (aI T fB) true fr (cs++[bot]) none w) w:=by
 have hd:=j.defers;obtain⟨fn,tmps,todo,defers,mode,kind,i⟩:=fr;obtain⟨g,H,I,J,K,L,M⟩:=fr';obtain⟨m,n,y,o,p,z,q,u,A,B,x⟩:=j;simp only at m n y o p z q u A B x k l hd;subst m
 cases hd with
 |@cons r N ds C D t=>
  unfold aB;simp only;exact wh h (jj (fB:=fB) (fA:=fA) h.inj D)
   (f:=λr=>match r with
     |bv calls w=>b9 { frame:={ fn:=g,tmps,todo,defers:=calls++ds,mode,kind,roundOf:=i },callers:=cs++[bot],status:=cq,dying:=none } w
     |bA _ w=>ca (cB "the deferred calls of a range-over-func loop have been taken" _) w) g
   (λ_ _ _ _ _ _=>co ⟨_,λ_=>⟨_,rfl⟩⟩) (λ_=>cp λ_ _ _ _ e=>by cases e) (λ_ _=>⟨_,_,_,rfl⟩) (λ_ _ _=>⟨_,_,_,rfl⟩)
 |nil=>
  obtain⟨f,b,rfl⟩:∃f b,cs=f::b:=by
   cases cs with
   |nil=>exact absurd rfl (l rfl)
   |cons f b=>exact⟨f,b,rfl⟩
  cases q with
  |run=>exact absurd rfl k
  |@panicking c O hc=>
   refine gq.pure { frame:=f.raise c,callers:=b++[bot],status:=cq,dying:=none } λP d=>⟨#[],?_⟩
   show aB (aI T fB) true _ (f::(b++[bot])) none _=_;unfold aB;simp only[iR p (aI T fB) g tmps [] (c4 c) kind i,bt,if_false]
  |returning=>
   obtain⟨fx,c,E,Q,R,S⟩:=(n (x rfl)).ex;unfold aB;simp only[E]
   exact wh h (mP (fB:=fB) (fA:=fA) (Z:=Z) h.inj fx o) (f:=λr=>match r with
    |bv v w=>aw (aI T fB) true { fn:=g,tmps,todo,defers:=[],mode:=c5,kind,roundOf:=i } (f::(b++[bot])) none v w
    |bA (cu s) w=>ca (cB s _) w
    |bA _ w=>ca (cB "return: the result variables cannot be read" _) w) g
    (λ_ a _ _ _ _=>co (va u a)) (λ_=>cp λ_ _ _ _ e=>by cases e) (λ_ _=>⟨_,_,_,rfl⟩) (λ_ _ _=>⟨_,_,_,rfl⟩)
def OG(fit:Fits T fB fA F X Z)(d:Wd T F Z ρ w w'){g g':ap}(hg:GR T fB fA F X Z bot ρ g g')(b:aQ T F Z fB fA ρ g.frame g'.frame)
 (f:g.frame.mode≠cQ->g.frame.defers=[]->g.callers≠[bot]):gq (λw=>stepG (aI T fB) true g w) w:=by
 obtain⟨_,⟨l,hl,hcs,hb,_⟩,st,a,i,j,of,k⟩:=hg;obtain⟨fr,cs,status,dying,offers⟩:=g;obtain⟨c,cs',o,p,q⟩:=g';simp only at st a i j of k hl hcs b hb f;subst st a i j of k hl;have m:=OE (bot:=bot) fit d b hb;have r:=λh=>Gs (bot:=bot) d b hcs h (λhd e=>by subst e;exact f h hd rfl);obtain⟨fn,tmps,todo,defers,mode,kind,s⟩:=fr;obtain⟨t,u,v,x,n,y,z⟩:=c;have A:qE F ρ mode n:=b.mode;unfold stepG
 grind
end
inductive Term(P:ag)(Good:ap->World->Prop):ap->World->Prop
 |done {g:ap} {w:World} (h:Good g w):Term P Good g w
 |step {g:ap} {w:World} (G1:Tape->Nat->ap) (W1:Tape->Nat->World) (h:∀τ d,∃es,stepG P true g (w.re τ d)=b9 (G1 τ d) (W1 τ d) es) (k:∀τ d,Term P Good (G1 τ d) (W1 τ d)):Term P Good g w
inductive cy(P:ag):Nat->ap->World->ap->World->Prop
 |zero (g:ap) (w:World):cy P 0 g w g w
 |succ {n:Nat} {g g1 g2:ap} {w w1 w2:World} {es:Array Event} (h:cy P n g w g1 w1) (k:stepG P true g1 w1=b9 g2 w2 es):cy P (n+1) g w g2 w2
def cy.det{P:ag}{n:Nat}{g b a:ap}{w w1 w2:World}(h:cy P n g w b w1)(k:cy P n g w a w2):b=a/\w1=w2:=by
 induction h generalizing a w2 with
 |zero=>cases k;exact⟨rfl,rfl⟩
 |succ h k1 c=>
  cases k with
  |succ d k'=>
   grind
def cy.hd00{P:ag}{n m:Nat}{g a:ap}{w w2:World}(h:cy P n g w a w2)(d:m<=n):∃b w1,cy P m g w b w1:=by
 induction h with
 |zero=>
  obtain rfl:m=0:=by omega
  exact⟨_,_,.zero _ _⟩
 |@succ n _ _ _ _ _ _ _ h k c=>
  rcases a7 m (n+1) with hl|hg
  ·exact c (by omega)
  ·obtain rfl:m=n+1:=by omega
   exact⟨_,_,.succ h k⟩
def cy.next{P:ag}{n m:Nat}{g a c:ap}{w w1 w2:World}(h:cy P n g w c w2)(k:cy P m g w a w1)(d:m<n):∃b w3 es,stepG P true a w1=b9 b w3 es:=by
 obtain⟨b,w3,hc⟩:=h.hd00 (m:=m+1) d
 cases hc with
 |succ e k'=>
  obtain⟨rfl,rfl⟩:=e.det k;exact⟨_,_,_,k'⟩
def cy.suffix{P:ag}{m:Nat}:∀{n:Nat}{g a b:ap}{w w1 w2:World},cy P (m+n) g w b w2->cy P m g w a w1->cy P n a w1 b w2:=by
 intro n
 induction n with
 |zero=>
  intro g a b w w1 w2 h k;obtain⟨rfl,rfl⟩:=h.det k;exact .zero _ _
 |succ n c=>
  intro g a b w w1 w2 h k
  cases h with
  |succ d k'=>exact .succ (c d k) k'
def jW(L:List (ad->Nat))(a:Tape):Prop:=∀i x,L[i]?=some x->a i=x
theorem jW.of_append{L M:List (ad->Nat)}{a:Tape}(h:jW (L++M) a):jW L a:=λi x b=>h i x (by
 grind)
section
variable {P:ag}{Good:ap->World->Prop}{Inv:ap->World->Prop}{Stop:ap->Prop}
def Bv(u:∀g w c d,Inv g w->Inv g (w.re c d))(O:∀g w f w1 es,Inv g w->¬Stop g->stepG P true g w=b9 f w1 es->Inv f w1)
 (D:∀g w,Inv g w->¬Stop g->gq (stepG P true g) w)
 (Q:∀g w E w2 m,Inv g w->Stop g->cy P (m+1) g w E w2->¬Good E w2) (R:∀g w c d,Good g w->Good g (w.re c d))
 {o:ap} {w0:World} (S:Inv o w0) (runs:∀a:Tape,∃n g w,cy P n o (w0.re a 0) g w/\Good g w):Term P Good o w0:=by
 classical
 apply cb;intro T;have Dk:∀g(w:World)c d,Good g (w.re c d)->Good g w:=λg w c d h=>R g (w.re c d) w.tape w.drawn h;have bad:∀g w,¬Term P Good g w->¬Good g w/\∃c d,∀f w1 es,stepG P true g (w.re c d)=b9 f w1 es->¬Term P Good f w1:=by
  intro g w h;refine⟨λhg=>h (.done hg),cb λhn=>h ?_⟩;have v:∀c d,∃f w1 es,stepG P true g (w.re c d)=b9 f w1 es/\Term P Good f w1:=by
   simp_all
  exact .step (λc d=>(v c d).choose) (λc d=>(v c d).choose_spec.choose) (λc d=>⟨_,(v c d).choose_spec.choose_spec.choose_spec.1⟩) (λc d=>(v c d).choose_spec.choose_spec.choose_spec.2)
 let St (k:Nat):={ x:ap×World×List (ad->Nat) // Inv x.1 x.2.1/\¬Term P Good x.1 x.2.1/\∀a,jW x.2.2 a->cy P k o (w0.re a 0) x.1 (x.2.1.re a x.2.2.length) }
 have next:∀k(s:St k),(∀j,j<=k->∀a,jW s.1.2.2 a->∀g w,cy P j o (w0.re a 0) g w->¬Good g w)->
  ∃F:St (k+1),(∃M,F.1.2.2=s.1.2.2++M)/\(∀j,j<=k+1->∀a,jW F.1.2.2 a->∀g w,cy P j o (w0.re a 0) g w->¬Good g w):=by
  rintro k⟨⟨g,w,L⟩,hi,hb,hc⟩U;simp only at hi hb hc U;obtain⟨hg,c,d,V⟩:=bad g w hb;let a:Tape:=λi=>if h:i<L.length then L[i] else c (d+(i-L.length))
  have p:jW L a:=λi x r=>by
   grind
  obtain⟨n,ge,we,H,W⟩:=runs a;have X:k<n:=by
   grind
  have y:¬Stop g:=λhs=>by
   obtain⟨m,rfl⟩:∃m,n=k+(m+1):=⟨n-k-1,by omega⟩
   exact Q _ _ _ _ _ (u _ _ _ _ hi) hs (H.suffix (hc a p)) W
  have z:∃f w1 es,stepG P true g (w.re c d)=b9 f w1 es:=by
   obtain⟨Y,w3,es,e⟩:=H.next (hc a p) X;obtain⟨_,_,hl⟩:=D g (w.re a L.length) (u _ _ _ _ hi) y Y w3 es e
   obtain⟨I,A⟩:=hl c d (λi _=>by
    show c (d+i)=a (L.length+i)
    grind)
   exact⟨_,_,_,A⟩
  obtain⟨f,w1,es,e⟩:=z;obtain⟨hd,ht,hl⟩:=D g (w.re c d) (u _ _ _ _ hi) y f w1 es e;have Z:d<=w1.drawn:=hd;let M:List (ad->Nat):=(cc (w1.drawn-d)).map λi=>c (d+i);have B:M.length=w1.drawn-d:=by simp[M]
  have Gu:=O _ _ _ _ _ (u _ _ c d hi) y e;have J:∀a,jW (L++M) a->cy P (k+1) o (w0.re a 0) f (w1.re a (L++M).length):=by
   intro a p;have h1:=hc a p.of_append
   obtain⟨I,A⟩:=hl a L.length (λi hi=>by
    have mS:i<w1.drawn-d:=hi;show a (L.length+i)=c (d+i);refine p _ _ ?_
    grind)
   have t:stepG P true g (w.re a L.length)=b9 f (w1.re a (L++M).length) I:=by
    rw[List.length_append,B];exact A
   exact .succ h1 t
  have lq:=V f w1 es e;refine⟨⟨(f,w1,L++M),Gu,lq,J⟩,⟨M,rfl⟩,λj hj a p gj wj C hgj=>?_⟩
  rcases a7 j (k+1) with Wk|Wk
  ·grind[jW.of_append]
  ·obtain rfl:j=k+1:=by omega
   obtain⟨e1,t⟩:=C.det (J a p)
   grind
 let K (k:Nat):={ s:St k // ∀j,j<=k->∀a,jW s.1.2.2 a->∀g w,cy P j o (w0.re a 0) g w->¬Good g w }
 let s0:K 0:=⟨⟨(o,w0,[]),S,T,λa _=>.zero _ _⟩,λj hj a _ g w hc hg=>by
  obtain rfl:j=0:=by omega
  cases hc
  grind⟩
 let l:∀k,K k:=λk=>Nat.rec s0 (λk s=>⟨(next k s.1 s.2).choose,(next k s.1 s.2).choose_spec.2⟩) k;have grow:∀k,∃M,(l (k+1)).1.1.2.2=(l k).1.1.2.2++M:=λk=>(next k (l k).1 (l k).2).choose_spec.1;have N:∀k m,∃M,(l (k+m)).1.1.2.2=(l k).1.1.2.2++M:=by
  intro k m
  induction m with
  |zero=>exact⟨[],by simp⟩
  |succ m ih=>
   obtain⟨M,q⟩:=ih;obtain⟨M',OL⟩:=grow (k+m);exact⟨M++M',by rw[<-Nat.add_assoc,OL,q,List.append_assoc]⟩
 let a:Tape:=λi=>if h:∃k,i<(l k).1.1.2.2.length then(l h.choose).1.1.2.2[i]'h.choose_spec else λ_=>0
 have p:∀k,jW (l k).1.1.2.2 a:=by
  intro k i x r;obtain⟨hl,Gt⟩:=List.getElem?_eq_some_iff.1 r;have b:∃k,i<(l k).1.1.2.2.length:=⟨k,hl⟩
  have e1:a i=(l b.choose).1.1.2.2[i]'b.choose_spec:=by simp only[a,dif_pos b]
  have t:(l b.choose).1.1.2.2[i]?=some x:=by
   rcases Nat.le_total k b.choose with h|h
   ·obtain⟨M,q⟩:=N k (b.choose-k);rw[show k+(b.choose-k)=b.choose by omega]at q;rw[q,cd hl,r]
   ·obtain⟨M,q⟩:=N b.choose (k-b.choose);rw[show b.choose+(k-b.choose)=k by omega]at q;rw[q,cd b.choose_spec]at r;exact r
  rw[e1];rw[List.getElem?_eq_getElem b.choose_spec]at t;exact Option.some.inj t
 obtain⟨n,g,w,hc,hg⟩:=runs a;exact(l n).2 n (aS _) a (p n) g w hc hg
end
def Gv : "fmt's door no such".startsWith "fmt's door" = true:=by decide +kernel
def qX:Extern.next "fmt's door no such" = none:=by
 have h:(Extern.next "fmt's door no such").isNone=true:=by decide +kernel
 simp_all
def aX(P:ag):Frame:={ fn:=P.funcs.size,tmps:=#[],todo:=[.call { target:=.nil,args:=#[] } false "fmt's door no such" #[]],defers:=[],mode:=cQ,kind:=c6 }
def Yh(P:ag):P.funcs[P.funcs.size]?=none:=by simp
abbrev fH(fr:Frame)(cs:List Frame):ap:={ frame:=fr,callers:=cs,status:=cq,dying:=none }
def vH(P:ag)(v:Value)(w:World):∃o w2 es,stepG P true (fH ((aX P).finish v) []) w=ca o w2 es:=by
 show∃o w2 es,bb P true true { (aX P) with todo:=[.extern "fmt's door no such" #[v]] } [] none w=ca o w2 es;unfold bb;simp only[qX];exact⟨_,_,_,rfl⟩
def xz(P:ag)(c:List PanicEntry)(w:World):∃o w2 es,stepG P true (fH ((aX P).raise c) []) w=ca o w2 es:=by
 have:bq P { (aX P) with mode:=c4 c }=true:=by
  unfold bq;simp only[aX,Yh,Gv]
 show∃o w2 es,aB P true { (aX P) with mode:=c4 c } [] none w=ca o w2 es;unfold aB;simp only[aX]at this⊢
 simp_all
def lP(bot:Frame)(g:ap):Prop:=g.frame.mode≠cQ/\g.frame.defers=[]/\g.callers=[bot]
def lQ(P:ag)(f:ab)(R:Value->World->Prop)(g:ap)(w:World):Prop:=
 g.callers=[aX P]/\g.frame.mode=c5/\g.frame.defers=[]/\g.frame.fn=f/\∃fn v,P.funcs[f]?=some fn/\(∀a d,(aH fn g.frame.tmps).run P (w.re a d)=bv v (w.re a d))/\R v w
section
variable {T:aa}{fB fA:Array Func}{F X:ab->Bool}{Z:ac->Bool}{ρ σ:Ren}{w w':World}
def iE(T:aa)(fB:Array Func)(F:ab->Bool)(Z:ac->Bool)(g:ap)(w:World):Prop:=
 ∃ρ a w',GR T fB fB F (λ_:ab=>false) Z (aX ⟨T,fB⟩) ρ g a/\ρ.bw T.globals.size/\WR T.globals.size F (aL T F Z) ρ w w'
def Gm.noX{f f':Frame}(h:Gm T fB fA F (λ_:ab=>false) Z ρ f f'):aQ T F Z fB fA ρ f f':=by
 cases h with
 |alike h=>exact h
 |enters x a _ _=>cases a
def Jc(c:ρ.bw T.globals.size)(a:WR T.globals.size F (aL T F Z) ρ w w')(b:Tape)(d:Nat):Wd T F Z ρ (w.re b d) (w'.re b d):=⟨c,⟨a.pK,a.gN,a.obj⟩,rfl,rfl⟩
def iE.re{g:ap}(h:iE T fB F Z g w)(b:Tape)(d:Nat):iE T fB F Z g (w.re b d):=by
 obtain⟨ρ,c,w',e,f,a⟩:=h;exact⟨ρ,c,w',e,f,⟨a.pK,a.gN,a.obj⟩⟩
def Bz{g:ap}(hs:¬lP (aX (aI T fB)) g):g.frame.mode≠cQ->g.frame.defers=[]->g.callers≠[aX (aI T fB)]:=λa b c=>hs ⟨a,b,c⟩
def iE.Wm(fit:Fits T fB fB F (λ_:ab=>false) Z){g:ap}(h:iE T fB F Z g w)(hs:¬lP (aX (aI T fB)) g):∃ρ w' s',ρ.bw T.globals.size/\ef T fB fB F (λ_:ab=>false) Z (aX (aI T fB)) ρ w w' (stepG (aI T fB) true g w) s':=by
 obtain⟨ρ,d,w',a,b,c⟩:=h;have:=sr fit (Jc b c w.tape w.drawn) a a.top.noX (Bz hs);exact⟨ρ,_,_,b,this⟩
def iE.step(fit:Fits T fB fB F (λ_:ab=>false) Z){g b:ap}{w1:World}{es:Array Event}(h:iE T fB F Z g w)(hs:¬lP (aX (aI T fB)) g)(e:stepG (aI T fB) true g w=b9 b w1 es):iE T fB F Z b w1:=by
 obtain⟨ρ,w',j,k,c⟩:=h.Wm fit hs;rw[e]at c;obtain⟨d,f,i,l,_,_,_,a,hg⟩:=c;exact⟨d,f,i,hg,a.inj,⟨a.wr.pK,a.wr.gN,a.wr.obj⟩⟩
def iE.loc(fit:Fits T fB fB F (λ_:ab=>false) Z){g:ap}(h:iE T fB F Z g w)(hs:¬lP (aX (aI T fB)) g):gq (stepG (aI T fB) true g) w:=by
 obtain⟨ρ,d,w',a,b,c⟩:=h;exact OG fit (Jc b c w.tape w.drawn) a a.top.noX (Bz hs)
def iE.fH{g:ap}(h:iE T fB F Z g w):g=fH g.frame g.callers:=by
 obtain⟨ρ,b,w',a,c,e⟩:=h;obtain⟨_,_,st,_,f,_,of,_⟩:=a;obtain⟨fr,cs,s,d,o⟩:=g
 grind
def pO{g:ap}(h:iE T fB F Z g w)(hs:lP (aX (aI T fB)) g) :
 (∃fr w1 es,stepG (aI T fB) true g w=b9 (fH fr []) w1 es/\∀w,∃o w2 es,stepG (aI T fB) true (fH fr []) w=ca o w2 es)\/∃o w1 es,stepG (aI T fB) true g w=ca o w1 es:=by
 have hg:=h.fH;obtain⟨ρ,n,w',p,u,x⟩:=h;have d:=p.top.noX;obtain⟨f,i,m⟩:=hs;rw[m]at hg;have e:=d.mode;have j:=d.ret;have k:=d.same;have l:=d.kind;have a:=d.todo;obtain⟨fr,cs,st,y,of⟩:=g;simp only at hg f i m e j k l a;cases hg;obtain⟨fn,tmps,todo,defers,mode,kind,b⟩:=fr;simp only at f i e j k l a;subst i l;generalize n.frame.mode=m' at e
 cases e with
 |run=>exact absurd rfl f
 |@panicking c z hc=>
  have e1:stepG (aI T fB) true (fH ⟨fn,tmps,todo,[],c4 c,c6,b⟩ [aX (aI T fB)]) w=b9 (fH ((aX (aI T fB)).raise c) []) w:=by
   show aB (aI T fB) true ⟨fn,tmps,todo,[],c4 c,c6,b⟩ [aX (aI T fB)] none w=_;unfold aB;simp only[iR a (aI T fB) fn tmps [] (c4 c) c6 b,bt,if_false]
  exact co ⟨_,_,_,e1,λw=>xz (aI T fB) c w⟩
 |returning=>
  obtain⟨fx,c,q,A,r,s⟩:=(k (j rfl)).ex;have e1:∃es,(∃v w1,stepG (aI T fB) true (fH ⟨fn,tmps,todo,[],c5,c6,b⟩ [aX (aI T fB)]) w=b9 (fH ((aX (aI T fB)).finish v) []) w1 es)\/∃o w2,stepG (aI T fB) true (fH ⟨fn,tmps,todo,[],c5,c6,b⟩ [aX (aI T fB)]) w=ca o w2 es:=by
   show∃es,(∃v w1,aB (aI T fB) true ⟨fn,tmps,todo,[],c5,c6,b⟩ [aX (aI T fB)] none w=b9 (fH ((aX (aI T fB)).finish v) []) w1 es)\/∃o w2,aB (aI T fB) true ⟨fn,tmps,todo,[],c5,c6,b⟩ [aX (aI T fB)] none w=ca o w2 es;unfold aB;simp only[q,Sem.runT_eq,aw]
   cases(aH fx tmps).run (aI T fB) w with
   |ok v w1=>exact⟨_,co ⟨v,w1,rfl⟩⟩
   |halt t w1=>cases t<;>exact⟨_,cp ⟨_,_,rfl⟩⟩
  obtain⟨B,⟨v,w2,e1⟩|⟨o,w2,e1⟩⟩:=e1
  ·exact co ⟨_,_,_,e1,λw=>vH (aI T fB) v w⟩
  grind
def Dn{fr fr':Frame}{cs cs':List Frame}{w w':World}(h:lone fr cs w=lone fr' cs' w'):fr=fr'/\cs=cs'/\w=w':=by
 have a:=congrArg Machine.world h;have b:=congrArg Machine.gs h;simp only[lone]at a b
 grind
def Jd{g:ap}{fr:Frame}{cs:List Frame}{w1:World}{es:Array Event}(hg:g=fH g.frame g.callers)(e:stepG (aI T fB) true g w=b9 (fH fr cs) w1 es):step (aI T fB) (lone g.frame g.callers w)=.next (lone fr cs w1):=by
 rw[hg]at e;exact step_lone_go (by rw[e];rfl)
def qY{g:ap}{o:Outcome}{w1:World}{es:Array Event}(hg:g=fH g.frame g.callers)(e:stepG (aI T fB) true g w=ca o w1 es):step (aI T fB) (lone g.frame g.callers w)=.ended o w1:=by
 rw[hg]at e;exact step_lone_ended (by rw[e];rfl)
theorem cy.head{P:ag}{n:Nat}{g a b:ap}{w w1 w2:World}{es:Array Event}(k:stepG P true g w=b9 a w1 es)(h:cy P n a w1 b w2):cy P (n+1) g w b w2:=by
 induction h with
 |zero=>exact .succ (.zero _ _) k
 |succ _ k' c=>exact .succ (c k) k'
def zC(fit:Fits T fB fB F (λ_:ab=>false) Z):∀(n:Nat)(g:ap)(w:World),iE T fB F Z g w->∀fr w',runN (aI T fB) n (lone g.frame g.callers w)=.next (lone fr [aX (aI T fB)] w')->cy (aI T fB) n g w (fH fr [aX (aI T fB)]) w'/\iE T fB F Z (fH fr [aX (aI T fB)]) w':=by
 intro n
 induction n with
 |zero=>
  intro g w hi fr w' h;have d:lone g.frame g.callers w=lone fr [aX (aI T fB)] w':=by simpa[runN]using h
  obtain⟨a,b,c⟩:=Dn d;have hg:=hi.fH;rw[a,b]at hg;rw[hg,c]at hi;rw[hg,c];exact⟨.zero _ _,hi⟩
 |succ n q=>
  intro g w hi fr w' h;have hg:=hi.fH;by_cases hs:lP (aX (aI T fB)) g
  ·rcases pO hi hs with⟨i,w1,es,e,l⟩|⟨o,w1,es,e⟩
   ·rw[runN,Jd hg e]at h;simp only at h
    cases n with
    |zero=>
     have d:lone i [] w1=lone fr [aX (aI T fB)] w':=by simpa[runN]using h
     have:=(Dn d).2.1;cases this
    |succ n=>
     obtain⟨o,w2,r,m⟩:=l w1;rw[runN,qY (g:=fH i []) rfl m]at h;cases h
   ·rw[runN,qY hg e]at h;cases h
  ·obtain⟨ρ,w2,s,t,j⟩:=hi.Wm fit hs
   cases e:stepG (aI T fB) true g w with
   |go u w1 es=>
    have p:=hi.step fit hs e;have f:=p.fH;have k:=e;rw[f]at k;rw[runN,Jd hg k]at h
    grind[cy.head]
   |ended o w1 es=>
    rw[runN,qY hg e]at h;cases h
   |_=>rw[e]at j;exact j.elim
def Gw{fn:Func}{tmps g:Array Value}(a:ρ.bw T.globals.size)(j:WR T.globals.size F (aL T F Z) ρ w w')(h:VA F ρ tmps g){v:Value}(e:(aH fn tmps).run (aI T fB) w=bv v w)(b:Tape)(d:Nat):(aH fn tmps).run (aI T fB) (w.re b d)=bv v (w.re b d):=by
 have hl:=av.loc (mP (T:=T) (fB:=fB) (fA:=fB) (Z:=Z) a fn h) a (Jc a j w.tape w.drawn).wr rfl rfl;obtain⟨_,_,c⟩:=hl;have k:(aH fn tmps).run (aI T fB) (w.re w.tape w.drawn)=bv v w:=e;have f:=c b d;rw[show(w.re w.tape w.drawn)=w from rfl,e]at f;simpa[Result.re,bx]using f (λi hi=>by simp[bx]at hi)
def zD(fit:Fits T fB fB F (λ_:ab=>false) Z){w0 j:World}(H:ρ.bw T.globals.size)(I:WR T.globals.size F (aL T F Z) ρ w0 j){f:ab}(hf:F f=true){args y:Array Value}(z:VA F ρ args y){R:Value->World->Prop}
 (J:∀v w i d,R v w->R v (b1 w i d)) (calls:∀σ:Tape,Calls (aI T fB) f args (w0.re σ 0) fun | .returned v,w'=>R v w'|_,_=>False) :
 Term (aI T fB) (lQ (aI T fB) f R) (fH (bp (aI T fB) f args c6) [aX (aI T fB)]) w0:=by
 have A:iE T fB F Z (fH (bp (aI T fB) f args c6) [aX (aI T fB)]) w0:=
  ⟨ρ,fH (bp (aI T fB) f y c6) [],j,⟨.alike (fe (fit.same f hf rfl) hf z),⟨[],rfl,.nil,(λx K=>by cases K;rfl),λ_=>fe (fit.same f hf rfl) hf z⟩,rfl,rfl,rfl,rfl,rfl,rfl⟩,H,I⟩
 have L:∀g w i d,lQ (aI T fB) f R g w->lQ (aI T fB) f R g (b1 w i d):=by
  rintro g w i d⟨a,b,c,e,fn,v,l,M,N⟩;exact⟨a,b,c,e,fn,v,l,λp O=>M p O,J v w i d N⟩
 refine Bv (Inv:=iE T fB F Z) (Stop:=λg=>lP (aX (aI T fB)) g) (λg w i d h=>h.re i d) (λg w g1 w1 es h hs e=>h.step fit hs e) (λg w h hs=>h.loc fit hs) ?_ L A ?_
 ·intro g w g2 w2 m hi hs k q;obtain⟨g3,w3,NF,B⟩:=k.next (.zero g w) (a8 m)
  rcases pO hi hs with⟨P,w1,es,e,Q⟩|⟨o,w1,es,e⟩
  ·have l:cy (aI T fB) 1 g w (fH P []) w1:=.succ (.zero _ _) e
   cases m with
   |zero=>
    obtain⟨rfl,rfl⟩:=k.det l;have:=q.1;cases this
   |succ m=>
    obtain⟨g4,w4,S,C⟩:=k.next l (by omega);obtain⟨o,w5,U,V⟩:=Q w1;rw[V]at C;cases C
  ·rw[e]at B;cases B
 ·intro σ;obtain⟨e,w',fr,r,hc,D,hl⟩:=calls σ [aX (aI T fB)]
  cases e with
  |returned v=>
   obtain⟨n,W⟩:=hc;obtain⟨k,aJ,g',aP,s,t,Y⟩:=zC fit n _ _ (A.re σ 0) fr w' W;refine⟨n,_,_,k,rfl,hl.1,hl.2.1,D,?_⟩;obtain⟨_,_,_,fn,E,u⟩:=hl;rw[D]at E;exact⟨fn,v,E,λi d=>Gw t Y s.top.noX.tmps u i d,r⟩
  |panicked c=>exact r.elim
  |outgrown=>exact r.elim
end
open Go.Conc
open Go.ConcN (sumTo upd sumTo_upd upd_ne upd_same)
section
variable {P:ag}{Shun:Loc->Prop}
def Gx(Q:Nat->ap->World->Array Event->Prop) :
 ∀(M:Nat)(gs:Array ap)(a:ap)(w:World)(sl:Option (Nat×Nat))(t:Trace)(q:Nat->Nat)(B:Nat),sumTo gs.size q<=M->gs[0]?=some a->a.status=cq->ce P t gs q->Past Shun B t->(∀op∈t,gs.size<=op.g->op.act.touch? = none)->
  (∀d,∃a' w' es,stepG P true a (w.at d)=b9 a' w' es/\Q d a' w' es/\B<=w'.heap.size/\∀e∈es,EvL Shun w'.heap.size e)->
  ∃(N d:Nat)(b:Array ap)(a':ap)(w':World)(es:Array Event)(o:Option (Nat×Nat))(k:Trace)(p:Nat->Nat),
   runNT P N (crowd gs w sl) t=(.next (crowd b w' o),k)/\b.size=gs.size/\b[0]?=some a'/\stepG P true a (w.at d)=b9 a' w' es/\Q d a' w' es/\ce P k b p/\Past Shun w'.heap.size k/\(∀op∈k,b.size<=op.g->op.act.touch? = none):=by
 intro M
 induction M with
 |zero=>
  intro gs a w sl t q B m c l f i j n;exact aux Q 0 (λ_ _ _ _ _ _ h=>absurd h (Nat.not_lt_zero _)) gs w sl t q B m c l f i j n
 |succ M r=>
  intro gs a w sl t q B m c l f i j n;exact aux Q (M+1) (λgs w sl t q B h c f i j hs=>r gs a w sl t q B (Nat.le_of_lt_succ h) c l f i j hs) gs w sl t q B m c l f i j n
 where
 aux (Q:Nat->ap->World->Array Event->Prop) (M:Nat) {a:ap} (T:∀(gs:Array ap)(w:World)(sl:Option (Nat×Nat))(t:Trace)(q:Nat->Nat)(B:Nat),sumTo gs.size q<M->gs[0]?=some a->ce P t gs q->Past Shun B t->(∀op∈t,gs.size<=op.g->op.act.touch? = none)->
  (∀d,∃a' w' es,stepG P true a (w.at d)=b9 a' w' es/\Q d a' w' es/\B<=w'.heap.size/\∀e∈es,EvL Shun w'.heap.size e)->
  ∃(N d:Nat)(b:Array ap)(a':ap)(w':World)(es:Array Event)(n:Option (Nat×Nat))(c:Trace)(u:Nat->Nat),
   runNT P N (crowd gs w sl) t=(.next (crowd b w' n),c)/\b.size=gs.size/\b[0]?=some a'/\stepG P true a (w.at d)=b9 a' w' es/\Q d a' w' es/\ce P c b u/\Past Shun w'.heap.size c/\(∀op∈c,b.size<=op.g->op.act.touch? = none)) :
  ∀(gs:Array ap)(w:World)(sl:Option (Nat×Nat))(t:Trace)(q:Nat->Nat)(B:Nat),sumTo gs.size q<=M->gs[0]?=some a->a.status=cq->ce P t gs q->Past Shun B t->(∀op∈t,gs.size<=op.g->op.act.touch? = none)->
  (∀d,∃a' w' es,stepG P true a (w.at d)=b9 a' w' es/\Q d a' w' es/\B<=w'.heap.size/\∀e∈es,EvL Shun w'.heap.size e)->
  ∃(N d:Nat)(b:Array ap)(a':ap)(w':World)(es:Array Event)(n:Option (Nat×Nat))(c:Trace)(u:Nat->Nat),
   runNT P N (crowd gs w sl) t=(.next (crowd b w' n),c)/\b.size=gs.size/\b[0]?=some a'/\stepG P true a (w.at d)=b9 a' w' es/\Q d a' w' es/\ce P c b u/\Past Shun w'.heap.size c/\(∀op∈c,b.size<=op.g->op.act.touch? = none):=by
  intro gs w sl t q B hM K U r L O R;have V:∀g∈gs,awake g:=by
   intro g hg;obtain⟨i,hi,rfl⟩:=Array.mem_iff_getElem.1 hg
   rcases a9 i with rfl|D
   ·grind[b4,awake_of]
   ·exact awake_of ((r.old i _ D (b4 hi)).status.elim co λx=>cp (cp x))
  obtain⟨i,g,d,n,hi,hg,S⟩:=crowd_pick (P:=P) (w:=w) (sl:=sl) V ⟨0,a,K,U⟩
  rcases a9 i with rfl|D
  ·obtain rfl:g=a:=by grind
   obtain⟨a',w',es,l,W,X,Y⟩:=R d;have E:=cf (P:=P) (sl:=n) (i:=0) hi (show stepG P (0==0) g (w.at d)=_ from l);have s:((gs.map (woken P g a' w')).setIfInBounds 0 a').size=gs.size:=by simp
   have z:0<gs.size:=(Array.getElem?_eq_some_iff.1 K).1
   refine⟨1,d,(gs.map (woken P g a' w')).setIfInBounds 0 a',a',w',es,n,t++MemOp.ofEvents 0 g.frame.fn g.frame.place es,q,by simp only[runNT,S,E],s,by simp[z],l,W,
    ⟨λj x m o=>?_,λj m=>?_⟩,(L.mono X).own Y,λop f=>?_⟩
   ·have Z:0≠j:=by omega
    rw[b5 Z,b6]at o;obtain⟨y,hy,rfl⟩:=Option.map_eq_some_iff.1 o;have p:=r.old j y m hy;rw[cg p,ch t (by omega) _ (λop f=>by obtain⟨e,_,rfl⟩:=ci f;rfl)];exact p
   ·rw[ch t (g':=0) (by simp at m;omega) _ (λop f=>by obtain⟨e,_,rfl⟩:=ci f;rfl)];exact r.above j (by simpa using m)
   ·rw[s]
    rcases Array.mem_append.1 f with h|h
    ·exact O op h
    ·obtain⟨e,_,rfl⟩:=ci h;grind
  ·have p:=r.old i g D hi;have Yl:(i==0)=false:=by simp;omega
   have z:i<gs.size:=(Array.getElem?_eq_some_iff.1 hi).1
   cases F:q i with
   |zero=>rw[F]at p;rw[p.1]at hg;cases hg
   |succ k=>
    rw[F]at p
    rcases p with⟨hf,_⟩|⟨_,A,es,hm,Gz,Ym⟩
    ·rw[hf]at hg;cases hg
    have E:=cf (P:=P) (sl:=n) (i:=i) hi (by rw[Yl];exact Gz (w.at d));have s:((gs.map (woken P g A (w.at d))).setIfInBounds i A).size=gs.size:=by simp
    have LO:sumTo gs.size (upd q i k)+(k+1)=sumTo gs.size q+k:=by
     have:=sumTo_upd q k id z;simpa[F]using this
    obtain⟨N,d2,b,H,SY,tJ,Yn,c,u,hr,fR,TK,l,hS,I,J⟩:=T ((gs.map (woken P g A (w.at d))).setIfInBounds i A) (w.at d) n (t++MemOp.ofEvents i g.frame.fn g.frame.place es) (upd q i k) B (by rw[s];omega)
     (by
       grind [b5,woken_run])
     ⟨λj x m o=>by
       by_cases C:i=j
       ·subst C;rw[Array.getElem?_setIfInBounds_self_of_lt (by simpa using z)]at o;obtain rfl:=Option.some.inj o;rw[upd_same,Deaf_own];exact Ym
       ·rw[b5 C,b6]at o;obtain⟨y,hy,rfl⟩:=Option.map_eq_some_iff.1 o;have v:=r.old j y m hy;rw[cg v,upd_ne q k (Ne.symm C),ch t C _ (λop f=>by obtain⟨e,_,rfl⟩:=ci f;rfl)];exact v,λj m=>by
       rw[ch t (g':=i) (by simp at m;omega) _ (λop f=>by obtain⟨e,_,rfl⟩:=ci f;rfl)]
       exact r.above j (by simpa using m)⟩
     (L.mute (by omega) hm) (λop f=>by
      rw[s]
      rcases Array.mem_append.1 f with h|h
      ·exact O op h
      ·obtain⟨e,_,rfl⟩:=ci h;grind) (λd2=>R d2)
    exact⟨N+1,d2,b,H,SY,tJ,Yn,c,u,by simp only[runNT,S,E];exact hr,fR.trans s,TK,l,hS,I,J⟩
end
end Go.bJ
namespace Go.bJ
open Go.Conc Go.ConcM
structure TL(Shun:Loc->Prop)(ρ:Ren)(n:Nat):Prop where
 cell:∀a,Shun (.cell a)->a.block<n/\∀r,¬ρ r a.block
 obj:∀b,Shun (.obj b)->b<n/\∀r,¬ρ r b
 mem:∀l,Shun l->l.isMemory=true
section
variable {T:aa}{fB fA:Array Func}{F X:ab->Bool}{Z:ac->Bool}{ρ aJ:Ren}{w w' w1 aP:World}{Shun:Loc->Prop}
def TL.step{es:Array Event}(h:TL Shun ρ w'.heap.size)(c:cE T.globals.size F (aL T F Z) ρ w w' aJ w1 aP es):TL Shun aJ aP.heap.size:=by
 refine⟨λa g=>?_,λb hb=>?_,h.mem⟩
 ·obtain⟨d,e⟩:=h.cell a g;refine⟨ba d c.fV,λr f=>?_⟩
  rcases c.only _ _ f with x|⟨_,x⟩
  ·exact e _ x
  ·omega
 ·obtain⟨d,e⟩:=h.obj b hb;refine⟨ba d c.fV,λr f=>?_⟩
  rcases c.only _ _ f with x|⟨_,x⟩
  ·exact e _ x
  ·omega
def Ls.evL(g:WR T.globals.size F (aL T F Z) ρ w w')(i:TL Shun ρ w'.heap.size){e:Event}(h:Ls ρ e):EvL Shun w'.heap.size e:=by
 obtain⟨loc,wr,k⟩:=e
 cases loc with
 |cell a=>
  obtain⟨rfl,r,d⟩:=h;refine⟨λx c hs=>?_,by simp,by simp,(g.lt d).2⟩;have f:x=⟨.cell a,wr,.plain⟩:=by simpa[cl,cm]using c.symm
  subst f;exact absurd d ((i.cell a hs).2 r)
 |obj b=>
  obtain⟨rfl,r,d⟩:=h;have e1:cl ⟨.obj b,wr,false⟩=.access ⟨.obj b,wr,false⟩:=by cases wr<;>rfl
  refine⟨λx c hs=>?_,by simp,by simp,?_⟩
  ·rw[e1]at c;have f:x=⟨.obj b,wr,.plain⟩:=by simpa[cm]using c.symm
   subst f;exact absurd d ((i.obj b hs).2 r)
  ·rw[e1];exact(g.lt d).2
 |mark m=>
  have j:m=.noRoom:=h;subst j;exact⟨λx c _=>by simp[cl,cm]at c,by simp,by simp,trivial⟩
 |output=>exact h.elim
 |goroutines=>exact h.elim
structure Dp(P:ag)(Shun:Loc->Prop)(gs:Array ap)(g:ap)(w:World)(t:Trace)(q:Nat->Nat):Prop where
 main:gs[0]?=some g
 old:ce P t gs q
 GA:Past Shun w.heap.size t
 num:∀op∈t,gs.size<=op.g->op.act.touch? = none
structure Kept(ρ:Ren)(w' aP:World):Prop where
 tape:aP.tape=w'.tape
 os:OsLater w'.os aP.os
 output:aP.output=w'.output
 size:w'.heap.size<=aP.heap.size
 block:∀b,b<w'.heap.size->(∀a,¬ρ a b)->aP.heap[b]?=w'.heap[b]?
def Kept.TM{es:Array Event}{d:Nat}(h:cE T.globals.size F (aL T F Z) ρ (w.re w'.tape d) (w'.re w'.tape d) aJ w1 aP es):Kept ρ w' aP:=
 ⟨h.wH,by rw[h.XV];exact .refl _,h.mK,h.fV,h.frame⟩
def sA(ρ aJ:Ren)(w w' w1 aP:World):Prop:=ρ.le aJ/\(∀a b,aJ a b->ρ a b\/(w.heap.size<=a/\w'.heap.size<=b))/\
 ∀a b,ρ a b->∀i,nX w1 a i->nX w a i/\aP.cell? ⟨b,i,none⟩=w'.cell? ⟨b,i,none⟩
def Kept.trans{c:World}(h:Kept ρ w' aP)(hg:∀a b,aJ a b->ρ a b\/w'.heap.size<=b)(k:Kept aJ aP c):Kept ρ w' c:=
 ⟨k.tape.trans h.tape,h.os.trans k.os,k.output.trans h.output,a6 h.size k.size,λb hb d=>by
   rw[k.block b (ba hb h.size) λa x=>?_,h.block b hb d]
   grind⟩
def BD(T:aa)(fB fA:Array Func)(F X:ab->Bool)(Z:ac->Bool)(End:ap->World->Prop):Prop:=
 ∀(x:ab),X x=true->∀(ρ:Ren)(a f:Array Value)(c b:Frame)(l e:List Frame)(w w':World)(gs:Array ap)(i:Option (Nat×Nat))(t:Trace)(q:Nat->Nat)(Shun:Loc->Prop),
  ρ.bw T.globals.size->WR T.globals.size F (aL T F Z) ρ w w'->VA F ρ a f->aQ T F Z fB fA ρ c b->cj T F Z fB fA ρ l e->
  Term ⟨T,fB⟩ End (fH (bp ⟨T,fB⟩ x a c6) (c::l++[aX ⟨T,fB⟩])) w->iE T fB F Z (fH (bp ⟨T,fB⟩ x a c6) (c::l++[aX ⟨T,fB⟩])) w->
  Dp ⟨T,fA⟩ Shun gs (fH (bp ⟨T,fA⟩ x f c6) (b::e)) w' t q->TL Shun ρ w'.heap.size->Calm w'.tape->
  ∃(N:Nat)(aJ:Ren)(v v':Value)(w1 aP:World)(g:Array ap)(j:Option (Nat×Nat))(t1:Trace)(q1:Nat->Nat)(h:Loc->Prop),
   runNT ⟨T,fA⟩ N (crowd gs w' i) t=(.next (crowd g aP j),t1)/\Dp ⟨T,fA⟩ h g (fH (b.finish v') e) aP t1 q1/\TL h aJ aP.heap.size/\
   VR F aJ v v'/\aJ.bw T.globals.size/\WR T.globals.size F (aL T F Z) aJ w1 aP/\sA ρ aJ w w' w1 aP/\Kept ρ w' aP/\
   (∃m k d,cy ⟨T,fB⟩ (m+1) (fH (bp ⟨T,fB⟩ x a c6) (c::l++[aX ⟨T,fB⟩])) (w.re k d) (fH (c.finish v) (l++[aX ⟨T,fB⟩])) w1)/\iE T fB F Z (fH (c.finish v) (l++[aX ⟨T,fB⟩])) w1/\w.heap.size<=w1.heap.size
def results_tmp{fn:Func}{t:Tmp}(h:fn.results=#[.tmp t])(tmps:Array Value):aH fn tmps=pure (tmps.getD t undef):=by
 unfold aH
 simp_all
def sA.trans{c:Ren}{w2 d:World}(h:sA ρ aJ w w' w1 aP)(k:sA aJ c w1 aP w2 d)(j:w.heap.size<=w1.heap.size)(l:w'.heap.size<=aP.heap.size):sA ρ c w w' w2 d:=
 ⟨Ren.le_trans h.1 k.1,λa b x=>by
   rcases k.2.1 a b x with y|⟨y,z⟩
   ·exact h.2.1 a b y
   grind,λa b x i f=>by
   obtain⟨y,e⟩:=k.2.2 a b (h.1 x) i f;obtain⟨z,g⟩:=h.2.2 a b x i y
   exact⟨z,e.trans g⟩⟩
def kK(T:aa)(fB fA:Array Func)(F X:ab->Bool)(Z:ac->Bool)(R:Value->World->Prop)(g:ap)(w:World):Prop:=
 ∀(ρ:Ren)(c:ap)(w':World)(gs:Array ap)(f:Option (Nat×Nat))(t:Trace)(q:Nat->Nat)(Shun:Loc->Prop),
  iE T fB F Z g w->GR T fB fA F X Z (aX ⟨T,fB⟩) ρ g c->ρ.bw T.globals.size->WR T.globals.size F (aL T F Z) ρ w w'->Dp ⟨T,fA⟩ Shun gs c w' t q->TL Shun ρ w'.heap.size->Calm w'.tape->
  ∃(N:Nat)(aJ:Ren)(v v':Value)(a aP:World)(e:Array ap)(b:ap)(h:Option (Nat×Nat))(t1:Trace)(q1:Nat->Nat)(i:Loc->Prop),
   runNT ⟨T,fA⟩ N (crowd gs w' f) t=(.next (crowd e aP h),t1)/\Dp ⟨T,fA⟩ i e b aP t1 q1/\b.status=cq/\(∀d,stepG ⟨T,fA⟩ true b (aP.at d)=ca (.done v') (aP.at d))/\
   VR F aJ v v'/\R v a/\WR T.globals.size F (aL T F Z) aJ a aP/\aJ.bw T.globals.size/\sA ρ aJ w w' a aP/\Kept ρ w' aP
def BF(W:Fits T fB fA F X Z)(Y:Fits T fB fB F (λ_:ab=>false) Z){f:ab}{R:Value->World->Prop}(B:T.inits.idxOf? f=none){fn:Func}{tr:Tmp}(j:fB[f]?=some fn)(k:fA[f]?=some fn)(x:fn.results=#[.tmp tr])
 {g:ap} {w:World} (h:lQ (aI T fB) f R g w):kK T fB fA F X Z R g w:=by
 intro ρ m w' gs C t q Shun hi hg D E H vJ lS;obtain⟨e1,I,J,K,n,v,L,M,N⟩:=h;have i:fB[f]?=some n:=L;rw[j]at i;cases i;obtain⟨O,⟨l,hl,hcs,hb,o⟩,st,c,dy,y,of,z⟩:=hg;obtain rfl:l=[]:=by
  simp_all
 have e:=o rfl;have P:v=g.frame.tmps.getD tr undef:=by
  have:=M w.tape w.drawn;rw[results_tmp x]at this;cases this;rfl
 refine⟨0,ρ,v,m.frame.tmps.getD tr undef,w,w',gs,m,C,t,q,Shun,rfl,H,c,λd=>?_,?_,N,E,D,⟨Ren.le_refl _,λa b h=>co h,λ_ _ _ _ h=>⟨h,rfl⟩⟩,⟨rfl,.refl _,rfl,aS _,λ_ _ _=>rfl⟩⟩
 ·obtain⟨p,cs',s',d',o'⟩:=m;simp only at hcs c y z e;subst c y z;cases hcs;have r:=e.mode;have s:=e.defers;have u:=e.fn;have A:=e.bX;rw[I]at r;rw[J]at s;rw[K]at u;obtain⟨Q,S,U,cv,dQ,bX,V⟩:=p;simp only at r s u A;subst u A;cases r;cases s;show aB (aI T fA) true ⟨Q,S,U,[],c5,c6,V⟩ [] none (w'.at d)=_;unfold aB;simp only[k,results_tmp x];show b8 _ (aw (aI T fA) true _ [] none _ _)=_;unfold aw;simp only[B];rfl
 ·rw[P];exact VA.getD e.tmps tr .undef
def vf{End:ap->World->Prop}(hE:∀fr w,¬End (fH fr []) w){g:ap}{w:World}{G1:Tape->Nat->ap}{W1:Tape->Nat->World}(hi:iE T fB F Z g w)(hs:lP (aX (aI T fB)) g)
 (h:∀c d,∃es,stepG (aI T fB) true g (w.re c d)=b9 (G1 c d) (W1 c d) es) (k:∀c d,Term (aI T fB) End (G1 c d) (W1 c d)):False:=by
 obtain⟨es,e⟩:=h w.tape w.drawn;have f:stepG (aI T fB) true g w=b9 (G1 w.tape w.drawn) (W1 w.tape w.drawn) es:=e;have i:=k w.tape w.drawn
 rcases pO hi hs with⟨q,w1,l,e1,m⟩|⟨o,w1,l,e1⟩
 ·rw[e1]at f
  injection f with a b _
  rw[<-a,<-b]at i
  cases i with
  |done hd=>exact hE _ _ hd
  |step r s n k2=>
   obtain⟨t,j⟩:=n w.tape w.drawn;obtain⟨o,w3,u,p⟩:=m (w1.re w.tape w.drawn);rw[p]at j;cases j
 ·rw[e1]at f;cases f
def TN{f f':Frame}(h:Gm T fB fA F X Z ρ f f'):aQ T F Z fB fA ρ f f'\/∃x a a',X x=true/\F x=true/\VA F ρ a a'/\f=bp (aI T fB) x a c6/\f'=bp (aI T fA) x a' c6:=by
 cases h with
 |alike h=>exact co h
 |enters x b hf h=>grind
def BH(OM:Fits T fB fA F X Z)(LR:Fits T fB fB F (λ_:ab=>false) Z){f:ab}{R:Value->World->Prop}(ph:BD T fB fA F X Z (lQ (aI T fB) f R)){g:ap}{w:World}{G1:Tape->Nat->ap}{W1:Tape->Nat->World}
 (h:∀i d,∃es,stepG (aI T fB) true g (w.re i d)=b9 (G1 i d) (W1 i d) es) (k:∀i d,Term (aI T fB) (lQ (aI T fB) f R) (G1 i d) (W1 i d))
 (ih:∀i d,kK T fB fA F X Z R (G1 i d) (W1 i d)) (S:∀n E w2 i d,cy (aI T fB) (n+1) g (w.re i d) E w2->kK T fB fA F X Z R E w2):kK T fB fA F X Z R g w:=by
 intro ρ p w' gs U t q Shun hi hg L M s V W;have step:∀(ρ:Ren)(p:ap)(w':World),GR T fB fA F X Z (aX (aI T fB)) ρ g p->aQ T F Z fB fA ρ g.frame p.frame->ρ.bw T.globals.size->WR T.globals.size F (aL T F Z) ρ w w'->¬lP (aX (aI T fB)) g->∀d,
  ∃aJ o aP es r d2,stepG (aI T fA) true p (w'.at d)=b9 o aP es/\cE T.globals.size F (aL T F Z) ρ (w.re w'.tape d) (w'.re w'.tape d) aJ ((W1 w'.tape d).re r d2) aP es/\GR T fB fA F X Z (aX (aI T fB)) aJ (G1 w'.tape d) o:=by
  intro ρ p w' hg H L M hs d;have:=sr OM (Jc L M w'.tape d) hg H (Bz hs);obtain⟨es,e⟩:=h w'.tape d;rw[e]at this;obtain⟨aJ,vY,aP,aT,r,d2,e1,s,A⟩:=this;exact⟨aJ,vY,aP,aT,r,d2,e1,s,A⟩
 have hs:¬lP (aX (aI T fB)) g:=λhs=>vf (λfr w hd=>by have:=hd.1;cases this) hi hs h k;have alike:aQ T F Z fB fA ρ g.frame p.frame->∃(N:Nat)(aJ:Ren)(v v':Value)(B aP:World)(O:Array ap)(Y:ap)(rQ:Option (Nat×Nat))(t1:Trace)(q1:Nat->Nat)(qF:Loc->Prop),
  runNT (aI T fA) N (crowd gs w' U) t=(.next (crowd O aP rQ),t1)/\Dp (aI T fA) qF O Y aP t1 q1/\Y.status=cq/\(∀d,stepG (aI T fA) true Y (aP.at d)=ca (.done v') (aP.at d))/\
  VR F aJ v v'/\R v B/\WR T.globals.size F (aL T F Z) aJ B aP/\aJ.bw T.globals.size/\sA ρ aJ w w' B aP/\Kept ρ w' aP:=by
  intro H;obtain⟨N,d,jk,o,aP,es,ov,t',q',hr,fW,TK,hgo,⟨aJ,r,d2,j,A⟩,hL',hP',hN'⟩:=Gx (P:=aI T fA) (Shun:=Shun)
   (λd o aP es=>∃aJ r d2,cE T.globals.size F (aL T F Z) ρ (w.re w'.tape d) (w'.re w'.tape d) aJ ((W1 w'.tape d).re r d2) aP es/\GR T fB fA F X Z (aX (aI T fB)) aJ (G1 w'.tape d) o)
   (Go.ConcN.sumTo gs.size q) gs p w' U t q w'.heap.size (aS _) s.main hg.st' s.old s.GA s.num (λd=>by
    obtain⟨aJ,o,aP,es,r,d2,e1,I,e3⟩:=step ρ p w' hg H L M hs d
    exact⟨o,aP,es,e1,⟨aJ,r,d2,I,e3⟩,I.fV,λe he=>Ls.evL I.wr (TL.step (w':=w'.re w'.tape d) V I) (I.ev e he)⟩)
  have Wr:Kept ρ w' aP:=Kept.TM j;obtain⟨es0,e0⟩:=h w'.tape d;have Gu:iE T fB F Z (G1 w'.tape d) (W1 w'.tape d):=(hi.re w'.tape d).step LR hs e0;obtain⟨N2,dU,v,v',B,jz,C,E,D,t2,q2,OP,r1,r2,r3,r4,r5,r6,r7,r8,r9,TP⟩:=ih w'.tape d aJ o aP jk ov t' q' Shun Gu A j.inj ⟨j.wr.pK,j.wr.gN,j.wr.obj⟩ ⟨TK,hL',hP',hN'⟩ (TL.step (w':=w'.re w'.tape d) V j) (by rw[Wr.tape];exact W);have acD:sA ρ aJ w w' (W1 w'.tape d) aP:=⟨j.le,j.only,j.hol⟩
  refine⟨N+N2,dU,v,v',B,jz,C,E,D,t2,q2,OP,Go.ConcX.runNT_trans hr r1,r2,r3,r4,r5,r6,r7,r8,acD.trans r9 j.size j.fV,Wr.trans (λa b x=>?_) TP⟩
  rcases j.only a b x with y|⟨_,y⟩
  ·exact co y
  ·exact cp y
 have OQ:=hg;obtain⟨acA,⟨l,hl,hcs,hb,hal⟩,st,J,dy,Bl,of,Bm⟩:=hg
 cases l with
 |nil=>exact alike (hal rfl)
 |cons c l=>
  rcases TN acA with H|⟨x,a,o,hx,hf,ha,lR,K⟩
  ·exact alike H
  ·have eg:g=fH (bp (aI T fB) x a c6) (c::l++[aX (aI T fB)]):=by rw[hi.fH,lR,hl]
   obtain⟨fr',cs',s',d',o'⟩:=p;simp only at hcs J Bl Bm K;subst J Bl Bm K
   cases hcs with
   |@cons _ c' _ l' hc sB=>
    rw[eg]at hi;have ht:Term (aI T fB) (lQ (aI T fB) f R) (fH (bp (aI T fB) x a c6) (c::l++[aX (aI T fB)])) w:=by
     rw[<-eg];exact .step G1 W1 h k
    obtain⟨N,aJ,v,v',w1,aP,O,rQ,t1,q1,qF,p1,p2,p3,p4,p5,p6,Q,p8,⟨m,i,d,p9⟩,Cz,Fy⟩:=ph x hx ρ a o c c' l l' w w' gs U t q Shun L M ha hc sB ht hi s V W;rw[<-eg]at p9;have OS:=S m _ _ i d p9;have eP:dn (c.finish v::l):=by
     have:dn (c::l):=hb.pop;exact this.top (bZ _ _)
    have LS:=(hc.mono Q.1).finish p4;obtain⟨N2,dU,u,u',B,jz,C,E,D,t2,q2,OP,r1,r2,r3,r4,r5,r6,r7,r8,r9,TP⟩:=OS aJ (fH (c'.finish v') l') aP O rQ t1 q1 qF Cz
     ⟨.alike LS,⟨l,rfl,sB.mono Q.1,eP,λ_=>LS⟩,rfl,rfl,rfl,rfl,rfl,rfl⟩ p5 p6 p2 p3 (by rw[p8.tape];exact W)
    refine⟨N+N2,dU,u,u',B,jz,C,E,D,t2,q2,OP,Go.ConcX.runNT_trans p1 r1,r2,r3,r4,r5,r6,r7,r8,Q.trans r9 Fy p8.size,p8.trans (λa b y=>?_) TP⟩
    rcases Q.2.1 a b y with z|⟨_,z⟩
    ·exact co z
    ·exact cp z
def LU{R:Value->World->Prop}{g b:ap}{w w2:World}{n:Nat}(hi:iE T fB F Z g w)(hs:lP (aX (aI T fB)) g)(a:cy (aI T fB) (n+1) g w b w2):kK T fB fA F X Z R b w2:=by
 obtain⟨p,w3,r,c⟩:=a.next (.zero g w) (a8 n)
 rcases pO hi hs with⟨h,w1,es,e,i⟩|⟨o,w1,es,e⟩
 ·have d:cy (aI T fB) 1 g w (fH h []) w1:=.succ (.zero _ _) e
  cases n with
  |zero=>
   obtain⟨rfl,rfl⟩:=a.det d;intro ρ s w' gs u t q Shun _ hg;obtain⟨_,⟨l,hl,_⟩,_⟩:=hg;cases l<;>cases hl
  |succ n=>
   obtain⟨v,w4,j,f⟩:=a.next d (by omega);obtain⟨o,w5,k,m⟩:=i w1;rw[m]at f;cases f
 ·rw[e]at c;cases c
def Yp(x:Fits T fB fA F X Z)(p:Fits T fB fB F (λ_:ab=>false) Z){f:ab}{R:Value->World->Prop}(A:∀v w i d,R v w->R v (b1 w i d))(B:T.inits.idxOf? f=none){fn:Func}{tr:Tmp}(q:fB[f]?=some fn)(r:fA[f]?=some fn)(C:fn.results=#[.tmp tr])
 (D:BD T fB fA F X Z (lQ (aI T fB) f R)) {g:ap} {w:World} (E:Term (aI T fB) (lQ (aI T fB) f R) g w) :
 iE T fB F Z g w->∀n j w2 i d,cy (aI T fB) n g (w.re i d) j w2->kK T fB fA F X Z R j w2:=by
 induction E with
 |@done g w h=>
  intro hi n j w2 i d l;have H:lQ (aI T fB) f R g (w.re i d):=by
   obtain⟨a,b,c,e,fn,v,s,I,J⟩:=h;exact⟨a,b,c,e,fn,v,s,λm t=>I m t,A v w i d J⟩
  cases n with
  |zero=>cases l;exact BF x p B q r C H
  |succ n=>
   have hs:lP (aX (aI T fB)) g:=⟨by rw[h.2.1];simp,h.2.2.1,h.1⟩
   exact LU (hi.re i d) hs l
 |@step g w u o h k y=>
  intro hi n j w2 i d l;have hs:¬lP (aX (aI T fB)) g:=λhs=>vf (λfr w hd=>by have:=hd.1;cases this) hi hs h k;have z:∀i d,iE T fB F Z (u i d) (o i d):=λi d=>by
   obtain⟨es,e⟩:=h i d;exact(hi.re i d).step p hs e
  have later:∀n j w2 i d,cy (aI T fB) (n+1) g (w.re i d) j w2->kK T fB fA F X Z R j w2:=by
   intro n j w2 i d l;obtain⟨es,e⟩:=h i d;have s:cy (aI T fB) 1 g (w.re i d) (u i d) (o i d):=.succ (.zero _ _) e;rw[Nat.add_comm]at l;exact y i d (z i d) n j w2 (o i d).tape (o i d).drawn (l.suffix s)
  cases n with
  |zero=>
   cases l;refine BH x p D (G1:=u) (W1:=o) (λi d=>h i d) k (λi d=>?_) (λn j w2 m t hc=>later n j w2 m t hc);exact y i d (z i d) 0 _ _ (o i d).tape (o i d).drawn (.zero _ _)
  |succ n=>exact later n j w2 i d l
end
end Go.bJ
namespace Go.bJ
def BI(T:aa)(F:ab->Bool)(t:ac):Bool:=match T.types[t]? with
 |some i=>(match i.zero with|some v=>pM F 12 v|none=>true)
 |none=>true
def Zof(n:Nat):ac->Bool:=λt=>decide (t<n)
def Jf{T:aa}{F:ab->Bool}{n:Nat}(c:n<=T.types.size)(h:(cc n).all (BI T F)=true)(a:((T.info? 0).all λi=>(i.methods.find? (·.name == "")).isNone)=true):dM T F (Zof n):=by
 refine⟨?_,λi hi=>by rw[hi]at a;simpa using a⟩;intro t i v d hi hv;have hl:t<n:=by simpa[Zof]using d
 have b:=List.all_eq_true.1 h t (List.mem_range.2 hl);unfold Tables.info? at hi;rw[if_pos (ba hl c)]at hi;simp only[BI,hi,hv]at b;exact uY 12 b
def mI(T:aa)(F:ab->Bool)(Z:ac->Bool)(fn:Func):Bool:=
 fn.name != "runtime.NumGoroutine" && match fn.body with|some c=>aL T F Z c|none=>false
def Jg(T:aa)(fs:Array Func)(F X:ab->Bool)(Z:ac->Bool)(n:Nat):Bool:=
 (cc n).all λf=>!F f||X f||match fs[f]? with|some fn=>mI T F Z fn|none=>false
def BJ{T:aa}{fB fA:Array Func}{F X:ab->Bool}{Z:ac->Bool}{n:Nat}(i:dM T F Z)(j:∀f,F f=true->f<n)(same:∀f,X f=false->fB[f]?=fA[f]?)
 (k:∀f,X f=true->(∃b,fB[f]?=some b/\b.body.isSome=true/\b.name≠ "runtime.NumGoroutine")/\∃a,fA[f]?=some a/\a.body.isSome=true/\a.name≠ "runtime.NumGoroutine")
 (h:Jg T fA F X Z n=true) (p:fB.size<=cn):Fits T fB fA F X Z:=by
 have key:∀f,F f=true->X f=false->∃fn c,fA[f]?=some fn/\fn.body=some c/\aL T F Z c=true/\fn.name≠ "runtime.NumGoroutine":=by
  intro f hf d;have:=List.all_eq_true.1 h f (List.mem_range.2 (j f hf));simp only[hf,d,bs,Bool.false_or]at this
  cases e:fA[f]? with
  |none=>rw[e]at this;cases this
  |some fn=>
   rw[e]at this;simp only[mI,br,bne_iff_ne,ne_eq]at this
   grind
 refine⟨i,⟨λl=>Array.getElem?_eq_none (by omega),λf hf=>?_⟩,λf hf d=>?_⟩
 ·cases d:X f with
  |true=>exact k f d
  |false=>
   grind
 ·obtain⟨fn,c,g,m,o,_⟩:=key f hf d;exact⟨fn,c,(same f d).trans g,g,m,o⟩
end Go.bJ
namespace Go.Proofs
open Go.bJ
private def dat(l:List Nat):Array Edge:=(l.map λi=>{ on:=i,ground:=Ground.data }).toArray
private def opr(dst:Option Nat)(op:Op)(after:List Nat:=[])(type:ac:=0):Oper:={ dst,op,type,pos:= "b",after:=dat after,guard:=none }
def FF:ab->Bool:=λf=>decide (f<149) && !([2,69,70,71,72,73,74,92,93,95,96,99,100,103,116,118,0,1,86,87,88,89,90,91,94,97,98,101,102,104,105,111,112,113,114,115,117,119,122,123,124,125,126,127,128,133,134,135,136,137,138,139,140,141,142,143,144,145,146,147,148].contains f)
def XX:ab->Bool:=λf=>f==43
def NN:ab->Bool:=λ_=>false
noncomputable def ZZ:ac->Bool:=Zof Tryz.progTables.types.size
def zeros:(cc Tryz.progTables.types.size).all (BI Tryz.progTables FF)=true:=by kernel_rfl
def Jh:dM Tryz.progTables FF ZZ:=Jf (aS _) zeros (by kernel_rfl)
def acG:Jg Tryz.progTables Tryz.funcs FF XX ZZ 149=true:=by kernel_rfl
end Go.Proofs
