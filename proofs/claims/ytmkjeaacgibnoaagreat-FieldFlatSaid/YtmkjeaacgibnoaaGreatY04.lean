/- Part of the proof of FieldFlat and FieldMarshals. -/
import Derived.Test.YtmkjeaacgibnoaaGreatY03
set_option linter.all false
open Go renaming FuncId->aa,TypeId->ab,Deferred->ac,results->ad,doReturn->ae,Result->ag,Program->ai,unwind->ao,choose->ap,yielded->aq,Goroutine->ar,setObj->aw
open Go.bJ renaming codeOk->aB
open Go.Instr renaming beginRound->aH,endRound->aI,endLoop->aJ,enterLoop->aL,takeDeferred->aP
open Array renaming mapM_eq_mapM_toList->aT,getElem?_eq_getElem->a5,toList_modify->a6,toList_push->a7
open Go.Program renaming mk->a8
open Go.GStep renaming after->a9
open Go.Sem renaming runT_fst->ba,run->bb,choose->bc,run_bind'->bd
open Go.stepG renaming oper->bg,apply->bi,exec->bj
open Go.Frame renaming catches->bl,raise->bm,eval->bo
open Bool renaming false_eq_true->bp,and_eq_true->bq
open Nat renaming le_refl->br,sub_self->bs
open Go.World renaming freeze->bt
namespace Go.bJ
section
variable {T:Tables}{fB fA:Array Func}{F X:aa->Bool}{Z:ab->Bool}{bot:Frame}{ρ σ:Ren}{w w':World}
def lg(a:ρ.bw T.globals.size){l l':Nat}(h:ρ l l'):av T fB fA F (aB T F Z) fF ρ (aH l) (aH l'):=by
 refine af a (jV a h) λσ b a r d c=>?_;refine af a (dV (b h) (.loop { c with state:=rfl })) λe b a _ _ _=>?_;rw[<-c.state]
 cases r.state with
 |ready=>exact ah rfl
 |done=>exact cX _
 |busy=>exact cX _
 |exhausted=>exact cX _
def oq(a:ρ.bw T.globals.size){l l':Nat}(h:ρ l l')(j:Option Code)(d:∀c,j=some c->aB T F Z c=true):av T fB fA F (aB T F Z) (RV F) ρ (aI l j) (aI l' j):=by
 refine af a (jV a h) λσ b a r f e=>?_;refine af a (dV (b h) (.loop { e with state:=rfl,pending:=rfl,FN:=d })) λg b a _ _ _=>?_;exact ah (.bool _)
def qW(a:ρ.bw T.globals.size){l l':Nat}(h:ρ l l'):av T fB fA F (aB T F Z) (λ_ j e=>j=e/\∀c,j=some c->aB T F Z c=true) ρ (aJ l) (aJ l'):=by
 refine af a (jV a h) λσ b a r f d=>?_;rw[<-d.state];refine aN (λ_=>?_) λ_=>?_
 ·exact af (RA:=λ_ _ _=>False) a (cX _) λ_ _ _ _ _ h=>h.elim
 ·refine af a (dV (b h) (.loop { d with state:=rfl })) λg b a _ _ _=>?_;exact ah ⟨d.pending,d.FN⟩
def mO(f:ρ.bw T.globals.size)(fn:aa)(hf:F fn=true){t k:Array Value}(n:VA F ρ t k)(ps:Array Tmp)(a b:Code)(o:aB T F Z a=true)(hb:aB T F Z b=true){r j:Option Nat}(g:om ρ r j) :
 av T fB fA F (aB T F Z) (λσ x i=>σ x.1 i.1/\fS σ x.2 i.2) ρ (aL fn t ps a b r) (aL fn k ps a b j):=by
 unfold aL;have fin:∀(σ:Ren),σ.bw T.globals.size->ρ.le σ->∀(d l:Nat)(m m':List ac),σ d l->fS σ m m'->
  av T fB fA F (aB T F Z) (λσ x i=>σ x.1 i.1/\fS σ x.2 i.2) σ (do pure (<-newObj (.loop { state:=.ready,pending:=none,fn,tmps:=t,params:=ps,assign:=a,body:=b,defers:=d }),m):Sem (Nat×List ac))
   (do pure (<-newObj (.loop { state:=.ready,pending:=none,fn,tmps:=k,params:=ps,assign:=a,body:=b,defers:=l }),m'):Sem (Nat×List ac)):=by
  intro σ f c d l m m' hd p;refine af f (jO (.loop ⟨rfl,rfl,(λ_ e=>by cases e),rfl,hf,VA.mono c n,rfl,rfl,o,rfl,hb,hd⟩)) λs c f x i q=>ah ⟨q,p.mono c⟩
 cases g with
 |some h=>
  refine af f (jV f h) λσ c f r j g=>?_;exact fin σ f c _ _ _ _ g.defers .nil
 |none=>
  refine af f (jO .deferred) λσ c f r j g=>?_;exact fin σ f c _ _ _ _ g (.cons g .nil)
def jj(a:ρ.bw T.globals.size){r c:Nat}(h:ρ r c):av T fB fA F (aB T F Z) (λ_ l l'=>l=[]/\l'=[]) ρ (aP r) (aP c):=by
 refine af a (dA h) λσ b a o e d=>?_
 cases d with
 |deferred=>exact af a (dV (b h) .nW) λ_ _ _ _ _ _=>ah ⟨rfl,rfl⟩
 |_=>exact ak
def Br{tmps d:Array Value}:∀(l:List ResultVar){ρ:Ren},ρ.bw T.globals.size->VA F ρ tmps d->av T fB fA F (aB T F Z) (λσ x e=>cU F σ x e) ρ
 (l.mapM fun | .tmp t=>pure (tmps.getD t undef) | .cell a t=>do loadVar t (<-asAddr (tmps.getD a undef)))
 (l.mapM fun | .tmp t=>pure (d.getD t undef) | .cell a t=>do loadVar t (<-asAddr (d.getD a undef))):=by
 intro l
 induction l with
 |nil=>intro ρ b h;exact ah .nil
 |cons x l f=>
  intro ρ b h;rw[List.mapM_cons,List.mapM_cons];refine af (RA:=RV F) b ?_ λσ c b v v' hv=>?_
  ·cases x with
   |tmp t=>exact ah (VA.getD h t .undef)
   |cell a t=>exact af b (z7 (VA.getD h a .undef)) λσ c b a j g=>wN b t g
  ·refine af b (f b (VA.mono c h)) λk c b vs m i=>ah (.cons (hv.mono c) i)
def mP(b:ρ.bw T.globals.size)(fn:Func){tmps i:Array Value}(h:VA F ρ tmps i):av T fB fA F (aB T F Z) (RV F) ρ (ad fn tmps) (ad fn i):=by
 unfold ad;rw[aT,aT];refine af (RA:=λσ(x k:Array Value)=>VA F σ x k) b (af b (Br fn.results.toList b h) λσ f b vs a c=>ah c) λσ f b vs a c=>?_;refine ah ?_;have hs:=VA.size c;by_cases e:vs.size=1
 ·have g:a.size=1:=hs▸e;show VR F σ (if h:vs.size=1 then vs[0] else _) (if h:a.size=1 then a[0] else _);rw[dif_pos e,dif_pos g]
  rcases VA.get? c 0 with⟨d,_⟩|⟨v,v',d,j,hv⟩
  ·rw[a5 (by omega)]at d;cases d
  ·rw[a5 (by omega)]at d j;cases d;cases j;exact hv
 ·have g:a.size≠1:=hs▸e;show VR F σ (if h:vs.size=1 then vs[0] else _) (if h:a.size=1 then a[0] else _);rw[dif_neg e,dif_neg g];exact .tuple c
def mQ(b:Wd T F Z ρ w w'){fr fr':Frame}{cs cs':List Frame}(a:aQ T F Z fB fA ρ fr fr')(hcs:cj T F Z fB fA ρ cs cs')(hb:dn (fr::cs)) :
 ef T fB fA F X Z bot ρ w w' (.go { frame:=fr,callers:=cs++[bot],status:=.running,dying:=none } w) (.go { frame:=fr',callers:=cs',status:=.running,dying:=none } w'):=
 ⟨ρ,_,_,_,w.tape,w.drawn,rfl,b.refl,.alike a,⟨cs,rfl,hcs,hb,λ_=>a⟩,rfl,rfl,rfl,rfl,rfl,rfl⟩
def sj(b:Wd T F Z ρ w w'){fr fr':Frame}{cs cs':List Frame}(a:aQ T F Z fB fA ρ fr fr')(hcs:cj T F Z fB fA ρ cs cs')(hb:dn (fr::cs))(c:cs≠[]){v v':Value}(hv:VR F ρ v v') :
 ef T fB fA F X Z bot ρ w w' (ae (a8 T fB) true fr (cs++[bot]) none v w) (ae (a8 T fA) true fr' cs' none v' w'):=by
 cases hcs with
 |nil=>exact absurd rfl c
 |@cons f d l e h t=>
  show(ef T fB fA F X Z bot) ρ w w' (ae (a8 T fB) true fr (f::(l++[bot])) none v w) _;simp only[ae,a.kind,a.bX];exact mQ b (h.finish hv) t (hb.pop.top (bZ _ _))
def sk{i j:Type}{RA:Ren->i->j->Prop}(k:Wd T F Z ρ w w'){s:Sem i}{s':Sem j}(hs:av T fB fA F (aB T F Z) RA ρ s s'){f:ag i->GStep}{f':ag j->GStep}(fn p:aa)
 (q:∀(b:Ren)(a:i)(a':j)(w1 c:World)(new:Array Event),cE T.globals.size F (aB T F Z) ρ w w' b w1 c new->RA b a a'->ef T fB fA F X Z bot b w1 c (f (.ok a w1)) (f' (.ok a' c)))
 (t:∀(b:Ren)(v v':Value)(w1 c:World)(new:Array Event),cE T.globals.size F (aB T F Z) ρ w w' b w1 c new->VR F b v v'->ef T fB fA F X Z bot b w1 c (f (.halt (.panic v) w1)) (f' (.halt (.panic v') c)))
 (d:∀m w1,∃o w2 es,f (.halt (.stuck m) w1)=.ended o w2 es) (x:∀u w1,dw u=true->∃o w2 es,f (.halt (.unsupported u) w1)=.ended o w2 es) :
 ef T fB fA F X Z bot ρ w w' (a9 (seen (a8 T fB) fn (s.runT (a8 T fB) w #[]).2) (f (s.runT (a8 T fB) w #[]).1)) (a9 (seen (a8 T fA) p (s'.runT (a8 T fA) w' #[]).2) (f' (s'.runT (a8 T fA) w' #[]).1)):=by
 have g:=av.run #[] hs k.inj k.wr k.tape k.drawn;rw[ba];generalize s.run (a8 T fB) w=r at g
 cases r with
 |ok a w1=>
  obtain⟨b,a',c,new,e1,d,l⟩:=g;rw[e1];exact ef.comp d (q b a a' w1 c new d l) λe n=>by simpa using Conc.mem_seen n
 |halt h w1=>
  cases h with
  |panic v=>
   obtain⟨b,v',c,new,e1,d,l⟩:=g;rw[e1];exact ef.comp d (t b v v' w1 c new d l) λe n=>by simpa using Conc.mem_seen n
  |stuck m=>
   obtain⟨o,w2,es,e⟩:=d m w1;rw[e];trivial
  |unsupported u=>
   obtain⟨o,w2,es,e⟩:=x u w1 g;rw[e];trivial
  |_=>exact g.elim
def mR(p:ai)(main:Bool)(fr:Frame)(callers:List Frame)(dying:Option Dying)(w:World)(jump:Option Code):GStep:=
 match fr.roundOf with
 |none=>if jump matches none|some .ret then .go { frame:={ fr with mode:=.returning },callers,status:=.running,dying } w else .ended (.stuck "exit, goto: no such block or label" (fr.pos p)) w
 |some l=>
  let(r,es):=(aI l jump).runT p w #[]
  a9 (seen p fr.fn es) <| match r with
  |.ok v w=>ae p main fr callers dying v w
  |.halt _ w=>.ended (.stuck "range over a function: no such loop" (fr.pos p)) w
def sn:Option Code->Bool
 |none|some .ret=>true
 |_=>false
def iW{p:ai}{main:Bool}{fr:Frame}{callers:List Frame}{dying:Option Dying}{w:World}{jump:Option Code}(h:fr.roundOf=none) :
 mR p main fr callers dying w jump=if sn jump then .go { frame:={ fr with mode:=.returning },callers,status:=.running,dying } w else .ended (.stuck "exit, goto: no such block or label" (fr.pos p)) w:=by
 unfold mR;have e:(jump matches none|some .ret)=sn jump:=by
  cases jump with
  |none=>rfl
  |some c=>cases c<;>rfl
 split
 ·rw[e]
 ·rename_i l hl;rw[h]at hl;cases hl
def iX{p:ai}{main:Bool}{fr:Frame}{callers:List Frame}{dying:Option Dying}{w:World}{jump:Option Code}{l:Nat}(h:fr.roundOf=some l) :
 mR p main fr callers dying w jump=a9 (seen p fr.fn ((aI l jump).runT p w #[]).2) (match((aI l jump).runT p w #[]).1 with
 |.ok v w=>ae p main fr callers dying v w
 |.halt _ w=>.ended (.stuck "range over a function: no such loop" (fr.pos p)) w):=by
 unfold mR
 split
 ·rename_i hl;rw[h]at hl;cases hl
 ·rename_i a hl;rw[h]at hl;cases hl;rfl
def jP{r a:Option Nat}(h:om ρ r a):(r=none/\a=none)\/∃l l',r=some l/\a=some l'/\ρ l l':=by
 cases h with
 |none=>exact .inl ⟨rfl,rfl⟩
 |some h=>exact .inr ⟨_,_,rfl,rfl,h⟩
def aQ.returning{fr fr':Frame}(x:aQ T F Z fB fA ρ fr fr')(h:fr.roundOf=none):aQ T F Z fB fA ρ { fr with mode:=.returning } { fr' with mode:=.returning }:=
 ⟨x.fn,x.same,x.mI,x.tmps,x.todo,x.defers,.returning,x.kind,x.bX,x.roundOf,λ_=>h⟩
def LI(b:Wd T F Z ρ w w'){fr fr':Frame}{cs cs':List Frame}(d:aQ T F Z fB fA ρ fr fr')(hcs:cj T F Z fB fA ρ cs cs')(hb:dn (fr::cs))(j:Option Code)(h:∀c,j=some c->aB T F Z c=true) :
 ef T fB fA F X Z bot ρ w w' (mR (a8 T fB) true fr (cs++[bot]) none w j) (mR (a8 T fA) true fr' cs' none w' j):=by
 rcases jP d.roundOf with⟨e1,e⟩|⟨l,k,e1,e,hl⟩
 ·rw[iW e1,iW e]
  cases sn j with
  |false=>trivial
  |true=>exact mQ b (d.returning e1) hcs (hb.top rfl)
 ·rw[iX e1,iX e];have i:cs≠[]:=by
   rintro rfl;have:=hb fr rfl;rw[e1]at this;cases this
  exact sk b (oq b.inj hl j h) (f:=λr=>match r with | .ok v w=>ae (a8 T fB) true fr (cs++[bot]) none v w | .halt _ w=>.ended (.stuck "range over a function: no such loop" (fr.pos (a8 T fB))) w)
   (f':=λr=>match r with | .ok v w=>ae (a8 T fA) true fr' cs' none v w | .halt _ w=>.ended (.stuck "range over a function: no such loop" (fr'.pos (a8 T fA))) w) fr.fn fr'.fn
   (λm a n w1 o new g hv=>sj g.wd (d.mono g.le) (hcs.mono g.le) hb i hv) (λ_ _ _ _ _ _ _ _=>trivial) (λ_ _=>⟨_,_,_,rfl⟩) (λ_ _ _=>⟨_,_,_,rfl⟩)
def Ox(fit:Fits T fB fA F X Z)(a:Wd T F Z ρ w w'){fr fr':Frame}{cs cs':List Frame}(b:aQ T F Z fB fA ρ fr fr')(hcs:cj T F Z fB fA ρ cs cs')(hb:dn (fr::cs)){ops:Array Oper}{i:Nat}{rest:List Nat}{k:List Item}
 (f:fr.todo=.inRegion ops (i::rest)::k) (g:(ops.toList.all λo=>jh T F Z o.op)=true) :
 ef T fB fA F X Z bot ρ w w' (bg (a8 T fB) true fr (cs++[bot]) none w) (bg (a8 T fA) true fr' cs' none w'):=by
 unfold bg;rw[b.oper?];have e:fr.oper? = ops[i]?:=by unfold Frame.oper?;rw[f]
 rw[e]
 cases h:ops[i]? with
 |none=>trivial
 |some o=>
  have ok:=Bo g h;simp only;have main:ef T fB fA F X Z bot ρ w w' (bi (a8 T fB) true fr (cs++[bot]) none (execOp fr.eval o) w) (bi (a8 T fA) true fr' cs' none (execOp fr'.eval o) w'):=
   Ae fit a b hcs hb (De fit.zero fit.fns a.inj a.wr a.tape a.drawn (dD b.tmps) o ok #[])
  have d:=b.roundOf;generalize e1:fr.roundOf=r at d;generalize l:fr'.roundOf=m at d
  cases d with
  |none=>exact main
  |some hl=>
   cases j:o.op with
   |defer c=>rw[j]at ok;cases ok
   |_=>exact main
def iR{a b:List Item}(h:cN T F Z ρ a b)(P:ai)(fn:aa)(t:Array Value)(d:List ac)(m:FrameMode)(k:CallKind)(r:Option Nat):bl P { fn:=fn,tmps:=t,todo:=a,defers:=d,mode:=m,kind:=k,roundOf:=r }=false:=by
 unfold bl
 cases h with
 |nil=>cases P.funcs[fn]?<;>rfl
 |cons h t=>cases h<;>cases P.funcs[fn]?<;>rfl
def ot{b a:List Item}(h:cN T F Z ρ b a)(P:ai)(fn:aa)(t:Array Value)(d:List ac)(m:FrameMode)(k:CallKind)(r:Option Nat):bl P { fn:=fn,tmps:=t,todo:=a,defers:=d,mode:=m,kind:=k,roundOf:=r }=false:=by
 unfold bl
 cases h with
 |nil=>cases P.funcs[fn]?<;>rfl
 |cons h t=>cases h<;>cases P.funcs[fn]?<;>rfl
def Gq(e:Wd T F Z ρ w w'){fr fr':Frame}{cs cs':List Frame}(o:aQ T F Z fB fA ρ fr fr')(hcs:cj T F Z fB fA ρ cs cs')(hb:dn (fr::cs))(B:fr.mode≠.run)(g:fr.defers=[]->cs≠[]) :
 ef T fB fA F X Z bot ρ w w' (ao (a8 T fB) true fr (cs++[bot]) none w) (ao (a8 T fA) true fr' cs' none w'):=by
 have hd:=o.defers;obtain⟨fn,tmps,todo,defers,mode,kind,i⟩:=fr;obtain⟨b,j,p,Y,L,k,m⟩:=fr';have M:=o;obtain⟨C,q,D,u,n,N,x,E,H,I,y⟩:=o;simp only at C q D u n N x E H I y B g hd;subst C
 cases hd with
 |@cons r r' ds z O t=>
  unfold ao;simp only;exact sk e (jj e.inj O)
   (f:=λr=>match r with
     |.ok calls w=>.go { frame:={ fn:=b,tmps,todo,defers:=calls++ds,mode,kind,roundOf:=i },callers:=cs++[bot],status:=.running,dying:=none } w
     |.halt _ w=>.ended (.stuck "the deferred calls of a range-over-func loop have been taken" _) w)
   (f':=λr=>match r with
     |.ok calls w=>.go { frame:={ fn:=b,tmps:=j,todo:=p,defers:=calls++z,mode:=L,kind:=k,roundOf:=m },callers:=cs',status:=.running,dying:=none } w
     |.halt _ w=>.ended (.stuck "the deferred calls of a range-over-func loop have been taken" _) w) b b
   (λP a Q w1 R new d S=>by
     obtain⟨rfl,rfl⟩:=S
     exact mQ d.wd ⟨rfl,q,D,cU.mono d.le u,n.mono d.le,t.mono d.le,x.mono d.le,E,H,I.mono d.le,y⟩ (hcs.mono d.le) (hb.top rfl))
   (λ_ _ _ _ _ _ _ _=>trivial) (λ_ _=>⟨_,_,_,rfl⟩) (λ_ _ _=>⟨_,_,_,rfl⟩)
 |nil=>
  have g:=g rfl
  cases x with
  |run=>exact absurd rfl B
  |@panicking c A hc=>
   cases hcs with
   |nil=>exact absurd rfl g
   |@cons f J l K h t=>
    show(ef T fB fA F X Z bot) ρ w w' (ao (a8 T fB) true _ (f::(l++[bot])) none w) _;have e1:ao (a8 T fB) true { fn:=b,tmps:=tmps,todo:=todo,defers:=[],mode:=.panicking c,kind:=kind,roundOf:=i } (f::(l++[bot])) none w=.go { frame:=f.raise c,callers:=l++[bot],status:=.running,dying:=none } w:=by
     unfold ao;simp only[iR n (a8 T fB) b tmps [] (.panicking c) kind i,bp,if_false]
    have U:ao (a8 T fA) true { fn:=b,tmps:=j,todo:=p,defers:=[],mode:=.panicking A,kind:=k,roundOf:=m } (J::K) none w'=.go { frame:=J.raise A,callers:=K,status:=.running,dying:=none } w':=by
     unfold ao;simp only[ot n (a8 T fA) b j [] (.panicking A) k m,bp,if_false]
    rw[e1,U];exact mQ e (h.raise hc) t (hb.pop.top (eC _ _))
  |returning=>
   obtain⟨fx,c,V,W,g3,g4⟩:=(q (y rfl)).ex;unfold ao;simp only[V,W]
   exact sk e (mP e.inj fx u) (f:=λr=>match r with
    |.ok v w=>ae (a8 T fB) true { fn:=b,tmps,todo,defers:=[],mode:=.returning,kind,roundOf:=i } (cs++[bot]) none v w
    |.halt (.stuck s) w=>.ended (.stuck s _) w
    |.halt _ w=>.ended (.stuck "return: the result variables cannot be read" _) w)
    (f':=λr=>match r with
     |.ok v w=>ae (a8 T fA) true { fn:=b,tmps:=j,todo:=p,defers:=[],mode:=.returning,kind:=k,roundOf:=m } cs' none v w
     |.halt (.stuck s) w=>.ended (.stuck s _) w
     |.halt _ w=>.ended (.stuck "return: the result variables cannot be read" _) w) b b
    (λP a Q w1 R new d hv=>sj d.wd (M.mono d.le) (hcs.mono d.le) hb g hv) (λ_ _ _ _ _ _ _ _=>trivial) (λ_ _=>⟨_,_,_,rfl⟩) (λ_ _ _=>⟨_,_,_,rfl⟩)
def ou(c:Wd T F Z ρ w w')(q:Question):∃n f w1 d,(ap q).run (a8 T fB) w=.ok n w1/\(ap q).run (a8 T fA) w'=.ok n d/\cE T.globals.size F (aB T F Z) ρ w w' f w1 d #[]:=by
 have e:∀(P:ai)(w:World),(ap q).run P w=if q.forced then .ok 0 w else .ok (q.cut (w.tape w.drawn q)) { w with drawn:=w.drawn+1 }:=λP w=>rfl
 rw[e,e,c.tape,c.drawn]
 cases q.forced with
 |true=>exact⟨0,ρ,w,w',rfl,rfl,c.refl⟩
 |false=>
  have hb:=c.refl;refine⟨_,ρ,_,_,rfl,rfl,?_⟩;exact⟨hb.le,hb.inj,⟨c.wr.pK,c.wr.gN,c.wr.obj⟩,rfl,rfl,rfl,rfl,rfl,br _,br _,λ_ _ _=>rfl,λ_ a b=>absurd b (Nat.not_lt.2 a),λ_ _ h=>.inl h,by simp,λ_ _ _ _ h=>⟨h,rfl⟩⟩
def ef.Oy{a:Ren}{w1 b:World}{s s':GStep}(c:cE T.globals.size F (aB T F Z) ρ w w' a w1 b #[])(h:ef T fB fA F X Z bot a w1 b s s'):ef T fB fA F X Z bot ρ w w' s s':=by
 cases s with
 |go n w2 o=>
  obtain⟨f,g,i,j,l,d,e,k,m⟩:=h;exact⟨f,g,i,j,l,d,e,by simpa using c.trans k,m⟩
 |ended _ _ _=>trivial
 |_=>exact h.elim
def Oz(fit:Fits T fB fA F X Z)(p:Wd T F Z ρ w w'){fr fr':Frame}{cs cs':List Frame}(o:aQ T F Z fB fA ρ fr fr')(hcs:cj T F Z fB fA ρ cs cs')(hb:dn (fr::cs)) :
 ef T fB fA F X Z bot ρ w w' (bj (a8 T fB) true true fr (cs++[bot]) none w) (bj (a8 T fA) true true fr' cs' none w'):=by
 obtain⟨fn,tmps,todo,defers,mode,kind,x⟩:=fr;obtain⟨q,u,S,y,z,A,B⟩:=fr';have U:cN T F Z ρ todo S:=o.todo;have to:∀{N O:List Item},cN T F Z ρ N O->ef T fB fA F X Z bot ρ w w' (.go { frame:=⟨fn,tmps,N,defers,mode,kind,x⟩,callers:=cs++[bot],status:=.running,dying:=none } w) (.go { frame:=⟨q,u,O,y,z,A,B⟩,callers:=cs',status:=.running,dying:=none } w'):=
  λh=>mQ p (o.lO h) hcs (hb.top rfl)
 have lv:=λj V=>LI (bot:=bot) (X:=X) p o hcs hb j V;unfold bj
 cases U with
 |nil=>exact lv none (λc e=>by cases e)
 |@cons i i' k k' h t=>
  cases h with
  |inBlock id=>exact to t
  |inLoop c hc=>exact to (.cons (.code c hc) (.cons (.inLoop c hc) t))
  |inScope c hc=>exact to t
  |inRangeFunc hl=>trivial
  |beginRound=>
   refine Af fit p o hcs hb (vX p.inj ?_)
   rcases jP o.roundOf with⟨C,D⟩|⟨l,E,C,D,hl⟩
   ·simp only at C D;subst C D;exact ak
   ·simp only at C D;subst C D;exact lg p.inj hl
  |@endRangeFunc l E hl=>
   exact sk p (qW p.inj hl)
    (f:=λr=>match r with
      |.ok jump w=>.go { frame:=⟨fn,tmps,(jump.map Item.code).toList++k,defers,mode,kind,x⟩,callers:=cs++[bot],status:=.running,dying:=none } w
      |.halt (.panic v) w=>.go { frame:=bm ⟨fn,tmps,.endRangeFunc l::k,defers,mode,kind,x⟩ [{ v,recovered:=false }],callers:=cs++[bot],status:=.running,dying:=none } w
      |.halt _ w=>.ended (.stuck "range over a function: no such loop" _) w)
    (f':=λr=>match r with
      |.ok jump w=>.go { frame:=⟨q,u,(jump.map Item.code).toList++k',y,z,A,B⟩,callers:=cs',status:=.running,dying:=none } w
      |.halt (.panic v) w=>.go { frame:=bm ⟨q,u,.endRangeFunc E::k',y,z,A,B⟩ [{ v,recovered:=false }],callers:=cs',status:=.running,dying:=none } w
      |.halt _ w=>.ended (.stuck "range over a function: no such loop" _) w) fn q
    (λH a P w1 J new g K=>by
      obtain⟨rfl,W⟩:=K;refine mQ g.wd ((o.mono g.le).lO (cN.append ?_ (t.mono g.le))) (hcs.mono g.le) (hb.top rfl)
      cases a with
      |none=>exact .nil
      |some c=>exact .cons (.code c (W c rfl)) .nil)
    (λH v v' w1 J new g hv=>mQ g.wd ((o.mono g.le).raise (.cons hv .nil)) (hcs.mono g.le) (hb.top (eC _ _)))
    (λ_ _=>⟨_,_,_,rfl⟩) (λ_ _ _=>⟨_,_,_,rfl⟩)
  |inRegion ops todo Y=>
   cases todo with
   |nil=>exact to t
   |cons i Q=>
    simp only;rw[show aq ops u=aq ops tmps from funext λj=>(oo ops o.tmps j).symm]
    cases((ops[i]?).map (Region.wanted · (aq ops tmps))).getD false with
    |true=>exact Ox fit p o hcs hb rfl Y
    |false=>exact mQ p (o.finish .undef) hcs (hb.top (bZ _ _))
  |code c hc=>
   cases c with
   |ret=>exact lv (some .ret) (λc e=>by cases e;rfl)
   |skip=>exact to t
   |label _=>exact to t
   |seq a b=>
    simp only[aB,bq]at hc;exact to (.cons (.code a hc.1) (.cons (.code b hc.2) t))
   |cond c a b=>
    simp only[aB,bq]at hc;have hv:=dD o.tmps c hc.1.1;simp only;generalize bo _ c=v at hv ⊢;generalize bo _ c=v' at hv ⊢
    cases hv with
    |bool b'=>
     cases b' with
     |true=>exact to (.cons (.code a hc.1.2) t)
     |false=>exact to (.cons (.code b hc.2) t)
    |_=>trivial
   |block id b=>exact to (.cons (.code b hc) (.cons (.inBlock id) t))
   |loop b=>exact to (.cons (.code b hc) (.cons (.inLoop b hc) t))
   |scope b=>exact to (.cons (.code b hc) (.cons (.inScope b hc) t))
   |exit id=>
    simp only
    rcases xo id t with⟨x1,x2⟩|⟨m,m',x1,x2,L⟩
    ·rw[x1,x2];exact lv (some (.exit id)) (λc e=>by cases e;rfl)
    ·rw[x1,x2];exact to L
   |goto id=>
    simp only
    rcases xq id t with⟨x1,x2⟩|⟨m,m',x1,x2,L⟩
    ·rw[x1,x2];exact lv (some (.goto id)) (λc e=>by cases e;rfl)
    ·rw[x1,x2];exact to L
   |refuse why=>cases hc
   |rangeFunc f params assign body=>
    simp only[aB,bq]at hc;simp only;have I:=o.fn;simp only at I;subst I;have hs:=mO (T:=T) (fB:=fB) (fA:=fA) (Z:=Z) p.inj q o.mI o.tmps params assign body hc.1.2 hc.2 o.roundOf;exact sk p hs
     (f:=λr=>match r with
       |.ok (l,mark) w=>
        let fr:Frame:=⟨q,tmps,.inRangeFunc l::k,mark++defers,mode,kind,x⟩
        let call:Call:={ callee:=.value f,args:=#[.const (.func (.yield l) #[] #[])],argTypes:=#[] }
        bi (a8 T fB) true fr (cs++[bot]) none (do let d<-resolve fr.eval call 0;invoke d.target d.args) w
       |.halt _ w=>.ended (.stuck "range over a function: no such loop" _) w)
     (f':=λr=>match r with
       |.ok (l,mark) w=>
        let fr:Frame:=⟨q,u,.inRangeFunc l::k',mark++y,z,A,B⟩
        let call:Call:={ callee:=.value f,args:=#[.const (.func (.yield l) #[] #[])],argTypes:=#[] }
        bi (a8 T fA) true fr cs' none (do let d<-resolve fr.eval call 0;invoke d.target d.args) w
       |.halt _ w=>.ended (.stuck "range over a function: no such loop" _) w) q q
     (λH a P w1 J new g K=>by
       obtain⟨l,mark⟩:=a;obtain⟨E,OA⟩:=P;obtain⟨hl,M⟩:=K;have s:=o.mono g.le;have R:aQ T F Z fB fA H ⟨q,tmps,.inRangeFunc l::k,mark++defers,mode,kind,x⟩ ⟨q,u,.inRangeFunc E::k',OA++y,z,A,B⟩:=
        ⟨s.fn,s.same,s.mI,s.tmps,.cons (.inRangeFunc hl) (t.mono g.le),fS.append M s.defers,s.mode,s.kind,s.bX,s.roundOf,s.ret⟩
       exact Af fit g.wd R (hcs.mono g.le) (hb.top rfl) (jE fit.zero fit.fns g.inj (dD R.tmps f hc.1.1) (by
        have hv:cU F H [.func (.yield l) #[] #[]] [.func (.yield E) #[] #[]]:=.cons (.func (.yield hl) .nil .nil) .nil
        simpa[bo]using hv)))
     (λ_ _ _ _ _ _ _ _=>trivial) (λ_ _=>⟨_,_,_,rfl⟩) (λ_ _ _=>⟨_,_,_,rfl⟩)
   |region id ops draw=>
    simp only
    cases draw with
    |false=>exact to (.cons (.inRegion ops _ hc) t)
    |true=>
     simp only[Bool.not_true,bp,if_false];obtain⟨n,H,w1,J,c1,c2,g⟩:=ou (fB:=fB) (fA:=fA) p (.order fn id);have I:=o.fn;simp only at I;subst I;rw[c1,c2];exact ef.Oy g (mQ g.wd ((o.mono g.le).lO (.cons (.inRegion ops _ hc) (t.mono g.le))) (hcs.mono g.le) (hb.top rfl))
def sr(fit:Fits T fB fA F X Z)(f:Wd T F Z ρ w w'){g g':ar}(hg:GR T fB fA F X Z bot ρ g g')(b:aQ T F Z fB fA ρ g.frame g'.frame)
 (i:g.frame.mode≠.run->g.frame.defers=[]->g.callers≠[bot]):ef T fB fA F X Z bot ρ w w' (stepG (a8 T fB) true g w) (stepG (a8 T fA) true g' w'):=by
 obtain⟨_,⟨l,hl,hcs,hb,_⟩,st,a,j,k,of,m⟩:=hg;obtain⟨fr,cs,status,dying,offers⟩:=g;obtain⟨c,cs',q,r,s⟩:=g';simp only at st a j k of m hl hcs b hb i;subst st a j k of m hl;have d:=Oz (bot:=bot) fit f b hcs hb;have n:=λh=>Gq (bot:=bot) (X:=X) f b hcs hb h (λhd e=>by subst e;exact i h hd rfl);obtain⟨fn,tmps,todo,defers,mode,kind,t⟩:=fr;obtain⟨u,v,x,y,o,z,A⟩:=c;have p:qE F ρ mode o:=b.mode;unfold stepG
 cases p with
 |run=>exact d
 |returning=>exact n (by simp)
 |panicking _=>exact n (by simp)
end
def dN{b:Type}(f:World->ag b)(w:World):Prop:=
 w.drawn<=(f w).world.drawn/\(f w).world.tape=w.tape/\
  ∀(a:Tape)(d:Nat),(∀i,i<(f w).world.drawn-w.drawn->a (d+i)=w.tape (w.drawn+i))->f (w.re a d)=(f w).re a (d+((f w).world.drawn-w.drawn))
def dN.pass{l:Type}{f g:World->ag l}{w w1:World}(i:f w=g w1)(hd:w1.drawn=w.drawn)(j:w1.tape=w.tape)(m:∀e d,f (w.re e d)=g (w1.re e d))(h:dN g w1):dN f w:=by
 obtain⟨a,b,c⟩:=h;refine⟨by rw[i,<-hd];exact a,by rw[i,<-j];exact b,λe d k=>?_⟩;rw[i]at k ⊢;rw[m,<-hd];exact c e d (by rw[hd,j];exact k)
def dN.stop{e:Type}{f:World->ag e}{w:World}{h:Halt}(c:∀a d,f (w.re a d)=.halt h (w.re a d)):dN f w:=by
 have b:f w=.halt h w:=c w.tape w.drawn;refine⟨by rw[b];exact br _,by rw[b];rfl,λa d _=>?_⟩;rw[b,c];show Result.halt h (w.re a d)=.halt h (w.re a (d+(w.drawn-w.drawn)));rw[bs];rfl
section
variable {T:Tables}{fB fA:Array Func}{G:Nat}{F:aa->Bool}{K:Code->Bool}
def bW.TF{a:Type}{s:Sem a}(h:bW T fB s){w:World}:dN (s.run ⟨T,fB⟩) w:=by
 obtain⟨x,_,e⟩:=h.run w;exact dN.stop e
def av.loc{Y Z:Type}{RA:Ren->Y->Z->Prop}{s:Sem Y}:∀{ρ:Ren}{s':Sem Z}{w w':World},av T fB fA F K RA ρ s s'->ρ.bw T.globals.size->WR T.globals.size F K ρ w w'->w.tape=w'.tape->w.drawn=w'.drawn->
 dN (s.run ⟨T,fB⟩) w:=by
 induction s with
 |pure a=>
  rintro ρ s' w w' _ x j l hd;refine⟨br _,rfl,λf d _=>?_⟩;show Result.ok a (w.re f d)=.ok a (w.re f (d+(w.drawn-w.drawn)));rw[bs];rfl
 |halt h=>intro ρ s' w w' hs x j l hd;exact dN.stop λ_ _=>rfl
 |load m a k y=>
  rintro ρ s' w w'⟨m',L,k',rfl,rfl,rfl,D,z⟩x j l hd
  rcases lF (T:=T) (fB:=fB) j D with⟨E,s,U⟩|⟨v,v',c,c',t,B,E,U,hv,_⟩
  ·refine dN.stop (h:=.stuck s) λf d=>?_;have e1:(w.re f d).cell? a=none:=E;have I:∀m,(w.re f d).farLoad ⟨T,fB⟩ a m=.error (.stuck s):=U;simp only[bb,e1,I]
  ·exact dN.pass (g:=(k v).run ⟨T,fB⟩) (w1:=w) (by simp only[bb,E]) rfl rfl (λf d=>by have e1:(w.re f d).cell? a=some v:=E;simp only[bb,e1]) (y v (z v v' hv) x j l hd)
 |store m a v k y=>
  rintro ρ s' w w'⟨m',L,v',k',rfl,rfl,rfl,D,hv,z⟩x j l hd;have key:(∀c,v≠.agg c)->(∀c,v≠.tuple c)->dN ((Sem.store .plain a v k).run ⟨T,fB⟩) w:=by
   intro J M
   rcases lF (T:=T) (fB:=fB) j D with⟨E,_⟩|⟨u,u',c,c',t,B,E,U,hu,hs,h3,h4,hc⟩
   ·obtain⟨o,N,A,Q,C⟩:=j.obj D.1;refine dN.stop (h:=.stuck "store: no such cell") λf d=>?_;rw[run_store _ _ _ _ J M];have e1:(w.re f d).cell? a=none:=E;have H:(w.re f d).heap[a.block]?=some o:=A;have hf:(w.re f d).farStore ⟨T,fB⟩ a v false=.error ((w.re f d).noCell a "store: no such cell"):=by
     cases C<;>simp[World.farStore,H]
    rw[e1];simp only[hf,mM H C]
   ·cases V:w.frozen? a with
    |true=>
     refine dN.stop (h:=.unsupported (.unsafePointer "a write to bytes that a string shares")) λf d=>?_;rw[run_store _ _ _ _ J M];have e1:(w.re f d).cell? a=some u:=E;have I:(w.re f d).frozen? a=true:=V;rw[e1];simp only[I,if_true]
    |false=>
     have fR:L.spot=none:=by rw[<-D.2.2];exact hs
     have aF:=lG x j l hd D.1 (.cells t B (VA.set hc a.off hv)) (new:=#[]) (by simp) (CR h3 h4 v v' J M);refine dN.pass (g:=k.run ⟨T,fB⟩) (w1:=w.setCell a v) ?_ rfl rfl (λf d=>?_) ?_
     ·rw[run_store _ _ _ _ J M,E];simp only[V,bp,if_false]
     ·have e1:(w.re f d).cell? a=some u:=E;have I:(w.re f d).frozen? a=false:=V;rw[run_store _ _ _ _ J M,e1];simp only[I,bp,if_false];rfl
     ·rw[jR w a _ h3 hs];exact y z x aF.wr l hd
  cases hv with
  |agg _=>exact dN.stop λ_ _=>rfl
  |tuple _=>exact dN.stop λ_ _=>rfl
  |hole _ _=>exact dN.stop λ_ _=>rfl
  |_=>exact key (by simp) (by simp)
 |new o k y=>
  rintro ρ s' w w'⟨N,k',rfl,C,z⟩x j l hd;have hs:=CQ x j l hd C;exact dN.pass (g:=(k w.heap.size).run ⟨T,fB⟩) (w1:={ w with heap:=w.heap.push o }) rfl rfl rfl (λf d=>rfl) (y w.heap.size (z _ _ j.fresh.1 j.fresh.2 j.pK j.gN) hs.inj hs.wr l hd)
 |shape r k y=>
  rintro ρ s' w w'(⟨r',k',rfl,O,z⟩|h)x j l hd;rotate_left
  ·exact bW.TF (s:=.shape r k) h
  exact dN.pass (g:=(k (w.shape? r)).run ⟨T,fB⟩) (w1:=w) rfl rfl rfl (λf d=>rfl) (y _ (z _) x j l hd)
 |freeze a n k y=>
  rintro ρ s' w w'⟨L,k',rfl,D,z⟩x j l hd;have fr:∀f d,(w.re f d).freeze a n=(w.freeze a n).re f d:=λf d=>by unfold bt;split<;>rfl
  have fd:(w.freeze a n).drawn=w.drawn/\(w.freeze a n).tape=w.tape:=by unfold bt;split<;>exact⟨rfl,rfl⟩
  refine dN.pass (g:=k.run ⟨T,fB⟩) (w1:=w.freeze a n) rfl fd.1 fd.2 (λf d=>by simp only[bb,fr]) ?_;by_cases W:n=0
  ·subst W;have e1:w.freeze a 0=w:=by simp[bt]
   rw[e1];exact y z x j l hd
  obtain⟨o,N,A,Q,C⟩:=j.obj D.1;have idle:(∀c t B,o≠.cells c t B)->w.freeze a n=w:=by
   intro bu;unfold bt;rw[if_neg W];obtain⟨heap,_,_,_,_⟩:=w;congr 1;apply Array.ext_getElem?;intro i;rw[Array.getElem?_modify]
   split
   ·rename_i e;subst e;show Option.map _ heap[a.block]?=heap[a.block]?;have h':heap[a.block]?=some o:=A;rw[h'];cases o<;>first|rfl|exact absurd rfl (bu _ _ _)
   ·rfl
  cases C with
  |@cells c c' t B hc=>
   obtain⟨lo,hi⟩:=B;rw[iz w a n W A];have hs:=lG x j l hd D.1 (.cells t (if lo==hi then(a.off,a.off+n) else(min lo a.off,max hi (a.off+n))) hc) (new:=#[]) (by simp) (IY A Q _ _);exact y z x hs.wr l hd
  |_=>
   rw[idle (by simp)];exact y z x j l hd
 |frozen a k y=>
  rintro ρ s' w w'(⟨L,k',rfl,D,z⟩|h)x j l hd;rotate_left
  ·exact bW.TF (s:=.frozen a k) h
  exact dN.pass (g:=(k (w.frozen? a)).run ⟨T,fB⟩) (w1:=w) rfl rfl rfl (λf d=>rfl) (y _ (z _) x j l hd)
 |getObj r k y=>
  rintro ρ s' w w'⟨r',k',rfl,O,z⟩x j l hd;obtain⟨o,N,A,Q,C⟩:=j.obj O;have key:(∀c t B,o≠.cells c t B)->dN ((Sem.getObj r k).run ⟨T,fB⟩) w:=by
   intro J;refine dN.pass (g:=(k o).run ⟨T,fB⟩) (w1:=w) ?_ rfl rfl (λf d=>?_) (y o (z o N C) x j l hd)
   ·simp only[bb,A]
   ·have H:(w.re f d).heap[r]?=some o:=A;simp only[bb,H]
  cases C with
  |cells t B hc=>
   refine dN.stop (h:=.stuck "getObj: a row of cells") λf d=>?_
   ·have H:(w.re f d).heap[r]?=_:=A;simp only[bb,H]
  |_=>exact key (by simp)
 |setObj r o k y=>
  rintro ρ s' w w'⟨r',N,k',rfl,O,⟨C,N8⟩,z⟩x j l hd;obtain⟨p,p',A,Q,hp⟩:=j.obj O;have hs:=lG x j l hd O C (new:=#[]) (by simp) N8.hol;have key:(∀c t B,p≠.cells c t B)->dN ((Sem.setObj r o k).run ⟨T,fB⟩) w:=by
   intro J;refine dN.pass (g:=k.run ⟨T,fB⟩) (w1:={ w with heap:=w.heap.setIfInBounds r o }) ?_ rfl rfl (λf d=>?_) (y z x hs.wr l hd)
   ·simp only[bb,A]
   ·have H:(w.re f d).heap[r]?=some p:=A;simp only[bb,H];rfl
  cases hp with
  |cells t B hc=>
   refine dN.stop (h:=.stuck "setObj: a row of cells") λf d=>?_
   ·have H:(w.re f d).heap[r]?=_:=A;simp only[bb,H]
  |_=>exact key (by simp)
 |choose q k y=>
  rintro ρ s' w w'⟨k',rfl,z⟩x j l hd
  cases hf:q.forced with
  |true=>exact dN.pass (g:=(k 0).run ⟨T,fB⟩) (w1:=w) (by simp only[bb,hf,if_true]) rfl rfl (λf d=>by simp only[bb,hf,if_true]) (y _ (z _) x j l hd)
  |false=>
   have wK:WR T.globals.size F K ρ { w with drawn:=w.drawn+1 } { w' with drawn:=w'.drawn+1 }:=⟨j.pK,j.gN,j.obj⟩
   obtain⟨a,b,c⟩:=y (q.cut (w.tape w.drawn q)) (z _) x wK l (by simp only[hd]);have S:(bc q k).run ⟨T,fB⟩ w=(k (q.cut (w.tape w.drawn q))).run ⟨T,fB⟩ { w with drawn:=w.drawn+1 }:=by simp only[bb,hf,bp,if_false]
   generalize hR:(k (q.cut (w.tape w.drawn q))).run ⟨T,fB⟩ { w with drawn:=w.drawn+1 }=R at a b c S;have L:w.drawn+1<=R.world.drawn:=a;refine⟨by rw[S];omega,by rw[S];exact b,λf d X=>?_⟩;rw[S]at X ⊢;have P:=X 0 (by omega);simp only[Nat.add_zero]at P;have e1:(bc q k).run ⟨T,fB⟩ (w.re f d)=(k (q.cut (f d q))).run ⟨T,fB⟩ (w.re f (d+1)):=by
    simp only[bb,hf,bp,if_false];rfl
   rw[e1,P]
   have:=c f (d+1) (λi hi=>by
    have mS:i<R.world.drawn-(w.drawn+1):=hi;show f (d+1+i)=w.tape (w.drawn+1+i);have:=X (1+i) (by omega)
    rw[show d+1+i=d+(1+i) by omega,this,show w.drawn+(1+i)=w.drawn+1+i by omega])
   have I:d+1+(R.world.drawn-(w.drawn+1))=d+(R.world.drawn-w.drawn):=by omega
   rw[<-I];exact this
 |sys c k y=>intro ρ s' w w' h;exact h.elim
 |program k y=>
  rintro ρ s' w w'(⟨k',rfl,z⟩|CS)x j l hd
  ·exact dN.pass (g:=(k ⟨T,fB⟩).run ⟨T,fB⟩) (w1:=w) rfl rfl rfl (λf d=>rfl) (y _ z x j l hd)
  ·exact bW.TF (s:=.program k) CS
 |mark m k y=>
  rintro ρ s' w w'(⟨k',rfl,hm,z⟩|h)x j l hd
  ·exact dN.pass (g:=k.run ⟨T,fB⟩) (w1:=w) rfl rfl rfl (λf d=>rfl) (y z x j l hd)
  ·exact bW.TF (s:=.mark m k) h
def dN.bind{l m:Type}{P:ai}{s:Sem l}{f:l->Sem m}{w:World}(hs:dN (s.run P) w)(hf:∀a w1,s.run P w=.ok a w1->dN ((f a).run P) w1):dN ((s.bind f).run P) w:=by
 obtain⟨a,b,c⟩:=hs
 cases j:s.run P w with
 |halt h w1=>
  rw[j]at a b c;have e:(s.bind f).run P w=.halt h w1:=by rw[bd,j];rfl
  refine⟨by rw[e];exact a,by rw[e];exact b,λk d g=>?_⟩;rw[e]at g ⊢;rw[bd,c k d g];rfl
 |ok x w1=>
  rw[j]at a b c;obtain⟨a2,n,o⟩:=hf x w1 j;have e:(s.bind f).run P w=(f x).run P w1:=by rw[bd,j];rfl
  have p:w.drawn<=w1.drawn:=a;have b':w1.tape=w.tape:=b;refine⟨by rw[e];exact Nat.le_trans p a2,by rw[e];exact n.trans b',λk d g=>?_⟩;rw[e]at g ⊢;have q:=c k d (λi hi=>g i (by have:i<w1.drawn-w.drawn:=hi;omega))
  have r:=o k (d+(w1.drawn-w.drawn)) (λi hi=>by
   have:=g ((w1.drawn-w.drawn)+i) (by omega);rw[show d+(w1.drawn-w.drawn)+i=d+(w1.drawn-w.drawn+i) by omega,this,b'];congr 1
   omega)
  rw[bd,q];show(f x).run P (w1.re k (d+(w1.drawn-w.drawn)))=_;rw[r];congr 1;omega
def TG{ρ:Ren}(o:ρ.bw T.globals.size){w w':World}(y:WR T.globals.size F K ρ w w')(z:w.tape=w'.tape)(hd:w.drawn=w'.drawn)(t:ab){m:Nat}(C:∀k e,tY T t=some (.map k e)->og T m k=true){x D i f v v':Value}(E:VR F ρ x D)(hi:VR F ρ i f)(hv:VR F ρ v v') :
 dN ((Instr.mapUpdate t x i v).run ⟨T,fB⟩) w:=by
 rw[jg];have A:=uX (fB:=fB) (fA:=fB) (F:=F) (K:=K) o t C E hi;refine dN.bind (av.loc A o y z hd) λa w1 e=>?_;have h:=av.run #[] A o y z hd;rw[e]at h;obtain⟨H,I,O,new,_,k,J⟩:=h;obtain⟨r,es,clock,P⟩:=a;obtain⟨p,g,Q,L⟩:=I;obtain⟨q,l,hc,d⟩:=J;simp only at q l hc d;subst hc;have hi:=hi.mono k.le;have hv:=hv.mono k.le;have put:∀(j:Nat){c:Ren}{k k':Value},H.le c->VR F c k k'->av T fB fB F K fF c (aw r (.map (es.modify j λe=>{ e with key:=k,val:=v }) clock)) (aw p (.map (g.modify j λe=>{ e with key:=k',val:=v' }) clock)):=by
  intro j c k k' b s;refine dV (b q) (.map _ ?_);rw[a6,a6];exact bD.modify (l.mono b) j λe R M=>⟨s,hv.mono b,M.born⟩
 cases d with
 |none=>
  refine av.loc (fA:=fB) (s':=aw p (.map (g.push { key:=f,val:=v',born:=clock }) (clock+1))) (dV q (.map _ ?_)) k.inj k.wr k.tape k.drawn;rw[a7,a7];exact bD.append l (.cons ⟨hi,hv,rfl⟩ .nil)
 |some j _=>
  have hold:=Aa l j hi;unfold rZ;simp only;generalize(((es[j]?).map (·.key)).getD i)=u at hold;generalize(((g[j]?).map (·.key)).getD f)=N at hold;unfold Instr.keyThatStays;by_cases B:Instr.sameBits 10000 u i=true
  ·rw[if_pos B];exact av.loc (put j (Ren.le_refl _) hi) k.inj k.wr k.tape k.drawn
  ·rw[if_neg B];refine av.loc (fA:=fB) (RA:=fF) (s':=Sem.bind (do pure (if(<-ap (.extern "map.whichKeyStays" 2))=0 then f else N)) λk'=>aw p (.map (g.modify j λe=>{ e with key:=k',val:=v' }) clock)) ?_ k.inj k.wr k.tape k.drawn;refine av.bind k.inj (RA:=RV F) ?_ λc b _ k k' s=>put j b s;refine af k.inj (lH _) λc b _ n n' e=>?_;subst e;refine ah ?_
   split
   ·exact hi.mono b
   ·exact hold.mono b
def OC{c:Type}(P:ai)(a:c)(w:World):dN ((Sem.pure a).run P) w:=by
 refine⟨br _,rfl,λb d _=>?_⟩;show Result.ok a (w.re b d)=.ok a (w.re b (d+(w.drawn-w.drawn)));rw[bs];rfl
def Yg{Z:ab->Bool}(g:dM T F Z)(hF:si fB fA F){ρ:Ren}(b:ρ.bw T.globals.size){w w':World}(c:WR T.globals.size F K ρ w w')(d:w.tape=w'.tape)(hd:w.drawn=w'.drawn){e e':Operand->Value}(a:lN F ρ e e')(o:Oper)(ok:jh T F Z o.op=true) :
 dN ((execOp e o).run ⟨T,fB⟩) w:=by
 by_cases f:Dc o.op=true
 ·obtain⟨t,x,y,z,h,i⟩:=xj e o f;obtain⟨k1,k2,k3,j⟩:=Dd h ok;rw[i];exact dN.bind (TG b c d hd t k1 (a x k2) (a y k3) (a z j)) λ_ _ _=>OC _ _ _
 ·exact av.loc (ug (fA:=fA) g hF b a o ok (by simpa using f)) b c d hd
end
def gq(f:World->GStep)(w:World):Prop:=
 ∀b w1 es,f w=.go b w1 es->w.drawn<=w1.drawn/\w1.tape=w.tape/\
  ∀(a:Tape)(d:Nat),(∀i,i<w1.drawn-w.drawn->a (d+i)=w.tape (w.drawn+i))->∃c,f (w.re a d)=.go b (w1.re a (d+(w1.drawn-w.drawn))) c
@[simp] def vZ(w:World):w.re w.tape w.drawn=w:=rfl
def gq.pure{f:World->GStep}{w:World}(G:ar)(h:∀a d,∃es,f (w.re a d)=.go G (w.re a d) es):gq f w:=by
 intro j w1 es e;obtain⟨c,b⟩:=h w.tape w.drawn;rw[vZ,e]at b;cases b;refine⟨br _,rfl,λa d _=>?_⟩;obtain⟨g,i⟩:=h a d;exact⟨g,by rw[i,bs];rfl⟩
def gq.never{f:World->GStep}{w:World}(h:∀a w1 es,f w≠.go a w1 es):gq f w:=λa w1 es e=>absurd e (h a w1 es)
section
variable {T:Tables}{fB fA:Array Func}{F X:aa->Bool}{Z:ab->Bool}{bot:Frame}{ρ σ:Ren}{w w':World}
def qp.ends{d e:Type}{RA:Ren->d->e->Prop}{s:Sem d}{f:ag e×Array Event}(b:qp T.globals.size F (aB T F Z) RA ρ w w' #[] f (s.run (a8 T fB) w)) :
 (∃a w1,s.run (a8 T fB) w=.ok a w1/\∃c a',RA c a a')\/(∃v w1,s.run (a8 T fB) w=.halt (.panic v) w1)\/(∃m w1,s.run (a8 T fB) w=.halt (.stuck m) w1)\/∃u w1,s.run (a8 T fB) w=.halt (.unsupported u) w1/\dw u=true:=by
 generalize s.run (a8 T fB) w=r at b
 cases r with
 |ok a w1=>
  obtain⟨c,a',i,new,_,_,e1,j,g⟩:=b;exact .inl ⟨a,w1,rfl,c,a',g⟩
 |halt h w1=>
  cases h with
  |panic v=>exact .inr (.inl ⟨v,w1,rfl⟩)
  |stuck m=>exact .inr (.inr (.inl ⟨m,w1,rfl⟩))
  |unsupported u=>exact .inr (.inr (.inr ⟨u,w1,rfl,b⟩))
  |_=>exact b.elim
def SR.ends{c d:Type}{RA:Ren->c->d->Prop}(b:Wd T F Z ρ w w'){s:Sem c}{s':Sem d}(hs:av T fB fA F (aB T F Z) RA ρ s s') :
 (∃a w1,s.run (a8 T fB) w=.ok a w1/\∃e a',RA e a a')\/(∃v w1,s.run (a8 T fB) w=.halt (.panic v) w1)\/(∃m w1,s.run (a8 T fB) w=.halt (.stuck m) w1)\/∃u w1,s.run (a8 T fB) w=.halt (.unsupported u) w1/\dw u=true:=
 qp.ends (av.run #[] hs b.inj b.wr b.tape b.drawn).zu
def iD{a:Type}(P:ai)(s:Sem a)(w:World){r:ag a}(h:s.run P w=r):s.runT P w #[]=(r,(s.runT P w #[]).2):=Prod.ext ((ba P s w #[]).trans h) rfl
section
variable {P:ai}{fr:Frame}{cs:List Frame}{s:Sem Next}{w w1:World}
def Df{v:Value}(h:s.run P w=.ok (.value v) w1):∃es,bi P true fr cs none s w=.go { frame:=fr.finish v,callers:=cs,status:=.running,dying:=none } w1 es:=by
 unfold bi;simp only[if_true];rw[iD P s w h];exact⟨_,rfl⟩
def Gr(h:s.run P w=.ok .skip w1):∃es,bi P true fr cs none s w=.go { frame:=fr.finish undef,callers:=cs,status:=.running,dying:=none } w1 es:=by
 unfold bi;simp only[if_true];rw[iD P s w h];exact⟨_,rfl⟩
def Dg{f:aa}{a:Array Value}(h:s.run P w=.ok (.enter f a) w1):∃es,bi P true fr cs none s w=.go { frame:=Frame.enter P f a (match fr.todo with | .call _ true _ _::_=>.wrapped|_=>.normal),callers:=fr::cs,status:=.running,dying:=none } w1 es:=by
 unfold bi;simp only[if_true];rw[iD P s w h];exact⟨_,rfl⟩
def Dh{l:Nat}{f:aa}{a:Array Value}{c d:Code}(h:s.run P w=.ok (.round l f a c d) w1):∃es,bi P true fr cs none s w=.go { frame:=Frame.round l f a c d .normal,callers:=fr::cs,status:=.running,dying:=none } w1 es:=by
 unfold bi;simp only[if_true];rw[iD P s w h];exact⟨_,rfl⟩
def Di{v:Value}(h:s.run P w=.halt (.panic v) w1):∃es,bi P true fr cs none s w=.go { frame:=fr.raise [{ v,recovered:=false }],callers:=cs,status:=.running,dying:=none } w1 es:=by
 unfold bi;simp only[if_true];rw[iD P s w h];exact⟨_,rfl⟩
def Dj{m:String}(h:s.run P w=.halt (.stuck m) w1):∃o w2 es,bi P true fr cs none s w=.ended o w2 es:=by
 unfold bi;simp only[if_true];rw[iD P s w h];exact⟨_,_,_,rfl⟩
def su{u:Unsupported}(h:s.run P w=.halt (.unsupported u) w1)(a:dw u=true):∃o w2 es,bi P true fr cs none s w=.ended o w2 es:=by
 unfold bi;simp only[if_true];rw[iD P s w h];cases u<;>first|exact⟨_,_,_,rfl⟩|cases a
end
def gq.from{l:Type}{P:ai}{s:Sem l}{w:World}(hs:dN (s.run P) w){f:World->GStep}
 (h:(∃g r,s.run P w=r/\∀i d,s.run P (w.re i d)=r.re i (d+(r.world.drawn-w.drawn))->∃es,f (w.re i d)=.go g (r.world.re i (d+(r.world.drawn-w.drawn))) es)\/∀k w1 es,f w≠.go k w1 es):gq f w:=by
 obtain⟨a,b,c⟩:=hs
 rcases h with⟨g,r,m,h⟩|n
 ·subst m;intro k w1 es e
  have j:=h w.tape w.drawn (by
   rw[c w.tape w.drawn (λ_ _=>rfl)])
  have o:w.drawn+((s.run P w).world.drawn-w.drawn)=(s.run P w).world.drawn:=by omega
  obtain⟨p,j⟩:=j;rw[vZ,e,o,<-b,vZ]at j;cases j;exact⟨a,b,λi d q=>h i d (c i d q)⟩
 ·exact gq.never n
def xy{fr:Frame}{cs:List Frame}{s:Sem Next}{i:ag Next×Array Event}(hl:dN (s.run (a8 T fB)) w)(j:qp T.globals.size F (aB T F Z) (gT F (aB T F Z)) ρ w w' #[] i (s.run (a8 T fB) w)) :
 gq (λw=>bi (a8 T fB) true fr cs none s w) w:=by
 refine gq.from hl ?_
 rcases qp.ends j with⟨a,w1,h,q,r,k⟩|⟨v,w1,h⟩|⟨m,w1,h⟩|⟨u,w1,h,l⟩
 ·cases k with
  |value hv=>exact .inl ⟨_,_,h,λg d e=>Df e⟩
  |skip=>exact .inl ⟨_,_,h,λg d e=>Gr e⟩
  |enter f hf n=>exact .inl ⟨_,_,h,λg d e=>Dg e⟩
  |round hl f hf n c d t x=>exact .inl ⟨_,_,h,λg d e=>Dh e⟩
 ·exact .inl ⟨_,_,h,λg d e=>Di e⟩
 ·obtain⟨o,w2,es,e⟩:=Dj (fr:=fr) (cs:=cs) h;exact .inr λp w1 es b=>by simp only[e]at b;cases b
 ·obtain⟨o,w2,es,e⟩:=su (fr:=fr) (cs:=cs) h l;exact .inr λp w1 es b=>by simp only[e]at b;cases b
def Ah(a:Wd T F Z ρ w w'){fr:Frame}{cs:List Frame}{s s':Sem Next}(hs:av T fB fA F (aB T F Z) (gT F (aB T F Z)) ρ s s') :
 gq (λw=>bi (a8 T fB) true fr cs none s w) w:=
 xy (av.loc hs a.inj a.wr a.tape a.drawn) (av.run #[] hs a.inj a.wr a.tape a.drawn).zu
def wh{j n:Type}{RA:Ren->j->n->Prop}(k:Wd T F Z ρ w w'){s:Sem j}{s':Sem n}(hs:av T fB fA F (aB T F Z) RA ρ s s'){f:ag j->GStep}(fn:aa)
 (x:∀(p:Ren)(a:j)(a':n)(w1:World),s.run (a8 T fB) w=.ok a w1->RA p a a'->(∃g,∀w,∃es,f (.ok a w)=.go g w es)\/∀w c w1 es,f (.ok a w)≠.go c w1 es)
 (y:∀v,(∃g,∀w,∃es,f (.halt (.panic v) w)=.go g w es)\/∀w c w1 es,f (.halt (.panic v) w)≠.go c w1 es)
 (z:∀m w1,∃o w2 es,f (.halt (.stuck m) w1)=.ended o w2 es) (A:∀u w1,dw u=true->∃o w2 es,f (.halt (.unsupported u) w1)=.ended o w2 es) :
 gq (λw=>a9 (seen (a8 T fB) fn (s.runT (a8 T fB) w #[]).2) (f (s.runT (a8 T fB) w #[]).1)) w:=by
 refine gq.from (av.loc hs k.inj k.wr k.tape k.drawn) ?_;have no:∀(r:ag j),s.run (a8 T fB) w=r->(∀c w1 es,f r≠.go c w1 es)->∀c w1 es,a9 (seen (a8 T fB) fn (s.runT (a8 T fB) w #[]).2) (f (s.runT (a8 T fB) w #[]).1)≠.go c w1 es:=by
  intro r q i c w1 es e;rw[ba,q]at e
  cases t:f r with
  |go D w2 E=>exact i _ _ _ t
  |_=>rw[t]at e;cases e
 have yes:∀(r:ag j)(g:ar),s.run (a8 T fB) w=r->(∀(b:Tape)(d:Nat),∃es,f (r.re b d)=.go g (r.world.re b d) es)->
  ∀b d,s.run (a8 T fB) (w.re b d)=r.re b (d+(r.world.drawn-w.drawn))->∃es,a9 (seen (a8 T fB) fn (s.runT (a8 T fB) (w.re b d) #[]).2) (f (s.runT (a8 T fB) (w.re b d) #[]).1)=.go g (r.world.re b (d+(r.world.drawn-w.drawn))) es:=by
  intro r g q hy b d e;rw[ba,e];obtain⟨es,B⟩:=hy b (d+(r.world.drawn-w.drawn));rw[B];exact⟨_,rfl⟩
 rcases SR.ends k hs with⟨a,w1,h,p,a',i⟩|⟨v,w1,h⟩|⟨m,w1,h⟩|⟨u,w1,h,C⟩
 ·rcases x p a a' w1 h i with⟨g,hg⟩|i
  ·exact .inl ⟨g,_,h,yes _ g h λb d=>hg _⟩
  ·exact .inr (no _ h (i _))
 ·rcases y v with⟨g,hg⟩|i
  ·exact .inl ⟨g,_,h,yes _ g h λb d=>hg _⟩
  ·exact .inr (no _ h (i _))
 ·obtain⟨o,w2,es,e⟩:=z m w1;exact .inr (no _ h λc w1 es l=>by rw[e]at l;cases l)
 ·obtain⟨o,w2,es,e⟩:=A u w1 C;exact .inr (no _ h λc w1 es l=>by rw[e]at l;cases l)
end
end Go.bJ
