/- Part of the proof of FieldFlat and FieldMarshals. -/
import Derived.Test.YtmkjeaacgibnoaaGreatY04
import Derived.Calls
import Derived.Conc.Beside
set_option linter.all false
open Go renaming FuncId->aa,Goroutine->ab,Program->ac,doReturn->ad,unwind->ae,Question->ag,results->ai
open Go.Program renaming mk->ao
open Go.stepG renaming oper->ap,apply->aq,exec->ar
open Go.Frame renaming eval->aw,catches->aB,enter->aF
open Go.Instr renaming enterLoop->aH
open Bool renaming false_eq_true->aI
open Nat renaming lt_or_ge->aL,eq_zero_or_pos->aT,lt_of_lt_of_le->a5,lt_irrefl->a6
open List renaming getElem?_append_left->a7
open Classical renaming byContradiction->a8
open Option.some renaming inj->a9
open Go.Conc renaming Leavers->ba,runT_crowd_go->bb,woken_quitsD->bc,Deaf_other->bd,mem_ofEvents->bg
open Array renaming getElem?_eq_getElem->bi,getElem?_setIfInBounds_ne->bj,getElem?_map->bl
namespace Go.bJ
section
variable {T:Tables}{fB fA:Array Func}{F X:aa->Bool}{Z:TypeId->Bool}{bot:Frame}{ρ σ:Ren}{w w':World}
def Bu(g:ab):gq (λw=>.go g w) w:=gq.pure g λ_ _=>⟨_,rfl⟩
def pN(f:World->GStep)(h:∀w,∃o w2 es,f w=.ended o w2 es):gq f w:=gq.never λb w1 es e=>by
 obtain⟨o,w2,c,a⟩:=h w;rw[a]at e;cases e
def gq.seq{n:Type}{P:ac}{s:Sem n}(hs:dN (s.run P) w){f:World->GStep}{g:n->World->GStep}(o:Outcome)(h:∀a w1,s.run P w=.ok a w1->gq (g a) w1)
 (hf:∀k d,∃es,f (w.re k d)=GStep.after es (match s.run P (w.re k d) with | .ok a w=>g a w | .halt _ w=>.ended o w)):gq f w:=by
 obtain⟨a,b,c⟩:=hs;intro B w2 es e;obtain⟨q,j⟩:=hf w.tape w.drawn;rw[vZ,e]at j
 cases m:s.run P w with
 |halt h w1=>rw[m]at j;cases j
 |ok x w1=>
  rw[m]at j a b c;have r:w.drawn<=w1.drawn:=a;have b':w1.tape=w.tape:=b
  cases hg:g x w1 with
  |go C w3 D=>
   simp only[hg]at j;cases j;obtain⟨a2,t,u⟩:=h x w1 m _ _ _ hg;refine⟨Nat.le_trans r a2,t.trans b',λk d p=>?_⟩;have v:=c k d (λi hi=>p i (by have E:i<w1.drawn-w.drawn:=hi;omega))
   obtain⟨y,z⟩:=u k (d+(w1.drawn-w.drawn)) (λi hi=>by
    have:=p ((w1.drawn-w.drawn)+i) (by omega);rw[show d+(w1.drawn-w.drawn)+i=d+(w1.drawn-w.drawn+i) by omega,this,b'];congr 1
    omega)
   obtain⟨l,A⟩:=hf k d;rw[A,v];show∃H,GStep.after l (g x (w1.re k (d+(w1.drawn-w.drawn))))=_;rw[z];refine⟨l++y,?_⟩;show GStep.go _ _ _=_;congr 2;omega
  |_=>simp only[hg]at j;cases j
def va{P:ac}{fr f:Frame}{cs:List Frame}(a:fr.kind=.normal)(v:Value):∃g,∀w,∃es,ad P true fr (f::cs) none v w=.go g w es:=
 ⟨_,λw=>⟨#[],by simp only[ad,a];rfl⟩⟩
def LM(d:Wd T F Z ρ w w'){fr fr':Frame}{cs:List Frame}(g:aQ T F Z fB fA ρ fr fr')(hb:dn (fr::cs))(j:Option Code)(h:∀c,j=some c->codeOk T F Z c=true) :
 gq (λw=>mR (ao T fB) true fr (cs++[bot]) none w j) w:=by
 rcases jP g.roundOf with⟨e1,i⟩|⟨l,m,e1,i,hl⟩
 ·simp only[iW e1]
  cases sn j with
  |false=>exact pN _ λw=>⟨_,_,_,rfl⟩
  |true=>exact Bu _
 ·simp only[iX e1];have k:cs≠[]:=by
   rintro rfl;have:=hb fr rfl;rw[e1]at this;cases this
  obtain⟨f,b,rfl⟩:∃f b,cs=f::b:=by
   cases cs with
   |nil=>exact absurd rfl k
   |cons f b=>exact⟨f,b,rfl⟩
  exact wh d (oq (T:=T) (fB:=fB) (fA:=fA) (Z:=Z) d.inj hl j h) (f:=λr=>match r with | .ok v w=>ad (ao T fB) true fr (f::(b++[bot])) none v w | .halt _ w=>.ended (.stuck "range over a function: no such loop" (fr.pos (ao T fB))) w) fr.fn
   (λ_ a _ _ _ _=>.inl (va g.kind a)) (λ_=>.inr λ_ _ _ _ e=>by cases e) (λ_ _=>⟨_,_,_,rfl⟩) (λ_ _ _=>⟨_,_,_,rfl⟩)
def OD(fit:Fits T fB fA F X Z)(a:Wd T F Z ρ w w'){fr fr':Frame}{cs:List Frame}(b:aQ T F Z fB fA ρ fr fr'){ops:Array Oper}{i:Nat}{rest:List Nat}{k:List Item}
 (f:fr.todo=.inRegion ops (i::rest)::k) (g:(ops.toList.all λo=>jh T F Z o.op)=true) :
 gq (λw=>ap (ao T fB) true fr (cs++[bot]) none w) w:=by
 unfold ap;have e:fr.oper? = ops[i]?:=by unfold Frame.oper?;rw[f]
 rw[e]
 cases h:ops[i]? with
 |none=>exact pN _ λw=>⟨_,_,_,rfl⟩
 |some o=>
  have ok:=Bo g h;simp only;have main:gq (λw=>aq (ao T fB) true fr (cs++[bot]) none (execOp fr.eval o) w) w:=
   xy (Yg fit.zero fit.fns a.inj a.wr a.tape a.drawn (dD b.tmps) o ok) (De (fA:=fA) fit.zero fit.fns a.inj a.wr a.tape a.drawn (dD b.tmps) o ok #[])
  have d:=b.roundOf;generalize e1:fr.roundOf=r at d;generalize l:fr'.roundOf=m at d
  cases d with
  |none=>exact main
  |some hl=>
   cases j:o.op with
   |defer c=>rw[j]at ok;cases ok
   |_=>exact main
def OE(fit:Fits T fB fA F X Z)(o:Wd T F Z ρ w w'){fr fr':Frame}{cs:List Frame}(s:aQ T F Z fB fA ρ fr fr')(hb:dn (fr::cs)) :
 gq (λw=>ar (ao T fB) true true fr (cs++[bot]) none w) w:=by
 obtain⟨fn,tmps,todo,defers,mode,kind,p⟩:=fr;obtain⟨q,K,L,M,N,O,C⟩:=fr';have P:cN T F Z ρ todo L:=s.todo;have to:∀D:List Item,gq (λw=>.go { frame:=⟨fn,tmps,D,defers,mode,kind,p⟩,callers:=cs++[bot],status:=.running,dying:=none } w) w:=λD=>Bu _;have lv:=λj Q=>LM (bot:=bot) o s hb j Q;unfold ar
 cases P with
 |nil=>exact lv none (λc e=>by cases e)
 |@cons i i' k k' h t=>
  cases h with
  |inBlock id=>exact to _
  |inLoop c hc=>exact to _
  |inScope c hc=>exact to _
  |inRangeFunc hl=>exact pN _ λw=>⟨_,_,_,rfl⟩
  |beginRound=>
   refine Ah (fA:=fA) o (s':=do(C.elim (stuck "beginRound: no round") Instr.beginRound);pure .skip) (vX o.inj ?_)
   rcases jP s.roundOf with⟨u,y⟩|⟨l,R,u,y,hl⟩
   ·simp only at u y;subst u y;exact ak
   ·simp only at u y;subst u y;exact lg (fA:=fA) o.inj hl
  |@endRangeFunc l R hl=>
   exact wh o (qW (fA:=fA) o.inj hl)
    (f:=λr=>match r with
      |.ok jump w=>.go { frame:=⟨fn,tmps,(jump.map Item.code).toList++k,defers,mode,kind,p⟩,callers:=cs++[bot],status:=.running,dying:=none } w
      |.halt (.panic v) w=>.go { frame:=Frame.raise ⟨fn,tmps,.endRangeFunc l::k,defers,mode,kind,p⟩ [{ v,recovered:=false }],callers:=cs++[bot],status:=.running,dying:=none } w
      |.halt _ w=>.ended (.stuck "range over a function: no such loop" _) w) fn
    (λ_ _ _ _ _ _=>.inl ⟨_,λ_=>⟨_,rfl⟩⟩) (λ_=>.inl ⟨_,λ_=>⟨_,rfl⟩⟩) (λ_ _=>⟨_,_,_,rfl⟩) (λ_ _ _=>⟨_,_,_,rfl⟩)
  |inRegion ops todo S=>
   cases todo with
   |nil=>exact to _
   |cons i E=>
    simp only
    cases((ops[i]?).map (Region.wanted · (yielded ops tmps))).getD false with
    |true=>exact OD fit o s rfl S
    |false=>exact Bu _
  |code c hc=>
   cases c with
   |ret=>exact lv (some .ret) (λc e=>by cases e;rfl)
   |skip=>exact to _
   |label _=>exact to _
   |seq a b=>exact to _
   |cond c a b=>
    simp only
    cases aw _ c with
    |bool b'=>exact Bu _
    |_=>exact pN _ λw=>⟨_,_,_,rfl⟩
   |block id b=>exact to _
   |loop b=>exact to _
   |scope b=>exact to _
   |exit id=>
    simp only
    cases exitTo id k with
    |none=>exact lv (some (.exit id)) (λc e=>by cases e;rfl)
    |some m=>exact to _
   |goto id=>
    simp only
    cases gotoIn id k with
    |none=>exact lv (some (.goto id)) (λc e=>by cases e;rfl)
    |some m=>exact to _
   |refuse U=>cases hc
   |rangeFunc f params assign body=>
    simp only[codeOk,Bool.and_eq_true]at hc;simp only;have H:=s.fn;simp only at H;subst H;have hs:=mO (T:=T) (fB:=fB) (fA:=fA) (Z:=Z) o.inj q s.mI s.tmps params assign body hc.1.2 hc.2 s.roundOf
    refine gq.seq (av.loc hs o.inj o.wr o.tape o.drawn) (g:=fun(x:Nat×List Deferred)w=>
     let fr:Frame:=⟨q,tmps,.inRangeFunc x.1::k,x.2++defers,mode,kind,p⟩
     let call:Call:={ callee:=.value f,args:=#[.const (.func (.yield x.1) #[] #[])],argTypes:=#[] }
     aq (ao T fB) true fr (cs++[bot]) none (do let d<-resolve fr.eval call 0;invoke d.target d.args) w) (.stuck "range over a function: no such loop" (Frame.pos (ao T fB) ⟨q,tmps,.code (.rangeFunc f params assign body)::k,defers,mode,kind,p⟩)) ?_ (λz d=>?_)
    ·intro x w1 V;have I:=av.run #[] hs o.inj o.wr o.tape o.drawn;rw[V]at I;obtain⟨J,A,W,new,e1,B,hl,Y⟩:=I;have h0:=s.mono B.le;have hv:cU F J [.func (.yield x.1) #[] #[]] [.func (.yield A.1) #[] #[]]:=.cons (.func (.yield hl) .nil .nil) .nil;have he:=dD (fr:=⟨q,tmps,.inRangeFunc x.1::k,x.2++defers,mode,kind,p⟩) (fr':=⟨q,K,.inRangeFunc A.1::k',A.2++M,N,O,C⟩) h0.tmps f hc.1.1;exact Ah (fA:=fA) B.wd (jE (a:=#[Operand.const (.func (.yield x.1) #[] #[])].map (aw ⟨q,tmps,.inRangeFunc x.1::k,x.2++defers,mode,kind,p⟩)) (a':=#[.func (.yield A.1) #[] #[]]) fit.zero fit.fns B.inj he (by simpa[aw]using hv))
    ·refine⟨seen (ao T fB) q ((aH q tmps params assign body p).runT (ao T fB) (w.re z d) #[]).2,?_⟩;show GStep.after (seen (ao T fB) q ((aH q tmps params assign body p).runT (ao T fB) (w.re z d) #[]).2) _=_;rw[Sem.runT_fst];congr 1
     cases(aH q tmps params assign body p).run (ao T fB) (w.re z d) with
     |ok a w1=>rfl
     |halt h w1=>rfl
   |region id ops draw=>
    simp only
    cases draw with
    |false=>exact to _
    |true=>
     simp only[Bool.not_true,aI,if_false];have hs:av T fB fA F (codeOk T F Z) fF ρ (choose (.order fn id)) (choose (.order fn id)):=lH _;have hl:=av.loc hs o.inj o.wr o.tape o.drawn;refine gq.from hl (.inl ?_);obtain⟨n,J,w1,W,c1,c2,B⟩:=ou (fB:=fB) (fA:=fA) o (.order fn id);refine⟨{ frame:=⟨fn,tmps,.inRegion ops (Region.schedule (Tables.follows T .mixedOrders) ops n)::k,defers,mode,kind,p⟩,callers:=cs++[bot],status:=.running,dying:=none },.ok n w1,c1,λz d e=>?_⟩;rw[e];exact⟨#[],rfl⟩
def Gs(h:Wd T F Z ρ w w'){fr fr':Frame}{cs cs':List Frame}(j:aQ T F Z fB fA ρ fr fr')(hcs:cj T F Z fB fA ρ cs cs')(k:fr.mode≠.run)(l:fr.defers=[]->cs≠[]) :
 gq (λw=>ae (ao T fB) true fr (cs++[bot]) none w) w:=by
 have hd:=j.defers;obtain⟨fn,tmps,todo,defers,mode,kind,i⟩:=fr;obtain⟨g,H,I,J,K,L,M⟩:=fr';obtain⟨m,n,y,o,p,z,q,u,A,B,x⟩:=j;simp only at m n y o p z q u A B x k l hd;subst m
 cases hd with
 |@cons r N ds C D t=>
  unfold ae;simp only;exact wh h (jj (fB:=fB) (fA:=fA) h.inj D)
   (f:=λr=>match r with
     |.ok calls w=>.go { frame:={ fn:=g,tmps,todo,defers:=calls++ds,mode,kind,roundOf:=i },callers:=cs++[bot],status:=.running,dying:=none } w
     |.halt _ w=>.ended (.stuck "the deferred calls of a range-over-func loop have been taken" _) w) g
   (λ_ _ _ _ _ _=>.inl ⟨_,λ_=>⟨_,rfl⟩⟩) (λ_=>.inr λ_ _ _ _ e=>by cases e) (λ_ _=>⟨_,_,_,rfl⟩) (λ_ _ _=>⟨_,_,_,rfl⟩)
 |nil=>
  obtain⟨f,b,rfl⟩:∃f b,cs=f::b:=by
   cases cs with
   |nil=>exact absurd rfl (l rfl)
   |cons f b=>exact⟨f,b,rfl⟩
  cases q with
  |run=>exact absurd rfl k
  |@panicking c O hc=>
   refine gq.pure { frame:=f.raise c,callers:=b++[bot],status:=.running,dying:=none } λP d=>⟨#[],?_⟩
   show ae (ao T fB) true _ (f::(b++[bot])) none _=_;unfold ae;simp only[iR p (ao T fB) g tmps [] (.panicking c) kind i,aI,if_false]
  |returning=>
   obtain⟨fx,c,E,Q,R,S⟩:=(n (x rfl)).ex;unfold ae;simp only[E]
   exact wh h (mP (fB:=fB) (fA:=fA) (Z:=Z) h.inj fx o) (f:=λr=>match r with
    |.ok v w=>ad (ao T fB) true { fn:=g,tmps,todo,defers:=[],mode:=.returning,kind,roundOf:=i } (f::(b++[bot])) none v w
    |.halt (.stuck s) w=>.ended (.stuck s _) w
    |.halt _ w=>.ended (.stuck "return: the result variables cannot be read" _) w) g
    (λ_ a _ _ _ _=>.inl (va u a)) (λ_=>.inr λ_ _ _ _ e=>by cases e) (λ_ _=>⟨_,_,_,rfl⟩) (λ_ _ _=>⟨_,_,_,rfl⟩)
def OG(fit:Fits T fB fA F X Z)(f:Wd T F Z ρ w w'){g g':ab}(hg:GR T fB fA F X Z bot ρ g g')(b:aQ T F Z fB fA ρ g.frame g'.frame)
 (i:g.frame.mode≠.run->g.frame.defers=[]->g.callers≠[bot]):gq (λw=>stepG (ao T fB) true g w) w:=by
 obtain⟨_,⟨l,hl,hcs,hb,_⟩,st,a,j,k,of,m⟩:=hg;obtain⟨fr,cs,status,dying,offers⟩:=g;obtain⟨c,cs',q,r,s⟩:=g';simp only at st a j k of m hl hcs b hb i;subst st a j k of m hl;have d:=OE (bot:=bot) fit f b hb;have n:=λh=>Gs (bot:=bot) f b hcs h (λhd e=>by subst e;exact i h hd rfl);obtain⟨fn,tmps,todo,defers,mode,kind,t⟩:=fr;obtain⟨u,v,x,y,o,z,A⟩:=c;have p:qE F ρ mode o:=b.mode;unfold stepG
 cases p with
 |run=>exact d
 |returning=>exact n (by simp)
 |panicking _=>exact n (by simp)
end
inductive Term(P:ac)(Good:ab->World->Prop):ab->World->Prop
 |done {g:ab} {w:World} (h:Good g w):Term P Good g w
 |step {g:ab} {w:World} (G1:Tape->Nat->ab) (W1:Tape->Nat->World) (h:∀τ d,∃es,stepG P true g (w.re τ d)=.go (G1 τ d) (W1 τ d) es) (k:∀τ d,Term P Good (G1 τ d) (W1 τ d)):Term P Good g w
inductive cy(P:ac):Nat->ab->World->ab->World->Prop
 |zero (g:ab) (w:World):cy P 0 g w g w
 |succ {n:Nat} {g g1 g2:ab} {w w1 w2:World} {es:Array Event} (h:cy P n g w g1 w1) (k:stepG P true g1 w1=.go g2 w2 es):cy P (n+1) g w g2 w2
def cy.det{P:ac}{n:Nat}{g b a:ab}{w w1 w2:World}(h:cy P n g w b w1)(k:cy P n g w a w2):b=a/\w1=w2:=by
 induction h generalizing a w2 with
 |zero=>cases k;exact⟨rfl,rfl⟩
 |succ h k1 c=>
  cases k with
  |succ d k'=>
   obtain⟨rfl,rfl⟩:=c d;rw[k1]at k';cases k';exact⟨rfl,rfl⟩
def cy.hd00{P:ac}{n m:Nat}{g a:ab}{w w2:World}(h:cy P n g w a w2)(d:m<=n):∃b w1,cy P m g w b w1:=by
 induction h with
 |zero=>
  obtain rfl:m=0:=by omega
  exact⟨_,_,.zero _ _⟩
 |@succ n _ _ _ _ _ _ _ h k c=>
  rcases aL m (n+1) with hl|hg
  ·exact c (by omega)
  ·obtain rfl:m=n+1:=by omega
   exact⟨_,_,.succ h k⟩
def cy.next{P:ac}{n m:Nat}{g a c:ab}{w w1 w2:World}(h:cy P n g w c w2)(k:cy P m g w a w1)(d:m<n):∃b w3 es,stepG P true a w1=.go b w3 es:=by
 obtain⟨b,w3,hc⟩:=h.hd00 (m:=m+1) d
 cases hc with
 |succ e k'=>
  obtain⟨rfl,rfl⟩:=e.det k;exact⟨_,_,_,k'⟩
def cy.suffix{P:ac}{m:Nat}:∀{n:Nat}{g a b:ab}{w w1 w2:World},cy P (m+n) g w b w2->cy P m g w a w1->cy P n a w1 b w2:=by
 intro n
 induction n with
 |zero=>
  intro g a b w w1 w2 h k;obtain⟨rfl,rfl⟩:=h.det k;exact .zero _ _
 |succ n c=>
  intro g a b w w1 w2 h k
  cases h with
  |succ d k'=>exact .succ (c d k) k'
def jW(L:List (ag->Nat))(a:Tape):Prop:=∀i x,L[i]?=some x->a i=x
def jW.of_append{L M:List (ag->Nat)}{a:Tape}(h:jW (L++M) a):jW L a:=λi x b=>h i x (by
 have hl:i<L.length:=(List.getElem?_eq_some_iff.1 b).1
 rw[a7 hl];exact b)
section
variable {P:ac}{Good:ab->World->Prop}{Inv:ab->World->Prop}{Stop:ab->Prop}
def Bv(y:∀g w b d,Inv g w->Inv g (w.re b d))(X:∀g w f w1 es,Inv g w->¬Stop g->stepG P true g w=.go f w1 es->Inv f w1)
 (H:∀g w,Inv g w->¬Stop g->gq (stepG P true g) w)
 (Y:∀g w I w2 m,Inv g w->Stop g->cy P (m+1) g w I w2->¬Good I w2) (Z:∀g w b d,Good g w->Good g (w.re b d))
 {p:ab} {w0:World} (h0:Inv p w0) (runs:∀a:Tape,∃n g w,cy P n p (w0.re a 0) g w/\Good g w):Term P Good p w0:=by
 classical
 apply a8;intro J;have K:∀g(w:World)b d,Good g (w.re b d)->Good g w:=λg w b d h=>Z g (w.re b d) w.tape w.drawn h;have bad:∀g w,¬Term P Good g w->¬Good g w/\∃b d,∀f w1 es,stepG P true g (w.re b d)=.go f w1 es->¬Term P Good f w1:=by
  intro g w h;refine⟨λhg=>h (.done hg),a8 λhn=>h ?_⟩;have z:∀b d,∃f w1 es,stepG P true g (w.re b d)=.go f w1 es/\Term P Good f w1:=by
   intro b d;refine a8 λq=>hn ⟨b,d,λf w1 es e N=>q ⟨f,w1,es,e,N⟩⟩
  exact .step (λb d=>(z b d).choose) (λb d=>(z b d).choose_spec.choose) (λb d=>⟨_,(z b d).choose_spec.choose_spec.choose_spec.1⟩) (λb d=>(z b d).choose_spec.choose_spec.choose_spec.2)
 let St (k:Nat):={ x:ab×World×List (ag->Nat) // Inv x.1 x.2.1/\¬Term P Good x.1 x.2.1/\∀a,jW x.2.2 a->cy P k p (w0.re a 0) x.1 (x.2.1.re a x.2.2.length) }
 have next:∀k(s:St k),(∀j,j<=k->∀a,jW s.1.2.2 a->∀g w,cy P j p (w0.re a 0) g w->¬Good g w)->
  ∃O:St (k+1),(∃M,O.1.2.2=s.1.2.2++M)/\(∀j,j<=k+1->∀a,jW O.1.2.2 a->∀g w,cy P j p (w0.re a 0) g w->¬Good g w):=by
  rintro k⟨⟨g,w,L⟩,hi,hb,hc⟩A;simp only at hi hb hc A;obtain⟨hg,b,d,iY⟩:=bad g w hb;let a:Tape:=λi=>if h:i<L.length then L[i] else b (d+(i-L.length))
  have o:jW L a:=λi x q=>by
   obtain⟨hl,Q⟩:=List.getElem?_eq_some_iff.1 q;simp only[a,hl,dif_pos];exact Q
  obtain⟨n,ge,we,B,R⟩:=runs a;have By:k<n:=by
   rcases aL k n with h|h
   ·exact h
   ·exact absurd R (A n h a o ge we B)
  have C:¬Stop g:=λhs=>by
   obtain⟨m,rfl⟩:∃m,n=k+(m+1):=⟨n-k-1,by omega⟩
   exact Y _ _ _ _ _ (y _ _ _ _ hi) hs (B.suffix (hc a o)) R
  have D:∃f w1 es,stepG P true g (w.re b d)=.go f w1 es:=by
   obtain⟨g3,w3,es,e⟩:=B.next (hc a o) By;obtain⟨_,_,hl⟩:=H g (w.re a L.length) (y _ _ _ _ hi) C g3 w3 es e
   obtain⟨S,E⟩:=hl b d (λi _=>by
    show b (d+i)=a (L.length+i);have:¬L.length+i<L.length:=by omega
    simp only[a,dif_neg this]
    congr 1;omega)
   exact⟨_,_,_,E⟩
  obtain⟨f,w1,es,e⟩:=D;obtain⟨hd,N,hl⟩:=H g (w.re b d) (y _ _ _ _ hi) C f w1 es e;have hd':d<=w1.drawn:=hd;let M:List (ag->Nat):=(List.range (w1.drawn-d)).map λi=>b (d+i);have F:M.length=w1.drawn-d:=by simp[M]
  have Gu:=X _ _ _ _ _ (y _ _ b d hi) C e;have T:∀a,jW (L++M) a->cy P (k+1) p (w0.re a 0) f (w1.re a (L++M).length):=by
   intro a o;have h1:=hc a o.of_append
   obtain⟨S,E⟩:=hl a L.length (λi hi=>by
    have mS:i<w1.drawn-d:=hi;show a (L.length+i)=b (d+i);refine o _ _ ?_;rw[List.getElem?_append_right (by omega)]
    simp[M,mS])
   have u:stepG P true g (w.re a L.length)=.go f (w1.re a (L++M).length) S:=by
    rw[List.length_append,F];exact E
   exact .succ h1 u
  have U:=iY f w1 es e;refine⟨⟨(f,w1,L++M),Gu,U,T⟩,⟨M,rfl⟩,λj hj a o gj wj v r=>?_⟩
  rcases aL j (k+1) with Wk|Wk
  ·exact A j (by omega) a (jW.of_append o) gj wj v r
  ·obtain rfl:j=k+1:=by omega
   obtain⟨e1,u⟩:=v.det (T a o);rw[e1,u]at r;exact(bad f w1 U).1 (K _ _ _ _ r)
 let V (k:Nat):={ s:St k // ∀j,j<=k->∀a,jW s.1.2.2 a->∀g w,cy P j p (w0.re a 0) g w->¬Good g w }
 let s0:V 0:=⟨⟨(p,w0,[]),h0,J,λa _=>.zero _ _⟩,λj hj a _ g w hc hg=>by
  obtain rfl:j=0:=by omega
  cases hc
  exact(bad p w0 J).1 (K _ _ _ _ hg)⟩
 let l:∀k,V k:=λk=>Nat.rec s0 (λk s=>⟨(next k s.1 s.2).choose,(next k s.1 s.2).choose_spec.2⟩) k;have grow:∀k,∃M,(l (k+1)).1.1.2.2=(l k).1.1.2.2++M:=λk=>(next k (l k).1 (l k).2).choose_spec.1;have W:∀k m,∃M,(l (k+m)).1.1.2.2=(l k).1.1.2.2++M:=by
  intro k m
  induction m with
  |zero=>exact⟨[],by simp⟩
  |succ m ih=>
   obtain⟨M,t⟩:=ih;obtain⟨M',OL⟩:=grow (k+m);exact⟨M++M',by rw[<-Nat.add_assoc,OL,t,List.append_assoc]⟩
 let a:Tape:=λi=>if h:∃k,i<(l k).1.1.2.2.length then(l h.choose).1.1.2.2[i]'h.choose_spec else λ_=>0
 have o:∀k,jW (l k).1.1.2.2 a:=by
  intro k i x q;obtain⟨hl,Q⟩:=List.getElem?_eq_some_iff.1 q;have c:∃k,i<(l k).1.1.2.2.length:=⟨k,hl⟩
  have e1:a i=(l c.choose).1.1.2.2[i]'c.choose_spec:=by simp only[a,dif_pos c]
  have u:(l c.choose).1.1.2.2[i]?=some x:=by
   rcases Nat.le_total k c.choose with h|h
   ·obtain⟨M,t⟩:=W k (c.choose-k);rw[show k+(c.choose-k)=c.choose by omega]at t;rw[t,a7 hl,q]
   ·obtain⟨M,t⟩:=W c.choose (k-c.choose);rw[show c.choose+(k-c.choose)=k by omega]at t;rw[t,a7 c.choose_spec]at q;exact q
  rw[e1];rw[List.getElem?_eq_getElem c.choose_spec]at u;exact a9 u
 obtain⟨n,g,w,hc,hg⟩:=runs a;exact(l n).2 n (Nat.le_refl _) a (o n) g w hc hg
end
def Gv : "fmt's door no such".startsWith "fmt's door" = true:=by decide +kernel
def qX:Extern.next "fmt's door no such" = none:=by
 have h:(Extern.next "fmt's door no such").isNone=true:=by decide +kernel
 cases a:Extern.next "fmt's door no such" with
 |none=>rfl
 |some _=>rw[a]at h;cases h
def aX(P:ac):Frame:={ fn:=P.funcs.size,tmps:=#[],todo:=[.call { target:=.nil,args:=#[] } false "fmt's door no such" #[]],defers:=[],mode:=.run,kind:=.normal }
def Yh(P:ac):P.funcs[P.funcs.size]?=none:=by simp
abbrev fH(fr:Frame)(cs:List Frame):ab:={ frame:=fr,callers:=cs,status:=.running,dying:=none }
def vH(P:ac)(v:Value)(w:World):∃o w2 es,stepG P true (fH ((aX P).finish v) []) w=.ended o w2 es:=by
 show∃o w2 es,ar P true true { (aX P) with todo:=[.extern "fmt's door no such" #[v]] } [] none w=.ended o w2 es;unfold ar;simp only[qX];exact⟨_,_,_,rfl⟩
def xz(P:ac)(c:List PanicEntry)(w:World):∃o w2 es,stepG P true (fH ((aX P).raise c) []) w=.ended o w2 es:=by
 have:aB P { (aX P) with mode:=.panicking c }=true:=by
  unfold aB;simp only[aX,Yh,Gv]
 show∃o w2 es,ae P true { (aX P) with mode:=.panicking c } [] none w=.ended o w2 es;unfold ae;simp only[aX]at this⊢;simp only[this,if_true];exact⟨_,_,_,rfl⟩
def lP(bot:Frame)(g:ab):Prop:=g.frame.mode≠.run/\g.frame.defers=[]/\g.callers=[bot]
def lQ(P:ac)(f:aa)(R:Value->World->Prop)(g:ab)(w:World):Prop:=
 g.callers=[aX P]/\g.frame.mode=.returning/\g.frame.defers=[]/\g.frame.fn=f/\∃fn v,P.funcs[f]?=some fn/\(∀a d,(ai fn g.frame.tmps).run P (w.re a d)=.ok v (w.re a d))/\R v w
section
variable {T:Tables}{fB fA:Array Func}{F X:aa->Bool}{Z:TypeId->Bool}{ρ σ:Ren}{w w':World}
def iE(T:Tables)(fB:Array Func)(F:aa->Bool)(Z:TypeId->Bool)(g:ab)(w:World):Prop:=
 ∃ρ a w',GR T fB fB F (λ_:aa=>false) Z (aX ⟨T,fB⟩) ρ g a/\ρ.bw T.globals.size/\WR T.globals.size F (codeOk T F Z) ρ w w'
def Gm.noX{f f':Frame}(h:Gm T fB fA F (λ_:aa=>false) Z ρ f f'):aQ T F Z fB fA ρ f f':=by
 cases h with
 |alike h=>exact h
 |enters x a _ _=>cases a
def Jc(c:ρ.bw T.globals.size)(a:WR T.globals.size F (codeOk T F Z) ρ w w')(b:Tape)(d:Nat):Wd T F Z ρ (w.re b d) (w'.re b d):=⟨c,⟨a.pK,a.gN,a.obj⟩,rfl,rfl⟩
def iE.re{g:ab}(h:iE T fB F Z g w)(b:Tape)(d:Nat):iE T fB F Z g (w.re b d):=by
 obtain⟨ρ,c,w',e,f,a⟩:=h;exact⟨ρ,c,w',e,f,⟨a.pK,a.gN,a.obj⟩⟩
def Bz{g:ab}(hs:¬lP (aX (ao T fB)) g):g.frame.mode≠.run->g.frame.defers=[]->g.callers≠[aX (ao T fB)]:=λa b c=>hs ⟨a,b,c⟩
def iE.Wm(fit:Fits T fB fB F (λ_:aa=>false) Z){g:ab}(h:iE T fB F Z g w)(hs:¬lP (aX (ao T fB)) g):∃ρ w' s',ρ.bw T.globals.size/\ef T fB fB F (λ_:aa=>false) Z (aX (ao T fB)) ρ w w' (stepG (ao T fB) true g w) s':=by
 obtain⟨ρ,d,w',a,b,c⟩:=h;have:=sr fit (Jc b c w.tape w.drawn) a a.top.noX (Bz hs);exact⟨ρ,_,_,b,this⟩
def iE.step(fit:Fits T fB fB F (λ_:aa=>false) Z){g b:ab}{w1:World}{es:Array Event}(h:iE T fB F Z g w)(hs:¬lP (aX (ao T fB)) g)(e:stepG (ao T fB) true g w=.go b w1 es):iE T fB F Z b w1:=by
 obtain⟨ρ,w',j,k,c⟩:=h.Wm fit hs;rw[e]at c;obtain⟨d,f,i,l,_,_,_,a,hg⟩:=c;exact⟨d,f,i,hg,a.inj,⟨a.wr.pK,a.wr.gN,a.wr.obj⟩⟩
def iE.loc(fit:Fits T fB fB F (λ_:aa=>false) Z){g:ab}(h:iE T fB F Z g w)(hs:¬lP (aX (ao T fB)) g):gq (stepG (ao T fB) true g) w:=by
 obtain⟨ρ,d,w',a,b,c⟩:=h;exact OG fit (Jc b c w.tape w.drawn) a a.top.noX (Bz hs)
def iE.fH{g:ab}(h:iE T fB F Z g w):g=fH g.frame g.callers:=by
 obtain⟨ρ,c,w',b,e,f⟩:=h;obtain⟨_,_,st,_,a,_,of,_⟩:=b;obtain⟨fr,cs,s,d,o⟩:=g;simp only at st a of;subst st a of;rfl
def pO{g:ab}(h:iE T fB F Z g w)(hs:lP (aX (ao T fB)) g) :
 (∃fr w1 es,stepG (ao T fB) true g w=.go (fH fr []) w1 es/\∀w,∃o w2 es,stepG (ao T fB) true (fH fr []) w=.ended o w2 es)\/∃o w1 es,stepG (ao T fB) true g w=.ended o w1 es:=by
 have hg:=h.fH;obtain⟨ρ,n,w',p,u,x⟩:=h;have d:=p.top.noX;obtain⟨f,i,m⟩:=hs;rw[m]at hg;have e:=d.mode;have j:=d.ret;have k:=d.same;have l:=d.kind;have a:=d.todo;obtain⟨fr,cs,st,y,of⟩:=g;simp only at hg f i m e j k l a;cases hg;obtain⟨fn,tmps,todo,defers,mode,kind,b⟩:=fr;simp only at f i e j k l a;subst i l;generalize n.frame.mode=m' at e
 cases e with
 |run=>exact absurd rfl f
 |@panicking c z hc=>
  have e1:stepG (ao T fB) true (fH ⟨fn,tmps,todo,[],.panicking c,.normal,b⟩ [aX (ao T fB)]) w=.go (fH ((aX (ao T fB)).raise c) []) w:=by
   show ae (ao T fB) true ⟨fn,tmps,todo,[],.panicking c,.normal,b⟩ [aX (ao T fB)] none w=_;unfold ae;simp only[iR a (ao T fB) fn tmps [] (.panicking c) .normal b,aI,if_false]
  exact .inl ⟨_,_,_,e1,λw=>xz (ao T fB) c w⟩
 |returning=>
  obtain⟨fx,c,q,A,r,s⟩:=(k (j rfl)).ex;have e1:∃es,(∃v w1,stepG (ao T fB) true (fH ⟨fn,tmps,todo,[],.returning,.normal,b⟩ [aX (ao T fB)]) w=.go (fH ((aX (ao T fB)).finish v) []) w1 es)\/∃o w2,stepG (ao T fB) true (fH ⟨fn,tmps,todo,[],.returning,.normal,b⟩ [aX (ao T fB)]) w=.ended o w2 es:=by
   show∃es,(∃v w1,ae (ao T fB) true ⟨fn,tmps,todo,[],.returning,.normal,b⟩ [aX (ao T fB)] none w=.go (fH ((aX (ao T fB)).finish v) []) w1 es)\/∃o w2,ae (ao T fB) true ⟨fn,tmps,todo,[],.returning,.normal,b⟩ [aX (ao T fB)] none w=.ended o w2 es;unfold ae;simp only[q,Sem.runT_eq,ad]
   cases(ai fx tmps).run (ao T fB) w with
   |ok v w1=>exact⟨_,.inl ⟨v,w1,rfl⟩⟩
   |halt t w1=>cases t<;>exact⟨_,.inr ⟨_,_,rfl⟩⟩
  obtain⟨B,⟨v,w2,e1⟩|⟨o,w2,e1⟩⟩:=e1
  ·exact .inl ⟨_,_,_,e1,λw=>vH (ao T fB) v w⟩
  ·exact .inr ⟨_,_,_,e1⟩
def Dn{fr fr':Frame}{cs cs':List Frame}{w w':World}(h:lone fr cs w=lone fr' cs' w'):fr=fr'/\cs=cs'/\w=w':=by
 have c:=congrArg Machine.world h;have d:=congrArg Machine.gs h;simp only[lone]at c d;have e:(fH fr cs)=fH fr' cs':=by simpa using d
 injection e with a b
 exact⟨a,b,c⟩
def Jd{g:ab}{fr:Frame}{cs:List Frame}{w1:World}{es:Array Event}(hg:g=fH g.frame g.callers)(e:stepG (ao T fB) true g w=.go (fH fr cs) w1 es):step (ao T fB) (lone g.frame g.callers w)=.next (lone fr cs w1):=by
 rw[hg]at e;exact step_lone_go (by rw[e];rfl)
def qY{g:ab}{o:Outcome}{w1:World}{es:Array Event}(hg:g=fH g.frame g.callers)(e:stepG (ao T fB) true g w=.ended o w1 es):step (ao T fB) (lone g.frame g.callers w)=.ended o w1:=by
 rw[hg]at e;exact step_lone_ended (by rw[e];rfl)
def cy.head{P:ac}{n:Nat}{g a b:ab}{w w1 w2:World}{es:Array Event}(k:stepG P true g w=.go a w1 es)(h:cy P n a w1 b w2):cy P (n+1) g w b w2:=by
 induction h with
 |zero=>exact .succ (.zero _ _) k
 |succ _ k' c=>exact .succ (c k) k'
def zC(fit:Fits T fB fB F (λ_:aa=>false) Z):∀(n:Nat)(g:ab)(w:World),iE T fB F Z g w->∀fr w',runN (ao T fB) n (lone g.frame g.callers w)=.next (lone fr [aX (ao T fB)] w')->cy (ao T fB) n g w (fH fr [aX (ao T fB)]) w'/\iE T fB F Z (fH fr [aX (ao T fB)]) w':=by
 intro n
 induction n with
 |zero=>
  intro g w hi fr w' h;have d:lone g.frame g.callers w=lone fr [aX (ao T fB)] w':=by simpa[runN]using h
  obtain⟨a,b,c⟩:=Dn d;have hg:=hi.fH;rw[a,b]at hg;rw[hg,c]at hi;rw[hg,c];exact⟨.zero _ _,hi⟩
 |succ n j=>
  intro g w hi fr w' h;have hg:=hi.fH;by_cases hs:lP (aX (ao T fB)) g
  ·rcases pO hi hs with⟨k,w1,es,e,q⟩|⟨o,w1,es,e⟩
   ·rw[runN,Jd hg e]at h;simp only at h
    cases n with
    |zero=>
     have d:lone k [] w1=lone fr [aX (ao T fB)] w':=by simpa[runN]using h
     have:=(Dn d).2.1;cases this
    |succ n=>
     obtain⟨o,w2,s,r⟩:=q w1;rw[runN,qY (g:=fH k []) rfl r]at h;cases h
   ·rw[runN,qY hg e]at h;cases h
  ·obtain⟨ρ,w2,t,u,l⟩:=hi.Wm fit hs
   cases e:stepG (ao T fB) true g w with
   |go m w1 es=>
    have f:=hi.step fit hs e;have i:=f.fH;have p:=e;rw[i]at p;rw[runN,Jd hg p]at h;exact⟨cy.head e (j m w1 f fr w' h).1,(j m w1 f fr w' h).2⟩
   |ended o w1 es=>
    rw[runN,qY hg e]at h;cases h
   |_=>rw[e]at l;exact l.elim
def Gw{fn:Func}{tmps g:Array Value}(a:ρ.bw T.globals.size)(j:WR T.globals.size F (codeOk T F Z) ρ w w')(h:VA F ρ tmps g){v:Value}(e:(ai fn tmps).run (ao T fB) w=.ok v w)(b:Tape)(d:Nat):(ai fn tmps).run (ao T fB) (w.re b d)=.ok v (w.re b d):=by
 have hl:=av.loc (mP (T:=T) (fB:=fB) (fA:=fB) (Z:=Z) a fn h) a (Jc a j w.tape w.drawn).wr rfl rfl;obtain⟨_,_,c⟩:=hl;have k:(ai fn tmps).run (ao T fB) (w.re w.tape w.drawn)=.ok v w:=e;have f:=c b d;rw[show(w.re w.tape w.drawn)=w from rfl,e]at f;simpa[Result.re,Result.world]using f (λi hi=>by simp[Result.world]at hi)
def zD(fit:Fits T fB fB F (λ_:aa=>false) Z){w0 j:World}(H:ρ.bw T.globals.size)(I:WR T.globals.size F (codeOk T F Z) ρ w0 j){f:aa}(hf:F f=true){args y:Array Value}(z:VA F ρ args y){R:Value->World->Prop}
 (J:∀v w i d,R v w->R v (World.re w i d)) (calls:∀σ:Tape,Calls (ao T fB) f args (w0.re σ 0) fun | .returned v,w'=>R v w'|_,_=>False) :
 Term (ao T fB) (lQ (ao T fB) f R) (fH (aF (ao T fB) f args .normal) [aX (ao T fB)]) w0:=by
 have A:iE T fB F Z (fH (aF (ao T fB) f args .normal) [aX (ao T fB)]) w0:=
  ⟨ρ,fH (aF (ao T fB) f y .normal) [],j,⟨.alike (fe (fit.same f hf rfl) hf z),⟨[],rfl,.nil,(λx K=>by cases K;rfl),λ_=>fe (fit.same f hf rfl) hf z⟩,rfl,rfl,rfl,rfl,rfl,rfl⟩,H,I⟩
 have L:∀g w i d,lQ (ao T fB) f R g w->lQ (ao T fB) f R g (World.re w i d):=by
  rintro g w i d⟨a,b,c,e,fn,v,l,M,N⟩;exact⟨a,b,c,e,fn,v,l,λp O=>M p O,J v w i d N⟩
 refine Bv (Inv:=iE T fB F Z) (Stop:=λg=>lP (aX (ao T fB)) g) (λg w i d h=>h.re i d) (λg w g1 w1 es h hs e=>h.step fit hs e) (λg w h hs=>h.loc fit hs) ?_ L A ?_
 ·intro g w g2 w2 m hi hs k q;obtain⟨g3,w3,NF,B⟩:=k.next (.zero g w) (Nat.succ_pos m)
  rcases pO hi hs with⟨P,w1,es,e,Q⟩|⟨o,w1,es,e⟩
  ·have l:cy (ao T fB) 1 g w (fH P []) w1:=.succ (.zero _ _) e
   cases m with
   |zero=>
    obtain⟨rfl,rfl⟩:=k.det l;have:=q.1;cases this
   |succ m=>
    obtain⟨g4,w4,S,C⟩:=k.next l (by omega);obtain⟨o,w5,U,V⟩:=Q w1;rw[V]at C;cases C
  ·rw[e]at B;cases B
 ·intro σ;obtain⟨e,w',fr,r,hc,D,hl⟩:=calls σ [aX (ao T fB)]
  cases e with
  |returned v=>
   obtain⟨n,W⟩:=hc;obtain⟨k,aJ,g',aP,s,t,Y⟩:=zC fit n _ _ (A.re σ 0) fr w' W;refine⟨n,_,_,k,rfl,hl.1,hl.2.1,D,?_⟩;obtain⟨_,_,_,fn,E,u⟩:=hl;rw[D]at E;exact⟨fn,v,E,λi d=>Gw t Y s.top.noX.tmps u i d,r⟩
  |panicked c=>exact r.elim
  |outgrown=>exact r.elim
end
open Go.Conc
open Go.ConcN (sumTo upd sumTo_upd upd_ne upd_same)
section
variable {P:ac}{Shun:Loc->Prop}
def Gx(Q:Nat->ab->World->Array Event->Prop) :
 ∀(M:Nat)(gs:Array ab)(a:ab)(w:World)(sl:Option (Nat×Nat))(t:Trace)(q:Nat->Nat)(B:Nat),sumTo gs.size q<=M->gs[0]?=some a->a.status=.running->ba P t gs q->Past Shun B t->(∀op∈t,gs.size<=op.g->op.act.touch? = none)->
  (∀d,∃a' w' es,stepG P true a (w.at d)=.go a' w' es/\Q d a' w' es/\B<=w'.heap.size/\∀e∈es,EvL Shun w'.heap.size e)->
  ∃(N d:Nat)(b:Array ab)(a':ab)(w':World)(es:Array Event)(o:Option (Nat×Nat))(k:Trace)(p:Nat->Nat),
   runNT P N (crowd gs w sl) t=(.next (crowd b w' o),k)/\b.size=gs.size/\b[0]?=some a'/\stepG P true a (w.at d)=.go a' w' es/\Q d a' w' es/\ba P k b p/\Past Shun w'.heap.size k/\(∀op∈k,b.size<=op.g->op.act.touch? = none):=by
 intro M
 induction M with
 |zero=>
  intro gs a w sl t q B m c l f i j n;exact aux Q 0 (λ_ _ _ _ _ _ h=>absurd h (Nat.not_lt_zero _)) gs w sl t q B m c l f i j n
 |succ M r=>
  intro gs a w sl t q B m c l f i j n;exact aux Q (M+1) (λgs w sl t q B h c f i j hs=>r gs a w sl t q B (Nat.le_of_lt_succ h) c l f i j hs) gs w sl t q B m c l f i j n
 where
 aux (Q:Nat->ab->World->Array Event->Prop) (M:Nat) {a:ab} (W:∀(gs:Array ab)(w:World)(sl:Option (Nat×Nat))(t:Trace)(q:Nat->Nat)(B:Nat),sumTo gs.size q<M->gs[0]?=some a->ba P t gs q->Past Shun B t->(∀op∈t,gs.size<=op.g->op.act.touch? = none)->
  (∀d,∃a' w' es,stepG P true a (w.at d)=.go a' w' es/\Q d a' w' es/\B<=w'.heap.size/\∀e∈es,EvL Shun w'.heap.size e)->
  ∃(N d:Nat)(b:Array ab)(a':ab)(w':World)(es:Array Event)(n:Option (Nat×Nat))(c:Trace)(v:Nat->Nat),
   runNT P N (crowd gs w sl) t=(.next (crowd b w' n),c)/\b.size=gs.size/\b[0]?=some a'/\stepG P true a (w.at d)=.go a' w' es/\Q d a' w' es/\ba P c b v/\Past Shun w'.heap.size c/\(∀op∈c,b.size<=op.g->op.act.touch? = none)) :
  ∀(gs:Array ab)(w:World)(sl:Option (Nat×Nat))(t:Trace)(q:Nat->Nat)(B:Nat),sumTo gs.size q<=M->gs[0]?=some a->a.status=.running->ba P t gs q->Past Shun B t->(∀op∈t,gs.size<=op.g->op.act.touch? = none)->
  (∀d,∃a' w' es,stepG P true a (w.at d)=.go a' w' es/\Q d a' w' es/\B<=w'.heap.size/\∀e∈es,EvL Shun w'.heap.size e)->
  ∃(N d:Nat)(b:Array ab)(a':ab)(w':World)(es:Array Event)(n:Option (Nat×Nat))(c:Trace)(v:Nat->Nat),
   runNT P N (crowd gs w sl) t=(.next (crowd b w' n),c)/\b.size=gs.size/\b[0]?=some a'/\stepG P true a (w.at d)=.go a' w' es/\Q d a' w' es/\ba P c b v/\Past Shun w'.heap.size c/\(∀op∈c,b.size<=op.g->op.act.touch? = none):=by
  intro gs w sl t q B hM z E r S T U;have X:∀g∈gs,awake g:=by
   intro g hg;obtain⟨i,hi,rfl⟩:=Array.mem_iff_getElem.1 hg
   rcases aT i with rfl|F
   ·have:gs[0]=a:=by simpa[bi hi]using z
    rw[this];exact awake_of (.inl E)
   ·exact awake_of ((r.old i _ F (bi hi)).status.elim .inl λx=>.inr (.inr x))
  obtain⟨i,g,d,n,hi,hg,V⟩:=crowd_pick (P:=P) (w:=w) (sl:=sl) X ⟨0,a,z,E⟩
  rcases aT i with rfl|F
  ·obtain rfl:g=a:=by rw[z]at hi;exact(a9 hi).symm
   obtain⟨a',w',es,l,Y,Z,kG⟩:=U d;have H:=bb (P:=P) (sl:=n) (i:=0) hi (show stepG P (0==0) g (w.at d)=_ from l);have s:((gs.map (woken P g a' w')).setIfInBounds 0 a').size=gs.size:=by simp
   have u:0<gs.size:=(Array.getElem?_eq_some_iff.1 z).1
   refine⟨1,d,(gs.map (woken P g a' w')).setIfInBounds 0 a',a',w',es,n,t++MemOp.ofEvents 0 g.frame.fn g.frame.place es,q,by simp only[runNT,V,H],s,by simp[u],l,Y,
    ⟨λj x m o=>?_,λj m=>?_⟩,(S.mono Z).own kG,λop f=>?_⟩
   ·have I:0≠j:=by omega
    rw[bj I,bl]at o;obtain⟨y,hy,rfl⟩:=Option.map_eq_some_iff.1 o;have p:=r.old j y m hy;rw[bc p,bd t (by omega) _ (λop f=>by obtain⟨e,_,rfl⟩:=bg f;rfl)];exact p
   ·rw[bd t (g':=0) (by simp at m;omega) _ (λop f=>by obtain⟨e,_,rfl⟩:=bg f;rfl)];exact r.above j (by simpa using m)
   ·rw[s]
    rcases Array.mem_append.1 f with h|h
    ·exact T op h
    ·obtain⟨e,_,rfl⟩:=bg h;exact λJ=>absurd (a5 u J) (a6 _)
  ·have p:=r.old i g F hi;have Yl:(i==0)=false:=by simp;omega
   have u:i<gs.size:=(Array.getElem?_eq_some_iff.1 hi).1
   cases K:q i with
   |zero=>rw[K]at p;rw[p.1]at hg;cases hg
   |succ k=>
    rw[K]at p
    rcases p with⟨hf,_⟩|⟨_,C,es,hm,Gz,Ym⟩
    ·rw[hf]at hg;cases hg
    have H:=bb (P:=P) (sl:=n) (i:=i) hi (by rw[Yl];exact Gz (w.at d));have s:((gs.map (woken P g C (w.at d))).setIfInBounds i C).size=gs.size:=by simp
    have LO:sumTo gs.size (upd q i k)+(k+1)=sumTo gs.size q+k:=by
     have:=sumTo_upd q k id u;simpa[K]using this
    obtain⟨N,d2,b,L,SY,tJ,Yn,c,v,hr,fR,TK,l,hS,O,R⟩:=W ((gs.map (woken P g C (w.at d))).setIfInBounds i C) (w.at d) n (t++MemOp.ofEvents i g.frame.fn g.frame.place es) (upd q i k) B (by rw[s];omega)
     (by
       have I:i≠0:=by omega
       rw[bj I,bl,z]
       simp[woken_run E])
     ⟨λj x m o=>by
       by_cases D:i=j
       ·subst D;rw[Array.getElem?_setIfInBounds_self_of_lt (by simpa using u)]at o;obtain rfl:=a9 o;rw[upd_same,Deaf_own];exact Ym
       ·rw[bj D,bl]at o;obtain⟨y,hy,rfl⟩:=Option.map_eq_some_iff.1 o;have A:=r.old j y m hy;rw[bc A,upd_ne q k (Ne.symm D),bd t D _ (λop f=>by obtain⟨e,_,rfl⟩:=bg f;rfl)];exact A,λj m=>by
       rw[bd t (g':=i) (by simp at m;omega) _ (λop f=>by obtain⟨e,_,rfl⟩:=bg f;rfl)]
       exact r.above j (by simpa using m)⟩
     (S.mute (by omega) hm) (λop f=>by
      rw[s]
      rcases Array.mem_append.1 f with h|h
      ·exact T op h
      ·obtain⟨e,_,rfl⟩:=bg h;exact λJ=>absurd (a5 u J) (a6 _)) (λd2=>U d2)
    exact⟨N+1,d2,b,L,SY,tJ,Yn,c,v,by simp only[runNT,V,H];exact hr,fR.trans s,TK,l,hS,O,R⟩
end
end Go.bJ
