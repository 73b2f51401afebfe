/- Part of the proof of FieldFlat and FieldMarshals. -/
import Derived.Test.YtmkjeaacgibnoaaGreatY05
import Derived.Conc.FxBegin
import Derived.Conc.HoldsTime
import Derived.KernelRfl
import Derived.Test.YtmkjeaacgibnoaaGreatProg
set_option linter.all false
open Go renaming Tables->aa,FuncId->ab,TypeId->ac,Goroutine->ad
open Go.bJ renaming codeOk->ae
open Nat renaming lt_of_lt_of_le->ag,le_trans->ai,le_refl->ao
open Go.MemAct renaming ofEvent->ap,touch?->aq
open Go.Frame renaming enter->ar
open Go.Program renaming mk->aw
namespace Go.bJ
open Go.Conc Go.ConcM
structure TL(Shun:Loc->Prop)(ρ:Ren)(n:Nat):Prop where
 cell:∀a,Shun (.cell a)->a.block<n/\∀r,¬ρ r a.block
 obj:∀b,Shun (.obj b)->b<n/\∀r,¬ρ r b
 mem:∀l,Shun l->l.isMemory=true
section
variable {T:aa}{fB fA:Array Func}{F X:ab->Bool}{Z:ac->Bool}{ρ aJ:Ren}{w w' w1 aP:World}{Shun:Loc->Prop}
def TL.step{es:Array Event}(h:TL Shun ρ w'.heap.size)(c:cE T.globals.size F (ae T F Z) ρ w w' aJ w1 aP es):TL Shun aJ aP.heap.size:=by
 refine⟨λa g=>?_,λb hb=>?_,h.mem⟩
 ·obtain⟨d,e⟩:=h.cell a g;refine⟨ag d c.fV,λr f=>?_⟩
  rcases c.only _ _ f with x|⟨_,x⟩
  ·exact e _ x
  ·omega
 ·obtain⟨d,e⟩:=h.obj b hb;refine⟨ag d c.fV,λr f=>?_⟩
  rcases c.only _ _ f with x|⟨_,x⟩
  ·exact e _ x
  ·omega
def Ls.evL(g:WR T.globals.size F (ae T F Z) ρ w w')(i:TL Shun ρ w'.heap.size){e:Event}(h:Ls ρ e):EvL Shun w'.heap.size e:=by
 obtain⟨loc,wr,k⟩:=e
 cases loc with
 |cell a=>
  obtain⟨rfl,r,d⟩:=h;refine⟨λx c hs=>?_,by simp,by simp,(g.lt d).2⟩;have f:x=⟨.cell a,wr,.plain⟩:=by simpa[ap,aq]using c.symm
  subst f;exact absurd d ((i.cell a hs).2 r)
 |obj b=>
  obtain⟨rfl,r,d⟩:=h;have e1:ap ⟨.obj b,wr,false⟩=.access ⟨.obj b,wr,false⟩:=by cases wr<;>rfl
  refine⟨λx c hs=>?_,by simp,by simp,?_⟩
  ·rw[e1]at c;have f:x=⟨.obj b,wr,.plain⟩:=by simpa[aq]using c.symm
   subst f;exact absurd d ((i.obj b hs).2 r)
  ·rw[e1];exact(g.lt d).2
 |mark m=>
  have j:m=.noRoom:=h;subst j;exact⟨λx c _=>by simp[ap,aq]at c,by simp,by simp,trivial⟩
 |output=>exact h.elim
 |goroutines=>exact h.elim
structure Dp(P:Program)(Shun:Loc->Prop)(gs:Array ad)(g:ad)(w:World)(t:Trace)(q:Nat->Nat):Prop where
 main:gs[0]?=some g
 old:Leavers P t gs q
 GA:Past Shun w.heap.size t
 num:∀op∈t,gs.size<=op.g->op.act.touch? = none
structure Kept(ρ:Ren)(w' aP:World):Prop where
 tape:aP.tape=w'.tape
 os:OsLater w'.os aP.os
 output:aP.output=w'.output
 size:w'.heap.size<=aP.heap.size
 block:∀b,b<w'.heap.size->(∀a,¬ρ a b)->aP.heap[b]?=w'.heap[b]?
def Kept.TM{es:Array Event}{d:Nat}(h:cE T.globals.size F (ae T F Z) ρ (w.re w'.tape d) (w'.re w'.tape d) aJ w1 aP es):Kept ρ w' aP:=
 ⟨h.wH,by rw[h.XV];exact .refl _,h.mK,h.fV,h.frame⟩
def sA(ρ aJ:Ren)(w w' w1 aP:World):Prop:=ρ.le aJ/\(∀a b,aJ a b->ρ a b\/(w.heap.size<=a/\w'.heap.size<=b))/\
 ∀a b,ρ a b->∀i,nX w1 a i->nX w a i/\aP.cell? ⟨b,i,none⟩=w'.cell? ⟨b,i,none⟩
def Kept.trans{c:World}(h:Kept ρ w' aP)(hg:∀a b,aJ a b->ρ a b\/w'.heap.size<=b)(k:Kept aJ aP c):Kept ρ w' c:=
 ⟨k.tape.trans h.tape,h.os.trans k.os,k.output.trans h.output,ai h.size k.size,λb hb d=>by
   rw[k.block b (ag hb h.size) λa x=>?_,h.block b hb d]
   rcases hg a b x with y|y
   ·exact d a y
   ·omega⟩
def BD(T:aa)(fB fA:Array Func)(F X:ab->Bool)(Z:ac->Bool)(End:ad->World->Prop):Prop:=
 ∀(x:ab),X x=true->∀(ρ:Ren)(a f:Array Value)(c b:Frame)(l e:List Frame)(w w':World)(gs:Array ad)(i:Option (Nat×Nat))(t:Trace)(q:Nat->Nat)(Shun:Loc->Prop),
  ρ.bw T.globals.size->WR T.globals.size F (ae T F Z) ρ w w'->VA F ρ a f->aQ T F Z fB fA ρ c b->cj T F Z fB fA ρ l e->
  Term ⟨T,fB⟩ End (fH (ar ⟨T,fB⟩ x a .normal) (c::l++[aX ⟨T,fB⟩])) w->iE T fB F Z (fH (ar ⟨T,fB⟩ x a .normal) (c::l++[aX ⟨T,fB⟩])) w->
  Dp ⟨T,fA⟩ Shun gs (fH (ar ⟨T,fA⟩ x f .normal) (b::e)) w' t q->TL Shun ρ w'.heap.size->Calm w'.tape->
  ∃(N:Nat)(aJ:Ren)(v v':Value)(w1 aP:World)(g:Array ad)(j:Option (Nat×Nat))(t1:Trace)(q1:Nat->Nat)(h:Loc->Prop),
   runNT ⟨T,fA⟩ N (crowd gs w' i) t=(.next (crowd g aP j),t1)/\Dp ⟨T,fA⟩ h g (fH (b.finish v') e) aP t1 q1/\TL h aJ aP.heap.size/\
   VR F aJ v v'/\aJ.bw T.globals.size/\WR T.globals.size F (ae T F Z) aJ w1 aP/\sA ρ aJ w w' w1 aP/\Kept ρ w' aP/\
   (∃m k d,cy ⟨T,fB⟩ (m+1) (fH (ar ⟨T,fB⟩ x a .normal) (c::l++[aX ⟨T,fB⟩])) (w.re k d) (fH (c.finish v) (l++[aX ⟨T,fB⟩])) w1)/\iE T fB F Z (fH (c.finish v) (l++[aX ⟨T,fB⟩])) w1/\w.heap.size<=w1.heap.size
def results_tmp{fn:Func}{t:Tmp}(h:fn.results=#[.tmp t])(tmps:Array Value):results fn tmps=pure (tmps.getD t undef):=by
 unfold results;rw[h,Array.mapM_eq_mapM_toList];rfl
def sA.trans{c:Ren}{w2 d:World}(h:sA ρ aJ w w' w1 aP)(k:sA aJ c w1 aP w2 d)(f:w.heap.size<=w1.heap.size)(g:w'.heap.size<=aP.heap.size):sA ρ c w w' w2 d:=
 ⟨Ren.le_trans h.1 k.1,λa b x=>by
   rcases k.2.1 a b x with y|⟨y,z⟩
   ·exact h.2.1 a b y
   ·exact .inr ⟨ai f y,ai g z⟩,λa b x i j=>by
   obtain⟨y,e⟩:=k.2.2 a b (h.1 x) i j;obtain⟨z,l⟩:=h.2.2 a b x i y
   exact⟨z,e.trans l⟩⟩
def kK(T:aa)(fB fA:Array Func)(F X:ab->Bool)(Z:ac->Bool)(R:Value->World->Prop)(g:ad)(w:World):Prop:=
 ∀(ρ:Ren)(c:ad)(w':World)(gs:Array ad)(f:Option (Nat×Nat))(t:Trace)(q:Nat->Nat)(Shun:Loc->Prop),
  iE T fB F Z g w->GR T fB fA F X Z (aX ⟨T,fB⟩) ρ g c->ρ.bw T.globals.size->WR T.globals.size F (ae T F Z) ρ w w'->Dp ⟨T,fA⟩ Shun gs c w' t q->TL Shun ρ w'.heap.size->Calm w'.tape->
  ∃(N:Nat)(aJ:Ren)(v v':Value)(a aP:World)(e:Array ad)(b:ad)(h:Option (Nat×Nat))(t1:Trace)(q1:Nat->Nat)(i:Loc->Prop),
   runNT ⟨T,fA⟩ N (crowd gs w' f) t=(.next (crowd e aP h),t1)/\Dp ⟨T,fA⟩ i e b aP t1 q1/\b.status=.running/\(∀d,stepG ⟨T,fA⟩ true b (aP.at d)=.ended (.done v') (aP.at d))/\
   VR F aJ v v'/\R v a/\WR T.globals.size F (ae T F Z) aJ a aP/\aJ.bw T.globals.size/\sA ρ aJ w w' a aP/\Kept ρ w' aP
def BF(W:Fits T fB fA F X Z)(Y:Fits T fB fB F (λ_:ab=>false) Z){f:ab}{R:Value->World->Prop}(B:T.inits.idxOf? f=none){fn:Func}{tr:Tmp}(j:fB[f]?=some fn)(k:fA[f]?=some fn)(x:fn.results=#[.tmp tr])
 {g:ad} {w:World} (h:lQ (aw T fB) f R g w):kK T fB fA F X Z R g w:=by
 intro ρ m w' gs C t q Shun hi hg D E H vJ lS;obtain⟨e1,I,J,K,n,v,L,M,N⟩:=h;have i:fB[f]?=some n:=L;rw[j]at i;cases i;obtain⟨O,⟨l,hl,hcs,hb,o⟩,st,c,dy,y,of,z⟩:=hg;obtain rfl:l=[]:=by
  rw[e1]at hl
  cases l with
  |nil=>rfl
  |cons a l=>have:=congrArg List.length hl;simp at this
 have e:=o rfl;have P:v=g.frame.tmps.getD tr undef:=by
  have:=M w.tape w.drawn;rw[results_tmp x]at this;cases this;rfl
 refine⟨0,ρ,v,m.frame.tmps.getD tr undef,w,w',gs,m,C,t,q,Shun,rfl,H,c,λd=>?_,?_,N,E,D,⟨Ren.le_refl _,λa b h=>.inl h,λ_ _ _ _ h=>⟨h,rfl⟩⟩,⟨rfl,.refl _,rfl,ao _,λ_ _ _=>rfl⟩⟩
 ·obtain⟨p,cs',s',d',o'⟩:=m;simp only at hcs c y z e;subst c y z;cases hcs;have r:=e.mode;have s:=e.defers;have u:=e.fn;have A:=e.bX;rw[I]at r;rw[J]at s;rw[K]at u;obtain⟨Q,S,U,cv,dQ,bX,V⟩:=p;simp only at r s u A;subst u A;cases r;cases s;show unwind (aw T fA) true ⟨Q,S,U,[],.returning,.normal,V⟩ [] none (w'.at d)=_;unfold unwind;simp only[k,results_tmp x];show GStep.after _ (doReturn (aw T fA) true _ [] none _ _)=_;unfold doReturn;simp only[B];rfl
 ·rw[P];exact VA.getD e.tmps tr .undef
def vf{End:ad->World->Prop}(hE:∀fr w,¬End (fH fr []) w){g:ad}{w:World}{G1:Tape->Nat->ad}{W1:Tape->Nat->World}(hi:iE T fB F Z g w)(hs:lP (aX (aw T fB)) g)
 (h:∀c d,∃es,stepG (aw T fB) true g (w.re c d)=.go (G1 c d) (W1 c d) es) (k:∀c d,Term (aw T fB) End (G1 c d) (W1 c d)):False:=by
 obtain⟨es,e⟩:=h w.tape w.drawn;have f:stepG (aw T fB) true g w=.go (G1 w.tape w.drawn) (W1 w.tape w.drawn) es:=e;have i:=k w.tape w.drawn
 rcases pO hi hs with⟨q,w1,l,e1,m⟩|⟨o,w1,l,e1⟩
 ·rw[e1]at f
  injection f with a b _
  rw[<-a,<-b]at i
  cases i with
  |done hd=>exact hE _ _ hd
  |step r s n k2=>
   obtain⟨t,j⟩:=n w.tape w.drawn;obtain⟨o,w3,u,p⟩:=m (w1.re w.tape w.drawn);rw[p]at j;cases j
 ·rw[e1]at f;cases f
def TN{f f':Frame}(h:Gm T fB fA F X Z ρ f f'):aQ T F Z fB fA ρ f f'\/∃x a a',X x=true/\F x=true/\VA F ρ a a'/\f=ar (aw T fB) x a .normal/\f'=ar (aw T fA) x a' .normal:=by
 cases h with
 |alike h=>exact .inl h
 |enters x b hf h=>exact .inr ⟨x,_,_,b,hf,h,rfl,rfl⟩
def BH(OM:Fits T fB fA F X Z)(LR:Fits T fB fB F (λ_:ab=>false) Z){f:ab}{R:Value->World->Prop}(ph:BD T fB fA F X Z (lQ (aw T fB) f R)){g:ad}{w:World}{G1:Tape->Nat->ad}{W1:Tape->Nat->World}
 (h:∀i d,∃es,stepG (aw T fB) true g (w.re i d)=.go (G1 i d) (W1 i d) es) (k:∀i d,Term (aw T fB) (lQ (aw T fB) f R) (G1 i d) (W1 i d))
 (ih:∀i d,kK T fB fA F X Z R (G1 i d) (W1 i d)) (S:∀n E w2 i d,cy (aw T fB) (n+1) g (w.re i d) E w2->kK T fB fA F X Z R E w2):kK T fB fA F X Z R g w:=by
 intro ρ p w' gs U t q Shun hi hg L M s V W;have step:∀(ρ:Ren)(p:ad)(w':World),GR T fB fA F X Z (aX (aw T fB)) ρ g p->aQ T F Z fB fA ρ g.frame p.frame->ρ.bw T.globals.size->WR T.globals.size F (ae T F Z) ρ w w'->¬lP (aX (aw T fB)) g->∀d,
  ∃aJ o aP es r d2,stepG (aw T fA) true p (w'.at d)=.go o aP es/\cE T.globals.size F (ae T F Z) ρ (w.re w'.tape d) (w'.re w'.tape d) aJ ((W1 w'.tape d).re r d2) aP es/\GR T fB fA F X Z (aX (aw T fB)) aJ (G1 w'.tape d) o:=by
  intro ρ p w' hg H L M hs d;have:=sr OM (Jc L M w'.tape d) hg H (Bz hs);obtain⟨es,e⟩:=h w'.tape d;rw[e]at this;obtain⟨aJ,vY,aP,aT,r,d2,e1,s,A⟩:=this;exact⟨aJ,vY,aP,aT,r,d2,e1,s,A⟩
 have hs:¬lP (aX (aw T fB)) g:=λhs=>vf (λfr w hd=>by have:=hd.1;cases this) hi hs h k;have alike:aQ T F Z fB fA ρ g.frame p.frame->∃(N:Nat)(aJ:Ren)(v v':Value)(B aP:World)(O:Array ad)(Y:ad)(rQ:Option (Nat×Nat))(t1:Trace)(q1:Nat->Nat)(qF:Loc->Prop),
  runNT (aw T fA) N (crowd gs w' U) t=(.next (crowd O aP rQ),t1)/\Dp (aw T fA) qF O Y aP t1 q1/\Y.status=.running/\(∀d,stepG (aw T fA) true Y (aP.at d)=.ended (.done v') (aP.at d))/\
  VR F aJ v v'/\R v B/\WR T.globals.size F (ae T F Z) aJ B aP/\aJ.bw T.globals.size/\sA ρ aJ w w' B aP/\Kept ρ w' aP:=by
  intro H;obtain⟨N,d,jk,o,aP,es,ov,t',q',hr,fW,TK,hgo,⟨aJ,r,d2,j,A⟩,hL',hP',hN'⟩:=Gx (P:=aw T fA) (Shun:=Shun)
   (λd o aP es=>∃aJ r d2,cE T.globals.size F (ae T F Z) ρ (w.re w'.tape d) (w'.re w'.tape d) aJ ((W1 w'.tape d).re r d2) aP es/\GR T fB fA F X Z (aX (aw T fB)) aJ (G1 w'.tape d) o)
   (Go.ConcN.sumTo gs.size q) gs p w' U t q w'.heap.size (ao _) s.main hg.st' s.old s.GA s.num (λd=>by
    obtain⟨aJ,o,aP,es,r,d2,e1,I,e3⟩:=step ρ p w' hg H L M hs d
    exact⟨o,aP,es,e1,⟨aJ,r,d2,I,e3⟩,I.fV,λe he=>Ls.evL I.wr (TL.step (w':=w'.re w'.tape d) V I) (I.ev e he)⟩)
  have Wr:Kept ρ w' aP:=Kept.TM j;obtain⟨es0,e0⟩:=h w'.tape d;have Gu:iE T fB F Z (G1 w'.tape d) (W1 w'.tape d):=(hi.re w'.tape d).step LR hs e0;obtain⟨N2,dU,v,v',B,jz,C,E,D,t2,q2,OP,r1,r2,r3,r4,r5,r6,r7,r8,r9,TP⟩:=ih w'.tape d aJ o aP jk ov t' q' Shun Gu A j.inj ⟨j.wr.pK,j.wr.gN,j.wr.obj⟩ ⟨TK,hL',hP',hN'⟩ (TL.step (w':=w'.re w'.tape d) V j) (by rw[Wr.tape];exact W);have acD:sA ρ aJ w w' (W1 w'.tape d) aP:=⟨j.le,j.only,j.hol⟩
  refine⟨N+N2,dU,v,v',B,jz,C,E,D,t2,q2,OP,Go.ConcX.runNT_trans hr r1,r2,r3,r4,r5,r6,r7,r8,acD.trans r9 j.size j.fV,Wr.trans (λa b x=>?_) TP⟩
  rcases j.only a b x with y|⟨_,y⟩
  ·exact .inl y
  ·exact .inr y
 have OQ:=hg;obtain⟨acA,⟨l,hl,hcs,hb,hal⟩,st,J,dy,Bl,of,Bm⟩:=hg
 cases l with
 |nil=>exact alike (hal rfl)
 |cons c l=>
  rcases TN acA with H|⟨x,a,o,hx,hf,ha,lR,K⟩
  ·exact alike H
  ·have eg:g=fH (ar (aw T fB) x a .normal) (c::l++[aX (aw T fB)]):=by rw[hi.fH,lR,hl]
   obtain⟨fr',cs',s',d',o'⟩:=p;simp only at hcs J Bl Bm K;subst J Bl Bm K
   cases hcs with
   |@cons _ c' _ l' hc sB=>
    rw[eg]at hi;have ht:Term (aw T fB) (lQ (aw T fB) f R) (fH (ar (aw T fB) x a .normal) (c::l++[aX (aw T fB)])) w:=by
     rw[<-eg];exact .step G1 W1 h k
    obtain⟨N,aJ,v,v',w1,aP,O,rQ,t1,q1,qF,p1,p2,p3,p4,p5,p6,Q,p8,⟨m,i,d,p9⟩,Cz,Fy⟩:=ph x hx ρ a o c c' l l' w w' gs U t q Shun L M ha hc sB ht hi s V W;rw[<-eg]at p9;have OS:=S m _ _ i d p9;have eP:dn (c.finish v::l):=by
     have:dn (c::l):=hb.pop;exact this.top (bZ _ _)
    have LS:=(hc.mono Q.1).finish p4;obtain⟨N2,dU,u,u',B,jz,C,E,D,t2,q2,OP,r1,r2,r3,r4,r5,r6,r7,r8,r9,TP⟩:=OS aJ (fH (c'.finish v') l') aP O rQ t1 q1 qF Cz
     ⟨.alike LS,⟨l,rfl,sB.mono Q.1,eP,λ_=>LS⟩,rfl,rfl,rfl,rfl,rfl,rfl⟩ p5 p6 p2 p3 (by rw[p8.tape];exact W)
    refine⟨N+N2,dU,u,u',B,jz,C,E,D,t2,q2,OP,Go.ConcX.runNT_trans p1 r1,r2,r3,r4,r5,r6,r7,r8,Q.trans r9 Fy p8.size,p8.trans (λa b y=>?_) TP⟩
    rcases Q.2.1 a b y with z|⟨_,z⟩
    ·exact .inl z
    ·exact .inr z
def LU{R:Value->World->Prop}{g b:ad}{w w2:World}{n:Nat}(hi:iE T fB F Z g w)(hs:lP (aX (aw T fB)) g)(a:cy (aw T fB) (n+1) g w b w2):kK T fB fA F X Z R b w2:=by
 obtain⟨p,w3,r,c⟩:=a.next (.zero g w) (Nat.succ_pos n)
 rcases pO hi hs with⟨h,w1,es,e,i⟩|⟨o,w1,es,e⟩
 ·have d:cy (aw T fB) 1 g w (fH h []) w1:=.succ (.zero _ _) e
  cases n with
  |zero=>
   obtain⟨rfl,rfl⟩:=a.det d;intro ρ s w' gs u t q Shun _ hg;obtain⟨_,⟨l,hl,_⟩,_⟩:=hg;cases l<;>cases hl
  |succ n=>
   obtain⟨v,w4,j,f⟩:=a.next d (by omega);obtain⟨o,w5,k,m⟩:=i w1;rw[m]at f;cases f
 ·rw[e]at c;cases c
def Yp(x:Fits T fB fA F X Z)(p:Fits T fB fB F (λ_:ab=>false) Z){f:ab}{R:Value->World->Prop}(A:∀v w i d,R v w->R v (World.re w i d))(B:T.inits.idxOf? f=none){fn:Func}{tr:Tmp}(q:fB[f]?=some fn)(r:fA[f]?=some fn)(C:fn.results=#[.tmp tr])
 (D:BD T fB fA F X Z (lQ (aw T fB) f R)) {g:ad} {w:World} (E:Term (aw T fB) (lQ (aw T fB) f R) g w) :
 iE T fB F Z g w->∀n j w2 i d,cy (aw T fB) n g (w.re i d) j w2->kK T fB fA F X Z R j w2:=by
 induction E with
 |@done g w h=>
  intro hi n j w2 i d l;have H:lQ (aw T fB) f R g (w.re i d):=by
   obtain⟨a,b,c,e,fn,v,s,I,J⟩:=h;exact⟨a,b,c,e,fn,v,s,λm t=>I m t,A v w i d J⟩
  cases n with
  |zero=>cases l;exact BF x p B q r C H
  |succ n=>
   have hs:lP (aX (aw T fB)) g:=⟨by rw[h.2.1];simp,h.2.2.1,h.1⟩
   exact LU (hi.re i d) hs l
 |@step g w u o h k y=>
  intro hi n j w2 i d l;have hs:¬lP (aX (aw T fB)) g:=λhs=>vf (λfr w hd=>by have:=hd.1;cases this) hi hs h k;have z:∀i d,iE T fB F Z (u i d) (o i d):=λi d=>by
   obtain⟨es,e⟩:=h i d;exact(hi.re i d).step p hs e
  have later:∀n j w2 i d,cy (aw T fB) (n+1) g (w.re i d) j w2->kK T fB fA F X Z R j w2:=by
   intro n j w2 i d l;obtain⟨es,e⟩:=h i d;have s:cy (aw T fB) 1 g (w.re i d) (u i d) (o i d):=.succ (.zero _ _) e;rw[Nat.add_comm]at l;exact y i d (z i d) n j w2 (o i d).tape (o i d).drawn (l.suffix s)
  cases n with
  |zero=>
   cases l;refine BH x p D (G1:=u) (W1:=o) (λi d=>h i d) k (λi d=>?_) (λn j w2 m t hc=>later n j w2 m t hc);exact y i d (z i d) 0 _ _ (o i d).tape (o i d).drawn (.zero _ _)
  |succ n=>exact later n j w2 i d l
end
end Go.bJ
namespace Go.bJ
def BI(T:aa)(F:ab->Bool)(t:ac):Bool:=match T.types[t]? with
 |some i=>(match i.zero with|some v=>pM F 12 v|none=>true)
 |none=>true
def Zof(n:Nat):ac->Bool:=λt=>decide (t<n)
def Jf{T:aa}{F:ab->Bool}{n:Nat}(c:n<=T.types.size)(h:(List.range n).all (BI T F)=true)(a:((T.info? 0).all λi=>(i.methods.find? (·.name == "")).isNone)=true):dM T F (Zof n):=by
 refine⟨?_,λi hi=>by rw[hi]at a;simpa using a⟩;intro t i v d hi hv;have hl:t<n:=by simpa[Zof]using d
 have b:=List.all_eq_true.1 h t (List.mem_range.2 hl);unfold Tables.info? at hi;rw[if_pos (ag hl c)]at hi;simp only[BI,hi,hv]at b;exact uY 12 b
def mI(T:aa)(F:ab->Bool)(Z:ac->Bool)(fn:Func):Bool:=
 fn.name != "runtime.NumGoroutine" && match fn.body with|some c=>ae T F Z c|none=>false
def Jg(T:aa)(fs:Array Func)(F X:ab->Bool)(Z:ac->Bool)(n:Nat):Bool:=
 (List.range n).all λf=>!F f||X f||match fs[f]? with|some fn=>mI T F Z fn|none=>false
def BJ{T:aa}{fB fA:Array Func}{F X:ab->Bool}{Z:ac->Bool}{n:Nat}(k:dM T F Z)(m:∀f,F f=true->f<n)(same:∀f,X f=false->fB[f]?=fA[f]?)
 (o:∀f,X f=true->(∃b,fB[f]?=some b/\b.body.isSome=true/\b.name≠ "runtime.NumGoroutine")/\∃a,fA[f]?=some a/\a.body.isSome=true/\a.name≠ "runtime.NumGoroutine")
 (h:Jg T fA F X Z n=true) (q:fB.size<=cn):Fits T fB fA F X Z:=by
 have key:∀f,F f=true->X f=false->∃fn c,fA[f]?=some fn/\fn.body=some c/\ae T F Z c=true/\fn.name≠ "runtime.NumGoroutine":=by
  intro f hf d;have:=List.all_eq_true.1 h f (List.mem_range.2 (m f hf));simp only[hf,d,Bool.not_true,Bool.false_or]at this
  cases i:fA[f]? with
  |none=>rw[i]at this;cases this
  |some fn=>
   rw[i]at this;simp only[mI,Bool.and_eq_true,bne_iff_ne,ne_eq]at this
   cases hb:fn.body with
   |none=>rw[hb]at this;cases this.2
   |some c=>rw[hb]at this;exact⟨fn,c,rfl,hb,this.2,this.1⟩
 refine⟨k,⟨λl=>Array.getElem?_eq_none (by omega),λf hf=>?_⟩,λf hf d=>?_⟩
 ·cases d:X f with
  |true=>exact o f d
  |false=>
   obtain⟨fn,c,e,g,_,j⟩:=key f hf d;have hs:fn.body.isSome=true:=by rw[g];rfl
   exact⟨⟨fn,(same f d).trans e,hs,j⟩,fn,e,hs,j⟩
 ·obtain⟨fn,c,e,g,p,_⟩:=key f hf d;exact⟨fn,c,(same f d).trans e,e,g,p⟩
end Go.bJ
namespace Go.Proofs
open Go.bJ
private def dat(l:List Nat):Array Edge:=(l.map λi=>{ on:=i,ground:=Ground.data }).toArray
private def opr(dst:Option Nat)(op:Op)(after:List Nat:=[])(type:ac:=0):Oper:={ dst,op,type,pos:= "b",after:=dat after,guard:=none }
def FF:ab->Bool:=λf=>decide (f<219) && !([2,136,137,138,139,140,141,166,167,169,170,173,174,177,187,189,136,137,138,139,140,141,173,174,187,189,0,1,160,161,162,163,164,165,168,171,172,175,176,178,179,182,183,184,185,186,188,190,192,193,194,195,196,197,198,203,204,205,206,207,208,209,210,211,212,213,214,215,216,217,218].contains f)
def XX:ab->Bool:=λf=>f==98
def NN:ab->Bool:=λ_=>false
noncomputable def ZZ:ac->Bool:=Zof Tryz.progTables.types.size
def zeros:(List.range Tryz.progTables.types.size).all (BI Tryz.progTables FF)=true:=by kernel_rfl
def Jh:dM Tryz.progTables FF ZZ:=Jf (ao _) zeros (by kernel_rfl)
def acG:Jg Tryz.progTables Tryz.funcs FF XX ZZ 219=true:=by kernel_rfl
end Go.Proofs
