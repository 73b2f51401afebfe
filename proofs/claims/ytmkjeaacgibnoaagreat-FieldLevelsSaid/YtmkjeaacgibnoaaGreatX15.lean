/- Part of the proof of FieldLevels: see X45. -/
import Derived.Test.YtmkjeaacgibnoaaGreatX14
import Derived.Conc.AtomicLaws2
import Derived.Conc.ClockLaws
import Derived.Conc.FxBegin
import Derived.Conc.MarkLaws
import Derived.Conc.MuStops
import Derived.Conc.SmallLaws
import Derived.KernelRfl
import Derived.Test.YtmkjeaacgibnoaaGreatProg
set_option linter.all false
open Go renaming Goroutine->aa,deafBehind->ab,Program->ac,GoStatus->ae,execOp->ag,FuncId->ai,Operand->ao,run_callFunc_extern->aq,IntKind->ar,TypeId->aB,run_underlying->aF
open Nat renaming le_refl->aH,zero_le->aI,lt_or_ge->aJ
open Go.MemOp renaming ofEvents->aL
open Go.Conc renaming mem_ofEvents->aP,touch_mute->aT,low_mute->a5,awake_of->a6,runT_crowd_go->a7,events_callFunc_extern->a8,canSpin_eq->a9
open Go.ConcN renaming upd_same->ba,upd_ne->bb,sumTo_congr->bc
open Go.Event renaming mute->bd
open Go.MemAct renaming ofEvent->bg,mark->bi
open Array renaming getElem?_eq_getElem->bj,mem_of_getElem?->bl
open List.cons renaming injEq->bm
open Prod.mk renaming injEq->bo
open List renaming all_eq_true->bp,push_toArray->bq,nil_append->br
open Go.stepG renaming apply->bs,oper->bt
open Go.Extern renaming findNext->bu,find->bv
open Go.Extern.Race renaming none_->bw,marked->bx,at_->bA
open Go.Extern.Sync renaming canSpin->bC,nothing->bL,none_->bM
namespace Go.Ph
open Go.Conc Go.ConcN
open Go.ConcM (MuAt muA msA OsLater muBlock)
open Go.ConcR (KK WgAt stA smA rd wr)
open Go.cD (Wd Th Mv Head eR spin mU ja)
section
variable {Y:CB}{G G':Gh}{gs:Array aa}{w w':World}{t:Trace}{a b d d':Nat}{g g':aa}{es:Array Event}{M':Own}{q:Bool}{sl:Option (Nat×Nat)}
def WN(V:Vw)(M:Own)(w:World)(d:Nat):Rl Y.toFix V M w (w.at d):=⟨rfl,rfl,.refl _,aH _,λ_ _=>rfl,λ_ _=>rfl,id,λ_ _=>rfl⟩
def Sit.at(h:Sit Y G b d g w)(n:Nat):Sit Y G b d g (w.at n):=by
 cases h with
 |run hg c h=>exact .run hg c (h.rely (WN _ _ _ _))
 |wait f hg e c i j h=>exact .wait f hg e c i j (h.rely (WN _ _ _ _))
 |gone hg h=>exact .gone hg h
def MI.at(m:MI Y G gs w t)(hF:nG Y)(n:Nat):MI Y G gs (w.at n) t:=
 ⟨m.cpos,m.size,λa c g hg=>(m.sit a c g hg).at n,m.old,m.above,m.sh,m.tb,m.mun,m.fresh,m.out,m.wi,m.fuel,m.fuel0,⟨m.oi.ap,m.oi.dj,m.oi.self,m.oi.rows,m.oi.base,m.oi.num,m.oi.ids,m.oi.main,m.oi.rowV⟩,m.shun,m.tri,m.rel,m.norel,m.low,
  λk e f=>hF k w (w.at n) (λ_ _=>rfl) (m.fin k e f),m.acq,m.tape,m.output,m.os,m.kept,m.rowok,m.un⟩
def MI.slip(m:MI Y G gs w t){i n:Nat}(hi:gs[i]?=some g)(Z:0<i)(I:i<Y.c\/∃k,k<G.j/\i=Y.c+k/\G.wp k=.quit)(J:G.q i=n+1)(z:∀e∈es,e.mute=true)
 (K:QuitsD Y.P n (ab (Deaf t i) es) g') :
 ∃G',MI Y G' ((gs.map (woken Y.P g g' w)).setIfInBounds i g') w (t++aL i g.frame.fn g.frame.place es)/\ML (Y.n+1) (mz Y G' ((gs.map (woken Y.P g g' w)).setIfInBounds i g')) (mz Y G gs):=by
 have O:i<gs.size:=(Array.getElem?_eq_some_iff.1 hi).1;have C:∀b,b≠i->Deaf (t++aL i g.frame.fn g.frame.place es) b=Deaf t b:=λb hb=>
  Deaf_other t (Ne.symm hb) _ (λop o=>by obtain⟨e,_,rfl⟩:=aP o;rfl)
 have A:Deaf (t++aL i g.frame.fn g.frame.place es) i=ab (Deaf t i) es:=Deaf_own _ _ _ _ _;have D:∀op∈aL i g.frame.fn g.frame.place es,op.act.touch? = none:=λop o=>by
  obtain⟨e,B,rfl⟩:=aP o;exact aT (z e B)
 have L:∀b x,b≠i->((gs.map (woken Y.P g g' w)).setIfInBounds i g')[b]?=some x->∃y,gs[b]?=some y/\x=woken Y.P g g' w y:=by
  intro b x hb f;rw[Array.getElem?_setIfInBounds_ne (Ne.symm hb),Array.getElem?_map]at f;obtain⟨y,hy,rfl⟩:=Option.map_eq_some_iff.1 f;exact⟨y,hy,rfl⟩
 have M:∀x,((gs.map (woken Y.P g g' w)).setIfInBounds i g')[i]?=some x->x=g':=by
  intro x f;rw[Array.getElem?_setIfInBounds_self_of_lt (by simpa using O)]at f;exact(Option.some.inj f).symm
 refine⟨{ G with q:=upd G.q i n },⟨m.cpos,by simpa using m.size,λb hb x f=>?_,λb x Q hb f=>?_,λb hb=>?_,m.sh,m.tb,m.mun,m.fresh,m.out,⟨m.wi.v,m.wi.early,m.wi.late,m.wi.le,m.wi.calm,m.wi.w3,m.wi.done,m.wi.nz⟩,m.fuel,m.fuel0,
  ⟨m.oi.ap,m.oi.dj,m.oi.self,m.oi.rows,m.oi.base,m.oi.num,m.oi.ids,m.oi.main,m.oi.rowV⟩,m.shun,?_,λk u R=>?_,m.norel.app λop o=>?_,λop o=>?_,m.fin,λz=>?_,m.tape,m.output,m.os,m.kept,m.rowok,m.un⟩,?_⟩
 ·by_cases e:gid Y b=i
  ·rw[e]at f ⊢;obtain rfl:=M x f;rw[A]
   rcases I with h|⟨k,u,rfl,s⟩
   ·exfalso
    cases b with
    |zero=>rw[iZ]at e;omega
    |succ b=>rw[bQ]at e;omega
   ·have:b=k+1:=wm m.cpos (e.trans (bQ k).symm);subst this;exact .gone s (by simp only[bQ,ba];exact K)
  ·obtain⟨y,hy,rfl⟩:=L _ _ e f;rw[C _ e];exact(m.sit b hb y hy).other (Rl.refl _ _ _) g g' rfl rfl rfl rfl rfl Iff.rfl (bb _ _ e) .inl
 ·by_cases e:b=i
  ·subst e;obtain rfl:=M x f;rw[A];simp only[ba];exact K
  ·obtain⟨y,hy,rfl⟩:=L _ _ e f;have:=m.old b y Q hb hy;rw[C _ e,woken_quitsD this];simp only[bb _ _ e];exact this
 ·have S:gs.size<=b:=by simpa using hb
  rw[C _ (by omega)];exact m.above b S
 ·exact m.tri.appMute (g:=i) (λop o=>by obtain⟨e,_,rfl⟩:=aP o;rfl) D
 ·obtain⟨r,E⟩:=m.rel k u R;exact⟨r,ru E D⟩
 ·obtain⟨e,B,rfl⟩:=aP o;have:=z e B;obtain⟨l,x,y⟩:=e;intro hc
  cases l with
  |mark T=>cases T<;>simp_all [bd,bg]
  |_=>simp_all [bd]
 ·rcases Array.mem_append.1 o with h|h
  ·exact m.low op h
  ·obtain⟨e,B,rfl⟩:=aP h;exact a5 (z e B) _
 ·obtain⟨p,N,U,V,W⟩:=m.acq z;have F:=lt_of_act? N;refine⟨p,by rw[act?_old F];exact N,by rw[g?_old F];exact U,(heard_old F).2 V,λk u=>?_⟩;obtain⟨r,E,H⟩:=W k u;exact⟨r,ru E D,H⟩
 ·refine .inr ⟨rfl,.inr ⟨rfl,.inl ?_⟩⟩;show qs Y { G with q:=upd G.q i n }<qs Y G;unfold qs;simp only
  rcases I with h|⟨k,u,rfl,s⟩
  ·have e1:sumTo Y.c (λb=>if b=0 then 0 else upd G.q i n b)+(n+1)=sumTo Y.c (λb=>if b=0 then 0 else G.q b)+n:=by
    have:=sumTo_upd (j:=Y.c) (λb=>if b=0 then 0 else G.q b) n id h;simp only[id]at this;rw[if_neg (by omega),J]at this;rw[<-this];congr 1;refine bc λb _=>?_;by_cases e:b=i
    ·subst e;rw[ba,ba,if_neg (by omega)]
    ·rw[bb _ _ e,bb _ _ e]
   have X:sumTo G.j (λk=>if G.wp k=.quit then upd G.q i n (Y.c+k) else 0)=sumTo G.j (λk=>if G.wp k=.quit then G.q (Y.c+k) else 0):=
    bc λk _=>by rw[bb _ _ (by omega)]
   omega
  ·have e1:sumTo Y.c (λb=>if b=0 then 0 else upd G.q (Y.c+k) n b)=sumTo Y.c (λb=>if b=0 then 0 else G.q b):=
    bc λb hb=>by rw[bb _ _ (by omega)]
   have X:sumTo G.j (λb=>if G.wp b=.quit then upd G.q (Y.c+k) n (Y.c+b) else 0)+(n+1)=sumTo G.j (λb=>if G.wp b=.quit then G.q (Y.c+b) else 0)+n:=by
    have:=sumTo_upd (j:=G.j) (λb=>if G.wp b=.quit then G.q (Y.c+b) else 0) n id u;simp only[id]at this;rw[if_pos s,J]at this;rw[<-this];congr 1;refine bc λb _=>?_;by_cases e:b=k
    ·subst e;rw[ba,ba,if_pos s]
    ·rw[bb _ _ e,bb _ _ (by omega)]
   omega
def MI.T7(m:MI Y G gs w t):∃(i:Nat)(g:aa),gs[i]?=some g/\g.status=.running:=by
 refine Classical.byContradiction λA=>?_;have x:∀(i:Nat)(g:aa),gs[i]?=some g->g.status≠.running:=λi g h l=>A ⟨i,g,h,l⟩;have H:=m.size;have W:=m.wi;have n:∀a,a<=G.j->∃g,gs[gid Y a]?=some g:=λa B=>⟨_,bj (by have:=Yz (Y:=Y) B m.cpos;omega)⟩
 obtain⟨C,y⟩:=n 0 (aI _);have o:G.mp=.w3/\G.s.ws=0:=by
  cases m.sit 0 (aI _) C y with
  |run _ l _=>exact absurd l (x _ _ y)
  |wait _ _ _ _ _ r _=>exact r
  |gone h _=>exact h.elim
 have I:=W.late (by rw[o.1];simp) (by rw[o.1];simp);have e:∀k,k<G.j->G.wp k=.quit\/(G.wp k=.mu/\(G.th k).pc=.s1/\G.s.ms=0):=by
  intro k e;obtain⟨g,hg⟩:=n (k+1) e
  cases m.sit (k+1) e g hg with
  |run _ l _=>exact absurd l (x _ _ hg)
  |wait _ _ _ _ _ r _=>exact .inr r
  |gone h _=>exact .inl h
 have D:=m.mun.live λk J=>by
  rcases e k (by omega) with h|⟨_,h⟩
  ·exact .inl (m.out k (by omega) (by rw[h];simp))
  ·exact .inr h
 have E:∀k,k<G.j->G.wp k=.quit:=by
  intro k u
  rcases e k u with h|⟨_,h,_⟩
  ·exact h
  ·have:(G.th k).pc=.out:=D k (by omega);rw[this]at h;cases h
 have z:∀f:WP->Nat,f .quit=0->sumTo G.j (λk=>f (G.wp k))=0:=λf hf=>by
  have:=sumTo_le (f:=λk=>f (G.wp k)) (c:=0) (j:=G.j) λk e=>by rw[E k e,hf];exact aH _
  omega
 have hv:=W.v;rw[z fv rfl,if_neg (by rw[o.1];simp)]at hv
 rcases W.w3 o.1 with⟨c1,F,c3,p⟩|⟨c1,F,c3,p⟩
 ·rw[if_pos hv,z fd rfl]at p;cases p
 ·rw[z f4 rfl,o.2]at p;cases p
def nL(Y:CB)(G:Gh)(gs:Array aa)(w:World)(t:Trace):Prop:=G.mp=.an/\∃g,gs[0]?=some g/\g.status=.running/\Deaf t 0=0/\Y.Post (G.M 0) g w
def GL(Y:CB):Prop:=∀M g w d,Y.Post M g (w.at d)->Y.Post M g w
def MI.step(m:MI Y G gs w t)(hF:nG Y)(Q:Jn Y)(R:GL Y):nL Y G gs w t\/
 ∃l w' p ops G',stepT Y.P (crowd gs w sl)=(.next (crowd l w' p),ops)/\MI Y G' l w' (t++ops)/\ML (Y.n+1) (mz Y G' l) (mz Y G gs):=by
 have X:=m.size;have cpos:=m.cpos;have who:∀i,i<gs.size->i=gid Y 0\/(0<i/\i<Y.c)\/∃k,k<G.j/\i=gid Y (k+1):=by
  intro i hi
  rcases Nat.eq_zero_or_pos i with rfl|h
  ·exact .inl rfl
  ·rcases aJ i Y.c with u|u
   ·exact .inr (.inl ⟨h,u⟩)
   ·exact .inr (.inr ⟨i-Y.c,by omega,by rw[bQ];omega⟩)
 have S:∀g∈gs,awake g:=by
  intro g hg;obtain⟨i,hi,rfl⟩:=Array.mem_iff_getElem.1 hg;have E:gs[i]?=some gs[i]:=bj hi
  rcases who i hi with rfl|⟨u,z⟩|⟨k,x,rfl⟩
  ·exact a6 (m.sit 0 (aI _) _ E).status
  ·exact a6 ((m.old i _ u z E).status.imp id .inr)
  ·exact a6 (m.sit (k+1) x _ E).status
 obtain⟨i,g,d,p,hi,o,A⟩:=crowd_pick (P:=Y.P) (w:=w) (sl:=sl) S m.T7;have T:i<gs.size:=(Array.getElem?_eq_some_iff.1 hi).1;have m':=m.at hF d;have finish:∀a,i=gid Y a->Made Y G gs (w.at d) t a g->∃l w' p ops G',stepT Y.P (crowd gs w sl)=(.next (crowd l w' p),ops)/\MI Y G' l w' (t++ops)/\ML (Y.n+1) (mz Y G' l) (mz Y G gs):=by
  rintro a rfl⟨g',w',es,G',u,z,U⟩;exact⟨_,w',p,_,G',by rw[A];exact a7 hi u,z,U⟩
 rcases who i T with rfl|⟨u,z⟩|⟨k,x,rfl⟩
 ·
  cases m'.sit 0 (aI _) g hi with
  |wait V _ e _ _ _ _=>subst e;cases o
  |gone h _=>exact h.elim
  |run B _ v=>
   have stop:G.um Y 0 (G.M 0) (Deaf t (gid Y 0)) g (w.at d)->nL Y G gs w t\/∃l w' p ops G',stepT Y.P (crowd gs w sl)=(.next (crowd l w' p),ops)/\MI Y G' l w' (t++ops)/\ML (Y.n+1) (mz Y G' l) (mz Y G gs):=by
    intro hs;by_cases e1:G.mp=.an
    ·left;simp only[Gh.um]at hs;rw[e1]at hs;obtain⟨x1,x2,x3⟩:=hs;exact⟨e1,g,hi,x1,x2,R _ _ _ _ x3⟩
    ·right;by_cases O:G.mp=.go
     ·obtain⟨l,ops,G',C,D,W⟩:=m'.spawn (sl:=p) Q hi O hs;exact⟨l,w.at d,p,ops,G',by rw[A];exact C,D,W⟩
     ·exact finish 0 rfl (m'.Pa hF hi o v hs O e1)
   cases hf:G.tr 0 with
   |leaf=>
    have r:=v;rw[hf]at r;exact stop (r _ (Rl.refl _ _ _))
   |node f=>
    have r:=v;rw[hf]at r
    rcases r _ (Rl.refl _ _ _) with hs|⟨_,F⟩
    ·exact stop hs
    ·exact .inr (finish 0 rfl (m'.loc hF (aI _) hi B hf F))
 ·
  right;have s:=m'.old i g u z hi
  cases y:G.q i with
  |zero=>rw[y]at s;rw[s.1]at o;cases o
  |succ n=>
   rw[y]at s
   rcases s with⟨H,_⟩|⟨_,g',es,I,J,K⟩
   ·rw[H]at o;cases o
   have L:(i==0)=false:=by simp;omega
   obtain⟨G',C,D⟩:=m'.slip hi u (.inl z) y I K;exact⟨_,w.at d,p,_,G',by rw[A];exact a7 hi (by rw[L];exact J (w.at d)),C,D⟩
 ·
  right
  cases m'.sit (k+1) x g hi with
  |wait V _ e _ _ _ _=>subst e;cases o
  |gone N s=>
   rw[bQ]at hi A;rw[bQ]at s
   cases y:G.q (Y.c+k) with
   |zero=>rw[y]at s;rw[s.1]at o;cases o
   |succ n=>
    rw[y]at s
    rcases s with⟨H,_⟩|⟨_,g',es,I,J,K⟩
    ·rw[H]at o;cases o
    have L:(Y.c+k==0)=false:=by simp;omega
    obtain⟨G',C,D⟩:=m'.slip hi (by omega) (.inr ⟨k,x,rfl,N⟩) y I K;exact⟨_,w.at d,p,_,G',by rw[A];exact a7 hi (by rw[L];exact J (w.at d)),C,D⟩
  |run B _ v=>
   cases hf:G.tr (k+1) with
   |leaf=>
    have r:=v;rw[hf]at r;exact finish (k+1) rfl (m'.Jm hF x hi B o v (r _ (Rl.refl _ _ _)))
   |node f=>
    have r:=v;rw[hf]at r
    rcases r _ (Rl.refl _ _ _) with hs|⟨_,F⟩
    ·exact finish (k+1) rfl (m'.Jm hF x hi B o v hs)
    ·exact finish (k+1) rfl (m'.loc hF x hi B hf F)
def MI.runs(hF:nG Y)(f:Jn Y)(i:GL Y):∀(z:Mz)(G:Gh)(gs:Array aa)(w:World)(sl:Option (Nat×Nat))(t:Trace),mz Y G gs=z->MI Y G gs w t->
 ∃N c w1 e t1 G1,runNT Y.P N (crowd gs w sl) t=(.next (crowd c w1 e),t1)/\MI Y G1 c w1 t1/\nL Y G1 c w1 t1:=by
 intro z
 induction (acT (Y.n+1)).apply z with
 |intro z _ j=>
  rintro G gs w sl t rfl m
  rcases m.step (sl:=sl) hF f i with h|⟨k,w',l,ops,G',o,p,r⟩
  ·exact⟨0,gs,w,sl,t,G,rfl,m,h⟩
  ·obtain⟨N,c,w1,e,t1,G1,s,u,v⟩:=j _ r G' k w' l (t++ops) rfl p;exact⟨N+1,c,w1,e,t1,G1,by simp only[runNT,o];exact s,u,v⟩
def nL.T8(m:MI Y G gs w t)(h:nL Y G gs w t):Leavers Y.P t gs G.q:=by
 refine⟨λi g o hi=>?_,m.above⟩;have p:i<gs.size:=(Array.getElem?_eq_some_iff.1 hi).1
 rcases aJ i Y.c with l|l
 ·exact m.old i g o l hi
 ·have r:=m.size;have n:i-Y.c<G.j:=by omega
  have e:gid Y (i-Y.c+1)=i:=by rw[bQ];omega
  have f:=(m.wi.done (.inr (.inr h.1))).2.2.2 (i-Y.c) n;have hs:=m.sit (i-Y.c+1) n g (by rw[e];exact hi);rw[e]at hs
  cases hs with
  |run k _ _=>exact absurd f k
  |wait _ k _ _ _ _ _=>exact absurd f k
  |gone _ f=>rw[e]at f;exact f
def nL.GA(m:MI Y G gs w t)(h:nL Y G gs w t):Past (λl=>Y.Shun l\/OZ Y.toFix l) w.heap.size t:=by
 obtain⟨p,f,i,j,n⟩:=m.acq h.1;obtain⟨_,_,_,_,hd,_⟩:=h;refine m.tri.GA (λk k1 k2 _=>?_) m.norel f i j hd m.low;have e:Y.c+(k-Y.c)=k:=by omega
 have:=n (k-Y.c) (by omega);rw[e]at this;exact this
def nL.fin(m:MI Y G gs w t)(h:nL Y G gs w t):∀k,k<Y.n->Y.Fin k w:=by
 intro k e;have f:=m.wi.late (by rw[h.1];simp) (by rw[h.1];simp);have c:=(m.wi.done (.inr (.inr h.1))).2.2.2 k (by omega);exact m.fin k (by omega) (by rw[c];simp)
end
end Go.Ph
namespace Go.Ph
open Go.Conc Go.ConcN
open Go.ConcR (stA)
noncomputable def nx(P:ac)(mn:Bool)(g:aa):aa:=match stepG P mn g default with
 |.go g' _ _=>g'
 |_=>g
noncomputable def ex(P:ac)(mn:Bool)(g:aa):Array Event:=match stepG P mn g default with
 |.go _ _ es=>es
 |_=>#[]
noncomputable def adv(P:ac)(mn:Bool):Nat->aa->aa
 |0,g=>g
 |n+1,g=>adv P mn n (nx P mn g)
noncomputable def YL(P:ac)(mn:Bool):Nat->Nat->aa->Nat
 |0,d,_=>d
 |n+1,d,g=>YL P mn n (ab d (ex P mn g)) (nx P mn g)
def mutes(es:Array Event):Bool:=es.toList.all bd
noncomputable def Dz(P:ac)(mn:Bool)(w:World):Nat->aa->List (ae×GStep×Bool)
 |0,_=>[]
 |n+1,g=>(g.status,stepG P mn g w,mutes (ex P mn g))::Dz P mn w n (nx P mn g)
noncomputable def DC(P:ac)(mn:Bool)(w:World):Nat->aa->List (ae×GStep×Bool)
 |0,_=>[]
 |n+1,g=>(.running,.go (nx P mn g) w (ex P mn g),true)::DC P mn w n (nx P mn g)
def uo(P:ac)(mn:Bool)(n:Nat)(g:aa):Prop:=(∀w,Dz P mn w n g=DC P mn w n g)/\(adv P mn n g).status=.running
section
variable {X:Fix}{V:Vw}{q:Bool}{Stop:Stp}{M:Own}{d:Nat}{g g':aa}{w:World}{es:Array Event}
def T9(a:∀e∈es,e.mute=true)(d:Nat)(w:World):Dl X V q M d w w es M (ab d es):=
 ⟨rfl,rfl,.refl _,aH _,λ_ _ _ _ _ _=>rfl,λc h=>⟨c,h,rfl⟩,λ_ _=>rfl,λ_=>rfl,λb=>⟨.inl,λh=>h.resolve_right λx=>by omega⟩,
   λe f=>⟨λx i=>(by rw[aT (a e f)]at i;cases i),λh=>(by have:=a e f;obtain⟨l,x,y⟩:=e;simp only at h;subst h;simp[bd]at this),a5 (a e f) _⟩,
   λ_ j e h=>.inl (aT (a e (bl h))),rfl⟩
def ay.mute1(hs:g.status=.running)(h:∀w,stepG X.P (V.g==0) g w=.go g' w es)(b:∀e∈es,e.mute=true)(c:g'.status=.running)(f:ay X V q Stop M (ab d es) g' w):ay X V q Stop M d g w:=
 .step hs λa r=>⟨g',a,es,M,_,h a,T9 b d a,⟨rfl,rfl⟩,c,f.rely r⟩
def ay.quiet{mn:Bool}(c:(V.g==0)=mn):∀(n:Nat){g:aa}{d:Nat},uo X.P mn n g->ay X V q Stop M (YL X.P mn n d g) (adv X.P mn n g) w->ay X V q Stop M d g w
 |0,_,_,_,b=>b
 |n+1,g,d,h,b=>by
  have a:∀w,g.status=.running/\stepG X.P mn g w=.go (nx X.P mn g) w (ex X.P mn g)/\mutes (ex X.P mn g)=true/\Dz X.P mn w n (nx X.P mn g)=DC X.P mn w n (nx X.P mn g):=λw=>by
   have:=h.1 w;simp only[Dz,DC,bm,bo]at this;exact⟨this.1.1,this.1.2.1,this.1.2.2,this.2⟩
  have f:=ay.quiet c n (g:=nx X.P mn g) (d:=ab d (ex X.P mn g)) ⟨λw=>(a w).2.2.2,h.2⟩ b;have i:(nx X.P mn g).status=.running:=by
   cases n with
   |zero=>exact h.2
   |succ n=>
    have:=(a w).2.2.2;simp only[Dz,DC,bm,bo]at this;exact this.1.1
  refine .mute1 (a w).1 (λw=>by rw[c];exact(a w).2.1) (λe j=>?_) i f;have:=(a w).2.2.1;simp only[mutes,bp]at this;exact this e (Array.mem_toList_iff.2 j)
end
section
variable (P:ac)(mn:Bool)(S:aa->Bool)
noncomputable def wu:Nat->aa->aa
 |0,g=>g
 |n+1,g=>@Bool.rec (λ_=>aa) (wu n (nx P mn g)) g (S g)
noncomputable def xD:Nat->Nat->aa->Nat
 |0,d,_=>d
 |n+1,d,g=>@Bool.rec (λ_=>Nat) (xD n (ab d (ex P mn g)) (nx P mn g)) d (S g)
noncomputable def vg(w:World):Nat->aa->List (ae×GStep×Bool)
 |0,_=>[]
 |n+1,g=>@Bool.rec (λ_=>List (ae×GStep×Bool)) ((g.status,stepG P mn g w,mutes (ex P mn g))::vg w n (nx P mn g)) [] (S g)
noncomputable def vh(w:World):Nat->aa->List (ae×GStep×Bool)
 |0,_=>[]
 |n+1,g=>@Bool.rec (λ_=>List (ae×GStep×Bool)) ((.running,.go (nx P mn g) w (ex P mn g),true)::vh w n (nx P mn g)) [] (S g)
def ff(n:Nat)(g:aa):Prop:=(∀w,vg P mn S w n g=vh P mn S w n g)/\(wu P mn S n g).status=.running
end
section
variable {X:Fix}{V:Vw}{q:Bool}{Stop:Stp}{M:Own}{g g':aa}{w:World}{S:aa->Bool}
def ay.oO{mn:Bool}(i:(V.g==0)=mn):∀(n:Nat){g:aa}{d:Nat},ff X.P mn S n g->ay X V q Stop M (xD X.P mn S n d g) (wu X.P mn S n g) w->ay X V q Stop M d g w
 |0,_,_,_,a=>a
 |n+1,g,d,h,a=>by
  cases c:S g with
  |true=>simpa only[wu,xD,c]using a
  |false=>
   simp only[wu,xD,c]at a;have f:=h.2;simp only[wu,c]at f;have b:∀w,g.status=.running/\stepG X.P mn g w=.go (nx X.P mn g) w (ex X.P mn g)/\mutes (ex X.P mn g)=true/\vg X.P mn S w n (nx X.P mn g)=vh X.P mn S w n (nx X.P mn g):=λw=>by
    have:=h.1 w;simp only[vg,vh,c,bm,bo]at this;exact⟨this.1.1,this.1.2.1,this.1.2.2,this.2⟩
   have l:=ay.oO i n (g:=nx X.P mn g) (d:=ab d (ex X.P mn g)) ⟨λw=>(b w).2.2.2,f⟩ a;have m:(nx X.P mn g).status=.running:=by
    cases n with
    |zero=>exact f
    |succ n=>
     have j:=(b w).2.2.2
     cases k:S (nx X.P mn g) with
     |true=>simpa only[wu,k]using f
     |false=>
      simp only[vg,vh,k,bm,bo]at j;exact j.1.1
   refine .mute1 (b w).1 (λw=>by rw[i];exact(b w).2.1) (λe o=>?_) m l;have:=(b w).2.2.1;simp only[mutes,bp]at this;exact this e (Array.mem_toList_iff.2 o)
end
end Go.Ph
namespace Go.Ph
open Go.Conc Go.ConcN
def pS:Op->Bool
 |.defer _=>false
 |_=>true
def bF(g:aa):Option Oper:=
 if g.status=.running/\g.dying.isNone=true/\g.offers.isNone=true/\(g.frame.kind==CallKind.early)=false then
  match g.frame.mode,g.frame.todo with
  |.run,.inRegion ops (i::_)::_=>match ops[i]? with
   |some o=>if Region.wanted o (yielded ops g.frame.tmps)=true/\pS o.op=true then some o else none
   |none=>none
  |_,_=>none
 else none
def fin(g:aa)(v:Value):aa:={ g with frame:=g.frame.finish v }
section
variable {P:ac}{mn:Bool}{g:aa}{o:Oper}{w w':World}{v:Value}
def gF(h:bF g=some o):∃fn tmps ops i rest k defers kind a cs,g={ frame:=⟨fn,tmps,.inRegion ops (i::rest)::k,defers,.run,kind,a⟩,callers:=cs,status:=.running,dying:=none,offers:=none }/\
 (kind==CallKind.early)=false/\ops[i]?=some o/\Region.wanted o (yielded ops tmps)=true/\pS o.op=true:=by
 obtain⟨⟨fn,tmps,todo,defers,mode,kind,a⟩,cs,status,dying,offers⟩:=g;unfold bF at h;simp only at h
 split at h
 ·rename_i hc;obtain⟨d,j,l,m⟩:=hc;obtain rfl:=d;obtain rfl:=Option.isNone_iff_eq_none.1 j;obtain rfl:=Option.isNone_iff_eq_none.1 l
  split at h
  ·rename_i ops i rest k
   cases b:ops[i]? with
   |none=>rw[b]at h;cases h
   |some n=>
    rw[b]at h;simp only at h
    split at h
    ·rename_i c;cases h;exact⟨fn,tmps,ops,i,rest,k,defers,kind,a,cs,rfl,m,b,c.1,c.2⟩
    ·cases h
  ·cases h
 ·cases h
def lV(h:bF g=some o):stepG P mn g w=bs P true g.frame g.callers none (ag g.frame.eval o) w:=by
 obtain⟨fn,tmps,ops,i,a,k,defers,kind,b,cs,rfl,q,d,m,j⟩:=gF h;have n:bt P true ⟨fn,tmps,.inRegion ops (i::a)::k,defers,.run,kind,b⟩ cs none w=bs P true ⟨fn,tmps,.inRegion ops (i::a)::k,defers,.run,kind,b⟩ cs none (ag (Frame.eval ⟨fn,tmps,.inRegion ops (i::a)::k,defers,.run,kind,b⟩) o) w:=by
  unfold bt;simp only[Frame.oper?,d]
  cases b with
  |none=>rfl
  |some l=>
   cases p:o.op with
   |defer c=>rw[p]at j;cases j
   |_=>rfl
 rw[<-n];simp[stepG,stepG.exec,d,m]
def dF(h:bF g=some o)(b:(ag g.frame.eval o).run P w=.ok (.value v) w'):stepG P mn g w=.go (fin g v) w' (seen P g.frame.fn ((ag g.frame.eval o).events P w #[])):=by
 rw[lV h];obtain⟨fn,tmps,ops,i,a,k,defers,kind,j,cs,rfl,c,l,m,n⟩:=gF h;have d:kind≠.early:=by simpa using c
 simp[bs,b,d,GStep.after,fin]
def Me(h:bF g=some o)(b:(ag g.frame.eval o).run P w=.ok .skip w'):stepG P mn g w=.go (fin g undef) w' (seen P g.frame.fn ((ag g.frame.eval o).events P w #[])):=by
 rw[lV h];obtain⟨fn,tmps,ops,i,a,k,defers,kind,j,cs,rfl,c,l,m,n⟩:=gF h;have d:kind≠.early:=by simpa using c
 simp[bs,b,d,GStep.after,fin]
def BL(h:bF g=some o)(c:(ag g.frame.eval o).run P w=.halt .blocked w):stepG P mn g w=.go { g with status:=.blocked } w #[]:=by
 rw[lV h];obtain⟨fn,tmps,ops,i,a,k,defers,kind,b,cs,rfl,d,l,m,n⟩:=gF h;have p:kind≠.early:=by simpa using d
 have hf:((ag (Frame.eval ⟨fn,tmps,.inRegion ops (i::a)::k,defers,.run,kind,b⟩) o).runT P w #[]).1=.halt .blocked w:=by rw[Sem.runT_fst,c]
 unfold bs;simp only[if_true];generalize(ag (Frame.eval ⟨fn,tmps,.inRegion ops (i::a)::k,defers,.run,kind,b⟩) o).runT P w #[]=j at hf;obtain⟨r,es⟩:=j;simp only at hf;subst hf;simp[GStep.after,seen]
def BM(o:Oper):Option (ai×Array ao):=match o.op with
 |.call { callee:=.value (.func f),args,.. }=>some (f,args)
 |_=>none
def DD{f:ai}{a:Array ao}{ev:ao->Value}(h:BM o=some (f,a))(hf:ev (.func f)=.func (.func f) #[] #[]):ag ev o=callFunc f (a.map ev):=by
 unfold BM at h
 split at h
 ·rename_i b;cases h;unfold ag;simp[b,resolve,Deferred.ofValue,invoke,hf]
 ·cases h
def az(g:aa):Option (ai×Array Value):=match bF g with
 |some o=>match BM o with
  |some (f,a)=>some (f,a.map g.frame.eval)
  |none=>none
 |none=>none
def kL{f:ai}{args:Array Value}(h:az g=some (f,args)):∃o,bF g=some o/\ag g.frame.eval o=callFunc f args:=by
 unfold az at h
 split at h
 ·rename_i o a
  split at h
  ·rename_i c b hc;cases h;exact⟨o,a,DD hc rfl⟩
  ·cases h
 ·cases h
section
variable {f:ai}{fn:Func}{args:Array Value}{e:Array Value->Sem Value}{Ua:Array Event}
def GN(h:az g=some (f,args))(hf:P.funcs[f]?=some fn)(a:(fn.name == "runtime.NumGoroutine")=false)(hb:fn.body.isNone=true)(b:bu fn=none)(c:bv fn=some e)
 (d:(e args).run P w=.ok v w') (i:(e args).events P w #[⟨.mark (.extern f),false,true⟩]=#[⟨.mark (.extern f),false,true⟩]++Ua) (hs:∀x∈Ua,x.sync=true/\∀g,x.loc≠.mark (.extern g)):stepG P mn g w=.go (fin g v) w' Ua:=by
 obtain⟨o,j,e1⟩:=kL h;rw[dF (v:=v) (w':=w') j (by rw[e1,aq hf a hb b c,d];rfl),e1,a8 hf a hb b c];simp only[bq,br];rw[i,seen_entry _ _ _ hs]
def ry(h:az g=some (f,args))(hf:P.funcs[f]?=some fn)(a:(fn.name == "runtime.NumGoroutine")=false)(hb:fn.body.isNone=true)(b:bu fn=none)(c:bv fn=some e)
 (d:(e args).run P w=.halt .blocked w):stepG P mn g w=.go { g with status:=.blocked } w #[]:=by
 obtain⟨o,i,e1⟩:=kL h;exact BL i (by rw[e1,aq hf a hb b c,d];rfl)
end
end
open Go.ConcM (MuAt muA msA OsLater muBlock)
open Go.ConcR (KK WgAt stA smA rd wr mk)
structure WO(X:Fix):Prop where
 mw:X.Mu≠X.Wg
 mt:X.Mu≠X.Tb
 wt:X.Wg≠X.Tb
structure Clear(X:Fix)(V:Vw)(M:Own):Prop where
 ids:WO X
 st:∀b,V.st b->jm X b
 own:∀b,M b->jm X b
section
variable {X:Fix}{V:Vw}{q:Bool}{Stop:Stp}{M:Own}{d:Nat}{g g':aa}{w w':World}{es:Array Event}{B:Nat}
def eo{a:Addr}{wr:Bool}(c:a.block=X.Mu\/a.block=X.Wg)(h:a.block<B):jG X V M B ⟨.cell a,wr,true⟩:=by
 refine⟨λx b=>?_,by simp,h⟩;have e:(bg ⟨.cell a,wr,true⟩).touch? = some ⟨.cell a,wr,.atomic⟩:=rfl;rw[e]at b;cases b;exact⟨rfl,.inl ⟨⟨a,rfl,c⟩,by split<;>simp⟩⟩
def lX{e:Event}(h:e.mute=true):jG X V M B e:=
 ⟨λx a=>(by rw[aT h]at a;cases a),λb=>by obtain⟨l,x,y⟩:=e;simp only at b;subst b;simp[bd]at h,a5 h _⟩
def uq{m:Mark}(b:(bi m).touch? = none)(c:m≠.release (stA X.Wg))(hl:(bi m).low B):jG X V M B (mk m):=
 ⟨λx a=>(by rw[show(bg (mk m))=.mark m from rfl,b]at a;cases a),λh=>c (by cases h;rfl),hl⟩
def BN(hc:Clear X V M)(a:w'.tape=w.tape)(c:w'.output=w.output)(i:OsLater w.os w'.os)(j:w'.heap.size=w.heap.size)(hb:∀b,b≠X.Mu->b≠X.Wg->w'.heap[b]?=w.heap[b]?)
 (hl:Live X w->Live X w'):Rl X V M w w':=
 ⟨a,c,i,by omega,λb h=>hb b (hc.st b h).1 (hc.st b h).2.1,λb h=>hb b (hc.own b h).1 (hc.own b h).2.1,hl,λo _=>by simp only[World.cell?,hb X.Tb hc.ids.mt.symm hc.ids.wt.symm]⟩
def jI(hc:WO X)(i:w'.tape=w.tape)(k:w'.output=w.output)(l:OsLater w.os w'.os)(s:w'.heap.size=w.heap.size)(hb:∀b,b≠X.Mu->b≠X.Wg->w'.heap[b]?=w.heap[b]?)
 (m:∀e∈es,jG X V M w'.heap.size e)
 (n:q=true->∀j e,es[j]?=some e->(bg e).touch? = none\/((∃ad wr,e=⟨.cell ad,wr,true⟩)/\0<ab d (es.extract 0 j))):Dl X V q M d w w' es M (ab d es):=by
 have a:=hb X.Tb hc.mt.symm hc.wt.symm
 exact⟨i,k,l,by omega,λb _ _ p r _=>hb b p r,λc h=>⟨c,by rw[a];exact h,rfl⟩,λo _=>by simp only[World.cell?,a],λ_=>a,
  λb=>⟨.inl,λh=>h.resolve_right λx=>by omega⟩,m,n,rfl⟩
def ay.idle(hc:Clear X V M)(hs:g.status=.running)
 (h:∀k,Rl X V M w k->∃g' w' es,stepG X.P (V.g==0) g k=.go g' w' es/\w'.tape=k.tape/\w'.output=k.output/\OsLater k.os w'.os/\w'.heap=k.heap/\(∀e∈es,jG X V M k.heap.size e/\(bg e).touch? = none)/\
   g'.status=.running/\ay X V q Stop M (ab d es) g' w):ay X V q Stop M d g w:=
 .step hs λk r=>by
  obtain⟨g',w',es,t,m,n,p,i,s,u,x⟩:=h k r;refine⟨g',w',es,M,_,t,jI hc.ids m n p (by rw[i]) (λb _ _=>by rw[i]) (λe l=>by rw[i];exact(s e l).1) (λ_ j e l=>.inl (s e (bl l)).2),⟨by rw[i],by rw[i]⟩,u,?_⟩;refine x.rely (r.trans (BN hc m n p (by rw[i]) (λb _ _=>by rw[i]) ?_));rintro⟨⟨a,b,k1⟩,⟨y,b',k2⟩,c,k3,z⟩;exact⟨⟨a,b,by unfold MuAt at k1 ⊢;rw[i];exact k1⟩,⟨y,b',by unfold WgAt at k2 ⊢;rw[i];exact k2⟩,c,by rw[i];exact k3,z⟩
end
structure cw(P:ac)(f:ai)(nr:Bool)(e:Array Value->Sem Value):Prop where
 ex:∃fn,P.funcs[f]?=some fn/\(fn.name == "runtime.NumGoroutine")=false/\fn.body.isNone=true/\bu fn=none/\bv fn=some e/\fn.norace=nr
section
variable {P:ac}{mn:Bool}{g:aa}{w w':World}{f:ai}{args:Array Value}{nr:Bool}{e:Array Value->Sem Value}{v:Value}{Ua:Array Event}
def cw.step(hb:cw P f nr e)(h:az g=some (f,args))(a:(e args).run P w=.ok v w')(b:(e args).events P w #[⟨.mark (.extern f),false,true⟩]=#[⟨.mark (.extern f),false,true⟩]++Ua)(hs:∀x∈Ua,x.sync=true/\∀g,x.loc≠.mark (.extern g)) :
 stepG P mn g w=.go (fin g v) w' Ua:=by
 obtain⟨fn,c,i,j,k,l,_⟩:=hb.ex;exact GN h c i j k l a b hs
def cw.blocked(hb:cw P f nr e)(h:az g=some (f,args))(a:(e args).run P w=.halt .blocked w):stepG P mn g w=.go { g with status:=.blocked } w #[]:=by
 obtain⟨fn,b,c,i,j,k,_⟩:=hb.ex;exact ry h b c i j k a
def cw.out(hb:cw P f true e)(h:az g=some (f,args))(i:(e args).run P w=.ok v w')(j:(e args).events P w #[⟨.mark (.extern f),false,true⟩]=#[⟨.mark (.extern f),false,true⟩] ++ #[⟨.output,true,false⟩]) :
 stepG P mn g w=.go (fin g v) w' #[]:=by
 obtain⟨fn,hf,a,hb,b,c,k⟩:=hb.ex;obtain⟨o,l,e1⟩:=kL h;rw[dF (v:=v) (w':=w') l (by rw[e1,aq hf a hb b c,i];rfl),e1,a8 hf a hb b c];simp only[bq,br];rw[j,seen_entry_out _ _ (by rw[hf];exact k)]
def aK{o:Oper}(h:bF g=some o):g.status=.running/\g.offers=none/\∀v,(fin g v).status=.running:=by
 obtain⟨fn,tmps,ops,i,a,k,defers,kind,b,cs,rfl,c,j,l,m⟩:=gF h;exact⟨rfl,rfl,λ_=>rfl⟩
def aj(h:az g=some (f,args)):g.status=.running/\g.offers=none/\∀v,(fin g v).status=.running:=by
 obtain⟨o,a,_⟩:=kL h;exact aK a
end
section
variable {X:Fix}{V:Vw}{q:Bool}{Stop:Stp}{M:Own}{d:Nat}{g:aa}{w:World}{f:ai}{nr:Bool}{args:Array Value}{o:Oper}
def ay.Jo(hc:Clear X V M)(b:az g=some (f,args)){m:Mark}(hb:cw X.P f nr (λ_=>do mark m;pure bw))(a:(⟨.mark m,false,true⟩:Event).mute=true)
 (j:ay X V q Stop M (ab d #[⟨.mark m,false,true⟩]) (fin g (.tuple #[])) w):ay X V q Stop M d g w:=
 .idle hc (aj b).1 λk _=>⟨_,k,#[⟨.mark m,false,true⟩],hb.step b (by simp[bw]) (by simp) (by
  intro x c;simp at c;subst c
  exact⟨rfl,λg h=>by cases h;simp[bd]at a⟩),rfl,rfl,.refl _,rfl,(by
  intro e i;simp at i;subst i
  exact⟨lX a,aT a⟩),(aj b).2.2 _,j⟩
def kM{P:ac}{mn:Bool}(i:az g=some (f,args)){mk':Addr->Mark}(hb:cw P f nr (bx mk'))(c:∀a g,mk' a≠.extern g){ad:Addr}(b:args[0]?=some (.pointer (some ad))) :
 stepG P mn g w=.go (fin g (.tuple #[])) w #[mk (mk' ad)]:=
 hb.step i (by simp[bx,bA,b,bw]) (by simp[bx,bA,b,mk]) (by
  intro x b;simp[mk]at b;subst b
  exact⟨rfl,λg h=>c ad g (Loc.mark.inj h)⟩)
def ay.Pe(hc:Clear X V M)(c:az g=some (f,args)){mk':Addr->Mark}(hb:cw X.P f nr (bx mk'))(h:∀a g,mk' a≠.extern g){ad:Addr}(j:args[0]?=some (.pointer (some ad)))
 (k:∀b,Rl X V M w b->jG X V M b.heap.size (mk (mk' ad))/\(bg (mk (mk' ad))).touch? = none) (hd:∀d,ab d #[mk (mk' ad)]=d)
 (l:ay X V q Stop M d (fin g (.tuple #[])) w):ay X V q Stop M d g w:=
 .idle hc (aj c).1 λb r=>⟨_,b,#[mk (mk' ad)],kM c hb h j,rfl,rfl,.refl _,rfl,(by
  intro e i;simp at i;subst i
  exact k b r),(aj c).2.2 _,by rw[hd];exact l⟩
def ay.nano(hc:Clear X V M)(b:az g=some (f,args))(hb:cw X.P f true Extern.OsHooks.nano)(c:∀n:Nat,ay X V q Stop M d (fin g (.int .i64 (n:Int))) w):ay X V q Stop M d g w:=
 .idle hc (aj b).1 λa _=>⟨_,a.later,#[],hb.out (v:=.int .i64 ((a.os.mono+a.tick:Nat):Int)) b rfl rfl,rfl,rfl,⟨a.tick,rfl⟩,rfl,by simp,(aj b).2.2 _,c _⟩
def ay.canSpin(hc:Clear X V M){k:ar}{n:Int}(a:az g=some (f,#[.int k n]))(hb:cw X.P f nr bC)(i:∀b:Bool,(b=true->n<4)->ay X V q Stop M d (fin g (.bool b)) w):ay X V q Stop M d g w:=
 .idle hc (aj a).1 λh _=>by
  by_cases c:n>=4
  ·exact⟨_,h,#[],hb.step (v:=.bool false) a (by rw[a9,if_pos c];rfl) (by rw[a9,if_pos c];rfl) (by simp),rfl,rfl,.refl _,rfl,by simp,(aj a).2.2 _,i _ (by simp)⟩
  ·exact⟨_,h.asked,#[],hb.step (v:=.bool h.spins) a (by rw[a9,if_neg c];rfl) (by rw[a9,if_neg c];rfl) (by simp),rfl,rfl,.refl _,rfl,by simp,(aj a).2.2 _,i _ (λ_=>by omega)⟩
def ay.nothing(hc:Clear X V M)(a:az g=some (f,args))(hb:cw X.P f nr bL)(b:ay X V q Stop M d (fin g (.tuple #[])) w):ay X V q Stop M d g w:=
 .idle hc (aj a).1 λc _=>⟨_,c,#[],hb.step (v:=.tuple #[]) a (by simp[bL,bM]) (by simp[bL]) (by simp),rfl,rfl,.refl _,rfl,by simp,(aj a).2.2 _,b⟩
def ay.conv(hc:Clear X V M)(c:bF g=some o){src dst t:aB}{x:ao}(j:o.op=.convert src dst x){a:Addr}(k:g.frame.eval x=.pointer (some a))
 (hs:X.P.underlying src=some (.pointer t)) (hd:X.P.underlying dst=some .unsafePointer) (h:(X.P.info? t).map (λi=>decide (i.size=0))=some false)
 (hl:∀b,Rl X V M w b->∃v,b.cell? a=some v) (l:ay X V q Stop M d (fin g (.pointer (some a))) w):ay X V q Stop M d g w:=
 .idle hc (aK c).1 λb r=>by
  obtain⟨v,hv⟩:=hl b r;have e1:ag g.frame.eval o=(do let y<-convert src dst (.pointer (some a));pure (.value y)):=by
   unfold ag;simp only[j,k]
   try rfl
  have m:=run_convert_to_unsafe hs hd h hv;have n:=events_convert_to_unsafe hs hd h hv #[];refine⟨_,b,#[],?_,rfl,rfl,.refl _,rfl,by simp,(aK c).2.2 _,l⟩;rw[dF (v:=.pointer (some a)) (w':=b) c (by rw[e1];simp[m]),e1];simp[n,seen_none]
def xG{P:ac}{mn:Bool}(h:bF g=some o){t:aB}{x:ao}(a:o.op=.load t x){ad:Addr}(b:g.frame.eval x=.pointer (some ad)){k:ar}{v:Int}(c:P.underlying t=some (.int k))(hc:w.cell? ad=some (.int k v))(i:(P.funcs[g.frame.fn]?).any (·.norace)=true) :
 stepG P mn g w=.go (fin g (.int k v)) w #[]:=by
 have j:(ag g.frame.eval o).run P w=.ok (.value (.int k v)) w:=by
  unfold ag;simp only[a,b];simp[go_sem,hc,isAgg,aF c]
 have l:(ag g.frame.eval o).events P w #[]=#[⟨.cell ad,false,false⟩]:=by
  unfold ag;simp only[a,b];simp[go_sem,hc,isAgg,aF c]
 rw[dF h j,l,seen_def,i];simp[seenStep]
def ay.ad2(hc:Clear X V M)(b:bF g=some o){t:aB}{x:ao}(c:o.op=.load t x){ad:Addr}(h:g.frame.eval x=.pointer (some ad)){k:ar}(i:X.P.underlying t=some (.int k))(j:(X.P.funcs[g.frame.fn]?).any (·.norace)=true)
 (hl:∀a,Rl X V M w a->∃v,a.cell? ad=some (.int k v)) (l:∀v,ay X V q Stop M d (fin g (.int k v)) w):ay X V q Stop M d g w:=
 .idle hc (aK b).1 λa r=>by
  obtain⟨v,hv⟩:=hl a r;exact⟨_,a,#[],xG b c h i hv j,rfl,rfl,.refl _,rfl,by simp,(aK b).2.2 _,l v⟩
end
end Go.Ph
namespace Go.Proofs
open Go.Ph Go.Conc
open Go.cD (Wd Th qZ)
set_option maxRecDepth 100000
noncomputable abbrev PP:=Tryz.prog
def bare:List Nat:=[160,161,162,163,164,165,168,171,172,175,176,178,179,182,183,184,185,186,188,190,192,193,194,195,196,197,198]
def eJ(g:aa):Bool:=match g.frame.mode with
 |.returning=>(g.frame.fn==139||g.frame.fn==140)&&g.frame.defers.isEmpty
 |.run=>match g.frame.todo with
  |.code (.region 5 _ _)::_=>g.frame.fn==187
  |.inRegion _ (_::_)::_=>match bF g with
   |some o=>match o.op with
    |.load .. | .store ..=>true
    |.convert _ d _=>d==216
    |.call { callee:=.value (.func f),.. }=>bare.contains f
    |_=>false
   |none=>false
  |_=>false
 |_=>false
noncomputable abbrev TT(g:aa):aa:=wu PP false eJ 300 g
def fj(g:aa):Option (aB×Value):=match bF g with
 |some o=>match o.op with
  |.load t x=>some (t,g.frame.eval x)
  |_=>none
 |none=>none
def gu(g:aa):Option (aB×aB×Value):=match bF g with
 |some o=>match o.op with
  |.convert s d x=>some (s,d,g.frame.eval x)
  |_=>none
 |none=>none
def gZ(g:aa):Option (ai×Option Value):=(az g).map λx=>(x.1,x.2[0]?)
structure gm(g g':aa):Prop where
 q:ff PP false eJ 300 g
 d:∀d,xD PP false eJ 300 d g=d
 e:TT g=g'
structure YQ(g g':aa):Prop where
 q:uo PP false 1 g
 d:∀d,YL PP false 1 d g=d
 h:gm (nx PP false g) g'
section
variable {X:Fix}{V:Vw}{q:Bool}{Stop:Stp}{M:Own}{d:Nat}{g g':aa}{w:World}
def gm.run(h:gm g g')(a:X.P=PP)(hg:(V.g==0)=false)(b:ay X V q Stop M d g' w):ay X V q Stop M d g w:=by
 refine .oO (S:=eJ) hg 300 (by rw[a];exact h.q) ?_;have e:wu PP false eJ 300 g=g':=h.e;rw[a,h.d,e];exact b
def YQ.run(h:YQ g g')(a:X.P=PP)(hg:(V.g==0)=false)(b:ay X V q Stop M d g' w):ay X V q Stop M d g w:=by
 refine .quiet hg 1 (by rw[a];exact h.q) ?_;rw[a,h.d];exact h.h.run a hg b
end
def zj(n:Nat)(F:Nat->Value):Array Value:=((List.range n).map F).toArray
def Jr{n:Nat}{a:Array Value}{F:Nat->Value}(hs:a.size=n)(h:∀i,i<n->F i=a[i]!):a=zj n F:=by
 apply Array.ext
 ·simp[zj,hs]
 ·intro i b c;simp only[zj,List.getElem_toArray,List.getElem_map,List.getElem_range];rw[h i (by omega)];simp[b]
noncomputable abbrev pt(m:Nat):Value:=.pointer (some ⟨m,0,none⟩)
def F7(m:Nat)(f:Nat->Value)(st:Value)(sv aw:Bool)(it old:Value):Nat->Value
 |0=>.pointer (some ⟨m,0,none⟩)
 |2=>st
 |3=>.bool sv
 |4=>.bool aw
 |5=>it
 |6=>old
 |i=>f i
noncomputable def A7(m:Nat)(f:Nat->Value)(st:Value)(sv aw:Bool)(it old:Value):Array Value:=zj 139 (F7 m f st sv aw it old)
noncomputable def S7(a:Array Value)(td:List Item)(up:List Frame):aa:=G { fn:=187,tmps:=a,todo:=td,defers:=[],mode:=.run,kind:=.normal,roundOf:=none } up
section
variable {g:aa}{m:Nat}{st it old:Value}{sv aw:Bool}{td:List Item}{up:List Frame}
def WS{a:Array Value}(hs:a.size=139)(b:a[0]! = .pointer (some ⟨m,0,none⟩))(c:a[2]! = st)(f:a[3]! = .bool sv)(h:a[4]! = .bool aw)(j:a[5]! = it)(k:a[6]! = old):a=A7 m (λi=>a[i]!) st sv aw it old:=
 Jr hs λi _=>by
  unfold F7
  split<;>first|(rename_i e;subst e;simp only[b,c,f,h,j,k])|simp only[b,c,f,h,j,k]
def gK{a:Type}{b:aa->a}{v:a}(f:ff PP false eJ 300 g:=by exact⟨λ_=>by kernel_rfl,by kernel_rfl⟩)(hd:∀d,xD PP false eJ 300 d g=d:=by intro _;kernel_rfl)(h:TT g=S7 (TT g).frame.tmps td up:=by kernel_rfl)(hs:(TT g).frame.tmps.size=139:=by kernel_rfl)
 (j:(TT g).frame.tmps[0]! = .pointer (some ⟨m,0,none⟩):=by kernel_rfl) (k:(TT g).frame.tmps[2]! = st:=by kernel_rfl) (l:(TT g).frame.tmps[3]! = .bool sv:=by kernel_rfl) (n:(TT g).frame.tmps[4]! = .bool aw:=by kernel_rfl) (o:(TT g).frame.tmps[5]! = it:=by kernel_rfl) (p:(TT g).frame.tmps[6]! = old:=by kernel_rfl)
 (r:b (TT g)=v:=by kernel_rfl):∃f',gm g (S7 (A7 m f' st sv aw it old) td up)/\b (S7 (A7 m f' st sv aw it old) td up)=v:=by
 have e:=WS hs j k l n o p;have c:TT g=S7 (A7 m (λi=>(TT g).frame.tmps[i]!) st sv aw it old) td up:=by rw[<-e];exact h
 exact⟨_,⟨f,hd,c⟩,by rw[<-c];exact r⟩
end
def px(j:Nat)(v:Value)(f:Nat->Value):Nat->Value:=λi=>if i=j then v else f i
def Pp{g:aa}{m:Nat}{st it old:Value}{sv aw:Bool}{td:List Item}{up:List Frame}{a:Type}{b:aa->a}{v:a}{j:Nat}{x:Value}(f:ff PP false eJ 300 g:=by exact⟨λ_=>by kernel_rfl,by kernel_rfl⟩)(hd:∀d,xD PP false eJ 300 d g=d:=by intro _;kernel_rfl)(h:TT g=S7 (TT g).frame.tmps td up:=by kernel_rfl)(hs:(TT g).frame.tmps.size=139:=by kernel_rfl)
 (k:(TT g).frame.tmps[0]! = .pointer (some ⟨m,0,none⟩):=by kernel_rfl) (l:(TT g).frame.tmps[2]! = st:=by kernel_rfl) (n:(TT g).frame.tmps[3]! = .bool sv:=by kernel_rfl) (o:(TT g).frame.tmps[4]! = .bool aw:=by kernel_rfl) (p:(TT g).frame.tmps[5]! = it:=by kernel_rfl) (r:(TT g).frame.tmps[6]! = old:=by kernel_rfl)
 (s:b (TT g)=v:=by kernel_rfl) (t:(TT g).frame.tmps[j]! = x:=by kernel_rfl):∃f',gm g (S7 (A7 m (px j x f') st sv aw it old) td up)/\b (S7 (A7 m (px j x f') st sv aw it old) td up)=v:=by
 have e:=WS hs k l n o p r;have u:(λi=>(TT g).frame.tmps[i]!)=px j x (λi=>(TT g).frame.tmps[i]!):=by
  funext i;unfold px
  split
  ·rename_i e;subst e;exact t
  ·rfl
 rw[u]at e;have c:TT g=S7 (A7 m (px j x (λi=>(TT g).frame.tmps[i]!)) st sv aw it old) td up:=by rw[<-e];exact h
 exact⟨_,⟨f,hd,c⟩,by rw[<-c];exact s⟩
noncomputable def z0:aa:=TT (G (Frame.enter PP 139 #[pt 0] .normal) [default])
noncomputable def z1:aa:=TT (fin z0 (.tuple #[]))
noncomputable def zr0:aa:=TT (fin z1 (.bool false))
noncomputable def CE:aa:=TT (fin zr0 (.int .i32 9))
noncomputable def Ud:aa:=TT (nx PP false CE)
noncomputable def zc1:aa:=TT (fin Ud (.bool true))
noncomputable def FC:aa:=TT (fin zc1 (.bool false))
noncomputable def zr1:aa:=TT (fin FC (.tuple #[]))
noncomputable def xI:aa:=TT (fin Ud (.bool false))
noncomputable def zr3:aa:=TT (fin xI (.bool false))
noncomputable def Te:aa:=TT (fin xI (.bool true))
noncomputable def FD:aa:=TT (fin Te (.int .i64 5))
noncomputable def zn2:aa:=TT (fin FD (.tuple #[]))
noncomputable def WT:aa:=TT (fin zn2 (.int .i64 5))
noncomputable def za1:aa:=TT (fin WT (.int .i32 12))
noncomputable def WU:aa:=TT (fin za1 (.int .i32 5))
noncomputable def zcv:aa:=TT (fin WU (.tuple #[]))
noncomputable def zaq:aa:=TT (fin zcv (pt 0))
end Go.Proofs
