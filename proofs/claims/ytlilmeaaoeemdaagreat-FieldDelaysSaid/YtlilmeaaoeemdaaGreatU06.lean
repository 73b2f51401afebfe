/- Part of the proof of FieldDelays. -/
import Derived.Test.YtlilmeaaoeemdaaGreatU05
import Derived.Conc.AtomicLaws2
import Derived.Conc.ClockLaws
import Derived.Conc.FxBegin
import Derived.Conc.MarkLaws
import Derived.Conc.MuStops
import Derived.Conc.SmallLaws
import Derived.KernelRfl
import Derived.Test.YtlilmeaaoeemdaaGreatProg
set_option linter.all false
open Go renaming Goroutine->aa,deafBehind->ab,Program->ac,GoStatus->ae,execOp->ag,FuncId->ai,Operand->ao,run_callFunc_extern->ar,TypeId->aB,run_underlying->aH
open Go.ConcR renaming mk->aI
open Go.ConcN renaming sumTo_upd->aJ,upd_ne->aL,upd_same->aP,le_sumTo->aS,sumTo_le->aT,sumTo_congr->a5
open Go.MemAct renaming ofEvent->a6,mark->a7
open Nat renaming le_refl->a8,zero_le->a9,lt_or_ge->ba
open Go.Ph renaming nobody->bb
open Go.MemOp renaming ofEvents->bc
open List renaming mem_toArray->bd,mem_cons->bg,not_mem_nil->bi,all_eq_true->bj,push_toArray->bm,nil_append->bo
open Array renaming getElem?_push_lt->bp,getElem?_eq_getElem->bq,getElem?_setIfInBounds_ne->br,size_push->bs,size_setIfInBounds->bt,mem_of_getElem?->bv
open Option.some renaming inj->bw
open Go.Conc renaming mem_ofEvents->bx,touch_mute->bA,low_mute->bC,awake_of->bL,runT_crowd_go->bM,events_callFunc_extern->bR,canSpin_eq->bT
open Go.Event renaming mute->bX
open List.cons renaming injEq->b1
open Prod.mk renaming injEq->b2
open Go.stepG renaming apply->b3,oper->b4
open Go.Frame renaming eval->b5,enter->b6
open Go.Extern renaming findNext->b8,find->b9
open Go.Extern.Race renaming none_->ca,marked->cb,at_->cc
open Go.Extern.Sync renaming canSpin->cd,nothing->ce,none_->cf,semacquire->cg,semrelease->ch
open Go.Goroutine renaming status->ci
namespace Go.Ph
open Go.Conc Go.ConcN
open Go.ConcM (MuAt muA msA OsLater muBlock)
open Go.ConcR (KK WgAt stA smA rd wr)
open Go.cD (Wd Th Mv Head eR spin mU ja)
section
variable {Y:CB}{G G':Gh}{gs:Array aa}{w w':World}{t:Trace}{a b d d':Nat}{g g':aa}{es:Array Event}{M':Own}{q:Bool}
def lU:fv .mu=1:=rfl
def nH:fv .d1=1:=rfl
def oE:fv .d2=0:=rfl
def oF:fv .d3=0:=rfl
def oG:fv .d4=0:=rfl
def gV:fv .quit=0:=rfl
def oH:fd .mu=0:=rfl
def oI:fd .d1=0:=rfl
def nI:fd .d2=1:=rfl
def nJ:fd .d3=1:=rfl
def oJ:fd .d4=0:=rfl
def gW:fd .quit=0:=rfl
def oK:f4 .mu=0:=rfl
def oL:f4 .d1=0:=rfl
def oM:f4 .d2=0:=rfl
def oN:f4 .d3=0:=rfl
def nK:f4 .d4=1:=rfl
def gX:f4 .quit=0:=rfl
def acU(n j v v':Nat)(p:MP):wM n j v' p<=wM n j v p+3:=by
 cases p<;>simp only[wM]<;>(repeat' split)<;>omega
def MI.GH(m:MI Y G gs w t)(hF:nG Y){k:Nat}(D:k<G.j)(hg:gs[gid Y (k+1)]?=some g){p':WP}{s':Sh}(S:G.wp k≠.quit)(J:(G.th k).pc=.out)(y:p'≠.mu)
 (hs:stepG Y.P (gid Y (k+1)==0) g w=.go g' w' es) (K:ShAt Y.toFix w' s') (o:s'.mw=G.s.mw) (E:s'.ms=G.s.ms)
 (L:Dl Y.toFix (G.V (k+1)) (G.q? (k+1)) (G.M (k+1)) (Deaf t (gid Y (k+1))) w w' es M' d') (F:g'.status=.running)
 (N:(p'≠.quit/\ay Y.toFix (G.V (k+1)) true (NH Y (G.V (k+1)) k (G.fu (k+1)) (G.th k) p') M' d' g' w')\/(p'=.quit/\∃n,QuitsD Y.P n d' g'))
 (hrel:G.wp k≠.mu\/(es=#[aI (.releaseMerge (stA Y.Wg))]/\Deaf t (Y.c+k)=0/\Y.Fin k w'))
 (z:G.s.ws=0->s'.ws=0\/mayWake Y.P g=true)
 (A:∀q:Nat->Nat,∀M tr,WI Y { G with wp:=upd G.wp k p',M:=M,tr:=tr,q:=q,s:=s' }) (B:wW p'+3<wW (G.wp k)\/(wW p'<wW (G.wp k)/\s'.v=G.s.v)):Made Y G gs w t (k+1) g:=by
 obtain⟨f,n,O⟩:∃(f:Tree)(n:Nat),(p'≠.quit/\jA Y.toFix (G.V (k+1)) true (NH Y (G.V (k+1)) k (G.fu (k+1)) (G.th k) p') f M' d' g' w')\/(p'=.quit/\QuitsD Y.P n d' g'):=by
  rcases N with⟨h,f,l⟩|⟨h,n,l⟩
  ·exact⟨f,0,.inl ⟨h,l⟩⟩
  ·exact⟨.leaf,n,.inr ⟨h,l⟩⟩
 have Q:∀q M tr,phi Y { G with wp:=upd G.wp k p',M:=M,tr:=tr,q:=q,s:=s' }=phi Y G:=by
  intro q M tr;have:oD { G with wp:=upd G.wp k p',M:=M,tr:=tr,q:=q,s:=s' }=oD G:=by simp[oD,o,E]
  unfold phi;rw[this]
 have H:∀q M tr,vK Y { G with wp:=upd G.wp k p',M:=M,tr:=tr,q:=q,s:=s' }<vK Y G:=by
  intro q M tr;have e:=aJ (j:=G.j) G.wp p' wW D;unfold vK;simp only
  rcases B with B|⟨B,hv⟩
  ·have:=acU Y.n G.j G.s.v s'.v G.mp;omega
  ·rw[hv];omega
 have key:=MI.own (G':={ G with wp:=upd G.wp k p',M:=upd G.M (k+1) M',tr:=upd G.tr (k+1) f,q:=upd G.q (Y.c+k) n,s:=s' }) (g':=g') m hF (show k+1<=G.j from D) hg L rfl rfl rfl (λi hi=>aL _ _ (by rwa[bQ]at hi))
  (λb hb C=>by
    cases b with
    |zero=>exact⟨aL G.tr f C,rfl,rfl,Iff.rfl⟩
    |succ b=>
     have p:b≠k:=by omega
     exact⟨aL _ _ C,by simp only[Gh.um,aL _ _ p],by simp only[Gh.q?,aL _ _ p],by simp only[Gh.gone,aL _ _ p]⟩)
  (λb hb C I=>by
    cases b with
    |zero=>
     obtain⟨x1,x2⟩:=I;exact(z x2).imp (λx=>⟨x1,x⟩) λx=>⟨x,F⟩
    |succ b=>
     have p:b≠k:=by omega
     obtain⟨x1,x2,x3⟩:=I
     exact .inl ⟨by simp only[aL _ _ p];exact x1,x2,by simp only;omega⟩)
  (λk' u r=>by
    by_cases e:k'=k
    ·subst e;exact hrel.imp id λx=>⟨rfl,x⟩
    ·simp only[aL _ _ e]at r;exact .inl r)
  (λR=>.inl R)
  (by
    rcases O with⟨h,l⟩|⟨h,l⟩
    ·refine .run (by simp only[Gh.gone,aP];exact h) F ?_;simp only[Gh.um,Gh.q?,aP];rw[decide_eq_true y];exact l
    ·refine .gone (by simp only[Gh.gone,aP];exact h) ?_;simp only[bQ,aP]
     exact l)
  K (by simp only[oD,o,E];exact m.mun) (λ_ _=>rfl)
  (λk' u r=>by
    by_cases e:k'=k
    ·subst e;exact J
    ·simp only[aL _ _ e]at r;exact m.out k' u r)
  (A _ _ _) (λk' u=>by rw[Q];exact m.fuel k' u) (by have:=H (upd G.q (Y.c+k) n) (upd G.M (k+1) M') (upd G.tr (k+1) f);have:=m.fuel0;simp only at *;omega)
 exact⟨g',w',es,_,hs,key,.inl (H _ _ _)⟩
def WI.GJ(_:WI Y G){k:Nat}(e:k<G.j)(p':WP):sumTo G.j (λi=>fv (upd G.wp k p' i))+fv (G.wp k)=sumTo G.j (λi=>fv (G.wp i))+fv p'/\
 sumTo G.j (λi=>fd (upd G.wp k p' i))+fd (G.wp k)=sumTo G.j (λi=>fd (G.wp i))+fd p'/\sumTo G.j (λi=>f4 (upd G.wp k p' i))+f4 (G.wp k)=sumTo G.j (λi=>f4 (G.wp i))+f4 p'/\
 fv (G.wp k)<=sumTo G.j (λi=>fv (G.wp i))/\fd (G.wp k)<=sumTo G.j (λi=>fd (G.wp i))/\f4 (G.wp k)<=sumTo G.j (λi=>f4 (G.wp i))/\sumTo G.j (λi=>fv (G.wp i))<=G.j:=by
 refine⟨aJ G.wp p' fv e,aJ G.wp p' fd e,aJ G.wp p' f4 e,aS (f:=λi=>fv (G.wp i)) e,aS (f:=λi=>fd (G.wp i)) e,aS (f:=λi=>f4 (G.wp i)) e,?_⟩;have:=aT (f:=λi=>fv (G.wp i)) (c:=1) (j:=G.j) λi _=>by cases G.wp i<;>simp[fv]
 omega
def WI.Jl(h:WI Y G){k:Nat}(c:k<G.j)(f:G.wp k≠.quit):G.mp≠.w4/\G.mp≠.aq/\G.mp≠.an:=
 ⟨λe=>f ((h.done (.inl e)).2.2.2 k c),λe=>f ((h.done (.inr (.inl e))).2.2.2 k c),λe=>f ((h.done (.inr (.inr e))).2.2.2 k c)⟩
def WI.cases(h:WI Y G){k:Nat}(c:k<G.j)(f:G.wp k≠.quit):(G.mp=.add\/G.mp=.go\/G.mp=.w1\/∃v,G.mp=.w2 v)\/G.mp=.w3:=by
 obtain⟨i,l,m⟩:=h.Jl c f
 cases e:G.mp with
 |add=>exact .inl (.inl rfl)
 |go=>exact .inl (.inr (.inl rfl))
 |w1=>exact .inl (.inr (.inr (.inl rfl)))
 |w2 v=>exact .inl (.inr (.inr (.inr ⟨v,rfl⟩)))
 |w3=>exact .inr rfl
 |w4=>exact absurd e i
 |aq=>exact absurd e l
 |an=>exact absurd e m
def WI.GH(h:WI Y G){k:Nat}(c:k<G.j)(f:G.wp k≠.quit){p':WP}{s':Sh}{q:Nat->Nat}{M:Nat->Own}{tr:Nat->Tree}
 (hv:s'.v+fv (G.wp k)=G.s.v+fv p')
 (l:(G.mp=.add\/G.mp=.go\/G.mp=.w1\/∃v,G.mp=.w2 v)->s'.wt=0/\s'.ws=0/\sumTo G.j (λi=>fd (upd G.wp k p' i))=0/\sumTo G.j (λi=>f4 (upd G.wp k p' i))=0)
 (m:G.mp=.w3->(s'.wt=1/\s'.ws=0/\sumTo G.j (λi=>f4 (upd G.wp k p' i))=0/\(if s'.v=0 then 1 else 0)=sumTo G.j (λi=>fd (upd G.wp k p' i)))\/
   (s'.wt=0/\s'.v=0/\sumTo G.j (λi=>fd (upd G.wp k p' i))=0/\sumTo G.j (λi=>f4 (upd G.wp k p' i))+s'.ws=1)):WI Y { G with wp:=upd G.wp k p',M:=M,tr:=tr,q:=q,s:=s' }:=by
 obtain⟨n,o,p,r,u,x,y⟩:=h.GJ c p';obtain⟨d1,d2,d3⟩:=h.Jl c f;have:=h.v;refine⟨?_,h.early,h.late,h.le,l,m,λe=>?_,h.nz⟩
 ·show s'.v=sumTo G.j (λi=>fv (upd G.wp k p' i))+(if G.mp=.go then 1 else 0)
  omega
 ·rcases e with e|e|e
  ·exact absurd e d1
  ·exact absurd e d2
  ·exact absurd e d3
def MI.Jm(m:MI Y G gs w t)(hF:nG Y){k:Nat}(o:k<G.j)(hg:gs[gid Y (k+1)]?=some g)(u:G.wp k≠.quit)(dO:g.status=.running)(hT:jA Y.toFix (G.V (k+1)) (G.q? (k+1)) (G.um Y (k+1)) (G.tr (k+1)) (G.M (k+1)) (Deaf t (gid Y (k+1))) g w)
 (p:G.um Y (k+1) (G.M (k+1)) (Deaf t (gid Y (k+1))) g w):Made Y G gs w t (k+1) g:=by
 have P:k+1<=G.j:=o;have W:=m.wi;simp only[Gh.um]at p
 cases f:G.wp k with
 |mu=>
  rw[f]at p;by_cases S:(G.th k).pc=.out
  ·
   simp only[NH,eU]at p;rw[if_pos S]at p;obtain⟨R,A,Q,g',hs,y,Mb⟩:=p;rw[fT m P]at hs;rw[bQ]at A;have X:G.q? (k+1)=false:=by simp[Gh.q?,f]
   have kG:(a6 (aI (.releaseMerge (stA Y.Wg)))).touch? = none:=rfl;obtain⟨i1,i2,i3,i4,i5,i6,i7,i8,i9⟩:=m.oi.ids;refine m.GH hF o hg (p':=.d1) (s':=G.s) u S (by simp) hs m.sh rfl rfl (M':=G.M (k+1)) (d':=0) ?_ y (.inl ⟨by simp,Mb⟩) (.inr ⟨rfl,A,Q⟩) (λh=>.inl h)
    (λq M tr=>?_) (.inr ⟨by simp[f,wW],rfl⟩)
   ·rw[bQ,A,X];refine⟨rfl,rfl,.refl _,a8 _,λ_ _ _ _ _ _=>rfl,λc h=>⟨c,h,rfl⟩,λ_ _=>rfl,λ_=>rfl,λb=>⟨.inl,λh=>h.resolve_right λx=>by omega⟩,λe he=>?_,(by simp),rfl⟩;simp at he;subst he;exact⟨λx hx=>(by rw[kG]at hx;cases hx),by simp[aI],(show Y.Wg<_ from i8)⟩
   ·obtain⟨B,C,D,H,I,J,U⟩:=W.GJ o .d1;simp only[f,lU,nH,oE,oF,oG,gV,oH,oI,nI,nJ,oJ,gW,oK,oL,oM,oN,nK,gX]at B C D;refine W.GH o u (by simp only[f,lU,nH,oE,oF,oG,gV,oH,oI,nI,nJ,oJ,gW,oK,oL,oM,oN,nK,gX]) (λe=>?_) (λe=>?_)
    ·obtain⟨c1,l,c3,r⟩:=W.calm e;exact⟨c1,l,by omega,by omega⟩
    ·rcases W.w3 e with⟨c1,l,c3,r⟩|⟨c1,l,c3,r⟩
     ·exact .inl ⟨c1,l,by omega,by omega⟩
     ·exact .inr ⟨c1,l,by omega,by omega⟩
  ·by_cases hb:(G.th k).pc=.s1/\G.s.ms=0
   ·have ai8:=p;simp only[NH,eU]at p;rw[if_neg S]at p;obtain⟨T',hA,p⟩:=p;have hfu:=m.fuel k o;obtain⟨f0,Z⟩:∃f0,G.fu (k+1)=f0+1:=⟨G.fu (k+1)-1,by omega⟩
    rw[Z]at p;obtain⟨R,A,Q,E⟩:=p;have Mc:T'=G.th k:=by
     generalize hth:G.th k=T at hA hb
     cases hA with
     |refl=>rfl
     |head T0 _ hH _=>simp[eR]at hb
     |r2 _ b tL _=>rw[hb.1]at tL;cases tL
    subst Mc;have By:k<Y.n:=Nat.lt_of_lt_of_le o m.wi.le;obtain⟨h5,_⟩:=E G.s m.sh (m.mun.safe By) m.mun.small m.mun.LY;have hs:=h5 hb;rw[fT m P]at hs;exact m.block hF P hg (by simp only[Gh.gone];exact u) dO A ⟨f,hb⟩ hT hs
   ·exact m.mutex hF o hg f S p hb
 |d1=>
  rw[f]at p;simp only[NH,AtD1,nR]at p;obtain⟨R,A,Q,E⟩:=p;obtain⟨B,C,D,H,I,J,U⟩:=W.GJ o .quit;obtain⟨o1,o2,o3,_⟩:=W.GJ o .d2;simp only[f,lU,nH,oE,oF,oG,gV,oH,oI,nI,nJ,oJ,gW,oK,oL,oM,oN,nK,gX]at B C D H I J o1 o2 o3;have hv:=W.v;have hle:=W.le;have zg:G.s.wt<=1/\G.s.ws=0/\(G.s.wt=1->G.mp=.w3):=by
   rcases W.cases o u with e|e
   ·obtain⟨c1,l,_⟩:=W.calm e;exact⟨by omega,l,λx=>by omega⟩
   ·refine⟨?_,?_,λ_=>e⟩<;>rcases W.w3 e with⟨c1,l,_⟩|⟨c1,l,_⟩<;>omega
  have hvn:G.s.v<=Y.n:=by
   by_cases e:G.mp=.go
   ·have:=W.early (.inr e);rw[if_pos e]at hv;omega
   ·rw[if_neg e]at hv;omega
  obtain⟨g',w',es,M',d',hs,K,L,y,z⟩:=E G.s m.sh ⟨by omega,hvn,zg.1,zg.2.1⟩;rw[fT m P]at hs;have N:G.q? (k+1)=true:=by simp[Gh.q?,f]
  have O:=m.out k o (by rw[f];simp);by_cases e1:G.s.v=1/\G.s.wt=1
  ·rw[if_pos e1]at z;have F:=zg.2.2 e1.2;refine m.GH hF o hg (p':=.d2) (s':={ G.s with v:=G.s.v-1 }) u O (by simp) hs K rfl rfl (by rw[N];exact L) y (.inl ⟨by simp,z⟩) (.inl (by rw[f];simp)) (λh=>.inl h) (λq M tr=>?_) (.inl (by simp[f,wW]));refine W.GH o u (by simp only[f,lU,nH,oE,oF,oG,gV,oH,oI,nI,nJ,oJ,gW,oK,oL,oM,oN,nK,gX];omega) (λe=>?_) (λe=>?_)
   ·rcases e with e|e|e|⟨v,e⟩<;>rw[F]at e<;>cases e
   ·rcases W.w3 e with⟨c1,l,c3,r⟩|⟨c1,l,c3,r⟩
    ·rw[e1.1]at r;simp only[Nat.one_ne_zero,if_false]at r;refine .inl ⟨c1,l,by omega,?_⟩;show(if G.s.v-1=0 then 1 else 0)=_;rw[if_pos (by omega)];omega
    ·omega
  ·rw[if_neg e1]at z;refine m.GH hF o hg (p':=.quit) (s':={ G.s with v:=G.s.v-1 }) u O (by simp) hs K rfl rfl (by rw[N];exact L) y (.inr ⟨rfl,z⟩) (.inl (by rw[f];simp)) (λh=>.inl h) (λq M tr=>?_) (.inl (by simp[f,wW]));refine W.GH o u (by simp only[f,lU,nH,oE,oF,oG,gV,oH,oI,nI,nJ,oJ,gW,oK,oL,oM,oN,nK,gX];omega) (λe=>?_) (λe=>?_)
   ·obtain⟨c1,l,c3,r⟩:=W.calm e;exact⟨c1,l,by omega,by omega⟩
   ·rcases W.w3 e with⟨c1,l,c3,r⟩|⟨c1,l,c3,r⟩
    ·rw[if_neg (by omega)]at r;refine .inl ⟨c1,l,by omega,?_⟩;show(if G.s.v-1=0 then 1 else 0)=_;rw[if_neg (by omega)];omega
    ·omega
 |d2=>
  rw[f]at p;simp only[NH,AtD2,nR]at p;obtain⟨R,A,Q,E⟩:=p;obtain⟨B,C,D,H,I,J,U⟩:=W.GJ o .d3;simp only[f,lU,nH,oE,oF,oG,gV,oH,oI,nI,nJ,oJ,gW,oK,oL,oM,oN,nK,gX]at B C D H I J;have F:G.mp=.w3:=by
   rcases W.cases o u with e|e
   ·have:=(W.calm e).2.2.1;omega
   ·exact e
  have hv:G.s.v=0/\G.s.wt=1/\G.s.ws=0:=by
   rcases W.w3 F with⟨c1,l,c3,r⟩|⟨c1,l,c3,r⟩
   ·refine⟨?_,c1,l⟩
    split at r<;>omega
   ·omega
  obtain⟨g',w',es,M',d',hs,K,L,y,z⟩:=E G.s m.sh hv;rw[fT m P]at hs;have N:G.q? (k+1)=true:=by simp[Gh.q?,f]
  have O:=m.out k o (by rw[f];simp);refine m.GH hF o hg (p':=.d3) (s':=G.s) u O (by simp) hs K rfl rfl (by rw[N];exact L) y (.inl ⟨by simp,z⟩) (.inl (by rw[f];simp)) (λh=>.inl h) (λq M tr=>?_) (.inr ⟨by simp[f,wW],rfl⟩);refine W.GH o u (by simp only[f,lU,nH,oE,oF,oG,gV,oH,oI,nI,nJ,oJ,gW,oK,oL,oM,oN,nK,gX]) (λe=>?_) (λe=>?_)
  ·obtain⟨c1,l,c3,r⟩:=W.calm e;exact⟨c1,l,by omega,by omega⟩
  ·rcases W.w3 e with⟨c1,l,c3,r⟩|⟨c1,l,c3,r⟩
   ·exact .inl ⟨c1,l,by omega,by omega⟩
   ·exact .inr ⟨c1,l,by omega,by omega⟩
 |d3=>
  rw[f]at p;simp only[NH,AtD3,nR]at p;obtain⟨R,A,Q,E⟩:=p;obtain⟨B,C,D,H,I,J,U⟩:=W.GJ o .d4;simp only[f,lU,nH,oE,oF,oG,gV,oH,oI,nI,nJ,oJ,gW,oK,oL,oM,oN,nK,gX]at B C D H I J;have F:G.mp=.w3:=by
   rcases W.cases o u with e|e
   ·have:=(W.calm e).2.2.1;omega
   ·exact e
  have hv:G.s.v=0/\G.s.wt=1/\G.s.ws=0/\sumTo G.j (λi=>fd (G.wp i))=1/\sumTo G.j (λi=>f4 (G.wp i))=0:=by
   rcases W.w3 F with⟨c1,l,c3,r⟩|⟨c1,l,c3,r⟩
   ·refine⟨?_,c1,l,?_,c3⟩<;>split at r<;>omega
   ·omega
  obtain⟨g',w',es,M',d',hs,K,L,y,z⟩:=E G.s m.sh ⟨hv.1,hv.2.1,hv.2.2.1⟩;rw[fT m P]at hs;have N:G.q? (k+1)=true:=by simp[Gh.q?,f]
  have O:=m.out k o (by rw[f];simp);refine m.GH hF o hg (p':=.d4) (s':={ G.s with wt:=0 }) u O (by simp) hs K rfl rfl (by rw[N];exact L) y (.inl ⟨by simp,z⟩) (.inl (by rw[f];simp)) (λh=>.inl h) (λq M tr=>?_) (.inr ⟨by simp[f,wW],rfl⟩);refine W.GH o u (by simp only[f,lU,nH,oE,oF,oG,gV,oH,oI,nI,nJ,oJ,gW,oK,oL,oM,oN,nK,gX]) (λe=>?_) (λe=>?_)
  ·rcases e with e|e|e|⟨v,e⟩<;>rw[F]at e<;>cases e
  ·exact .inr ⟨rfl,hv.1,by omega,by simp only;omega⟩
 |d4=>
  rw[f]at p;simp only[NH,AtD4,nR]at p;obtain⟨R,A,Q,E⟩:=p;obtain⟨B,C,D,H,I,J,U⟩:=W.GJ o .quit;simp only[f,lU,nH,oE,oF,oG,gV,oH,oI,nI,nJ,oJ,gW,oK,oL,oM,oN,nK,gX]at B C D H I J;have F:G.mp=.w3:=by
   rcases W.cases o u with e|e
   ·have:=(W.calm e).2.2.2;omega
   ·exact e
  have hv:G.s.v=0/\G.s.wt=0/\G.s.ws=0/\sumTo G.j (λi=>fd (G.wp i))=0/\sumTo G.j (λi=>f4 (G.wp i))=1:=by
   rcases W.w3 F with⟨c1,l,c3,r⟩|⟨c1,l,c3,r⟩
   ·omega
   ·exact⟨l,c1,by omega,c3,by omega⟩
  obtain⟨g',w',es,M',d',hs,K,L,y,z⟩:=E G.s m.sh ⟨hv.1,hv.2.1,hv.2.2.1⟩;rw[fT m P]at hs;have N:G.q? (k+1)=true:=by simp[Gh.q?,f]
  have O:=m.out k o (by rw[f];simp);refine m.GH hF o hg (p':=.quit) (s':={ G.s with ws:=1 }) u O (by simp) hs K rfl rfl (by rw[N];exact L) y (.inr ⟨rfl,z⟩) (.inl (by rw[f];simp)) (λ_=>.inr (Q trivial)) (λq M tr=>?_) (.inr ⟨by simp[f,wW],rfl⟩);refine W.GH o u (by simp only[f,lU,nH,oE,oF,oG,gV,oH,oI,nI,nJ,oJ,gW,oK,oL,oM,oN,nK,gX]) (λe=>?_) (λe=>?_)
  ·rcases e with e|e|e|⟨v,e⟩<;>rw[F]at e<;>cases e
  ·exact .inr ⟨hv.2.1,hv.1,by omega,by simp only;omega⟩
 |quit=>exact absurd f u
def MI.main(m:MI Y G gs w t)(hF:nG Y)(hg:gs[gid Y 0]?=some g){mp':MP}{s':Sh}{f0:Nat}(hs:stepG Y.P (gid Y 0==0) g w=.go g' w' es)(r:ShAt Y.toFix w' s')(c:s'.mw=G.s.mw)(o:s'.ms=G.s.ms)
 (u:Dl Y.toFix (G.V 0) false (G.M 0) (Deaf t (gid Y 0)) w w' es M' d') (x:g'.status=.running) (y:ay Y.toFix (G.V 0) false (stM Y G.j f0 (G.V 0) mp') M' d' g' w')
 (f:mp'=.an->es=#[aI (.acquire (stA Y.Wg))]/\Deaf t 0=0/\∀k,k<G.j->G.wp k=.quit)
 (i:∀M tr fu,WI Y { G with mp:=mp',M:=M,tr:=tr,s:=s',fu:=fu }) (F:wM Y.n G.j s'.v mp'<wM Y.n G.j G.s.v G.mp) (hf:vK Y G<=f0):Made Y G gs w t 0 g:=by
 obtain⟨l,z⟩:=y;have A:∀M tr fu,phi Y { G with mp:=mp',M:=M,tr:=tr,s:=s',fu:=fu }=phi Y G:=by
  intro M tr fu;have:oD { G with mp:=mp',M:=M,tr:=tr,s:=s',fu:=fu }=oD G:=by simp[oD,c,o]
  unfold phi;rw[this]
 have p:∀M tr fu,vK Y { G with mp:=mp',M:=M,tr:=tr,s:=s',fu:=fu }<vK Y G:=by
  intro M tr fu;unfold vK;simp only;omega
 have key:=MI.own (G':={ G with mp:=mp',M:=upd G.M 0 M',tr:=upd G.tr 0 l,s:=s',fu:=upd G.fu 0 f0 }) (g':=g') m hF (a9 _) hg u rfl rfl rfl (λ_ _=>rfl)
  (λb hb e=>by
    cases b with
    |zero=>exact absurd rfl e
    |succ b=>exact⟨aL G.tr l e,by simp only[Gh.um];rw[aL _ _ e],rfl,Iff.rfl⟩)
  (λb hb e B=>by
    cases b with
    |zero=>exact absurd rfl e
    |succ b=>
     obtain⟨x1,x2,x3⟩:=B
     exact .inl ⟨x1,x2,by simp only;omega⟩)
  (λk H C=>.inl C) (λD=>.inr ⟨rfl,f D⟩) (.run (λh=>h) x (by simp only[Gh.um,Gh.q?,aP];exact z))
  r (by simp only[oD,c,o];exact m.mun) (λ_ _=>rfl) m.out (i _ _ _) (λk' E=>by rw[A];simp only;rw[aL _ _ (by omega)];exact m.fuel k' E)
  (by have:=p (upd G.M 0 M') (upd G.tr 0 l) (upd G.fu 0 f0);simp only[aP]at *;omega)
 exact⟨g',w',es,_,hs,key,.inl (p _ _ _)⟩
def Dv(m:sumTo G.j (λk=>fv (G.wp k))=0)(n:sumTo G.j (λk=>fd (G.wp k))=0)(o:sumTo G.j (λk=>f4 (G.wp k))=0):∀k,k<G.j->G.wp k=.quit:=by
 intro k c;have h:fv (G.wp k)<=_:=aS (f:=λk=>fv (G.wp k)) c;have i:fd (G.wp k)<=_:=aS (f:=λk=>fd (G.wp k)) c;have l:f4 (G.wp k)<=_:=aS (f:=λk=>f4 (G.wp k)) c;rw[m]at h;rw[n]at i;rw[o]at l
 cases e:G.wp k with
 |quit=>rfl
 |mu=>rw[e,lU]at h;omega
 |d1=>rw[e,nH]at h;omega
 |d2=>rw[e,nI]at i;omega
 |d3=>rw[e,nJ]at i;omega
 |d4=>rw[e,nK]at l;omega
def WI.vle(h:WI Y G):G.s.v<=Y.n:=by
 have k:=aT (f:=λi=>fv (G.wp i)) (c:=1) (j:=G.j) λi _=>by cases G.wp i<;>simp[fv]
 have hv:=h.v;have:=h.le;by_cases e:G.mp=.go
 ·have:=h.early (.inr e);rw[if_pos e]at hv;omega
 ·rw[if_neg e]at hv;omega
def MI.Pa(m:MI Y G gs w t)(hF:nG Y)(hg:gs[gid Y 0]?=some g)(S:g.status=.running)(T:jA Y.toFix (G.V 0) (G.q? 0) (G.um Y 0) (G.tr 0) (G.M 0) (Deaf t (gid Y 0)) g w)
 (o:G.um Y 0 (G.M 0) (Deaf t (gid Y 0)) g w) (p:G.mp≠.go) (J:G.mp≠.an):Made Y G gs w t 0 g:=by
 have W:=m.wi;have hv:=W.v;have U:=m.fuel0;simp only[Gh.um]at o
 cases l:G.mp with
 |go=>exact absurd l p
 |an=>exact absurd l J
 |add=>
  rw[l]at o;have A:=W.early (.inl l);obtain⟨c1,u,c3,z⟩:=W.calm (.inl l);obtain⟨r,K⟩:∃r,Y.n-G.j=r+1:=⟨Y.n-G.j-1,by omega⟩
  have X:Y.n-(r+1)=G.j:=by omega
  have L:Y.n-(G.j+1)=r:=by omega
  have N:G.s.v<Y.n:=by
   have H:=aT (f:=λi=>fv (G.wp i)) (c:=1) (j:=G.j) λi _=>by cases G.wp i<;>simp[fv]
   rw[if_neg (by rw[l];simp)]at hv;omega
  simp only[stM]at o;rw[K]at o;simp only[Ta,nR,X]at o;obtain⟨H,E,I,F⟩:=o;obtain⟨g',w',es,M',d',hs,B,C,D,y⟩:=F G.s m.sh ⟨N,c1,u⟩;rw[fT m (a9 _)]at hs;refine m.main hF hg (mp':=.go) (s':={ G.s with v:=G.s.v+1 }) (f0:=G.fu 0) hs B rfl rfl C D (by simp only[stM,L];exact y) (by simp) (λM tr fu=>?_) (by rw[l];simp only[wM];omega) (by omega);rw[if_neg (by rw[l];simp)]at hv;refine⟨?_,λ_=>A,λ_ h=>absurd rfl h,W.le,λ_=>⟨c1,u,c3,z⟩,(by simp),(by simp),(by simp)⟩;simp only[if_true];omega
 |w1=>
  rw[l]at o;obtain⟨c1,u,c3,z⟩:=W.calm (.inr (.inr (.inl l)));obtain⟨f,hf⟩:∃f,G.fu 0=f+1:=⟨G.fu 0-1,by omega⟩
  rw[hf]at o;simp only[stM,AtW1,nR]at o;obtain⟨H,E,I,F⟩:=o;obtain⟨g',w',es,M',d',hs,B,C,D,y⟩:=F G.s m.sh ⟨W.vle,c1,u⟩;rw[fT m (a9 _)]at hs;have A:=W.late (by rw[l];simp) p;rw[if_neg p]at hv;by_cases e:G.s.v=0
  ·rw[if_pos e]at y;have aq:=Dv (G:=G) (by omega) c3 z;refine m.main hF hg (mp':=.aq) (s':=G.s) (f0:=G.fu 0) hs B rfl rfl C D (by simp only[stM];exact y) (by simp) (λM tr fu=>?_) (by rw[l];simp[wM]) (by omega);exact⟨by simp only[hv];simp,by simp,λ_ _=>A,W.le,by simp,by simp,λ_=>⟨e,c1,u,aq⟩,by simp⟩
  ·rw[if_neg e]at y;refine m.main hF hg (mp':=.w2 G.s.v) (s':=G.s) (f0:=f) hs B rfl rfl C D (by simp only[stM];exact y) (by simp) (λM tr fu=>?_) (by rw[l];simp[wM]) (by omega);exact⟨by simp only[hv];simp,by simp,λ_ _=>A,W.le,λ_=>⟨c1,u,c3,z⟩,by simp,by simp,λv h=>by cases h;exact e⟩
 |w2 O=>
  rw[l]at o;obtain⟨c1,u,c3,z⟩:=W.calm (.inr (.inr (.inr ⟨O,l⟩)));obtain⟨f,hf⟩:∃f,G.fu 0=f+1:=⟨G.fu 0-1,by omega⟩
  rw[hf]at o;simp only[stM,AtW2,nR]at o;obtain⟨H,E,I,F⟩:=o;obtain⟨g',w',es,M',d',hs,B,C,D,y⟩:=F G.s m.sh ⟨W.vle,c1,u⟩;rw[fT m (a9 _)]at hs;have A:=W.late (by rw[l];simp) p;have Z:=W.nz O l;rw[if_neg p]at hv;by_cases e:G.s.v=O
  ·rw[if_pos e]at y B;refine m.main hF hg (mp':=.w3) (s':={ G.s with wt:=1 }) (f0:=G.fu 0) hs B rfl rfl C D (by simp only[stM];exact y) (by simp) (λM tr fu=>?_) (by rw[l];simp[wM,e]) (by omega);exact⟨by simp only[hv];simp,by simp,λ_ _=>A,W.le,by simp,λ_=>.inl ⟨rfl,u,z,by simp only;rw[if_neg (by omega),c3]⟩,by simp,by simp⟩
  ·rw[if_neg e]at y B;refine m.main hF hg (mp':=.w1) (s':=G.s) (f0:=f) hs B rfl rfl C D (by simp only[stM];exact y) (by simp) (λM tr fu=>?_) (by rw[l];simp[wM,e]) (by omega);exact⟨by simp only[hv];simp,by simp,λ_ _=>A,W.le,λ_=>⟨c1,u,c3,z⟩,by simp,by simp,by simp⟩
 |w3=>
  rw[l]at o;have ai8:=o;simp only[stM,AtW3,acP]at o;obtain⟨H,E,I⟩:=o
  have P:G.s.ws<=1:=by rcases W.w3 l with⟨c1,u,c3,z⟩|⟨c1,u,c3,z⟩<;>omega
  obtain⟨F,h5⟩:=I G.s m.sh P;have A:=W.late (by rw[l];simp) p;rw[if_neg p]at hv;by_cases e:G.s.ws=0
  ·have hs:=F e;rw[fT m (a9 _)]at hs;exact m.block hF (a9 _) hg (λh=>h) S E ⟨l,e⟩ T hs
  ·obtain⟨g',w',es,M',d',hs,B,C,D,y⟩:=h5 e;rw[fT m (a9 _)]at hs;obtain⟨d1,d2,d3,d4⟩:G.s.wt=0/\G.s.v=0/\sumTo G.j (λk=>fd (G.wp k))=0/\sumTo G.j (λk=>f4 (G.wp k))+G.s.ws=1:=by
    rcases W.w3 l with⟨c1,u,c3,z⟩|h
    ·omega
    ·exact h
   have aq:=Dv (G:=G) (by omega) d3 (by omega);refine m.main hF hg (mp':=.w4) (s':={ G.s with ws:=G.s.ws-1 }) (f0:=G.fu 0) hs B rfl rfl C D (by simp only[stM];exact y) (by simp) (λM tr fu=>?_) (by rw[l];simp[wM]) (by omega);exact⟨by simp only[hv];simp,by simp,λ_ _=>A,W.le,by simp,by simp,λ_=>⟨d2,d1,by simp only;omega,aq⟩,by simp⟩
 |w4=>
  rw[l]at o;simp only[stM,AtW4,nR]at o;obtain⟨H,E,I,F⟩:=o;obtain⟨c1,u,c3,z⟩:=W.done (.inl l);obtain⟨g',w',es,M',d',hs,B,C,D,y⟩:=F G.s m.sh ⟨c1,u,c3⟩;rw[fT m (a9 _)]at hs;have A:=W.late (by rw[l];simp) p;rw[if_neg p]at hv;refine m.main hF hg (mp':=.aq) (s':=G.s) (f0:=G.fu 0) hs B rfl rfl C D (by simp only[stM];exact y) (by simp) (λM tr fu=>?_) (by rw[l];simp[wM]) (by omega);exact⟨by simp only[hv];simp,by simp,λ_ _=>A,W.le,by simp,by simp,λ_=>⟨c1,u,c3,z⟩,by simp⟩
 |aq=>
  rw[l]at o;simp only[stM,O1]at o;obtain⟨H,E,g',hs,K,y⟩:=o;rw[fT m (a9 _)]at hs;obtain⟨c1,u,c3,z⟩:=W.done (.inr (.inl l));have A:=W.late (by rw[l];simp) p;rw[if_neg p]at hv;rw[iZ]at E;obtain⟨i1,i2,i3,i4,i5,i6,i7,i8,i9⟩:=m.oi.ids;have kG:(a6 (aI (.acquire (stA Y.Wg)))).touch? = none:=rfl;refine m.main hF hg (mp':=.an) (s':=G.s) (f0:=G.fu 0) (M':=G.M 0) (d':=0) hs m.sh rfl rfl ?_ K (by simp only[stM];exact y) (λ_=>⟨rfl,E,z⟩) (λM tr fu=>?_) (by rw[l];simp[wM]) (by omega)
  ·rw[iZ,E];refine⟨rfl,rfl,.refl _,a8 _,λ_ _ _ _ _ _=>rfl,λc h=>⟨c,h,rfl⟩,λ_ _=>rfl,λ_=>rfl,λb=>⟨.inl,λh=>h.resolve_right λx=>by omega⟩,λe Q=>?_,(by simp),rfl⟩;simp at Q;subst Q;exact⟨λx R=>(by rw[kG]at R;cases R),by simp[aI],(show Y.Wg<_ from i8)⟩
  ·exact⟨by simp only[hv];simp,by simp,λ_ _=>A,W.le,by simp,by simp,λ_=>⟨c1,u,c3,z⟩,by simp⟩
end
def Jn(Y:CB):Prop:=∀k k' o,k≠k'->Y.row k o->¬Y.row k' o
section
variable {Y:CB}{G G':Gh}{gs:Array aa}{w w':World}{t:Trace}{a b d d':Nat}{g g':aa}{es:Array Event}{M':Own}{q:Bool}{sl:Option (Nat×Nat)}
def Sit.same(h:Sit Y G b d g w)(e1:G'.V b=G.V b)(i:G'.M b=G.M b)(j:G'.tr b=G.tr b)(k:G'.um Y b=G.um Y b)(l:G'.q? b=G.q? b)(c:G'.gone b↔G.gone b)(m:G'.q (gid Y b)=G.q (gid Y b))(n:G.waits b->G'.waits b):Sit Y G' b d g w:=by
 cases h with
 |run hg f h=>exact .run (λy=>hg (c.1 y)) f (by rw[e1,i,j,k,l];exact h)
 |wait o hg e f p r h=>exact .wait o (λy=>hg (c.1 y)) e f p (n r) (by rw[e1,i,j,k,l];exact h)
 |gone hg h=>exact .gone (c.2 hg) (by rw[m];exact h)
def Md(t:Trace)(x y:MemOp)(k n:Nat)(c:x.act=.go n)(hy:y.act=.start):Deaf (t ++ #[x,y]) k=Deaf t k:=by
 have:=Deaf_append t k [x,y];rw[show(#[x,y]:Array MemOp)=[x,y].toArray from rfl,this];simp[deafStep,c,hy]
def ru{ad:Addr}{u:Trace}{k r:Nat}(h:RelBy ad t k r)(f:∀op∈u,op.act.touch? = none):RelBy ad (t++u) k r:=by
 refine h.app λi hi _ hc=>?_;obtain⟨x,j,_⟩:=hc;obtain⟨op,l,e⟩:=touch_of j
 rcases getElem?_append_cases l with⟨m,_⟩|⟨_,c⟩
 ·omega
 ·rw[f op c]at e;cases e
def MI.spawn(m:MI Y G gs w t)(GK:Jn Y)(hg:gs[gid Y 0]?=some g)(Z:G.mp=.go)(aF:G.um Y 0 (G.M 0) (Deaf t (gid Y 0)) g w) :
 ∃jk ops G',runT Y.P (crowd gs w sl) 0=(.next (crowd jk w sl),ops)/\MI Y G' jk w (t++ops)/\ML (Y.n+1) (mz Y G' jk) (mz Y G gs):=by
 have W:=m.wi;have hj:=W.early (.inr Z);obtain⟨c1,c2,c3,c4⟩:=W.calm (.inr (.inl Z));have hv:=W.v;rw[if_pos Z]at hv;simp only[Gh.um]at aF;rw[Z]at aF;simp only[stM,AtGo]at aF;obtain⟨h1,h2,g',child,hs,gl,hrc,aic,t0,YH⟩:=aF;rw[fT m (a9 _)]at hs;rw[iZ]at hg h2 hs;obtain⟨t1,ht1⟩:=aic (m.un G.j (a8 _)) (phi Y G+1);have sw:=runT_crowd_spawn (P:=Y.P) (sl:=sl) hg (show stepG Y.P (0==0) g w=_ from hs);have Dt:∃(u:MP)(J:Tree),(u=.add/\G.j+1<Y.n\/u=.w1/\G.j+1=Y.n)/\jA Y.toFix ((G.V 0).more (G.M 0)) false (stM Y (G.j+1) (vK Y G+1) ((G.V 0).more (G.M 0)) u) J bb 0 g' w:=by
  rcases ba (G.j+1) Y.n with B|ve
  ·exact⟨.add,t0,.inl ⟨rfl,B⟩,by simp only[stM];exact YH⟩
  ·have e:Y.n-(G.j+1)=0:=by omega
   rw[e]at YH;have:ay Y.toFix ((G.V 0).more (G.M 0)) false (stM Y (G.j+1) (vK Y G+1) ((G.V 0).more (G.M 0)) .w1) bb 0 g' w:=ay.mono ⟨t0,YH⟩ λM d g w h=>by
    simp only[stM];exact h (vK Y G+1)
   obtain⟨J,h⟩:=this;exact⟨.w1,J,.inr ⟨rfl,by omega⟩,h⟩
 obtain⟨u,J,H,aie⟩:=Dt
 have N:u≠.go/\u≠.an/\u≠.w3/\u≠.w4/\u≠.aq/\∀v,u≠.w2 v:=by rcases H with⟨rfl,_⟩|⟨rfl,_⟩<;>simp
 let G':Gh:={ j:=G.j+1,th:=G.th,wp:=upd G.wp G.j .mu,mp:=u,V:=upd (upd G.V 0 ((G.V 0).more (G.M 0))) (G.j+1) (rj Y.c Y.row G.j (G.V 0) (G.M 0)),M:=upd (upd G.M 0 bb) (G.j+1) bb,tr:=upd (upd G.tr 0 J) (G.j+1) t1,q:=G.q,fu:=upd (upd G.fu 0 (vK Y G+1)) (G.j+1) (phi Y G+1),s:=G.s }
 have T:G'.V 0=(G.V 0).more (G.M 0):=(aL (upd G.V 0 ((G.V 0).more (G.M 0))) (rj Y.c Y.row G.j (G.V 0) (G.M 0)) (show 0≠G.j+1 by omega)).trans (aP G.V 0 _);have Q:G'.V (G.j+1)=rj Y.c Y.row G.j (G.V 0) (G.M 0):=aP _ _ _;have E:∀k,k<G.j->G'.V (k+1)=G.V (k+1):=λk p=>(aL (upd G.V 0 ((G.V 0).more (G.M 0))) (rj Y.c Y.row G.j (G.V 0) (G.M 0)) (show k+1≠G.j+1 by omega)).trans (aL G.V _ (show k+1≠0 by omega));have U:G'.M 0=bb:=(aL (upd G.M 0 bb) bb (show 0≠G.j+1 by omega)).trans (aP G.M 0 _);have X:G'.M (G.j+1)=bb:=aP _ _ _;have Mk:∀k,k<G.j->G'.M (k+1)=G.M (k+1):=λk p=>(aL (upd G.M 0 bb) bb (show k+1≠G.j+1 by omega)).trans (aL G.M _ (show k+1≠0 by omega));have R:G'.wp G.j=.mu:=aP _ _ _;have K:∀k,k<G.j->G'.wp k=G.wp k:=λk p=>aL _ _ (by omega);have GG:phi Y G'=phi Y G:=rfl;have LO:∀f:WP->Nat,sumTo (G.j+1) (λk=>f (G'.wp k))=sumTo G.j (λk=>f (G.wp k))+f .mu:=by
  intro f;rw[sumTo,R,a5 λk p=>by rw[K k p]]
 have GI:vK Y G'<vK Y G:=by
  have e1:vK Y G'=wM Y.n (G.j+1) G.s.v u+sumTo (G.j+1) (λk=>wW (G'.wp k)):=rfl;have I:vK Y G=wM Y.n G.j G.s.v G.mp+sumTo G.j (λk=>wW (G.wp k)):=rfl;rw[e1,I,LO,Z]
  rcases H with⟨rfl,B⟩|⟨rfl,he⟩
  ·simp only[wM,wW];omega
  ·simp only[wM,wW];omega
 have O:=m.oi;have F:∀a,a<=G.j+1->a=0\/a=G.j+1\/∃k,k<G.j/\a=k+1:=by
  intro a A
  cases a with
  |zero=>exact .inl rfl
  |succ k=>
   by_cases e:k=G.j
   ·exact .inr (.inl (by rw[e]))
   ·exact .inr (.inr ⟨k,by omega,rfl⟩)
 have O':OI Y G' w:=by
  refine⟨λa A b hb=>?_,λa a' A ha' bu b hb=>?_,λa A b hb=>?_,λa a' A ha' bu o=>?_,λa A b hb=>?_,λa A=>?_,O.ids,?_,λk p=>?_⟩
  ·rcases F a A with rfl|rfl|⟨k,p,rfl⟩
   ·rw[U,T]at hb
    rcases hb with hb|hb|hb
    ·exact hb.elim
    ·exact O.ap 0 (a9 _) b (.inr hb)
    ·exact O.ap 0 (a9 _) b (.inl hb)
   ·rw[X,Q]at hb
    rcases hb with hb|hb|hb
    ·exact hb.elim
    ·exact O.ap 0 (a9 _) b (.inr hb)
    ·exact O.ap 0 (a9 _) b (.inl hb)
   ·rw[Mk k p,E k p]at hb;exact O.ap (k+1) p b hb
  ·rcases F a A with rfl|rfl|⟨k,p,rfl⟩
   ·rw[U]at hb;exact hb.elim
   ·rw[X]at hb;exact hb.elim
   ·rw[Mk k p]at hb
    rcases F a' ha' with rfl|rfl|⟨k',D,rfl⟩
    ·rw[U,T];have:=O.dj (k+1) 0 p (a9 _) (by omega) b hb;exact⟨λh=>h,λh=>h.elim this.2 this.1⟩
    ·rw[X,Q];have:=O.dj (k+1) 0 p (a9 _) (by omega) b hb;exact⟨λh=>h,λh=>h.elim this.2 this.1⟩
    ·rw[Mk k' D,E k' D];exact O.dj (k+1) (k'+1) p D bu b hb
  ·rcases F a A with rfl|rfl|⟨k,p,rfl⟩
   ·rw[U]at hb;exact hb.elim
   ·rw[X]at hb;exact hb.elim
   ·rw[Mk k p]at hb;rw[E k p];exact O.self (k+1) p b hb
  ·have YK:(G'.V 0).row=λ_=>False:=by rw[T];exact O.main
   have acX:(G'.V (G.j+1)).row=Y.row G.j:=by rw[Q];rfl
   have T4:∀k,k<G.j->(G'.V (k+1)).row=Y.row k:=λk p=>by rw[E k p];exact O.rowV k p
   rcases F a A with rfl|rfl|⟨k,p,rfl⟩
   ·rw[YK];exact λh=>h.elim
   ·rcases F a' ha' with rfl|rfl|⟨k',D,rfl⟩
    ·rw[YK];exact λ_ h=>h
    ·exact absurd rfl bu
    ·rw[acX,T4 k' D];exact GK _ _ o (by omega)
   ·rcases F a' ha' with rfl|rfl|⟨k',D,rfl⟩
    ·rw[YK];exact λ_ h=>h
    ·rw[acX,T4 k p];exact GK _ _ o (by omega)
    ·rw[T4 k p,T4 k' D];exact GK _ _ o (by omega)
  ·rcases F a A with rfl|rfl|⟨k,p,rfl⟩
   ·rw[U]at hb;exact hb.elim
   ·rw[X]at hb;exact hb.elim
   ·rw[Mk k p]at hb;exact O.base (k+1) p b hb
  ·rcases F a A with rfl|rfl|⟨k,p,rfl⟩
   ·rw[T];exact O.num 0 (a9 _)
   ·rw[Q,bQ];rfl
   ·rw[E k p];exact O.num (k+1) p
  ·rw[T];exact O.main
  ·by_cases e:k=G.j
   ·subst e;rw[Q];rfl
   ·rw[E k (by have:k<G.j+1:=p;omega)];exact O.rowV k (by have:k<G.j+1:=p;omega)
 have WM:gs.size=Y.c+G.j:=m.size;have cpos:=m.cpos;let x:MemOp:={ g:=0,fn:=g.frame.fn,pos:=g.frame.place,act:=.go (Y.c+G.j) }
 let y:MemOp:={ g:=Y.c+G.j,fn:=child.frame.fn,pos:=g.frame.place,act:=.start }
 have Gp:(((bc 0 g.frame.fn g.frame.place #[]).push { g:=0,fn:=g.frame.fn,pos:=g.frame.place,act:=.go gs.size }).push { g:=gs.size,fn:=child.frame.fn,pos:=g.frame.place,act:=.start })=#[x,y]:=by
  rw[WM];rfl
 have Dw:∀op∈(#[x,y]:Array MemOp),op.act.touch? = none:=by
  intro op S;simp only[bd,bg,bi,or_false]at S
  rcases S with rfl|rfl<;>rfl
 have hD:∀k,Deaf (t ++ #[x,y]) k=Deaf t k:=λk=>Md t x y k _ rfl rfl;have tri:TI Y.Shun (OZ Y.toFix) (BK Y G') (O5 Y G') Y.c (G.j+1) (t ++ #[x,y]):=by
  refine TI.fork (O'.fam m.shun) Jj (m.tri.choose (λk l k1 k2=>?_) (λk l k1 k2=>?_)) ⟨rfl,rfl⟩ ⟨rfl,rfl⟩ h2 (m.above _ (by omega))
  ·have hi:k-Y.c<G.j:=by omega
   simp only[BK,E _ hi,Mk _ hi];exact⟨fun⟨a,b,c⟩=>⟨a,k2,c⟩,fun⟨a,b,c⟩=>⟨a,(by show k<Y.c+(G.j+1);omega),c⟩⟩
  ·have hi:k-Y.c<G.j:=by omega
   simp only[O5,E _ hi];exact⟨fun⟨a,b,c⟩=>⟨a,k2,c⟩,fun⟨a,b,c⟩=>⟨a,(by show k<Y.c+(G.j+1);omega),c⟩⟩
 have acY:0<gs.size:=by omega
 have aif:((gs.setIfInBounds 0 g').push child)[0]?=some g':=by
  rw[bp (by simpa using acY)];simp
 have aih:((gs.setIfInBounds 0 g').push child)[Y.c+G.j]?=some child:=by
  have e:(gs.setIfInBounds 0 g').size=Y.c+G.j:=by simp[WM]
  rw[<-e];exact Array.getElem?_push_size
 have acZ:∀i z,i≠0->i≠Y.c+G.j->((gs.setIfInBounds 0 g').push child)[i]?=some z->gs[i]?=some z:=by
  intro i z h0 hi C;have B:i<(gs.setIfInBounds 0 g').size:=by
   have:=(Array.getElem?_eq_some_iff.1 C).1;simp at this⊢;omega
  rw[bp B,<-bq B,br (Ne.symm h0)]at C;exact C
 refine⟨_,_,G',sw,?_,.inl GI⟩;rw[Gp];refine⟨cpos,?_,λa A z C=>?_,λi z h0 hi C=>?_,λi hi=>?_,m.sh,m.tb,m.mun,λk p By=>m.fresh k (by have:G.j+1<=k:=p;omega) By,λk p L=>?_,?_,λk p=>?_,?_,O',m.shun,tri,λk p L=>?_,m.norel.app λop S=>?_,λop S=>?_,λk p L=>?_,λhm=>absurd hm N.2.1,m.tape,m.output,m.os,m.kept,m.rowok,λk p o ho=>m.un k (by have:G.j+1<=k:=p;omega) o ho⟩
 ·simp only[bs,bt];show gs.size+1=Y.c+(G.j+1);omega
 ·rw[hD]
  rcases F a A with rfl|rfl|⟨k,p,rfl⟩
  ·rw[iZ,aif]at C;obtain rfl:=bw C;rw[iZ,h2];refine .run (λh=>h) gl ?_;have e1:G'.tr 0=J:=(aL (upd G.tr 0 J) t1 (show 0≠G.j+1 by omega)).trans (aP G.tr 0 _);have I:G'.fu 0=vK Y G+1:=(aL (upd G.fu 0 (vK Y G+1)) (phi Y G+1) (show 0≠G.j+1 by omega)).trans (aP G.fu 0 _);show jA Y.toFix (G'.V 0) false (stM Y (G.j+1) (G'.fu 0) (G'.V 0) u) (G'.tr 0) (G'.M 0) 0 g' w;rw[T,U,e1,I];exact aie
  ·rw[bQ,aih]at C;obtain rfl:=bw C;rw[bQ,m.above _ (by omega)];have hq:G'.q? (G.j+1)=false:=by simp only[Gh.q?,R,ne_eq,not_true_eq_false,decide_false]
   have e1:G'.tr (G.j+1)=t1:=aP _ _ _;have I:G'.fu (G.j+1)=phi Y G+1:=aP _ _ _;refine .run (by simp only[Gh.gone,R];simp) hrc ?_;rw[hq,e1,Q,X];show jA Y.toFix _ false (NH Y (G'.V (G.j+1)) G.j (G'.fu (G.j+1)) (G.th G.j) (G'.wp G.j)) t1 bb 0 child w;rw[R,Q,I,m.fresh G.j (a8 _) hj];exact ht1
  ·rw[bQ]at C ⊢;have Yt:=acZ _ z (by omega) (by omega) C;have hs:=m.sit (k+1) p z (by rw[bQ];exact Yt);rw[bQ]at hs;refine hs.same (E k p) (Mk k p) ?_ ?_ ?_ ?_ rfl ?_
   ·exact(aL (upd G.tr 0 J) t1 (show k+1≠G.j+1 by omega)).trans (aL G.tr _ (show k+1≠0 by omega))
   ·have I:G'.fu (k+1)=G.fu (k+1):=(aL (upd G.fu 0 (vK Y G+1)) (phi Y G+1) (show k+1≠G.j+1 by omega)).trans (aL G.fu _ (show k+1≠0 by omega));show NH Y (G'.V (k+1)) k (G'.fu (k+1)) (G.th k) (G'.wp k)=NH Y (G.V (k+1)) k (G.fu (k+1)) (G.th k) (G.wp k);rw[E k p,I,K k p]
   ·simp only[Gh.q?,K k p]
   ·simp only[Gh.gone,K k p]
   ·exact fun⟨x1,x2,x3⟩=>⟨by rw[K k p];exact x1,x2,x3⟩
 ·rw[hD];exact m.old i z h0 hi (acZ i z (by omega) (by omega) C)
 ·rw[hD];simp only[bs,bt]at hi;exact m.above i (by omega)
 ·have D:k<G.j+1:=p;by_cases e:k=G.j
  ·subst e;exact absurd R L
  ·have:k<G.j:=by omega
   exact m.out k this (by rw[<-K k this];exact L)
 ·refine⟨?_,λh=>?_,λh1 h2=>?_,?_,λ_=>⟨c1,c2,?_,?_⟩,λh=>absurd h N.2.2.1,λh=>?_,λv h=>absurd h (N.2.2.2.2.2 v)⟩
  ·show G.s.v=sumTo (G.j+1) (λk=>fv (G'.wp k))+(if u=.go then 1 else 0)
   rw[LO,if_neg N.1,lU];omega
  ·show G.j+1<Y.n
   rcases H with⟨_,B⟩|⟨rfl,_⟩
   ·exact B
   ·rcases h with h|h<;>cases h
  ·show G.j+1=Y.n
   rcases H with⟨rfl,_⟩|⟨_,he⟩
   ·exact absurd rfl h1
   ·exact he
  ·show G.j+1<=Y.n;omega
  ·show sumTo (G.j+1) (λk=>fd (G'.wp k))=0;rw[LO,c3];rfl
  ·show sumTo (G.j+1) (λk=>f4 (G'.wp k))=0;rw[LO,c4];rfl
  ·rcases h with h|h|h
   ·exact absurd h N.2.2.2.1
   ·exact absurd h N.2.2.2.2.1
   ·exact absurd h N.2.1
 ·rw[GG];have D:k<G.j+1:=p;show phi Y G+1<=upd (upd G.fu 0 (vK Y G+1)) (G.j+1) (phi Y G+1) (k+1);by_cases e:k=G.j
  ·subst e;rw[aP];omega
  ·rw[aL _ _ (by omega),aL _ _ (by omega)];exact m.fuel k (by omega)
 ·have I:G'.fu 0=vK Y G+1:=(aL (upd G.fu 0 (vK Y G+1)) (phi Y G+1) (show 0≠G.j+1 by omega)).trans (aP G.fu 0 _);rw[I];omega
 ·have D:k<G.j+1:=p;by_cases e:k=G.j
  ·subst e;exact absurd R L
  ·have B:k<G.j:=by omega
   obtain⟨r,hr⟩:=m.rel k B (by rw[<-K k B];exact L);exact⟨r,ru hr Dw⟩
 ·simp only[bd,bg,bi,or_false]at S
  rcases S with rfl|rfl<;>simp[x,y]
 ·rcases Array.mem_append.1 S with h|h
  ·exact m.low op h
  ·simp only[bd,bg,bi,or_false]at h
   rcases h with rfl|rfl<;>trivial
 ·have D:k<G.j+1:=p;by_cases e:k=G.j
  ·subst e;exact absurd R L
  ·have B:k<G.j:=by omega
   exact m.fin k B (by rw[<-K k B];exact L)
def WN(V:Vw)(M:Own)(w:World)(d:Nat):Rl Y.toFix V M w (w.at d):=⟨rfl,rfl,.refl _,a8 _,λ_ _=>rfl,λ_ _=>rfl,id,λ_ _=>rfl⟩
def Sit.at(h:Sit Y G b d g w)(n:Nat):Sit Y G b d g (w.at n):=by
 cases h with
 |run hg c h=>exact .run hg c (h.rely (WN _ _ _ _))
 |wait f hg e c i j h=>exact .wait f hg e c i j (h.rely (WN _ _ _ _))
 |gone hg h=>exact .gone hg h
def MI.at(m:MI Y G gs w t)(hF:nG Y)(n:Nat):MI Y G gs (w.at n) t:=
 ⟨m.cpos,m.size,λa c g hg=>(m.sit a c g hg).at n,m.old,m.above,m.sh,m.tb,m.mun,m.fresh,m.out,m.wi,m.fuel,m.fuel0,⟨m.oi.ap,m.oi.dj,m.oi.self,m.oi.rows,m.oi.base,m.oi.num,m.oi.ids,m.oi.main,m.oi.rowV⟩,m.shun,m.tri,m.rel,m.norel,m.low,
  λk e f=>hF k w (w.at n) (λ_ _=>rfl) (m.fin k e f),m.acq,m.tape,m.output,m.os,m.kept,m.rowok,m.un⟩
def MI.slip(m:MI Y G gs w t){i n:Nat}(hi:gs[i]?=some g)(Z:0<i)(I:i<Y.c\/∃k,k<G.j/\i=Y.c+k/\G.wp k=.quit)(J:G.q i=n+1)(z:∀e∈es,e.mute=true)
 (K:QuitsD Y.P n (ab (Deaf t i) es) g') :
 ∃G',MI Y G' ((gs.map (woken Y.P g g' w)).setIfInBounds i g') w (t++bc i g.frame.fn g.frame.place es)/\ML (Y.n+1) (mz Y G' ((gs.map (woken Y.P g g' w)).setIfInBounds i g')) (mz Y G gs):=by
 have O:i<gs.size:=(Array.getElem?_eq_some_iff.1 hi).1;have C:∀b,b≠i->Deaf (t++bc i g.frame.fn g.frame.place es) b=Deaf t b:=λb hb=>
  Deaf_other t (Ne.symm hb) _ (λop o=>by obtain⟨e,_,rfl⟩:=bx o;rfl)
 have A:Deaf (t++bc i g.frame.fn g.frame.place es) i=ab (Deaf t i) es:=Deaf_own _ _ _ _ _;have D:∀op∈bc i g.frame.fn g.frame.place es,op.act.touch? = none:=λop o=>by
  obtain⟨e,B,rfl⟩:=bx o;exact bA (z e B)
 have L:∀b x,b≠i->((gs.map (woken Y.P g g' w)).setIfInBounds i g')[b]?=some x->∃y,gs[b]?=some y/\x=woken Y.P g g' w y:=by
  intro b x hb f;rw[br (Ne.symm hb),Array.getElem?_map]at f;obtain⟨y,hy,rfl⟩:=Option.map_eq_some_iff.1 f;exact⟨y,hy,rfl⟩
 have M:∀x,((gs.map (woken Y.P g g' w)).setIfInBounds i g')[i]?=some x->x=g':=by
  intro x f;rw[Array.getElem?_setIfInBounds_self_of_lt (by simpa using O)]at f;exact(bw f).symm
 refine⟨{ G with q:=upd G.q i n },⟨m.cpos,by simpa using m.size,λb hb x f=>?_,λb x Q hb f=>?_,λb hb=>?_,m.sh,m.tb,m.mun,m.fresh,m.out,⟨m.wi.v,m.wi.early,m.wi.late,m.wi.le,m.wi.calm,m.wi.w3,m.wi.done,m.wi.nz⟩,m.fuel,m.fuel0,
  ⟨m.oi.ap,m.oi.dj,m.oi.self,m.oi.rows,m.oi.base,m.oi.num,m.oi.ids,m.oi.main,m.oi.rowV⟩,m.shun,?_,λk u R=>?_,m.norel.app λop o=>?_,λop o=>?_,m.fin,λz=>?_,m.tape,m.output,m.os,m.kept,m.rowok,m.un⟩,?_⟩
 ·by_cases e:gid Y b=i
  ·rw[e]at f ⊢;obtain rfl:=M x f;rw[A]
   rcases I with h|⟨k,u,rfl,s⟩
   ·exfalso
    cases b with
    |zero=>rw[iZ]at e;omega
    |succ b=>rw[bQ]at e;omega
   ·have:b=k+1:=wm m.cpos (e.trans (bQ k).symm);subst this;exact .gone s (by simp only[bQ,aP];exact K)
  ·obtain⟨y,hy,rfl⟩:=L _ _ e f;rw[C _ e];exact(m.sit b hb y hy).other (Rl.refl _ _ _) g g' rfl rfl rfl rfl rfl Iff.rfl (aL _ _ e) .inl
 ·by_cases e:b=i
  ·subst e;obtain rfl:=M x f;rw[A];simp only[aP];exact K
  ·obtain⟨y,hy,rfl⟩:=L _ _ e f;have:=m.old b y Q hb hy;rw[C _ e,woken_quitsD this];simp only[aL _ _ e];exact this
 ·have S:gs.size<=b:=by simpa using hb
  rw[C _ (by omega)];exact m.above b S
 ·exact m.tri.appMute (g:=i) (λop o=>by obtain⟨e,_,rfl⟩:=bx o;rfl) D
 ·obtain⟨r,E⟩:=m.rel k u R;exact⟨r,ru E D⟩
 ·obtain⟨e,B,rfl⟩:=bx o;have:=z e B;obtain⟨l,x,y⟩:=e;intro hc
  cases l with
  |mark T=>cases T<;>simp_all [bX,a6]
  |_=>simp_all [bX]
 ·rcases Array.mem_append.1 o with h|h
  ·exact m.low op h
  ·obtain⟨e,B,rfl⟩:=bx h;exact bC (z e B) _
 ·obtain⟨p,N,U,V,W⟩:=m.acq z;have F:=lt_of_act? N;refine⟨p,by rw[act?_old F];exact N,by rw[g?_old F];exact U,(heard_old F).2 V,λk u=>?_⟩;obtain⟨r,E,H⟩:=W k u;exact⟨r,ru E D,H⟩
 ·refine .inr ⟨rfl,.inr ⟨rfl,.inl ?_⟩⟩;show qs Y { G with q:=upd G.q i n }<qs Y G;unfold qs;simp only
  rcases I with h|⟨k,u,rfl,s⟩
  ·have e1:sumTo Y.c (λb=>if b=0 then 0 else upd G.q i n b)+(n+1)=sumTo Y.c (λb=>if b=0 then 0 else G.q b)+n:=by
    have:=aJ (j:=Y.c) (λb=>if b=0 then 0 else G.q b) n id h;simp only[id]at this;rw[if_neg (by omega),J]at this;rw[<-this];congr 1;refine a5 λb _=>?_;by_cases e:b=i
    ·subst e;rw[aP,aP,if_neg (by omega)]
    ·rw[aL _ _ e,aL _ _ e]
   have X:sumTo G.j (λk=>if G.wp k=.quit then upd G.q i n (Y.c+k) else 0)=sumTo G.j (λk=>if G.wp k=.quit then G.q (Y.c+k) else 0):=
    a5 λk _=>by rw[aL _ _ (by omega)]
   omega
  ·have e1:sumTo Y.c (λb=>if b=0 then 0 else upd G.q (Y.c+k) n b)=sumTo Y.c (λb=>if b=0 then 0 else G.q b):=
    a5 λb hb=>by rw[aL _ _ (by omega)]
   have X:sumTo G.j (λb=>if G.wp b=.quit then upd G.q (Y.c+k) n (Y.c+b) else 0)+(n+1)=sumTo G.j (λb=>if G.wp b=.quit then G.q (Y.c+b) else 0)+n:=by
    have:=aJ (j:=G.j) (λb=>if G.wp b=.quit then G.q (Y.c+b) else 0) n id u;simp only[id]at this;rw[if_pos s,J]at this;rw[<-this];congr 1;refine a5 λb _=>?_;by_cases e:b=k
    ·subst e;rw[aP,aP,if_pos s]
    ·rw[aL _ _ e,aL _ _ (by omega)]
   omega
def MI.T7(m:MI Y G gs w t):∃(i:Nat)(g:aa),gs[i]?=some g/\g.status=.running:=by
 refine Classical.byContradiction λA=>?_;have x:∀(i:Nat)(g:aa),gs[i]?=some g->g.status≠.running:=λi g h l=>A ⟨i,g,h,l⟩;have H:=m.size;have W:=m.wi;have n:∀a,a<=G.j->∃g,gs[gid Y a]?=some g:=λa B=>⟨_,bq (by have:=Yz (Y:=Y) B m.cpos;omega)⟩
 obtain⟨C,y⟩:=n 0 (a9 _);have o:G.mp=.w3/\G.s.ws=0:=by
  cases m.sit 0 (a9 _) C y with
  |run _ l _=>exact absurd l (x _ _ y)
  |wait _ _ _ _ _ r _=>exact r
  |gone h _=>exact h.elim
 have I:=W.late (by rw[o.1];simp) (by rw[o.1];simp);have e:∀k,k<G.j->G.wp k=.quit\/(G.wp k=.mu/\(G.th k).pc=.s1/\G.s.ms=0):=by
  intro k e;obtain⟨g,hg⟩:=n (k+1) e
  cases m.sit (k+1) e g hg with
  |run _ l _=>exact absurd l (x _ _ hg)
  |wait _ _ _ _ _ r _=>exact .inr r
  |gone h _=>exact .inl h
 have D:=m.mun.live λk J=>by
  rcases e k (by omega) with h|⟨_,h⟩
  ·exact .inl (m.out k (by omega) (by rw[h];simp))
  ·exact .inr h
 have E:∀k,k<G.j->G.wp k=.quit:=by
  intro k u
  rcases e k u with h|⟨_,h,_⟩
  ·exact h
  ·have:(G.th k).pc=.out:=D k (by omega);rw[this]at h;cases h
 have z:∀f:WP->Nat,f .quit=0->sumTo G.j (λk=>f (G.wp k))=0:=λf hf=>by
  have:=aT (f:=λk=>f (G.wp k)) (c:=0) (j:=G.j) λk e=>by rw[E k e,hf];exact a8 _
  omega
 have hv:=W.v;rw[z fv rfl,if_neg (by rw[o.1];simp)]at hv
 rcases W.w3 o.1 with⟨c1,F,c3,p⟩|⟨c1,F,c3,p⟩
 ·rw[if_pos hv,z fd rfl]at p;cases p
 ·rw[z f4 rfl,o.2]at p;cases p
def nL(Y:CB)(G:Gh)(gs:Array aa)(w:World)(t:Trace):Prop:=G.mp=.an/\∃g,gs[0]?=some g/\g.status=.running/\Deaf t 0=0/\Y.Post (G.M 0) g w
def GL(Y:CB):Prop:=∀M g w d,Y.Post M g (w.at d)->Y.Post M g w
def MI.step(m:MI Y G gs w t)(hF:nG Y)(Q:Jn Y)(R:GL Y):nL Y G gs w t\/
 ∃l w' p ops G',stepT Y.P (crowd gs w sl)=(.next (crowd l w' p),ops)/\MI Y G' l w' (t++ops)/\ML (Y.n+1) (mz Y G' l) (mz Y G gs):=by
 have X:=m.size;have cpos:=m.cpos;have who:∀i,i<gs.size->i=gid Y 0\/(0<i/\i<Y.c)\/∃k,k<G.j/\i=gid Y (k+1):=by
  intro i hi
  rcases Nat.eq_zero_or_pos i with rfl|h
  ·exact .inl rfl
  ·rcases ba i Y.c with u|u
   ·exact .inr (.inl ⟨h,u⟩)
   ·exact .inr (.inr ⟨i-Y.c,by omega,by rw[bQ];omega⟩)
 have S:∀g∈gs,awake g:=by
  intro g hg;obtain⟨i,hi,rfl⟩:=Array.mem_iff_getElem.1 hg;have E:gs[i]?=some gs[i]:=bq hi
  rcases who i hi with rfl|⟨u,z⟩|⟨k,x,rfl⟩
  ·exact bL (m.sit 0 (a9 _) _ E).status
  ·exact bL ((m.old i _ u z E).status.imp id .inr)
  ·exact bL (m.sit (k+1) x _ E).status
 obtain⟨i,g,d,p,hi,o,A⟩:=crowd_pick (P:=Y.P) (w:=w) (sl:=sl) S m.T7;have T:i<gs.size:=(Array.getElem?_eq_some_iff.1 hi).1;have m':=m.at hF d;have finish:∀a,i=gid Y a->Made Y G gs (w.at d) t a g->∃l w' p ops G',stepT Y.P (crowd gs w sl)=(.next (crowd l w' p),ops)/\MI Y G' l w' (t++ops)/\ML (Y.n+1) (mz Y G' l) (mz Y G gs):=by
  rintro a rfl⟨g',w',es,G',u,z,U⟩;exact⟨_,w',p,_,G',by rw[A];exact bM hi u,z,U⟩
 rcases who i T with rfl|⟨u,z⟩|⟨k,x,rfl⟩
 ·
  cases m'.sit 0 (a9 _) g hi with
  |wait V _ e _ _ _ _=>subst e;cases o
  |gone h _=>exact h.elim
  |run B _ v=>
   have stop:G.um Y 0 (G.M 0) (Deaf t (gid Y 0)) g (w.at d)->nL Y G gs w t\/∃l w' p ops G',stepT Y.P (crowd gs w sl)=(.next (crowd l w' p),ops)/\MI Y G' l w' (t++ops)/\ML (Y.n+1) (mz Y G' l) (mz Y G gs):=by
    intro hs;by_cases e1:G.mp=.an
    ·left;simp only[Gh.um]at hs;rw[e1]at hs;obtain⟨x1,x2,x3⟩:=hs;exact⟨e1,g,hi,x1,x2,R _ _ _ _ x3⟩
    ·right;by_cases O:G.mp=.go
     ·obtain⟨l,ops,G',C,D,W⟩:=m'.spawn (sl:=p) Q hi O hs;exact⟨l,w.at d,p,ops,G',by rw[A];exact C,D,W⟩
     ·exact finish 0 rfl (m'.Pa hF hi o v hs O e1)
   cases hf:G.tr 0 with
   |leaf=>
    have r:=v;rw[hf]at r;exact stop (r _ (Rl.refl _ _ _))
   |node f=>
    have r:=v;rw[hf]at r
    rcases r _ (Rl.refl _ _ _) with hs|⟨_,F⟩
    ·exact stop hs
    ·exact .inr (finish 0 rfl (m'.loc hF (a9 _) hi B hf F))
 ·
  right;have s:=m'.old i g u z hi
  cases y:G.q i with
  |zero=>rw[y]at s;rw[s.1]at o;cases o
  |succ n=>
   rw[y]at s
   rcases s with⟨H,_⟩|⟨_,g',es,I,J,K⟩
   ·rw[H]at o;cases o
   have L:(i==0)=false:=by simp;omega
   obtain⟨G',C,D⟩:=m'.slip hi u (.inl z) y I K;exact⟨_,w.at d,p,_,G',by rw[A];exact bM hi (by rw[L];exact J (w.at d)),C,D⟩
 ·
  right
  cases m'.sit (k+1) x g hi with
  |wait V _ e _ _ _ _=>subst e;cases o
  |gone N s=>
   rw[bQ]at hi A;rw[bQ]at s
   cases y:G.q (Y.c+k) with
   |zero=>rw[y]at s;rw[s.1]at o;cases o
   |succ n=>
    rw[y]at s
    rcases s with⟨H,_⟩|⟨_,g',es,I,J,K⟩
    ·rw[H]at o;cases o
    have L:(Y.c+k==0)=false:=by simp;omega
    obtain⟨G',C,D⟩:=m'.slip hi (by omega) (.inr ⟨k,x,rfl,N⟩) y I K;exact⟨_,w.at d,p,_,G',by rw[A];exact bM hi (by rw[L];exact J (w.at d)),C,D⟩
  |run B _ v=>
   cases hf:G.tr (k+1) with
   |leaf=>
    have r:=v;rw[hf]at r;exact finish (k+1) rfl (m'.Jm hF x hi B o v (r _ (Rl.refl _ _ _)))
   |node f=>
    have r:=v;rw[hf]at r
    rcases r _ (Rl.refl _ _ _) with hs|⟨_,F⟩
    ·exact finish (k+1) rfl (m'.Jm hF x hi B o v hs)
    ·exact finish (k+1) rfl (m'.loc hF x hi B hf F)
def MI.runs(hF:nG Y)(f:Jn Y)(i:GL Y):∀(z:Mz)(G:Gh)(gs:Array aa)(w:World)(sl:Option (Nat×Nat))(t:Trace),mz Y G gs=z->MI Y G gs w t->
 ∃N c w1 e t1 G1,runNT Y.P N (crowd gs w sl) t=(.next (crowd c w1 e),t1)/\MI Y G1 c w1 t1/\nL Y G1 c w1 t1:=by
 intro z
 induction (acT (Y.n+1)).apply z with
 |intro z _ j=>
  rintro G gs w sl t rfl m
  rcases m.step (sl:=sl) hF f i with h|⟨k,w',l,ops,G',o,p,r⟩
  ·exact⟨0,gs,w,sl,t,G,rfl,m,h⟩
  ·obtain⟨N,c,w1,e,t1,G1,s,u,v⟩:=j _ r G' k w' l (t++ops) rfl p;exact⟨N+1,c,w1,e,t1,G1,by simp only[runNT,o];exact s,u,v⟩
def nL.T8(m:MI Y G gs w t)(h:nL Y G gs w t):Leavers Y.P t gs G.q:=by
 refine⟨λi g o hi=>?_,m.above⟩;have p:i<gs.size:=(Array.getElem?_eq_some_iff.1 hi).1
 rcases ba i Y.c with l|l
 ·exact m.old i g o l hi
 ·have r:=m.size;have n:i-Y.c<G.j:=by omega
  have e:gid Y (i-Y.c+1)=i:=by rw[bQ];omega
  have f:=(m.wi.done (.inr (.inr h.1))).2.2.2 (i-Y.c) n;have hs:=m.sit (i-Y.c+1) n g (by rw[e];exact hi);rw[e]at hs
  cases hs with
  |run k _ _=>exact absurd f k
  |wait _ k _ _ _ _ _=>exact absurd f k
  |gone _ f=>rw[e]at f;exact f
def nL.GA(m:MI Y G gs w t)(h:nL Y G gs w t):Past (λl=>Y.Shun l\/OZ Y.toFix l) w.heap.size t:=by
 obtain⟨p,f,i,j,n⟩:=m.acq h.1;obtain⟨_,_,_,_,hd,_⟩:=h;refine m.tri.GA (λk k1 k2 _=>?_) m.norel f i j hd m.low;have e:Y.c+(k-Y.c)=k:=by omega
 have:=n (k-Y.c) (by omega);rw[e]at this;exact this
def nL.fin(m:MI Y G gs w t)(h:nL Y G gs w t):∀k,k<Y.n->Y.Fin k w:=by
 intro k e;have f:=m.wi.late (by rw[h.1];simp) (by rw[h.1];simp);have c:=(m.wi.done (.inr (.inr h.1))).2.2.2 k (by omega);exact m.fin k (by omega) (by rw[c];simp)
end
end Go.Ph
namespace Go.Ph
open Go.Conc Go.ConcN
open Go.ConcR (stA)
noncomputable def nx(P:ac)(mn:Bool)(g:aa):aa:=match stepG P mn g default with
 |.go g' _ _=>g'
 |_=>g
noncomputable def ex(P:ac)(mn:Bool)(g:aa):Array Event:=match stepG P mn g default with
 |.go _ _ es=>es
 |_=>#[]
noncomputable def adv(P:ac)(mn:Bool):Nat->aa->aa
 |0,g=>g
 |n+1,g=>adv P mn n (nx P mn g)
noncomputable def YL(P:ac)(mn:Bool):Nat->Nat->aa->Nat
 |0,d,_=>d
 |n+1,d,g=>YL P mn n (ab d (ex P mn g)) (nx P mn g)
def mutes(es:Array Event):Bool:=es.toList.all bX
noncomputable def Dz(P:ac)(mn:Bool)(w:World):Nat->aa->List (ae×GStep×Bool)
 |0,_=>[]
 |n+1,g=>(g.status,stepG P mn g w,mutes (ex P mn g))::Dz P mn w n (nx P mn g)
noncomputable def DC(P:ac)(mn:Bool)(w:World):Nat->aa->List (ae×GStep×Bool)
 |0,_=>[]
 |n+1,g=>(.running,.go (nx P mn g) w (ex P mn g),true)::DC P mn w n (nx P mn g)
def uo(P:ac)(mn:Bool)(n:Nat)(g:aa):Prop:=(∀w,Dz P mn w n g=DC P mn w n g)/\(adv P mn n g).status=.running
section
variable {X:Fix}{V:Vw}{q:Bool}{Stop:Stp}{M:Own}{d:Nat}{g g':aa}{w:World}{es:Array Event}
def T9(a:∀e∈es,e.mute=true)(d:Nat)(w:World):Dl X V q M d w w es M (ab d es):=
 ⟨rfl,rfl,.refl _,a8 _,λ_ _ _ _ _ _=>rfl,λc h=>⟨c,h,rfl⟩,λ_ _=>rfl,λ_=>rfl,λb=>⟨.inl,λh=>h.resolve_right λx=>by omega⟩,
   λe f=>⟨λx i=>(by rw[bA (a e f)]at i;cases i),λh=>(by have:=a e f;obtain⟨l,x,y⟩:=e;simp only at h;subst h;simp[bX]at this),bC (a e f) _⟩,
   λ_ j e h=>.inl (bA (a e (bv h))),rfl⟩
def ay.mute1(hs:g.status=.running)(h:∀w,stepG X.P (V.g==0) g w=.go g' w es)(b:∀e∈es,e.mute=true)(c:g'.status=.running)(f:ay X V q Stop M (ab d es) g' w):ay X V q Stop M d g w:=
 .step hs λa r=>⟨g',a,es,M,_,h a,T9 b d a,⟨rfl,rfl⟩,c,f.rely r⟩
def ay.quiet{mn:Bool}(c:(V.g==0)=mn):∀(n:Nat){g:aa}{d:Nat},uo X.P mn n g->ay X V q Stop M (YL X.P mn n d g) (adv X.P mn n g) w->ay X V q Stop M d g w
 |0,_,_,_,b=>b
 |n+1,g,d,h,b=>by
  have a:∀w,g.status=.running/\stepG X.P mn g w=.go (nx X.P mn g) w (ex X.P mn g)/\mutes (ex X.P mn g)=true/\Dz X.P mn w n (nx X.P mn g)=DC X.P mn w n (nx X.P mn g):=λw=>by
   have:=h.1 w;simp only[Dz,DC,b1,b2]at this;exact⟨this.1.1,this.1.2.1,this.1.2.2,this.2⟩
  have f:=ay.quiet c n (g:=nx X.P mn g) (d:=ab d (ex X.P mn g)) ⟨λw=>(a w).2.2.2,h.2⟩ b;have i:(nx X.P mn g).status=.running:=by
   cases n with
   |zero=>exact h.2
   |succ n=>
    have:=(a w).2.2.2;simp only[Dz,DC,b1,b2]at this;exact this.1.1
  refine .mute1 (a w).1 (λw=>by rw[c];exact(a w).2.1) (λe j=>?_) i f;have:=(a w).2.2.1;simp only[mutes,bj]at this;exact this e (Array.mem_toList_iff.2 j)
end
section
variable (P:ac)(mn:Bool)(S:aa->Bool)
noncomputable def wu:Nat->aa->aa
 |0,g=>g
 |n+1,g=>@Bool.rec (λ_=>aa) (wu n (nx P mn g)) g (S g)
noncomputable def xD:Nat->Nat->aa->Nat
 |0,d,_=>d
 |n+1,d,g=>@Bool.rec (λ_=>Nat) (xD n (ab d (ex P mn g)) (nx P mn g)) d (S g)
noncomputable def vg(w:World):Nat->aa->List (ae×GStep×Bool)
 |0,_=>[]
 |n+1,g=>@Bool.rec (λ_=>List (ae×GStep×Bool)) ((g.status,stepG P mn g w,mutes (ex P mn g))::vg w n (nx P mn g)) [] (S g)
noncomputable def vh(w:World):Nat->aa->List (ae×GStep×Bool)
 |0,_=>[]
 |n+1,g=>@Bool.rec (λ_=>List (ae×GStep×Bool)) ((.running,.go (nx P mn g) w (ex P mn g),true)::vh w n (nx P mn g)) [] (S g)
def ff(n:Nat)(g:aa):Prop:=(∀w,vg P mn S w n g=vh P mn S w n g)/\(wu P mn S n g).status=.running
end
section
variable {X:Fix}{V:Vw}{q:Bool}{Stop:Stp}{M:Own}{g g':aa}{w:World}{S:aa->Bool}
def ay.oO{mn:Bool}(i:(V.g==0)=mn):∀(n:Nat){g:aa}{d:Nat},ff X.P mn S n g->ay X V q Stop M (xD X.P mn S n d g) (wu X.P mn S n g) w->ay X V q Stop M d g w
 |0,_,_,_,a=>a
 |n+1,g,d,h,a=>by
  cases c:S g with
  |true=>simpa only[wu,xD,c]using a
  |false=>
   simp only[wu,xD,c]at a;have f:=h.2;simp only[wu,c]at f;have b:∀w,g.status=.running/\stepG X.P mn g w=.go (nx X.P mn g) w (ex X.P mn g)/\mutes (ex X.P mn g)=true/\vg X.P mn S w n (nx X.P mn g)=vh X.P mn S w n (nx X.P mn g):=λw=>by
    have:=h.1 w;simp only[vg,vh,c,b1,b2]at this;exact⟨this.1.1,this.1.2.1,this.1.2.2,this.2⟩
   have l:=ay.oO i n (g:=nx X.P mn g) (d:=ab d (ex X.P mn g)) ⟨λw=>(b w).2.2.2,f⟩ a;have m:(nx X.P mn g).status=.running:=by
    cases n with
    |zero=>exact f
    |succ n=>
     have j:=(b w).2.2.2
     cases k:S (nx X.P mn g) with
     |true=>simpa only[wu,k]using f
     |false=>
      simp only[vg,vh,k,b1,b2]at j;exact j.1.1
   refine .mute1 (b w).1 (λw=>by rw[i];exact(b w).2.1) (λe o=>?_) m l;have:=(b w).2.2.1;simp only[mutes,bj]at this;exact this e (Array.mem_toList_iff.2 o)
end
end Go.Ph
namespace Go.Ph
open Go.Conc Go.ConcN
def pS:Op->Bool
 |.defer _=>false
 |_=>true
def bF(g:aa):Option Oper:=
 if g.status=.running/\g.dying.isNone=true/\g.offers.isNone=true/\(g.frame.kind==CallKind.early)=false then
  match g.frame.mode,g.frame.todo with
  |.run,.inRegion ops (i::_)::_=>match ops[i]? with
   |some o=>if Region.wanted o (yielded ops g.frame.tmps)=true/\pS o.op=true then some o else none
   |none=>none
  |_,_=>none
 else none
def fin(g:aa)(v:Value):aa:={ g with frame:=g.frame.finish v }
section
variable {P:ac}{mn:Bool}{g:aa}{o:Oper}{w w':World}{v:Value}
def gF(h:bF g=some o):∃fn tmps ops i rest k defers kind a cs,g={ frame:=⟨fn,tmps,.inRegion ops (i::rest)::k,defers,.run,kind,a⟩,callers:=cs,status:=.running,dying:=none,offers:=none }/\
 (kind==CallKind.early)=false/\ops[i]?=some o/\Region.wanted o (yielded ops tmps)=true/\pS o.op=true:=by
 obtain⟨⟨fn,tmps,todo,defers,mode,kind,a⟩,cs,status,dying,offers⟩:=g;unfold bF at h;simp only at h
 split at h
 ·rename_i hc;obtain⟨d,j,l,m⟩:=hc;obtain rfl:=d;obtain rfl:=Option.isNone_iff_eq_none.1 j;obtain rfl:=Option.isNone_iff_eq_none.1 l
  split at h
  ·rename_i ops i rest k
   cases b:ops[i]? with
   |none=>rw[b]at h;cases h
   |some n=>
    rw[b]at h;simp only at h
    split at h
    ·rename_i c;cases h;exact⟨fn,tmps,ops,i,rest,k,defers,kind,a,cs,rfl,m,b,c.1,c.2⟩
    ·cases h
  ·cases h
 ·cases h
def lV(h:bF g=some o):stepG P mn g w=b3 P true g.frame g.callers none (ag g.frame.eval o) w:=by
 obtain⟨fn,tmps,ops,i,a,k,defers,kind,b,cs,rfl,q,d,m,j⟩:=gF h;have n:b4 P true ⟨fn,tmps,.inRegion ops (i::a)::k,defers,.run,kind,b⟩ cs none w=b3 P true ⟨fn,tmps,.inRegion ops (i::a)::k,defers,.run,kind,b⟩ cs none (ag (b5 ⟨fn,tmps,.inRegion ops (i::a)::k,defers,.run,kind,b⟩) o) w:=by
  unfold b4;simp only[Frame.oper?,d]
  cases b with
  |none=>rfl
  |some l=>
   cases p:o.op with
   |defer c=>rw[p]at j;cases j
   |_=>rfl
 rw[<-n];simp[stepG,stepG.exec,d,m]
def dF(h:bF g=some o)(b:(ag g.frame.eval o).run P w=.ok (.value v) w'):stepG P mn g w=.go (fin g v) w' (seen P g.frame.fn ((ag g.frame.eval o).events P w #[])):=by
 rw[lV h];obtain⟨fn,tmps,ops,i,a,k,defers,kind,j,cs,rfl,c,l,m,n⟩:=gF h;have d:kind≠.early:=by simpa using c
 simp[b3,b,d,GStep.after,fin]
def Me(h:bF g=some o)(b:(ag g.frame.eval o).run P w=.ok .skip w'):stepG P mn g w=.go (fin g undef) w' (seen P g.frame.fn ((ag g.frame.eval o).events P w #[])):=by
 rw[lV h];obtain⟨fn,tmps,ops,i,a,k,defers,kind,j,cs,rfl,c,l,m,n⟩:=gF h;have d:kind≠.early:=by simpa using c
 simp[b3,b,d,GStep.after,fin]
def BL(h:bF g=some o)(c:(ag g.frame.eval o).run P w=.halt .blocked w):stepG P mn g w=.go { g with status:=.blocked } w #[]:=by
 rw[lV h];obtain⟨fn,tmps,ops,i,a,k,defers,kind,b,cs,rfl,d,l,m,n⟩:=gF h;have p:kind≠.early:=by simpa using d
 have hf:((ag (b5 ⟨fn,tmps,.inRegion ops (i::a)::k,defers,.run,kind,b⟩) o).runT P w #[]).1=.halt .blocked w:=by rw[Sem.runT_fst,c]
 unfold b3;simp only[if_true];generalize(ag (b5 ⟨fn,tmps,.inRegion ops (i::a)::k,defers,.run,kind,b⟩) o).runT P w #[]=j at hf;obtain⟨r,es⟩:=j;simp only at hf;subst hf;simp[GStep.after,seen]
def BM(o:Oper):Option (ai×Array ao):=match o.op with
 |.call { callee:=.value (.func f),args,.. }=>some (f,args)
 |_=>none
def DD{f:ai}{a:Array ao}{ev:ao->Value}(h:BM o=some (f,a))(hf:ev (.func f)=.func (.func f) #[] #[]):ag ev o=callFunc f (a.map ev):=by
 unfold BM at h
 split at h
 ·rename_i b;cases h;unfold ag;simp[b,resolve,Deferred.ofValue,invoke,hf]
 ·cases h
def az(g:aa):Option (ai×Array Value):=match bF g with
 |some o=>match BM o with
  |some (f,a)=>some (f,a.map g.frame.eval)
  |none=>none
 |none=>none
def kL{f:ai}{args:Array Value}(h:az g=some (f,args)):∃o,bF g=some o/\ag g.frame.eval o=callFunc f args:=by
 unfold az at h
 split at h
 ·rename_i o a
  split at h
  ·rename_i c b hc;cases h;exact⟨o,a,DD hc rfl⟩
  ·cases h
 ·cases h
section
variable {f:ai}{fn:Func}{args:Array Value}{e:Array Value->Sem Value}{Ua:Array Event}
def GN(h:az g=some (f,args))(hf:P.funcs[f]?=some fn)(a:(fn.name == "runtime.NumGoroutine")=false)(hb:fn.body.isNone=true)(b:b8 fn=none)(c:b9 fn=some e)
 (d:(e args).run P w=.ok v w') (i:(e args).events P w #[⟨.mark (.extern f),false,true⟩]=#[⟨.mark (.extern f),false,true⟩]++Ua) (hs:∀x∈Ua,x.sync=true/\∀g,x.loc≠.mark (.extern g)):stepG P mn g w=.go (fin g v) w' Ua:=by
 obtain⟨o,j,e1⟩:=kL h;rw[dF (v:=v) (w':=w') j (by rw[e1,ar hf a hb b c,d];rfl),e1,bR hf a hb b c];simp only[bm,bo];rw[i,seen_entry _ _ _ hs]
def ry(h:az g=some (f,args))(hf:P.funcs[f]?=some fn)(a:(fn.name == "runtime.NumGoroutine")=false)(hb:fn.body.isNone=true)(b:b8 fn=none)(c:b9 fn=some e)
 (d:(e args).run P w=.halt .blocked w):stepG P mn g w=.go { g with status:=.blocked } w #[]:=by
 obtain⟨o,i,e1⟩:=kL h;exact BL i (by rw[e1,ar hf a hb b c,d];rfl)
end
end
open Go.ConcM (MuAt muA msA OsLater muBlock)
open Go.ConcR (KK WgAt stA smA rd wr mk)
structure WO(X:Fix):Prop where
 mw:X.Mu≠X.Wg
 mt:X.Mu≠X.Tb
 wt:X.Wg≠X.Tb
structure Clear(X:Fix)(V:Vw)(M:Own):Prop where
 ids:WO X
 st:∀b,V.st b->jm X b
 own:∀b,M b->jm X b
section
variable {X:Fix}{V:Vw}{q:Bool}{Stop:Stp}{M:Own}{d:Nat}{g g':aa}{w w':World}{es:Array Event}{B:Nat}
def eo{a:Addr}{wr:Bool}(c:a.block=X.Mu\/a.block=X.Wg)(h:a.block<B):jG X V M B ⟨.cell a,wr,true⟩:=by
 refine⟨λx b=>?_,by simp,h⟩;have e:(a6 ⟨.cell a,wr,true⟩).touch? = some ⟨.cell a,wr,.atomic⟩:=rfl;rw[e]at b;cases b;exact⟨rfl,.inl ⟨⟨a,rfl,c⟩,by split<;>simp⟩⟩
def lX{e:Event}(h:e.mute=true):jG X V M B e:=
 ⟨λx a=>(by rw[bA h]at a;cases a),λb=>by obtain⟨l,x,y⟩:=e;simp only at b;subst b;simp[bX]at h,bC h _⟩
def uq{m:Mark}(b:(a7 m).touch? = none)(c:m≠.release (stA X.Wg))(hl:(a7 m).low B):jG X V M B (mk m):=
 ⟨λx a=>(by rw[show(a6 (mk m))=.mark m from rfl,b]at a;cases a),λh=>c (by cases h;rfl),hl⟩
def BN(hc:Clear X V M)(a:w'.tape=w.tape)(c:w'.output=w.output)(i:OsLater w.os w'.os)(j:w'.heap.size=w.heap.size)(hb:∀b,b≠X.Mu->b≠X.Wg->w'.heap[b]?=w.heap[b]?)
 (hl:Live X w->Live X w'):Rl X V M w w':=
 ⟨a,c,i,by omega,λb h=>hb b (hc.st b h).1 (hc.st b h).2.1,λb h=>hb b (hc.own b h).1 (hc.own b h).2.1,hl,λo _=>by simp only[World.cell?,hb X.Tb hc.ids.mt.symm hc.ids.wt.symm]⟩
def jI(hc:WO X)(i:w'.tape=w.tape)(k:w'.output=w.output)(l:OsLater w.os w'.os)(s:w'.heap.size=w.heap.size)(hb:∀b,b≠X.Mu->b≠X.Wg->w'.heap[b]?=w.heap[b]?)
 (m:∀e∈es,jG X V M w'.heap.size e)
 (n:q=true->∀j e,es[j]?=some e->(a6 e).touch? = none\/((∃ad wr,e=⟨.cell ad,wr,true⟩)/\0<ab d (es.extract 0 j))):Dl X V q M d w w' es M (ab d es):=by
 have a:=hb X.Tb hc.mt.symm hc.wt.symm
 exact⟨i,k,l,by omega,λb _ _ p r _=>hb b p r,λc h=>⟨c,by rw[a];exact h,rfl⟩,λo _=>by simp only[World.cell?,a],λ_=>a,
  λb=>⟨.inl,λh=>h.resolve_right λx=>by omega⟩,m,n,rfl⟩
def ay.idle(hc:Clear X V M)(hs:g.status=.running)
 (h:∀k,Rl X V M w k->∃g' w' es,stepG X.P (V.g==0) g k=.go g' w' es/\w'.tape=k.tape/\w'.output=k.output/\OsLater k.os w'.os/\w'.heap=k.heap/\(∀e∈es,jG X V M k.heap.size e/\(a6 e).touch? = none)/\
   g'.status=.running/\ay X V q Stop M (ab d es) g' w):ay X V q Stop M d g w:=
 .step hs λk r=>by
  obtain⟨g',w',es,t,m,n,p,i,s,u,x⟩:=h k r;refine⟨g',w',es,M,_,t,jI hc.ids m n p (by rw[i]) (λb _ _=>by rw[i]) (λe l=>by rw[i];exact(s e l).1) (λ_ j e l=>.inl (s e (bv l)).2),⟨by rw[i],by rw[i]⟩,u,?_⟩;refine x.rely (r.trans (BN hc m n p (by rw[i]) (λb _ _=>by rw[i]) ?_));rintro⟨⟨a,b,k1⟩,⟨y,b',k2⟩,c,k3,z⟩;exact⟨⟨a,b,by unfold MuAt at k1 ⊢;rw[i];exact k1⟩,⟨y,b',by unfold WgAt at k2 ⊢;rw[i];exact k2⟩,c,by rw[i];exact k3,z⟩
end
structure cw(P:ac)(f:ai)(nr:Bool)(e:Array Value->Sem Value):Prop where
 ex:∃fn,P.funcs[f]?=some fn/\(fn.name == "runtime.NumGoroutine")=false/\fn.body.isNone=true/\b8 fn=none/\b9 fn=some e/\fn.norace=nr
section
variable {P:ac}{mn:Bool}{g:aa}{w w':World}{f:ai}{args:Array Value}{nr:Bool}{e:Array Value->Sem Value}{v:Value}{Ua:Array Event}
def cw.step(hb:cw P f nr e)(h:az g=some (f,args))(a:(e args).run P w=.ok v w')(b:(e args).events P w #[⟨.mark (.extern f),false,true⟩]=#[⟨.mark (.extern f),false,true⟩]++Ua)(hs:∀x∈Ua,x.sync=true/\∀g,x.loc≠.mark (.extern g)) :
 stepG P mn g w=.go (fin g v) w' Ua:=by
 obtain⟨fn,c,i,j,k,l,_⟩:=hb.ex;exact GN h c i j k l a b hs
def cw.blocked(hb:cw P f nr e)(h:az g=some (f,args))(a:(e args).run P w=.halt .blocked w):stepG P mn g w=.go { g with status:=.blocked } w #[]:=by
 obtain⟨fn,b,c,i,j,k,_⟩:=hb.ex;exact ry h b c i j k a
def cw.out(hb:cw P f true e)(h:az g=some (f,args))(i:(e args).run P w=.ok v w')(j:(e args).events P w #[⟨.mark (.extern f),false,true⟩]=#[⟨.mark (.extern f),false,true⟩] ++ #[⟨.output,true,false⟩]) :
 stepG P mn g w=.go (fin g v) w' #[]:=by
 obtain⟨fn,hf,a,hb,b,c,k⟩:=hb.ex;obtain⟨o,l,e1⟩:=kL h;rw[dF (v:=v) (w':=w') l (by rw[e1,ar hf a hb b c,i];rfl),e1,bR hf a hb b c];simp only[bm,bo];rw[j,seen_entry_out _ _ (by rw[hf];exact k)]
def aK{o:Oper}(h:bF g=some o):g.status=.running/\g.offers=none/\∀v,(fin g v).status=.running:=by
 obtain⟨fn,tmps,ops,i,a,k,defers,kind,b,cs,rfl,c,j,l,m⟩:=gF h;exact⟨rfl,rfl,λ_=>rfl⟩
def aj(h:az g=some (f,args)):g.status=.running/\g.offers=none/\∀v,(fin g v).status=.running:=by
 obtain⟨o,a,_⟩:=kL h;exact aK a
end
section
variable {X:Fix}{V:Vw}{q:Bool}{Stop:Stp}{M:Own}{d:Nat}{g:aa}{w:World}{f:ai}{nr:Bool}{args:Array Value}{o:Oper}
def ay.Jo(hc:Clear X V M)(b:az g=some (f,args)){m:Mark}(hb:cw X.P f nr (λ_=>do mark m;pure ca))(a:(⟨.mark m,false,true⟩:Event).mute=true)
 (j:ay X V q Stop M (ab d #[⟨.mark m,false,true⟩]) (fin g (.tuple #[])) w):ay X V q Stop M d g w:=
 .idle hc (aj b).1 λk _=>⟨_,k,#[⟨.mark m,false,true⟩],hb.step b (by simp[ca]) (by simp) (by
  intro x c;simp at c;subst c
  exact⟨rfl,λg h=>by cases h;simp[bX]at a⟩),rfl,rfl,.refl _,rfl,(by
  intro e i;simp at i;subst i
  exact⟨lX a,bA a⟩),(aj b).2.2 _,j⟩
def kM{P:ac}{mn:Bool}(i:az g=some (f,args)){mk':Addr->Mark}(hb:cw P f nr (cb mk'))(c:∀a g,mk' a≠.extern g){ad:Addr}(b:args[0]?=some (.pointer (some ad))) :
 stepG P mn g w=.go (fin g (.tuple #[])) w #[mk (mk' ad)]:=
 hb.step i (by simp[cb,cc,b,ca]) (by simp[cb,cc,b,mk]) (by
  intro x b;simp[mk]at b;subst b
  exact⟨rfl,λg h=>c ad g (Loc.mark.inj h)⟩)
def ay.Pe(hc:Clear X V M)(c:az g=some (f,args)){mk':Addr->Mark}(hb:cw X.P f nr (cb mk'))(h:∀a g,mk' a≠.extern g){ad:Addr}(j:args[0]?=some (.pointer (some ad)))
 (k:∀b,Rl X V M w b->jG X V M b.heap.size (mk (mk' ad))/\(a6 (mk (mk' ad))).touch? = none) (hd:∀d,ab d #[mk (mk' ad)]=d)
 (l:ay X V q Stop M d (fin g (.tuple #[])) w):ay X V q Stop M d g w:=
 .idle hc (aj c).1 λb r=>⟨_,b,#[mk (mk' ad)],kM c hb h j,rfl,rfl,.refl _,rfl,(by
  intro e i;simp at i;subst i
  exact k b r),(aj c).2.2 _,by rw[hd];exact l⟩
def ay.nano(hc:Clear X V M)(b:az g=some (f,args))(hb:cw X.P f true Extern.OsHooks.nano)(c:∀n:Nat,ay X V q Stop M d (fin g (.int .i64 (n:Int))) w):ay X V q Stop M d g w:=
 .idle hc (aj b).1 λa _=>⟨_,a.later,#[],hb.out (v:=.int .i64 ((a.os.mono+a.tick:Nat):Int)) b rfl rfl,rfl,rfl,⟨a.tick,rfl⟩,rfl,by simp,(aj b).2.2 _,c _⟩
def ay.canSpin(hc:Clear X V M){k:IntKind}{n:Int}(a:az g=some (f,#[.int k n]))(hb:cw X.P f nr cd)(i:∀b:Bool,(b=true->n<4)->ay X V q Stop M d (fin g (.bool b)) w):ay X V q Stop M d g w:=
 .idle hc (aj a).1 λh _=>by
  by_cases c:n>=4
  ·exact⟨_,h,#[],hb.step (v:=.bool false) a (by rw[bT,if_pos c];rfl) (by rw[bT,if_pos c];rfl) (by simp),rfl,rfl,.refl _,rfl,by simp,(aj a).2.2 _,i _ (by simp)⟩
  ·exact⟨_,h.asked,#[],hb.step (v:=.bool h.spins) a (by rw[bT,if_neg c];rfl) (by rw[bT,if_neg c];rfl) (by simp),rfl,rfl,.refl _,rfl,by simp,(aj a).2.2 _,i _ (λ_=>by omega)⟩
def ay.nothing(hc:Clear X V M)(a:az g=some (f,args))(hb:cw X.P f nr ce)(b:ay X V q Stop M d (fin g (.tuple #[])) w):ay X V q Stop M d g w:=
 .idle hc (aj a).1 λc _=>⟨_,c,#[],hb.step (v:=.tuple #[]) a (by simp[ce,cf]) (by simp[ce]) (by simp),rfl,rfl,.refl _,rfl,by simp,(aj a).2.2 _,b⟩
def ay.conv(hc:Clear X V M)(c:bF g=some o){src dst t:aB}{x:ao}(j:o.op=.convert src dst x){a:Addr}(k:g.frame.eval x=.pointer (some a))
 (hs:X.P.underlying src=some (.pointer t)) (hd:X.P.underlying dst=some .unsafePointer) (h:(X.P.info? t).map (λi=>decide (i.size=0))=some false)
 (hl:∀b,Rl X V M w b->∃v,b.cell? a=some v) (l:ay X V q Stop M d (fin g (.pointer (some a))) w):ay X V q Stop M d g w:=
 .idle hc (aK c).1 λb r=>by
  obtain⟨v,hv⟩:=hl b r;have e1:ag g.frame.eval o=(do let y<-convert src dst (.pointer (some a));pure (.value y)):=by
   unfold ag;simp only[j,k]
   try rfl
  have m:=run_convert_to_unsafe hs hd h hv;have n:=events_convert_to_unsafe hs hd h hv #[];refine⟨_,b,#[],?_,rfl,rfl,.refl _,rfl,by simp,(aK c).2.2 _,l⟩;rw[dF (v:=.pointer (some a)) (w':=b) c (by rw[e1];simp[m]),e1];simp[n,seen_none]
def xG{P:ac}{mn:Bool}(h:bF g=some o){t:aB}{x:ao}(a:o.op=.load t x){ad:Addr}(b:g.frame.eval x=.pointer (some ad)){k:IntKind}{v:Int}(c:P.underlying t=some (.int k))(hc:w.cell? ad=some (.int k v))(i:(P.funcs[g.frame.fn]?).any (·.norace)=true) :
 stepG P mn g w=.go (fin g (.int k v)) w #[]:=by
 have j:(ag g.frame.eval o).run P w=.ok (.value (.int k v)) w:=by
  unfold ag;simp only[a,b];simp[go_sem,hc,isAgg,aH c]
 have l:(ag g.frame.eval o).events P w #[]=#[⟨.cell ad,false,false⟩]:=by
  unfold ag;simp only[a,b];simp[go_sem,hc,isAgg,aH c]
 rw[dF h j,l,seen_def,i];simp[seenStep]
def ay.ad2(hc:Clear X V M)(b:bF g=some o){t:aB}{x:ao}(c:o.op=.load t x){ad:Addr}(h:g.frame.eval x=.pointer (some ad)){k:IntKind}(i:X.P.underlying t=some (.int k))(j:(X.P.funcs[g.frame.fn]?).any (·.norace)=true)
 (hl:∀a,Rl X V M w a->∃v,a.cell? ad=some (.int k v)) (l:∀v,ay X V q Stop M d (fin g (.int k v)) w):ay X V q Stop M d g w:=
 .idle hc (aK b).1 λa r=>by
  obtain⟨v,hv⟩:=hl a r;exact⟨_,a,#[],xG b c h i hv j,rfl,rfl,.refl _,rfl,by simp,(aK b).2.2 _,l v⟩
end
end Go.Ph
namespace Go.Proofs
open Go.Ph Go.Conc
open Go.cD (Wd Th qZ)
set_option maxRecDepth 100000
noncomputable abbrev PP:=Tryz.prog
def bare:List Nat:=[88,89,90,91,92,93,96,99,100,103,104,106,107,111,112,113,114,115,117,119,121,122,123,124,125,126,127]
def eJ(g:aa):Bool:=match g.frame.mode with
 |.returning=>(g.frame.fn==72||g.frame.fn==73)&&g.frame.defers.isEmpty
 |.run=>match g.frame.todo with
  |.code (.region 5 _ _)::_=>g.frame.fn==116
  |.inRegion _ (_::_)::_=>match bF g with
   |some o=>match o.op with
    |.load .. | .store ..=>true
    |.convert _ d _=>d==157
    |.call { callee:=.value (.func f),.. }=>bare.contains f
    |_=>false
   |none=>false
  |_=>false
 |_=>false
noncomputable abbrev TT(g:aa):aa:=wu PP false eJ 300 g
def fj(g:aa):Option (aB×Value):=match bF g with
 |some o=>match o.op with
  |.load t x=>some (t,g.frame.eval x)
  |_=>none
 |none=>none
def gu(g:aa):Option (aB×aB×Value):=match bF g with
 |some o=>match o.op with
  |.convert s d x=>some (s,d,g.frame.eval x)
  |_=>none
 |none=>none
def gZ(g:aa):Option (ai×Option Value):=(az g).map λx=>(x.1,x.2[0]?)
structure gm(g g':aa):Prop where
 q:ff PP false eJ 300 g
 d:∀d,xD PP false eJ 300 d g=d
 e:TT g=g'
structure YQ(g g':aa):Prop where
 q:uo PP false 1 g
 d:∀d,YL PP false 1 d g=d
 h:gm (nx PP false g) g'
section
variable {X:Fix}{V:Vw}{q:Bool}{Stop:Stp}{M:Own}{d:Nat}{g g':aa}{w:World}
def gm.run(h:gm g g')(a:X.P=PP)(hg:(V.g==0)=false)(b:ay X V q Stop M d g' w):ay X V q Stop M d g w:=by
 refine .oO (S:=eJ) hg 300 (by rw[a];exact h.q) ?_;have e:wu PP false eJ 300 g=g':=h.e;rw[a,h.d,e];exact b
def YQ.run(h:YQ g g')(a:X.P=PP)(hg:(V.g==0)=false)(b:ay X V q Stop M d g' w):ay X V q Stop M d g w:=by
 refine .quiet hg 1 (by rw[a];exact h.q) ?_;rw[a,h.d];exact h.h.run a hg b
end
def zj(n:Nat)(F:Nat->Value):Array Value:=((List.range n).map F).toArray
def Jr{n:Nat}{a:Array Value}{F:Nat->Value}(hs:a.size=n)(h:∀i,i<n->F i=a[i]!):a=zj n F:=by
 apply Array.ext
 ·simp[zj,hs]
 ·intro i b c;simp only[zj,List.getElem_toArray,List.getElem_map,List.getElem_range];rw[h i (by omega)];simp[b]
noncomputable abbrev pt(m:Nat):Value:=.pointer (some ⟨m,0,none⟩)
def F7(m:Nat)(f:Nat->Value)(st:Value)(sv aw:Bool)(it old:Value):Nat->Value
 |0=>.pointer (some ⟨m,0,none⟩)
 |2=>st
 |3=>.bool sv
 |4=>.bool aw
 |5=>it
 |6=>old
 |i=>f i
noncomputable def A7(m:Nat)(f:Nat->Value)(st:Value)(sv aw:Bool)(it old:Value):Array Value:=zj 139 (F7 m f st sv aw it old)
noncomputable def S7(a:Array Value)(td:List Item)(up:List Frame):aa:=G { fn:=116,tmps:=a,todo:=td,defers:=[],mode:=.run,kind:=.normal,roundOf:=none } up
section
variable {g:aa}{m:Nat}{st it old:Value}{sv aw:Bool}{td:List Item}{up:List Frame}
def WS{a:Array Value}(hs:a.size=139)(b:a[0]! = .pointer (some ⟨m,0,none⟩))(c:a[2]! = st)(f:a[3]! = .bool sv)(h:a[4]! = .bool aw)(j:a[5]! = it)(k:a[6]! = old):a=A7 m (λi=>a[i]!) st sv aw it old:=
 Jr hs λi _=>by
  unfold F7
  split<;>first|(rename_i e;subst e;simp only[b,c,f,h,j,k])|simp only[b,c,f,h,j,k]
def gK{a:Type}{b:aa->a}{v:a}(f:ff PP false eJ 300 g:=by exact⟨λ_=>by kernel_rfl,by kernel_rfl⟩)(hd:∀d,xD PP false eJ 300 d g=d:=by intro _;kernel_rfl)(h:TT g=S7 (TT g).frame.tmps td up:=by kernel_rfl)(hs:(TT g).frame.tmps.size=139:=by kernel_rfl)
 (j:(TT g).frame.tmps[0]! = .pointer (some ⟨m,0,none⟩):=by kernel_rfl) (k:(TT g).frame.tmps[2]! = st:=by kernel_rfl) (l:(TT g).frame.tmps[3]! = .bool sv:=by kernel_rfl) (n:(TT g).frame.tmps[4]! = .bool aw:=by kernel_rfl) (o:(TT g).frame.tmps[5]! = it:=by kernel_rfl) (p:(TT g).frame.tmps[6]! = old:=by kernel_rfl)
 (r:b (TT g)=v:=by kernel_rfl):∃f',gm g (S7 (A7 m f' st sv aw it old) td up)/\b (S7 (A7 m f' st sv aw it old) td up)=v:=by
 have e:=WS hs j k l n o p;have c:TT g=S7 (A7 m (λi=>(TT g).frame.tmps[i]!) st sv aw it old) td up:=by rw[<-e];exact h
 exact⟨_,⟨f,hd,c⟩,by rw[<-c];exact r⟩
end
def px(j:Nat)(v:Value)(f:Nat->Value):Nat->Value:=λi=>if i=j then v else f i
def Pp{g:aa}{m:Nat}{st it old:Value}{sv aw:Bool}{td:List Item}{up:List Frame}{a:Type}{b:aa->a}{v:a}{j:Nat}{x:Value}(f:ff PP false eJ 300 g:=by exact⟨λ_=>by kernel_rfl,by kernel_rfl⟩)(hd:∀d,xD PP false eJ 300 d g=d:=by intro _;kernel_rfl)(h:TT g=S7 (TT g).frame.tmps td up:=by kernel_rfl)(hs:(TT g).frame.tmps.size=139:=by kernel_rfl)
 (k:(TT g).frame.tmps[0]! = .pointer (some ⟨m,0,none⟩):=by kernel_rfl) (l:(TT g).frame.tmps[2]! = st:=by kernel_rfl) (n:(TT g).frame.tmps[3]! = .bool sv:=by kernel_rfl) (o:(TT g).frame.tmps[4]! = .bool aw:=by kernel_rfl) (p:(TT g).frame.tmps[5]! = it:=by kernel_rfl) (r:(TT g).frame.tmps[6]! = old:=by kernel_rfl)
 (s:b (TT g)=v:=by kernel_rfl) (t:(TT g).frame.tmps[j]! = x:=by kernel_rfl):∃f',gm g (S7 (A7 m (px j x f') st sv aw it old) td up)/\b (S7 (A7 m (px j x f') st sv aw it old) td up)=v:=by
 have e:=WS hs k l n o p r;have u:(λi=>(TT g).frame.tmps[i]!)=px j x (λi=>(TT g).frame.tmps[i]!):=by
  funext i;unfold px
  split
  ·rename_i e;subst e;exact t
  ·rfl
 rw[u]at e;have c:TT g=S7 (A7 m (px j x (λi=>(TT g).frame.tmps[i]!)) st sv aw it old) td up:=by rw[<-e];exact h
 exact⟨_,⟨f,hd,c⟩,by rw[<-c];exact s⟩
noncomputable def z0:aa:=TT (G (b6 PP 72 #[pt 0] .normal) [default])
noncomputable def z1:aa:=TT (fin z0 (.tuple #[]))
noncomputable def zr0:aa:=TT (fin z1 (.bool false))
noncomputable def CE:aa:=TT (fin zr0 (.int .i32 9))
noncomputable def Ud:aa:=TT (nx PP false CE)
noncomputable def zc1:aa:=TT (fin Ud (.bool true))
noncomputable def FC:aa:=TT (fin zc1 (.bool false))
noncomputable def zr1:aa:=TT (fin FC (.tuple #[]))
noncomputable def xI:aa:=TT (fin Ud (.bool false))
noncomputable def zr3:aa:=TT (fin xI (.bool false))
noncomputable def Te:aa:=TT (fin xI (.bool true))
noncomputable def FD:aa:=TT (fin Te (.int .i64 5))
noncomputable def zn2:aa:=TT (fin FD (.tuple #[]))
noncomputable def WT:aa:=TT (fin zn2 (.int .i64 5))
noncomputable def za1:aa:=TT (fin WT (.int .i32 12))
noncomputable def WU:aa:=TT (fin za1 (.int .i32 5))
noncomputable def zcv:aa:=TT (fin WU (.tuple #[]))
noncomputable def zaq:aa:=TT (fin zcv (pt 0))
variable (m:Nat)(f:Nat->Value)(up:List Frame)
def ail(st it old v:Value)(a b:Bool):∃f',gm (fin (S7 (A7 m f st a b it old) zr0.frame.todo up) v) (S7 (A7 m f' st a b it v) CE.frame.todo up)/\ci (S7 (A7 m f' st a b it v) CE.frame.todo up)=.running:=
 gK
def aim(st it old v:Value)(a b:Bool):∃f',gm (fin (S7 (A7 m f st a b it old) zr1.frame.todo up) v) (S7 (A7 m f' st a b it v) CE.frame.todo up)/\ci (S7 (A7 m f' st a b it v) CE.frame.todo up)=.running:=
 gK
def ain(st it old v:Value)(a b:Bool):∃f',gm (fin (S7 (A7 m f st a b it old) zr3.frame.todo up) v) (S7 (A7 m f' st a b it v) CE.frame.todo up)/\ci (S7 (A7 m f' st a b it v) CE.frame.todo up)=.running:=
 gK
def ada(st it old:Value)(a b:Bool):uo PP false 1 (S7 (A7 m f st a b it old) CE.frame.todo up)/\∀d,YL PP false 1 d (S7 (A7 m f st a b it old) CE.frame.todo up)=d:=⟨⟨λw=>by kernel_rfl,by kernel_rfl⟩,λd=>by kernel_rfl⟩
noncomputable abbrev wv(x:Wd):Value:=.int .i32 ((x.num:Nat):Int)
def YS(st it:Value)(a b w:Bool)(k:Nat)(c:k<=3):∃f',gm (nx PP false (S7 (A7 m f st a b it (wv ⟨true,w,false,k⟩)) CE.frame.todo up)) (S7 (A7 m (px 17 (.bool true) f') st a b it (wv ⟨true,w,false,k⟩)) Ud.frame.todo up)/\az (S7 (A7 m (px 17 (.bool true) f') st a b it (wv ⟨true,w,false,k⟩)) Ud.frame.todo up)=some (121,#[it]):=by
 cases w<;>((obtain rfl|rfl|rfl|rfl:k=0\/k=1\/k=2\/k=3:=by omega))<;>exact Pp
def Ue(st it:Value)(b a w:Bool)(k:Nat)(d:k<=3)(c:a=true->w=true):∃f',gm (nx PP false (S7 (A7 m f st b a it (wv ⟨false,w,false,k⟩)) CE.frame.todo up)) (S7 (A7 m f' st b a it (wv ⟨false,w,false,k⟩)) xI.frame.todo up)/\az (S7 (A7 m f' st b a it (wv ⟨false,w,false,k⟩)) xI.frame.todo up)=some (115,#[pt m,wv ⟨false,w,false,k⟩,wv (qZ { pc:=.c2,old:=⟨false,w,false,k⟩,aw:=a,sv:=b,r:=0 })]):=by
 cases b<;>cases a<;>cases w<;>(first|exact absurd (c rfl) (by decide)|skip)<;>((obtain rfl|rfl|rfl|rfl:k=0\/k=1\/k=2\/k=3:=by omega))<;>exact gK
def Uf(st it:Value)(b a w:Bool)(k:Nat)(d:k<=3)(c:a=true->w=true):∃f',gm (nx PP false (S7 (A7 m f st b a it (wv ⟨false,w,true,k⟩)) CE.frame.todo up)) (S7 (A7 m f' st b a it (wv ⟨false,w,true,k⟩)) xI.frame.todo up)/\az (S7 (A7 m f' st b a it (wv ⟨false,w,true,k⟩)) xI.frame.todo up)=some (115,#[pt m,wv ⟨false,w,true,k⟩,wv (qZ { pc:=.c2,old:=⟨false,w,true,k⟩,aw:=a,sv:=b,r:=0 })]):=by
 cases b<;>cases a<;>cases w<;>(first|exact absurd (c rfl) (by decide)|skip)<;>((obtain rfl|rfl|rfl|rfl:k=0\/k=1\/k=2\/k=3:=by omega))<;>exact gK
def Ug(st it:Value)(b a w:Bool)(k:Nat)(d:k<=3)(c:a=true->w=true):∃f',gm (nx PP false (S7 (A7 m f st b a it (wv ⟨true,w,true,k⟩)) CE.frame.todo up)) (S7 (A7 m f' st b a it (wv ⟨true,w,true,k⟩)) xI.frame.todo up)/\az (S7 (A7 m f' st b a it (wv ⟨true,w,true,k⟩)) xI.frame.todo up)=some (115,#[pt m,wv ⟨true,w,true,k⟩,wv (qZ { pc:=.c2,old:=⟨true,w,true,k⟩,aw:=a,sv:=b,r:=0 })]):=by
 cases b<;>cases a<;>cases w<;>(first|exact absurd (c rfl) (by decide)|skip)<;>((obtain rfl|rfl|rfl|rfl:k=0\/k=1\/k=2\/k=3:=by omega))<;>exact gK
def Uh(st it:Value)(b a w:Bool)(k:Nat)(d:k<=3)(c:a=true->w=true):∃f',gm (fin (S7 (A7 m (px 17 (.bool true) f) st b a it (wv ⟨true,w,false,k⟩)) Ud.frame.todo up) (.bool false)) (S7 (A7 m f' st b a it (wv ⟨true,w,false,k⟩)) xI.frame.todo up)/\az (S7 (A7 m f' st b a it (wv ⟨true,w,false,k⟩)) xI.frame.todo up)=some (115,#[pt m,wv ⟨true,w,false,k⟩,wv (qZ { pc:=.c2,old:=⟨true,w,false,k⟩,aw:=a,sv:=b,r:=0 })]):=by
 cases b<;>cases a<;>cases w<;>(first|exact absurd (c rfl) (by decide)|skip)<;>((obtain rfl|rfl|rfl|rfl:k=0\/k=1\/k=2\/k=3:=by omega))<;>exact gK
def aio(st it:Value)(a:Bool)(k:Nat)(b:k<=3)(c:k≠0):∃f',gm (fin (S7 (A7 m (px 17 (.bool true) f) st a false it (wv ⟨true,false,false,k⟩)) Ud.frame.todo up) (.bool true)) (S7 (A7 m (px 33 (.bool true) f') st a false it (wv ⟨true,false,false,k⟩)) zc1.frame.todo up)/\az (S7 (A7 m (px 33 (.bool true) f') st a false it (wv ⟨true,false,false,k⟩)) zc1.frame.todo up)=some (115,#[pt m,wv ⟨true,false,false,k⟩,wv ⟨true,true,false,k⟩]):=by
 (obtain rfl|rfl|rfl:k=1\/k=2\/k=3:=by omega)<;>exact Pp
def YT(st it:Value)(a w:Bool)(k:Nat)(b:k<=3):∃f',gm (fin (S7 (A7 m (px 17 (.bool true) f) st a true it (wv ⟨true,w,false,k⟩)) Ud.frame.todo up) (.bool true)) (S7 (A7 m f' st a true it (wv ⟨true,w,false,k⟩)) FC.frame.todo up)/\az (S7 (A7 m f' st a true it (wv ⟨true,w,false,k⟩)) FC.frame.todo up)=some (122,#[]):=by
 cases w<;>((obtain rfl|rfl|rfl|rfl:k=0\/k=1\/k=2\/k=3:=by omega))<;>exact gK
def YU(st it:Value)(a:Bool)(k:Nat)(b:k<=3):∃f',gm (fin (S7 (A7 m (px 17 (.bool true) f) st a false it (wv ⟨true,true,false,k⟩)) Ud.frame.todo up) (.bool true)) (S7 (A7 m f' st a false it (wv ⟨true,true,false,k⟩)) FC.frame.todo up)/\az (S7 (A7 m f' st a false it (wv ⟨true,true,false,k⟩)) FC.frame.todo up)=some (122,#[]):=by
 ((obtain rfl|rfl|rfl|rfl:k=0\/k=1\/k=2\/k=3:=by omega))<;>exact gK
def YV(st it:Value)(a:Bool):∃f',gm (fin (S7 (A7 m (px 17 (.bool true) f) st a false it (wv ⟨true,false,false,0⟩)) Ud.frame.todo up) (.bool true)) (S7 (A7 m f' st a false it (wv ⟨true,false,false,0⟩)) FC.frame.todo up)/\az (S7 (A7 m f' st a false it (wv ⟨true,false,false,0⟩)) FC.frame.todo up)=some (122,#[]):=
 gK
def adb(st it old:Value)(a b:Bool):∃f',gm (fin (S7 (A7 m (px 33 (.bool true) f) st a b it old) zc1.frame.todo up) (.bool true)) (S7 (A7 m f' st a true it old) FC.frame.todo up)/\az (S7 (A7 m f' st a true it old) FC.frame.todo up)=some (122,#[]):=
 gK
def ade(st it old:Value)(a b:Bool):∃f',gm (fin (S7 (A7 m (px 33 (.bool true) f) st a b it old) zc1.frame.todo up) (.bool false)) (S7 (A7 m f' st a b it old) FC.frame.todo up)/\az (S7 (A7 m f' st a b it old) FC.frame.todo up)=some (122,#[]):=
 gK
def adf(st old:Value)(it:Int)(a b:Bool):∃f',gm (fin (S7 (A7 m f st a b (.int .i64 it) old) FC.frame.todo up) (.tuple #[])) (S7 (A7 m f' st a b (.int .i64 (IntKind.i64.wrap (it+1))) old) zr1.frame.todo up)/\fj (S7 (A7 m f' st a b (.int .i64 (IntKind.i64.wrap (it+1))) old) zr1.frame.todo up)=some (21,pt m):=
 gK
def adg(st it old:Value)(a b:Bool):∃f',gm (fin (S7 (A7 m f st a b it old) xI.frame.todo up) (.bool false)) (S7 (A7 m f' st a b it old) zr3.frame.todo up)/\fj (S7 (A7 m f' st a b it old) zr3.frame.todo up)=some (21,pt m):=
 gK
def G6(st it:Value)(a b w:Bool)(k:Nat)(c:k<=3):∃f',gm (fin (S7 (A7 m f st a b it (wv ⟨false,w,false,k⟩)) xI.frame.todo up) (.bool true)) (S7 (A7 m f' st a b it (wv ⟨false,w,false,k⟩)) WU.frame.todo up)/\az (S7 (A7 m f' st a b it (wv ⟨false,w,false,k⟩)) WU.frame.todo up)=some (90,#[]):=by
 cases w<;>((obtain rfl|rfl|rfl|rfl:k=0\/k=1\/k=2\/k=3:=by omega))<;>exact gK
def Mp(it:Value)(a b w:Bool)(k:Nat)(c:k<=3):∃f',gm (fin (S7 (A7 m f (.int .i64 0) a b it (wv ⟨false,w,true,k⟩)) xI.frame.todo up) (.bool true)) (S7 (A7 m f' (.int .i64 0) a b it (wv ⟨false,w,true,k⟩)) Te.frame.todo up)/\az (S7 (A7 m f' (.int .i64 0) a b it (wv ⟨false,w,true,k⟩)) Te.frame.todo up)=some (124,#[]):=by
 cases w<;>((obtain rfl|rfl|rfl|rfl:k=0\/k=1\/k=2\/k=3:=by omega))<;>exact gK
def Mq(t:Nat)(it:Value)(a b w:Bool)(k:Nat)(c:k<=3):∃f',gm (fin (S7 (A7 m f (.int .i64 ((t+1:Nat):Int)) a b it (wv ⟨false,w,true,k⟩)) xI.frame.todo up) (.bool true)) (S7 (A7 m f' (.int .i64 ((t+1:Nat):Int)) a b it (wv ⟨false,w,true,k⟩)) FD.frame.todo up)/\gZ (S7 (A7 m f' (.int .i64 ((t+1:Nat):Int)) a b it (wv ⟨false,w,true,k⟩)) FD.frame.todo up)=some (125,some (.pointer (some ⟨m,1,none⟩))):=by
 cases w<;>((obtain rfl|rfl|rfl|rfl:k=0\/k=1\/k=2\/k=3:=by omega))<;>exact gK
def Mr(it:Value)(a b w:Bool)(k:Nat)(c:k<=3):∃f',gm (fin (S7 (A7 m f (.int .i64 0) a b it (wv ⟨true,w,true,k⟩)) xI.frame.todo up) (.bool true)) (S7 (A7 m f' (.int .i64 0) a b it (wv ⟨true,w,true,k⟩)) Te.frame.todo up)/\az (S7 (A7 m f' (.int .i64 0) a b it (wv ⟨true,w,true,k⟩)) Te.frame.todo up)=some (124,#[]):=by
 cases w<;>((obtain rfl|rfl|rfl|rfl:k=0\/k=1\/k=2\/k=3:=by omega))<;>exact gK
def Ms(t:Nat)(it:Value)(a b w:Bool)(k:Nat)(c:k<=3):∃f',gm (fin (S7 (A7 m f (.int .i64 ((t+1:Nat):Int)) a b it (wv ⟨true,w,true,k⟩)) xI.frame.todo up) (.bool true)) (S7 (A7 m f' (.int .i64 ((t+1:Nat):Int)) a b it (wv ⟨true,w,true,k⟩)) FD.frame.todo up)/\gZ (S7 (A7 m f' (.int .i64 ((t+1:Nat):Int)) a b it (wv ⟨true,w,true,k⟩)) FD.frame.todo up)=some (125,some (.pointer (some ⟨m,1,none⟩))):=by
 cases w<;>((obtain rfl|rfl|rfl|rfl:k=0\/k=1\/k=2\/k=3:=by omega))<;>exact gK
def Mt(it:Value)(a b w:Bool)(k:Nat)(c:k<=3):∃f',gm (fin (S7 (A7 m f (.int .i64 0) a b it (wv ⟨true,w,false,k⟩)) xI.frame.todo up) (.bool true)) (S7 (A7 m f' (.int .i64 0) a b it (wv ⟨true,w,false,k⟩)) Te.frame.todo up)/\az (S7 (A7 m f' (.int .i64 0) a b it (wv ⟨true,w,false,k⟩)) Te.frame.todo up)=some (124,#[]):=by
 cases w<;>((obtain rfl|rfl|rfl|rfl:k=0\/k=1\/k=2\/k=3:=by omega))<;>exact gK
def Mw(t:Nat)(it:Value)(a b w:Bool)(k:Nat)(c:k<=3):∃f',gm (fin (S7 (A7 m f (.int .i64 ((t+1:Nat):Int)) a b it (wv ⟨true,w,false,k⟩)) xI.frame.todo up) (.bool true)) (S7 (A7 m f' (.int .i64 ((t+1:Nat):Int)) a b it (wv ⟨true,w,false,k⟩)) FD.frame.todo up)/\gZ (S7 (A7 m f' (.int .i64 ((t+1:Nat):Int)) a b it (wv ⟨true,w,false,k⟩)) FD.frame.todo up)=some (125,some (.pointer (some ⟨m,1,none⟩))):=by
 cases w<;>((obtain rfl|rfl|rfl|rfl:k=0\/k=1\/k=2\/k=3:=by omega))<;>exact gK
def aip(st it old v:Value)(a b:Bool):∃f',gm (fin (S7 (A7 m f st a b it old) Te.frame.todo up) v) (S7 (A7 m f' v a b it old) FD.frame.todo up)/\gZ (S7 (A7 m f' v a b it old) FD.frame.todo up)=some (125,some (.pointer (some ⟨m,1,none⟩))):=
 gK
def adh(st it old:Value)(a:Bool):∃f',gm (fin (S7 (A7 m f st true a it old) FD.frame.todo up) (.tuple #[])) (S7 (A7 m f' st true a it old) WT.frame.todo up)/\fj (S7 (A7 m f' st true a it old) WT.frame.todo up)=some (21,pt m):=
 gK
def adi(st it old:Value)(a:Bool):∃f',gm (fin (S7 (A7 m f st false a it old) FD.frame.todo up) (.tuple #[])) (S7 (A7 m (px 95 (.bool false) f') st false a it old) zn2.frame.todo up)/\az (S7 (A7 m (px 95 (.bool false) f') st false a it old) zn2.frame.todo up)=some (124,#[]):=
 Pp
def aiq(it old:Value)(st v:Int)(a:Bool):∃f',gm (fin (S7 (A7 m (px 95 (.bool false) f) (.int .i64 st) false a it old) zn2.frame.todo up) (.int .i64 v)) (S7 (A7 m f' (.int .i64 st) (decide (IntKind.i64.wrap (v-st) > 1000000)) a it old) WT.frame.todo up)/\fj (S7 (A7 m f' (.int .i64 st) (decide (IntKind.i64.wrap (v-st) > 1000000)) a it old) WT.frame.todo up)=some (21,pt m):=
 gK
def adj(st it old:Value)(a b l w:Bool)(k:Nat)(c:k<=3):∃f',gm (fin (S7 (A7 m f st a b it old) WT.frame.todo up) (wv ⟨l,w,false,k⟩)) (S7 (A7 m f' st a true (.int .i64 0) (wv ⟨l,w,false,k⟩)) CE.frame.todo up)/\ci (S7 (A7 m f' st a true (.int .i64 0) (wv ⟨l,w,false,k⟩)) CE.frame.todo up)=.running:=by
 cases l<;>cases w<;>((obtain rfl|rfl|rfl|rfl:k=0\/k=1\/k=2\/k=3:=by omega))<;>exact gK
def adk(st it old:Value)(a b:Bool)(k:Nat)(c:k<=3)(d:k≠0):∃f',gm (fin (S7 (A7 m f st a b it old) WT.frame.todo up) (wv ⟨false,false,true,k⟩)) (S7 (A7 m f' st a b it (wv ⟨false,false,true,k⟩)) za1.frame.todo up)/\az (S7 (A7 m f' st a b it (wv ⟨false,false,true,k⟩)) za1.frame.todo up)=some (117,#[pt m,.int .i32 (if(!a||k==1) then -11 else -7)]):=by
 cases a<;>(obtain rfl|rfl|rfl:k=1\/k=2\/k=3:=by omega)<;>exact gK
def air(st it old v:Value)(a b:Bool):∃f',gm (fin (S7 (A7 m f st a b it old) za1.frame.todo up) v) (S7 (A7 m f' st a b it old) WU.frame.todo up)/\az (S7 (A7 m f' st a b it old) WU.frame.todo up)=some (90,#[]):=
 gK
def ais(st it old:Value)(a b:Bool):∃f',gm (fin (S7 (A7 m f st a b it old) WU.frame.todo up) (.tuple #[])) (S7 (A7 m f' st a b it old) zcv.frame.todo up)/\gu (S7 (A7 m f' st a b it old) zcv.frame.todo up)=some (178,157,pt m):=
 gK
def ait(st it old:Value)(a b:Bool):∃f',gm (fin (S7 (A7 m f st a b it old) zcv.frame.todo up) (pt m)) (S7 (A7 m f' st a b it old) zaq.frame.todo up)/\az (S7 (A7 m f' st a b it old) zaq.frame.todo up)=some (103,#[pt m]):=
 gK
structure Out(g:aa)(c0:Frame)(cs:List Frame):Prop where
 q:ff PP false eJ 300 g
 d:∀d,xD PP false eJ 300 d g=d
 q1:uo PP false 1 (TT g)
 d1:∀d,YL PP false 1 d (TT g)=d
 e:adv PP false 1 (TT g)=G (c0.finish (.tuple #[])) cs
def Out.run{X:Fix}{V:Vw}{q:Bool}{Stop:Stp}{M:Own}{d:Nat}{g:aa}{w:World}{c0:Frame}{cs:List Frame}(h:Out g c0 cs)(a:X.P=PP)(hg:(V.g==0)=false)(b:ay X V q Stop M d (G (c0.finish (.tuple #[])) cs) w):ay X V q Stop M d g w:=by
 refine .oO (S:=eJ) hg 300 (by rw[a];exact h.q) ?_;refine .quiet hg 1 (by rw[a];exact h.q1) ?_;rw[a,h.d,h.d1];have e:=h.e;unfold TT at e;rw[e];exact b
def lB{g g':aa}(e:g'=TT g)(a:ff PP false eJ 300 g:=by exact⟨λ_=>by kernel_rfl,by kernel_rfl⟩)(hd:∀d,xD PP false eJ 300 d g=d:=by intro _;kernel_rfl):gm g g':=⟨a,hd,e.symm⟩
section
variable (m:Nat)(c0:Frame)(cs:List Frame)
noncomputable def yE:aa:=G (b6 PP 72 #[pt m] .normal) (c0::cs)
noncomputable def y0:aa:=TT (yE m c0 cs)
noncomputable def y1:aa:=TT (fin (y0 m c0 cs) (.tuple #[]))
noncomputable def y2:aa:=TT (fin (y1 m c0 cs) (.bool true))
noncomputable def y3:aa:=TT (fin (y2 m c0 cs) (.tuple #[]))
noncomputable def y4:aa:=TT (fin (y3 m c0 cs) (pt m))
noncomputable def iw:List Frame:=(TT (fin (y1 m c0 cs) (.bool false))).callers
def l_E:gm (yE m c0 cs) (y0 m c0 cs):=lB (by delta y0;rfl)
def aiu:az (y0 m c0 cs)=some (89,#[]):=by kernel_rfl
def l_0:gm (fin (y0 m c0 cs) (.tuple #[])) (y1 m c0 cs):=lB (by delta y1;rfl)
def l_1:gm (fin (y1 m c0 cs) (.bool true)) (y2 m c0 cs):=lB (by delta y2;rfl)
def aiv:az (y2 m c0 cs)=some (90,#[]):=by kernel_rfl
def l_2:gm (fin (y2 m c0 cs) (.tuple #[])) (y3 m c0 cs):=lB (by delta y3;rfl)
def aiw:gu (y3 m c0 cs)=some (178,157,pt m):=by kernel_rfl
def l_3:gm (fin (y3 m c0 cs) (pt m)) (y4 m c0 cs):=lB (by delta y4;rfl)
def aix:az (y4 m c0 cs)=some (103,#[pt m]):=by kernel_rfl
def l_4:Out (fin (y4 m c0 cs) (.tuple #[])) c0 cs:=⟨⟨λw=>by kernel_rfl,by kernel_rfl⟩,λd=>by kernel_rfl,⟨λw=>by kernel_rfl,by kernel_rfl⟩,λd=>by kernel_rfl,by kernel_rfl⟩
def l_s:∃f',gm (fin (y1 m c0 cs) (.bool false)) (S7 (A7 m f' (.int .i64 0) false false (.int .i64 0) undef) zr0.frame.todo (iw m c0 cs))/\fj (S7 (A7 m f' (.int .i64 0) false false (.int .i64 0) undef) zr0.frame.todo (iw m c0 cs))=some (21,pt m):=
 gK
def l_e(f:Nat->Value)(st it old:Value)(a b:Bool):Out (fin (S7 (A7 m f st a b it old) zaq.frame.todo (iw m c0 cs)) (.tuple #[])) c0 cs:=
 ⟨⟨λw=>by kernel_rfl,by kernel_rfl⟩,λd=>by kernel_rfl,⟨λw=>by kernel_rfl,by kernel_rfl⟩,λd=>by kernel_rfl,by kernel_rfl⟩
end
def F4(m:Nat)(f:Nat->Value):Nat->Value
 |0=>.pointer (some ⟨m,0,none⟩)
 |i=>f i
noncomputable def A4(m:Nat)(f:Nat->Value):Array Value:=zj 21 (F4 m f)
noncomputable def mY(a:Array Value)(td:List Item):Frame:={ fn:=102,tmps:=a,todo:=td,defers:=[],mode:=.run,kind:=.normal,roundOf:=none }
def F9(m:Nat)(f:Nat->Value)(old:Value):Nat->Value
 |0=>.pointer (some ⟨m,0,none⟩)
 |4=>old
 |i=>f i
noncomputable def A9(m:Nat)(f:Nat->Value)(old:Value):Array Value:=zj 43 (F9 m f old)
noncomputable def vk(a:Array Value)(td:List Item):Frame:={ fn:=118,tmps:=a,todo:=td,defers:=[],mode:=.run,kind:=.normal,roundOf:=none }
section
variable {g:aa}{m:Nat}{old:Value}{td td4:List Item}{up:List Frame}
def WV{a:Array Value}(hs:a.size=21)(b:a[0]! = .pointer (some ⟨m,0,none⟩)):a=A4 m (λi=>a[i]!):=
 Jr hs λi _=>by
  unfold F4
  split<;>first|exact b.symm|rfl
def adl{a:Array Value}(hs:a.size=43)(b:a[0]! = .pointer (some ⟨m,0,none⟩))(c:a[4]! = old):a=A9 m (λi=>a[i]!) old:=
 Jr hs λi _=>by
  unfold F9
  split<;>first|exact b.symm|exact c.symm|rfl
def Ui{a:Type}{b:aa->a}{v:a}(h:ff PP false eJ 300 g:=by exact⟨λ_=>by kernel_rfl,by kernel_rfl⟩)(hd:∀d,xD PP false eJ 300 d g=d:=by intro _;kernel_rfl)(j:TT g=G (mY (TT g).frame.tmps td) up:=by kernel_rfl)(hs:(TT g).frame.tmps.size=21:=by kernel_rfl)
 (k:(TT g).frame.tmps[0]! = .pointer (some ⟨m,0,none⟩):=by kernel_rfl) (l:b (TT g)=v:=by kernel_rfl):∃f',gm g (G (mY (A4 m f') td) up)/\b (G (mY (A4 m f') td) up)=v:=by
 have e:=WV hs k;have c:TT g=G (mY (A4 m (λi=>(TT g).frame.tmps[i]!)) td) up:=by rw[<-e];exact j
 exact⟨_,⟨h,hd,c⟩,by rw[<-c];exact l⟩
def Pq{c:Type}{h:aa->c}{v:c}(k:ff PP false eJ 300 g:=by exact⟨λ_=>by kernel_rfl,by kernel_rfl⟩)(hd:∀d,xD PP false eJ 300 d g=d:=by intro _;kernel_rfl)(l:TT g=G (vk (TT g).frame.tmps td) (mY (TT g).callers.head!.tmps td4::up):=by kernel_rfl)(hs:(TT g).frame.tmps.size=43:=by kernel_rfl)
 (n:(TT g).frame.tmps[0]! = .pointer (some ⟨m,0,none⟩):=by kernel_rfl) (o:(TT g).frame.tmps[4]! = old:=by kernel_rfl) (a:(TT g).callers.head!.tmps.size=21:=by kernel_rfl) (b:(TT g).callers.head!.tmps[0]! = .pointer (some ⟨m,0,none⟩):=by kernel_rfl) (p:h (TT g)=v:=by kernel_rfl) :
 ∃f' f4,gm g (G (vk (A9 m f' old) td) (mY (A4 m f4) td4::up))/\h (G (vk (A9 m f' old) td) (mY (A4 m f4) td4::up))=v:=by
 have e:=adl hs n o;have q:=WV a b;have j:TT g=G (vk (A9 m (λi=>(TT g).frame.tmps[i]!) old) td) (mY (A4 m (λi=>(TT g).callers.head!.tmps[i]!)) td4::up):=by rw[<-e,<-q];exact l
 exact⟨_,_,⟨k,hd,j⟩,by rw[<-j];exact p⟩
end
section
variable (m:Nat)(c0:Frame)(cs:List Frame)
noncomputable def xE:aa:=G (b6 PP 73 #[pt m] .normal) (c0::cs)
noncomputable def x0:aa:=TT (xE m c0 cs)
noncomputable def x1(v:Int):aa:=TT (fin (x0 m c0 cs) (.int .i32 v))
noncomputable def x2(v:Int):aa:=TT (fin (x1 m c0 cs v) (pt m))
noncomputable def x3(v:Int):aa:=TT (fin (x2 m c0 cs v) (.tuple #[]))
noncomputable def x4(v:Int):aa:=TT (fin (x3 m c0 cs v) (.tuple #[]))
noncomputable def tN:List Frame:=(x0 m c0 cs).callers
def u_E:gm (xE m c0 cs) (x0 m c0 cs):=lB (by delta x0;rfl)
def aiy:fj (x0 m c0 cs)=some (21,pt m):=by kernel_rfl
def u_0(v:Int):gm (fin (x0 m c0 cs) (.int .i32 v)) (x1 m c0 cs v):=lB (by delta x1;rfl)
def aiz(v:Int):gu (x1 m c0 cs v)=some (178,157,pt m):=by kernel_rfl
def u_1(v:Int):gm (fin (x1 m c0 cs v) (pt m)) (x2 m c0 cs v):=lB (by delta x2;rfl)
def aiA(v:Int):az (x2 m c0 cs v)=some (88,#[pt m]):=by kernel_rfl
def u_2(v:Int):gm (fin (x2 m c0 cs v) (.tuple #[])) (x3 m c0 cs v):=lB (by delta x3;rfl)
def aiB(v:Int):az (x3 m c0 cs v)=some (89,#[]):=by kernel_rfl
def u_3(v:Int):gm (fin (x3 m c0 cs v) (.tuple #[])) (x4 m c0 cs v):=lB (by delta x4;rfl)
def aiC(v:Int):az (x4 m c0 cs v)=some (117,#[pt m,.int .i32 (-1)]):=by kernel_rfl
end
noncomputable def wx4:aa:=x4 0 default [] 0
noncomputable def Pt:aa:=TT (fin wx4 (.int .i32 0))
noncomputable def Tf:aa:=TT (fin wx4 (.int .i32 8))
noncomputable def wus:aa:=TT (fin Tf (.bool true))
noncomputable def wux:aa:=TT (fin Tf (.bool false))
noncomputable def wuh:aa:=TT (fin wx4 (.int .i32 4))
noncomputable def w4:List Item:=Tf.callers.head!.todo
section
variable (m:Nat)(c0:Frame)(cs:List Frame)(f f4:Nat->Value)
def YW(v:Int)(w:Bool)(k:Nat)(a:k<=3)(h:k=0\/w=true):∃f',gm (fin (x4 m c0 cs v) (wv ⟨false,w,false,k⟩)) (G (mY (A4 m f') Pt.frame.todo) (tN m c0 cs))/\az (G (mY (A4 m f') Pt.frame.todo) (tN m c0 cs))=some (90,#[]):=by
 cases w<;>(obtain rfl|rfl|rfl|rfl:k=0\/k=1\/k=2\/k=3:=by omega)<;>(first|exact absurd h (by decide)|skip)<;>exact Ui
def YX(v:Int)(w:Bool)(k:Nat)(b:k<=3):∃f' a,gm (fin (x4 m c0 cs v) (wv ⟨false,w,true,k⟩)) (G (vk (A9 m f' undef) wuh.frame.todo) (mY (A4 m a) w4::tN m c0 cs))/\gZ (G (vk (A9 m f' undef) wuh.frame.todo) (mY (A4 m a) w4::tN m c0 cs))=some (127,some (.pointer (some ⟨m,1,none⟩))):=by
 cases w<;>(obtain rfl|rfl|rfl|rfl:k=0\/k=1\/k=2\/k=3:=by omega)<;>exact Pq
def YY(v:Int)(k:Nat)(b:k<=3)(c:k≠0):∃f' a,gm (fin (x4 m c0 cs v) (wv ⟨false,false,false,k⟩)) (G (vk (A9 m f' (wv ⟨false,false,false,k⟩)) Tf.frame.todo) (mY (A4 m a) w4::tN m c0 cs))/\az (G (vk (A9 m f' (wv ⟨false,false,false,k⟩)) Tf.frame.todo) (mY (A4 m a) w4::tN m c0 cs))=some (115,#[pt m,wv ⟨false,false,false,k⟩,wv ⟨false,true,false,k-1⟩]):=by
 (obtain rfl|rfl|rfl:k=1\/k=2\/k=3:=by omega)<;>exact Pq
def adp(old:Value):∃f' a,gm (fin (G (vk (A9 m f old) Tf.frame.todo) (mY (A4 m f4) w4::tN m c0 cs)) (.bool true)) (G (vk (A9 m f' old) wus.frame.todo) (mY (A4 m a) w4::tN m c0 cs))/\gZ (G (vk (A9 m f' old) wus.frame.todo) (mY (A4 m a) w4::tN m c0 cs))=some (127,some (.pointer (some ⟨m,1,none⟩))):=by
 exact Pq
def adq(old:Value):∃f' a,gm (fin (G (vk (A9 m f old) Tf.frame.todo) (mY (A4 m f4) w4::tN m c0 cs)) (.bool false)) (G (vk (A9 m f' old) wux.frame.todo) (mY (A4 m a) w4::tN m c0 cs))/\fj (G (vk (A9 m f' old) wux.frame.todo) (mY (A4 m a) w4::tN m c0 cs))=some (21,pt m):=by
 exact Pq
def Uj(old:Value)(l w s:Bool)(k:Nat)(a:k<=3)(h:k=0\/l=true\/w=true\/s=true):∃f',gm (fin (G (vk (A9 m f old) wux.frame.todo) (mY (A4 m f4) w4::tN m c0 cs)) (wv ⟨l,w,s,k⟩)) (G (mY (A4 m f') Pt.frame.todo) (tN m c0 cs))/\az (G (mY (A4 m f') Pt.frame.todo) (tN m c0 cs))=some (90,#[]):=by
 cases l<;>cases w<;>cases s<;>(obtain rfl|rfl|rfl|rfl:k=0\/k=1\/k=2\/k=3:=by omega)<;>(first|exact absurd h (by decide)|skip)<;>exact Ui
def Uk(old:Value)(k:Nat)(b:k<=3)(c:k≠0):∃f' a,gm (fin (G (vk (A9 m f old) wux.frame.todo) (mY (A4 m f4) w4::tN m c0 cs)) (wv ⟨false,false,false,k⟩)) (G (vk (A9 m f' (wv ⟨false,false,false,k⟩)) Tf.frame.todo) (mY (A4 m a) w4::tN m c0 cs))/\az (G (vk (A9 m f' (wv ⟨false,false,false,k⟩)) Tf.frame.todo) (mY (A4 m a) w4::tN m c0 cs))=some (115,#[pt m,wv ⟨false,false,false,k⟩,wv ⟨false,true,false,k-1⟩]):=by
 (obtain rfl|rfl|rfl:k=1\/k=2\/k=3:=by omega)<;>exact Pq
def aiE(old:Value):∃f',gm (fin (G (vk (A9 m f old) wus.frame.todo) (mY (A4 m f4) w4::tN m c0 cs)) (.tuple #[])) (G (mY (A4 m f') Pt.frame.todo) (tN m c0 cs))/\az (G (mY (A4 m f') Pt.frame.todo) (tN m c0 cs))=some (90,#[]):=by
 exact Ui
def aiF(old:Value):∃f',gm (fin (G (vk (A9 m f old) wuh.frame.todo) (mY (A4 m f4) w4::tN m c0 cs)) (.tuple #[])) (G (mY (A4 m f') Pt.frame.todo) (tN m c0 cs))/\az (G (mY (A4 m f') Pt.frame.todo) (tN m c0 cs))=some (90,#[]):=by
 exact Ui
def u_e:Out (fin (G (mY (A4 m f) Pt.frame.todo) (tN m c0 cs)) (.tuple #[])) c0 cs:=
 ⟨⟨λw=>by kernel_rfl,by kernel_rfl⟩,λd=>by kernel_rfl,⟨λw=>by kernel_rfl,by kernel_rfl⟩,λd=>by kernel_rfl,by kernel_rfl⟩
end
end Go.Proofs
namespace Go.Proofs
open Go.Ph Go.Conc
set_option maxRecDepth 100000
def adr:cw PP 89 false (λ_=>do mark .disable;pure ca):=⟨Tryz.f89,by kernel_rfl,by kernel_rfl,by kernel_rfl,by kernel_rfl,by kernel_rfl,by kernel_rfl⟩
def ads:cw PP 90 false (λ_=>do mark .enable;pure ca):=⟨Tryz.f90,by kernel_rfl,by kernel_rfl,by kernel_rfl,by kernel_rfl,by kernel_rfl,by kernel_rfl⟩
def adt:cw PP 88 false (cb .releaseMerge):=⟨Tryz.f88,by kernel_rfl,by kernel_rfl,by kernel_rfl,by kernel_rfl,by kernel_rfl,by kernel_rfl⟩
def adu:cw PP 103 false (cb .acquire):=⟨Tryz.f103,by kernel_rfl,by kernel_rfl,by kernel_rfl,by kernel_rfl,by kernel_rfl,by kernel_rfl⟩
def adw:cw PP 115 true (Extern.Atomic.casT (.int .i32)):=⟨Tryz.f115,by kernel_rfl,by kernel_rfl,by kernel_rfl,by kernel_rfl,by kernel_rfl,by kernel_rfl⟩
def aiG:cw PP 117 true (Extern.Atomic.update (Op.intArith .add) .i32 true):=⟨Tryz.f117,by kernel_rfl,by kernel_rfl,by kernel_rfl,by kernel_rfl,by kernel_rfl,by kernel_rfl⟩
def aiH:cw PP 121 true cd:=⟨Tryz.f121,by kernel_rfl,by kernel_rfl,by kernel_rfl,by kernel_rfl,by kernel_rfl,by kernel_rfl⟩
def aiI:cw PP 122 true ce:=⟨Tryz.f122,by kernel_rfl,by kernel_rfl,by kernel_rfl,by kernel_rfl,by kernel_rfl,by kernel_rfl⟩
def aiJ:cw PP 124 true Extern.OsHooks.nano:=⟨Tryz.f124,by kernel_rfl,by kernel_rfl,by kernel_rfl,by kernel_rfl,by kernel_rfl,by kernel_rfl⟩
def adx:cw PP 125 true cg:=⟨Tryz.f125,by kernel_rfl,by kernel_rfl,by kernel_rfl,by kernel_rfl,by kernel_rfl,by kernel_rfl⟩
def aiK:cw PP 127 true ch:=⟨Tryz.f127,by kernel_rfl,by kernel_rfl,by kernel_rfl,by kernel_rfl,by kernel_rfl,by kernel_rfl⟩
def Js:(PP.funcs[116]?).any (·.norace)=true:=by kernel_rfl
def ady:(PP.funcs[118]?).any (·.norace)=true:=by kernel_rfl
def u21:PP.underlying 21=some (.int .i32):=by kernel_rfl
def u237:PP.underlying 178=some (.pointer 130):=by kernel_rfl
def u216:PP.underlying 157=some .unsafePointer:=by kernel_rfl
def aiM:(PP.info? 130).map (λi=>decide (i.size=0))=some false:=by kernel_rfl
end Go.Proofs
