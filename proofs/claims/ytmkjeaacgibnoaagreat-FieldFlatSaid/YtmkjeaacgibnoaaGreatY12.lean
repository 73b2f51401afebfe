/- Part of the proof of FieldFlat and FieldMarshals. -/
import Derived.Test.YtmkjeaacgibnoaaGreatY11
import Derived.Conc.FxBegin
set_option linter.all false
open Go renaming Goroutine->aa
open Go.ConcR renaming mk->ab
open Go.ConcN renaming sumTo_upd->ac,upd_ne->ae,upd_same->ag,le_sumTo->ai,sumTo_le->ao,sumTo_congr->ar
open Nat renaming le_refl->aw,zero_le->aB,lt_or_ge->aH
open Go.Ph renaming nobody->aI
open Go.MemOp renaming ofEvents->aJ
open List renaming mem_toArray->aL,mem_cons->aP,not_mem_nil->aT
open Array renaming getElem?_push_lt->a5,getElem?_eq_getElem->a6,getElem?_setIfInBounds_ne->a7,size_push->a8,size_setIfInBounds->a9
open Option.some renaming inj->ba
open Go.Conc renaming mem_ofEvents->bb,awake_of->bc,runT_crowd_go->bd
namespace Go.Ph
open Go.Conc Go.ConcN
open Go.ConcM (MuAt muA msA OsLater muBlock)
open Go.ConcR (KK WgAt stA smA rd wr)
open Go.cD (Wd Th Mv Head eR spin mU ja)
section
variable {Y:CB}{G G':Gh}{gs:Array aa}{w w':World}{t:Trace}{a b d d':Nat}{g g':aa}{es:Array Event}{M':Own}{q:Bool}
def lU:fv .mu=1:=rfl
def nH:fv .d1=1:=rfl
def oE:fv .d2=0:=rfl
def oF:fv .d3=0:=rfl
def oG:fv .d4=0:=rfl
def gV:fv .quit=0:=rfl
def oH:fd .mu=0:=rfl
def oI:fd .d1=0:=rfl
def nI:fd .d2=1:=rfl
def nJ:fd .d3=1:=rfl
def oJ:fd .d4=0:=rfl
def gW:fd .quit=0:=rfl
def oK:f4 .mu=0:=rfl
def oL:f4 .d1=0:=rfl
def oM:f4 .d2=0:=rfl
def oN:f4 .d3=0:=rfl
def nK:f4 .d4=1:=rfl
def gX:f4 .quit=0:=rfl
def acU(n j v v':Nat)(p:MP):wM n j v' p<=wM n j v p+3:=by
 cases p<;>simp only[wM]<;>(repeat' split)<;>omega
def MI.GH(m:MI Y G gs w t)(hF:nG Y){k:Nat}(D:k<G.j)(hg:gs[gid Y (k+1)]?=some g){p':WP}{s':Sh}(S:G.wp k≠.quit)(J:(G.th k).pc=.out)(y:p'≠.mu)
 (hs:stepG Y.P (gid Y (k+1)==0) g w=.go g' w' es) (K:ShAt Y.toFix w' s') (o:s'.mw=G.s.mw) (E:s'.ms=G.s.ms)
 (L:Dl Y.toFix (G.V (k+1)) (G.q? (k+1)) (G.M (k+1)) (Deaf t (gid Y (k+1))) w w' es M' d') (F:g'.status=.running)
 (N:(p'≠.quit/\ay Y.toFix (G.V (k+1)) true (NH Y (G.V (k+1)) k (G.fu (k+1)) (G.th k) p') M' d' g' w')\/(p'=.quit/\∃n,QuitsD Y.P n d' g'))
 (hrel:G.wp k≠.mu\/(es=#[ab (.releaseMerge (stA Y.Wg))]/\Deaf t (Y.c+k)=0/\Y.Fin k w'))
 (z:G.s.ws=0->s'.ws=0\/mayWake Y.P g=true)
 (A:∀q:Nat->Nat,∀M tr,WI Y { G with wp:=upd G.wp k p',M:=M,tr:=tr,q:=q,s:=s' }) (B:wW p'+3<wW (G.wp k)\/(wW p'<wW (G.wp k)/\s'.v=G.s.v)):Made Y G gs w t (k+1) g:=by
 obtain⟨f,n,O⟩:∃(f:Tree)(n:Nat),(p'≠.quit/\jA Y.toFix (G.V (k+1)) true (NH Y (G.V (k+1)) k (G.fu (k+1)) (G.th k) p') f M' d' g' w')\/(p'=.quit/\QuitsD Y.P n d' g'):=by
  rcases N with⟨h,f,l⟩|⟨h,n,l⟩
  ·exact⟨f,0,.inl ⟨h,l⟩⟩
  ·exact⟨.leaf,n,.inr ⟨h,l⟩⟩
 have Q:∀q M tr,phi Y { G with wp:=upd G.wp k p',M:=M,tr:=tr,q:=q,s:=s' }=phi Y G:=by
  intro q M tr;have:oD { G with wp:=upd G.wp k p',M:=M,tr:=tr,q:=q,s:=s' }=oD G:=by simp[oD,o,E]
  unfold phi;rw[this]
 have H:∀q M tr,vK Y { G with wp:=upd G.wp k p',M:=M,tr:=tr,q:=q,s:=s' }<vK Y G:=by
  intro q M tr;have e:=ac (j:=G.j) G.wp p' wW D;unfold vK;simp only
  rcases B with B|⟨B,hv⟩
  ·have:=acU Y.n G.j G.s.v s'.v G.mp;omega
  ·rw[hv];omega
 have key:=MI.own (G':={ G with wp:=upd G.wp k p',M:=upd G.M (k+1) M',tr:=upd G.tr (k+1) f,q:=upd G.q (Y.c+k) n,s:=s' }) (g':=g') m hF (show k+1<=G.j from D) hg L rfl rfl rfl (λi hi=>ae _ _ (by rwa[bQ]at hi))
  (λb hb C=>by
    cases b with
    |zero=>exact⟨ae G.tr f C,rfl,rfl,Iff.rfl⟩
    |succ b=>
     have p:b≠k:=by omega
     exact⟨ae _ _ C,by simp only[Gh.um,ae _ _ p],by simp only[Gh.q?,ae _ _ p],by simp only[Gh.gone,ae _ _ p]⟩)
  (λb hb C I=>by
    cases b with
    |zero=>
     obtain⟨x1,x2⟩:=I;exact(z x2).imp (λx=>⟨x1,x⟩) λx=>⟨x,F⟩
    |succ b=>
     have p:b≠k:=by omega
     obtain⟨x1,x2,x3⟩:=I
     exact .inl ⟨by simp only[ae _ _ p];exact x1,x2,by simp only;omega⟩)
  (λk' u r=>by
    by_cases e:k'=k
    ·subst e;exact hrel.imp id λx=>⟨rfl,x⟩
    ·simp only[ae _ _ e]at r;exact .inl r)
  (λR=>.inl R)
  (by
    rcases O with⟨h,l⟩|⟨h,l⟩
    ·refine .run (by simp only[Gh.gone,ag];exact h) F ?_;simp only[Gh.um,Gh.q?,ag];rw[decide_eq_true y];exact l
    ·refine .gone (by simp only[Gh.gone,ag];exact h) ?_;simp only[bQ,ag]
     exact l)
  K (by simp only[oD,o,E];exact m.mun) (λ_ _=>rfl)
  (λk' u r=>by
    by_cases e:k'=k
    ·subst e;exact J
    ·simp only[ae _ _ e]at r;exact m.out k' u r)
  (A _ _ _) (λk' u=>by rw[Q];exact m.fuel k' u) (by have:=H (upd G.q (Y.c+k) n) (upd G.M (k+1) M') (upd G.tr (k+1) f);have:=m.fuel0;simp only at *;omega)
 exact⟨g',w',es,_,hs,key,.inl (H _ _ _)⟩
def WI.GJ(_:WI Y G){k:Nat}(e:k<G.j)(p':WP):sumTo G.j (λi=>fv (upd G.wp k p' i))+fv (G.wp k)=sumTo G.j (λi=>fv (G.wp i))+fv p'/\
 sumTo G.j (λi=>fd (upd G.wp k p' i))+fd (G.wp k)=sumTo G.j (λi=>fd (G.wp i))+fd p'/\sumTo G.j (λi=>f4 (upd G.wp k p' i))+f4 (G.wp k)=sumTo G.j (λi=>f4 (G.wp i))+f4 p'/\
 fv (G.wp k)<=sumTo G.j (λi=>fv (G.wp i))/\fd (G.wp k)<=sumTo G.j (λi=>fd (G.wp i))/\f4 (G.wp k)<=sumTo G.j (λi=>f4 (G.wp i))/\sumTo G.j (λi=>fv (G.wp i))<=G.j:=by
 refine⟨ac G.wp p' fv e,ac G.wp p' fd e,ac G.wp p' f4 e,ai (f:=λi=>fv (G.wp i)) e,ai (f:=λi=>fd (G.wp i)) e,ai (f:=λi=>f4 (G.wp i)) e,?_⟩;have:=ao (f:=λi=>fv (G.wp i)) (c:=1) (j:=G.j) λi _=>by cases G.wp i<;>simp[fv]
 omega
def WI.Jl(h:WI Y G){k:Nat}(c:k<G.j)(f:G.wp k≠.quit):G.mp≠.w4/\G.mp≠.aq/\G.mp≠.an:=
 ⟨λe=>f ((h.done (.inl e)).2.2.2 k c),λe=>f ((h.done (.inr (.inl e))).2.2.2 k c),λe=>f ((h.done (.inr (.inr e))).2.2.2 k c)⟩
def WI.cases(h:WI Y G){k:Nat}(c:k<G.j)(f:G.wp k≠.quit):(G.mp=.add\/G.mp=.go\/G.mp=.w1\/∃v,G.mp=.w2 v)\/G.mp=.w3:=by
 obtain⟨i,l,m⟩:=h.Jl c f
 cases e:G.mp with
 |add=>exact .inl (.inl rfl)
 |go=>exact .inl (.inr (.inl rfl))
 |w1=>exact .inl (.inr (.inr (.inl rfl)))
 |w2 v=>exact .inl (.inr (.inr (.inr ⟨v,rfl⟩)))
 |w3=>exact .inr rfl
 |w4=>exact absurd e i
 |aq=>exact absurd e l
 |an=>exact absurd e m
def WI.GH(h:WI Y G){k:Nat}(c:k<G.j)(f:G.wp k≠.quit){p':WP}{s':Sh}{q:Nat->Nat}{M:Nat->Own}{tr:Nat->Tree}
 (hv:s'.v+fv (G.wp k)=G.s.v+fv p')
 (l:(G.mp=.add\/G.mp=.go\/G.mp=.w1\/∃v,G.mp=.w2 v)->s'.wt=0/\s'.ws=0/\sumTo G.j (λi=>fd (upd G.wp k p' i))=0/\sumTo G.j (λi=>f4 (upd G.wp k p' i))=0)
 (m:G.mp=.w3->(s'.wt=1/\s'.ws=0/\sumTo G.j (λi=>f4 (upd G.wp k p' i))=0/\(if s'.v=0 then 1 else 0)=sumTo G.j (λi=>fd (upd G.wp k p' i)))\/
   (s'.wt=0/\s'.v=0/\sumTo G.j (λi=>fd (upd G.wp k p' i))=0/\sumTo G.j (λi=>f4 (upd G.wp k p' i))+s'.ws=1)):WI Y { G with wp:=upd G.wp k p',M:=M,tr:=tr,q:=q,s:=s' }:=by
 obtain⟨n,o,p,r,u,x,y⟩:=h.GJ c p';obtain⟨d1,d2,d3⟩:=h.Jl c f;have:=h.v;refine⟨?_,h.early,h.late,h.le,l,m,λe=>?_,h.nz⟩
 ·show s'.v=sumTo G.j (λi=>fv (upd G.wp k p' i))+(if G.mp=.go then 1 else 0)
  omega
 ·rcases e with e|e|e
  ·exact absurd e d1
  ·exact absurd e d2
  ·exact absurd e d3
def MI.Jm(m:MI Y G gs w t)(hF:nG Y){k:Nat}(o:k<G.j)(hg:gs[gid Y (k+1)]?=some g)(u:G.wp k≠.quit)(dO:g.status=.running)(hT:jA Y.toFix (G.V (k+1)) (G.q? (k+1)) (G.um Y (k+1)) (G.tr (k+1)) (G.M (k+1)) (Deaf t (gid Y (k+1))) g w)
 (p:G.um Y (k+1) (G.M (k+1)) (Deaf t (gid Y (k+1))) g w):Made Y G gs w t (k+1) g:=by
 have P:k+1<=G.j:=o;have W:=m.wi;simp only[Gh.um]at p
 cases f:G.wp k with
 |mu=>
  rw[f]at p;by_cases S:(G.th k).pc=.out
  ·
   simp only[NH,eU]at p;rw[if_pos S]at p;obtain⟨R,A,Q,g',hs,y,Mb⟩:=p;rw[fT m P]at hs;rw[bQ]at A;have X:G.q? (k+1)=false:=by simp[Gh.q?,f]
   have kG:(MemAct.ofEvent (ab (.releaseMerge (stA Y.Wg)))).touch? = none:=rfl;obtain⟨i1,i2,i3,i4,i5,i6,i7,i8,i9⟩:=m.oi.ids;refine m.GH hF o hg (p':=.d1) (s':=G.s) u S (by simp) hs m.sh rfl rfl (M':=G.M (k+1)) (d':=0) ?_ y (.inl ⟨by simp,Mb⟩) (.inr ⟨rfl,A,Q⟩) (λh=>.inl h)
    (λq M tr=>?_) (.inr ⟨by simp[f,wW],rfl⟩)
   ·rw[bQ,A,X];refine⟨rfl,rfl,.refl _,aw _,λ_ _ _ _ _ _=>rfl,λc h=>⟨c,h,rfl⟩,λ_ _=>rfl,λ_=>rfl,λb=>⟨.inl,λh=>h.resolve_right λx=>by omega⟩,λe he=>?_,(by simp),rfl⟩;simp at he;subst he;exact⟨λx hx=>(by rw[kG]at hx;cases hx),by simp[ab],(show Y.Wg<_ from i8)⟩
   ·obtain⟨B,C,D,H,I,J,U⟩:=W.GJ o .d1;simp only[f,lU,nH,oE,oF,oG,gV,oH,oI,nI,nJ,oJ,gW,oK,oL,oM,oN,nK,gX]at B C D;refine W.GH o u (by simp only[f,lU,nH,oE,oF,oG,gV,oH,oI,nI,nJ,oJ,gW,oK,oL,oM,oN,nK,gX]) (λe=>?_) (λe=>?_)
    ·obtain⟨c1,l,c3,r⟩:=W.calm e;exact⟨c1,l,by omega,by omega⟩
    ·rcases W.w3 e with⟨c1,l,c3,r⟩|⟨c1,l,c3,r⟩
     ·exact .inl ⟨c1,l,by omega,by omega⟩
     ·exact .inr ⟨c1,l,by omega,by omega⟩
  ·by_cases hb:(G.th k).pc=.s1/\G.s.ms=0
   ·have ai8:=p;simp only[NH,eU]at p;rw[if_neg S]at p;obtain⟨T',hA,p⟩:=p;have hfu:=m.fuel k o;obtain⟨f0,Z⟩:∃f0,G.fu (k+1)=f0+1:=⟨G.fu (k+1)-1,by omega⟩
    rw[Z]at p;obtain⟨R,A,Q,E⟩:=p;have Mc:T'=G.th k:=by
     generalize hth:G.th k=T at hA hb
     cases hA with
     |refl=>rfl
     |head T0 _ hH _=>simp[eR]at hb
     |r2 _ b tL _=>rw[hb.1]at tL;cases tL
    subst Mc;have By:k<Y.n:=Nat.lt_of_lt_of_le o m.wi.le;obtain⟨h5,_⟩:=E G.s m.sh (m.mun.safe By) m.mun.small m.mun.LY;have hs:=h5 hb;rw[fT m P]at hs;exact m.block hF P hg (by simp only[Gh.gone];exact u) dO A ⟨f,hb⟩ hT hs
   ·exact m.mutex hF o hg f S p hb
 |d1=>
  rw[f]at p;simp only[NH,AtD1,nR]at p;obtain⟨R,A,Q,E⟩:=p;obtain⟨B,C,D,H,I,J,U⟩:=W.GJ o .quit;obtain⟨o1,o2,o3,_⟩:=W.GJ o .d2;simp only[f,lU,nH,oE,oF,oG,gV,oH,oI,nI,nJ,oJ,gW,oK,oL,oM,oN,nK,gX]at B C D H I J o1 o2 o3;have hv:=W.v;have hle:=W.le;have zg:G.s.wt<=1/\G.s.ws=0/\(G.s.wt=1->G.mp=.w3):=by
   rcases W.cases o u with e|e
   ·obtain⟨c1,l,_⟩:=W.calm e;exact⟨by omega,l,λx=>by omega⟩
   ·refine⟨?_,?_,λ_=>e⟩<;>rcases W.w3 e with⟨c1,l,_⟩|⟨c1,l,_⟩<;>omega
  have hvn:G.s.v<=Y.n:=by
   by_cases e:G.mp=.go
   ·have:=W.early (.inr e);rw[if_pos e]at hv;omega
   ·rw[if_neg e]at hv;omega
  obtain⟨g',w',es,M',d',hs,K,L,y,z⟩:=E G.s m.sh ⟨by omega,hvn,zg.1,zg.2.1⟩;rw[fT m P]at hs;have N:G.q? (k+1)=true:=by simp[Gh.q?,f]
  have O:=m.out k o (by rw[f];simp);by_cases e1:G.s.v=1/\G.s.wt=1
  ·rw[if_pos e1]at z;have F:=zg.2.2 e1.2;refine m.GH hF o hg (p':=.d2) (s':={ G.s with v:=G.s.v-1 }) u O (by simp) hs K rfl rfl (by rw[N];exact L) y (.inl ⟨by simp,z⟩) (.inl (by rw[f];simp)) (λh=>.inl h) (λq M tr=>?_) (.inl (by simp[f,wW]));refine W.GH o u (by simp only[f,lU,nH,oE,oF,oG,gV,oH,oI,nI,nJ,oJ,gW,oK,oL,oM,oN,nK,gX];omega) (λe=>?_) (λe=>?_)
   ·rcases e with e|e|e|⟨v,e⟩<;>rw[F]at e<;>cases e
   ·rcases W.w3 e with⟨c1,l,c3,r⟩|⟨c1,l,c3,r⟩
    ·rw[e1.1]at r;simp only[Nat.one_ne_zero,if_false]at r;refine .inl ⟨c1,l,by omega,?_⟩;show(if G.s.v-1=0 then 1 else 0)=_;rw[if_pos (by omega)];omega
    ·omega
  ·rw[if_neg e1]at z;refine m.GH hF o hg (p':=.quit) (s':={ G.s with v:=G.s.v-1 }) u O (by simp) hs K rfl rfl (by rw[N];exact L) y (.inr ⟨rfl,z⟩) (.inl (by rw[f];simp)) (λh=>.inl h) (λq M tr=>?_) (.inl (by simp[f,wW]));refine W.GH o u (by simp only[f,lU,nH,oE,oF,oG,gV,oH,oI,nI,nJ,oJ,gW,oK,oL,oM,oN,nK,gX];omega) (λe=>?_) (λe=>?_)
   ·obtain⟨c1,l,c3,r⟩:=W.calm e;exact⟨c1,l,by omega,by omega⟩
   ·rcases W.w3 e with⟨c1,l,c3,r⟩|⟨c1,l,c3,r⟩
    ·rw[if_neg (by omega)]at r;refine .inl ⟨c1,l,by omega,?_⟩;show(if G.s.v-1=0 then 1 else 0)=_;rw[if_neg (by omega)];omega
    ·omega
 |d2=>
  rw[f]at p;simp only[NH,AtD2,nR]at p;obtain⟨R,A,Q,E⟩:=p;obtain⟨B,C,D,H,I,J,U⟩:=W.GJ o .d3;simp only[f,lU,nH,oE,oF,oG,gV,oH,oI,nI,nJ,oJ,gW,oK,oL,oM,oN,nK,gX]at B C D H I J;have F:G.mp=.w3:=by
   rcases W.cases o u with e|e
   ·have:=(W.calm e).2.2.1;omega
   ·exact e
  have hv:G.s.v=0/\G.s.wt=1/\G.s.ws=0:=by
   rcases W.w3 F with⟨c1,l,c3,r⟩|⟨c1,l,c3,r⟩
   ·refine⟨?_,c1,l⟩
    split at r<;>omega
   ·omega
  obtain⟨g',w',es,M',d',hs,K,L,y,z⟩:=E G.s m.sh hv;rw[fT m P]at hs;have N:G.q? (k+1)=true:=by simp[Gh.q?,f]
  have O:=m.out k o (by rw[f];simp);refine m.GH hF o hg (p':=.d3) (s':=G.s) u O (by simp) hs K rfl rfl (by rw[N];exact L) y (.inl ⟨by simp,z⟩) (.inl (by rw[f];simp)) (λh=>.inl h) (λq M tr=>?_) (.inr ⟨by simp[f,wW],rfl⟩);refine W.GH o u (by simp only[f,lU,nH,oE,oF,oG,gV,oH,oI,nI,nJ,oJ,gW,oK,oL,oM,oN,nK,gX]) (λe=>?_) (λe=>?_)
  ·obtain⟨c1,l,c3,r⟩:=W.calm e;exact⟨c1,l,by omega,by omega⟩
  ·rcases W.w3 e with⟨c1,l,c3,r⟩|⟨c1,l,c3,r⟩
   ·exact .inl ⟨c1,l,by omega,by omega⟩
   ·exact .inr ⟨c1,l,by omega,by omega⟩
 |d3=>
  rw[f]at p;simp only[NH,AtD3,nR]at p;obtain⟨R,A,Q,E⟩:=p;obtain⟨B,C,D,H,I,J,U⟩:=W.GJ o .d4;simp only[f,lU,nH,oE,oF,oG,gV,oH,oI,nI,nJ,oJ,gW,oK,oL,oM,oN,nK,gX]at B C D H I J;have F:G.mp=.w3:=by
   rcases W.cases o u with e|e
   ·have:=(W.calm e).2.2.1;omega
   ·exact e
  have hv:G.s.v=0/\G.s.wt=1/\G.s.ws=0/\sumTo G.j (λi=>fd (G.wp i))=1/\sumTo G.j (λi=>f4 (G.wp i))=0:=by
   rcases W.w3 F with⟨c1,l,c3,r⟩|⟨c1,l,c3,r⟩
   ·refine⟨?_,c1,l,?_,c3⟩<;>split at r<;>omega
   ·omega
  obtain⟨g',w',es,M',d',hs,K,L,y,z⟩:=E G.s m.sh ⟨hv.1,hv.2.1,hv.2.2.1⟩;rw[fT m P]at hs;have N:G.q? (k+1)=true:=by simp[Gh.q?,f]
  have O:=m.out k o (by rw[f];simp);refine m.GH hF o hg (p':=.d4) (s':={ G.s with wt:=0 }) u O (by simp) hs K rfl rfl (by rw[N];exact L) y (.inl ⟨by simp,z⟩) (.inl (by rw[f];simp)) (λh=>.inl h) (λq M tr=>?_) (.inr ⟨by simp[f,wW],rfl⟩);refine W.GH o u (by simp only[f,lU,nH,oE,oF,oG,gV,oH,oI,nI,nJ,oJ,gW,oK,oL,oM,oN,nK,gX]) (λe=>?_) (λe=>?_)
  ·rcases e with e|e|e|⟨v,e⟩<;>rw[F]at e<;>cases e
  ·exact .inr ⟨rfl,hv.1,by omega,by simp only;omega⟩
 |d4=>
  rw[f]at p;simp only[NH,AtD4,nR]at p;obtain⟨R,A,Q,E⟩:=p;obtain⟨B,C,D,H,I,J,U⟩:=W.GJ o .quit;simp only[f,lU,nH,oE,oF,oG,gV,oH,oI,nI,nJ,oJ,gW,oK,oL,oM,oN,nK,gX]at B C D H I J;have F:G.mp=.w3:=by
   rcases W.cases o u with e|e
   ·have:=(W.calm e).2.2.2;omega
   ·exact e
  have hv:G.s.v=0/\G.s.wt=0/\G.s.ws=0/\sumTo G.j (λi=>fd (G.wp i))=0/\sumTo G.j (λi=>f4 (G.wp i))=1:=by
   rcases W.w3 F with⟨c1,l,c3,r⟩|⟨c1,l,c3,r⟩
   ·omega
   ·exact⟨l,c1,by omega,c3,by omega⟩
  obtain⟨g',w',es,M',d',hs,K,L,y,z⟩:=E G.s m.sh ⟨hv.1,hv.2.1,hv.2.2.1⟩;rw[fT m P]at hs;have N:G.q? (k+1)=true:=by simp[Gh.q?,f]
  have O:=m.out k o (by rw[f];simp);refine m.GH hF o hg (p':=.quit) (s':={ G.s with ws:=1 }) u O (by simp) hs K rfl rfl (by rw[N];exact L) y (.inr ⟨rfl,z⟩) (.inl (by rw[f];simp)) (λ_=>.inr (Q trivial)) (λq M tr=>?_) (.inr ⟨by simp[f,wW],rfl⟩);refine W.GH o u (by simp only[f,lU,nH,oE,oF,oG,gV,oH,oI,nI,nJ,oJ,gW,oK,oL,oM,oN,nK,gX]) (λe=>?_) (λe=>?_)
  ·rcases e with e|e|e|⟨v,e⟩<;>rw[F]at e<;>cases e
  ·exact .inr ⟨hv.2.1,hv.1,by omega,by simp only;omega⟩
 |quit=>exact absurd f u
def MI.main(m:MI Y G gs w t)(hF:nG Y)(hg:gs[gid Y 0]?=some g){mp':MP}{s':Sh}{f0:Nat}(hs:stepG Y.P (gid Y 0==0) g w=.go g' w' es)(r:ShAt Y.toFix w' s')(c:s'.mw=G.s.mw)(o:s'.ms=G.s.ms)
 (u:Dl Y.toFix (G.V 0) false (G.M 0) (Deaf t (gid Y 0)) w w' es M' d') (x:g'.status=.running) (y:ay Y.toFix (G.V 0) false (stM Y G.j f0 (G.V 0) mp') M' d' g' w')
 (f:mp'=.an->es=#[ab (.acquire (stA Y.Wg))]/\Deaf t 0=0/\∀k,k<G.j->G.wp k=.quit)
 (i:∀M tr fu,WI Y { G with mp:=mp',M:=M,tr:=tr,s:=s',fu:=fu }) (F:wM Y.n G.j s'.v mp'<wM Y.n G.j G.s.v G.mp) (hf:vK Y G<=f0):Made Y G gs w t 0 g:=by
 obtain⟨l,z⟩:=y;have A:∀M tr fu,phi Y { G with mp:=mp',M:=M,tr:=tr,s:=s',fu:=fu }=phi Y G:=by
  intro M tr fu;have:oD { G with mp:=mp',M:=M,tr:=tr,s:=s',fu:=fu }=oD G:=by simp[oD,c,o]
  unfold phi;rw[this]
 have p:∀M tr fu,vK Y { G with mp:=mp',M:=M,tr:=tr,s:=s',fu:=fu }<vK Y G:=by
  intro M tr fu;unfold vK;simp only;omega
 have key:=MI.own (G':={ G with mp:=mp',M:=upd G.M 0 M',tr:=upd G.tr 0 l,s:=s',fu:=upd G.fu 0 f0 }) (g':=g') m hF (aB _) hg u rfl rfl rfl (λ_ _=>rfl)
  (λb hb e=>by
    cases b with
    |zero=>exact absurd rfl e
    |succ b=>exact⟨ae G.tr l e,by simp only[Gh.um];rw[ae _ _ e],rfl,Iff.rfl⟩)
  (λb hb e B=>by
    cases b with
    |zero=>exact absurd rfl e
    |succ b=>
     obtain⟨x1,x2,x3⟩:=B
     exact .inl ⟨x1,x2,by simp only;omega⟩)
  (λk H C=>.inl C) (λD=>.inr ⟨rfl,f D⟩) (.run (λh=>h) x (by simp only[Gh.um,Gh.q?,ag];exact z))
  r (by simp only[oD,c,o];exact m.mun) (λ_ _=>rfl) m.out (i _ _ _) (λk' E=>by rw[A];simp only;rw[ae _ _ (by omega)];exact m.fuel k' E)
  (by have:=p (upd G.M 0 M') (upd G.tr 0 l) (upd G.fu 0 f0);simp only[ag]at *;omega)
 exact⟨g',w',es,_,hs,key,.inl (p _ _ _)⟩
def Dv(m:sumTo G.j (λk=>fv (G.wp k))=0)(n:sumTo G.j (λk=>fd (G.wp k))=0)(o:sumTo G.j (λk=>f4 (G.wp k))=0):∀k,k<G.j->G.wp k=.quit:=by
 intro k c;have h:fv (G.wp k)<=_:=ai (f:=λk=>fv (G.wp k)) c;have i:fd (G.wp k)<=_:=ai (f:=λk=>fd (G.wp k)) c;have l:f4 (G.wp k)<=_:=ai (f:=λk=>f4 (G.wp k)) c;rw[m]at h;rw[n]at i;rw[o]at l
 cases e:G.wp k with
 |quit=>rfl
 |mu=>rw[e,lU]at h;omega
 |d1=>rw[e,nH]at h;omega
 |d2=>rw[e,nI]at i;omega
 |d3=>rw[e,nJ]at i;omega
 |d4=>rw[e,nK]at l;omega
def WI.vle(h:WI Y G):G.s.v<=Y.n:=by
 have k:=ao (f:=λi=>fv (G.wp i)) (c:=1) (j:=G.j) λi _=>by cases G.wp i<;>simp[fv]
 have hv:=h.v;have:=h.le;by_cases e:G.mp=.go
 ·have:=h.early (.inr e);rw[if_pos e]at hv;omega
 ·rw[if_neg e]at hv;omega
def MI.Pa(m:MI Y G gs w t)(hF:nG Y)(hg:gs[gid Y 0]?=some g)(S:g.status=.running)(T:jA Y.toFix (G.V 0) (G.q? 0) (G.um Y 0) (G.tr 0) (G.M 0) (Deaf t (gid Y 0)) g w)
 (o:G.um Y 0 (G.M 0) (Deaf t (gid Y 0)) g w) (p:G.mp≠.go) (J:G.mp≠.an):Made Y G gs w t 0 g:=by
 have W:=m.wi;have hv:=W.v;have U:=m.fuel0;simp only[Gh.um]at o
 cases l:G.mp with
 |go=>exact absurd l p
 |an=>exact absurd l J
 |add=>
  rw[l]at o;have A:=W.early (.inl l);obtain⟨c1,u,c3,z⟩:=W.calm (.inl l);obtain⟨r,K⟩:∃r,Y.n-G.j=r+1:=⟨Y.n-G.j-1,by omega⟩
  have X:Y.n-(r+1)=G.j:=by omega
  have L:Y.n-(G.j+1)=r:=by omega
  have N:G.s.v<Y.n:=by
   have H:=ao (f:=λi=>fv (G.wp i)) (c:=1) (j:=G.j) λi _=>by cases G.wp i<;>simp[fv]
   rw[if_neg (by rw[l];simp)]at hv;omega
  simp only[stM]at o;rw[K]at o;simp only[Ta,nR,X]at o;obtain⟨H,E,I,F⟩:=o;obtain⟨g',w',es,M',d',hs,B,C,D,y⟩:=F G.s m.sh ⟨N,c1,u⟩;rw[fT m (aB _)]at hs;refine m.main hF hg (mp':=.go) (s':={ G.s with v:=G.s.v+1 }) (f0:=G.fu 0) hs B rfl rfl C D (by simp only[stM,L];exact y) (by simp) (λM tr fu=>?_) (by rw[l];simp only[wM];omega) (by omega);rw[if_neg (by rw[l];simp)]at hv;refine⟨?_,λ_=>A,λ_ h=>absurd rfl h,W.le,λ_=>⟨c1,u,c3,z⟩,(by simp),(by simp),(by simp)⟩;simp only[if_true];omega
 |w1=>
  rw[l]at o;obtain⟨c1,u,c3,z⟩:=W.calm (.inr (.inr (.inl l)));obtain⟨f,hf⟩:∃f,G.fu 0=f+1:=⟨G.fu 0-1,by omega⟩
  rw[hf]at o;simp only[stM,AtW1,nR]at o;obtain⟨H,E,I,F⟩:=o;obtain⟨g',w',es,M',d',hs,B,C,D,y⟩:=F G.s m.sh ⟨W.vle,c1,u⟩;rw[fT m (aB _)]at hs;have A:=W.late (by rw[l];simp) p;rw[if_neg p]at hv;by_cases e:G.s.v=0
  ·rw[if_pos e]at y;have aq:=Dv (G:=G) (by omega) c3 z;refine m.main hF hg (mp':=.aq) (s':=G.s) (f0:=G.fu 0) hs B rfl rfl C D (by simp only[stM];exact y) (by simp) (λM tr fu=>?_) (by rw[l];simp[wM]) (by omega);exact⟨by simp only[hv];simp,by simp,λ_ _=>A,W.le,by simp,by simp,λ_=>⟨e,c1,u,aq⟩,by simp⟩
  ·rw[if_neg e]at y;refine m.main hF hg (mp':=.w2 G.s.v) (s':=G.s) (f0:=f) hs B rfl rfl C D (by simp only[stM];exact y) (by simp) (λM tr fu=>?_) (by rw[l];simp[wM]) (by omega);exact⟨by simp only[hv];simp,by simp,λ_ _=>A,W.le,λ_=>⟨c1,u,c3,z⟩,by simp,by simp,λv h=>by cases h;exact e⟩
 |w2 O=>
  rw[l]at o;obtain⟨c1,u,c3,z⟩:=W.calm (.inr (.inr (.inr ⟨O,l⟩)));obtain⟨f,hf⟩:∃f,G.fu 0=f+1:=⟨G.fu 0-1,by omega⟩
  rw[hf]at o;simp only[stM,AtW2,nR]at o;obtain⟨H,E,I,F⟩:=o;obtain⟨g',w',es,M',d',hs,B,C,D,y⟩:=F G.s m.sh ⟨W.vle,c1,u⟩;rw[fT m (aB _)]at hs;have A:=W.late (by rw[l];simp) p;have Z:=W.nz O l;rw[if_neg p]at hv;by_cases e:G.s.v=O
  ·rw[if_pos e]at y B;refine m.main hF hg (mp':=.w3) (s':={ G.s with wt:=1 }) (f0:=G.fu 0) hs B rfl rfl C D (by simp only[stM];exact y) (by simp) (λM tr fu=>?_) (by rw[l];simp[wM,e]) (by omega);exact⟨by simp only[hv];simp,by simp,λ_ _=>A,W.le,by simp,λ_=>.inl ⟨rfl,u,z,by simp only;rw[if_neg (by omega),c3]⟩,by simp,by simp⟩
  ·rw[if_neg e]at y B;refine m.main hF hg (mp':=.w1) (s':=G.s) (f0:=f) hs B rfl rfl C D (by simp only[stM];exact y) (by simp) (λM tr fu=>?_) (by rw[l];simp[wM,e]) (by omega);exact⟨by simp only[hv];simp,by simp,λ_ _=>A,W.le,λ_=>⟨c1,u,c3,z⟩,by simp,by simp,by simp⟩
 |w3=>
  rw[l]at o;have ai8:=o;simp only[stM,AtW3,acP]at o;obtain⟨H,E,I⟩:=o
  have P:G.s.ws<=1:=by rcases W.w3 l with⟨c1,u,c3,z⟩|⟨c1,u,c3,z⟩<;>omega
  obtain⟨F,h5⟩:=I G.s m.sh P;have A:=W.late (by rw[l];simp) p;rw[if_neg p]at hv;by_cases e:G.s.ws=0
  ·have hs:=F e;rw[fT m (aB _)]at hs;exact m.block hF (aB _) hg (λh=>h) S E ⟨l,e⟩ T hs
  ·obtain⟨g',w',es,M',d',hs,B,C,D,y⟩:=h5 e;rw[fT m (aB _)]at hs;obtain⟨d1,d2,d3,d4⟩:G.s.wt=0/\G.s.v=0/\sumTo G.j (λk=>fd (G.wp k))=0/\sumTo G.j (λk=>f4 (G.wp k))+G.s.ws=1:=by
    rcases W.w3 l with⟨c1,u,c3,z⟩|h
    ·omega
    ·exact h
   have aq:=Dv (G:=G) (by omega) d3 (by omega);refine m.main hF hg (mp':=.w4) (s':={ G.s with ws:=G.s.ws-1 }) (f0:=G.fu 0) hs B rfl rfl C D (by simp only[stM];exact y) (by simp) (λM tr fu=>?_) (by rw[l];simp[wM]) (by omega);exact⟨by simp only[hv];simp,by simp,λ_ _=>A,W.le,by simp,by simp,λ_=>⟨d2,d1,by simp only;omega,aq⟩,by simp⟩
 |w4=>
  rw[l]at o;simp only[stM,AtW4,nR]at o;obtain⟨H,E,I,F⟩:=o;obtain⟨c1,u,c3,z⟩:=W.done (.inl l);obtain⟨g',w',es,M',d',hs,B,C,D,y⟩:=F G.s m.sh ⟨c1,u,c3⟩;rw[fT m (aB _)]at hs;have A:=W.late (by rw[l];simp) p;rw[if_neg p]at hv;refine m.main hF hg (mp':=.aq) (s':=G.s) (f0:=G.fu 0) hs B rfl rfl C D (by simp only[stM];exact y) (by simp) (λM tr fu=>?_) (by rw[l];simp[wM]) (by omega);exact⟨by simp only[hv];simp,by simp,λ_ _=>A,W.le,by simp,by simp,λ_=>⟨c1,u,c3,z⟩,by simp⟩
 |aq=>
  rw[l]at o;simp only[stM,O1]at o;obtain⟨H,E,g',hs,K,y⟩:=o;rw[fT m (aB _)]at hs;obtain⟨c1,u,c3,z⟩:=W.done (.inr (.inl l));have A:=W.late (by rw[l];simp) p;rw[if_neg p]at hv;rw[iZ]at E;obtain⟨i1,i2,i3,i4,i5,i6,i7,i8,i9⟩:=m.oi.ids;have kG:(MemAct.ofEvent (ab (.acquire (stA Y.Wg)))).touch? = none:=rfl;refine m.main hF hg (mp':=.an) (s':=G.s) (f0:=G.fu 0) (M':=G.M 0) (d':=0) hs m.sh rfl rfl ?_ K (by simp only[stM];exact y) (λ_=>⟨rfl,E,z⟩) (λM tr fu=>?_) (by rw[l];simp[wM]) (by omega)
  ·rw[iZ,E];refine⟨rfl,rfl,.refl _,aw _,λ_ _ _ _ _ _=>rfl,λc h=>⟨c,h,rfl⟩,λ_ _=>rfl,λ_=>rfl,λb=>⟨.inl,λh=>h.resolve_right λx=>by omega⟩,λe Q=>?_,(by simp),rfl⟩;simp at Q;subst Q;exact⟨λx R=>(by rw[kG]at R;cases R),by simp[ab],(show Y.Wg<_ from i8)⟩
  ·exact⟨by simp only[hv];simp,by simp,λ_ _=>A,W.le,by simp,by simp,λ_=>⟨c1,u,c3,z⟩,by simp⟩
end
def Jn(Y:CB):Prop:=∀k k' o,k≠k'->Y.row k o->¬Y.row k' o
section
variable {Y:CB}{G G':Gh}{gs:Array aa}{w w':World}{t:Trace}{a b d d':Nat}{g g':aa}{es:Array Event}{M':Own}{q:Bool}{sl:Option (Nat×Nat)}
def Sit.same(h:Sit Y G b d g w)(e1:G'.V b=G.V b)(i:G'.M b=G.M b)(j:G'.tr b=G.tr b)(k:G'.um Y b=G.um Y b)(l:G'.q? b=G.q? b)(c:G'.gone b↔G.gone b)(m:G'.q (gid Y b)=G.q (gid Y b))(n:G.waits b->G'.waits b):Sit Y G' b d g w:=by
 cases h with
 |run hg f h=>exact .run (λy=>hg (c.1 y)) f (by rw[e1,i,j,k,l];exact h)
 |wait o hg e f p r h=>exact .wait o (λy=>hg (c.1 y)) e f p (n r) (by rw[e1,i,j,k,l];exact h)
 |gone hg h=>exact .gone (c.2 hg) (by rw[m];exact h)
def Md(t:Trace)(x y:MemOp)(k n:Nat)(c:x.act=.go n)(hy:y.act=.start):Deaf (t ++ #[x,y]) k=Deaf t k:=by
 have:=Deaf_append t k [x,y];rw[show(#[x,y]:Array MemOp)=[x,y].toArray from rfl,this];simp[deafStep,c,hy]
def ru{ad:Addr}{u:Trace}{k r:Nat}(h:RelBy ad t k r)(f:∀op∈u,op.act.touch? = none):RelBy ad (t++u) k r:=by
 refine h.app λi hi _ hc=>?_;obtain⟨x,j,_⟩:=hc;obtain⟨op,l,e⟩:=touch_of j
 rcases getElem?_append_cases l with⟨m,_⟩|⟨_,c⟩
 ·omega
 ·rw[f op c]at e;cases e
def MI.spawn(m:MI Y G gs w t)(GK:Jn Y)(hg:gs[gid Y 0]?=some g)(Z:G.mp=.go)(aF:G.um Y 0 (G.M 0) (Deaf t (gid Y 0)) g w) :
 ∃jk ops G',runT Y.P (crowd gs w sl) 0=(.next (crowd jk w sl),ops)/\MI Y G' jk w (t++ops)/\ML (Y.n+1) (mz Y G' jk) (mz Y G gs):=by
 have W:=m.wi;have hj:=W.early (.inr Z);obtain⟨c1,c2,c3,c4⟩:=W.calm (.inr (.inl Z));have hv:=W.v;rw[if_pos Z]at hv;simp only[Gh.um]at aF;rw[Z]at aF;simp only[stM,AtGo]at aF;obtain⟨h1,h2,g',child,hs,gl,hrc,aic,t0,YH⟩:=aF;rw[fT m (aB _)]at hs;rw[iZ]at hg h2 hs;obtain⟨t1,ht1⟩:=aic (m.un G.j (aw _)) (phi Y G+1);have sw:=runT_crowd_spawn (P:=Y.P) (sl:=sl) hg (show stepG Y.P (0==0) g w=_ from hs);have Dt:∃(u:MP)(J:Tree),(u=.add/\G.j+1<Y.n\/u=.w1/\G.j+1=Y.n)/\jA Y.toFix ((G.V 0).more (G.M 0)) false (stM Y (G.j+1) (vK Y G+1) ((G.V 0).more (G.M 0)) u) J aI 0 g' w:=by
  rcases aH (G.j+1) Y.n with B|ve
  ·exact⟨.add,t0,.inl ⟨rfl,B⟩,by simp only[stM];exact YH⟩
  ·have e:Y.n-(G.j+1)=0:=by omega
   rw[e]at YH;have:ay Y.toFix ((G.V 0).more (G.M 0)) false (stM Y (G.j+1) (vK Y G+1) ((G.V 0).more (G.M 0)) .w1) aI 0 g' w:=ay.mono ⟨t0,YH⟩ λM d g w h=>by
    simp only[stM];exact h (vK Y G+1)
   obtain⟨J,h⟩:=this;exact⟨.w1,J,.inr ⟨rfl,by omega⟩,h⟩
 obtain⟨u,J,H,aie⟩:=Dt
 have N:u≠.go/\u≠.an/\u≠.w3/\u≠.w4/\u≠.aq/\∀v,u≠.w2 v:=by rcases H with⟨rfl,_⟩|⟨rfl,_⟩<;>simp
 let G':Gh:={ j:=G.j+1,th:=G.th,wp:=upd G.wp G.j .mu,mp:=u,V:=upd (upd G.V 0 ((G.V 0).more (G.M 0))) (G.j+1) (rj Y.c Y.row G.j (G.V 0) (G.M 0)),M:=upd (upd G.M 0 aI) (G.j+1) aI,tr:=upd (upd G.tr 0 J) (G.j+1) t1,q:=G.q,fu:=upd (upd G.fu 0 (vK Y G+1)) (G.j+1) (phi Y G+1),s:=G.s }
 have T:G'.V 0=(G.V 0).more (G.M 0):=(ae (upd G.V 0 ((G.V 0).more (G.M 0))) (rj Y.c Y.row G.j (G.V 0) (G.M 0)) (show 0≠G.j+1 by omega)).trans (ag G.V 0 _);have Q:G'.V (G.j+1)=rj Y.c Y.row G.j (G.V 0) (G.M 0):=ag _ _ _;have E:∀k,k<G.j->G'.V (k+1)=G.V (k+1):=λk p=>(ae (upd G.V 0 ((G.V 0).more (G.M 0))) (rj Y.c Y.row G.j (G.V 0) (G.M 0)) (show k+1≠G.j+1 by omega)).trans (ae G.V _ (show k+1≠0 by omega));have U:G'.M 0=aI:=(ae (upd G.M 0 aI) aI (show 0≠G.j+1 by omega)).trans (ag G.M 0 _);have X:G'.M (G.j+1)=aI:=ag _ _ _;have Mk:∀k,k<G.j->G'.M (k+1)=G.M (k+1):=λk p=>(ae (upd G.M 0 aI) aI (show k+1≠G.j+1 by omega)).trans (ae G.M _ (show k+1≠0 by omega));have R:G'.wp G.j=.mu:=ag _ _ _;have K:∀k,k<G.j->G'.wp k=G.wp k:=λk p=>ae _ _ (by omega);have GG:phi Y G'=phi Y G:=rfl;have LO:∀f:WP->Nat,sumTo (G.j+1) (λk=>f (G'.wp k))=sumTo G.j (λk=>f (G.wp k))+f .mu:=by
  intro f;rw[sumTo,R,ar λk p=>by rw[K k p]]
 have GI:vK Y G'<vK Y G:=by
  have e1:vK Y G'=wM Y.n (G.j+1) G.s.v u+sumTo (G.j+1) (λk=>wW (G'.wp k)):=rfl;have I:vK Y G=wM Y.n G.j G.s.v G.mp+sumTo G.j (λk=>wW (G.wp k)):=rfl;rw[e1,I,LO,Z]
  rcases H with⟨rfl,B⟩|⟨rfl,he⟩
  ·simp only[wM,wW];omega
  ·simp only[wM,wW];omega
 have O:=m.oi;have F:∀a,a<=G.j+1->a=0\/a=G.j+1\/∃k,k<G.j/\a=k+1:=by
  intro a A
  cases a with
  |zero=>exact .inl rfl
  |succ k=>
   by_cases e:k=G.j
   ·exact .inr (.inl (by rw[e]))
   ·exact .inr (.inr ⟨k,by omega,rfl⟩)
 have O':OI Y G' w:=by
  refine⟨λa A b hb=>?_,λa a' A ha' bu b hb=>?_,λa A b hb=>?_,λa a' A ha' bu o=>?_,λa A b hb=>?_,λa A=>?_,O.ids,?_,λk p=>?_⟩
  ·rcases F a A with rfl|rfl|⟨k,p,rfl⟩
   ·rw[U,T]at hb
    rcases hb with hb|hb|hb
    ·exact hb.elim
    ·exact O.ap 0 (aB _) b (.inr hb)
    ·exact O.ap 0 (aB _) b (.inl hb)
   ·rw[X,Q]at hb
    rcases hb with hb|hb|hb
    ·exact hb.elim
    ·exact O.ap 0 (aB _) b (.inr hb)
    ·exact O.ap 0 (aB _) b (.inl hb)
   ·rw[Mk k p,E k p]at hb;exact O.ap (k+1) p b hb
  ·rcases F a A with rfl|rfl|⟨k,p,rfl⟩
   ·rw[U]at hb;exact hb.elim
   ·rw[X]at hb;exact hb.elim
   ·rw[Mk k p]at hb
    rcases F a' ha' with rfl|rfl|⟨k',D,rfl⟩
    ·rw[U,T];have:=O.dj (k+1) 0 p (aB _) (by omega) b hb;exact⟨λh=>h,λh=>h.elim this.2 this.1⟩
    ·rw[X,Q];have:=O.dj (k+1) 0 p (aB _) (by omega) b hb;exact⟨λh=>h,λh=>h.elim this.2 this.1⟩
    ·rw[Mk k' D,E k' D];exact O.dj (k+1) (k'+1) p D bu b hb
  ·rcases F a A with rfl|rfl|⟨k,p,rfl⟩
   ·rw[U]at hb;exact hb.elim
   ·rw[X]at hb;exact hb.elim
   ·rw[Mk k p]at hb;rw[E k p];exact O.self (k+1) p b hb
  ·have YK:(G'.V 0).row=λ_=>False:=by rw[T];exact O.main
   have acX:(G'.V (G.j+1)).row=Y.row G.j:=by rw[Q];rfl
   have T4:∀k,k<G.j->(G'.V (k+1)).row=Y.row k:=λk p=>by rw[E k p];exact O.rowV k p
   rcases F a A with rfl|rfl|⟨k,p,rfl⟩
   ·rw[YK];exact λh=>h.elim
   ·rcases F a' ha' with rfl|rfl|⟨k',D,rfl⟩
    ·rw[YK];exact λ_ h=>h
    ·exact absurd rfl bu
    ·rw[acX,T4 k' D];exact GK _ _ o (by omega)
   ·rcases F a' ha' with rfl|rfl|⟨k',D,rfl⟩
    ·rw[YK];exact λ_ h=>h
    ·rw[acX,T4 k p];exact GK _ _ o (by omega)
    ·rw[T4 k p,T4 k' D];exact GK _ _ o (by omega)
  ·rcases F a A with rfl|rfl|⟨k,p,rfl⟩
   ·rw[U]at hb;exact hb.elim
   ·rw[X]at hb;exact hb.elim
   ·rw[Mk k p]at hb;exact O.base (k+1) p b hb
  ·rcases F a A with rfl|rfl|⟨k,p,rfl⟩
   ·rw[T];exact O.num 0 (aB _)
   ·rw[Q,bQ];rfl
   ·rw[E k p];exact O.num (k+1) p
  ·rw[T];exact O.main
  ·by_cases e:k=G.j
   ·subst e;rw[Q];rfl
   ·rw[E k (by have:k<G.j+1:=p;omega)];exact O.rowV k (by have:k<G.j+1:=p;omega)
 have WM:gs.size=Y.c+G.j:=m.size;have cpos:=m.cpos;let x:MemOp:={ g:=0,fn:=g.frame.fn,pos:=g.frame.place,act:=.go (Y.c+G.j) }
 let y:MemOp:={ g:=Y.c+G.j,fn:=child.frame.fn,pos:=g.frame.place,act:=.start }
 have Gp:(((aJ 0 g.frame.fn g.frame.place #[]).push { g:=0,fn:=g.frame.fn,pos:=g.frame.place,act:=.go gs.size }).push { g:=gs.size,fn:=child.frame.fn,pos:=g.frame.place,act:=.start })=#[x,y]:=by
  rw[WM];rfl
 have Dw:∀op∈(#[x,y]:Array MemOp),op.act.touch? = none:=by
  intro op S;simp only[aL,aP,aT,or_false]at S
  rcases S with rfl|rfl<;>rfl
 have hD:∀k,Deaf (t ++ #[x,y]) k=Deaf t k:=λk=>Md t x y k _ rfl rfl;have tri:TI Y.Shun (OZ Y.toFix) (BK Y G') (O5 Y G') Y.c (G.j+1) (t ++ #[x,y]):=by
  refine TI.fork (O'.fam m.shun) Jj (m.tri.choose (λk l k1 k2=>?_) (λk l k1 k2=>?_)) ⟨rfl,rfl⟩ ⟨rfl,rfl⟩ h2 (m.above _ (by omega))
  ·have hi:k-Y.c<G.j:=by omega
   simp only[BK,E _ hi,Mk _ hi];exact⟨fun⟨a,b,c⟩=>⟨a,k2,c⟩,fun⟨a,b,c⟩=>⟨a,(by show k<Y.c+(G.j+1);omega),c⟩⟩
  ·have hi:k-Y.c<G.j:=by omega
   simp only[O5,E _ hi];exact⟨fun⟨a,b,c⟩=>⟨a,k2,c⟩,fun⟨a,b,c⟩=>⟨a,(by show k<Y.c+(G.j+1);omega),c⟩⟩
 have acY:0<gs.size:=by omega
 have aif:((gs.setIfInBounds 0 g').push child)[0]?=some g':=by
  rw[a5 (by simpa using acY)];simp
 have aih:((gs.setIfInBounds 0 g').push child)[Y.c+G.j]?=some child:=by
  have e:(gs.setIfInBounds 0 g').size=Y.c+G.j:=by simp[WM]
  rw[<-e];exact Array.getElem?_push_size
 have acZ:∀i z,i≠0->i≠Y.c+G.j->((gs.setIfInBounds 0 g').push child)[i]?=some z->gs[i]?=some z:=by
  intro i z h0 hi C;have B:i<(gs.setIfInBounds 0 g').size:=by
   have:=(Array.getElem?_eq_some_iff.1 C).1;simp at this⊢;omega
  rw[a5 B,<-a6 B,a7 (Ne.symm h0)]at C;exact C
 refine⟨_,_,G',sw,?_,.inl GI⟩;rw[Gp];refine⟨cpos,?_,λa A z C=>?_,λi z h0 hi C=>?_,λi hi=>?_,m.sh,m.tb,m.mun,λk p By=>m.fresh k (by have:G.j+1<=k:=p;omega) By,λk p L=>?_,?_,λk p=>?_,?_,O',m.shun,tri,λk p L=>?_,m.norel.app λop S=>?_,λop S=>?_,λk p L=>?_,λhm=>absurd hm N.2.1,m.tape,m.output,m.os,m.kept,m.rowok,λk p o ho=>m.un k (by have:G.j+1<=k:=p;omega) o ho⟩
 ·simp only[a8,a9];show gs.size+1=Y.c+(G.j+1);omega
 ·rw[hD]
  rcases F a A with rfl|rfl|⟨k,p,rfl⟩
  ·rw[iZ,aif]at C;obtain rfl:=ba C;rw[iZ,h2];refine .run (λh=>h) gl ?_;have e1:G'.tr 0=J:=(ae (upd G.tr 0 J) t1 (show 0≠G.j+1 by omega)).trans (ag G.tr 0 _);have I:G'.fu 0=vK Y G+1:=(ae (upd G.fu 0 (vK Y G+1)) (phi Y G+1) (show 0≠G.j+1 by omega)).trans (ag G.fu 0 _);show jA Y.toFix (G'.V 0) false (stM Y (G.j+1) (G'.fu 0) (G'.V 0) u) (G'.tr 0) (G'.M 0) 0 g' w;rw[T,U,e1,I];exact aie
  ·rw[bQ,aih]at C;obtain rfl:=ba C;rw[bQ,m.above _ (by omega)];have hq:G'.q? (G.j+1)=false:=by simp only[Gh.q?,R,ne_eq,not_true_eq_false,decide_false]
   have e1:G'.tr (G.j+1)=t1:=ag _ _ _;have I:G'.fu (G.j+1)=phi Y G+1:=ag _ _ _;refine .run (by simp only[Gh.gone,R];simp) hrc ?_;rw[hq,e1,Q,X];show jA Y.toFix _ false (NH Y (G'.V (G.j+1)) G.j (G'.fu (G.j+1)) (G.th G.j) (G'.wp G.j)) t1 aI 0 child w;rw[R,Q,I,m.fresh G.j (aw _) hj];exact ht1
  ·rw[bQ]at C ⊢;have Yt:=acZ _ z (by omega) (by omega) C;have hs:=m.sit (k+1) p z (by rw[bQ];exact Yt);rw[bQ]at hs;refine hs.same (E k p) (Mk k p) ?_ ?_ ?_ ?_ rfl ?_
   ·exact(ae (upd G.tr 0 J) t1 (show k+1≠G.j+1 by omega)).trans (ae G.tr _ (show k+1≠0 by omega))
   ·have I:G'.fu (k+1)=G.fu (k+1):=(ae (upd G.fu 0 (vK Y G+1)) (phi Y G+1) (show k+1≠G.j+1 by omega)).trans (ae G.fu _ (show k+1≠0 by omega));show NH Y (G'.V (k+1)) k (G'.fu (k+1)) (G.th k) (G'.wp k)=NH Y (G.V (k+1)) k (G.fu (k+1)) (G.th k) (G.wp k);rw[E k p,I,K k p]
   ·simp only[Gh.q?,K k p]
   ·simp only[Gh.gone,K k p]
   ·exact fun⟨x1,x2,x3⟩=>⟨by rw[K k p];exact x1,x2,x3⟩
 ·rw[hD];exact m.old i z h0 hi (acZ i z (by omega) (by omega) C)
 ·rw[hD];simp only[a8,a9]at hi;exact m.above i (by omega)
 ·have D:k<G.j+1:=p;by_cases e:k=G.j
  ·subst e;exact absurd R L
  ·have:k<G.j:=by omega
   exact m.out k this (by rw[<-K k this];exact L)
 ·refine⟨?_,λh=>?_,λh1 h2=>?_,?_,λ_=>⟨c1,c2,?_,?_⟩,λh=>absurd h N.2.2.1,λh=>?_,λv h=>absurd h (N.2.2.2.2.2 v)⟩
  ·show G.s.v=sumTo (G.j+1) (λk=>fv (G'.wp k))+(if u=.go then 1 else 0)
   rw[LO,if_neg N.1,lU];omega
  ·show G.j+1<Y.n
   rcases H with⟨_,B⟩|⟨rfl,_⟩
   ·exact B
   ·rcases h with h|h<;>cases h
  ·show G.j+1=Y.n
   rcases H with⟨rfl,_⟩|⟨_,he⟩
   ·exact absurd rfl h1
   ·exact he
  ·show G.j+1<=Y.n;omega
  ·show sumTo (G.j+1) (λk=>fd (G'.wp k))=0;rw[LO,c3];rfl
  ·show sumTo (G.j+1) (λk=>f4 (G'.wp k))=0;rw[LO,c4];rfl
  ·rcases h with h|h|h
   ·exact absurd h N.2.2.2.1
   ·exact absurd h N.2.2.2.2.1
   ·exact absurd h N.2.1
 ·rw[GG];have D:k<G.j+1:=p;show phi Y G+1<=upd (upd G.fu 0 (vK Y G+1)) (G.j+1) (phi Y G+1) (k+1);by_cases e:k=G.j
  ·subst e;rw[ag];omega
  ·rw[ae _ _ (by omega),ae _ _ (by omega)];exact m.fuel k (by omega)
 ·have I:G'.fu 0=vK Y G+1:=(ae (upd G.fu 0 (vK Y G+1)) (phi Y G+1) (show 0≠G.j+1 by omega)).trans (ag G.fu 0 _);rw[I];omega
 ·have D:k<G.j+1:=p;by_cases e:k=G.j
  ·subst e;exact absurd R L
  ·have B:k<G.j:=by omega
   obtain⟨r,hr⟩:=m.rel k B (by rw[<-K k B];exact L);exact⟨r,ru hr Dw⟩
 ·simp only[aL,aP,aT,or_false]at S
  rcases S with rfl|rfl<;>simp[x,y]
 ·rcases Array.mem_append.1 S with h|h
  ·exact m.low op h
  ·simp only[aL,aP,aT,or_false]at h
   rcases h with rfl|rfl<;>trivial
 ·have D:k<G.j+1:=p;by_cases e:k=G.j
  ·subst e;exact absurd R L
  ·have B:k<G.j:=by omega
   exact m.fin k B (by rw[<-K k B];exact L)
def WN(V:Vw)(M:Own)(w:World)(d:Nat):Rl Y.toFix V M w (w.at d):=⟨rfl,rfl,.refl _,aw _,λ_ _=>rfl,λ_ _=>rfl,id,λ_ _=>rfl⟩
def Sit.at(h:Sit Y G b d g w)(n:Nat):Sit Y G b d g (w.at n):=by
 cases h with
 |run hg c h=>exact .run hg c (h.rely (WN _ _ _ _))
 |wait f hg e c i j h=>exact .wait f hg e c i j (h.rely (WN _ _ _ _))
 |gone hg h=>exact .gone hg h
def MI.at(m:MI Y G gs w t)(hF:nG Y)(n:Nat):MI Y G gs (w.at n) t:=
 ⟨m.cpos,m.size,λa c g hg=>(m.sit a c g hg).at n,m.old,m.above,m.sh,m.tb,m.mun,m.fresh,m.out,m.wi,m.fuel,m.fuel0,⟨m.oi.ap,m.oi.dj,m.oi.self,m.oi.rows,m.oi.base,m.oi.num,m.oi.ids,m.oi.main,m.oi.rowV⟩,m.shun,m.tri,m.rel,m.norel,m.low,
  λk e f=>hF k w (w.at n) (λ_ _=>rfl) (m.fin k e f),m.acq,m.tape,m.output,m.os,m.kept,m.rowok,m.un⟩
def MI.slip(m:MI Y G gs w t){i n:Nat}(hi:gs[i]?=some g)(Z:0<i)(I:i<Y.c\/∃k,k<G.j/\i=Y.c+k/\G.wp k=.quit)(J:G.q i=n+1)(z:∀e∈es,e.mute=true)
 (K:QuitsD Y.P n (deafBehind (Deaf t i) es) g') :
 ∃G',MI Y G' ((gs.map (woken Y.P g g' w)).setIfInBounds i g') w (t++aJ i g.frame.fn g.frame.place es)/\ML (Y.n+1) (mz Y G' ((gs.map (woken Y.P g g' w)).setIfInBounds i g')) (mz Y G gs):=by
 have O:i<gs.size:=(Array.getElem?_eq_some_iff.1 hi).1;have C:∀b,b≠i->Deaf (t++aJ i g.frame.fn g.frame.place es) b=Deaf t b:=λb hb=>
  Deaf_other t (Ne.symm hb) _ (λop o=>by obtain⟨e,_,rfl⟩:=bb o;rfl)
 have A:Deaf (t++aJ i g.frame.fn g.frame.place es) i=deafBehind (Deaf t i) es:=Deaf_own _ _ _ _ _;have D:∀op∈aJ i g.frame.fn g.frame.place es,op.act.touch? = none:=λop o=>by
  obtain⟨e,B,rfl⟩:=bb o;exact touch_mute (z e B)
 have L:∀b x,b≠i->((gs.map (woken Y.P g g' w)).setIfInBounds i g')[b]?=some x->∃y,gs[b]?=some y/\x=woken Y.P g g' w y:=by
  intro b x hb f;rw[a7 (Ne.symm hb),Array.getElem?_map]at f;obtain⟨y,hy,rfl⟩:=Option.map_eq_some_iff.1 f;exact⟨y,hy,rfl⟩
 have M:∀x,((gs.map (woken Y.P g g' w)).setIfInBounds i g')[i]?=some x->x=g':=by
  intro x f;rw[Array.getElem?_setIfInBounds_self_of_lt (by simpa using O)]at f;exact(ba f).symm
 refine⟨{ G with q:=upd G.q i n },⟨m.cpos,by simpa using m.size,λb hb x f=>?_,λb x Q hb f=>?_,λb hb=>?_,m.sh,m.tb,m.mun,m.fresh,m.out,⟨m.wi.v,m.wi.early,m.wi.late,m.wi.le,m.wi.calm,m.wi.w3,m.wi.done,m.wi.nz⟩,m.fuel,m.fuel0,
  ⟨m.oi.ap,m.oi.dj,m.oi.self,m.oi.rows,m.oi.base,m.oi.num,m.oi.ids,m.oi.main,m.oi.rowV⟩,m.shun,?_,λk u R=>?_,m.norel.app λop o=>?_,λop o=>?_,m.fin,λz=>?_,m.tape,m.output,m.os,m.kept,m.rowok,m.un⟩,?_⟩
 ·by_cases e:gid Y b=i
  ·rw[e]at f ⊢;obtain rfl:=M x f;rw[A]
   rcases I with h|⟨k,u,rfl,s⟩
   ·exfalso
    cases b with
    |zero=>rw[iZ]at e;omega
    |succ b=>rw[bQ]at e;omega
   ·have:b=k+1:=wm m.cpos (e.trans (bQ k).symm);subst this;exact .gone s (by simp only[bQ,ag];exact K)
  ·obtain⟨y,hy,rfl⟩:=L _ _ e f;rw[C _ e];exact(m.sit b hb y hy).other (Rl.refl _ _ _) g g' rfl rfl rfl rfl rfl Iff.rfl (ae _ _ e) .inl
 ·by_cases e:b=i
  ·subst e;obtain rfl:=M x f;rw[A];simp only[ag];exact K
  ·obtain⟨y,hy,rfl⟩:=L _ _ e f;have:=m.old b y Q hb hy;rw[C _ e,woken_quitsD this];simp only[ae _ _ e];exact this
 ·have S:gs.size<=b:=by simpa using hb
  rw[C _ (by omega)];exact m.above b S
 ·exact m.tri.appMute (g:=i) (λop o=>by obtain⟨e,_,rfl⟩:=bb o;rfl) D
 ·obtain⟨r,E⟩:=m.rel k u R;exact⟨r,ru E D⟩
 ·obtain⟨e,B,rfl⟩:=bb o;have:=z e B;obtain⟨l,x,y⟩:=e;intro hc
  cases l with
  |mark T=>cases T<;>simp_all [Event.mute,MemAct.ofEvent]
  |_=>simp_all [Event.mute]
 ·rcases Array.mem_append.1 o with h|h
  ·exact m.low op h
  ·obtain⟨e,B,rfl⟩:=bb h;exact low_mute (z e B) _
 ·obtain⟨p,N,U,V,W⟩:=m.acq z;have F:=lt_of_act? N;refine⟨p,by rw[act?_old F];exact N,by rw[g?_old F];exact U,(heard_old F).2 V,λk u=>?_⟩;obtain⟨r,E,H⟩:=W k u;exact⟨r,ru E D,H⟩
 ·refine .inr ⟨rfl,.inr ⟨rfl,.inl ?_⟩⟩;show qs Y { G with q:=upd G.q i n }<qs Y G;unfold qs;simp only
  rcases I with h|⟨k,u,rfl,s⟩
  ·have e1:sumTo Y.c (λb=>if b=0 then 0 else upd G.q i n b)+(n+1)=sumTo Y.c (λb=>if b=0 then 0 else G.q b)+n:=by
    have:=ac (j:=Y.c) (λb=>if b=0 then 0 else G.q b) n id h;simp only[id]at this;rw[if_neg (by omega),J]at this;rw[<-this];congr 1;refine ar λb _=>?_;by_cases e:b=i
    ·subst e;rw[ag,ag,if_neg (by omega)]
    ·rw[ae _ _ e,ae _ _ e]
   have X:sumTo G.j (λk=>if G.wp k=.quit then upd G.q i n (Y.c+k) else 0)=sumTo G.j (λk=>if G.wp k=.quit then G.q (Y.c+k) else 0):=
    ar λk _=>by rw[ae _ _ (by omega)]
   omega
  ·have e1:sumTo Y.c (λb=>if b=0 then 0 else upd G.q (Y.c+k) n b)=sumTo Y.c (λb=>if b=0 then 0 else G.q b):=
    ar λb hb=>by rw[ae _ _ (by omega)]
   have X:sumTo G.j (λb=>if G.wp b=.quit then upd G.q (Y.c+k) n (Y.c+b) else 0)+(n+1)=sumTo G.j (λb=>if G.wp b=.quit then G.q (Y.c+b) else 0)+n:=by
    have:=ac (j:=G.j) (λb=>if G.wp b=.quit then G.q (Y.c+b) else 0) n id u;simp only[id]at this;rw[if_pos s,J]at this;rw[<-this];congr 1;refine ar λb _=>?_;by_cases e:b=k
    ·subst e;rw[ag,ag,if_pos s]
    ·rw[ae _ _ e,ae _ _ (by omega)]
   omega
def MI.T7(m:MI Y G gs w t):∃(i:Nat)(g:aa),gs[i]?=some g/\g.status=.running:=by
 refine Classical.byContradiction λA=>?_;have x:∀(i:Nat)(g:aa),gs[i]?=some g->g.status≠.running:=λi g h l=>A ⟨i,g,h,l⟩;have H:=m.size;have W:=m.wi;have n:∀a,a<=G.j->∃g,gs[gid Y a]?=some g:=λa B=>⟨_,a6 (by have:=Yz (Y:=Y) B m.cpos;omega)⟩
 obtain⟨C,y⟩:=n 0 (aB _);have o:G.mp=.w3/\G.s.ws=0:=by
  cases m.sit 0 (aB _) C y with
  |run _ l _=>exact absurd l (x _ _ y)
  |wait _ _ _ _ _ r _=>exact r
  |gone h _=>exact h.elim
 have I:=W.late (by rw[o.1];simp) (by rw[o.1];simp);have e:∀k,k<G.j->G.wp k=.quit\/(G.wp k=.mu/\(G.th k).pc=.s1/\G.s.ms=0):=by
  intro k e;obtain⟨g,hg⟩:=n (k+1) e
  cases m.sit (k+1) e g hg with
  |run _ l _=>exact absurd l (x _ _ hg)
  |wait _ _ _ _ _ r _=>exact .inr r
  |gone h _=>exact .inl h
 have D:=m.mun.live λk J=>by
  rcases e k (by omega) with h|⟨_,h⟩
  ·exact .inl (m.out k (by omega) (by rw[h];simp))
  ·exact .inr h
 have E:∀k,k<G.j->G.wp k=.quit:=by
  intro k u
  rcases e k u with h|⟨_,h,_⟩
  ·exact h
  ·have:(G.th k).pc=.out:=D k (by omega);rw[this]at h;cases h
 have z:∀f:WP->Nat,f .quit=0->sumTo G.j (λk=>f (G.wp k))=0:=λf hf=>by
  have:=ao (f:=λk=>f (G.wp k)) (c:=0) (j:=G.j) λk e=>by rw[E k e,hf];exact aw _
  omega
 have hv:=W.v;rw[z fv rfl,if_neg (by rw[o.1];simp)]at hv
 rcases W.w3 o.1 with⟨c1,F,c3,p⟩|⟨c1,F,c3,p⟩
 ·rw[if_pos hv,z fd rfl]at p;cases p
 ·rw[z f4 rfl,o.2]at p;cases p
def nL(Y:CB)(G:Gh)(gs:Array aa)(w:World)(t:Trace):Prop:=G.mp=.an/\∃g,gs[0]?=some g/\g.status=.running/\Deaf t 0=0/\Y.Post (G.M 0) g w
def GL(Y:CB):Prop:=∀M g w d,Y.Post M g (w.at d)->Y.Post M g w
def MI.step(m:MI Y G gs w t)(hF:nG Y)(Q:Jn Y)(R:GL Y):nL Y G gs w t\/
 ∃l w' p ops G',stepT Y.P (crowd gs w sl)=(.next (crowd l w' p),ops)/\MI Y G' l w' (t++ops)/\ML (Y.n+1) (mz Y G' l) (mz Y G gs):=by
 have X:=m.size;have cpos:=m.cpos;have who:∀i,i<gs.size->i=gid Y 0\/(0<i/\i<Y.c)\/∃k,k<G.j/\i=gid Y (k+1):=by
  intro i hi
  rcases Nat.eq_zero_or_pos i with rfl|h
  ·exact .inl rfl
  ·rcases aH i Y.c with u|u
   ·exact .inr (.inl ⟨h,u⟩)
   ·exact .inr (.inr ⟨i-Y.c,by omega,by rw[bQ];omega⟩)
 have S:∀g∈gs,awake g:=by
  intro g hg;obtain⟨i,hi,rfl⟩:=Array.mem_iff_getElem.1 hg;have E:gs[i]?=some gs[i]:=a6 hi
  rcases who i hi with rfl|⟨u,z⟩|⟨k,x,rfl⟩
  ·exact bc (m.sit 0 (aB _) _ E).status
  ·exact bc ((m.old i _ u z E).status.imp id .inr)
  ·exact bc (m.sit (k+1) x _ E).status
 obtain⟨i,g,d,p,hi,o,A⟩:=crowd_pick (P:=Y.P) (w:=w) (sl:=sl) S m.T7;have T:i<gs.size:=(Array.getElem?_eq_some_iff.1 hi).1;have m':=m.at hF d;have finish:∀a,i=gid Y a->Made Y G gs (w.at d) t a g->∃l w' p ops G',stepT Y.P (crowd gs w sl)=(.next (crowd l w' p),ops)/\MI Y G' l w' (t++ops)/\ML (Y.n+1) (mz Y G' l) (mz Y G gs):=by
  rintro a rfl⟨g',w',es,G',u,z,U⟩;exact⟨_,w',p,_,G',by rw[A];exact bd hi u,z,U⟩
 rcases who i T with rfl|⟨u,z⟩|⟨k,x,rfl⟩
 ·
  cases m'.sit 0 (aB _) g hi with
  |wait V _ e _ _ _ _=>subst e;cases o
  |gone h _=>exact h.elim
  |run B _ v=>
   have stop:G.um Y 0 (G.M 0) (Deaf t (gid Y 0)) g (w.at d)->nL Y G gs w t\/∃l w' p ops G',stepT Y.P (crowd gs w sl)=(.next (crowd l w' p),ops)/\MI Y G' l w' (t++ops)/\ML (Y.n+1) (mz Y G' l) (mz Y G gs):=by
    intro hs;by_cases e1:G.mp=.an
    ·left;simp only[Gh.um]at hs;rw[e1]at hs;obtain⟨x1,x2,x3⟩:=hs;exact⟨e1,g,hi,x1,x2,R _ _ _ _ x3⟩
    ·right;by_cases O:G.mp=.go
     ·obtain⟨l,ops,G',C,D,W⟩:=m'.spawn (sl:=p) Q hi O hs;exact⟨l,w.at d,p,ops,G',by rw[A];exact C,D,W⟩
     ·exact finish 0 rfl (m'.Pa hF hi o v hs O e1)
   cases hf:G.tr 0 with
   |leaf=>
    have r:=v;rw[hf]at r;exact stop (r _ (Rl.refl _ _ _))
   |node f=>
    have r:=v;rw[hf]at r
    rcases r _ (Rl.refl _ _ _) with hs|⟨_,F⟩
    ·exact stop hs
    ·exact .inr (finish 0 rfl (m'.loc hF (aB _) hi B hf F))
 ·
  right;have s:=m'.old i g u z hi
  cases y:G.q i with
  |zero=>rw[y]at s;rw[s.1]at o;cases o
  |succ n=>
   rw[y]at s
   rcases s with⟨H,_⟩|⟨_,g',es,I,J,K⟩
   ·rw[H]at o;cases o
   have L:(i==0)=false:=by simp;omega
   obtain⟨G',C,D⟩:=m'.slip hi u (.inl z) y I K;exact⟨_,w.at d,p,_,G',by rw[A];exact bd hi (by rw[L];exact J (w.at d)),C,D⟩
 ·
  right
  cases m'.sit (k+1) x g hi with
  |wait V _ e _ _ _ _=>subst e;cases o
  |gone N s=>
   rw[bQ]at hi A;rw[bQ]at s
   cases y:G.q (Y.c+k) with
   |zero=>rw[y]at s;rw[s.1]at o;cases o
   |succ n=>
    rw[y]at s
    rcases s with⟨H,_⟩|⟨_,g',es,I,J,K⟩
    ·rw[H]at o;cases o
    have L:(Y.c+k==0)=false:=by simp;omega
    obtain⟨G',C,D⟩:=m'.slip hi (by omega) (.inr ⟨k,x,rfl,N⟩) y I K;exact⟨_,w.at d,p,_,G',by rw[A];exact bd hi (by rw[L];exact J (w.at d)),C,D⟩
  |run B _ v=>
   cases hf:G.tr (k+1) with
   |leaf=>
    have r:=v;rw[hf]at r;exact finish (k+1) rfl (m'.Jm hF x hi B o v (r _ (Rl.refl _ _ _)))
   |node f=>
    have r:=v;rw[hf]at r
    rcases r _ (Rl.refl _ _ _) with hs|⟨_,F⟩
    ·exact finish (k+1) rfl (m'.Jm hF x hi B o v hs)
    ·exact finish (k+1) rfl (m'.loc hF x hi B hf F)
def MI.runs(hF:nG Y)(f:Jn Y)(i:GL Y):∀(z:Mz)(G:Gh)(gs:Array aa)(w:World)(sl:Option (Nat×Nat))(t:Trace),mz Y G gs=z->MI Y G gs w t->
 ∃N c w1 e t1 G1,runNT Y.P N (crowd gs w sl) t=(.next (crowd c w1 e),t1)/\MI Y G1 c w1 t1/\nL Y G1 c w1 t1:=by
 intro z
 induction (acT (Y.n+1)).apply z with
 |intro z _ j=>
  rintro G gs w sl t rfl m
  rcases m.step (sl:=sl) hF f i with h|⟨k,w',l,ops,G',o,p,r⟩
  ·exact⟨0,gs,w,sl,t,G,rfl,m,h⟩
  ·obtain⟨N,c,w1,e,t1,G1,s,u,v⟩:=j _ r G' k w' l (t++ops) rfl p;exact⟨N+1,c,w1,e,t1,G1,by simp only[runNT,o];exact s,u,v⟩
def nL.T8(m:MI Y G gs w t)(h:nL Y G gs w t):Leavers Y.P t gs G.q:=by
 refine⟨λi g o hi=>?_,m.above⟩;have p:i<gs.size:=(Array.getElem?_eq_some_iff.1 hi).1
 rcases aH i Y.c with l|l
 ·exact m.old i g o l hi
 ·have r:=m.size;have n:i-Y.c<G.j:=by omega
  have e:gid Y (i-Y.c+1)=i:=by rw[bQ];omega
  have f:=(m.wi.done (.inr (.inr h.1))).2.2.2 (i-Y.c) n;have hs:=m.sit (i-Y.c+1) n g (by rw[e];exact hi);rw[e]at hs
  cases hs with
  |run k _ _=>exact absurd f k
  |wait _ k _ _ _ _ _=>exact absurd f k
  |gone _ f=>rw[e]at f;exact f
def nL.GA(m:MI Y G gs w t)(h:nL Y G gs w t):Past (λl=>Y.Shun l\/OZ Y.toFix l) w.heap.size t:=by
 obtain⟨p,f,i,j,n⟩:=m.acq h.1;obtain⟨_,_,_,_,hd,_⟩:=h;refine m.tri.GA (λk k1 k2 _=>?_) m.norel f i j hd m.low;have e:Y.c+(k-Y.c)=k:=by omega
 have:=n (k-Y.c) (by omega);rw[e]at this;exact this
def nL.fin(m:MI Y G gs w t)(h:nL Y G gs w t):∀k,k<Y.n->Y.Fin k w:=by
 intro k e;have f:=m.wi.late (by rw[h.1];simp) (by rw[h.1];simp);have c:=(m.wi.done (.inr (.inr h.1))).2.2.2 k (by omega);exact m.fin k (by omega) (by rw[c];simp)
end
end Go.Ph
