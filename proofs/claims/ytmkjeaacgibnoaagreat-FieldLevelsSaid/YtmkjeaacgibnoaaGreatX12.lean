/- Part of the proof of FieldLevels: see X45. -/
import Derived.Test.YtmkjeaacgibnoaaGreatX11
import Derived.Conc.MuSpec
import Derived.Conc.MuStep0
import Derived.Conc.Starve
set_option linter.all false
open Go.cD renaming inv_of->aa
open Nat renaming mul_add->ab,mul_one->ac,le_refl->ae
open Go renaming Goroutine->ag
namespace Go.cD
open Go.ConcN (sumTo upd sumTo_upd upd_ne upd_same sumTo_congr le_sumTo sumTo_le)
section
variable {n:Nat}{s:St}{i:Nat}{T T':Th}{w':Wd}{ms':Nat}
def Inv.move(h:Inv n s)(hi:i<n)(c:s.th i=T)(m:Mv s.w s.ms T T' w' ms'):Inv n ⟨upd s.th i T',w',ms'⟩/\OY n ⟨upd s.th i T',w',ms'⟩ s:=by
 have d:Tok n T:=c▸h.tok i hi;have Z:Safe T s.w:=c▸h.safe hi;have small:=h.small
 cases m with
 |lock a E=>
  have f:=d.r (by rw[a];simp)
  have g:T.aw=false:=by cases e:T.aw with|false=>rfl|true=>rcases d.aw e with x|x|x<;>rw[a]at x<;>cases x
  refine⟨?_,pQ hi (by rw[c];simp only[am,a];omega)⟩;obtain⟨H,Q,K,A,R,W,U,N,D,p,B,C,F⟩:=h.num;obtain⟨y,t,q,u,v,j,z,N'⟩:=N.upd (T':={ pc:=.u0,r:=T.r }) (w':={ l:=true }) (ms':=s.ms) hi c;rw[E]at p B C F;simp only[fh,fq,fk,fa,fr,fw,fu,a,g]at N' y t q u v j z;simp at p B C F N';refine aa (ew h (dg rfl (by simp) (by simp) (by simp) (by simp) (by simp) (by simp) (λ_=>f) (by simp) (by simp))) N' (by omega) (by simp;omega) (by simp;omega) (by simp) (by simp)
 |acJ a E=>
  have f:=d.r (by rw[a];simp)
  have g:T.aw=false:=by cases e:T.aw with|false=>rfl|true=>rcases d.aw e with x|x|x<;>rw[a]at x<;>cases x
  refine⟨fX h hi (dg rfl (by simp) (by simp) (by simp) (by simp) (by simp) (by simp) (λ_=>f) (by simp) (by simp)) ?_ ?_ ?_ ?_ ?_ ?_ ?_,fI hi (by rw[c];simp[am,a]) (by rw[c];simp[wt,a])⟩<;>simp[c,fh,fq,fk,fa,fr,fw,fu,a,g]
 |Ws _ a I=>
  have f:=d.r (by rw[a];simp)
  have g:T.aw=false:=by cases e:T.aw with|false=>rfl|true=>rcases d.aw e with x|x|x<;>rw[a]at x<;>cases x
  obtain⟨c1,M,c3,O,P,S,V⟩:=I.counts;refine⟨fX h hi (I.tok f (by simp) (by simp) small (by simp)) ?_ ?_ ?_ ?_ ?_ ?_ ?_,fI hi (by rw[c,I.am];simp[am,a]) ?_⟩
  ·rw[c,c1];simp[fh,a]
  ·rw[c,M];simp[fq,a]
  ·rw[c,c3];simp[fk,a]
  ·rw[c,O];simp[fa,a]
  ·rw[c,P];simp[fr,a]
  ·rw[c,S];simp[fu,a]
  ·rw[c,V];simp[fw,g]
  ·have zg:=I.wt (n:=n);simp at zg;rw[c];have e:wt n s.w T=8*n+19:=by simp[wt,a]
   omega
 |Wt a E=>
  have f:=d.r (by rw[a];simp);have zf:=d.it (.inl a);obtain⟨o1,o2,o3,o4⟩:=d.c1 a
  have g:T.aw=false:=by cases e:T.aw with|false=>rfl|true=>rcases d.aw e with x|x|x<;>rw[a]at x<;>cases x
  refine⟨?_,uj hi (by rw[c];simp[am,a]) (by rw[c];simp[wt,a,g];omega)⟩;obtain⟨H,Q,K,A,R,W,U,N,D,p,B,C,F⟩:=h.num;obtain⟨y,t,q,u,v,j,z,N'⟩:=N.upd (T':={ T with pc:=.r1,aw:=true }) (w':={ s.w with w:=true }) (ms':=s.ms) hi c;rw[<-E]at o1 o2 o3 o4;obtain⟨o,J,L⟩:=B o2;simp[o3]at o;simp only[fh,fq,fk,fa,fr,fw,fu,a,g]at N' y t q u v j z;simp at N';refine aa (ew h ?_) N' D (by simpa using p) (by simp;omega) (by simp[o2]) (by simp);exact⟨λ_=>.inl rfl,λ_ _=>rfl,λx=>(by cases x),λ_=>zf,d.Yv,λx=>(by cases x),λx=>(by cases x),λx=>(by cases x),d.old,λ_=>f,λx=>(by cases x)⟩
 |Wu a E=>
  have f:=d.r (by rw[a];simp);have zf:=d.it (.inl a)
  have g:T.aw=false:=by cases e:T.aw with|false=>rfl|true=>rcases d.aw e with x|x|x<;>rw[a]at x<;>cases x
  refine⟨fX h hi ?_ ?_ ?_ ?_ ?_ ?_ ?_ ?_,fI hi (by rw[c];simp[am,a]) (by rw[c];simp[wt,a])⟩
  ·exact⟨λx=>.inl rfl,λ_ x=>d.sv (.inr (.inl a)) x,λx=>(by cases x),λ_=>zf,d.Yv,λx=>(by cases x),λx=>(by cases x),λx=>(by cases x),d.old,λ_=>f,λx=>(by cases x)⟩
  all_goals simp[c,fh,fq,fk,fa,fr,fw,fu,a]
 |Wv _ a I=>
  have f:=d.r (by rw[a];simp);have zf:=d.it (.inr a);obtain⟨c1,M,c3,O,P,S,V⟩:=I.counts;refine⟨fX h hi (I.tok f (λx=>d.sv (.inl a) x) (by show T.it+1<=4;omega) small (λx=>(Z.aw x).1)) ?_ ?_ ?_ ?_ ?_ ?_ ?_,fI hi (by rw[c,I.am];simp[am,a]) ?_⟩
  ·rw[c,c1];simp[fh,a]
  ·rw[c,M];simp[fq,a]
  ·rw[c,c3];simp[fk,a]
  ·rw[c,O];simp[fa,a]
  ·rw[c,P];simp[fr,a]
  ·rw[c,S];simp[fu,a]
  ·rw[c,V];simp[fw]
  ·have zg:=I.wt (n:=n);simp at zg;rw[c];have e:wt n s.w T=4*n+1+(if T.aw then 0 else 4*n+1)+3*(4-T.it)+2:=by simp[wt,a]
   omega
 |take a E hl hs=>
  have f:=d.r (by rw[a];simp);refine⟨?_,pQ hi (by rw[c];simp only[am,a];omega)⟩;obtain⟨H,Q,K,A,R,W,U,N,D,p,B,C,F⟩:=h.num;obtain⟨y,t,q,u,v,j,z,N'⟩:=N.upd (T':={ pc:=.u0,r:=T.r }) (w':=T.nw) (ms':=s.ms) hi c;have enw:T.nw={ l:=true,w:=s.w.w && !T.aw,s:=false,k:=s.w.k }:=by rw[d.c2 a,qZ,<-E];simp[hl,hs]
  rw[enw]at N' ⊢;obtain⟨o,J,L⟩:=B hs;have hH0:H=0:=by
   rcases Nat.eq_zero_or_pos H with e|e
   ·exact e
   ·rw[p.2 (by omega)]at hl;cases hl
  have g:T.aw=true->s.w.w=true:=λx=>(Z.aw x).1;simp only[fh,fq,fk,fa,fr,fw,fu,a]at N' y t q u v j z;simp at N';refine aa (ew h (dg rfl (by simp) (by simp) (by simp) (by simp) (by simp) (by simp) (λ_=>f) (by simp) (by simp))) N' (by omega) (by simp;omega) (λ_=>?_) (by simp) (by simp)
  cases X:T.aw with
  |false=>simp[X]at j ⊢;rw[o];exact⟨rfl,J,by omega⟩
  |true=>
   simp[X]at j ⊢;rw[g X]at o;simp at o;omega
 |queue a E Fz=>
  have f:=d.r (by rw[a];simp);refine⟨?_,uj hi (by rw[c];simp[am,a]) (by rw[c];simp[wt,a];omega)⟩;obtain⟨H,Q,K,A,R,W,U,N,D,p,B,C,F⟩:=h.num;obtain⟨y,t,q,u,v,j,z,N'⟩:=N.upd (T':={ pc:=.s1,sv:=T.sv,r:=T.r }) (w':=T.nw) (ms':=s.ms) hi c;have g:T.aw=true->s.w.w=true/\s.w.s=false:=λx=>Z.aw x;have hsv:T.sv=true->T.aw=true:=d.sv (.inr (.inr (.inl a)))
  have zz:(s.w.l||s.w.s)=true:=by rcases Fz with e|e<;>simp[e]
  have enw:T.nw={ l:=s.w.l || !s.w.s,w:=s.w.w && !T.aw,s:=s.w.s||(T.sv&&s.w.l),k:=s.w.k+1 }:=by rw[d.c2 a,qZ,<-E,if_pos zz]
  rw[enw]at N' ⊢;simp only[fh,fq,fk,fa,fr,fw,fu,a]at N' y t q u v j z;simp at N';refine aa (ew h (dg rfl (by simp) (by simp) (by simp) (by simp) (by simp) (by simp) (λ_=>f) (by simp) (by simp))) N' D ?_ ?_ ?_ ?_
  ·cases hs:s.w.s with
   |true=>simpa[hs]using p
   |false=>
    have hl:s.w.l=true:=by simpa[hs]using zz
    simpa[hl]using p.1 hl
  ·intro Y;simp at Y;obtain⟨hs,hsl⟩:=Y;have hl:s.w.l=true:=by simpa[hs]using zz
   obtain⟨o,J,L⟩:=B hs
   cases X:T.aw with
   |false=>simp[X]at j ⊢;rw[o];exact⟨rfl,J,by omega⟩
   |true=>
    simp[X]at j ⊢;rw[(g X).1]at o;simp at o;omega
  ·intro Y;simp at Y
   cases hs:s.w.s with
   |true=>
    obtain⟨o,J,L,g4⟩:=C hs;have X:T.aw=false:=by
     cases e:T.aw with
     |false=>rfl
     |true=>have:=(g e).2;rw[hs]at this;cases this
    simp[X,o];omega
   |false=>
    obtain⟨ai0,hl⟩:T.sv=true/\s.w.l=true:=by simpa[hs]using Y
    have X:=hsv ai0;obtain⟨o,J,L⟩:=B hs;rw[(g X).1]at o;have:=p.1 hl;simp[X]at j o ⊢;omega
  ·intro Y qu Ji;simp at Y Ji;rw[Y.1]at Ji;exact absurd Ji.2 (by simp)
 |Ww a E=>
  have f:=d.r (by rw[a];simp);refine⟨fX h hi ?_ ?_ ?_ ?_ ?_ ?_ ?_ ?_,fI hi (by rw[c];simp[am,a]) (by rw[c];simp[wt,a,Ne.symm E])⟩
  ·exact⟨λx=>.inr (.inr rfl),λ_ x=>d.sv (.inr (.inr (.inl a))) x,λx=>(by cases x),λx=>(by rcases x with x|x<;>cases x),d.Yv,λx=>(by cases x),λx=>(by cases x),λx=>(by cases x),d.old,λ_=>f,λx=>(by cases x)⟩
  all_goals simp[c,fh,fq,fk,fa,fr,fw,fu,a]
 |Wx _ a I=>
  have f:=d.r (by rw[a];simp);obtain⟨c1,M,c3,O,P,S,V⟩:=I.counts;refine⟨fX h hi (I.tok f (λx=>d.sv (.inr (.inr (.inr a))) x) d.Yv small (λx=>(Z.aw x).1)) ?_ ?_ ?_ ?_ ?_ ?_ ?_,fI hi (by rw[c,I.am];simp[am,a]) ?_⟩
  ·rw[c,c1];simp[fh,a]
  ·rw[c,M];simp[fq,a]
  ·rw[c,c3];simp[fk,a]
  ·rw[c,O];simp[fa,a]
  ·rw[c,P];simp[fr,a]
  ·rw[c,S];simp[fu,a]
  ·rw[c,V];simp[fw]
  ·have zg:=I.wt (n:=n);simp at zg;rw[c];have e:wt n s.w T=4*n+1+(if T.aw then 0 else 4*n+1)+3*(4-T.it)+5:=by simp[wt,a]
   omega
 |woken b a hb GB=>
  have f:=d.r (by rw[a];simp)
  have g:T.aw=false:=by cases e:T.aw with|false=>rfl|true=>rcases d.aw e with x|x|x<;>rw[a]at x<;>cases x
  refine⟨?_,fI hi (by rw[c];simp[am,a]) ?_⟩
  ·obtain⟨H,Q,K,A,R,W,U,N,D,p,B,C,F⟩:=h.num;obtain⟨y,t,q,u,v,j,z,N'⟩:=N.upd (T':={ pc:=.r2,sv:=b,r:=T.r }) (w':=s.w) (ms':=s.ms-1) hi c;simp only[fh,fq,fk,fa,fr,fw,fu,a,g]at N' y t q u v j z;simp at N' t;refine aa (ew h (dg rfl (by simp) (by simp) (by simp) (by simp) (by simp) (by simp) (λ_=>f) (by simp) (by simp))) N' D p (λhs=>?_) (λhs=>?_) F
   ·obtain⟨o,J,L⟩:=B hs;show W+R+(s.ms-1)+(K+1)=_/\_/\Q-1=s.w.k+R+(s.ms-1)
    rw[<-o];omega
   ·obtain⟨o,J,L,g4⟩:=C hs;show _/\_/\H+R+(s.ms-1)+(K+1)+A=1/\Q-1+(K+1)+A=s.w.k;exact⟨o,J,by omega,by omega⟩
  ·rw[c];have e1:wt n s.w T=0:=by simp[wt,a]
   have e2:wt n s.w { pc:=.r2,sv:=b,r:=T.r }=4*n+18:=rfl;obtain⟨m,hm⟩:∃m,s.ms=m+1:=⟨s.ms-1,by omega⟩
   rw[e1,e2,hm,Nat.add_sub_cancel,ab,ac];omega
 |Wz _ a hs I=>
  have f:=d.r (by rw[a];simp)
  have g:T.aw=false:=by cases e:T.aw with|false=>rfl|true=>rcases d.aw e with x|x|x<;>rw[a]at x<;>cases x
  obtain⟨c1,M,c3,O,P,S,V⟩:=I.counts;refine⟨?_,fI hi (by rw[c,I.am];simp[am,a]) ?_⟩
  ·obtain⟨H,Q,K,A,R,W,U,N,D,p,B,C,F⟩:=h.num;obtain⟨y,t,q,u,v,j,z,N'⟩:=N.upd (T':=T') (w':=s.w) (ms':=s.ms) hi c;rw[c1,M,c3,O,P,S,V]at N';simp only[fh,fq,fk,fa,fr,fw,fu,a,g]at N' y t q u v j z;simp at N' q;refine aa (ew h (I.tok f (λx=>rfl) (by simp) small (λ_=>Z.r2n a hs))) N' D p (λhs=>?_) (λY=>by rw[show s.w.s=true from Y]at hs;cases hs) F;obtain⟨o,J,L⟩:=B hs;show W+1+R+s.ms+(K-1)=_/\_/\_;rw[<-o];exact⟨by omega,J,L⟩
  ·have zg:=I.wt (n:=n);simp at zg;rw[c];have e:wt n s.w T=4*n+18:=by simp[wt,a]
   omega
 |handed a hs=>
  have f:=d.r (by rw[a];simp)
  have g:T.aw=false:=by cases e:T.aw with|false=>rfl|true=>rcases d.aw e with x|x|x<;>rw[a]at x<;>cases x
  refine⟨?_,fI hi (by rw[c];simp[am,a]) (by rw[c];simp[wt,a])⟩;obtain⟨H,Q,K,A,R,W,U,N,D,p,B,C,F⟩:=h.num;obtain⟨y,t,q,u,v,j,z,N'⟩:=N.upd (T':={ pc:=.a1,sv:=T.sv,ex:=!T.sv||s.w.k==1,r:=T.r }) (w':=s.w) (ms':=s.ms) hi c;simp only[fh,fq,fk,fa,fr,fw,fu,a,g]at N' y t q u v j z;simp at N' q;refine aa (ew h (dg rfl (by simp) (by simp) (by simp) (by simp) (by simp) (by simp) (λ_=>f) (by simp) (by simp))) N' D p (λY=>by rw[show s.w.s=false from Y]at hs;cases hs) (λ_=>?_) F;obtain⟨o,J,L,g4⟩:=C hs;show _/\_/\H+R+s.ms+(K-1)+(A+1)=1/\Q+(K-1)+(A+1)=s.w.k;exact⟨o,J,by omega,by omega⟩
 |acK a=>
  have f:=d.r (by rw[a];simp)
  have g:T.aw=false:=by cases e:T.aw with|false=>rfl|true=>rcases d.aw e with x|x|x<;>rw[a]at x<;>cases x
  obtain⟨a1,a2,a3,a4⟩:=Z.a1 a;refine⟨?_,pQ hi (by rw[c];simp only[am,a];omega)⟩;obtain⟨H,Q,K,A,R,W,U,N,D,p,B,C,F⟩:=h.num;obtain⟨y,t,q,u,v,j,z,N'⟩:=N.upd (T':={ pc:=.u0,r:=T.r }) (w':={ l:=true,w:=s.w.w,s:=s.w.s && !T.ex,k:=s.w.k-1 }) (ms':=s.ms) hi c;simp only[fh,fq,fk,fa,fr,fw,fu,a,g]at N' y t q u v j z;simp at N' u;obtain⟨o,J,L,g4⟩:=C a3;refine aa (ew h (dg rfl (by simp) (by simp) (by simp) (by simp) (by simp) (by simp) (λ_=>f) (by simp) (by simp))) N' (by omega) (by simp;omega) (λ_=>?_) (λ_=>?_) (by simp)
  ·simp[a2];omega
  ·simp[a2];omega
 |free a hs hk=>
  have f:=d.r (by rw[a];simp)
  have g:T.aw=false:=by cases e:T.aw with|false=>rfl|true=>rcases d.aw e with x|x|x<;>rw[a]at x<;>cases x
  have hl:=Z.u0 a;obtain⟨c1,M,c3,O,P,S,V⟩:=lz T.r;refine⟨?_,pQ hi (by rw[c,uk];simp only[am,a];omega)⟩;obtain⟨H,Q,K,A,R,W,U,N,D,p,B,C,F⟩:=h.num;obtain⟨y,t,q,u,v,j,z,N'⟩:=N.upd (T':=bP T.r) (w':={ s.w with l:=false }) (ms':=s.ms) hi c;rw[c1,M,c3,O,P,S,V]at N';simp only[fh,fq,fk,fa,fr,fw,fu,a,g]at N' y t q u v j z;simp at N';have:=p.1 hl;refine aa (ew h (ri _)) N' (by omega) (by simp;omega) (by simpa using B) (by simp[hs]) (λ_ FA _ WB=>?_);simp at FA WB
  rcases hk with e|e
  ·exact absurd e WB
  ·rw[e]at FA;cases FA
 |hand a hs=>
  have f:=d.r (by rw[a];simp)
  have g:T.aw=false:=by cases e:T.aw with|false=>rfl|true=>rcases d.aw e with x|x|x<;>rw[a]at x<;>cases x
  have hl:=Z.u0 a;refine⟨?_,pQ hi (by rw[c];simp only[am,a];omega)⟩;obtain⟨H,Q,K,A,R,W,U,N,D,p,B,C,F⟩:=h.num;obtain⟨y,t,q,u,v,j,z,N'⟩:=N.upd (T':={ pc:=.us,r:=T.r }) (w':={ s.w with l:=false }) (ms':=s.ms) hi c;simp only[fh,fq,fk,fa,fr,fw,fu,a,g]at N' y t q u v j z;simp at N';have:=p.1 hl;obtain⟨o,J,L,g4⟩:=C hs;refine aa (ew h (dg rfl (by simp) (by simp) (by simp) (by simp) (by simp) (by simp) (λ_=>f) (by simp) (by simp))) N' (by omega) (by simp;omega) (by simp[hs]) (λ_=>?_) (by simp[hs]);simp[o];omega
 |acL a hs hk E=>
  have f:=d.r (by rw[a];simp)
  have g:T.aw=false:=by cases e:T.aw with|false=>rfl|true=>rcases d.aw e with x|x|x<;>rw[a]at x<;>cases x
  have hl:=Z.u0 a;refine⟨?_,pQ hi (by rw[c];simp only[am,a];omega)⟩;obtain⟨H,Q,K,A,R,W,U,N,D,p,B,C,F⟩:=h.num;obtain⟨y,t,q,u,v,j,z,N'⟩:=N.upd (T':={ pc:=.uc,old:={ s.w with l:=false },r:=T.r }) (w':={ s.w with l:=false }) (ms':=s.ms) hi c;simp only[fh,fq,fk,fa,fr,fw,fu,a,g]at N' y t q u v j z;simp at N';have:=p.1 hl;refine aa (ew h ?_) N' (by omega) (by simp;omega) (by simpa using B) (by simp[hs]) (λ_ _ _ _=>by omega);exact⟨λx=>(by cases x),λx=>(by rcases x with x|x|x|x<;>cases x),λx=>(by cases x),λx=>(by rcases x with x|x<;>cases x),by simp,λx=>(by cases x),λx=>(by cases x),λ_=>⟨rfl,hs,E,hk⟩,small,λ_=>f,λx=>(by cases x)⟩
 |release a E=>
  have f:=d.r (by rw[a];simp)
  have g:T.aw=false:=by cases e:T.aw with|false=>rfl|true=>rcases d.aw e with x|x|x<;>rw[a]at x<;>cases x
  obtain⟨o1,o2,o3,o4⟩:=d.uc a;refine⟨?_,uj hi (by rw[c];simp[am,a]) (by rw[c];simp[wt,a];omega)⟩;obtain⟨H,Q,K,A,R,W,U,N,D,p,B,C,F⟩:=h.num;obtain⟨y,t,q,u,v,j,z,N'⟩:=N.upd (T':={ pc:=.us,r:=T.r }) (w':={ s.w with k:=s.w.k-1,w:=true }) (ms':=s.ms) hi c;rw[<-E]at o1 o2 o3 o4;simp only[fh,fq,fk,fa,fr,fw,fu,a,g]at N' y t q u v j z;simp at N';obtain⟨o,J,L⟩:=B o2;simp[o3]at o;refine aa (ew h (dg rfl (by simp) (by simp) (by simp) (by simp) (by simp) (by simp) (λ_=>f) (by simp) (by simp))) N' D (by simpa using p) (λ_=>?_) (by simp[o2]) (by simp);simp;omega
 |again a E=>
  have f:=d.r (by rw[a];simp)
  have g:T.aw=false:=by cases e:T.aw with|false=>rfl|true=>rcases d.aw e with x|x|x<;>rw[a]at x<;>cases x
  refine⟨fX h hi (dg rfl (by simp) (by simp) (by simp) (by simp) (by simp) (by simp) (λ_=>f) (by simp) (by simp)) ?_ ?_ ?_ ?_ ?_ ?_ ?_,fI hi (by rw[c];simp[am,a]) (by rw[c];simp[wt,a,Ne.symm E])⟩<;>simp[c,fh,fq,fk,fa,fr,fw,fu,a,g]
 |leave a hk=>
  have f:=d.r (by rw[a];simp)
  have g:T.aw=false:=by cases e:T.aw with|false=>rfl|true=>rcases d.aw e with x|x|x<;>rw[a]at x<;>cases x
  obtain⟨c1,M,c3,O,P,S,V⟩:=lz T.r;refine⟨?_,fI hi (by rw[c,uk];simp[am,a]) ?_⟩
  ·obtain⟨H,Q,K,A,R,W,U,N,D,p,B,C,F⟩:=h.num;obtain⟨y,t,q,u,v,j,z,N'⟩:=N.upd (T':=bP T.r) (w':=s.w) (ms':=s.ms) hi c;rw[c1,M,c3,O,P,S,V]at N';simp only[fh,fq,fk,fa,fr,fw,fu,a,g]at N' y t q u v j z;simp at N';refine aa (ew h (ri _)) N' D p B C (λe1 e2 e3 e4=>?_)
   rcases hk with e|e|e|e
   ·exact absurd e e4
   ·rw[show s.w.l=false from e3]at e;cases e
   ·rw[show s.w.w=false from e2]at e;cases e
   ·rw[show s.w.s=false from e1]at e;cases e
  ·rw[c];have e1:wt n s.w T=16*n+42:=by simp[wt,a]
   have:=Ai (n:=n) T.r s.w;omega
 |WA a hk hl E hs=>
  have f:=d.r (by rw[a];simp)
  have g:T.aw=false:=by cases e:T.aw with|false=>rfl|true=>rcases d.aw e with x|x|x<;>rw[a]at x<;>cases x
  refine⟨fX h hi ?_ ?_ ?_ ?_ ?_ ?_ ?_ ?_,fI hi (by rw[c];simp[am,a]) (by rw[c];simp[wt,a])⟩
  ·exact⟨λx=>(by cases x),λx=>(by rcases x with x|x|x|x<;>cases x),λx=>(by cases x),λx=>(by rcases x with x|x<;>cases x),by simp,λx=>(by cases x),λx=>(by cases x),λ_=>⟨hl,hs,E,hk⟩,small,λ_=>f,λx=>(by cases x)⟩
  all_goals simp[c,fh,fq,fk,fa,fr,fw,fu,a,g]
 |post a=>
  have f:=d.r (by rw[a];simp)
  have g:T.aw=false:=by cases e:T.aw with|false=>rfl|true=>rcases d.aw e with x|x|x<;>rw[a]at x<;>cases x
  obtain⟨c1,M,c3,O,P,S,V⟩:=lz T.r;refine⟨?_,fI hi (by rw[c,uk];simp[am,a]) ?_⟩
  ·obtain⟨H,Q,K,A,R,W,U,N,D,p,B,C,F⟩:=h.num;obtain⟨y,t,q,u,v,j,z,N'⟩:=N.upd (T':=bP T.r) (w':=s.w) (ms':=s.ms+1) hi c;rw[c1,M,c3,O,P,S,V]at N';simp only[fh,fq,fk,fa,fr,fw,fu,a,g]at N' y t q u v j z;simp at N' v;refine aa (ew h (ri _)) N' D p (λhs=>?_) (λhs=>?_) F
   ·obtain⟨o,J,L⟩:=B hs;show W+(R-1)+(s.ms+1)+K=_/\_/\Q=s.w.k+(R-1)+(s.ms+1)
    rw[<-o];omega
   ·obtain⟨o,J,L,g4⟩:=C hs;show _/\_/\H+(R-1)+(s.ms+1)+K+A=1/\_;exact⟨o,J,by omega,g4⟩
  ·rw[c];have e1:wt n s.w T=12*n+40:=by simp[wt,a]
   have:=Ai (n:=n) T.r s.w;rw[e1,ab,ac];omega
def Inv.live(h:Inv n s)(hb:∀i,i<n->(s.th i).pc=.out\/((s.th i).pc=.s1/\s.ms=0)):∀i,i<n->(s.th i).pc=.out:=by
 have zero:∀f:Th->Nat,(∀T,T.pc=.out\/T.pc=.s1->f T=0)->sumTo n (λa=>f (s.th a))=0:=by
  intro f hf;have:=sumTo_le (f:=λa=>f (s.th a)) (c:=0) (j:=n) λi hi=>by rw[hf _ ((hb i hi).imp id (·.1))];exact ae _
  omega
 intro i hi
 rcases hb i hi with e|⟨e,k⟩
 ·exact e
 exfalso;have z1:=zero fh (λT e=>by rcases e with e|e<;>simp[fh,e]);have m:=zero fk (λT e=>by rcases e with e|e<;>simp[fk,e]);have o:=zero fa (λT e=>by rcases e with e|e<;>simp[fa,e]);have p:=zero fr (λT e=>by rcases e with e|e<;>simp[fr,e]);have q:=zero fu (λT e=>by rcases e with e|e<;>simp[fu,e]);have r:sumTo n (λa=>fw (s.th a))=0:=by
  have:=sumTo_le (f:=λa=>fw (s.th a)) (c:=0) (j:=n) λi hi=>by
   unfold fw
   split
   ·rename_i b
    rcases(h.tok i hi).aw b with x|x|x<;>rcases hb i hi with y|⟨y,_⟩<;>rw[y]at x<;>cases x
   ·exact ae _
  omega
 have q1:1<=sumTo n (λa=>fq (s.th a)):=by
  have:=le_sumTo (f:=λa=>fq (s.th a)) hi;have e1:fq (s.th i)=1:=by simp[fq,e]
  simp only[e1]at this;exact this
 cases hs:s.w.s with
 |true=>have:=(h.star hs).2.2.1;omega
 |false=>
  obtain⟨d,t,u⟩:=h.norm hs;have g:s.w.w=false:=by
   cases e:s.w.w with
   |false=>rfl
   |true=>simp[e]at d;omega
  have hl:s.w.l=false:=by
   cases e:s.w.l with
   |false=>rfl
   |true=>have:=h.lock.1 e;omega
  have:=h.Yw hs g hl (by omega);omega
end
end Go.cD
namespace Go.Ph
open Go.Conc Go.ConcN
open Go.ConcM (MuAt muA msA OsLater muBlock)
open Go.ConcR (KK WgAt stA smA rd wr mk)
open Go.cD (Wd Th Mv Safe)
inductive Tree where
 |leaf
 |node (f:World->Tree)
inductive Tree.Lt:Tree->Tree->Prop
 |sub (f:World->Tree) (w:World):Tree.Lt (f w) (.node f)
def Tree.wf:WellFounded Tree.Lt:=⟨λt=>by
 induction t with
 |leaf=>exact⟨_,λ_ h=>by cases h⟩
 |node f a=>exact⟨_,λ_ h=>by cases h with|sub _ w=>exact a w⟩⟩
def _root_.Go.cD.Wd.num(x:Wd):Nat:=(if x.l then 1 else 0)+(if x.w then 2 else 0)+(if x.s then 4 else 0)+8*x.k
structure Sh where
 mw:Wd
 ms:Nat
 v:Nat
 wt:Nat
 ws:Nat
structure Fix where
 P:Program
 tM:TypeId
 tW:TypeId
 tT:TypeId
 Mu:Nat
 Wg:Nat
 Tb:Nat
 size:Nat
 n:Nat
 Shun:Loc->Prop
variable (X:Fix)
def ShAt(w:World)(s:Sh):Prop:=MuAt X.tM X.Mu w (s.mw.num:Int) (s.ms:Int)/\WgAt X.tW X.Wg w ((s.v:Int)*KK+(s.wt:Int)) (s.ws:Int)
def Live(w:World):Prop:=(∃st a,MuAt X.tM X.Mu w st a)/\(∃st a,WgAt X.tW X.Wg w st a)/\∃c:Array Value,w.heap[X.Tb]?=some (.cells c X.tT)/\c.size=X.size
def OZ(l:Loc):Prop:=∃a,l=.cell a/\(a.block=X.Mu\/a.block=X.Wg)
def jm(b:Nat):Prop:=b≠X.Mu/\b≠X.Wg/\b≠X.Tb
structure Vw where
 g:Nat
 st:Nat->Prop
 row:Nat->Prop
abbrev Own:=Nat->Prop
structure Rl(V:Vw)(M:Own)(w ai:World):Prop where
 tape:ai.tape=w.tape
 output:ai.output=w.output
 os:OsLater w.os ai.os
 size:w.heap.size<=ai.heap.size
 st:∀b,V.st b->ai.heap[b]?=w.heap[b]?
 own:∀b,M b->ai.heap[b]?=w.heap[b]?
 live:Live X w->Live X ai
 row:∀o,V.row o->ai.cell? ⟨X.Tb,o,none⟩=w.cell? ⟨X.Tb,o,none⟩
def TR(V:Vw)(M:Own)(l:Loc):Prop:=match l with
 |.cell a=>M a.block\/(a.block=X.Tb/\V.row a.off)
 |.obj b=>M b
 |_=>False
def RdL(V:Vw)(l:Loc):Prop:=¬X.Shun l/\match l with
 |.cell a=>V.st a.block
 |.obj b=>V.st b
 |_=>False
def jG(V:Vw)(M:Own)(B:Nat)(e:Event):Prop:=
 (∀x,(MemAct.ofEvent e).touch? = some x->x.loc.isMemory=true/\((OZ X x.loc/\if V.g=0 then x.kind≠.plain else x.kind=.atomic)\/(x.kind=.plain/\(TR X V M x.loc\/(RdL X V x.loc/\x.write=false)))))/\
 e.loc≠.mark (.release (stA X.Wg))/\(MemAct.ofEvent e).low B
structure Dl(V:Vw)(q:Bool)(M:Own)(d:Nat)(w w':World)(es:Array Event)(M':Own)(d':Nat):Prop where
 tape:w'.tape=w.tape
 output:w'.output=w.output
 os:OsLater w.os w'.os
 size:w.heap.size<=w'.heap.size
 block:∀b,b<w.heap.size->¬M b->b≠X.Mu->b≠X.Wg->b≠X.Tb->w'.heap[b]?=w.heap[b]?
 tb:∀c:Array Value,w.heap[X.Tb]?=some (.cells c X.tT)->∃c':Array Value,w'.heap[X.Tb]?=some (.cells c' X.tT)/\c'.size=c.size
 cells:∀o,¬V.row o->w'.cell? ⟨X.Tb,o,none⟩=w.cell? ⟨X.Tb,o,none⟩
 calm:q=true->w'.heap[X.Tb]?=w.heap[X.Tb]?
 own:∀b,M' b↔M b\/(w.heap.size<=b/\b<w'.heap.size)
 ev:∀e∈es,jG X V M' w'.heap.size e
 ai1:q=true->∀j e,es[j]?=some e->(MemAct.ofEvent e).touch? = none\/((∃ad wr,e=⟨.cell ad,wr,true⟩)/\0<deafBehind d (es.extract 0 j))
 deaf:d'=deafBehind d es
def L3(w w':World):Prop:=w'.heap[X.Mu]?=w.heap[X.Mu]?/\w'.heap[X.Wg]?=w.heap[X.Wg]?
abbrev Stp:=Own->Nat->ag->World->Prop
def jA(V:Vw)(q:Bool)(Stop:Stp):Tree->Own->Nat->ag->World->Prop
 |.leaf,M,d,g,w=>∀ai,Rl X V M w ai->Stop M d g ai
 |.node f,M,d,g,w=>∀ai,Rl X V M w ai->Stop M d g ai\/(g.status=.running/\∃a w' es b c,stepG X.P (V.g==0) g ai=.go a w' es/\Dl X V q M d ai w' es b c/\L3 X ai w'/\a.status=.running/\jA V q Stop (f ai) b c a w')
def ay(V:Vw)(q:Bool)(Stop:Stp)(M:Own)(d:Nat)(g:ag)(w:World):Prop:=∃t,jA X V q Stop t M d g w
section
variable {X}{V:Vw}{q:Bool}{Stop WG:Stp}{M:Own}{d:Nat}{g:ag}{w ai GD:World}
def Rl.refl(V:Vw)(M:Own)(w:World):Rl X V M w w:=⟨rfl,rfl,.refl _,ae _,λ_ _=>rfl,λ_ _=>rfl,id,λ_ _=>rfl⟩
def Rl.trans(h:Rl X V M w ai)(k:Rl X V M ai GD):Rl X V M w GD:=
 ⟨k.tape.trans h.tape,k.output.trans h.output,h.os.trans k.os,Nat.le_trans h.size k.size,λb hb=>(k.st b hb).trans (h.st b hb),λb hb=>(k.own b hb).trans (h.own b hb),λl=>k.live (h.live l),λo a=>(k.row o a).trans (h.row o a)⟩
def ay.stop(h:∀ai,Rl X V M w ai->Stop M d g ai):ay X V q Stop M d g w:=⟨.leaf,h⟩
def ay.either(h:∀ai,Rl X V M w ai->Stop M d g ai\/(g.status=.running/\∃g' w' es M' d',stepG X.P (V.g==0) g ai=.go g' w' es/\Dl X V q M d ai w' es M' d'/\L3 X ai w'/\g'.status=.running/\ay X V q Stop M' d' g' w')):ay X V q Stop M d g w:=by
 have key:∀ai,∃t:Tree,Rl X V M w ai->Stop M d g ai\/(g.status=.running/\∃g' w' es M' d',stepG X.P (V.g==0) g ai=.go g' w' es/\Dl X V q M d ai w' es M' d'/\L3 X ai w'/\g'.status=.running/\jA X V q Stop t M' d' g' w'):=by
  intro ai;by_cases a:Rl X V M w ai
  ·rcases h ai a with hs|⟨b,g',w',es,M',d',c,e,i,j,t,k⟩
   ·exact⟨.leaf,λ_=>.inl hs⟩
   ·exact⟨t,λ_=>.inr ⟨b,g',w',es,M',d',c,e,i,j,k⟩⟩
  ·exact⟨.leaf,λx=>absurd x a⟩
 obtain⟨f,hf⟩:=Classical.axiomOfChoice key;exact⟨.node f,λai a=>hf ai a⟩
def ay.step(a:g.status=.running)(h:∀ai,Rl X V M w ai->∃g' w' es M' d',stepG X.P (V.g==0) g ai=.go g' w' es/\Dl X V q M d ai w' es M' d'/\L3 X ai w'/\g'.status=.running/\ay X V q Stop M' d' g' w'):ay X V q Stop M d g w:=
 .either λai r=>.inr ⟨a,h ai r⟩
def jA.rely:∀{t:Tree},jA X V q Stop t M d g w->Rl X V M w ai->jA X V q Stop t M d g ai
 |.leaf,h,r=>λGD a=>h GD (r.trans a)
 |.node _,h,r=>λGD a=>h GD (r.trans a)
def ay.rely(h:ay X V q Stop M d g w)(r:Rl X V M w ai):ay X V q Stop M d g ai:=h.imp λ_ x=>x.rely r
def ay.mono(h:ay X V q Stop M d g w)(hs:∀M d g w,Stop M d g w->WG M d g w):ay X V q WG M d g w:=by
 obtain⟨t,a⟩:=h
 induction t generalizing M d g w with
 |leaf=>exact .stop λai r=>hs _ _ _ _ (a ai r)
 |node f b=>
  refine .either λai r=>?_
  rcases a ai r with x|⟨c,e,w',es,i,j,k,l,m,n,o⟩
  ·exact .inl (hs _ _ _ _ x)
  ·exact .inr ⟨c,e,w',es,i,j,k,l,m,n,b ai o⟩
end
end Go.Ph
namespace Go.Ph
open Go.Conc Go.ConcN
open Go.ConcM (MuAt muA msA OsLater muBlock)
open Go.ConcR (KK WgAt stA smA rd wr mk)
open Go.cD (Wd Th Mv Safe Head eR spin)
inductive Alt:Th->Th->Prop
 |refl (T:Th):Alt T T
 |head (T H:Th):Head T H->(T.aw=true->T.old.w=true)->Alt (eR T) H
 |r2 (T:Th) (b:Bool):T.pc=.r2->(T.sv=true->b=true)->Alt T { T with sv:=b }
variable (X:Fix)
def nR(V:Vw)(q:Bool)(a:Sh->Prop)(f:Sh->Sh)(wake:Bool)(Next:Sh->Stp):Stp:=λM d g w=>
 g.status=.running/\g.offers=none/\(wake=true->mayWake X.P g=true)/\∀s,ShAt X w s->a s->
  ∃b w' es e h,stepG X.P (V.g==0) g w=.go b w' es/\ShAt X w' (f s)/\Dl X V q M d w w' es e h/\b.status=.running/\Next s e h b w'
def acP(V:Vw)(q:Bool)(a:Sh->Prop)(waits:Sh->Prop)(f:Sh->Sh)(Next:Sh->Stp):Stp:=λM d g w=>
 g.status=.running/\g.offers=none/\∀s,ShAt X w s->a s->(waits s->stepG X.P (V.g==0) g w=.go { g with status:=.blocked } w #[])/\
  (¬waits s->∃b w' es e h,stepG X.P (V.g==0) g w=.go b w' es/\ShAt X w' (f s)/\Dl X V q M d w w' es e h/\b.status=.running/\Next s e h b w')
section
variable (V:Vw)(Fin:World->Prop)
def AtD4:Stp:=nR X V true (λs=>s.v=0/\s.wt=0/\s.ws=0) (λs=>{ s with ws:=1 }) true (λ_ _ d g _=>∃q,QuitsD X.P q d g)
def AtD3:Stp:=nR X V true (λs=>s.v=0/\s.wt=1/\s.ws=0) (λs=>{ s with wt:=0 }) false (λ_=>ay X V true (AtD4 X V))
def AtD2:Stp:=nR X V true (λs=>s.v=0/\s.wt=1/\s.ws=0) id false (λ_=>ay X V true (AtD3 X V))
def AtD1:Stp:=nR X V true (λs=>1<=s.v/\s.v<=X.n/\s.wt<=1/\s.ws=0) (λs=>{ s with v:=s.v-1 }) false
 (λs=>if s.v=1/\s.wt=1 then ay X V true (AtD2 X V) else λ_ d g _=>∃q,QuitsD X.P q d g)
def O0:Stp:=λM d g w=>g.status=.running/\d=0/\Fin w/\∃a,stepG X.P (V.g==0) g w=.go a w #[mk (.releaseMerge (stA X.Wg))]/\a.status=.running/\ay X V true (AtD1 X V) M 0 a w
def iF:Nat->Th->Stp
 |0,_,_,_,_,_=>True
 |k+1,T,M,d,g,w=>g.status=.running/\g.offers=none/\(T.pc=.us->mayWake X.P g=true)/\∀s,ShAt X w s->cD.Safe T s.mw->s.mw.k<=X.n->s.ms<=1->
  (T.pc=.s1/\s.ms=0->stepG X.P (V.g==0) g w=.go { g with status:=.blocked } w #[])/\
  (¬(T.pc=.s1/\s.ms=0)->∃e h a f w' es i j,Mv s.mw s.ms T e h a/\stepG X.P (V.g==0) g w=.go f w' es/\ShAt X w' { s with mw:=h,ms:=a }/\Dl X V false M d w w' es i j/\f.status=.running/\
    ay X V false (λM d g w=>if e.pc=.out then O0 X V Fin M d g w else∃b,Alt e b/\iF k b M d g w) i j f w')
def eU(k:Nat)(T:Th):Stp:=λM d g w=>if T.pc=.out then O0 X V Fin M d g w else∃a,Alt T a/\iF X V Fin k a M d g w
end
section
variable (c:Nat)(np:Nat)(row:Nat->Nat->Prop)(Fin:Nat->World->Prop)(Post:Own->ag->World->Prop)
def Yy:Stp:=λM d g w=>g.status=.running/\d=0/\Post M g w
def O1(V:Vw):Stp:=λM d g w=>g.status=.running/\d=0/\∃a,stepG X.P (V.g==0) g w=.go a w #[mk (.acquire (stA X.Wg))]/\a.status=.running/\ay X V false (Yy Post) M 0 a w
def AtW4(V:Vw):Stp:=nR X V false (λs=>s.v=0/\s.wt=0/\s.ws=0) id false (λ_=>ay X V false (O1 X Post V))
def AtW3(V:Vw):Stp:=acP X V false (λs=>s.ws<=1) (λs=>s.ws=0) (λs=>{ s with ws:=s.ws-1 }) (λ_=>ay X V false (AtW4 X Post V))
mutual
def AtW1(V:Vw):Nat->Stp
 |0=>λ_ _ _ _=>True
 |k+1=>nR X V false (λs=>s.v<=X.n/\s.wt=0/\s.ws=0) id false (λs=>if s.v=0 then ay X V false (O1 X Post V) else ay X V false (AtW2 V k s.v))
def AtW2(V:Vw):Nat->Nat->Stp
 |0,_=>λ_ _ _ _=>True
 |k+1,a=>nR X V false (λs=>s.v<=X.n/\s.wt=0/\s.ws=0) (λs=>if s.v=a then { s with wt:=1 } else s) false
  (λs=>if s.v=a then ay X V false (AtW3 X Post V) else ay X V false (AtW1 V k))
end
def rj(j:Nat)(V:Vw)(M:Own):Vw:=⟨c+j,λb=>V.st b\/M b,row j⟩
def Vw.more(V:Vw)(M:Own):Vw:={ V with st:=λb=>V.st b\/M b }
def nobody:Own:=λ_=>False
def AtGo(j:Nat)(a:Vw->Stp)(V:Vw):Stp:=λM d g w=>g.status=.running/\d=0/\∃b child,stepG X.P (V.g==0) g w=.spawn b child w #[]/\b.status=.running/\child.status=.running/\
 ((∀o,row j o->w.cell? ⟨X.Tb,o,none⟩=some (.int .i64 0))->∀k,ay X (rj c row j V M) false (eU X (rj c row j V M) (Fin j) k { pc:=.l0,r:=np }) nobody 0 child w)/\ay X (V.more M) false (a (V.more M)) nobody 0 b w
def Ta:Nat->Vw->Stp
 |0,V=>λM d g w=>∀k,AtW1 X Post V k M d g w
 |r+1,V=>nR X V false (λs=>s.v<X.n/\s.wt=0/\s.ws=0) (λs=>{ s with v:=s.v+1 }) false (λ_=>ay X V false (AtGo X c np row Fin (X.n-(r+1)) (Ta r) V))
end
end Go.Ph
namespace Go.Ph
open Go.Conc Go.ConcN
open Go.ConcM (MuAt muA msA OsLater muBlock)
open Go.ConcR (KK WgAt stA smA rd wr mk)
open Go.cD (Wd Th Mv Head eR spin)
inductive WP where
 |mu|d1|d2|d3|d4|quit
 deriving DecidableEq
inductive MP where
 |add|go|w1|w2 (v:Nat)|w3|w4|aq|an
 deriving DecidableEq
structure Gh where
 j:Nat
 th:Nat->Th
 wp:Nat->WP
 mp:MP
 V:Nat->Vw
 M:Nat->Own
 tr:Nat->Tree
 q:Nat->Nat
 fu:Nat->Nat
 s:Sh
structure CB extends Fix where
 c:Nat
 np:Nat
 row:Nat->Nat->Prop
 Fin:Nat->World->Prop
 Post:Own->ag->World->Prop
 sE:Nat
 w₀:World
variable (Y:CB)
def gid(a:Nat):Nat:=if a=0 then 0 else Y.c+(a-1)
def Gh.q?(G:Gh):Nat->Bool
 |0=>false
 |k+1=>decide (G.wp k≠.mu)
def stM(j f:Nat)(V:Vw):MP->Stp
 |.add=>Ta Y.toFix Y.c Y.np Y.row Y.Fin Y.Post (Y.n-j) V
 |.go=>AtGo Y.toFix Y.c Y.np Y.row Y.Fin j (Ta Y.toFix Y.c Y.np Y.row Y.Fin Y.Post (Y.n-(j+1))) V
 |.w1=>AtW1 Y.toFix Y.Post V f
 |.w2 v=>AtW2 Y.toFix Y.Post V f v
 |.w3=>AtW3 Y.toFix Y.Post V
 |.w4=>AtW4 Y.toFix Y.Post V
 |.aq=>O1 Y.toFix Y.Post V
 |.an=>Yy Y.Post
def NH(V:Vw)(k f:Nat)(T:Th):WP->Stp
 |.mu=>eU Y.toFix V (Y.Fin k) f T
 |.d1=>AtD1 Y.toFix V
 |.d2=>AtD2 Y.toFix V
 |.d3=>AtD3 Y.toFix V
 |.d4=>AtD4 Y.toFix V
 |.quit=>λ_ _ _ _=>False
def Gh.um(G:Gh):Nat->Stp
 |0=>stM Y G.j (G.fu 0) (G.V 0) G.mp
 |k+1=>NH Y (G.V (k+1)) k (G.fu (k+1)) (G.th k) (G.wp k)
def Gh.waits(G:Gh):Nat->Prop
 |0=>G.mp=.w3/\G.s.ws=0
 |k+1=>G.wp k=.mu/\(G.th k).pc=.s1/\G.s.ms=0
def Gh.gone(G:Gh):Nat->Prop
 |0=>False
 |k+1=>G.wp k=.quit
inductive Sit(G:Gh)(a:Nat)(d:Nat)(g:ag)(w:World):Prop
 |run:¬G.gone a->g.status=.running->jA Y.toFix (G.V a) (G.q? a) (G.um Y a) (G.tr a) (G.M a) d g w->Sit G a d g w
 |wait (fJ:ag):¬G.gone a->g={ fJ with status:=.blocked }->fJ.status=.running->fJ.offers=none->G.waits a->jA Y.toFix (G.V a) (G.q? a) (G.um Y a) (G.tr a) (G.M a) d fJ w->Sit G a d g w
 |gone:G.gone a->QuitsD Y.P (G.q (gid Y a)) d g->Sit G a d g w
structure OI(G:Gh)(w:World):Prop where
 ap:∀a,a<=G.j->∀b,(G.M a b\/(G.V a).st b)->b<w.heap.size/\jm Y.toFix b
 dj:∀a a',a<=G.j->a'<=G.j->a≠a'->∀b,G.M a b->¬G.M a' b/\¬(G.V a').st b
 self:∀a,a<=G.j->∀b,G.M a b->¬(G.V a).st b
 rows:∀a a',a<=G.j->a'<=G.j->a≠a'->∀o,(G.V a).row o->¬(G.V a').row o
 base:∀a,a<=G.j->∀b,G.M a b->Y.sE<=b
 num:∀a,a<=G.j->(G.V a).g=gid Y a
 ids:Y.Mu≠Y.Wg/\Y.Mu≠Y.Tb/\Y.Wg≠Y.Tb/\Y.sE<=Y.Mu/\Y.sE<=Y.Wg/\Y.sE<=Y.Tb/\Y.Mu<w.heap.size/\Y.Wg<w.heap.size/\Y.Tb<w.heap.size
 main:(G.V 0).row=λ_=>False
 rowV:∀k,k<G.j->(G.V (k+1)).row=Y.row k
def BK(G:Gh)(g:Nat)(l:Loc):Prop:=Y.c<=g/\g<Y.c+G.j/\TR Y.toFix (G.V (g-Y.c+1)) (G.M (g-Y.c+1)) l
def O5(G:Gh)(g:Nat)(l:Loc):Prop:=Y.c<=g/\g<Y.c+G.j/\RdL Y.toFix (G.V (g-Y.c+1)) l
def fv:WP->Nat
 |.mu | .d1=>1
 |_=>0
def fd:WP->Nat
 |.d2 | .d3=>1
 |_=>0
def f4:WP->Nat
 |.d4=>1
 |_=>0
structure WI(G:Gh):Prop where
 v:G.s.v=sumTo G.j (λk=>fv (G.wp k))+(if G.mp=.go then 1 else 0)
 early:(G.mp=.add\/G.mp=.go)->G.j<Y.n
 late:G.mp≠.add->G.mp≠.go->G.j=Y.n
 le:G.j<=Y.n
 calm:(G.mp=.add\/G.mp=.go\/G.mp=.w1\/∃v,G.mp=.w2 v)->G.s.wt=0/\G.s.ws=0/\sumTo G.j (λk=>fd (G.wp k))=0/\sumTo G.j (λk=>f4 (G.wp k))=0
 w3:G.mp=.w3->(G.s.wt=1/\G.s.ws=0/\sumTo G.j (λk=>f4 (G.wp k))=0/\(if G.s.v=0 then 1 else 0)=sumTo G.j (λk=>fd (G.wp k)))\/
  (G.s.wt=0/\G.s.v=0/\sumTo G.j (λk=>fd (G.wp k))=0/\sumTo G.j (λk=>f4 (G.wp k))+G.s.ws=1)
 done:(G.mp=.w4\/G.mp=.aq\/G.mp=.an)->G.s.v=0/\G.s.wt=0/\G.s.ws=0/\∀k,k<G.j->G.wp k=.quit
 nz:∀v,G.mp=.w2 v->v≠0
def wW:WP->Nat
 |.mu=>30
 |.d1=>25
 |.d2=>10
 |.d3=>9
 |.d4=>8
 |.quit=>0
def wM(n j:Nat)(v:Nat):MP->Nat
 |.add=>50*(n-j)+20
 |.go=>50*(n-j)+15
 |.w1=>10
 |.w2 a=>if v=a then 9 else 12
 |.w3=>8
 |.w4=>7
 |.aq=>6
 |.an=>0
def vK(G:Gh):Nat:=wM Y.n G.j G.s.v G.mp+sumTo G.j (λk=>wW (G.wp k))
def muK(n:Nat):Nat:=(16*n+43)*n+(4*n+19)+1
def oD(G:Gh):cD.St:=⟨G.th,G.s.mw,G.s.ms⟩
def phi(G:Gh):Nat:=cD.nQ Y.n (oD G)*muK Y.n+cD.uh Y.n (oD G)
structure MI(G:Gh)(gs:Array ag)(w:World)(t:Trace):Prop where
 cpos:0<Y.c
 size:gs.size=Y.c+G.j
 sit:∀a,a<=G.j->∀g,gs[gid Y a]?=some g->Sit Y G a (Deaf t (gid Y a)) g w
 old:∀i g,0<i->i<Y.c->gs[i]?=some g->QuitsD Y.P (G.q i) (Deaf t i) g
 above:∀i,gs.size<=i->Deaf t i=0
 sh:ShAt Y.toFix w G.s
 tb:∃cs:Array Value,w.heap[Y.Tb]?=some (.cells cs Y.tT)/\cs.size=Y.toFix.size
 mun:cD.Inv Y.n (oD G)
 fresh:∀k,G.j<=k->k<Y.n->G.th k={ pc:=.l0,r:=Y.np }
 out:∀k,k<G.j->G.wp k≠.mu->(G.th k).pc=.out
 wi:WI Y G
 fuel:∀k,k<G.j->phi Y G+1<=G.fu (k+1)
 fuel0:vK Y G+1<=G.fu 0
 oi:OI Y G w
 shun:∀l,Y.Shun l->l.low Y.sE/\l.isMemory=true
 tri:TI Y.Shun (OZ Y.toFix) (BK Y G) (O5 Y G) Y.c G.j t
 rel:∀k,k<G.j->G.wp k≠.mu->∃r,RelBy (stA Y.Wg) t (Y.c+k) r
 norel:NoRelease (stA Y.Wg) t
 low:∀op∈t,op.act.low w.heap.size
 fin:∀k,k<G.j->G.wp k≠.mu->Y.Fin k w
 acq:G.mp=.an->∃p,t.act? p=some (.mark (.acquire (stA Y.Wg)))/\t.g? p=some 0/\t.heard p/\∀k,k<G.j->∃r,RelBy (stA Y.Wg) t (Y.c+k) r/\r<p
 tape:w.tape=Y.w₀.tape
 output:w.output=Y.w₀.output
 os:OsLater Y.w₀.os w.os
 kept:∀b,b<Y.sE->w.heap[b]?=Y.w₀.heap[b]?
 rowok:∀k k' o,k≠k'->Y.row k o->¬Y.row k' o
 un:∀k,G.j<=k->∀o,Y.row k o->w.cell? ⟨Y.Tb,o,none⟩=some (.int .i64 0)
end Go.Ph
