/- Part of the proof of FieldFlat and FieldMarshals. -/
import Derived.Test.YtmkjeaacgibnoaaGreatY15
set_option linter.all false
namespace Go.Proofs
open Go.Ph Go.Conc Go.ConcN
open Go.ConcM (MuAt muA msA OsLater muBlock)
open Go.ConcR (KK WgAt stA smA rd wr mk)
set_option maxRecDepth 100000
def sR(v:Nat):Value.int .u64 (vP v 0)=JG v:=by simp[vP,JG,KK]
def UH(v:Nat):vP v 0=(v:Int)*4294967296:=by simp[vP,KK]
section
variable {X:Fix}{V:Vw}{M:Own}{F:World->Prop}{Stop:Stp}{d:Nat}{g g':Goroutine}{w:World}
variable {c np:Nat}{row:Nat->Nat->Prop}{Fin:Nat->World->Prop}{Post:Own->Goroutine->World->Prop}{c0:Frame}{cs:List Frame}
def Gk.said(L:Gk X V M F true){f:FuncId}{mk':Addr->Mark}{m wr':Bool}(i:az g=some (f,#[.pointer (some ⟨X.Wg,1,none⟩)]))(hb:cw PP f m (Extern.Race.marked mk'))(j:∀a g,mk' a≠.extern g)
 (n:∀a,(MemAct.mark (mk' a)).touch? = some ⟨.cell a,wr',.said⟩) (hl:∀a B,a.block<B->(MemAct.mark (mk' a)).low B) (o:∀a b,mk' a≠.release b) (hd:∀d a,deafBehind d #[ConcR.mk (mk' a)]=d) (p:F w) (q:ay X V false Stop M d (fin g (.tuple #[])) w):ay X V false Stop M d g w:=
 .step (aj i).1 λs r=>by
  have t:=L.hF _ _ p r;refine⟨_,s,#[ConcR.mk (mk' ⟨X.Wg,1,none⟩)],M,_,kM (ad:=⟨X.Wg,1,none⟩) i (by rw[L.hP];exact hb) j rfl,jI L.hc.ids rfl rfl (.refl _) rfl (λ_ _ _=>rfl) (λe k=>?_) (by simp),⟨rfl,rfl⟩,(aj i).2.2 _,?_⟩
  ·simp only[List.mem_toArray,List.mem_singleton]at k;subst k;refine⟨λx l=>?_,λh=>o _ _ (Loc.mark.inj h),hl _ _ (L.low t)⟩;rw[show MemAct.ofEvent (ConcR.mk (mk' ⟨X.Wg,1,none⟩))=.mark (mk' ⟨X.Wg,1,none⟩) from rfl,n]at l;cases l;have:V.g=0:=by simpa using L.hg
   exact⟨rfl,.inl ⟨⟨_,rfl,.inr rfl⟩,by rw[if_pos this];simp⟩⟩
  ·rw[hd];exact q.rely r
def P6(L:Gk X V M F true)(r:Nat)(b:∀w,F w->ay X V false (AtGo X c np row Fin (X.n-(r+1)) (Ta X c np row Fin Post r) V) M 0 (G (c0.finish (.tuple #[])) cs) w)(k:F w) :
 ay X V false (Ta X c np row Fin Post (r+1) V) M 0 (aE X.Wg c0 cs) w:=by
 refine L.aB (a_E X.Wg c0 cs) (L.sG (ajB X.Wg c0 cs) (L.aB (a_0 X.Wg c0 cs) (L.idle (ajC X.Wg c0 cs) (L.aB (a_1 X.Wg c0 cs) (.stop λx l=>?_)))));have e:=ajD X.Wg c0 cs;have m:=L.hF _ _ k l;refine⟨(aj e).1,(aj e).2.1,λh=>(by cases h),λs i o=>?_⟩;obtain⟨y,f,z⟩:=o;have A:=L.hn;have p:IntKind.u64.wrap (vP s.v s.wt+4294967296)=vP (s.v+1) s.wt:=by
  obtain h|h|h:s.v=0\/s.v=1\/s.v=2:=by omega
  all_goals (rw[h,f];decide)
 have j:=i.setWg L.hc.ids (s.v+1) s.wt;have st:=xP (mn:=V.g==0) e (by rw[L.hP];exact ae4:cw X.P 183 true _) i p;obtain⟨t,u⟩:=uz (q:=false) L.hc (.inr rfl) _ j;refine⟨_,_,_,M,1,st,j,u 1 _ (PS L (lC i)) (by simp),(aj e).2.2 _,?_⟩;have a:=L.hF _ _ m t;obtain h|h:s.v=0\/1<=s.v:=by omega
 ·rw[h,f]at a ⊢;rw[sR]at a ⊢;refine L.aB (a_2 X.Wg c0 cs) (L.Xc (ajE X.Wg c0 cs) a (L.aB (a_3 X.Wg c0 cs) ?_));exact L.said (wr':=false) (ajF X.Wg c0 cs) ajp (λ_ _ h=>by cases h) (λ_=>rfl) (λ_ _ h=>h) (λ_ _ h=>by cases h) (λ_ _=>rfl) a ((a_4 X.Wg c0 cs).run L.hP L.hg (b _ a))
 ·obtain h|h:s.v=1\/s.v=2:=by omega
  ·rw[h,f]at a ⊢;rw[sR]at a ⊢;exact(ajG X.Wg c0 cs).run L.hP L.hg (b _ a)
  ·rw[h,f]at a ⊢;rw[sR]at a ⊢;exact(ajH X.Wg c0 cs).run L.hP L.hg (b _ a)
def aer(L:Gk X V M F true)(h:gZ g=some (179,some (.pointer (some ⟨X.Wg,1,none⟩))))(j:F w)(H:∀w',F w'->ay X V false (Ph.AtW4 X Post V) M 1 (fin g (.tuple #[])) w'):Ph.AtW3 X Post V M 1 g w:=by
 obtain⟨args,a,k⟩:=vo h;refine⟨(aj a).1,(aj a).2.1,λs b n=>?_⟩;have st:=He (mn:=V.g==0) a k (by rw[L.hP];exact ajs:cw X.P 179 true _) b;refine⟨λe=>?_,λe=>?_⟩
 ·have f:s.ws=0:=e;rwa[if_pos f]at st
 ·have f:¬s.ws=0:=e;rw[if_neg f]at st;have i:=b.setWs L.hc.ids (s.ws-1);obtain⟨l,m⟩:=uz (q:=false) L.hc (.inr rfl) _ i;exact⟨_,_,_,M,1,st,i,m 1 _ (PT L (lC b)) (by simp),(aj a).2.2 _,H _ (L.hF _ _ j l)⟩
def MO{g:Goroutine}{w:World}{d:Nat}:Ph.AtW1 X Post V 0 M d g w:=by unfold Ph.AtW1;exact True.intro
def MQ{g:Goroutine}{w:World}{d v:Nat}:Ph.AtW2 X Post V 0 v M d g w:=by unfold Ph.AtW2;exact True.intro
def MR(L:Gk X V M F true)(A:∀w,F w->ay X V false (Yy Post) M 0 (G (c0.finish (.tuple #[])) cs) w)(j:F w) :
 ay X V false (Ta X c np row Fin Post 0 V) M 0 (wE X.Wg c0 cs) w:=by
 have x:∀g w,F w->az g=some (175,#[pt X.Wg])->Ea 1 0 0 (fin g (.tuple #[])) c0 cs->ay X V false (O1 X Post V) M 0 g w:=by
  intro g w j i B;refine .stop λn m=>⟨(aj i).1,rfl,_,kM (mk':=.acquire) (ad:=⟨X.Wg,0,none⟩) i (by rw[L.hP];exact adu:cw X.P 175 false _) (λ_ _ h=>by cases h) rfl,(aj i).2.2 _,?_⟩
  exact B.run L.hP L.hg (A _ (L.hF _ _ j m))
 have C:∀f v w,1<=v->v<=3->F w->ay X V false (AtW4 X Post V) M 1 (gw4 X.Wg c0 cs f v) w:=by
  intro f v w a b j;refine .stop λn m=>?_;have i:=ajS X.Wg c0 cs f v a b;refine⟨(aj i).1,(aj i).2.1,λh=>(by cases h),λs l o=>?_⟩;have y:=L.hF _ _ j m;have st:=oV (mn:=V.g==0) i (by rw[L.hP];exact Zl:cw X.P 184 true _) l;have e:Value.int .u64 (vP s.v s.wt)=JG 0:=by rw[o.1,o.2.1,sR]
  rw[e]at st
  exact⟨_,n,_,M,1,st,l,jI L.hc.ids rfl rfl (.refl _) rfl (λ_ _ _=>rfl) (xQ L (lC l) false) (by simp),(aj i).2.2 _,
   L.aB (w_4 X.Wg c0 cs f v a b) (L.en (ajT X.Wg c0 cs f v a b) (L.aB (w_5 X.Wg c0 cs f v a b) (L.conv (ajU X.Wg c0 cs f v a b) y (L.aB (w_6 X.Wg c0 cs f v a b) (x _ _ y (ajV X.Wg c0 cs f v a b) (w_7 X.Wg c0 cs f v a b))))))⟩
 have D:∀f v w,1<=v->v<=3->F w->ay X V false (AtW3 X Post V) M 1 (w3 X.Wg c0 cs f v) w:=by
  intro f v w a b j;exact .stop λn m=>aer L (ajR X.Wg c0 cs f v a b) (L.hF _ _ j m) λw' E=>L.aB (w_3 X.Wg c0 cs f v a b) (C _ _ _ a b E)
 have p:∀k,(∀f w,F w->AtW1 X Post V k M 1 (w1 X.Wg c0 cs f) w)/\∀f v w,1<=v->v<=3->F w->AtW2 X Post V k v M 1 (w2 X.Wg c0 cs f v) w:=by
  intro k
  induction k with
  |zero=>exact⟨λ_ _ _=>MO,λ_ _ _ _ _ _=>MQ⟩
  |succ k z=>
   refine⟨λf w j=>?_,λf v w a b j=>?_⟩
   ·have i:=ajJ X.Wg c0 cs f;unfold Ph.AtW1;refine⟨(aj i).1,(aj i).2.1,λh=>(by cases h),λs l o=>?_⟩;obtain⟨H,r,I⟩:=o;have J:=L.hn;have st:=oV (mn:=V.g==0) i (by rw[L.hP];exact Zl:cw X.P 184 true _) l;rw[r,sR]at st;refine⟨_,w,_,M,1,st,l,jI L.hc.ids rfl rfl (.refl _) rfl (λ_ _ _=>rfl) (xQ L (lC l) false) (by simp),(aj i).2.2 _,?_⟩;by_cases hv:s.v=0
    ·simp only[if_pos hv];rw[hv];exact L.aB (v_1 X.Wg c0 cs f) (L.en (ajK X.Wg c0 cs f) (L.aB (v_5 X.Wg c0 cs f) (L.conv (ajL X.Wg c0 cs f) j (L.aB (v_6 X.Wg c0 cs f) (x _ _ j (ajM X.Wg c0 cs f) (v_7 X.Wg c0 cs f))))))
    ·simp only[if_neg hv];exact L.aB (w_1 X.Wg c0 cs f s.v (by omega) (by omega)) (.stop λn m=>z.2 f s.v n (by omega) (by omega) (L.hF _ _ j m))
   ·have i:=ajN X.Wg c0 cs f v a b;unfold Ph.AtW2;refine⟨(aj i).1,(aj i).2.1,λh=>(by cases h),λs l o=>?_⟩;obtain⟨H,r,I⟩:=o;have J:=L.hn;have st:=G9 (v:=v) (wt:=1) (mn:=V.g==0) i (by rw[L.hP];exact aju:cw X.P 190 true _) l (by simp[vP,KK]);have e:(vP s.v s.wt=(v:Int)*4294967296)↔s.v=v:=by rw[r,UH];omega
    by_cases hv:s.v=v
    ·rw[if_pos (e.2 hv)]at st;have t:=l.setWg L.hc.ids v 1;obtain⟨K,N⟩:=uz (q:=false) L.hc (.inr rfl) _ t;have O:({ s with v:=v,wt:=1 }:Sh)={ s with wt:=1 }:=by rw[<-hv]
     rw[O]at t;have u:=L.hF _ _ j K;refine⟨_,_,_,M,1,st,?_,N 1 _ (PS L (lC l)) (by simp),(aj i).2.2 _,?_⟩
     ·simp only[if_pos hv];exact t
     ·simp only[if_pos hv];refine L.aB (w_2 X.Wg c0 cs f v a b) (L.Xc (aep X.Wg c0 cs f v a b) u (L.aB (ajP X.Wg c0 cs f v a b) ?_));exact L.said (wr':=true) (aeq X.Wg c0 cs f v a b) ajq (λ_ _ h=>by cases h) (λ_=>rfl) (λ_ _ h=>h) (λ_ _ h=>by cases h) (λ_ _=>rfl) u (L.aB (ajQ X.Wg c0 cs f v a b) (D _ _ _ a b u))
    ·rw[if_neg (λh=>hv (e.1 h))]at st;refine⟨_,w,_,M,1,st,?_,jI L.hc.ids rfl rfl (.refl _) rfl (λ_ _ _=>rfl) (xQ L (lC l) false) (by simp),(aj i).2.2 _,?_⟩
     ·simp only[if_neg hv];exact l
     ·simp only[if_neg hv];obtain⟨Q,hf⟩:=ajO X.Wg c0 cs f v a b;exact L.aB hf (.stop λn m=>z.1 Q n (L.hF _ _ j m))
 obtain⟨f,hf⟩:=w_0 X.Wg c0 cs;refine L.aB (w_E X.Wg c0 cs) (L.sG (ajI X.Wg c0 cs) (L.aB hf (.stop λn m k=>?_)));exact(p k).1 f n (L.hF _ _ j m)
end
end Go.Proofs
