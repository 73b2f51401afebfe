/- Part of the proof of FieldFlat and FieldMarshals. -/
import Derived.Test.YtmkjeaacgibnoaaGreatY06
set_option linter.all false
open Go renaming Program->aa,Goroutine->ab,TypeId->ac,FuncId->ad,Result->ae
open Go.Conc renaming Leavers->ag,runT_crowd_go->ai,woken_quitsD->ao,Deaf_other->ap,mem_ofEvents->aq,seenStep->ar,seen_def->aw
open Nat renaming eq_zero_or_pos->aB,lt_of_lt_of_le->aH,lt_irrefl->aI,le_refl->aL,lt_or_ge->aT,le_trans->a5
open Array renaming getElem?_eq_getElem->a6,getElem?_setIfInBounds_ne->a7,getElem?_map->a8,getElem?_push_lt->a9,toList_append->ba,append_assoc->bb,toList_push->bc
open Go.bJ.Ren renaming kW->bd,le_refl->bg
open Go.World renaming frozen?->bi,shape?->bj,farLoad->bl,noCell->bm,farStore->bo,cell?->bp,freeze->bq
open Go.Sem renaming runT->br,store->bs,getObj->bt,setObj->bv
open List renaming append_assoc->bx,foldl_cons->bA
open Bool renaming not_false->bC,and_true->bL,false_and->bM,false_eq_true->bR,true_and->bT
namespace Go.bJ
open Go.Conc Go.ConcM
open Go.ConcN (sumTo upd sumTo_upd upd_ne upd_same)
section
variable {P:aa}{Shun:Loc->Prop}
def Dq(Q:Nat->ab->World->Array Event->Prop)(E:Nat) :
 ∀(M:Nat)(gs:Array ab)(a:ab)(w:World)(sl:Option (Nat×Nat))(t:Trace)(q:Nat->Nat)(B:Nat),sumTo gs.size q<=M->gs[0]?=some a->a.status=.running->ag P t gs q->Past Shun B t->(∀op∈t,gs.size<=op.g->op.act.touch? = none)->B<=E->
  (∀d,∃a' w' es,stepG P true a (w.at d)=.go a' w' es/\Q d a' w' es/\∀e∈es,EvL Shun E e)->
  ∃(N d:Nat)(l:Array ab)(a':ab)(w':World)(es:Array Event)(o:Option (Nat×Nat))(p:Trace)(F:Nat->Nat),
   runNT P N (crowd gs w sl) t=(.next (crowd l w' o),p)/\l.size=gs.size/\l[0]?=some a'/\stepG P true a (w.at d)=.go a' w' es/\Q d a' w' es/\ag P p l F/\Past Shun E p/\(∀op∈p,l.size<=op.g->op.act.touch? = none):=by
 intro M
 induction M using Nat.strongRecOn with
 |ind M Y=>
  intro gs a w sl t q B hM v A r T U V W;have Z:∀g∈gs,awake g:=by
   intro g hg;obtain⟨i,hi,rfl⟩:=Array.mem_iff_getElem.1 hg
   rcases aB i with rfl|H
   ·have:gs[0]=a:=by simpa[a6 hi]using v
    rw[this];exact awake_of (.inl A)
   ·exact awake_of ((r.old i _ H (a6 hi)).status.elim .inl λx=>.inr (.inr x))
  obtain⟨i,g,d,o,hi,hg,X⟩:=crowd_pick (P:=P) (w:=w) (sl:=sl) Z ⟨0,a,v,A⟩
  rcases aB i with rfl|H
  ·obtain rfl:g=a:=by rw[v]at hi;exact(Option.some.inj hi).symm
   obtain⟨a',w',es,c,hQ,kG⟩:=W d;have I:=ai (P:=P) (sl:=o) (i:=0) hi (show stepG P (0==0) g (w.at d)=_ from c);have s:((gs.map (woken P g a' w')).setIfInBounds 0 a').size=gs.size:=by simp
   have u:0<gs.size:=(Array.getElem?_eq_some_iff.1 v).1
   refine⟨1,d,(gs.map (woken P g a' w')).setIfInBounds 0 a',a',w',es,o,t++MemOp.ofEvents 0 g.frame.fn g.frame.place es,q,by simp only[runNT,X,I],s,by simp[u],c,hQ,
    ⟨λj x f m=>?_,λj f=>?_⟩,(T.mono V).own kG,λop b=>?_⟩
   ·have J:0≠j:=by omega
    rw[a7 J,a8]at m;obtain⟨y,hy,rfl⟩:=Option.map_eq_some_iff.1 m;have n:=r.old j y f hy;rw[ao n,ap t (by omega) _ (λop b=>by obtain⟨e,_,rfl⟩:=aq b;rfl)];exact n
   ·rw[ap t (g':=0) (by simp at f;omega) _ (λop b=>by obtain⟨e,_,rfl⟩:=aq b;rfl)];exact r.above j (by simpa using f)
   ·rw[s]
    rcases Array.mem_append.1 b with h|h
    ·exact U op h
    ·obtain⟨e,_,rfl⟩:=aq h;exact λK=>absurd (aH u K) (aI _)
  ·have n:=r.old i g H hi;have Yl:(i==0)=false:=by simp;omega
   have u:i<gs.size:=(Array.getElem?_eq_some_iff.1 hi).1
   cases L:q i with
   |zero=>rw[L]at n;rw[n.1]at hg;cases hg
   |succ k=>
    rw[L]at n
    rcases n with⟨hf,_⟩|⟨_,C,es,hm,Gz,Ym⟩
    ·rw[hf]at hg;cases hg
    have I:=ai (P:=P) (sl:=o) (i:=i) hi (by rw[Yl];exact Gz (w.at d));have s:((gs.map (woken P g C (w.at d))).setIfInBounds i C).size=gs.size:=by simp
    have LO:sumTo gs.size (upd q i k)+(k+1)=sumTo gs.size q+k:=by
     have:=sumTo_upd q k id u;simpa[L]using this
    obtain⟨N,d2,l,O,SY,tJ,Yn,p,F,hr,fR,TK,c,hS,R,S⟩:=Y (sumTo gs.size (upd q i k)) (by omega) ((gs.map (woken P g C (w.at d))).setIfInBounds i C) a (w.at d) o (t++MemOp.ofEvents i g.frame.fn g.frame.place es) (upd q i k) B (by rw[s];omega)
     (by
       have J:i≠0:=by omega
       rw[a7 J,a8,v]
       simp[woken_run A]) A
     ⟨λj x f m=>by
       by_cases D:i=j
       ·subst D;rw[Array.getElem?_setIfInBounds_self_of_lt (by simpa using u)]at m;obtain rfl:=Option.some.inj m;rw[upd_same,Deaf_own];exact Ym
       ·rw[a7 D,a8]at m;obtain⟨y,hy,rfl⟩:=Option.map_eq_some_iff.1 m;have z:=r.old j y f hy;rw[ao z,upd_ne q k (Ne.symm D),ap t D _ (λop b=>by obtain⟨e,_,rfl⟩:=aq b;rfl)];exact z,λj f=>by
       rw[ap t (g':=i) (by simp at f;omega) _ (λop b=>by obtain⟨e,_,rfl⟩:=aq b;rfl)]
       exact r.above j (by simpa using f)⟩
     (T.mute (by omega) hm) (λop b=>by
      rw[s]
      rcases Array.mem_append.1 b with h|h
      ·exact U op h
      ·obtain⟨e,_,rfl⟩:=aq h;exact λK=>absurd (aH u K) (aI _)) V (λd2=>W d2)
    exact⟨N+1,d2,l,O,SY,tJ,Yn,p,F,by simp only[runNT,X,I];exact hr,fR.trans s,TK,c,hS,R,S⟩
inductive jF(P:aa)(Shun:Loc->Prop)(Q:Nat->ab->World->Prop):Nat->ab->World->Prop
 |done {B:Nat} {g:ab} {w:World}:Q B g w->jF P Shun Q B g w
 |step {B:Nat} {g:ab} {w:World} (B':Nat) (G1:Nat->ab) (W1:Nat->World):g.status=.running->B<=B'->(∀d,∃es,stepG P true g (w.at d)=.go (G1 d) (W1 d) es/\∀e∈es,EvL Shun B' e)->(∀d,jF P Shun Q B' (G1 d) (W1 d))->jF P Shun Q B g w
def jF.one{Q:Nat->ab->World->Prop}{B:Nat}{g:ab}{w:World}(a:Nat)(b:g.status=.running)(c:B<=a)(h:∀d,∃g' w' es,stepG P true g (w.at d)=.go g' w' es/\(∀e∈es,EvL Shun a e)/\jF P Shun Q a g' w'):jF P Shun Q B g w:=
 .step a (λd=>(h d).choose) (λd=>(h d).choose_spec.choose) b c (λd=>⟨_,(h d).choose_spec.choose_spec.choose_spec.1,(h d).choose_spec.choose_spec.choose_spec.2.1⟩) (λd=>(h d).choose_spec.choose_spec.choose_spec.2.2)
def jF.run{Q:Nat->ab->World->Prop}{B:Nat}{g:ab}{w:World}(h:jF P Shun Q B g w):∀(gs:Array ab)(sl:Option (Nat×Nat))(t:Trace)(q:Nat->Nat),gs[0]?=some g->ag P t gs q->Past Shun B t->(∀op∈t,gs.size<=op.g->op.act.touch? = none)->
 ∃(N i:Nat)(f:Array ab)(j:ab)(w1:World)(k:Option (Nat×Nat))(t1:Trace)(q1:Nat->Nat),runNT P N (crowd gs w sl) t=(.next (crowd f w1 k),t1)/\f.size=gs.size/\f[0]?=some j/\ag P t1 f q1/\Past Shun i t1/\(∀op∈t1,f.size<=op.g->op.act.touch? = none)/\Q i j w1:=by
 induction h with
 |@done B g w s=>exact λgs sl t q l m n o=>⟨0,B,gs,g,w,sl,t,q,rfl,rfl,l,m,n,o,s⟩
 |@step B g w p V W u v hs _ x=>
  intro gs sl t q l m n o
  obtain⟨N,d,y,r,w',es,z,A,C,D,E,F,X,H,I,J,K⟩:=Dq (P:=P) (Shun:=Shun) (λd r w' es=>∀(gs:Array ab)(sl:Option (Nat×Nat))(t:Trace)(q:Nat->Nat),gs[0]?=some r->ag P t gs q->Past Shun p t->(∀op∈t,gs.size<=op.g->op.act.touch? = none)->
   ∃(N i:Nat)(f:Array ab)(j:ab)(w1:World)(k:Option (Nat×Nat))(t1:Trace)(q1:Nat->Nat),runNT P N (crowd gs w' sl) t=(.next (crowd f w1 k),t1)/\f.size=gs.size/\f[0]?=some j/\ag P t1 f q1/\Past Shun i t1/\(∀op∈t1,f.size<=op.g->op.act.touch? = none)/\Q i j w1) p (sumTo gs.size q) gs g w sl t q B (aL _) l u m n o v (λd=>by
   obtain⟨es,L,M⟩:=hs d
   exact⟨_,_,es,L,λgs sl t q a b c e=>x d gs sl t q a b c e,M⟩)
  obtain⟨O,i,f,j,w1,k,t1,q1,k1,k2,k3,R,S,T,U⟩:=H y z A C F I J K;exact⟨N+O,i,f,j,w1,k,t1,q1,Go.ConcX.runNT_trans D k1,k2.trans E,k3,R,S,T,U⟩
end
end Go.bJ
namespace Go.bJ
inductive Mf:Obj->Obj->Prop
 |cells {c c':Array Value} (t:ac) (fz:Nat×Nat) (h:c.size=c'.size):Mf (.cells c t fz) (.cells c' t fz)
 |loop (l l':Loop):Mf (.loop l) (.loop l')
inductive DH:Obj->Obj->Prop
 |cells (c:Array Value) (t:ac) (fz fz':Nat×Nat):DH (.cells c t fz) (.cells c t fz')
 |loop (l:Loop):DH (.loop l) (.loop l)
def DH.trans{a b c:Obj}(h:DH a b)(k:DH b c):DH a c:=by
 cases h with
 |cells=>cases k;exact .cells _ _ _ _
 |loop=>cases k;exact .loop _
def Mf.up{o o':Obj}(h:Mf o o'):DH o' o':=by
 cases h with
 |cells t a _=>exact .cells _ _ _ _
 |loop=>exact .loop _
structure WC(Bs G:Nat)(F:ad->Bool)(K:Code->Bool)(ρ:Ren)(w w':World):Prop where
 pK:G<=w.heap.size
 gN:G<=w'.heap.size
 base:Bs<=w.heap.size
 obj:∀{r r':Nat},ρ r r'->Bs<=r->∃o o',w.heap[r]?=some o/\w'.heap[r']?=some o'/\OR F K ρ o o'
 low:∀{r r':Nat},ρ r r'->r<Bs->∃o o',w.heap[r]?=some o/\w'.heap[r']?=some o'/\Mf o o'
section
variable {Bs G:Nat}{F:ad->Bool}{K:Code->Bool}{ρ σ:Ren}{w w':World}
def WC.lt(h:WC Bs G F K ρ w w'){r c:Nat}(x:ρ r c):r<w.heap.size/\c<w'.heap.size:=by
 rcases aT r Bs with hb|hb
 ·obtain⟨o,d,a,b,_⟩:=h.low x hb;exact⟨bE a,bE b⟩
 ·obtain⟨o,d,a,b,_⟩:=h.obj x hb;exact⟨bE a,bE b⟩
def WC.fresh(h:WC Bs G F K ρ w w'):(∀b,¬ρ w.heap.size b)/\(∀a,¬ρ a w'.heap.size):=
 ⟨λ_ x=>absurd (h.lt x).1 (aI _),λ_ x=>absurd (h.lt x).2 (aI _)⟩
def WC.push(h:WC Bs G F K ρ w w'){o o':Obj}(x:OR F K (ρ.ext w.heap.size w'.heap.size) o o') :
 WC Bs G F K (ρ.ext w.heap.size w'.heap.size) { w with heap:=w.heap.push o } { w' with heap:=w'.heap.push o' }:=by
 have b:∀{d:Type}{a:Array d}{i:Nat}{v u:d},a[i]?=some v->(a.push u)[i]?=some v:=λ{d a i v u}e=>by
  have l:=bE e;rw[a9 l,<-a6 l];exact e
 refine⟨by have:=h.pK;simp;omega,by have:=h.gN;simp;omega,by have:=h.base;simp;omega,λ{r k}c hb=>?_,λ{r k}c hb=>?_⟩
 ·rcases c with c|⟨rfl,rfl⟩
  ·obtain⟨p,m,f,g,j⟩:=h.obj c hb;exact⟨p,m,b f,b g,j.mono (bd _ _ _)⟩
  ·exact⟨o,o',by simp,by simp,x⟩
 ·rcases c with c|⟨rfl,rfl⟩
  ·obtain⟨o,o',f,g,j⟩:=h.low c hb;exact⟨o,o',b f,b g,j⟩
  ·have:=h.base;omega
def WC.put(h:WC Bs G F K ρ w w')(d:ρ.bw G){r a:Nat}(b:ρ r a)(hb:Bs<=r){o o':Obj}(x:OR F K ρ o o') :
 WC Bs G F K ρ { w with heap:=w.heap.setIfInBounds r o } { w' with heap:=w'.heap.setIfInBounds a o' }:=by
 obtain⟨m,n⟩:=h.lt b;refine⟨by simpa using h.pK,by simpa using h.gN,by simpa using h.base,λ{s f}hs g=>?_,λ{s f}hs g=>?_⟩
 ·by_cases e:r=s
  ·subst e;obtain rfl:=d.fn b hs;exact⟨o,o',by simp[m],by simp[n],x⟩
  ·have i:a≠f:=λy=>e (d.inj b (y▸hs));obtain⟨p,q,j,k,l⟩:=h.obj hs g;exact⟨p,q,by simpa[a7 e]using j,by simpa[a7 i]using k,l⟩
 ·have e:r≠s:=by omega
  have i:a≠f:=λy=>e (d.inj b (y▸hs));obtain⟨c,t,j,k,l⟩:=h.low hs g;exact⟨c,t,by simpa[a7 e]using j,by simpa[a7 i]using k,l⟩
def WC.YO(h:WC Bs G F K ρ w w')(d:ρ.bw G){r a:Nat}(b:ρ r a)(hb:r<Bs){c c':Array Value}{t:ac}{f:Nat×Nat}(x:c.size=c'.size) :
 WC Bs G F K ρ { w with heap:=w.heap.setIfInBounds r (.cells c t f) } { w' with heap:=w'.heap.setIfInBounds a (.cells c' t f) }:=by
 obtain⟨o,q⟩:=h.lt b;refine⟨by simpa using h.pK,by simpa using h.gN,by simpa using h.base,λ{s g}hs i=>?_,λ{s g}hs i=>?_⟩
 ·have e:r≠s:=by omega
  have j:a≠g:=λy=>e (d.inj b (y▸hs));obtain⟨p,k,l,m,n⟩:=h.obj hs i;exact⟨p,k,by simpa[a7 e]using l,by simpa[a7 j]using m,n⟩
 ·by_cases e:r=s
  ·subst e;obtain rfl:=d.fn b hs;exact⟨_,_,by simp[o],by simp[q],.cells t f x⟩
  ·have j:a≠g:=λy=>e (d.inj b (y▸hs));obtain⟨p,k,l,m,n⟩:=h.low hs i;exact⟨p,k,by simpa[a7 e]using l,by simpa[a7 j]using m,n⟩
structure cI(Bs G:Nat)(F:ad->Bool)(K:Code->Bool)(ρ:Ren)(w w':World)(aJ:Ren)(w1 aP:World)(new:Array Event):Prop where
 le:ρ.le aJ
 inj:aJ.bw G
 wr:WC Bs G F K aJ w1 aP
 tape:w1.tape=aP.tape
 drawn:w1.drawn=aP.drawn
 wH:aP.tape=w'.tape
 XV:aP.os=w'.os
 mK:aP.output=w'.output
 size:w.heap.size<=w1.heap.size
 fV:w'.heap.size<=aP.heap.size
 frame:∀b,b<w'.heap.size->(∀a,¬ρ a b)->aP.heap[b]?=w'.heap[b]?
 N7:∀b,w'.heap.size<=b->b<aP.heap.size->∃a,aJ a b
 only:∀a b,aJ a b->ρ a b\/(w.heap.size<=a/\w'.heap.size<=b)
 ev:∀e∈new,Ls aJ e
 keep:∀a b,ρ a b->a<Bs->∃o o1,w'.heap[b]?=some o/\aP.heap[b]?=some o1/\DH o o1
def cI.refl(f:ρ.bw G)(d:WC Bs G F K ρ w w')(g:w.tape=w'.tape)(hd:w.drawn=w'.drawn):cI Bs G F K ρ w w' ρ w w' #[]:=
 ⟨bg _,f,d,g,hd,rfl,rfl,rfl,aL _,aL _,λ_ _ _=>rfl,λ_ i c=>absurd c (Nat.not_lt.2 i),λ_ _ h=>.inl h,by simp,λa b h hb=>by
   obtain⟨o,e,_,c,j⟩:=d.low h hb
   exact⟨e,e,c,c,j.up⟩⟩
def cI.trans{ρ g i:Ren}{w w' w1 c w2 j:World}{e1 l:Array Event}(h:cI Bs G F K ρ w w' g w1 c e1)(k:cI Bs G F K g w1 c i w2 j l):cI Bs G F K ρ w w' i w2 j (e1++l):=by
 refine⟨Ren.le_trans h.le k.le,k.inj,k.wr,k.tape,k.drawn,k.wH.trans h.wH,k.XV.trans h.XV,k.mK.trans h.mK,a5 h.size k.size,a5 h.fV k.fV,λb hb m=>?_,λb d f=>?_,λa b x=>?_,λe q=>?_,λa b n hb=>?_⟩
 ·rw[k.frame b (aH hb h.fV) (λa x=>?_),h.frame b hb m]
  rcases h.only a b x with y|⟨_,y⟩
  ·exact m a y
  ·omega
 ·rcases aT b c.heap.size with hl|hg
  ·exact(h.N7 b d hl).imp λ_ x=>k.le x
  ·exact k.N7 b hg f
 ·rcases k.only a b x with y|⟨y1,y2⟩
  ·exact h.only a b y
  ·exact .inr ⟨a5 h.size y1,a5 h.fV y2⟩
 ·rcases Array.mem_append.1 q with x|x
  ·exact(h.ev e x).mono k.le
  ·exact k.ev e x
 ·obtain⟨o,v,d,f,r⟩:=h.keep a b n hb;obtain⟨z,s,p,t,u⟩:=k.keep a b (h.le n) hb;rw[f]at p;cases p;exact⟨o,s,d,t,r.trans u⟩
def cI.less{a:Ren}{w1 b:World}{es c:Array Event}(h:cI Bs G F K ρ w w' a w1 b es)(k:∀e∈c,e∈es):cI Bs G F K ρ w w' a w1 b c:=
 { h with ev:=λe d=>h.ev e (k e d) }
def BO(b:ρ.bw G)(c:WC Bs G F K ρ w w')(d:w.tape=w'.tape)(hd:w.drawn=w'.drawn){e:Event}(f:Ls ρ e):cI Bs G F K ρ w w' ρ w w' #[e]:=
 { cI.refl b c d hd with ev:=λx a=>by simp at a;rw[a];exact f }
def uv(f:ρ.bw G)(i:WC Bs G F K ρ w w')(j:w.tape=w'.tape)(hd:w.drawn=w'.drawn){r c:Nat}(g:ρ r c)(hb:Bs<=r){o o':Obj}(k:OR F K ρ o o'){new:Array Event}(l:∀e∈new,Ls ρ e) :
 cI Bs G F K ρ w w' ρ { w with heap:=w.heap.setIfInBounds r o } { w' with heap:=w'.heap.setIfInBounds c o' } new:=
 ⟨bg _,f,i.put f g hb k,j,hd,rfl,rfl,rfl,by simp,by simp,λb _ m=>by
   have:c≠b:=λe=>m r (e▸g);simp[a7 this],
   λb q d=>by simp at d;omega,λ_ _ h=>.inl h,l,λa b h n=>by
    obtain⟨o,o',_,d,p⟩:=i.low h n;have:c≠b:=λe=>by
     have:=f.inj g (e▸h);omega
    exact⟨o',o',d,by simpa[a7 this]using d,p.up⟩⟩
def BP(j:ρ.bw G)(g:WC Bs G F K ρ w w')(m:w.tape=w'.tape)(hd:w.drawn=w'.drawn){r f:Nat}(i:ρ r f)(hb:r<Bs){c c':Array Value}{t:ac}{k fz':Nat×Nat}(d:w'.heap[f]?=some (.cells c' t k))(x:c.size=c'.size) :
 cI Bs G F K ρ w w' ρ { w with heap:=w.heap.setIfInBounds r (.cells c t fz') } { w' with heap:=w'.heap.setIfInBounds f (.cells c' t fz') } #[]:=
 ⟨bg _,j,g.YO j i hb x,m,hd,rfl,rfl,rfl,by simp,by simp,λb _ n=>by
   have:f≠b:=λe=>n r (e▸i);simp[a7 this],
   λb s d=>by simp at d;omega,λ_ _ h=>.inl h,by simp,λa b h p=>by
    by_cases e:f=b
    ·subst e;exact⟨_,_,d,by simp[(g.lt i).2],.cells c' t k fz'⟩
    ·obtain⟨o,l,_,d,q⟩:=g.low h p
     exact⟨l,l,d,by simpa[a7 e]using d,q.up⟩⟩
def Mg(f:ρ.bw G)(c:WC Bs G F K ρ w w')(g:w.tape=w'.tape)(hd:w.drawn=w'.drawn){o o':Obj}(i:OR F K ρ o o') :
 cI Bs G F K ρ w w' (ρ.ext w.heap.size w'.heap.size) { w with heap:=w.heap.push o } { w' with heap:=w'.heap.push o' } #[]:=
 ⟨bd _ _ _,f.ext c.fresh.1 c.fresh.2 c.pK c.gN,c.push (i.mono (bd _ _ _)),g,hd,rfl,rfl,rfl,by simp,by simp,λb hb _=>by
   show(w'.heap.push o')[b]?=_;rw[a9 hb,<-a6 hb],
   λb k d=>⟨w.heap.size,.inr ⟨rfl,by simp at d;omega⟩⟩,λa b h=>by
    rcases h with h|⟨rfl,rfl⟩
    ·exact .inl h
    ·exact .inr ⟨aL _,aL _⟩,by simp,λa b h hb=>by
    obtain⟨p,e,_,d,j⟩:=c.low h hb;have l:=bE d
    exact⟨e,e,d,by
     show(w'.heap.push o')[b]?=_
     rw[a9 l,<-a6 l];exact d,j.up⟩⟩
def pV(b:WC Bs G F K ρ w w'){r a:Nat}(c:ρ r a):(Bs<=r/\∃o o',w.heap[r]?=some o/\w'.heap[a]?=some o'/\OR F K ρ o o')\/(r<Bs/\∃o o',w.heap[r]?=some o/\w'.heap[a]?=some o'/\Mf o o'):=by
 rcases aT r Bs with hb|hb
 ·exact .inr ⟨hb,b.low c hb⟩
 ·exact .inl ⟨hb,b.obj c hb⟩
def vi(f:WC Bs G F K ρ w w'){a a':Addr}(b:AR ρ a a'):w.frozen? a=w'.frozen? a':=by
 rcases pV f b.1 with⟨_,o,g,c,d,e⟩|⟨_,o,g,c,d,e⟩
 ·cases e<;>simp[bi,c,d,b.2.1]
 ·cases e<;>simp[bi,c,d,b.2.1]
def GQ(e:WC Bs G F K ρ w w'){r d:Nat}(f:ρ r d):w.shape? r=w'.shape? d:=by
 rcases pV e f with⟨_,o,g,a,b,c⟩|⟨_,o,g,a,b,c⟩
 ·cases c with
  |cells t h hc=>simp[bj,a,b,VA.size hc]
  |_=>simp[bj,a,b]
 ·cases c with
  |cells t h hs=>simp[bj,a,b,hs]
  |loop=>simp[bj,a,b]
def BQ(Bs:Nat)(e:Event):Prop:=match e.loc with
 |.cell a=>a.block<Bs
 |.obj b=>b<Bs
 |_=>False
def oP(e:Event):Prop:=∀g,e.loc≠.mark (.extern g)
def Ak(Bs:Nat)(es c:Array Event):Prop:=∃(a:List Event)(e:Event)(b:List Event),c.toList=es.toList++a++e::b/\(∀x∈a,oP x)/\BQ Bs e/\oP e
def Ak.more{es new c:Array Event}(h:Ak Bs (es++new) c)(d:∀x∈new,oP x):Ak Bs es c:=by
 obtain⟨b,e,a,f,g,i,j⟩:=h;refine⟨new.toList++b,e,a,by rw[f];simp,λx k=>?_,i,j⟩
 rcases List.mem_append.1 k with y|y
 ·exact d x (Array.mem_toList_iff.1 y)
 ·exact g x y
def Mh{f:Type}{P:aa}(s:Sem f):∀(w:World)(es:Array Event),∃rest:List Event,(s.runT P w es).2.toList=es.toList++rest:=by
 induction s with
 |pure a=>intro w es;exact⟨[],by simp[br]⟩
 |halt h=>intro w es;exact⟨[],by simp[br]⟩
 |load m a k b=>
  intro w es;simp only[br]
  split
  ·obtain⟨r,d⟩:=b _ w (es.push _);exact⟨_::r,by rw[d];simp;rfl⟩
  ·split
   ·obtain⟨r,d⟩:=b _ w _;exact⟨_,by rw[d,ba,bx]⟩
   ·exact⟨[],by simp⟩
 |store m a v k b=>
  intro w es
  have key:∀c:Array Event,∃rest:List Event,((match w.cell? a with
   |some _=>if w.frozen? a then(Result.halt (.unsupported (.unsafePointer "a write to bytes that a string shares")) w,es) else k.runT P (w.setCell a v) (es.push ⟨.cell a,true,m == .atomic⟩)
   |none=>match w.farStore P a v (m == .atomic) with
    |.ok (w,e)=>k.runT P w (es++e.toArray.map (⟨.cell ·,true,m == .atomic⟩))
    |.error h=>(.halt h w,es)):ae _×Array Event).2.toList=es.toList++rest:=by
   intro _
   split
   ·split
    ·exact⟨[],by simp⟩
    ·obtain⟨r,d⟩:=b (w.setCell a v) (es.push _);exact⟨_::r,by rw[d];simp;rfl⟩
   ·split
    ·rename_i w2 e _;obtain⟨r,d⟩:=b w2 (es++e.toArray.map (⟨.cell ·,true,m == .atomic⟩));exact⟨_,by rw[d,ba,bx]⟩
    ·exact⟨[],by simp⟩
  cases v<;>first|exact key #[]|exact⟨[],by simp[br]⟩
 |new o k b=>intro w es;simp only[br];exact b _ _ _
 |shape r k b=>intro w es;simp only[br];exact b _ _ _
 |freeze a n k b=>intro w es;simp only[br];exact b _ _
 |frozen a k b=>intro w es;simp only[br];exact b _ _ _
 |getObj r k b=>
  intro w es;simp only[br]
  split
  ·exact⟨[],by simp⟩
  ·obtain⟨r,d⟩:=b _ w (es.push _);exact⟨_::r,by rw[d];simp;rfl⟩
  ·exact⟨[],by simp⟩
 |setObj r o k b=>
  intro w es;simp only[br]
  split
  ·exact⟨[],by simp⟩
  ·obtain⟨r,d⟩:=b _ (es.push _);exact⟨_::r,by rw[d];simp;rfl⟩
  ·exact⟨[],by simp⟩
 |choose q k b=>
  intro w es;simp only[br]
  split
  ·exact b _ _ _
  ·exact b _ _ _
 |sys c k b=>
  intro w es;simp only[br];obtain⟨r,d⟩:=b (w.sys c).1 (w.sys c).2 (es.push _);exact⟨_::r,by rw[d];simp;rfl⟩
 |program k b=>intro w es;simp only[br];exact b _ _ _
 |mark m k b=>
  intro w es;simp only[br];obtain⟨r,d⟩:=b w (es.push _);exact⟨_::r,by rw[d];simp;rfl⟩
def mW{a:Type}{P:aa}(s:Sem a)(w:World)(es:Array Event){e:Event}(h:BQ Bs e)(b:oP e):Ak Bs es (s.runT P w (es.push e)).2:=by
 obtain⟨r,c⟩:=Mh (P:=P) s w (es.push e);exact⟨[],e,r,by rw[c];simp,by simp,h,b⟩
end
inductive NL(ρ:Ren):Event->Event->Prop
 |cell {a a':Addr} (h:AR ρ a a') (wr:Bool):NL ρ ⟨.cell a,wr,false⟩ ⟨.cell a',wr,false⟩
 |obj {r r':Nat} (h:ρ r r') (wr:Bool):NL ρ ⟨.obj r,wr,false⟩ ⟨.obj r',wr,false⟩
 |mark (m:Mark) (h:lE m):NL ρ ⟨.mark m,false,true⟩ ⟨.mark m,false,true⟩
inductive fK(ρ:Ren):List Event->List Event->Prop
 |nil:fK ρ [] []
 |cons {e e':Event} {l l':List Event} (h:NL ρ e e') (t:fK ρ l l'):fK ρ (e::l) (e'::l')
def NL.mono{ρ b:Ren}(h:ρ.le b){e e':Event}(x:NL ρ e e'):NL b e e':=by
 cases x with
 |cell a w=>exact .cell (a.mono h) w
 |obj a w=>exact .obj (h a) w
 |mark m k=>exact .mark m k
def fK.mono{ρ b:Ren}(h:ρ.le b){l l':List Event}(x:fK ρ l l'):fK b l l':=by
 induction x with
 |nil=>exact .nil
 |cons a _ c=>exact .cons (a.mono h) c
def fK.append{ρ:Ren}{l l' m m':List Event}(x:fK ρ l l')(y:fK ρ m m'):fK ρ (l++m) (l'++m'):=by
 induction x with
 |nil=>exact y
 |cons a _ b=>exact .cons a b
def fK.one{ρ:Ren}{e e':Event}(x:NL ρ e e'):fK ρ [e] [e']:=.cons x .nil
def fK.mem{ρ:Ren}{l l':List Event}(x:fK ρ l l'){e':Event}(h:e'∈l'):∃e,e∈l/\NL ρ e e':=by
 induction x with
 |nil=>cases h
 |cons a _ b=>
  rcases List.mem_cons.1 h with rfl|h
  ·exact⟨_,.head _,a⟩
  ·obtain⟨e,c,d⟩:=b h;exact⟨e,.tail _ c,d⟩
def NL.oP{ρ:Ren}{e e':Event}(x:NL ρ e e'):oP e:=by
 cases x with
 |cell a w=>intro g h;cases h
 |obj a w=>intro g h;cases h
 |mark m k=>intro g h;have k:m=.noRoom:=k;subst k;cases h
def fK.oP{ρ:Ren}{l l':List Event}(x:fK ρ l l'):∀e∈l,bJ.oP e:=by
 induction x with
 |nil=>intro e h;cases h
 |cons a _ b=>
  intro e h
  rcases List.mem_cons.1 h with rfl|h
  ·exact a.oP
  ·exact b e h
section
variable (Bs G:Nat)(F:ad->Bool)(K:Code->Bool)
def Mi{f g:Type}(RA:Ren->f->g->Prop)(ρ:Ren)(w w':World)(es h:Array Event)(i:ae g×Array Event):ae f×Array Event->Prop
 |(.ok a w1,e)=>∃c j d b new,e=es++b/\i=(.ok j d,h++new)/\cI Bs G F K ρ w w' c w1 d new/\fK c b.toList new.toList/\RA c a j
 |(.halt (.panic v) w1,e)=>∃c v' d b new,e=es++b/\i=(.halt (.panic v') d,h++new)/\cI Bs G F K ρ w w' c w1 d new/\fK c b.toList new.toList/\VR F c v v'
 |(.halt (.stuck _) _,_)=>True
 |(.halt (.unsupported u) _,_)=>dw u=true
 |(.halt _ _,_)=>False
def jo{a b:Type}(RA:Ren->a->b->Prop)(ρ:Ren)(w w':World)(es c:Array Event)(d:ae b×Array Event)(r:ae a×Array Event):Prop:=Mi Bs G F K RA ρ w w' es c d r\/Ak Bs es r.2
end
section
variable {T:Tables}{fB fA:Array Func}{Bs G:Nat}{F:ad->Bool}{K:Code->Bool}
def Mi.step{j l:Type}{RA:Ren->j->l->Prop}{ρ b:Ren}{w w' w1 m:World}{es n newL new:Array Event}{o:ae l×Array Event}{r:ae j×Array Event}
 (hs:cI Bs G F K ρ w w' b w1 m new) (p:fK b newL.toList new.toList) (h:Mi Bs G F K RA b w1 m (es++newL) (n++new) o r):Mi Bs G F K RA ρ w w' es n o r:=by
 match r,h with
 |(.ok a w2,q),⟨c,s,d,f,g,e1,e,k,i,t⟩=>exact⟨c,s,d,newL++f,new++g,by rw[e1,bb],by rw[e,bb],hs.trans k,by rw[ba,ba];exact(p.mono k.le).append i,t⟩
 |(.halt (.panic v) w2,q),⟨c,v',d,f,g,e1,e,k,i,hv⟩=>exact⟨c,v',d,newL++f,new++g,by rw[e1,bb],by rw[e,bb],hs.trans k,by rw[ba,ba];exact(p.mono k.le).append i,hv⟩
 |(.halt .blocked _,_),h=>exact h
 |(.halt .waiting _,_),h=>exact h
 |(.halt (.exit _) _,_),h=>exact h
 |(.halt (.fatal _) _,_),h=>exact h
 |(.halt (.throw _) _,_),h=>exact h
 |(.halt .goexit _,_),h=>exact h
 |(.halt (.unsupported _) _,_),h=>exact h
 |(.halt (.stuck _) _,_),_=>trivial
def jo.step{b c:Type}{RA:Ren->b->c->Prop}{ρ a:Ren}{w w' w1 d:World}{es e newL new:Array Event}{f:ae c×Array Event}{r:ae b×Array Event}
 (hs:cI Bs G F K ρ w w' a w1 d new) (g:fK a newL.toList new.toList) (h:jo Bs G F K RA a w1 d (es++newL) (e++new) f r):jo Bs G F K RA ρ w w' es e f r:=
 h.imp (Mi.step hs g) λh=>h.more λx i=>g.oP x (Array.mem_toList_iff.2 i)
def jo.quiet{a b:Type}{RA:Ren->a->b->Prop}{ρ c:Ren}{w w' w1 d:World}{es e:Array Event}{f:ae b×Array Event}{r:ae a×Array Event}
 (hs:cI Bs G F K ρ w w' c w1 d #[]) (h:jo Bs G F K RA c w1 d es e f r):jo Bs G F K RA ρ w w' es e f r:=
 jo.step (newL:=#[]) hs .nil (by simpa using h)
def jo.one{b c:Type}{RA:Ren->b->c->Prop}{ρ a:Ren}{w w' w1 d:World}{es f:Array Event}{e e':Event}{g:ae c×Array Event}{r:ae b×Array Event}
 (hs:cI Bs G F K ρ w w' a w1 d #[e']) (i:NL a e e') (h:jo Bs G F K RA a w1 d (es.push e) (f.push e') g r):jo Bs G F K RA ρ w w' es f g r:=
 jo.step (newL:=#[e]) hs (.one i) (by simpa using h)
def Al{ρ:Ren}{w w':World}(l:WC Bs G F K ρ w w'){a a':Addr}(h:AR ρ a a') :
 (w.cell? a=none/\(∃s:String,∀m,w.farLoad ⟨T,fB⟩ a m=.error (.stuck s))/\∀v,∃s:String,w.farStore ⟨T,fB⟩ a v false=.error (.stuck s))\/
 (Bs<=a.block/\∃v v' c c' t g,w.cell? a=some v/\w'.cell? a'=some v'/\VR F ρ v v'/\a.spot=none/\w.heap[a.block]?=some (.cells c t g)/\w'.heap[a'.block]?=some (.cells c' t g)/\VA F ρ c c')\/
 (a.block<Bs/\∃v,w.cell? a=some v):=by
 rcases pV l h.1 with⟨hb,o,n,b,i,d⟩|⟨hb,o,n,b,i,d⟩
 ·have f:w.cell? a=none->(∃s:String,∀m,w.farLoad ⟨T,fB⟩ a m=.error (.stuck s))/\∀v,∃s:String,w.farStore ⟨T,fB⟩ a v false=.error (.stuck s):=by
   intro _;refine⟨?_,λv=>⟨ "store: no such cell",?_⟩⟩
   ·cases d<;>exact⟨ "load: no such cell",λm=>by simp only[bl,b,bm]⟩
   ·have hf:w.farStore ⟨T,fB⟩ a v false=.error (w.noCell a "store: no such cell"):=by
     cases d<;>simp[bo,b]
    rw[hf,mM b d]
  cases d with
  |@cells c c' t g hc=>
   by_cases hs:a.spot=none
   ·rcases VA.get? hc a.off with⟨j,k⟩|⟨v,v',j,k,hv⟩
    ·left;have e:w.cell? a=none:=by simp[bp,b,hs,j]
     exact⟨e,f e⟩
    ·right;left;refine⟨hb,v,v',c,c',t,g,by simp[bp,b,hs,j],?_,hv,hs,b,i,hc⟩;have p:a'.spot=none:=by rw[<-h.2.2];exact hs
     simp[bp,i,p,<-h.2.1,k]
   ·left;have e:w.cell? a=none:=by simp[bp,b,Option.isSome_iff_ne_none.2 hs]
    exact⟨e,f e⟩
  |_=>
   left;have e:w.cell? a=none:=by simp[bp,b]
   exact⟨e,f e⟩
 ·cases e:w.cell? a with
  |some v=>exact .inr (.inr ⟨hb,v,rfl⟩)
  |none=>
   left;refine⟨rfl,⟨ "load: no such cell",λm=>by cases d<;>simp only[bl,b,bm]⟩,λv=>⟨ "store: no such cell",?_⟩⟩;have hf:w.farStore ⟨T,fB⟩ a v false=.error (w.noCell a "store: no such cell"):=by cases d<;>simp[bo,b]
   rw[hf];cases d<;>simp only[bm,b]
def bW.runT{b:Type}{s:Sem b}(h:bW T fB s):∀(w:World)(es:Array Event),∃x c,Lr x/\s.runT ⟨T,fB⟩ w es=(.halt x w,c):=by
 induction s with
 |halt x=>exact λw es=>⟨x,es,h,rfl⟩
 |program k a=>exact λw es=>a _ h w es
 |shape r k a=>exact λw es=>a (w.shape? r) (h _) w es
 |frozen r k a=>exact λw es=>a (w.frozen? r) (h _) w es
 |mark m k a=>exact λw es=>a h.2 w _
 |_=>exact h.elim
def bW.GU{a b:Type}{RA:Ren->a->b->Prop}{ρ:Ren}{w w':World}{es d:Array Event}{f:ae b×Array Event}{s:Sem a}(h:bW T fB s):jo Bs G F K RA ρ w w' es d f (s.runT ⟨T,fB⟩ w es):=by
 obtain⟨x,g,c,e⟩:=h.runT w es;rw[e];left
 cases x with
 |stuck _=>trivial
 |unsupported u=>exact c
 |_=>exact c.elim
def av.GU{Y Z:Type}{RA:Ren->Y->Z->Prop}{s:Sem Y}:∀{ρ:Ren}{s':Sem Z}{w w':World}(es j:Array Event),av T fB fA F K RA ρ s s'->ρ.bw T.globals.size->WC Bs T.globals.size F K ρ w w'->w.tape=w'.tape->w.drawn=w'.drawn->
 jo Bs T.globals.size F K RA ρ w w' es j (s'.runT ⟨T,fA⟩ w' j) (s.runT ⟨T,fB⟩ w es):=by
 induction s with
 |pure a=>
  rintro ρ s' w w' es j⟨C,rfl,h⟩f b d hd;exact .inl ⟨ρ,C,w',#[],#[],by simp,by simp[br],cI.refl f b d hd,.nil,h⟩
 |halt h=>
  intro ρ s' w w' es j hs f b d hd;cases h<;>first|exact .inl hs|exact .inl trivial|(obtain⟨v',rfl,hv⟩:=hs;exact .inl ⟨ρ,v',w',#[],#[],by simp,by simp[br],cI.refl f b d hd,.nil,hv⟩)
 |load m a k l=>
  rintro ρ s' w w' es j⟨m',C,k',rfl,rfl,rfl,z,x⟩f b d hd
  rcases Al (T:=T) (fB:=fB) b z with⟨D,⟨s,J⟩,_⟩|⟨hb,v,v',c,c',t,y,D,J,hv,_⟩|⟨hb,v,D⟩
  ·simp only[br,D,J];exact .inl trivial
  ·simp only[br,D,J];exact jo.one (e:=⟨.cell a,false,false⟩) (e':=⟨.cell C,false,false⟩) (BO f b d hd ⟨rfl,_,z.1⟩) (.cell z false) (l v _ _ (x v v' hv) f b d hd)
  ·simp only[br,D];exact .inr (mW (k v) w es (e:=⟨.cell a,false,false⟩) hb (λg h=>by cases h))
 |store m a v k l=>
  rintro ρ s' w w' es j⟨m',C,v',k',rfl,rfl,rfl,z,hv,x⟩f b d hd;have key:(∀c,v≠.agg c)->(∀c,v≠.tuple c)->(∀c,v'≠.agg c)->(∀c,v'≠.tuple c)->
   jo Bs T.globals.size F K RA ρ w w' es j ((bs .plain C v' k').runT ⟨T,fA⟩ w' j) ((bs .plain a v k).runT ⟨T,fB⟩ w es):=by
   intro M N U V;rw[qR _ _ _ _ _ M N,qR _ _ _ _ _ U V]
   rcases Al (T:=T) (fB:=fB) b z with⟨D,_,J⟩|⟨hb,u,u',c,c',t,y,D,J,hu,hs,h3,h4,hc⟩|⟨hb,u,D⟩
   ·obtain⟨s,hf⟩:=J v;simp only[D,hf];exact .inl trivial
   ·have fR:C.spot=none:=by rw[<-z.2.2];exact hs
    rw[D,J];simp only[<-vi b z]
    split
    ·refine .inl ?_;show dw (.unsafePointer _)=true;rfl
    ·rw[jR w a _ h3 hs,jR w' C _ h4 fR,<-z.2.1];have aF:=uv f b d hd z.1 hb (.cells t y (VA.set hc a.off hv)) (new:=#[⟨.cell C,true,false⟩]) (λe Q=>by simp at Q;subst Q;exact⟨rfl,_,z.1⟩);exact jo.one aF (.cell z true) (l _ _ x f aF.wr d hd)
   ·rw[D];by_cases hz:w.frozen? a=true
    ·refine .inl ?_;simp only[hz,if_true];show dw (.unsafePointer _)=true;rfl
    ·refine .inr ?_;simp only[hz];exact mW k _ es (e:=⟨.cell a,true,false⟩) hb (λg h=>by cases h)
  cases hv<;>first|exact .inl trivial|exact key (by simp) (by simp) (by simp) (by simp)
 |new o k l=>
  rintro ρ s' w w' es j⟨E,k',rfl,B,x⟩f b d hd;simp only[br];have hs:=Mg f b d hd B;exact jo.quiet hs (l w.heap.size es j (x _ _ b.fresh.1 b.fresh.2 b.pK b.gN) hs.inj hs.wr d hd)
 |shape r k l=>
  rintro ρ s' w w' es j(⟨L,k',rfl,I,x⟩|h)f b d hd
  ·simp only[br,<-GQ b I];exact l _ es j (x _) f b d hd
  ·exact bW.GU (s:=.shape r k) h
 |freeze a n k l=>
  rintro ρ s' w w' es j⟨C,k',rfl,z,x⟩f b d hd;simp only[br];by_cases O:n=0
  ·subst O;have e1:w.freeze a 0=w:=by simp[bq]
   have W:w'.freeze C 0=w':=by simp[bq]
   rw[e1,W];exact l es j x f b d hd
  have idle:∀{w:World}{a:Addr}{o:Obj},w.heap[a.block]?=some o->(∀c t y,o≠.cells c t y)->w.freeze a n=w:=by
   intro w a o h bu;unfold bq;rw[if_neg O];obtain⟨heap,_,_,_,_⟩:=w;congr 1;apply Array.ext_getElem?;intro i;rw[Array.getElem?_modify]
   split
   ·rename_i e;subst e;show Option.map _ heap[a.block]?=heap[a.block]?;have h':heap[a.block]?=some o:=h;rw[h'];cases o<;>first|rfl|exact absurd rfl (bu _ _ _)
   ·rfl
  rcases pV b z.1 with⟨hb,o,E,A,H,B⟩|⟨hb,o,E,A,H,B⟩
  ·cases B with
   |@cells c c' t y hc=>
    obtain⟨R,hi⟩:=y;rw[iz w a n O A,iz w' C n O H,<-z.2.1];have hs:=uv f b d hd z.1 hb (.cells t (if R==hi then(a.off,a.off+n) else(min R a.off,max hi (a.off+n))) hc) (new:=#[]) (by simp);exact jo.quiet hs (l es j x f hs.wr d hd)
   |_=>
    rw[idle A (by simp),idle H (by simp)];exact l es j x f b d hd
  ·cases B with
   |cells t y fW=>
    obtain⟨R,hi⟩:=y;rw[iz w a n O A,iz w' C n O H,<-z.2.1];have hs:=BP f b d hd z.1 hb (fz':=if R==hi then(a.off,a.off+n) else(min R a.off,max hi (a.off+n))) H fW;exact jo.quiet hs (l es j x f hs.wr d hd)
   |loop=>
    rw[idle A (by simp),idle H (by simp)];exact l es j x f b d hd
 |frozen a k l=>
  rintro ρ s' w w' es j(⟨C,k',rfl,z,x⟩|h)f b d hd
  ·simp only[br,<-vi b z];exact l _ es j (x _) f b d hd
  ·exact bW.GU (s:=.frozen a k) h
 |getObj r k l=>
  rintro ρ s' w w' es j⟨L,k',rfl,I,x⟩f b d hd;have one:∀{P:aa}{β:Type}{w:World}{r:Nat}{o:Obj}{k:Obj->Sem β}{es:Array Event},w.heap[r]?=some o->(∀c t y,o≠.cells c t y)->o.isChan=false->(bt r k).runT P w es=(k o).runT P w (es.push ⟨.obj r,false,false⟩):=by
   intro P β w r o k es g M N;simp only[br,g];cases o<;>first|rfl|exact absurd rfl (M _ _ _)|(simp only[N])
  rcases pV b I with⟨hb,o,E,A,H,B⟩|⟨hb,o,E,A,H,B⟩
  rotate_left
  ·cases B with
   |cells=>simp only[br,A];exact .inl trivial
   |loop=>
    rw[one A (by simp) rfl];exact .inr (mW _ w es (e:=⟨.obj r,false,false⟩) hb (λg h=>by cases h))
  have key:(∀c t y,o≠.cells c t y)->(∀c t y,E≠.cells c t y)->o.isChan=false->E.isChan=false->
   jo Bs T.globals.size F K RA ρ w w' es j ((bt L k').runT ⟨T,fA⟩ w' j) ((bt r k).runT ⟨T,fB⟩ w es):=by
   intro M N U V;rw[one A M U,one H N V];exact jo.one (e:=⟨.obj r,false,false⟩) (e':=⟨.obj L,false,false⟩) (BO f b d hd ⟨rfl,_,I⟩) (.obj I false) (l o _ _ (x o E B) f b d hd)
  cases B with
  |cells t y hc=>simp only[br,A];exact .inl trivial
  |_=>exact key (by simp) (by simp) rfl rfl
 |setObj r o k l=>
  rintro ρ s' w w' es j⟨L,E,k',rfl,I,⟨B,_⟩,x⟩f b d hd;have uQ:E.isChan=false:=by cases B<;>rfl
  have S:o.isChan=false:=by cases B<;>rfl
  rcases pV b I with⟨hb,p,p',A,H,X⟩|⟨hb,p,p',A,H,X⟩
  rotate_left
  ·cases X with
   |cells=>simp only[br,A];exact .inl trivial
   |loop=>
    simp only[br,A,S];exact .inr (mW _ _ es (e:=⟨.obj r,true,false⟩) hb (λg h=>by cases h))
  have key:(∀c t y,p≠.cells c t y)->(∀c t y,p'≠.cells c t y)->
   jo Bs T.globals.size F K RA ρ w w' es j ((bv L E k').runT ⟨T,fA⟩ w' j) ((bv r o k).runT ⟨T,fB⟩ w es):=by
   intro M N;have e1:(bv r o k).runT ⟨T,fB⟩ w es=k.runT ⟨T,fB⟩ { w with heap:=w.heap.setIfInBounds r o } (es.push ⟨.obj r,true,false⟩):=by
    simp only[br,A,S]
   have W:(bv L E k').runT ⟨T,fA⟩ w' j=k'.runT ⟨T,fA⟩ { w' with heap:=w'.heap.setIfInBounds L E } (j.push ⟨.obj L,true,false⟩):=by
    simp only[br,H,uQ]
   rw[e1,W];have hs:=uv f b d hd I hb B (new:=#[⟨.obj L,true,false⟩]) (λe Q=>by simp at Q;subst Q;exact⟨rfl,_,I⟩);exact jo.one hs (.obj I true) (l _ _ x f hs.wr d hd)
  cases X with
  |cells t y hc=>simp only[br,A];exact .inl trivial
  |_=>exact key (by simp) (by simp)
 |choose q k l=>
  rintro ρ s' w w' es j⟨k',rfl,x⟩f b d hd;simp only[br]
  split
  ·exact l _ es j (x _) f b d hd
  ·rw[<-d,<-hd];have wK:WC Bs T.globals.size F K ρ { w with drawn:=w.drawn+1 } { w' with drawn:=w.drawn+1 }:=⟨b.pK,b.gN,b.base,b.obj,b.low⟩
   have hs:cI Bs T.globals.size F K ρ w w' ρ { w with drawn:=w.drawn+1 } { w' with drawn:=w.drawn+1 } #[]:=
    ⟨bg _,f,wK,d,rfl,rfl,rfl,rfl,aL _,aL _,λ_ _ _=>rfl,λ_ D J=>absurd J (Nat.not_lt.2 D),λ_ _ h=>.inl h,by simp,(cI.refl f b d hd).keep⟩
   have:=l (q.cut (w.tape w.drawn q)) es j (x _) f wK d rfl;exact jo.quiet hs (by simpa[d]using this)
 |sys c k l=>intro ρ s' w w' es j h;exact h.elim
 |program k l=>
  rintro ρ s' w w' es j(⟨k',rfl,x⟩|CS)f b d hd
  ·simp only[br];exact l _ es j x f b d hd
  ·exact bW.GU (s:=.program k) CS
 |mark m k l=>
  rintro ρ s' w w' es j(⟨k',rfl,hm,x⟩|h)f b d hd;rotate_left
  ·exact bW.GU (s:=.mark m k) h
  simp only[br];exact jo.one (e:=⟨.mark m,false,true⟩) (e':=⟨.mark m,false,true⟩) (BO f b d hd hm) (.mark m hm) (l _ _ x f b d hd)
end
section
variable (T:Tables)(fB fA:Array Func)(F:ad->Bool)(Z:ac->Bool)(bot:Frame)(up:List Frame)(Bs:Nat)
structure GC(ρ:Ren)(g g':ab):Prop where
 top:aQ T F Z fB fA ρ g.frame g'.frame
 callers:∃l l',g.callers=l++[bot]/\g'.callers=l'++up/\cj T F Z fB fA ρ l l'/\dn (g.frame::l)
 st:g.status=.running
 st':g'.status=.running
 dy:g.dying=none
 Bl:g'.dying=none
 of:g.offers=none
 Bm:g'.offers=none
def dG(ρ:Ren)(w w':World):GStep->GStep->Prop
 |.go c w1 es,g=>(∃a d f b,g=.go d f b/\cI Bs T.globals.size F (codeOk T F Z) ρ w w' a w1 f b/\fK a es.toList b.toList/\GC T fB fA F Z bot up a c d)\/(∃e∈es,BQ Bs e)\/c.status≠.running
 |_,_=>True
structure GV(ρ:Ren)(w w':World):Prop where
 inj:ρ.bw T.globals.size
 wr:WC Bs T.globals.size F (codeOk T F Z) ρ w w'
 tape:w.tape=w'.tape
 drawn:w.drawn=w'.drawn
structure zG:Prop where
 zero:dM T F Z
 fns:si fB fA F
 same:∀f,F f=true->Bi T fB fA F Z f
 noU:F Ya=false
 nr:∀f,F f=true->(fB[f]?).any (·.norace)=false
 early:∀fr cs d g w,∃o w1 es,early ⟨T,fB⟩ fr cs d g w=.ended o w1 es
end
section
variable {T:Tables}{fB fA:Array Func}{F:ad->Bool}{Z:ac->Bool}{bot:Frame}{up:List Frame}{Bs:Nat}{ρ σ:Ren}{w w':World}
def cI.wd{a:Ren}{w1 b:World}{es:Array Event}(h:cI Bs T.globals.size F (codeOk T F Z) ρ w w' a w1 b es):GV T F Z Bs a w1 b:=⟨h.inj,h.wr,h.tape,h.drawn⟩
def GV.refl(h:GV T F Z Bs ρ w w'):cI Bs T.globals.size F (codeOk T F Z) ρ w w' ρ w w' #[]:=cI.refl h.inj h.wr h.tape h.drawn
def DI{q:ad->Bool}:∀(l:List Event)(k:Array Event),(∀x∈l,oP x)->(l.foldl (ar q) (false,k))=(false,k++l.toArray)
 |[],k,_=>by simp
 |x::l,k,h=>by
  have a:=h x (by simp);have e1:ar q (false,k) x=(false,k.push x):=by
   obtain⟨loc,wr,b⟩:=x
   cases loc with
   |mark m=>
    cases m with
    |extern g=>exact absurd rfl (a g)
    |_=>rfl
   |_=>rfl
  rw[bA,e1,DI l _ λy hy=>h y (by simp[hy])];simp
def DJ{q:ad->Bool}{e:Event}:∀(l:List Event)(b:Bool)(k:Array Event),e∈k->e∈(l.foldl (ar q) (b,k)).2
 |[],_,_,h=>h
 |x::l,b,k,h=>by
  rw[bA];have plain:e∈(if b && !x.sync then k else k.push x):=by
   split
   ·exact h
   ·exact Array.mem_push.2 (.inl h)
  have:∃b' k',ar q (b,k) x=(b',k')/\e∈k':=by
   obtain⟨loc,wr,c⟩:=x
   cases loc with
   |mark m=>
    cases m with
    |extern g=>exact⟨_,_,rfl,h⟩
    |_=>exact⟨_,_,rfl,plain⟩
   |_=>exact⟨_,_,rfl,plain⟩
  obtain⟨b',k',e1,a⟩:=this;rw[e1];exact DJ l b' k' a
def DK{P:aa}{fn:ad}(f:(P.funcs[fn]?).any (·.norace)=false){b:Array Event}(h:Ak Bs #[] b):∃e∈seen P fn b,BQ Bs e:=by
 obtain⟨a,e,c,g,i,d,j⟩:=h;refine⟨e,?_,d⟩;rw[aw,f,g];simp only[List.nil_append,List.foldl_append,bA];rw[DI a _ i];apply DJ;obtain⟨loc,wr,k⟩:=e
 cases loc with
 |mark m=>exact d.elim
 |_=>simp[ar]
def dG.Pj{es:Array Event}{s s':GStep}(h:∃e∈es,BQ Bs e):dG T fB fA F Z bot up Bs ρ w w' (GStep.after es s) s':=by
 obtain⟨e,a,b⟩:=h
 cases s with
 |go c w1 d=>exact .inr (.inl ⟨e,Array.mem_append.2 (.inl a),b⟩)
 |_=>trivial
def sF{q:ad->Bool}{i:ad->Bool}:∀{l l':List Event}(b:Bool)(k k':Array Event),fK ρ l l'->fK ρ k.toList k'.toList->fK ρ (l.foldl (ar q) (b,k)).2.toList (l'.foldl (ar i) (b,k')).2.toList
 |[],_,b,k,k',h,c=>by cases h;exact c
 |e::l,_,b,k,k',h,c=>by
  cases h with
  |@cons _ j _ l' g d=>
   simp only[bA];have push:fK ρ (k.push e).toList (k'.push j).toList:=by
    rw[bc,bc];exact c.append (.one g)
   cases g with
   |cell a wr=>cases b<;>simp only[ar,bC,bL,bM,bR,if_false,if_true,bT]<;>exact sF _ _ _ d (by first|exact push|exact c)
   |obj a wr=>cases b<;>simp only[ar,bC,bL,bM,bR,if_false,if_true,bT]<;>exact sF _ _ _ d (by first|exact push|exact c)
   |mark m f=>
    have f:m=.noRoom:=f;subst f;cases b<;>simp only[ar,Bool.not_true,Bool.and_false,bR,if_false]<;>exact sF _ _ _ d push
def rz(fit:zG T fB fA F Z){f:ad}(hf:F f=true){l l':Array Event}(h:fK ρ l.toList l'.toList):fK ρ (seen ⟨T,fB⟩ f l).toList (seen ⟨T,fA⟩ f l').toList:=by
 rw[aw,aw];obtain⟨fn,c,a,b,_⟩:=(fit.same f hf).ex;have e:((⟨T,fB⟩:aa).funcs[f]?).any (·.norace)=((⟨T,fA⟩:aa).funcs[f]?).any (·.norace):=by
  show(fB[f]?).any _=(fA[f]?).any _;rw[a,b]
 rw[e];exact sF _ _ _ h .nil
def dG.comp{b:Ren}{w1 c:World}{new es a:Array Event}{s s':GStep}(f:cI Bs T.globals.size F (codeOk T F Z) ρ w w' b w1 c new)(h:dG T fB fA F Z bot up Bs b w1 c s s')(g:∀e∈a,e∈new)(i:fK b es.toList a.toList) :
 dG T fB fA F Z bot up Bs ρ w w' (GStep.after es s) (GStep.after a s'):=by
 cases s with
 |go t w2 j=>
  rcases h with⟨d,l,m,n,e,k,o,p⟩|⟨e,q,r⟩|h
  ·subst e;refine .inl ⟨d,l,m,a++n,rfl,(f.less g).trans k,?_,p⟩;show fK d (es++j).toList _;rw[ba,ba];exact(i.mono k.le).append o
  ·exact .inr (.inl ⟨e,Array.mem_append.2 (.inr q),r⟩)
  ·exact .inr (.inr h)
 |_=>trivial
def rA(fit:zG T fB fA F Z)(x:GV T F Z Bs ρ w w'){fr fr':Frame}{cs cs':List Frame}(d:aQ T F Z fB fA ρ fr fr')(hcs:cj T F Z fB fA ρ cs cs')(hb:dn (fr::cs))
 {s s':Sem Next} (hs:av T fB fA F (codeOk T F Z) (gT F (codeOk T F Z)) ρ s s') :
 dG T fB fA F Z bot up Bs ρ w w' (stepG.apply ⟨T,fB⟩ true fr (cs++[bot]) none s w) (stepG.apply ⟨T,fA⟩ true fr' (cs'++up) none s' w'):=by
 have i:=av.GU #[] #[] hs x.inj x.wr x.tape x.drawn;have D:(fr'.kind == .early)=false:=by rw[d.bX];rfl
 have early:(fr.kind == .early)=false:=by rw[d.kind];rfl
 have J:=fit.nr _ d.mI;generalize K:s.runT ⟨T,fB⟩ w #[]=L at i;obtain⟨r,es⟩:=L;unfold stepG.apply;simp only[if_true,K];have sub:∀{new:Array Event},∀e∈seen ⟨T,fA⟩ fr'.fn (#[]++new) ++ #[],e∈new:=λe M=>Conc.mem_seen (by simpa using M);have q:∀{c:Ren}{b new:Array Event},fK c b.toList new.toList->fK c (seen ⟨T,fB⟩ fr.fn (#[]++b) ++ #[]).toList (seen ⟨T,fA⟩ fr'.fn (#[]++new) ++ #[]).toList:=λh=>by
  simp only[Array.empty_append,Array.append_empty];rw[d.fn];exact rz fit d.mI h
 rcases i with i|i
 rotate_left
 ·
  have E:∃e∈seen ⟨T,fB⟩ fr.fn es,BQ Bs e:=DK (P:=⟨T,fB⟩) J i
  cases r with
  |ok a w1=>
   simp only[early,bR,if_false];exact dG.Pj E
  |halt h w1=>
   cases h with
   |blocked=>exact .inr (.inr (by simp))
   |waiting=>exact .inr (.inr (by simp))
   |unsupported u=>
    cases u with
    |initOrder g=>
     obtain⟨o,w2,S,e⟩:=fit.early fr (cs++[bot]) none g w1;simp only[e];trivial
    |_=>trivial
   |_=>
    simp only[early,bR,if_false];exact dG.Pj E
 cases r with
 |ok a w1=>
  obtain⟨c,H,I,b,new,B,e1,j,p,N⟩:=i;subst B;rw[e1];simp only[D,early,bR,if_false];have y:=d.mono j.le;have z:=hcs.mono j.le;have A:cI Bs T.globals.size F (codeOk T F Z) ρ w w' c w1 I (seen ⟨T,fA⟩ fr'.fn (#[]++new) ++ #[]):=j.less sub
  cases N with
  |value hv=>exact .inl ⟨c,_,_,_,rfl,A,q p,y.finish hv,⟨_,_,rfl,rfl,z,hb.top (bZ _ _)⟩,rfl,rfl,rfl,rfl,rfl,rfl⟩
  |skip=>exact .inl ⟨c,_,_,_,rfl,A,q p,y.finish .undef,⟨_,_,rfl,rfl,z,hb.top (bZ _ _)⟩,rfl,rfl,rfl,rfl,rfl,rfl⟩
  |@enter f hf a H C=>
   refine .inl ⟨c,_,_,_,rfl,A,q p,?_,⟨fr::cs,fr'::cs',rfl,rfl,.cons y z,hb.push _⟩,rfl,rfl,rfl,rfl,rfl,rfl⟩;have top:∀k k':CallKind,k=.normal->k'=.normal->aQ T F Z fB fA c (Frame.enter ⟨T,fB⟩ f a k) (Frame.enter ⟨T,fA⟩ f H k'):=by
    rintro k k' rfl rfl;exact fe (fit.same f hf) hf C
   refine top _ _ ?_ ?_
   ·have n:=d.todo;generalize fr.todo=l at n ⊢;generalize fr'.todo=O at n ⊢
    cases n with
    |nil=>rfl
    |cons h t=>cases h<;>rfl
   ·have n:=d.todo;generalize fr.todo=l at n ⊢;generalize fr'.todo=O at n ⊢
    cases n with
    |nil=>rfl
    |cons h t=>cases h<;>rfl
  |round hl f hf C assign body Q R=>
   refine .inl ⟨c,_,_,_,rfl,A,q p,?_,⟨fr::cs,fr'::cs',rfl,rfl,.cons y z,hb.push _⟩,rfl,rfl,rfl,rfl,rfl,rfl⟩;exact⟨rfl,(λe=>by cases e),hf,C,.cons (.code _ Q) (.cons .beginRound (.cons (.code _ R) .nil)),.nil,.run,rfl,rfl,.some hl,(λe=>by cases e)⟩
 |halt h w1=>
  cases h with
  |panic v=>
   obtain⟨c,v',I,b,new,B,e1,j,p,hv⟩:=i;subst B;rw[e1];simp only[D,early,bR,if_false];exact .inl ⟨c,_,_,_,rfl,j.less sub,q p,(d.mono j.le).raise (.cons hv .nil),⟨_,_,rfl,rfl,hcs.mono j.le,hb.top (eC _ _)⟩,rfl,rfl,rfl,rfl,rfl,rfl⟩
  |stuck m=>trivial
  |unsupported u=>
   cases u with
   |initOrder g=>exact absurd i (by simp[Mi,dw])
   |_=>trivial
  |_=>exact i.elim
end
end Go.bJ
