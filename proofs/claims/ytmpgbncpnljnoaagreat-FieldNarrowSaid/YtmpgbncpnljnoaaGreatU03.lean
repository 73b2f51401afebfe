/- Part of the proof of FieldNarrow. -/
import Derived.Test.YtmpgbncpnljnoaaGreatU01
set_option linter.all false
open Go renaming Program->aa,Goroutine->ab,TypeId->ac,FuncId->ad,Result->ae,Tables->ag,doReturn->ai,unwind->ao,yielded->ap
open Go.Conc renaming Leavers->aq,runT_crowd_go->ar,woken_quitsD->aw,Deaf_other->aB,mem_ofEvents->aH,seenStep->aI,seen_def->aL,mem_seen->aS
open Nat renaming eq_zero_or_pos->aT,le_refl->a5,lt_or_ge->a6,lt_irrefl->a7,le_trans->a8
open Array renaming getElem?_eq_getElem->a9,getElem?_setIfInBounds_ne->ba,getElem?_map->bb,toList_append->bc,append_assoc->bd,toList_push->bg
open Go.bJ.Ren renaming kW->bi,le_refl->bj
open Go.World renaming frozen?->bm,shape?->bo,farLoad->bp,noCell->bq,farStore->br,cell?->bs,freeze->bt
open Go.Sem renaming runT->bv,store->bx,getObj->bA,setObj->bC
open Go.bJ renaming codeOk->bL
open List renaming foldl_cons->bM
open Go.GStep renaming after->bR,go->bT,ended->b1
open Bool renaming not_false->b2,and_true->b3,false_and->b4,false_eq_true->b5,true_and->b6,not_true->b8,and_eq_true->b9
open Go.stepG renaming apply->ca,oper->cb,exec->cc
open Go.Frame renaming enter->cd,raise->ce,eval->cf
open Go.Program renaming mk->cg
open Go.Item renaming code->ch,endRangeFunc->ci,inRangeFunc->cl
open Go.GoStatus renaming running->co
open Or renaming inl->cp,inr->cq
open Go.Obj renaming cells->ct,loop->cu
open Go.Loc renaming cell->cv,obj->cx,mark->cB
open Go.Halt renaming unsupported->cC,panic->cQ,stuck->c4
open Go.Result renaming halt->c5,ok->c6
open Go.Outcome renaming stuck->c7
open Go.Operand renaming const->c8,tmp->c9
open Go.Value renaming func->da,int->db
open Go.Op renaming build->dd,field->de,binOp->df,call->di,move->dj,indexAddr->dk,load->dl
open Go.BinOp renaming xor->dp,add->dq,lss->dt
open Go.IntKind renaming i64->du
open Go.Code renaming seq->dv,region->dx
namespace Go.bJ
open Go.Conc Go.ConcM
open Go.ConcN (sumTo upd sumTo_upd upd_ne upd_same)
section
variable {P:aa}{Shun:Loc->Prop}
def Dq(Q:Nat->ab->World->Array Event->Prop)(C:Nat) :
 ∀(M:Nat)(gs:Array ab)(a:ab)(w:World)(sl:Option (Nat×Nat))(t:Trace)(q:Nat->Nat)(B:Nat),sumTo gs.size q<=M->gs[0]?=some a->a.status=co->aq P t gs q->Past Shun B t->(∀op∈t,gs.size<=op.g->op.act.touch? = none)->B<=C->
  (∀d,∃a' w' es,stepG P true a (w.at d)=bT a' w' es/\Q d a' w' es/\∀e∈es,EvL Shun C e)->
  ∃(N d:Nat)(l:Array ab)(a':ab)(w':World)(es:Array Event)(o:Option (Nat×Nat))(p:Trace)(D:Nat->Nat),
   runNT P N (crowd gs w sl) t=(.next (crowd l w' o),p)/\l.size=gs.size/\l[0]?=some a'/\stepG P true a (w.at d)=bT a' w' es/\Q d a' w' es/\aq P p l D/\Past Shun C p/\(∀op∈p,l.size<=op.g->op.act.touch? = none):=by
 intro M
 induction M using Nat.strongRecOn with
 |ind M W=>
  intro gs a w sl t q B hM L O r R S T U;have X:∀g∈gs,awake g:=by
   intro g hg;obtain⟨i,hi,rfl⟩:=Array.mem_iff_getElem.1 hg
   rcases aT i with rfl|E
   ·grind[a9,awake_of]
   ·exact awake_of ((r.old i _ E (a9 hi)).status.elim cp λx=>cq (cq x))
  obtain⟨i,g,d,o,hi,hg,V⟩:=crowd_pick (P:=P) (w:=w) (sl:=sl) X ⟨0,a,L,O⟩
  rcases aT i with rfl|E
  ·obtain rfl:g=a:=by grind
   obtain⟨a',w',es,c,Y,Z⟩:=U d;have F:=ar (P:=P) (sl:=o) (i:=0) hi (show stepG P (0==0) g (w.at d)=_ from c);have s:((gs.map (woken P g a' w')).setIfInBounds 0 a').size=gs.size:=by simp
   have v:0<gs.size:=(Array.getElem?_eq_some_iff.1 L).1
   refine⟨1,d,(gs.map (woken P g a' w')).setIfInBounds 0 a',a',w',es,o,t++MemOp.ofEvents 0 g.frame.fn g.frame.place es,q,by simp only[runNT,V,F],s,by simp[v],c,Y,
    ⟨λj x f m=>?_,λj f=>?_⟩,(R.mono T).own Z,λop b=>?_⟩
   ·have bu:0≠j:=by omega
    rw[ba bu,bb]at m;obtain⟨y,hy,rfl⟩:=Option.map_eq_some_iff.1 m;have n:=r.old j y f hy;rw[aw n,aB t (by omega) _ (λop b=>by obtain⟨e,_,rfl⟩:=aH b;rfl)];exact n
   ·rw[aB t (g':=0) (by simp at f;omega) _ (λop b=>by obtain⟨e,_,rfl⟩:=aH b;rfl)];exact r.above j (by simpa using f)
   ·rw[s]
    rcases Array.mem_append.1 b with h|h
    ·exact S op h
    ·obtain⟨e,_,rfl⟩:=aH h;grind
  ·have n:=r.old i g E hi;have Yl:(i==0)=false:=by simp;omega
   have v:i<gs.size:=(Array.getElem?_eq_some_iff.1 hi).1
   cases H:q i with
   |zero=>rw[H]at n;rw[n.1]at hg;cases hg
   |succ k=>
    rw[H]at n
    rcases n with⟨hf,_⟩|⟨_,z,es,hm,Gz,Ym⟩
    ·rw[hf]at hg;cases hg
    have F:=ar (P:=P) (sl:=o) (i:=i) hi (by rw[Yl];exact Gz (w.at d));have s:((gs.map (woken P g z (w.at d))).setIfInBounds i z).size=gs.size:=by simp
    have LO:sumTo gs.size (upd q i k)+(k+1)=sumTo gs.size q+k:=by
     have:=sumTo_upd q k id v;simpa[H]using this
    obtain⟨N,d2,l,I,SY,tJ,Yn,p,D,hr,fR,TK,c,hS,J,K⟩:=W (sumTo gs.size (upd q i k)) (by omega) ((gs.map (woken P g z (w.at d))).setIfInBounds i z) a (w.at d) o (t++MemOp.ofEvents i g.frame.fn g.frame.place es) (upd q i k) B (by rw[s];omega)
     (by
       grind [ba,woken_run]) O
     ⟨λj x f m=>by
       by_cases A:i=j
       ·subst A;rw[Array.getElem?_setIfInBounds_self_of_lt (by simpa using v)]at m;obtain rfl:=Option.some.inj m;rw[upd_same,Deaf_own];exact Ym
       ·rw[ba A,bb]at m;obtain⟨y,hy,rfl⟩:=Option.map_eq_some_iff.1 m;have u:=r.old j y f hy;rw[aw u,upd_ne q k (Ne.symm A),aB t A _ (λop b=>by obtain⟨e,_,rfl⟩:=aH b;rfl)];exact u,λj f=>by
       rw[aB t (g':=i) (by simp at f;omega) _ (λop b=>by obtain⟨e,_,rfl⟩:=aH b;rfl)]
       exact r.above j (by simpa using f)⟩
     (R.mute (by omega) hm) (λop b=>by
      rw[s]
      rcases Array.mem_append.1 b with h|h
      ·exact S op h
      ·obtain⟨e,_,rfl⟩:=aH h;grind) T (λd2=>U d2)
    exact⟨N+1,d2,l,I,SY,tJ,Yn,p,D,by simp only[runNT,V,F];exact hr,fR.trans s,TK,c,hS,J,K⟩
inductive jF(P:aa)(Shun:Loc->Prop)(Q:Nat->ab->World->Prop):Nat->ab->World->Prop
 |done {B:Nat} {g:ab} {w:World}:Q B g w->jF P Shun Q B g w
 |step {B:Nat} {g:ab} {w:World} (B':Nat) (G1:Nat->ab) (W1:Nat->World):g.status=co->B<=B'->(∀d,∃es,stepG P true g (w.at d)=bT (G1 d) (W1 d) es/\∀e∈es,EvL Shun B' e)->(∀d,jF P Shun Q B' (G1 d) (W1 d))->jF P Shun Q B g w
def jF.one{Q:Nat->ab->World->Prop}{B:Nat}{g:ab}{w:World}(a:Nat)(b:g.status=co)(c:B<=a)(h:∀d,∃g' w' es,stepG P true g (w.at d)=bT g' w' es/\(∀e∈es,EvL Shun a e)/\jF P Shun Q a g' w'):jF P Shun Q B g w:=
 .step a (λd=>(h d).choose) (λd=>(h d).choose_spec.choose) b c (λd=>⟨_,(h d).choose_spec.choose_spec.choose_spec.1,(h d).choose_spec.choose_spec.choose_spec.2.1⟩) (λd=>(h d).choose_spec.choose_spec.choose_spec.2.2)
def jF.run{Q:Nat->ab->World->Prop}{B:Nat}{g:ab}{w:World}(h:jF P Shun Q B g w):∀(gs:Array ab)(sl:Option (Nat×Nat))(t:Trace)(q:Nat->Nat),gs[0]?=some g->aq P t gs q->Past Shun B t->(∀op∈t,gs.size<=op.g->op.act.touch? = none)->
 ∃(N i:Nat)(f:Array ab)(j:ab)(w1:World)(k:Option (Nat×Nat))(t1:Trace)(q1:Nat->Nat),runNT P N (crowd gs w sl) t=(.next (crowd f w1 k),t1)/\f.size=gs.size/\f[0]?=some j/\aq P t1 f q1/\Past Shun i t1/\(∀op∈t1,f.size<=op.g->op.act.touch? = none)/\Q i j w1:=by
 induction h with
 |@done B g w s=>exact λgs sl t q l m n o=>⟨0,B,gs,g,w,sl,t,q,rfl,rfl,l,m,n,o,s⟩
 |@step B g w p V W u v hs _ x=>
  intro gs sl t q l m n o
  obtain⟨N,d,y,r,w',es,z,A,C,D,E,F,X,H,I,J,K⟩:=Dq (P:=P) (Shun:=Shun) (λd r w' es=>∀(gs:Array ab)(sl:Option (Nat×Nat))(t:Trace)(q:Nat->Nat),gs[0]?=some r->aq P t gs q->Past Shun p t->(∀op∈t,gs.size<=op.g->op.act.touch? = none)->
   ∃(N i:Nat)(f:Array ab)(j:ab)(w1:World)(k:Option (Nat×Nat))(t1:Trace)(q1:Nat->Nat),runNT P N (crowd gs w' sl) t=(.next (crowd f w1 k),t1)/\f.size=gs.size/\f[0]?=some j/\aq P t1 f q1/\Past Shun i t1/\(∀op∈t1,f.size<=op.g->op.act.touch? = none)/\Q i j w1) p (sumTo gs.size q) gs g w sl t q B (a5 _) l u m n o v (λd=>by
   obtain⟨es,L,M⟩:=hs d
   exact⟨_,_,es,L,λgs sl t q a b c e=>x d gs sl t q a b c e,M⟩)
  obtain⟨O,i,f,j,w1,k,t1,q1,k1,k2,k3,R,S,T,U⟩:=H y z A C F I J K;exact⟨N+O,i,f,j,w1,k,t1,q1,Go.ConcX.runNT_trans D k1,k2.trans E,k3,R,S,T,U⟩
end
end Go.bJ
namespace Go.bJ
inductive Mf:Obj->Obj->Prop
 |cells {c c':Array Value} (t:ac) (fz:Nat×Nat) (h:c.size=c'.size):Mf (ct c t fz) (ct c' t fz)
 |loop (l l':Loop):Mf (cu l) (cu l')
 |ac1 (l:Loop) (o':Obj) (h:∀c t fz,o'≠ct c t fz):Mf (cu l) o'
inductive DH:Obj->Obj->Prop
 |cells (c:Array Value) (t:ac) (fz fz':Nat×Nat):DH (ct c t fz) (ct c t fz')
 |loop (l:Loop):DH (cu l) (cu l)
 |same (o:Obj):DH o o
def DH.trans{a b c:Obj}(h:DH a b)(k:DH b c):DH a c:=by
 cases h with
 |cells=>
  cases k with
  |cells=>exact .cells _ _ _ _
  |same=>exact .cells _ _ _ _
 |loop=>exact k
 |same=>exact k
def Mf.up{o o':Obj}(h:Mf o o'):DH o' o':=by
 cases h with
 |cells t a _=>exact .cells _ _ _ _
 |loop=>exact .loop _
 |ac1=>exact .same _
structure WC(Bs G:Nat)(F:ad->Bool)(K:Code->Bool)(ρ:Ren)(w w':World):Prop where
 pK:G<=w.heap.size
 gN:G<=w'.heap.size
 base:Bs<=w.heap.size
 obj:∀{r r':Nat},ρ r r'->Bs<=r->∃o o',w.heap[r]?=some o/\w'.heap[r']?=some o'/\OR F K ρ o o'
 low:∀{r r':Nat},ρ r r'->r<Bs->∃o o',w.heap[r]?=some o/\w'.heap[r']?=some o'/\Mf o o'
section
variable {Bs G:Nat}{F:ad->Bool}{K:Code->Bool}{ρ σ:Ren}{w w':World}
def WC.lt(h:WC Bs G F K ρ w w'){r a:Nat}(x:ρ r a):r<w.heap.size/\a<w'.heap.size:=by
 rcases a6 r Bs with hb|hb
 ·obtain⟨o,b,c,d,_⟩:=h.low x hb
  grind
 ·obtain⟨o,b,c,d,_⟩:=h.obj x hb
  grind
def WC.fresh(h:WC Bs G F K ρ w w'):(∀b,¬ρ w.heap.size b)/\(∀a,¬ρ a w'.heap.size):=
 ⟨λ_ x=>absurd (h.lt x).1 (a7 _),λ_ x=>absurd (h.lt x).2 (a7 _)⟩
def WC.push(h:WC Bs G F K ρ w w'){o o':Obj}(x:OR F K (ρ.ext w.heap.size w'.heap.size) o o') :
 WC Bs G F K (ρ.ext w.heap.size w'.heap.size) { w with heap:=w.heap.push o } { w' with heap:=w'.heap.push o' }:=by
 have c:∀{d:Type}{a:Array d}{i:Nat}{v u:d},a[i]?=some v->(a.push u)[i]?=some v:=λ{d a i v u}e=>by
  grind
 refine⟨by have:=h.pK;simp;omega,by have:=h.gN;simp;omega,by have:=h.base;simp;omega,λ{r k}b hb=>?_,λ{r k}b hb=>?_⟩
 ·rcases b with b|⟨rfl,rfl⟩
  ·obtain⟨p,l,f,g,j⟩:=h.obj b hb;exact⟨p,l,c f,c g,j.mono (bi _ _ _)⟩
  grind
 ·rcases b with b|⟨rfl,rfl⟩
  ·obtain⟨o,o',f,g,j⟩:=h.low b hb
   grind
  ·have:=h.base;omega
def WC.put(h:WC Bs G F K ρ w w')(d:ρ.bw G){r a:Nat}(b:ρ r a)(hb:Bs<=r){o o':Obj}(x:OR F K ρ o o') :
 WC Bs G F K ρ { w with heap:=w.heap.setIfInBounds r o } { w' with heap:=w'.heap.setIfInBounds a o' }:=by
 obtain⟨m,n⟩:=h.lt b;refine⟨by simpa using h.pK,by simpa using h.gN,by simpa using h.base,λ{s f}hs g=>?_,λ{s f}hs g=>?_⟩
 ·by_cases e:r=s
  ·subst e;obtain rfl:=d.fn b hs
   grind
  ·have i:a≠f:=λy=>e (d.inj b (y▸hs));obtain⟨p,q,j,k,l⟩:=h.obj hs g
   grind
 ·have e:r≠s:=by omega
  have i:a≠f:=λy=>e (d.inj b (y▸hs));obtain⟨c,t,j,k,l⟩:=h.low hs g
  grind
def WC.YO(h:WC Bs G F K ρ w w')(d:ρ.bw G){r a:Nat}(b:ρ r a)(hb:r<Bs){c c':Array Value}{t:ac}{f:Nat×Nat}(x:c.size=c'.size) :
 WC Bs G F K ρ { w with heap:=w.heap.setIfInBounds r (ct c t f) } { w' with heap:=w'.heap.setIfInBounds a (ct c' t f) }:=by
 obtain⟨j,k⟩:=h.lt b;refine⟨by simpa using h.pK,by simpa using h.gN,by simpa using h.base,λ{s g}hs i=>?_,λ{s g}hs i=>?_⟩
 ·have e:r≠s:=by omega
  have l:a≠g:=λy=>e (d.inj b (y▸hs));obtain⟨p,m,n,o,q⟩:=h.obj hs i
  grind
 ·by_cases e:r=s
  ·subst e;obtain rfl:=d.fn b hs;exact⟨_,_,by simp[j],by simp[k],.cells t f x⟩
  ·have l:a≠g:=λy=>e (d.inj b (y▸hs));obtain⟨p,m,n,o,q⟩:=h.low hs i
   grind
structure cI(Bs G:Nat)(F:ad->Bool)(K:Code->Bool)(ρ:Ren)(w w':World)(aJ:Ren)(w1 aP:World)(new:Array Event):Prop where
 le:ρ.le aJ
 inj:aJ.bw G
 wr:WC Bs G F K aJ w1 aP
 tape:w1.tape=aP.tape
 drawn:w1.drawn=aP.drawn
 wH:aP.tape=w'.tape
 XV:aP.os=w'.os
 mK:aP.output=w'.output
 size:w.heap.size<=w1.heap.size
 fV:w'.heap.size<=aP.heap.size
 frame:∀b,b<w'.heap.size->(∀a,¬ρ a b)->aP.heap[b]?=w'.heap[b]?
 N7:∀b,w'.heap.size<=b->b<aP.heap.size->∃a,aJ a b
 only:∀a b,aJ a b->ρ a b\/(w.heap.size<=a/\w'.heap.size<=b)
 ev:∀e∈new,Ls aJ e
 keep:∀a b,ρ a b->a<Bs->∃o o1,w'.heap[b]?=some o/\aP.heap[b]?=some o1/\DH o o1
def cI.refl(f:ρ.bw G)(d:WC Bs G F K ρ w w')(g:w.tape=w'.tape)(hd:w.drawn=w'.drawn):cI Bs G F K ρ w w' ρ w w' #[]:=
 ⟨bj _,f,d,g,hd,rfl,rfl,rfl,a5 _,a5 _,λ_ _ _=>rfl,λ_ i c=>absurd c (Nat.not_lt.2 i),λ_ _ h=>cp h,by simp,λa b h hb=>by
   obtain⟨o,e,_,c,j⟩:=d.low h hb
   exact⟨e,e,c,c,j.up⟩⟩
def cI.trans{ρ g i:Ren}{w w' w1 c w2 j:World}{e1 l:Array Event}(h:cI Bs G F K ρ w w' g w1 c e1)(k:cI Bs G F K g w1 c i w2 j l):cI Bs G F K ρ w w' i w2 j (e1++l):=by
 refine⟨Ren.le_trans h.le k.le,k.inj,k.wr,k.tape,k.drawn,k.wH.trans h.wH,k.XV.trans h.XV,k.mK.trans h.mK,a8 h.size k.size,a8 h.fV k.fV,λb hb m=>?_,λb d f=>?_,λa b x=>?_,λe q=>?_,λa b n hb=>?_⟩
 ·rw[k.frame b (Nat.lt_of_lt_of_le hb h.fV) (λa x=>?_),h.frame b hb m]
  rcases h.only a b x with y|⟨_,y⟩
  ·exact m a y
  ·omega
 ·rcases a6 b c.heap.size with hl|hg
  ·exact(h.N7 b d hl).imp λ_ x=>k.le x
  ·exact k.N7 b hg f
 ·rcases k.only a b x with y|⟨y1,y2⟩
  ·exact h.only a b y
  ·exact cq ⟨a8 h.size y1,a8 h.fV y2⟩
 ·rcases Array.mem_append.1 q with x|x
  ·exact(h.ev e x).mono k.le
  ·exact k.ev e x
 ·obtain⟨o,v,d,f,r⟩:=h.keep a b n hb;obtain⟨z,s,p,t,u⟩:=k.keep a b (h.le n) hb;rw[f]at p;cases p;exact⟨o,s,d,t,r.trans u⟩
def cI.less{a:Ren}{w1 b:World}{es c:Array Event}(h:cI Bs G F K ρ w w' a w1 b es)(k:∀e∈c,e∈es):cI Bs G F K ρ w w' a w1 b c:=
 { h with ev:=λe d=>h.ev e (k e d) }
def BO(b:ρ.bw G)(c:WC Bs G F K ρ w w')(d:w.tape=w'.tape)(hd:w.drawn=w'.drawn){e:Event}(f:Ls ρ e):cI Bs G F K ρ w w' ρ w w' #[e]:=
 { cI.refl b c d hd with ev:=λx a=>by simp at a;rw[a];exact f }
def uv(c:ρ.bw G)(g:WC Bs G F K ρ w w')(j:w.tape=w'.tape)(hd:w.drawn=w'.drawn){r d:Nat}(i:ρ r d)(hb:Bs<=r){o o':Obj}(k:OR F K ρ o o'){new:Array Event}(l:∀e∈new,Ls ρ e) :
 cI Bs G F K ρ w w' ρ { w with heap:=w.heap.setIfInBounds r o } { w' with heap:=w'.heap.setIfInBounds d o' } new:=
 ⟨bj _,c,g.put c i hb k,j,hd,rfl,rfl,rfl,by simp,by simp,λb _ p=>by
   grind,
   λb q f=>by simp at f;omega,λ_ _ h=>cp h,l,λa b h m=>by
    obtain⟨o,o',_,f,n⟩:=g.low h m;have:d≠b:=λe=>by
     have:=c.inj i (e▸h);omega
    exact⟨o',o',f,by grind,n.up⟩⟩
def BP(i:ρ.bw G)(g:WC Bs G F K ρ w w')(m:w.tape=w'.tape)(hd:w.drawn=w'.drawn){r f:Nat}(j:ρ r f)(hb:r<Bs){c c':Array Value}{t:ac}{k fz':Nat×Nat}(d:w'.heap[f]?=some (ct c' t k))(x:c.size=c'.size) :
 cI Bs G F K ρ w w' ρ { w with heap:=w.heap.setIfInBounds r (ct c t fz') } { w' with heap:=w'.heap.setIfInBounds f (ct c' t fz') } #[]:=
 ⟨bj _,i,g.YO i j hb x,m,hd,rfl,rfl,rfl,by simp,by simp,λb _ q=>by
   grind,
   λb s d=>by simp at d;omega,λ_ _ h=>cp h,by simp,λa b h n=>by
    by_cases e:f=b
    ·subst e;exact⟨_,_,d,by simp[(g.lt j).2],.cells c' t k fz'⟩
    ·obtain⟨o,l,_,d,p⟩:=g.low h n
     exact⟨l,l,d,by grind,p.up⟩⟩
def Mg(f:ρ.bw G)(c:WC Bs G F K ρ w w')(g:w.tape=w'.tape)(hd:w.drawn=w'.drawn){o o':Obj}(i:OR F K ρ o o') :
 cI Bs G F K ρ w w' (ρ.ext w.heap.size w'.heap.size) { w with heap:=w.heap.push o } { w' with heap:=w'.heap.push o' } #[]:=
 ⟨bi _ _ _,f.ext c.fresh.1 c.fresh.2 c.pK c.gN,c.push (i.mono (bi _ _ _)),g,hd,rfl,rfl,rfl,by simp,by simp,λb hb _=>by
   grind,
   λb k d=>⟨w.heap.size,cq ⟨rfl,by simp at d;omega⟩⟩,λa b h=>by
    rcases h with h|⟨rfl,rfl⟩
    ·exact cp h
    grind,by simp,λa b h hb=>by
    obtain⟨p,e,_,d,j⟩:=c.low h hb;have l:=bE d
    exact⟨e,e,d,by
     grind,j.up⟩⟩
def pV(b:WC Bs G F K ρ w w'){r a:Nat}(c:ρ r a):(Bs<=r/\∃o o',w.heap[r]?=some o/\w'.heap[a]?=some o'/\OR F K ρ o o')\/(r<Bs/\∃o o',w.heap[r]?=some o/\w'.heap[a]?=some o'/\Mf o o'):=by
 rcases a6 r Bs with hb|hb
 ·exact cq ⟨hb,b.low c hb⟩
 ·exact cp ⟨hb,b.obj c hb⟩
def vi(g:WC Bs G F K ρ w w'){a a':Addr}(b:AR ρ a a'):w.frozen? a=w'.frozen? a':=by
 rcases pV g b.1 with⟨_,o,c,d,e,f⟩|⟨_,o,c,d,e,f⟩
 ·cases f<;>simp[bm,d,e,b.2.1]
 ·cases f with
  |ac1 l c h=>cases c<;>simp_all [bm]
  |_=>simp[bm,d,e,b.2.1]
def GQ(f:WC Bs G F K ρ w w'){r e:Nat}(g:ρ r e):w.shape? r=w'.shape? e:=by
 rcases pV f g with⟨_,o,c,a,b,d⟩|⟨_,o,c,a,b,d⟩
 ·cases d with
  |cells t h hc=>simp[bo,a,b,VA.size hc]
  |_=>simp[bo,a,b]
 ·cases d with
  |cells t h hs=>simp[bo,a,b,hs]
  |loop=>simp[bo,a,b]
  |ac1 l c i=>cases c<;>simp_all [bo]
def BQ(Bs:Nat)(e:Event):Prop:=match e.loc with
 |cv a=>a.block<Bs
 |cx b=>b<Bs
 |_=>False
def oP(e:Event):Prop:=∀g,e.loc≠cB (.extern g)
def Ak(Bs:Nat)(es c:Array Event):Prop:=∃(a:List Event)(e:Event)(b:List Event),c.toList=es.toList++a++e::b/\(∀x∈a,oP x)/\BQ Bs e/\oP e
def Ak.more{es new c:Array Event}(h:Ak Bs (es++new) c)(i:∀x∈new,oP x):Ak Bs es c:=by
 obtain⟨b,e,a,d,j,f,g⟩:=h;refine⟨new.toList++b,e,a,by rw[d];simp,λx k=>?_,f,g⟩
 grind
def Mh{f:Type}{P:aa}(s:Sem f):∀(w:World)(es:Array Event),∃rest:List Event,(s.runT P w es).2.toList=es.toList++rest:=by
 induction s with
 |pure a=>simp_all
 |halt h=>simp_all
 |load m a k b=>
  intro w es;simp only[bv]
  split
  ·obtain⟨r,d⟩:=b _ w (es.push _);exact⟨_::r,by rw[d];simp;rfl⟩
  ·split
   ·obtain⟨r,d⟩:=b _ w _;exact⟨_,by rw[d,bc,List.append_assoc]⟩
   ·exact⟨[],by simp⟩
 |store m a v k b=>
  intro w es
  have key:∀c:Array Event,∃rest:List Event,((match w.cell? a with
   |some _=>if w.frozen? a then(Result.halt (cC (.unsafePointer "a write to bytes that a string shares")) w,es) else k.runT P (w.setCell a v) (es.push ⟨cv a,true,m == .atomic⟩)
   |none=>match w.farStore P a v (m == .atomic) with
    |.ok (w,e)=>k.runT P w (es++e.toArray.map (⟨.cell ·,true,m == .atomic⟩))
    |.error h=>(c5 h w,es)):ae _×Array Event).2.toList=es.toList++rest:=by
   intro _
   split
   ·split
    ·exact⟨[],by simp⟩
    ·obtain⟨r,d⟩:=b (w.setCell a v) (es.push _);exact⟨_::r,by rw[d];simp;rfl⟩
   ·split
    ·rename_i w2 e _;obtain⟨r,d⟩:=b w2 (es++e.toArray.map (⟨.cell ·,true,m == .atomic⟩))
     grind
    ·exact⟨[],by simp⟩
  cases v<;>first|exact key #[]|exact⟨[],by simp[bv]⟩
 |new o k b=>intro w es;simp only[bv];exact b _ _ _
 |shape r k b=>intro w es;simp only[bv];exact b _ _ _
 |freeze a n k b=>intro w es;simp only[bv];exact b _ _
 |frozen a k b=>intro w es;simp only[bv];exact b _ _ _
 |getObj r k b=>
  intro w es;simp only[bv]
  split
  ·exact⟨[],by simp⟩
  ·obtain⟨r,d⟩:=b _ w (es.push _);exact⟨_::r,by rw[d];simp;rfl⟩
  ·exact⟨[],by simp⟩
 |setObj r o k b=>
  intro w es;simp only[bv]
  split
  ·exact⟨[],by simp⟩
  ·obtain⟨r,d⟩:=b _ (es.push _);exact⟨_::r,by rw[d];simp;rfl⟩
  ·exact⟨[],by simp⟩
 |choose q k b=>
  intro w es;simp only[bv]
  split
  ·exact b _ _ _
  ·exact b _ _ _
 |sys c k b=>
  intro w es;simp only[bv];obtain⟨r,d⟩:=b (w.sys c).1 (w.sys c).2 (es.push _);exact⟨_::r,by rw[d];simp;rfl⟩
 |program k b=>intro w es;simp only[bv];exact b _ _ _
 |mark m k b=>
  intro w es;simp only[bv];obtain⟨r,d⟩:=b w (es.push _);exact⟨_::r,by rw[d];simp;rfl⟩
def mW{a:Type}{P:aa}(s:Sem a)(w:World)(es:Array Event){e:Event}(h:BQ Bs e)(b:oP e):Ak Bs es (s.runT P w (es.push e)).2:=by
 obtain⟨r,c⟩:=Mh (P:=P) s w (es.push e);exact⟨[],e,r,by rw[c];simp,by simp,h,b⟩
end
inductive NL(ρ:Ren):Event->Event->Prop
 |cell {a a':Addr} (h:AR ρ a a') (wr:Bool):NL ρ ⟨cv a,wr,false⟩ ⟨cv a',wr,false⟩
 |obj {r r':Nat} (h:ρ r r') (wr:Bool):NL ρ ⟨cx r,wr,false⟩ ⟨cx r',wr,false⟩
 |mark (m:Mark) (h:lE m):NL ρ ⟨cB m,false,true⟩ ⟨cB m,false,true⟩
inductive fK(ρ:Ren):List Event->List Event->Prop
 |nil:fK ρ [] []
 |cons {e e':Event} {l l':List Event} (h:NL ρ e e') (t:fK ρ l l'):fK ρ (e::l) (e'::l')
def NL.mono{ρ b:Ren}(h:ρ.le b){e e':Event}(x:NL ρ e e'):NL b e e':=by
 cases x with
 |cell a w=>exact .cell (a.mono h) w
 |obj a w=>exact .obj (h a) w
 |mark m k=>exact .mark m k
def fK.mono{ρ b:Ren}(h:ρ.le b){l l':List Event}(x:fK ρ l l'):fK b l l':=by
 induction x with
 |nil=>exact .nil
 |cons a _ c=>exact .cons (a.mono h) c
theorem fK.append{ρ:Ren}{l l' m m':List Event}(x:fK ρ l l')(y:fK ρ m m'):fK ρ (l++m) (l'++m'):=by
 induction x with
 |nil=>exact y
 |cons a _ b=>exact .cons a b
def fK.one{ρ:Ren}{e e':Event}(x:NL ρ e e'):fK ρ [e] [e']:=.cons x .nil
def fK.mem{ρ:Ren}{l l':List Event}(x:fK ρ l l'){e':Event}(h:e'∈l'):∃e,e∈l/\NL ρ e e':=by
 induction x with
 |nil=>cases h
 |cons a _ b=>
  grind
def NL.oP{ρ:Ren}{e e':Event}(x:NL ρ e e'):oP e:=by
 cases x with
 |cell a w=>intro g h;cases h
 |obj a w=>intro g h;cases h
 |mark m k=>intro g h;have k:m=.noRoom:=k;subst k;cases h
def fK.oP{ρ:Ren}{l l':List Event}(x:fK ρ l l'):∀e∈l,bJ.oP e:=by
 induction x with
 |nil=>intro e h;cases h
 |cons a _ b=>
  intro e h
  rcases List.mem_cons.1 h with rfl|h
  ·exact a.oP
  ·exact b e h
section
variable (Bs G:Nat)(F:ad->Bool)(K:Code->Bool)
def Mi{f g:Type}(RA:Ren->f->g->Prop)(ρ:Ren)(w w':World)(es h:Array Event)(i:ae g×Array Event):ae f×Array Event->Prop
 |(c6 a w1,e)=>∃c j d b new,e=es++b/\i=(c6 j d,h++new)/\cI Bs G F K ρ w w' c w1 d new/\fK c b.toList new.toList/\RA c a j
 |(c5 (cQ v) w1,e)=>∃c v' d b new,e=es++b/\i=(c5 (cQ v') d,h++new)/\cI Bs G F K ρ w w' c w1 d new/\fK c b.toList new.toList/\VR F c v v'
 |(c5 (c4 _) _,_)=>True
 |(c5 (cC u) _,_)=>dw u=true
 |(c5 _ _,_)=>False
def jo{a b:Type}(RA:Ren->a->b->Prop)(ρ:Ren)(w w':World)(es c:Array Event)(d:ae b×Array Event)(r:ae a×Array Event):Prop:=Mi Bs G F K RA ρ w w' es c d r\/Ak Bs es r.2
end
section
variable {T:ag}{fB fA:Array Func}{Bs G:Nat}{F:ad->Bool}{K:Code->Bool}
def Mi.step{j l:Type}{RA:Ren->j->l->Prop}{ρ b:Ren}{w w' w1 m:World}{es n newL new:Array Event}{o:ae l×Array Event}{r:ae j×Array Event}
 (hs:cI Bs G F K ρ w w' b w1 m new) (p:fK b newL.toList new.toList) (h:Mi Bs G F K RA b w1 m (es++newL) (n++new) o r):Mi Bs G F K RA ρ w w' es n o r:=by
 match r,h with
 |(c6 a w2,q),⟨c,s,d,f,g,e1,e,k,i,t⟩=>exact⟨c,s,d,newL++f,new++g,by rw[e1,bd],by rw[e,bd],hs.trans k,by rw[bc,bc];exact(p.mono k.le).append i,t⟩
 |(c5 (cQ v) w2,q),⟨c,v',d,f,g,e1,e,k,i,hv⟩=>exact⟨c,v',d,newL++f,new++g,by rw[e1,bd],by rw[e,bd],hs.trans k,by rw[bc,bc];exact(p.mono k.le).append i,hv⟩
 |(c5 .blocked _,_),h=>exact h
 |(c5 .waiting _,_),h=>exact h
 |(c5 (.exit _) _,_),h=>exact h
 |(c5 (.fatal _) _,_),h=>exact h
 |(c5 (.throw _) _,_),h=>exact h
 |(c5 .goexit _,_),h=>exact h
 |(c5 (cC _) _,_),h=>exact h
 |(c5 (c4 _) _,_),_=>trivial
def jo.step{b c:Type}{RA:Ren->b->c->Prop}{ρ a:Ren}{w w' w1 d:World}{es e newL new:Array Event}{f:ae c×Array Event}{r:ae b×Array Event}
 (hs:cI Bs G F K ρ w w' a w1 d new) (g:fK a newL.toList new.toList) (h:jo Bs G F K RA a w1 d (es++newL) (e++new) f r):jo Bs G F K RA ρ w w' es e f r:=
 h.imp (Mi.step hs g) λh=>h.more λx i=>g.oP x (Array.mem_toList_iff.2 i)
def jo.quiet{a b:Type}{RA:Ren->a->b->Prop}{ρ c:Ren}{w w' w1 d:World}{es e:Array Event}{f:ae b×Array Event}{r:ae a×Array Event}
 (hs:cI Bs G F K ρ w w' c w1 d #[]) (h:jo Bs G F K RA c w1 d es e f r):jo Bs G F K RA ρ w w' es e f r:=
 jo.step (newL:=#[]) hs .nil (by simpa using h)
def jo.one{b c:Type}{RA:Ren->b->c->Prop}{ρ a:Ren}{w w' w1 d:World}{es f:Array Event}{e e':Event}{g:ae c×Array Event}{r:ae b×Array Event}
 (hs:cI Bs G F K ρ w w' a w1 d #[e']) (i:NL a e e') (h:jo Bs G F K RA a w1 d (es.push e) (f.push e') g r):jo Bs G F K RA ρ w w' es f g r:=
 jo.step (newL:=#[e]) hs (.one i) (by simpa using h)
def Al{ρ:Ren}{w w':World}(l:WC Bs G F K ρ w w'){a a':Addr}(h:AR ρ a a') :
 (w.cell? a=none/\(∃s:String,∀m,w.farLoad ⟨T,fB⟩ a m=.error (c4 s))/\∀v,∃s:String,w.farStore ⟨T,fB⟩ a v false=.error (c4 s))\/
 (Bs<=a.block/\∃v v' c c' t g,w.cell? a=some v/\w'.cell? a'=some v'/\VR F ρ v v'/\a.spot=none/\w.heap[a.block]?=some (ct c t g)/\w'.heap[a'.block]?=some (ct c' t g)/\VA F ρ c c')\/
 (a.block<Bs/\∃v,w.cell? a=some v):=by
 rcases pV l h.1 with⟨hb,o,n,b,i,d⟩|⟨hb,o,n,b,i,d⟩
 ·have f:w.cell? a=none->(∃s:String,∀m,w.farLoad ⟨T,fB⟩ a m=.error (c4 s))/\∀v,∃s:String,w.farStore ⟨T,fB⟩ a v false=.error (c4 s):=by
   intro _;refine⟨?_,λv=>⟨ "store: no such cell",?_⟩⟩
   ·cases d<;>exact⟨ "load: no such cell",λm=>by simp only[bp,b,bq]⟩
   ·have hf:w.farStore ⟨T,fB⟩ a v false=.error (w.noCell a "store: no such cell"):=by
     cases d<;>simp[br,b]
    rw[hf,mM b d]
  cases d with
  |@cells c c' t g hc=>
   by_cases hs:a.spot=none
   ·rcases VA.get? hc a.off with⟨j,k⟩|⟨v,v',j,k,hv⟩
    ·left;have e:w.cell? a=none:=by simp[bs,b,hs,j]
     exact⟨e,f e⟩
    ·right;left;refine⟨hb,v,v',c,c',t,g,by simp[bs,b,hs,j],?_,hv,hs,b,i,hc⟩;have p:a'.spot=none:=by rw[<-h.2.2];exact hs
     simp[bs,i,p,<-h.2.1,k]
   ·left;have e:w.cell? a=none:=by simp[bs,b,Option.isSome_iff_ne_none.2 hs]
    exact⟨e,f e⟩
  |_=>
   left;have e:w.cell? a=none:=by simp[bs,b]
   exact⟨e,f e⟩
 ·cases e:w.cell? a with
  |some v=>grind
  |none=>
   left;refine⟨rfl,⟨ "load: no such cell",λm=>by cases d<;>simp only[bp,b,bq]⟩,λv=>⟨ "store: no such cell",?_⟩⟩;have hf:w.farStore ⟨T,fB⟩ a v false=.error (w.noCell a "store: no such cell"):=by cases d<;>simp[br,b]
   rw[hf];cases d<;>simp only[bq,b]
def bW.runT{b:Type}{s:Sem b}(h:bW T fB s):∀(w:World)(es:Array Event),∃x c,Lr x/\s.runT ⟨T,fB⟩ w es=(c5 x w,c):=by
 induction s with
 |halt x=>exact λw es=>⟨x,es,h,rfl⟩
 |program k a=>exact λw es=>a _ h w es
 |shape r k a=>exact λw es=>a (w.shape? r) (h _) w es
 |frozen r k a=>exact λw es=>a (w.frozen? r) (h _) w es
 |mark m k a=>exact λw es=>a h.2 w _
 |_=>exact h.elim
def bW.GU{a b:Type}{RA:Ren->a->b->Prop}{ρ:Ren}{w w':World}{es d:Array Event}{f:ae b×Array Event}{s:Sem a}(h:bW T fB s):jo Bs G F K RA ρ w w' es d f (s.runT ⟨T,fB⟩ w es):=by
 obtain⟨x,g,c,e⟩:=h.runT w es;rw[e];left
 cases x with
 |stuck _=>trivial
 |unsupported u=>exact c
 |_=>exact c.elim
def av.GU{Z cm:Type}{RA:Ren->Z->cm->Prop}{s:Sem Z}:∀{ρ:Ren}{s':Sem cm}{w w':World}(es j:Array Event),av T fB fA F K RA ρ s s'->ρ.bw T.globals.size->WC Bs T.globals.size F K ρ w w'->w.tape=w'.tape->w.drawn=w'.drawn->
 jo Bs T.globals.size F K RA ρ w w' es j (s'.runT ⟨T,fA⟩ w' j) (s.runT ⟨T,fB⟩ w es):=by
 induction s with
 |pure a=>
  rintro ρ s' w w' es j⟨D,rfl,h⟩f b d hd;exact cp ⟨ρ,D,w',#[],#[],by simp,by simp[bv],cI.refl f b d hd,.nil,h⟩
 |halt h=>
  intro ρ s' w w' es j hs f b d hd;cases h<;>first|exact cp hs|exact cp trivial|(obtain⟨v',rfl,hv⟩:=hs;exact cp ⟨ρ,v',w',#[],#[],by simp,by simp[bv],cI.refl f b d hd,.nil,hv⟩)
 |load m a k x=>
  rintro ρ s' w w' es j⟨m',D,k',rfl,rfl,rfl,B,y⟩f b d hd
  rcases Al (T:=T) (fB:=fB) b B with⟨E,⟨s,L⟩,_⟩|⟨hb,v,v',c,c',t,z,E,L,hv,_⟩|⟨hb,v,E⟩
  ·simp only[bv,E,L];exact cp trivial
  ·simp only[bv,E,L];exact jo.one (e:=⟨cv a,false,false⟩) (e':=⟨cv D,false,false⟩) (BO f b d hd ⟨rfl,_,B.1⟩) (.cell B false) (x v _ _ (y v v' hv) f b d hd)
  ·simp only[bv,E];exact cq (mW (k v) w es (e:=⟨cv a,false,false⟩) hb (λg h=>by cases h))
 |store m a v k x=>
  rintro ρ s' w w' es j⟨m',D,v',k',rfl,rfl,rfl,B,hv,y⟩f b d hd;have key:(∀c,v≠.agg c)->(∀c,v≠.tuple c)->(∀c,v'≠.agg c)->(∀c,v'≠.tuple c)->
   jo Bs T.globals.size F K RA ρ w w' es j ((bx .plain D v' k').runT ⟨T,fA⟩ w' j) ((bx .plain a v k).runT ⟨T,fB⟩ w es):=by
   intro Q R V W;rw[qR _ _ _ _ _ Q R,qR _ _ _ _ _ V W]
   rcases Al (T:=T) (fB:=fB) b B with⟨E,_,L⟩|⟨hb,u,u',c,c',t,z,E,L,hu,hs,h3,h4,hc⟩|⟨hb,u,E⟩
   ·obtain⟨s,hf⟩:=L v;simp only[E,hf];exact cp trivial
   ·have fR:D.spot=none:=by rw[<-B.2.2];exact hs
    rw[E,L];simp only[<-vi b B]
    split
    ·refine cp ?_;show dw (.unsafePointer _)=true;rfl
    ·rw[setCell_eq w a _ h3 hs,setCell_eq w' D _ h4 fR,<-B.2.1];have aF:=uv f b d hd B.1 hb (.cells t z (VA.set hc a.off hv)) (new:=#[⟨cv D,true,false⟩]) (λe S=>by simp at S;subst S;exact⟨rfl,_,B.1⟩);exact jo.one aF (.cell B true) (x _ _ y f aF.wr d hd)
   ·rw[E];by_cases hz:w.frozen? a=true
    ·refine cp ?_;simp only[hz,if_true];show dw (.unsafePointer _)=true;rfl
    ·refine cq ?_;simp only[hz];exact mW k _ es (e:=⟨cv a,true,false⟩) hb (λg h=>by cases h)
  cases hv<;>first|exact cp trivial|exact key (by simp) (by simp) (by simp) (by simp)
 |new o k x=>
  rintro ρ s' w w' es j⟨H,k',rfl,C,y⟩f b d hd;simp only[bv];have hs:=Mg f b d hd C;exact jo.quiet hs (x w.heap.size es j (y _ _ b.fresh.1 b.fresh.2 b.pK b.gN) hs.inj hs.wr d hd)
 |shape r k x=>
  rintro ρ s' w w' es j(⟨M,k',rfl,J,y⟩|h)f b d hd
  ·simp only[bv,<-GQ b J];exact x _ es j (y _) f b d hd
  ·exact bW.GU (s:=.shape r k) h
 |freeze a n k x=>
  rintro ρ s' w w' es j⟨D,k',rfl,B,y⟩f b d hd;simp only[bv];by_cases N:n=0
  ·subst N;have e1:w.freeze a 0=w:=by simp[bt]
   have X:w'.freeze D 0=w':=by simp[bt]
   rw[e1,X];exact x es j y f b d hd
  have idle:∀{w:World}{a:Addr}{o:Obj},w.heap[a.block]?=some o->(∀c t z,o≠ct c t z)->w.freeze a n=w:=by
   intro w a o h bu;unfold bt;rw[if_neg N];obtain⟨heap,_,_,_,_⟩:=w;congr 1;apply Array.ext_getElem?;intro i;rw[Array.getElem?_modify]
   split
   ·rename_i e;subst e;show Option.map _ heap[a.block]?=heap[a.block]?;have h':heap[a.block]?=some o:=h;rw[h'];cases o<;>first|rfl|exact absurd rfl (bu _ _ _)
   ·rfl
  rcases pV b B.1 with⟨hb,o,H,A,I,C⟩|⟨hb,o,H,A,I,C⟩
  ·cases C with
   |@cells c c' t z hc=>
    obtain⟨U,hi⟩:=z;rw[iz w a n N A,iz w' D n N I,<-B.2.1];have hs:=uv f b d hd B.1 hb (.cells t (if U==hi then(a.off,a.off+n) else(min U a.off,max hi (a.off+n))) hc) (new:=#[]) (by simp);exact jo.quiet hs (x es j y f hs.wr d hd)
   |_=>
    rw[idle A (by simp),idle I (by simp)];exact x es j y f b d hd
  ·cases C with
   |cells t z fW=>
    obtain⟨U,hi⟩:=z;rw[iz w a n N A,iz w' D n N I,<-B.2.1];have hs:=BP f b d hd B.1 hb (fz':=if U==hi then(a.off,a.off+n) else(min U a.off,max hi (a.off+n))) I fW;exact jo.quiet hs (x es j y f hs.wr d hd)
   |loop=>
    rw[idle A (by simp),idle I (by simp)];exact x es j y f b d hd
   |ac1 l H N=>
    rw[idle A (by simp),idle I N];exact x es j y f b d hd
 |frozen a k x=>
  rintro ρ s' w w' es j(⟨D,k',rfl,B,y⟩|h)f b d hd
  ·simp only[bv,<-vi b B];exact x _ es j (y _) f b d hd
  ·exact bW.GU (s:=.frozen a k) h
 |getObj r k x=>
  rintro ρ s' w w' es j⟨M,k',rfl,J,y⟩f b d hd;have one:∀{P:aa}{β:Type}{w:World}{r:Nat}{o:Obj}{k:Obj->Sem β}{es:Array Event},w.heap[r]?=some o->(∀c t z,o≠ct c t z)->o.isChan=false->(bA r k).runT P w es=(k o).runT P w (es.push ⟨cx r,false,false⟩):=by
   intro P β w r o k es g Q R;simp only[bv,g];cases o<;>first|rfl|exact absurd rfl (Q _ _ _)|(simp only[R])
  rcases pV b J with⟨hb,o,H,A,I,C⟩|⟨hb,o,H,A,I,C⟩
  rotate_left
  ·cases C with
   |cells=>simp only[bv,A];exact cp trivial
   |loop=>
    rw[one A (by simp) rfl];exact cq (mW _ w es (e:=⟨cx r,false,false⟩) hb (λg h=>by cases h))
   |ac1=>
    rw[one A (by simp) rfl];exact cq (mW _ w es (e:=⟨cx r,false,false⟩) hb (λg h=>by cases h))
  have key:(∀c t z,o≠ct c t z)->(∀c t z,H≠ct c t z)->o.isChan=false->H.isChan=false->
   jo Bs T.globals.size F K RA ρ w w' es j ((bA M k').runT ⟨T,fA⟩ w' j) ((bA r k).runT ⟨T,fB⟩ w es):=by
   intro Q R V W;rw[one A Q V,one I R W];exact jo.one (e:=⟨cx r,false,false⟩) (e':=⟨cx M,false,false⟩) (BO f b d hd ⟨rfl,_,J⟩) (.obj J false) (x o _ _ (y o H C) f b d hd)
  cases C with
  |cells t z hc=>simp only[bv,A];exact cp trivial
  |_=>exact key (by simp) (by simp) rfl rfl
 |setObj r o k x=>
  rintro ρ s' w w' es j⟨M,H,k',rfl,J,⟨C,_⟩,y⟩f b d hd;have uQ:H.isChan=false:=by cases C<;>rfl
  have O:o.isChan=false:=by cases C<;>rfl
  rcases pV b J with⟨hb,p,p',A,I,Y⟩|⟨hb,p,p',A,I,Y⟩
  rotate_left
  ·cases Y with
   |cells=>simp only[bv,A];exact cp trivial
   |loop=>
    simp only[bv,A,O];exact cq (mW _ _ es (e:=⟨cx r,true,false⟩) hb (λg h=>by cases h))
   |ac1=>
    simp only[bv,A,O];exact cq (mW _ _ es (e:=⟨cx r,true,false⟩) hb (λg h=>by cases h))
  have key:(∀c t z,p≠ct c t z)->(∀c t z,p'≠ct c t z)->
   jo Bs T.globals.size F K RA ρ w w' es j ((bC M H k').runT ⟨T,fA⟩ w' j) ((bC r o k).runT ⟨T,fB⟩ w es):=by
   intro Q R;have e1:(bC r o k).runT ⟨T,fB⟩ w es=k.runT ⟨T,fB⟩ { w with heap:=w.heap.setIfInBounds r o } (es.push ⟨cx r,true,false⟩):=by
    simp only[bv,A,O]
   have X:(bC M H k').runT ⟨T,fA⟩ w' j=k'.runT ⟨T,fA⟩ { w' with heap:=w'.heap.setIfInBounds M H } (j.push ⟨cx M,true,false⟩):=by
    simp only[bv,I,uQ]
   rw[e1,X];have hs:=uv f b d hd J hb C (new:=#[⟨cx M,true,false⟩]) (λe S=>by simp at S;subst S;exact⟨rfl,_,J⟩);exact jo.one hs (.obj J true) (x _ _ y f hs.wr d hd)
  cases Y with
  |cells t z hc=>simp only[bv,A];exact cp trivial
  |_=>exact key (by simp) (by simp)
 |choose q k x=>
  rintro ρ s' w w' es j⟨k',rfl,y⟩f b d hd;simp only[bv]
  split
  ·exact x _ es j (y _) f b d hd
  ·rw[<-d,<-hd];have wK:WC Bs T.globals.size F K ρ { w with drawn:=w.drawn+1 } { w' with drawn:=w.drawn+1 }:=⟨b.pK,b.gN,b.base,b.obj,b.low⟩
   have hs:cI Bs T.globals.size F K ρ w w' ρ { w with drawn:=w.drawn+1 } { w' with drawn:=w.drawn+1 } #[]:=
    ⟨bj _,f,wK,d,rfl,rfl,rfl,rfl,a5 _,a5 _,λ_ _ _=>rfl,λ_ E L=>absurd L (Nat.not_lt.2 E),λ_ _ h=>cp h,by simp,(cI.refl f b d hd).keep⟩
   have:=x (q.cut (w.tape w.drawn q)) es j (y _) f wK d rfl;exact jo.quiet hs (by simpa[d]using this)
 |sys c k x=>intro ρ s' w w' es j h;exact h.elim
 |program k x=>
  rintro ρ s' w w' es j(⟨k',rfl,y⟩|CS)f b d hd
  ·simp only[bv];exact x _ es j y f b d hd
  ·exact bW.GU (s:=.program k) CS
 |mark m k x=>
  rintro ρ s' w w' es j(⟨k',rfl,hm,y⟩|h)f b d hd;rotate_left
  ·exact bW.GU (s:=.mark m k) h
  simp only[bv];exact jo.one (e:=⟨cB m,false,true⟩) (e':=⟨cB m,false,true⟩) (BO f b d hd hm) (.mark m hm) (x _ _ y f b d hd)
end
section
variable (T:ag)(fB fA:Array Func)(F:ad->Bool)(Z:ac->Bool)(bot:Frame)(up:List Frame)(Bs:Nat)
structure GC(ρ:Ren)(g g':ab):Prop where
 top:aQ T F Z fB fA ρ g.frame g'.frame
 callers:∃l l',g.callers=l++[bot]/\g'.callers=l'++up/\cj T F Z fB fA ρ l l'/\dn (g.frame::l)
 st:g.status=co
 st':g'.status=co
 dy:g.dying=none
 Bl:g'.dying=none
 of:g.offers=none
 Bm:g'.offers=none
def dG(ρ:Ren)(w w':World):GStep->GStep->Prop
 |bT c w1 es,g=>(∃a d f b,g=bT d f b/\cI Bs T.globals.size F (bL T F Z) ρ w w' a w1 f b/\fK a es.toList b.toList/\GC T fB fA F Z bot up a c d)\/(∃e∈es,BQ Bs e)\/c.status≠co
 |_,_=>True
structure GV(ρ:Ren)(w w':World):Prop where
 inj:ρ.bw T.globals.size
 wr:WC Bs T.globals.size F (bL T F Z) ρ w w'
 tape:w.tape=w'.tape
 drawn:w.drawn=w'.drawn
structure zG:Prop where
 zero:dM T F Z
 fns:si fB fA F
 same:∀f,F f=true->Bi T fB fA F Z f
 noU:F Ya=false
 nr:∀f,F f=true->(fB[f]?).any (·.norace)=false
 early:∀fr cs d g w,∃o w1 es,early ⟨T,fB⟩ fr cs d g w=b1 o w1 es
end
section
variable {T:ag}{fB fA:Array Func}{F:ad->Bool}{Z:ac->Bool}{bot:Frame}{up:List Frame}{Bs:Nat}{ρ σ:Ren}{w w':World}
def cI.wd{a:Ren}{w1 b:World}{es:Array Event}(h:cI Bs T.globals.size F (bL T F Z) ρ w w' a w1 b es):GV T F Z Bs a w1 b:=⟨h.inj,h.wr,h.tape,h.drawn⟩
def GV.refl(h:GV T F Z Bs ρ w w'):cI Bs T.globals.size F (bL T F Z) ρ w w' ρ w w' #[]:=cI.refl h.inj h.wr h.tape h.drawn
def DI{q:ad->Bool}:∀(l:List Event)(k:Array Event),(∀x∈l,oP x)->(l.foldl (aI q) (false,k))=(false,k++l.toArray)
 |[],k,_=>by simp
 |x::l,k,h=>by
  have a:=h x (by simp);have e1:aI q (false,k) x=(false,k.push x):=by
   obtain⟨loc,wr,b⟩:=x
   cases loc with
   |mark m=>
    cases m with
    |extern g=>exact absurd rfl (a g)
    |_=>rfl
   |_=>rfl
  rw[bM,e1,DI l _ λy hy=>h y (by simp[hy])];simp
def DJ{q:ad->Bool}{e:Event}:∀(l:List Event)(b:Bool)(k:Array Event),e∈k->e∈(l.foldl (aI q) (b,k)).2
 |[],_,_,h=>h
 |x::l,b,k,h=>by
  rw[bM];have plain:e∈(if b && !x.sync then k else k.push x):=by
   grind
  have:∃b' k',aI q (b,k) x=(b',k')/\e∈k':=by
   obtain⟨loc,wr,c⟩:=x
   cases loc with
   |mark m=>
    cases m with
    |extern g=>exact⟨_,_,rfl,h⟩
    |_=>exact⟨_,_,rfl,plain⟩
   |_=>exact⟨_,_,rfl,plain⟩
  obtain⟨b',k',e1,a⟩:=this;rw[e1];exact DJ l b' k' a
def DK{P:aa}{fn:ad}(f:(P.funcs[fn]?).any (·.norace)=false){b:Array Event}(h:Ak Bs #[] b):∃e∈seen P fn b,BQ Bs e:=by
 obtain⟨a,e,c,g,i,d,j⟩:=h;refine⟨e,?_,d⟩;rw[aL,f,g];simp only[List.nil_append,List.foldl_append,bM];rw[DI a _ i];apply DJ;obtain⟨loc,wr,k⟩:=e
 cases loc with
 |mark m=>exact d.elim
 |_=>simp[aI]
def dG.Pj{es:Array Event}{s s':GStep}(h:∃e∈es,BQ Bs e):dG T fB fA F Z bot up Bs ρ w w' (bR es s) s':=by
 obtain⟨e,a,b⟩:=h
 cases s with
 |go c w1 d=>exact cq (cp ⟨e,Array.mem_append.2 (cp a),b⟩)
 |_=>trivial
def sF{q:ad->Bool}{i:ad->Bool}:∀{l l':List Event}(b:Bool)(k k':Array Event),fK ρ l l'->fK ρ k.toList k'.toList->fK ρ (l.foldl (aI q) (b,k)).2.toList (l'.foldl (aI i) (b,k')).2.toList
 |[],_,b,k,k',h,c=>by cases h;exact c
 |e::l,_,b,k,k',h,c=>by
  cases h with
  |@cons _ j _ l' g d=>
   simp only[bM];have push:fK ρ (k.push e).toList (k'.push j).toList:=by
    rw[bg,bg];exact c.append (.one g)
   cases g with
   |cell a wr=>cases b<;>simp only[aI,b2,b3,b4,b5,if_false,if_true,b6]<;>exact sF _ _ _ d (by first|exact push|exact c)
   |obj a wr=>cases b<;>simp only[aI,b2,b3,b4,b5,if_false,if_true,b6]<;>exact sF _ _ _ d (by first|exact push|exact c)
   |mark m f=>
    have f:m=.noRoom:=f;subst f;cases b<;>simp only[aI,b8,Bool.and_false,b5,if_false]<;>exact sF _ _ _ d push
def rz(fit:zG T fB fA F Z){f:ad}(hf:F f=true){l l':Array Event}(h:fK ρ l.toList l'.toList):fK ρ (seen ⟨T,fB⟩ f l).toList (seen ⟨T,fA⟩ f l').toList:=by
 rw[aL,aL];obtain⟨fn,c,a,b,_⟩:=(fit.same f hf).ex;have e:((⟨T,fB⟩:aa).funcs[f]?).any (·.norace)=((⟨T,fA⟩:aa).funcs[f]?).any (·.norace):=by
  grind
 rw[e];exact sF _ _ _ h .nil
def dG.comp{b:Ren}{w1 c:World}{new es a:Array Event}{s s':GStep}(f:cI Bs T.globals.size F (bL T F Z) ρ w w' b w1 c new)(h:dG T fB fA F Z bot up Bs b w1 c s s')(g:∀e∈a,e∈new)(i:fK b es.toList a.toList) :
 dG T fB fA F Z bot up Bs ρ w w' (bR es s) (bR a s'):=by
 cases s with
 |go t w2 j=>
  rcases h with⟨d,l,m,n,e,k,o,p⟩|⟨e,q,r⟩|h
  ·subst e;refine cp ⟨d,l,m,a++n,rfl,(f.less g).trans k,?_,p⟩;show fK d (es++j).toList _;rw[bc,bc];exact(i.mono k.le).append o
  ·exact cq (cp ⟨e,Array.mem_append.2 (cq q),r⟩)
  ·exact cq (cq h)
 |_=>trivial
def rA(fit:zG T fB fA F Z)(x:GV T F Z Bs ρ w w'){fr fr':Frame}{cs cs':List Frame}(d:aQ T F Z fB fA ρ fr fr')(hcs:cj T F Z fB fA ρ cs cs')(hb:dn (fr::cs))
 {s s':Sem Next} (hs:av T fB fA F (bL T F Z) (gT F (bL T F Z)) ρ s s') :
 dG T fB fA F Z bot up Bs ρ w w' (ca ⟨T,fB⟩ true fr (cs++[bot]) none s w) (ca ⟨T,fA⟩ true fr' (cs'++up) none s' w'):=by
 have i:=av.GU #[] #[] hs x.inj x.wr x.tape x.drawn;have D:(fr'.kind == .early)=false:=by rw[d.bX];rfl
 have early:(fr.kind == .early)=false:=by rw[d.kind];rfl
 have J:=fit.nr _ d.mI;generalize K:s.runT ⟨T,fB⟩ w #[]=L at i;obtain⟨r,es⟩:=L;unfold ca;simp only[if_true,K];have sub:∀{new:Array Event},∀e∈seen ⟨T,fA⟩ fr'.fn (#[]++new) ++ #[],e∈new:=λe M=>aS (by simpa using M);have q:∀{c:Ren}{b new:Array Event},fK c b.toList new.toList->fK c (seen ⟨T,fB⟩ fr.fn (#[]++b) ++ #[]).toList (seen ⟨T,fA⟩ fr'.fn (#[]++new) ++ #[]).toList:=λh=>by
  simp only[Array.empty_append,Array.append_empty];rw[d.fn];exact rz fit d.mI h
 rcases i with i|i
 rotate_left
 ·
  have E:∃e∈seen ⟨T,fB⟩ fr.fn es,BQ Bs e:=DK (P:=⟨T,fB⟩) J i
  cases r with
  |ok a w1=>
   simp only[early,b5,if_false];exact dG.Pj E
  |halt h w1=>
   cases h with
   |blocked=>exact cq (cq (by simp))
   |waiting=>exact cq (cq (by simp))
   |unsupported u=>
    cases u with
    |initOrder g=>
     obtain⟨o,w2,S,e⟩:=fit.early fr (cs++[bot]) none g w1;simp only[e];trivial
    |_=>trivial
   |_=>
    simp only[early,b5,if_false];exact dG.Pj E
 cases r with
 |ok a w1=>
  obtain⟨c,H,I,b,new,B,e1,j,p,N⟩:=i;subst B;rw[e1];simp only[D,early,b5,if_false];have y:=d.mono j.le;have z:=hcs.mono j.le;have A:cI Bs T.globals.size F (bL T F Z) ρ w w' c w1 I (seen ⟨T,fA⟩ fr'.fn (#[]++new) ++ #[]):=j.less sub
  cases N with
  |value hv=>exact cp ⟨c,_,_,_,rfl,A,q p,y.finish hv,⟨_,_,rfl,rfl,z,hb.top (bZ _ _)⟩,rfl,rfl,rfl,rfl,rfl,rfl⟩
  |skip=>exact cp ⟨c,_,_,_,rfl,A,q p,y.finish .undef,⟨_,_,rfl,rfl,z,hb.top (bZ _ _)⟩,rfl,rfl,rfl,rfl,rfl,rfl⟩
  |@enter f hf a H C=>
   refine cp ⟨c,_,_,_,rfl,A,q p,?_,⟨fr::cs,fr'::cs',rfl,rfl,.cons y z,hb.push _⟩,rfl,rfl,rfl,rfl,rfl,rfl⟩;have top:∀k k':CallKind,k=.normal->k'=.normal->aQ T F Z fB fA c (cd ⟨T,fB⟩ f a k) (cd ⟨T,fA⟩ f H k'):=by
    rintro k k' rfl rfl;exact fe (fit.same f hf) hf C
   refine top _ _ ?_ ?_
   ·have n:=d.todo;generalize fr.todo=l at n ⊢;generalize fr'.todo=O at n ⊢
    cases n with
    |nil=>rfl
    |cons h t=>cases h<;>rfl
   ·have n:=d.todo;generalize fr.todo=l at n ⊢;generalize fr'.todo=O at n ⊢
    cases n with
    |nil=>rfl
    |cons h t=>cases h<;>rfl
  |round hl f hf C assign body Q R=>
   refine cp ⟨c,_,_,_,rfl,A,q p,?_,⟨fr::cs,fr'::cs',rfl,rfl,.cons y z,hb.push _⟩,rfl,rfl,rfl,rfl,rfl,rfl⟩;exact⟨rfl,(λe=>by cases e),hf,C,.cons (.code _ Q) (.cons .beginRound (.cons (.code _ R) .nil)),.nil,.run,rfl,rfl,.some hl,(λe=>by cases e)⟩
 |halt h w1=>
  cases h with
  |panic v=>
   obtain⟨c,v',I,b,new,B,e1,j,p,hv⟩:=i;subst B;rw[e1];simp only[D,early,b5,if_false];exact cp ⟨c,_,_,_,rfl,j.less sub,q p,(d.mono j.le).raise (.cons hv .nil),⟨_,_,rfl,rfl,hcs.mono j.le,hb.top (eC _ _)⟩,rfl,rfl,rfl,rfl,rfl,rfl⟩
  |stuck m=>trivial
  |unsupported u=>
   cases u with
   |initOrder g=>exact absurd i (by simp[Mi,dw])
   |_=>trivial
  |_=>exact i.elim
end
section
variable {T:ag}{fB fA:Array Func}{F:ad->Bool}{Z:ac->Bool}{bot:Frame}{up:List Frame}{Bs:Nat}{mn:Bool}{ρ σ:Ren}{w w':World}
def jJ(a:GV T F Z Bs ρ w w'){fr fr':Frame}{cs cs':List Frame}(b:aQ T F Z fB fA ρ fr fr')(hcs:cj T F Z fB fA ρ cs cs')(hb:dn (fr::cs)) :
 dG T fB fA F Z bot up Bs ρ w w' (bT { frame:=fr,callers:=cs++[bot],status:=co,dying:=none } w) (bT { frame:=fr',callers:=cs'++up,status:=co,dying:=none } w'):=
 cp ⟨ρ,_,_,_,rfl,a.refl,.nil,b,⟨cs,cs',rfl,rfl,hcs,hb⟩,rfl,rfl,rfl,rfl,rfl,rfl⟩
def qI(b:GV T F Z Bs ρ w w'){fr fr':Frame}{cs cs':List Frame}(a:aQ T F Z fB fA ρ fr fr')(hcs:cj T F Z fB fA ρ cs cs')(hb:dn (fr::cs))(c:cs≠[]){v v':Value}(hv:VR F ρ v v') :
 dG T fB fA F Z bot up Bs ρ w w' (ai (cg T fB) true fr (cs++[bot]) none v w) (ai (cg T fA) mn fr' (cs'++up) none v' w'):=by
 cases hcs with
 |nil=>exact absurd rfl c
 |@cons f d l e h t=>
  show(dG T fB fA F Z bot up Bs) ρ w w' (ai (cg T fB) true fr (f::(l++[bot])) none v w) (ai (cg T fA) mn fr' (d::(e++up)) none v' w');simp only[ai,a.kind,a.bX];exact jJ b (h.finish hv) t (hb.pop.top (bZ _ _))
def oQ(fit:zG T fB fA F Z){j k:Type}{RA:Ren->j->k->Prop}(l:GV T F Z Bs ρ w w'){s:Sem j}{s':Sem k}(hs:av T fB fA F (bL T F Z) RA ρ s s'){f:ae j->GStep}{f':ae k->GStep}(fn x:ad)(y:x=fn)(hF:F fn=true)
 (z:∀(b:Ren)(a:j)(a':k)(w1 c:World)(new:Array Event),cI Bs T.globals.size F (bL T F Z) ρ w w' b w1 c new->RA b a a'->dG T fB fA F Z bot up Bs b w1 c (f (c6 a w1)) (f' (c6 a' c)))
 (A:∀(b:Ren)(v v':Value)(w1 c:World)(new:Array Event),cI Bs T.globals.size F (bL T F Z) ρ w w' b w1 c new->VR F b v v'->dG T fB fA F Z bot up Bs b w1 c (f (c5 (cQ v) w1)) (f' (c5 (cQ v') c)))
 (g:∀m w1,∃o w2 es,f (c5 (c4 m) w1)=b1 o w2 es) (B:∀u w1,dw u=true->∃o w2 es,f (c5 (cC u) w1)=b1 o w2 es) :
 dG T fB fA F Z bot up Bs ρ w w' (bR (seen (cg T fB) fn (s.runT (cg T fB) w #[]).2) (f (s.runT (cg T fB) w #[]).1)) (bR (seen (cg T fA) x (s'.runT (cg T fA) w' #[]).2) (f' (s'.runT (cg T fA) w' #[]).1)):=by
 subst y;have d:=av.GU #[] #[] hs l.inj l.wr l.tape l.drawn;generalize s.runT (cg T fB) w #[]=C at d;obtain⟨r,es⟩:=C
 rcases d with d|d
 rotate_left
 ·exact dG.Pj (DK (P:=cg T fB) (fit.nr _ hF) d)
 cases r with
 |ok a w1=>
  obtain⟨b,a',c,i,new,n,e1,g,p,q⟩:=d;subst n;rw[e1];exact dG.comp g (z b a a' w1 c new g q) (λe t=>by simpa using aS t) (rz fit hF (by simpa using p))
 |halt h w1=>
  cases h with
  |panic v=>
   obtain⟨b,v',c,i,new,n,e1,g,p,q⟩:=d;subst n;rw[e1];exact dG.comp g (A b v v' w1 c new g q) (λe t=>by simpa using aS t) (rz fit hF (by simpa using p))
  |stuck m=>
   obtain⟨o,w2,D,e⟩:=g m w1;simp only;rw[e];trivial
  |unsupported u=>
   obtain⟨o,w2,D,e⟩:=B u w1 d;simp only;rw[e];trivial
  |_=>exact d.elim
def GX(fit:zG T fB fA F Z)(d:GV T F Z Bs ρ w w'){fr fr':Frame}{cs cs':List Frame}(b:aQ T F Z fB fA ρ fr fr')(hcs:cj T F Z fB fA ρ cs cs')(hb:dn (fr::cs))(j:Option Code)(h:∀c,j=some c->bL T F Z c=true) :
 dG T fB fA F Z bot up Bs ρ w w' (mR (cg T fB) true fr (cs++[bot]) none w j) (mR (cg T fA) mn fr' (cs'++up) none w' j):=by
 rcases jP b.roundOf with⟨e1,e⟩|⟨l,k,e1,e,hl⟩
 ·rw[iW e1,iW e]
  cases sn j with
  |false=>trivial
  |true=>exact jJ d (b.returning e1) hcs (hb.top rfl)
 ·rw[iX e1,iX e];have i:cs≠[]:=by
   rintro rfl;have:=hb fr rfl;rw[e1]at this;cases this
  exact oQ fit d (oq d.inj hl j h) (f:=λr=>match r with | c6 v w=>ai (cg T fB) true fr (cs++[bot]) none v w | c5 _ w=>b1 (c7 "range over a function: no such loop" (fr.pos (cg T fB))) w)
   (f':=λr=>match r with | c6 v w=>ai (cg T fA) mn fr' (cs'++up) none v w | c5 _ w=>b1 (c7 "range over a function: no such loop" (fr'.pos (cg T fA))) w) fr.fn fr'.fn b.fn b.mI
   (λm a n w1 o new g hv=>qI g.wd (b.mono g.le) (hcs.mono g.le) hb i hv) (λ_ _ _ _ _ _ _ _=>trivial) (λ_ _=>⟨_,_,_,rfl⟩) (λ_ _ _=>⟨_,_,_,rfl⟩)
def Ml(fit:zG T fB fA F Z)(d:GV T F Z Bs ρ w w'){fr fr':Frame}{cs cs':List Frame}(a:aQ T F Z fB fA ρ fr fr')(hcs:cj T F Z fB fA ρ cs cs')(hb:dn (fr::cs)){ops:Array Oper}{i:Nat}{rest:List Nat}{k:List Item}
 (f:fr.todo=.inRegion ops (i::rest)::k) (g:(ops.toList.all λo=>jh T F Z o.op)=true) :
 dG T fB fA F Z bot up Bs ρ w w' (cb (cg T fB) true fr (cs++[bot]) none w) (cb (cg T fA) true fr' (cs'++up) none w'):=by
 unfold cb;rw[a.oper?];have e:fr.oper? = ops[i]?:=by unfold Frame.oper?;rw[f]
 rw[e]
 cases h:ops[i]? with
 |none=>trivial
 |some o=>
  have ok:=Bo g h;simp only;have main:dG T fB fA F Z bot up Bs ρ w w' (ca (cg T fB) true fr (cs++[bot]) none (execOp fr.eval o) w) (ca (cg T fA) true fr' (cs'++up) none (execOp fr'.eval o) w'):=
   rA (bot:=bot) (up:=up) fit d a hcs hb (ug fit.zero fit.fns d.inj (dD a.tmps) o ok (acm fit.noU ok))
  have b:=a.roundOf;generalize e1:fr.roundOf=r at b;generalize l:fr'.roundOf=m at b
  cases b with
  |none=>exact main
  |some hl=>
   cases j:o.op with
   |defer c=>rw[j]at ok;cases ok
   |_=>exact main
def DL(fit:zG T fB fA F Z)(e:GV T F Z Bs ρ w w'){fr fr':Frame}{cs cs':List Frame}(p:aQ T F Z fB fA ρ fr fr')(hcs:cj T F Z fB fA ρ cs cs')(hb:dn (fr::cs))(E:fr.mode≠.run)(g:fr.defers=[]->cs≠[]) :
 dG T fB fA F Z bot up Bs ρ w w' (ao (cg T fB) true fr (cs++[bot]) none w) (ao (cg T fA) mn fr' (cs'++up) none w'):=by
 have hd:=p.defers;obtain⟨fn,tmps,todo,defers,mode,kind,i⟩:=fr;obtain⟨b,j,q,X,L,k,m⟩:=fr';have M:=p;obtain⟨H,u,n,x,o,N,y,I,J,K,z⟩:=p;simp only at H u n x o N y I J K z E g hd;subst H
 cases hd with
 |@cons r Y ds A O t=>
  unfold ao;simp only;exact oQ fit e (jj e.inj O)
   (f:=λr=>match r with
     |c6 calls w=>bT { frame:={ fn:=b,tmps,todo,defers:=calls++ds,mode,kind,roundOf:=i },callers:=cs++[bot],status:=co,dying:=none } w
     |c5 _ w=>b1 (c7 "the deferred calls of a range-over-func loop have been taken" _) w)
   (f':=λr=>match r with
     |c6 calls w=>bT { frame:={ fn:=b,tmps:=j,todo:=q,defers:=calls++A,mode:=L,kind:=k,roundOf:=m },callers:=cs'++up,status:=co,dying:=none } w
     |c5 _ w=>b1 (c7 "the deferred calls of a range-over-func loop have been taken" _) w) b b rfl n
   (λP a Q w1 R new d S=>by
     obtain⟨rfl,rfl⟩:=S
     exact jJ d.wd ⟨rfl,u,n,cU.mono d.le x,o.mono d.le,t.mono d.le,y.mono d.le,I,J,K.mono d.le,z⟩ (hcs.mono d.le) (hb.top rfl))
   (λ_ _ _ _ _ _ _ _=>trivial) (λ_ _=>⟨_,_,_,rfl⟩) (λ_ _ _=>⟨_,_,_,rfl⟩)
 |nil=>
  have g:=g rfl
  cases y with
  |run=>exact absurd rfl E
  |@panicking c B hc=>
   cases hcs with
   |nil=>exact absurd rfl g
   |@cons f C l D h t=>
    show(dG T fB fA F Z bot up Bs) ρ w w' (ao (cg T fB) true _ (f::(l++[bot])) none w) (ao (cg T fA) mn _ (C::(D++up)) none w');have e1:ao (cg T fB) true { fn:=b,tmps:=tmps,todo:=todo,defers:=[],mode:=.panicking c,kind:=kind,roundOf:=i } (f::(l++[bot])) none w=bT { frame:=f.raise c,callers:=l++[bot],status:=co,dying:=none } w:=by
     unfold ao;simp only[iR o (cg T fB) b tmps [] (.panicking c) kind i,b5,if_false]
    have U:ao (cg T fA) mn { fn:=b,tmps:=j,todo:=q,defers:=[],mode:=.panicking B,kind:=k,roundOf:=m } (C::(D++up)) none w'=bT { frame:=C.raise B,callers:=D++up,status:=co,dying:=none } w':=by
     unfold ao;simp only[ot o (cg T fA) b j [] (.panicking B) k m,b5,if_false]
    rw[e1,U];exact jJ e (h.raise hc) t (hb.pop.top (eC _ _))
  |returning=>
   obtain⟨fx,c,V,W,g3,g4⟩:=(u (z rfl)).ex;unfold ao;simp only[V,W]
   exact oQ fit e (mP e.inj fx x) (f:=λr=>match r with
    |c6 v w=>ai (cg T fB) true { fn:=b,tmps,todo,defers:=[],mode:=.returning,kind,roundOf:=i } (cs++[bot]) none v w
    |c5 (c4 s) w=>b1 (c7 s _) w
    |c5 _ w=>b1 (c7 "return: the result variables cannot be read" _) w)
    (f':=λr=>match r with
     |c6 v w=>ai (cg T fA) mn { fn:=b,tmps:=j,todo:=q,defers:=[],mode:=.returning,kind:=k,roundOf:=m } (cs'++up) none v w
     |c5 (c4 s) w=>b1 (c7 s _) w
     |c5 _ w=>b1 (c7 "return: the result variables cannot be read" _) w) b b rfl n
    (λP a Q w1 R new d hv=>qI d.wd (M.mono d.le) (hcs.mono d.le) hb g hv) (λ_ _ _ _ _ _ _ _=>trivial) (λ_ _=>⟨_,_,_,rfl⟩) (λ_ _ _=>⟨_,_,_,rfl⟩)
def vM(c:GV T F Z Bs ρ w w')(q:Question):∃n f w1 d,(choose q).run (cg T fB) w=c6 n w1/\(choose q).run (cg T fA) w'=c6 n d/\cI Bs T.globals.size F (bL T F Z) ρ w w' f w1 d #[]:=by
 have e:∀(P:aa)(w:World),(choose q).run P w=if q.forced then c6 0 w else c6 (q.cut (w.tape w.drawn q)) { w with drawn:=w.drawn+1 }:=λP w=>rfl
 rw[e,e,c.tape,c.drawn]
 cases q.forced with
 |true=>exact⟨0,ρ,w,w',rfl,rfl,c.refl⟩
 |false=>
  have hb:=c.refl;refine⟨_,ρ,_,_,rfl,rfl,?_⟩;exact⟨hb.le,hb.inj,⟨c.wr.pK,c.wr.gN,c.wr.base,c.wr.obj,c.wr.low⟩,rfl,rfl,rfl,rfl,rfl,a5 _,a5 _,λ_ _ _=>rfl,λ_ a b=>absurd b (Nat.not_lt.2 a),λ_ _ h=>cp h,by simp,hb.keep⟩
def dG.Oy{a:Ren}{w1 b:World}{s s':GStep}(c:cI Bs T.globals.size F (bL T F Z) ρ w w' a w1 b #[])(h:dG T fB fA F Z bot up Bs a w1 b s s'):dG T fB fA F Z bot up Bs ρ w w' s s':=by
 cases s with
 |go m w2 n=>
  exact h.imp (fun⟨d,f,g,i,e,k,j,l⟩=>⟨d,f,g,i,e,by simpa using c.trans k,j,l⟩) id
 |_=>trivial
def Mm(fit:zG T fB fA F Z)(p:GV T F Z Bs ρ w w'){fr fr':Frame}{cs cs':List Frame}(g:aQ T F Z fB fA ρ fr fr')(hcs:cj T F Z fB fA ρ cs cs')(hb:dn (fr::cs)) :
 dG T fB fA F Z bot up Bs ρ w w' (cc (cg T fB) true true fr (cs++[bot]) none w) (cc (cg T fA) mn true fr' (cs'++up) none w'):=by
 obtain⟨fn,tmps,todo,defers,mode,kind,x⟩:=fr;obtain⟨q,u,S,y,z,A,B⟩:=fr';have U:cN T F Z ρ todo S:=g.todo;have to:∀{N O:List Item},cN T F Z ρ N O->dG T fB fA F Z bot up Bs ρ w w' (bT { frame:=⟨fn,tmps,N,defers,mode,kind,x⟩,callers:=cs++[bot],status:=co,dying:=none } w) (bT { frame:=⟨q,u,O,y,z,A,B⟩,callers:=cs'++up,status:=co,dying:=none } w'):=
  λh=>jJ p (g.lO h) hcs (hb.top rfl)
 have lv:=λj V=>GX (bot:=bot) (up:=up) (mn:=mn) fit p g hcs hb j V;unfold cc
 cases U with
 |nil=>exact lv none (λc e=>by cases e)
 |@cons i i' k k' h t=>
  cases h with
  |inBlock id=>exact to t
  |inLoop c hc=>exact to (.cons (.code c hc) (.cons (.inLoop c hc) t))
  |inScope c hc=>exact to t
  |inRangeFunc hl=>trivial
  |beginRound=>
   refine rA fit p g hcs hb (vX p.inj ?_)
   rcases jP g.roundOf with⟨C,D⟩|⟨l,E,C,D,hl⟩
   ·simp only at C D;subst C D;exact ak
   ·simp only at C D;subst C D;exact lg p.inj hl
  |@endRangeFunc l E hl=>
   exact oQ fit p (qW p.inj hl)
    (f:=λr=>match r with
      |c6 jump w=>bT { frame:=⟨fn,tmps,(jump.map ch).toList++k,defers,mode,kind,x⟩,callers:=cs++[bot],status:=co,dying:=none } w
      |c5 (cQ v) w=>bT { frame:=ce ⟨fn,tmps,ci l::k,defers,mode,kind,x⟩ [{ v,recovered:=false }],callers:=cs++[bot],status:=co,dying:=none } w
      |c5 _ w=>b1 (c7 "range over a function: no such loop" _) w)
    (f':=λr=>match r with
      |c6 jump w=>bT { frame:=⟨q,u,(jump.map ch).toList++k',y,z,A,B⟩,callers:=cs'++up,status:=co,dying:=none } w
      |c5 (cQ v) w=>bT { frame:=ce ⟨q,u,ci E::k',y,z,A,B⟩ [{ v,recovered:=false }],callers:=cs'++up,status:=co,dying:=none } w
      |c5 _ w=>b1 (c7 "range over a function: no such loop" _) w) fn q g.fn g.mI
    (λH a P w1 J new o K=>by
      obtain⟨rfl,W⟩:=K;refine jJ o.wd ((g.mono o.le).lO (cN.append ?_ (t.mono o.le))) (hcs.mono o.le) (hb.top rfl)
      cases a with
      |none=>exact .nil
      |some c=>exact .cons (.code c (W c rfl)) .nil)
    (λH v v' w1 J new o hv=>jJ o.wd ((g.mono o.le).raise (.cons hv .nil)) (hcs.mono o.le) (hb.top (eC _ _)))
    (λ_ _=>⟨_,_,_,rfl⟩) (λ_ _ _=>⟨_,_,_,rfl⟩)
  |inRegion ops todo X=>
   cases todo with
   |nil=>exact to t
   |cons i Q=>
    simp only;rw[show ap ops u=ap ops tmps from funext λj=>(oo ops g.tmps j).symm]
    cases((ops[i]?).map (Region.wanted · (ap ops tmps))).getD false with
    |true=>exact Ml fit p g hcs hb rfl X
    |false=>exact jJ p (g.finish .undef) hcs (hb.top (bZ _ _))
  |code c hc=>
   cases c with
   |ret=>exact lv (some .ret) (λc e=>by cases e;rfl)
   |skip=>exact to t
   |label _=>exact to t
   |seq a b=>
    simp only[bL,b9]at hc;exact to (.cons (.code a hc.1) (.cons (.code b hc.2) t))
   |cond c a b=>
    simp only[bL,b9]at hc;have hv:=dD g.tmps c hc.1.1;simp only;generalize cf _ c=v at hv ⊢;generalize cf _ c=v' at hv ⊢
    cases hv with
    |bool b'=>
     cases b' with
     |true=>exact to (.cons (.code a hc.1.2) t)
     |false=>exact to (.cons (.code b hc.2) t)
    |_=>trivial
   |block id b=>exact to (.cons (.code b hc) (.cons (.inBlock id) t))
   |loop b=>exact to (.cons (.code b hc) (.cons (.inLoop b hc) t))
   |scope b=>exact to (.cons (.code b hc) (.cons (.inScope b hc) t))
   |exit id=>
    simp only
    rcases xo id t with⟨x1,x2⟩|⟨m,m',x1,x2,L⟩
    ·rw[x1,x2];exact lv (some (.exit id)) (λc e=>by cases e;rfl)
    ·rw[x1,x2];exact to L
   |goto id=>
    simp only
    rcases xq id t with⟨x1,x2⟩|⟨m,m',x1,x2,L⟩
    ·rw[x1,x2];exact lv (some (.goto id)) (λc e=>by cases e;rfl)
    ·rw[x1,x2];exact to L
   |refuse Y=>cases hc
   |rangeFunc f params assign body=>
    simp only[bL,b9]at hc;simp only;have I:=g.fn;simp only at I;subst I;have hs:=mO (T:=T) (fB:=fB) (fA:=fA) (Z:=Z) p.inj q g.mI g.tmps params assign body hc.1.2 hc.2 g.roundOf;exact oQ fit p hs
     (f:=λr=>match r with
       |c6 (l,mark) w=>
        let fr:Frame:=⟨q,tmps,cl l::k,mark++defers,mode,kind,x⟩
        let call:Call:={ callee:=.value f,args:=#[c8 (da (.yield l) #[] #[])],argTypes:=#[] }
        ca (cg T fB) true fr (cs++[bot]) none (do let d<-resolve fr.eval call 0;invoke d.target d.args) w
       |c5 _ w=>b1 (c7 "range over a function: no such loop" _) w)
     (f':=λr=>match r with
       |c6 (l,mark) w=>
        let fr:Frame:=⟨q,u,cl l::k',mark++y,z,A,B⟩
        let call:Call:={ callee:=.value f,args:=#[c8 (da (.yield l) #[] #[])],argTypes:=#[] }
        ca (cg T fA) true fr (cs'++up) none (do let d<-resolve fr.eval call 0;invoke d.target d.args) w
       |c5 _ w=>b1 (c7 "range over a function: no such loop" _) w) q q rfl g.mI
     (λH a P w1 J new o K=>by
       obtain⟨l,mark⟩:=a;obtain⟨E,OA⟩:=P;obtain⟨hl,M⟩:=K;have s:=g.mono o.le;have R:aQ T F Z fB fA H ⟨q,tmps,cl l::k,mark++defers,mode,kind,x⟩ ⟨q,u,cl E::k',OA++y,z,A,B⟩:=
        ⟨s.fn,s.same,s.mI,s.tmps,.cons (.inRangeFunc hl) (t.mono o.le),fS.append M s.defers,s.mode,s.kind,s.bX,s.roundOf,s.ret⟩
       exact rA fit o.wd R (hcs.mono o.le) (hb.top rfl) (jE fit.zero fit.fns o.inj (dD R.tmps f hc.1.1) (by
        have hv:cU F H [da (.yield l) #[] #[]] [da (.yield E) #[] #[]]:=.cons (.func (.yield hl) .nil .nil) .nil
        simpa[cf]using hv)))
     (λ_ _ _ _ _ _ _ _=>trivial) (λ_ _=>⟨_,_,_,rfl⟩) (λ_ _ _=>⟨_,_,_,rfl⟩)
   |region id ops draw=>
    simp only
    cases draw with
    |false=>exact to (.cons (.inRegion ops _ hc) t)
    |true=>
     simp only[b8,b5,if_false];obtain⟨n,H,w1,J,c1,c2,o⟩:=vM (fB:=fB) (fA:=fA) p (.order fn id);have I:=g.fn;simp only at I;subst I;rw[c1,c2];exact dG.Oy o (jJ o.wd ((g.mono o.le).lO (.cons (.inRegion ops _ hc) (t.mono o.le))) (hcs.mono o.le) (hb.top rfl))
def Mn(fit:zG T fB fA F Z)(f:GV T F Z Bs ρ w w'){g g':ab}(hg:GC T fB fA F Z bot up ρ g g')
 (i:g.frame.mode≠.run->g.frame.defers=[]->g.callers≠[bot]):dG T fB fA F Z bot up Bs ρ w w' (stepG (cg T fB) true g w) (stepG (cg T fA) mn g' w'):=by
 obtain⟨b,⟨l,r,hl,j,hcs,hb⟩,st,a,k,m,of,n⟩:=hg;obtain⟨fr,cs,status,dying,offers⟩:=g;obtain⟨c,cs',s,t,u⟩:=g';simp only at st a k m of n hl j hcs b hb i;subst st a k m of n hl j;have d:=Mm (bot:=bot) (up:=up) (mn:=mn) fit f b hcs hb;have o:=λh=>DL (bot:=bot) (up:=up) (mn:=mn) fit f b hcs hb h (λhd e=>by subst e;exact i h hd rfl);obtain⟨fn,tmps,todo,defers,mode,kind,v⟩:=fr;obtain⟨x,y,z,A,p,B,C⟩:=c;have q:qE F ρ mode p:=b.mode;unfold stepG
 cases q with
 |run=>exact d
 |returning=>exact o (by simp)
 |panicking _=>exact o (by simp)
end
end Go.bJ
namespace Go.Proofs
set_option maxRecDepth 100000
def aD(dst:Option Nat)(op:Op)(guard:Option (Nat×Bool)):Oper:={ dst,op,type:=0,pos:= "b",after:=#[],guard }
noncomputable def acd:Array Oper:=#[
 aD (some 3) (dd 77 #[(0,c9 0)]) (none),
 aD (some 4) (de 77 (c9 0) 0) (none),
 aD (some 5) (de 27 (c9 4) 0) (none),
 aD (some 6) (de 27 (c9 4) 1) (none),
 aD (some 7) (de 27 (c9 4) 2) (none),
 aD (some 8) (de 27 (c9 4) 3) (none),
 aD (some 9) (de 27 (c9 4) 4) (none),
 aD (some 10) (de 27 (c9 4) 5) (none),
 aD (some 11) (df dp 3 (c9 5) (c8 (db du 0)) 3) (none),
 aD (some 12) (df dp 3 (c9 6) (c8 (db du 0)) 3) (none),
 aD (some 13) (di { callee:=.builtin .len,args:=#[c9 7],argTypes:=#[22] }) (none),
 aD (some 14) (di { callee:=.builtin .len,args:=#[c9 8],argTypes:=#[23] }) (none),
 aD (some 15) (di { callee:=.builtin .len,args:=#[c9 9],argTypes:=#[24] }) (none),
 aD (some 16) (di { callee:=.builtin .len,args:=#[c9 10],argTypes:=#[25] }) (none),
 aD (some 17) (df .leq 3 (c8 (db du 2)) (c9 15) 3) (none),
 aD (none) (de 3 (c8 (db du 0)) 0) (some (14,false)),
 aD (some 18) (df .leq 3 (c9 15) (c8 (db du 5)) 3) (none),
 aD (none) (de 3 (c8 (db du 0)) 0) (some (16,false)),
 aD (some 19) (df .leq 3 (c9 16) (c8 (db du 3)) 3) (none),
 aD (none) (de 3 (c8 (db du 0)) 0) (some (18,false)),
 aD (some 3) (df .eql 24 (c9 9) (c8 (.slice none 0 0)) 24) (none),
 aD (none) (de 3 (c8 (db du 0)) 0) (some (20,true)),
 aD (some 20) (dj (c8 (db du 0))) (none),
 aD (some 21) (dj (c8 (db du 0))) (none)]
noncomputable def ah4:Array Oper:=#[
 aD (some 23) (dk 24 (c9 9) (c9 20)) (none),
 aD (some 24) (dl 85 (c9 23)) (none),
 aD (some 25) (de 85 (c9 24) 0) (none),
 aD (some 26) (df dq 9 (c9 25) (c8 (.string ByteArray.empty)) 9) (none),
 aD (some 27) (de 85 (c9 24) 1) (none),
 aD (some 28) (de 30 (c9 27) 0) (none),
 aD (some 29) (df dp 3 (c9 28) (c8 (db du 0)) 3) (none),
 aD (some 30) (de 30 (c9 27) 1) (none),
 aD (some 31) (df dp 3 (c9 30) (c8 (db du 0)) 3) (none),
 aD (some 32) (de 85 (c9 24) 2) (none),
 aD (some 33) (de 30 (c9 32) 0) (none),
 aD (some 34) (df dp 3 (c9 33) (c8 (db du 0)) 3) (none),
 aD (some 35) (de 30 (c9 32) 1) (none),
 aD (some 36) (df dp 3 (c9 35) (c8 (db du 0)) 3) (none),
 aD (some 37) (de 85 (c9 24) 5) (none),
 aD (some 38) (de 30 (c9 37) 0) (none),
 aD (some 39) (df dp 3 (c9 38) (c8 (db du 0)) 3) (none),
 aD (some 40) (de 30 (c9 37) 1) (none),
 aD (some 41) (df dp 3 (c9 40) (c8 (db du 0)) 3) (none),
 aD (some 42) (de 85 (c9 24) 6) (none),
 aD (some 43) (de 30 (c9 42) 0) (none),
 aD (some 44) (df dp 3 (c9 43) (c8 (db du 0)) 3) (none),
 aD (some 45) (de 30 (c9 42) 1) (none),
 aD (some 46) (df dp 3 (c9 45) (c8 (db du 0)) 3) (none),
 aD (some 47) (de 85 (c9 24) 3) (none),
 aD (some 48) (df dp 3 (c9 47) (c8 (db du 0)) 3) (none),
 aD (some 49) (de 85 (c9 24) 4) (none),
 aD (some 50) (df dp 3 (c9 49) (c8 (db du 0)) 3) (none),
 aD (some 51) (de 85 (c9 24) 7) (none),
 aD (some 52) (di { callee:=.builtin .len,args:=#[c9 51],argTypes:=#[64] }) (none),
 aD (some 53) (df dq 3 (c9 20) (c8 (db du 1)) 3) (none),
 aD (some 20) (dj (c9 53)) (none)]
noncomputable def ace:Array Oper:=#[
 aD (some 11) (df .eql 25 (c9 10) (c8 (.slice none 0 0)) 25) (none),
 aD (none) (de 3 (c8 (db du 0)) 0) (some (0,true)),
 aD (some 55) (dk 25 (c9 10) (c9 21)) (none),
 aD (some 56) (dl 102 (c9 55)) (none),
 aD (some 57) (de 102 (c9 56) 0) (none),
 aD (some 58) (df dq 9 (c9 57) (c8 (.string ByteArray.empty)) 9) (none),
 aD (some 59) (de 102 (c9 56) 1) (none),
 aD (some 60) (df dp 3 (c9 59) (c8 (db du 0)) 3) (none),
 aD (some 61) (df .leq 3 (c8 (db du 0)) (c9 59) 3) (none),
 aD (none) (de 3 (c8 (db du 0)) 0) (some (8,false)),
 aD (some 62) (df dt 3 (c9 59) (c9 15) 3) (none),
 aD (none) (de 3 (c8 (db du 0)) 0) (some (10,false)),
 aD (some 63) (de 102 (c9 56) 2) (none),
 aD (some 64) (df dp 3 (c9 63) (c8 (db du 0)) 3) (none),
 aD (some 65) (df dq 3 (c9 21) (c8 (db du 1)) 3) (none),
 aD (some 21) (dj (c9 65)) (none)]
noncomputable def alc:Array Oper:=#[aD (some 22) (df dt 3 (c9 20) (c9 15) 3) (none)]
noncomputable def ale:Array Oper:=#[aD (some 54) (df dt 3 (c9 21) (c9 16) 3) (none)]
noncomputable def anR:Array Oper:=#[
 aD (some 66) (.alloc 131) (none),
 aD (some 67) (dj (c8 (db du 0))) (none)]
noncomputable def alg:Array Oper:=#[
 aD (some 68) (df dt 3 (c9 67) (c9 16) 3) (none)]
noncomputable def opsL:Array Oper:=#[
 aD (some 69) (dk 25 (c9 10) (c9 67)) (none),
 aD (some 70) (dl 102 (c9 69)) (none),
 aD (some 71) (de 102 (c9 70) 1) (none),
 aD (some 72) (de 102 (c9 70) 2) (none),
 aD (some 73) (de 102 (c9 70) 2) (none),
 aD (some 74) (dj (c8 (db du 0))) (none)]
noncomputable def ahQ:Array Oper:=#[
 aD (some 75) (df dt 3 (c9 74) (c9 15) 3) (none)]
noncomputable def ag9:Array Oper:=#[
 aD (some 76) (dk 24 (c9 9) (c9 71)) (none),
 aD (some 77) (dl 85 (c9 76)) (none),
 aD (some 78) (de 85 (c9 77) 5) (none),
 aD (some 79) (de 30 (c9 78) 0) (none),
 aD (some 80) (de 30 (c9 78) 1) (none),
 aD (some 81) (de 85 (c9 77) 6) (none),
 aD (some 82) (de 30 (c9 81) 0) (none),
 aD (some 83) (de 30 (c9 81) 1) (none),
 aD (some 84) (df dq 3 (c9 72) (c9 79) 3) (none),
 aD (some 85) (df dq 3 (c9 73) (c9 80) 3) (none),
 aD (some 86) (dd 30 #[(0,c9 72),(1,c9 73)]) (none),
 aD (some 87) (dd 30 #[(0,c9 84),(1,c9 85)]) (none),
 aD (some 88) (dd 53 #[(0,c9 71),(1,c9 86),(2,c9 87)]) (none),
 aD (some 89) (dk 131 (c9 66) (c9 67)) (none),
 aD (some 90) (dk 129 (c9 89) (c9 71)) (none),
 aD (none) (.store 53 (c9 90) (c9 88)) (none),
 aD (some 91) (df dq 3 (c9 84) (c9 82) 3) (none),
 aD (some 92) (df dq 3 (c9 85) (c9 83) 3) (none),
 aD (some 72) (dj (c9 91)) (none),
 aD (some 73) (dj (c9 92)) (none),
 aD (some 93) (df dq 3 (c9 71) (c8 (db du 1)) 3) (none),
 aD (some 94) (df .eql 3 (c9 93) (c9 15) 3) (none),
 aD (some 95) (.pick (c9 94) (c8 (db du 0)) (c9 93)) (none),
 aD (some 71) (dj (c9 95)) (none),
 aD (some 96) (df dq 3 (c9 74) (c8 (db du 1)) 3) (none),
 aD (some 74) (dj (c9 96)) (none)]
noncomputable def alh:Array Oper:=#[
 aD (some 97) (df dq 3 (c9 67) (c8 (db du 1)) 3) (none),
 aD (some 67) (dj (c9 97)) (none)]
noncomputable def anS:Array Oper:=#[
 aD (some 2) (dj (c9 66)) (none)]
noncomputable def abU(n r:Nat)(test:Array Oper)(t:Nat)(body:Code):Code:=.block n (.loop (dv (dx r test false) (dv (.cond (c9 t) .skip (.exit n)) body)))
noncomputable def acg:Code:=dv (dx 5 anR false) (dv (abU 2 6 alg 68 (dv (dx 7 opsL false) (dv (abU 3 8 ahQ 75 (dx 9 ag9 false)) (dx 10 alh false)))) (dv (dx 11 anS false) .ret))
noncomputable def sU:Code:=dv (dx 0 acd false) (dv (abU 0 1 alc 22 (dx 2 ah4 false)) (dv (abU 1 3 ale 54 (dx 4 ace false)) acg))
noncomputable def nS:Func:={ Tryz.f43 with ntmps:=98,body:=some sU }
noncomputable def cY:aa:={ toTables:=Tryz.progTables,funcs:=Tryz.funcs.setIfInBounds 43 nS }
end Go.Proofs
