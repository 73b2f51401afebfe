/- Part of the proof of FieldDelays. -/
import Derived.Conc.Beside
import Derived.Conc.CrowdBase
import Derived.Conc.CrowdTrace
import Derived.Conc.MuSpec
import Derived.Conc.MuStep0
import Derived.Conc.Starve
import Derived.Conc.Strewn
set_option linter.all false
open Go.Conc renaming touchAt->aa,touch_of->ab,noRace_append->ac,QuitsD->ae,woken_quitsD->ag,mem_ofEvents->ao
open Go renaming HappensBefore->ar,Program->aB,Goroutine->aF,mayWake->aI
open Go.Trace renaming g?->aJ
open Nat renaming lt_or_ge->aL,mul_add->aP,mul_one->aS,le_refl->aT,zero_le->a5,lt_wfRel->a6,lt_of_lt_of_le->a7
open Classical renaming byContradiction->a8,axiomOfChoice->a9
open Go.ConcN renaming sumTo_upd->ba,upd_same->bb,upd_ne->bc,upd->bd,le_sumTo->bg,sumTo_le->bi
open Ne renaming symm->bj
open Go.MemAct renaming ofEvent->bm,touch?->bo
open Go.MemOp renaming ofEvents->bp
open Array renaming getElem?_setIfInBounds_ne->bq,getElem?_setIfInBounds_self_of_lt->br
namespace Go.Ph
open Go.Conc Go.ConcN
section
variable (Shun Sh:Loc->Prop)(Own Rd:Nat->Loc->Prop)
structure Fam:Prop where
 own:∀k k' l,Own k l->Own k' l->k=k'
 ownRd:∀k k' l,Own k l->¬Rd k' l
 ownSh:∀k l,Own k l->¬Sh l/\¬Shun l
 rdSh:∀k l,Rd k l->¬Sh l/\¬Shun l
structure TI(c j:Nat)(t:Trace):Prop where
 nr:∀said,¬Race said t
 shun:∀i a,aa t i=some a->Shun a.loc->a.loc.isMemory=true->Knows t 0 i\/a.kind=.atomic
 quiet:Quiet Sh t
 own:∀k,c<=k->k<c+j->∀l,Own k l->Perm t k l
 rd:∀k,c<=k->k<c+j->∀l,Rd k l->PermW t k l
 free:∀l,l.isMemory=true->¬Sh l->¬Shun l->(∀k,c<=k->k<c+j->¬Own k l/\¬Rd k l)->Perm t 0 l
 mine:∀l,l.isMemory=true->¬Sh l->¬Shun l->(∀k,c<=k->k<c+j->¬Own k l)->PermW t 0 l
 elder:∀(i:Nat)(op:MemOp)(a:Touch),t[i]?=some op->op.g≠0->op.g<c->op.act.touch? = some a->a.loc.isMemory=true->Knows t 0 i\/(Shun a.loc/\a.kind=.atomic)
 over:∀i g,t.g? i=some g->g≠0->g<c->t.counts i->∃p,t.g? p=some 0/\ar t i p
 child:∀(i:Nat)(op:MemOp)(a:Touch),t[i]?=some op->c<=op.g->op.act.touch? = some a->a.kind=.plain\/Sh a.loc
 LY:∀(i:Nat)(op:MemOp),t[i]?=some op->c+j<=op.g->op.act.touch? = none
def Ok0(c j:Nat)(op:MemOp):Prop:=
 op.g=0/\∀x,op.act.touch? = some x->x.loc.isMemory=true->(Sh x.loc/\x.kind≠.plain)\/(¬Sh x.loc/\¬Shun x.loc/\(∀k,c<=k->k<c+j->¬Own k x.loc)/\(x.write=true->∀k,c<=k->k<c+j->¬Rd k x.loc))
def OkW(k:Nat)(op:MemOp):Prop:=
 op.g=k/\∀x,op.act.touch? = some x->x.loc.isMemory=true/\((Sh x.loc/\x.kind=.atomic)\/(x.kind=.plain/\(Own k x.loc\/(Rd k x.loc/\x.write=false))))
end
section
variable {Shun Sh:Loc->Prop}{Own Rd:Nat->Loc->Prop}{c j:Nat}{t u:Trace}
def gk{i:Nat}{op:MemOp}(h:(t++u)[i]?=some op):(t[i]?=some op/\i<t.size)\/op∈u:=by
 rcases getElem?_append_cases h with⟨a,b⟩|⟨_,b⟩
 ·exact .inl ⟨b,a⟩
 ·exact .inr b
def sC(h:∀i g,t.g? i=some g->g≠0->g<c->t.counts i->∃p,t.g? p=some 0/\ar t i p)(k:∀op∈u,op.g=0\/c<=op.g\/op.act.touch? = none) :
 ∀i g,(t++u).g? i=some g->g≠0->g<c->(t++u).counts i->∃p,(t++u).g? p=some 0/\ar (t++u) i p:=by
 intro i g hg l m hc;obtain⟨x,n,_⟩:=id hc;obtain⟨op,b,d⟩:=ab n;have a:op.g=g:=by simpa[aJ,b]using hg
 rcases gk b with⟨o,hi⟩|q
 ·obtain⟨p,f,hb⟩:=h i g (by simp[aJ,o,a]) l m ((counts_old hi).1 hc);exact⟨p,by rw[g?_old (lt_of_g? f)];exact f,hb_app u hb⟩
 ·rcases k op q with e|e|e
  ·omega
  ·omega
  ·rw[e]at d;cases d
def pP(h:∀(i:Nat)(op:MemOp)(a:Touch),t[i]?=some op->op.g≠0->op.g<c->op.act.touch? = some a->a.loc.isMemory=true->Knows t 0 i\/(Shun a.loc/\a.kind=.atomic))(f:∀op∈u,op.g=0\/c<=op.g\/op.act.touch? = none) :
 ∀(i:Nat)(op:MemOp)(a:Touch),(t++u)[i]?=some op->op.g≠0->op.g<c->op.act.touch? = some a->a.loc.isMemory=true->Knows (t++u) 0 i\/(Shun a.loc/\a.kind=.atomic):=by
 intro i op a hi d k b l
 rcases gk hi with⟨m,_⟩|n
 ·exact(h i op a m d k b l).imp (·.app u) id
 ·rcases f op n with e|e|e
  ·exact absurd e d
  ·omega
  ·rw[e]at b;cases b
def sD(h:∀i a,aa t i=some a->Shun a.loc->a.loc.isMemory=true->Knows t 0 i\/a.kind=.atomic)(e:∀op∈u,∀x,op.act.touch? = some x->x.loc.isMemory=true->¬Shun x.loc) :
 ∀i a,aa (t++u) i=some a->Shun a.loc->a.loc.isMemory=true->Knows (t++u) 0 i\/a.kind=.atomic:=by
 intro i a f hs b;obtain⟨op,g,d⟩:=ab f
 rcases gk g with⟨k,_⟩|l
 ·exact(h i a (by rw[touchAt_of k];exact d) hs b).imp (·.app u) id
 ·exact absurd hs (e op l a d b)
def TI.app0(A:Fam Shun Sh Own Rd)(y:∀l,Sh l->¬Shun l/\l.isMemory=true)(z:∀k l,(Own k l\/Rd k l)->l.isMemory=true)(h:TI Shun Sh Own Rd c j t)(hc:0<c)(g:∀op∈u,Ok0 Shun Sh Own Rd c j op):TI Shun Sh Own Rd c j (t++u):=by
 refine⟨λsaid=>?_,sD h.shun λop d x r m=>?_,h.quiet.app λop d x r hs=>?_,λk k1 n l hl=>(h.own k k1 n l hl).app λop d b hb e=>?_,λk k1 n l hl=>(h.rd k k1 n l hl).app λop d b hb e C=>?_,
  λl m hs f hl=>(h.free l m hs f hl).app λop d _ _ _=>(g op d).1,λl m hs f hl=>(h.mine l m hs f hl).app λop d _ _ _ _=>(g op d).1,
  pP h.elder λop d=>.inl (g op d).1,sC h.over λop d=>.inl (g op d).1,λi op a hi hg p=>?_,λi op hi hg=>?_⟩
 ·refine ac (h.nr said) (λop d=>(g op d).1) (λi a p op d b hb o=>?_);have m:b.loc.isMemory=true:=by rw[<-o.1];exact o.2.1
  rcases(g op d).2 b hb m with⟨hs,s⟩|⟨hs,f,B,D⟩
  ·exact h.quiet.known hs s (λ_=>rfl) i a p o
  ·cases q:b.write with
   |true=>exact h.free b.loc m hs f (λk k1 n=>⟨B k k1 n,D q k k1 n⟩) i a p o.1
   |false=>exact h.mine b.loc m hs f B i a p o.1 (o.2.2.1.resolve_right (by simp[q]))
 ·rcases(g op d).2 x r m with⟨hs,_⟩|⟨_,f,_⟩
  ·exact(y _ hs).1
  ·exact f
 ·rcases(g op d).2 x r (y _ hs).2 with⟨_,s⟩|⟨f,_⟩
  ·exact⟨s,λ_=>(g op d).1⟩
  ·exact absurd hs f
 ·rcases(g op d).2 b hb (by rw[e];exact z k l (.inl hl)) with⟨hs,_⟩|⟨_,_,f,_⟩
  ·exact absurd (e▸hs) (A.ownSh k l hl).1
  ·exact absurd (e▸hl) (f k k1 n)
 ·rcases(g op d).2 b hb (by rw[e];exact z k l (.inr hl)) with⟨hs,_⟩|⟨_,_,_,f⟩
  ·exact absurd (e▸hs) (A.rdSh k l hl).1
  ·exact absurd (e▸hl) (f C k k1 n)
 ·rcases gk hi with⟨v,_⟩|w
  ·exact h.child i op a v hg p
  ·rw[(g op w).1]at hg;omega
 ·rcases gk hi with⟨v,_⟩|w
  ·exact h.LY i op v hg
  ·rw[(g op w).1]at hg;omega
def TI.appW(A:Fam Shun Sh Own Rd)(J:∀l,Sh l->¬Shun l/\l.isMemory=true)(h:TI Shun Sh Own Rd c j t){k:Nat}(k1:c<=k)(v:k<c+j)(n:∀op∈u,OkW Sh Own Rd k op):TI Shun Sh Own Rd c j (t++u):=by
 have hg:∀op∈u,op.g=k:=λop d=>(n op d).1
 refine⟨λsaid=>?_,sD h.shun λop d x B y=>?_,h.quiet.app λop d x B hs=>?_,λk' p q l hl=>(h.own k' p q l hl).app λop d b hb e=>?_,λk' p q l hl=>(h.rd k' p q l hl).app λop d b hb e w=>?_,
  λl y hs C hl=>(h.free l y hs C hl).app λop d b hb e=>?_,λl y hs C hl=>(h.mine l y hs C hl).app λop d b hb e w=>?_,
  pP h.elder λop d=>.inr (.inl (by rw[hg op d];exact k1)),sC h.over λop d=>.inr (.inl (by rw[hg op d];exact k1)),λi op a hi o r=>?_,λi op hi o=>?_⟩
 ·refine ac (h.nr said) hg (λi a r op d b hb z=>?_);obtain⟨_,D⟩:=(n op d).2 b hb
  rcases D with⟨hs,s⟩|⟨_,f|⟨m,E⟩⟩
  ·exact h.quiet.known hs (by rw[s];simp) (λe=>by rw[s]at e;cases e) i a r z
  ·exact h.own k k1 v b.loc f i a r z.1
  ·exact h.rd k k1 v b.loc m i a r z.1 (z.2.2.1.resolve_right (by simp[E]))
 ·rcases((n op d).2 x B).2 with⟨hs,_⟩|⟨_,f|⟨m,_⟩⟩
  ·exact(J _ hs).1
  ·exact(A.ownSh k _ f).2
  ·exact(A.rdSh k _ m).2
 ·rcases((n op d).2 x B).2 with⟨_,s⟩|⟨_,f|⟨m,_⟩⟩
  ·rw[s];exact⟨by simp,by simp⟩
  ·exact absurd hs (A.ownSh k _ f).1
  ·exact absurd hs (A.rdSh k _ m).1
 ·rcases((n op d).2 b hb).2 with⟨hs,_⟩|⟨_,f|⟨m,_⟩⟩
  ·exact absurd (e▸hs) (A.ownSh k' l hl).1
  ·rw[hg op d];exact A.own k k' l (e▸f) hl
  ·exact absurd (e▸m) (A.ownRd k' k l hl)
 ·rcases((n op d).2 b hb).2 with⟨hs,_⟩|⟨_,f|⟨_,m⟩⟩
  ·exact absurd (e▸hs) (A.rdSh k' l hl).1
  ·exact absurd hl (A.ownRd k k' l (e▸f))
  ·rw[m]at w;cases w
 ·rcases((n op d).2 b hb).2 with⟨F,_⟩|⟨_,f|⟨m,_⟩⟩
  ·exact absurd (e▸F) hs
  ·exact absurd (e▸f) (hl k k1 v).1
  ·exact absurd (e▸m) (hl k k1 v).2
 ·rcases((n op d).2 b hb).2 with⟨F,_⟩|⟨_,f|⟨_,m⟩⟩
  ·exact absurd (e▸F) hs
  ·exact absurd (e▸f) (hl k k1 v)
  ·rw[m]at w;cases w
 ·rcases gk hi with⟨H,_⟩|I
  ·exact h.child i op a H o r
  ·rcases((n op I).2 a r).2 with⟨hs,_⟩|⟨s,_⟩
   ·exact .inr hs
   ·exact .inl s
 ·rcases gk hi with⟨H,_⟩|I
  ·exact h.LY i op H o
  ·rw[hg op I]at o;omega
def TI.appMute(h:TI Shun Sh Own Rd c j t){g:Nat}(hg:∀op∈u,op.g=g)(f:∀op∈u,op.act.touch? = none):TI Shun Sh Own Rd c j (t++u):=by
 have no:∀op∈u,∀b,op.act.touch? = some b->False:=λop d b hb=>by rw[f op d]at hb;cases hb
 refine⟨λsaid=>ac (h.nr said) hg λi a _ op d b hb _=>(no op d b hb).elim,sD h.shun λop d x m _=>(no op d x m).elim,h.quiet.app λop d x m _=>(no op d x m).elim,λk k1 n l hl=>(h.own k k1 n l hl).app λop d b hb _=>(no op d b hb).elim,λk k1 n l hl=>(h.rd k k1 n l hl).app λop d b hb _ _=>(no op d b hb).elim,
  λl o hs p hl=>(h.free l o hs p hl).app λop d b hb _=>(no op d b hb).elim,λl o hs p hl=>(h.mine l o hs p hl).app λop d b hb _ _=>(no op d b hb).elim,
  pP h.elder λop d=>.inr (.inr (f op d)),sC h.over λop d=>.inr (.inr (f op d)),λi op a hi e s=>?_,λi op hi e=>?_⟩
 ·rcases gk hi with⟨q,_⟩|r
  ·exact h.child i op a q e s
  ·exact(no op r a s).elim
 ·rcases gk hi with⟨q,_⟩|r
  ·exact h.LY i op q e
  ·exact f op r
def TI.fork(A:Fam Shun Sh Own Rd)(F:∀k l,(Own k l\/Rd k l)->l.isMemory=true)(h:TI Shun Sh Own Rd c j t){x y:MemOp}(q:x.g=0/\x.act=.go (c+j))(hy:y.g=c+j/\y.act=.start)(H:Deaf t 0=0)(I:Deaf t (c+j)=0):TI Shun Sh Own Rd c (j+1) (t ++ #[x,y]):=by
 have f:∀op∈#[x,y],op.act.touch? = none:=by
  intro op d;simp only[List.mem_toArray,List.mem_cons,List.not_mem_nil,or_false]at d
  rcases d with rfl|rfl
  ·rw[q.2];rfl
  ·rw[hy.2];rfl
 have no:∀op∈#[x,y],∀b,op.act.touch? = some b->False:=λop d b hb=>by rw[f op d]at hb;cases hb
 have n:∀{i:Nat}{a:Touch},aa (t ++ #[x,y]) i=some a->aa t i=some a:=by
  intro i a m;obtain⟨z,J,o⟩:=ab m
  rcases gk J with⟨K,_⟩|r
  ·rw[touchAt_of K];exact o
  ·exact(no z r a o).elim
 refine⟨λsaid=>?_,sD h.shun λop d b hb _=>(no op d b hb).elim,h.quiet.app λop d b hb _=>(no op d b hb).elim,λk k1 s l hl=>?_,λk k1 s l hl=>?_,
  λl v hs w hl=>(h.free l v hs w λk k1 s=>hl k k1 (by omega)).app λop d b hb _=>(no op d b hb).elim,λl v hs w hl=>(h.mine l v hs w λk k1 s=>hl k k1 (by omega)).app λop d b hb _ _=>(no op d b hb).elim,
  pP h.elder λop d=>.inr (.inr (f op d)),sC h.over λop d=>.inr (.inr (f op d)),λi op a hi p m=>?_,λi op hi p=>?_⟩
 ·have e:t ++ #[x,y]=(t ++ #[x]) ++ #[y]:=by apply Array.ext';simp
  rw[e];refine ac (g:=c+j) (ac (g:=0) (h.nr said) (λop d=>by simp at d;rw[d];exact q.1) (λi a _ op d b hb _=>(no op (by simp at d ⊢;exact .inl d) b hb).elim))
   (λop d=>by simp at d;rw[d];exact hy.1) (λi a _ op d b hb _=>(no op (by simp at d ⊢;exact .inr d) b hb).elim)
 ·rcases aL k (c+j) with B|L
  ·exact(h.own k k1 B l hl).app λop d b hb _=>(no op d b hb).elim
  ·obtain rfl:k=c+j:=by omega
   exact λi a m e=>fork_knows q hy H I (h.free l (F _ l (.inl hl)) (A.ownSh _ l hl).1 (A.ownSh _ l hl).2 (λk' _ M=>⟨λC=>by have:=A.own _ _ l C hl;omega,A.ownRd _ _ l hl⟩) i a (n m) e)
 ·rcases aL k (c+j) with B|L
  ·exact(h.rd k k1 B l hl).app λop d b hb _ _=>(no op d b hb).elim
  ·obtain rfl:k=c+j:=by omega
   exact λi a m e N=>fork_knows q hy H I (h.mine l (F _ l (.inr hl)) (A.rdSh _ l hl).1 (A.rdSh _ l hl).2 (λk' _ _ C=>A.ownRd _ _ l C hl) i a (n m) e N)
 ·rcases gk hi with⟨D,_⟩|E
  ·exact h.child i op a D p m
  ·exact(no op E a m).elim
 ·rcases gk hi with⟨D,_⟩|E
  ·exact h.LY i op D (by omega)
  ·exact f op E
def TI.grow{f:Nat->Loc->Prop}(h:TI Shun Sh Own Rd c j t)(m:∀k l,Own k l->f k l)(n:∀k l,f k l->Own k l\/∀i a,aa t i=some a->a.loc≠l):TI Shun Sh f Rd c j t:=
 ⟨h.nr,h.shun,h.quiet,λk k1 b l hl=>(n k l hl).elim (h.own k k1 b l) λd i a o e=>absurd e (d i a o),h.rd,
  λl g hs d hl=>h.free l g hs d λk k1 b=>⟨λx=>(hl k k1 b).1 (m k l x),(hl k k1 b).2⟩,λl g hs d hl=>h.mine l g hs d λk k1 b x=>hl k k1 b (m k l x),h.elder,h.over,h.child,h.LY⟩
def TI.choose{g b:Nat->Loc->Prop}(h:TI Shun Sh Own Rd c j t)(d:∀k l,c<=k->k<c+j->(g k l↔Own k l))(i:∀k l,c<=k->k<c+j->(b k l↔Rd k l)):TI Shun Sh g b c j t:=
 ⟨h.nr,h.shun,h.quiet,λk k1 a l hl=>h.own k k1 a l ((d k l k1 a).1 hl),λk k1 a l hl=>h.rd k k1 a l ((i k l k1 a).1 hl),
  λl e hs f hl=>h.free l e hs f λk k1 a=>⟨λx=>(hl k k1 a).1 ((d k l k1 a).2 x),λx=>(hl k k1 a).2 ((i k l k1 a).2 x)⟩,λl e hs f hl=>h.mine l e hs f λk k1 a x=>hl k k1 a ((d k l k1 a).2 x),h.elder,h.over,h.child,h.LY⟩
def TI.GA{a:Addr}{q B:Nat}(h:TI Shun Sh Own Rd c j t)(rel:∀k,c<=k->k<c+j->(∃i,t.g? i=some k)->∃r,RelBy a t k r/\r<q)(F:NoRelease a t)
 (H:t.act? q=some (.mark (.acquire a))) (hg:t.g? q=some 0) (I:t.heard q) (hd:Deaf t 0=0) (hl:∀op∈t,op.act.low B):Past (λl=>Shun l\/Sh l) B t:=by
 have key:∀i k,c<=k->k<c+j->t.g? i=some k->t.counts i->ar t i q:=by
  intro i k k1 J hi hc;obtain⟨r,n,s⟩:=rel k k1 J ⟨i,hi⟩;have edge:ar t r q:=.single (.inr ⟨.marked s (.inr n.act) H (λk _ _=>F k),n.heard,I⟩);have K:i<=r:=Nat.le_of_not_lt λd=>n.after i d hi hc
  rcases aL i r with d|m
  ·exact .trans (.single (.inl ⟨d,k,hi,n.g⟩)) edge
  ·obtain rfl:i=r:=by omega
   exact edge
 have v:∀{i:Nat}{op:MemOp},t[i]?=some op->t.g? i=some op.g:=λh=>by simp[aJ,h]
 obtain⟨L,w,y⟩:=Option.map_eq_some_iff.1 hg;refine⟨h.nr,λi a A C=>?_,λi g z M hc=>?_,hd,hl⟩
 ·obtain⟨op,b,o⟩:=ab A;by_cases D:op.g=0
  ·have:=knows_own b;rw[D]at this;exact .inl this
  ·rcases aL op.g c with d|m
   ·exact(h.elder i op a b D d o C).imp id λx=>⟨.inl x.1,x.2⟩
   ·rcases aL op.g (c+j) with f|f
    ·by_cases hc:t.counts i
     ·exact .inl ⟨q,L,w,y,.inr (key i op.g m f (v b) hc)⟩
     ·have p:a.kind=.atomic:=a8 λp=>hc ⟨a,A,C,.inl p⟩
      rcases h.child i op a b m o with e|e
      ·rw[p]at e;cases e
      ·exact .inr ⟨.inr e,p⟩
    ·rw[h.LY i op b f]at o;cases o
 ·rcases aL g c with d|m
  ·exact h.over i g z M d hc
  ·rcases aL g (c+j) with f|f
   ·exact⟨q,hg,key i g m f z hc⟩
   ·obtain⟨x,N,_⟩:=hc;obtain⟨op,b,E⟩:=ab N;have:op.g=g:=by simpa[aJ,b]using z
    rw[h.LY i op b (by omega)]at E;cases E
end
end Go.Ph
namespace Go.cD
open Go.ConcN (sumTo upd sumTo_upd upd_ne upd_same sumTo_congr le_sumTo sumTo_le)
inductive Pc where
 |out|l0|r0|c1|r1|c2|r3|s1|r2|a1|u0|uc|ux|us
 deriving DecidableEq,Repr
structure Wd where
 l:Bool:=false
 w:Bool:=false
 s:Bool:=false
 k:Nat:=0
 deriving DecidableEq,Repr
structure Th where
 pc:Pc
 old:Wd:={}
 nw:Wd:={}
 aw:Bool:=false
 sv:Bool:=false
 it:Nat:=0
 ex:Bool:=false
 r:Nat
 deriving DecidableEq,Repr
def qZ(T:Th):Wd:=
 { l:=T.old.l || !T.old.s,w:=T.old.w && !T.aw,s:=T.old.s||(T.sv&&T.old.l),k:=if T.old.l||T.old.s then T.old.k+1 else T.old.k }
def eR(T:Th):Th:={ T with pc:=.c2,nw:=qZ T }
def spin(T:Th):Th:={ T with pc:=if !T.aw && !T.old.w&&T.old.k != 0 then .c1 else .r1 }
inductive Head(T:Th):Th->Prop
 |c2:Head T (eR T)
 |spin:T.old.l=true->T.old.s=false->T.it<4->Head T (spin T)
def bP(r:Nat):Th:=if r<=1 then { pc:=.out,r:=0 } else { pc:=.l0,r:=r-1 }
inductive Mv(w:Wd)(ms:Nat):Th->Th->Wd->Nat->Prop
 |lock (T:Th):T.pc=.l0->w={}->Mv w ms T { pc:=.u0,r:=T.r } { l:=true } ms
 |acJ (T:Th):T.pc=.l0->w≠{}->Mv w ms T { pc:=.r0,r:=T.r } w ms
 |Ws (T H:Th):T.pc=.r0->Head { pc:=.r0,old:=w,r:=T.r } H->Mv w ms T H w ms
 |Wt (T:Th):T.pc=.c1->w=T.old->Mv w ms T { T with pc:=.r1,aw:=true } { w with w:=true } ms
 |Wu (T:Th):T.pc=.c1->w≠T.old->Mv w ms T { T with pc:=.r1 } w ms
 |Wv (T H:Th):T.pc=.r1->Head { T with old:=w,it:=T.it+1 } H->Mv w ms T H w ms
 |take (T:Th):T.pc=.c2->w=T.old->w.l=false->w.s=false->Mv w ms T { pc:=.u0,r:=T.r } T.nw ms
 |queue (T:Th):T.pc=.c2->w=T.old->(w.l=true\/w.s=true)->Mv w ms T { pc:=.s1,sv:=T.sv,r:=T.r } T.nw ms
 |Ww (T:Th):T.pc=.c2->w≠T.old->Mv w ms T { T with pc:=.r3 } w ms
 |Wx (T H:Th):T.pc=.r3->Head { T with old:=w } H->Mv w ms T H w ms
 |woken (T:Th) (b:Bool):T.pc=.s1->(T.sv=true->b=true)->ms≠0->Mv w ms T { pc:=.r2,sv:=b,r:=T.r } w (ms-1)
 |Wz (T H:Th):T.pc=.r2->w.s=false->Head { T with old:=w,aw:=true,it:=0 } H->Mv w ms T H w ms
 |handed (T:Th):T.pc=.r2->w.s=true->Mv w ms T { pc:=.a1,sv:=T.sv,ex:=!T.sv||w.k==1,r:=T.r } w ms
 |acK (T:Th):T.pc=.a1->Mv w ms T { pc:=.u0,r:=T.r } { l:=true,w:=w.w,s:=w.s && !T.ex,k:=w.k-1 } ms
 |free (T:Th):T.pc=.u0->w.s=false->(w.k=0\/w.w=true)->Mv w ms T (bP T.r) { w with l:=false } ms
 |hand (T:Th):T.pc=.u0->w.s=true->Mv w ms T { pc:=.us,r:=T.r } { w with l:=false } ms
 |acL (T:Th):T.pc=.u0->w.s=false->w.k≠0->w.w=false->Mv w ms T { pc:=.uc,old:={ w with l:=false },r:=T.r } { w with l:=false } ms
 |release (T:Th):T.pc=.uc->w=T.old->Mv w ms T { pc:=.us,r:=T.r } { w with k:=w.k-1,w:=true } ms
 |again (T:Th):T.pc=.uc->w≠T.old->Mv w ms T { pc:=.ux,r:=T.r } w ms
 |leave (T:Th):T.pc=.ux->(w.k=0\/w.l=true\/w.w=true\/w.s=true)->Mv w ms T (bP T.r) w ms
 |WA (T:Th):T.pc=.ux->w.k≠0->w.l=false->w.w=false->w.s=false->Mv w ms T { pc:=.uc,old:=w,r:=T.r } w ms
 |post (T:Th):T.pc=.us->Mv w ms T (bP T.r) w (ms+1)
def fh(T:Th):Nat:=if T.pc=.u0 then 1 else 0
def fq(T:Th):Nat:=if T.pc=.s1 then 1 else 0
def fk(T:Th):Nat:=if T.pc=.r2 then 1 else 0
def fa(T:Th):Nat:=if T.pc=.a1 then 1 else 0
def fr(T:Th):Nat:=if T.pc=.us then 1 else 0
def fw(T:Th):Nat:=if T.aw then 1 else 0
def fu(T:Th):Nat:=if T.pc=.uc\/T.pc=.ux then 1 else 0
structure Tok(n:Nat)(T:Th):Prop where
 aw:T.aw=true->T.pc=.r1\/T.pc=.c2\/T.pc=.r3
 sv:T.pc=.r1\/T.pc=.c1\/T.pc=.c2\/T.pc=.r3->T.sv=true->T.aw=true
 c1:T.pc=.c1->T.old.l=true/\T.old.s=false/\T.old.w=false/\T.old.k≠0
 it:T.pc=.c1\/T.pc=.r1->T.it<4
 Yv:T.it<=4
 c2:T.pc=.c2->T.nw=qZ T
 c2w:T.pc=.c2->T.aw=true->T.old.w=true
 uc:T.pc=.uc->T.old.l=false/\T.old.s=false/\T.old.w=false/\T.old.k≠0
 old:T.old.k<=n
 r:T.pc≠.out->1<=T.r
 r0:T.pc=.out->T.r=0
structure St where
 th:Nat->Th
 w:Wd
 ms:Nat
structure Inv(n:Nat)(s:St):Prop where
 tok:∀i,i<n->Tok n (s.th i)
 hold:sumTo n (λi=>fh (s.th i))<=1
 lock:s.w.l=true↔sumTo n (λi=>fh (s.th i))=1
 norm:s.w.s=false->sumTo n (λi=>fw (s.th i))+sumTo n (λi=>fr (s.th i))+s.ms+sumTo n (λi=>fk (s.th i))=(if s.w.w then 1 else 0)/\
  sumTo n (λi=>fa (s.th i))=0/\sumTo n (λi=>fq (s.th i))=s.w.k+sumTo n (λi=>fr (s.th i))+s.ms
 star:s.w.s=true->s.w.w=false/\sumTo n (λi=>fw (s.th i))=0/\
  sumTo n (λi=>fh (s.th i))+sumTo n (λi=>fr (s.th i))+s.ms+sumTo n (λi=>fk (s.th i))+sumTo n (λi=>fa (s.th i))=1/\
  sumTo n (λi=>fq (s.th i))+sumTo n (λi=>fk (s.th i))+sumTo n (λi=>fa (s.th i))=s.w.k
 Yw:s.w.s=false->s.w.w=false->s.w.l=false->s.w.k≠0->1<=sumTo n (λi=>fu (s.th i))
def am(T:Th):Nat:=match T.pc with
 |.out=>0
 |.u0=>2*T.r-1
 |.uc | .ux | .us=>2*(T.r-1)
 |_=>2*T.r
def wt(n:Nat)(w:Wd)(T:Th):Nat:=
 let e:=if T.aw then 0 else 4*n+1
 match T.pc with
 |.out | .s1 | .u0=>0
 |.l0=>8*n+20
 |.r0=>8*n+19
 |.c1=>4*n+1+e+3*(4-T.it)+3
 |.r1=>4*n+1+e+3*(4-T.it)+2
 |.c2=>4*n+1+e+3*(4-T.it)+4+(if T.old=w then 0 else 4)
 |.r3=>4*n+1+e+3*(4-T.it)+5
 |.r2=>4*n+18
 |.a1=>1
 |.us=>12*n+40
 |.uc=>16*n+41+(if T.old=w then 0 else 2)
 |.ux=>16*n+42
def nQ(n:Nat)(s:St):Nat:=sumTo n (λi=>am (s.th i))
def uh(n:Nat)(s:St):Nat:=sumTo n (λi=>wt n s.w (s.th i))+(4*n+19)*s.ms
def oC{f g:Nat->Nat}{c:Nat}:∀{j:Nat},(∀i,i<j->f i<=g i+c)->sumTo j f<=sumTo j g+c*j
 |0,_=>by simp[sumTo]
 |j+1,h=>by
  have:=oC (f:=f) (g:=g) (c:=c) (j:=j) λi hi=>h i (by omega);have:=h j (by omega);simp only[sumTo,aP,aS];omega
def acM(n:Nat)(w w':Wd)(T:Th):wt n w' T<=wt n w T+4:=by
 unfold wt;cases T.pc<;>simp only<;>(repeat' split)<;>omega
section
variable {n:Nat}{s:St}{i:Nat}{T':Th}{w':Wd}{ms':Nat}
structure ahY(n:Nat)(th:Nat->Th)(i:Nat)(T':Th):Prop where
 h:sumTo n (λa=>fh (upd th i T' a))+fh (th i)=sumTo n (λa=>fh (th a))+fh T'
 q:sumTo n (λa=>fq (upd th i T' a))+fq (th i)=sumTo n (λa=>fq (th a))+fq T'
 k:sumTo n (λa=>fk (upd th i T' a))+fk (th i)=sumTo n (λa=>fk (th a))+fk T'
 a:sumTo n (λa=>fa (upd th i T' a))+fa (th i)=sumTo n (λa=>fa (th a))+fa T'
 r:sumTo n (λa=>fr (upd th i T' a))+fr (th i)=sumTo n (λa=>fr (th a))+fr T'
 w:sumTo n (λa=>fw (upd th i T' a))+fw (th i)=sumTo n (λa=>fw (th a))+fw T'
 u:sumTo n (λa=>fu (upd th i T' a))+fu (th i)=sumTo n (λa=>fu (th a))+fu T'
def acN(a:Nat->Th)(T':Th)(hi:i<n):ahY n a i T':=
 ⟨ba a T' fh hi,ba a T' fq hi,ba a T' fk hi,ba a T' fa hi,ba a T' fr hi,ba a T' fw hi,ba a T' fu hi⟩
def OY(n:Nat)(s' s:St):Prop:=nQ n s'<nQ n s\/(nQ n s'=nQ n s/\uh n s'<uh n s)
def pQ(hi:i<n)(h:am T'<am (s.th i)):OY n ⟨upd s.th i T',w',ms'⟩ s:=by
 left;have:=ba s.th T' am hi;unfold nQ;simp only;omega
def fI(hi:i<n)(h:am T'=am (s.th i))(a:wt n s.w T'+(4*n+19)*ms'<wt n s.w (s.th i)+(4*n+19)*s.ms):OY n ⟨upd s.th i T',s.w,ms'⟩ s:=by
 right;have e1:=ba s.th T' am hi;have b:=ba s.th T' (wt n s.w) hi;refine⟨by unfold nQ;simp only;omega,?_⟩;unfold uh;simp only;generalize(4*n+19)*ms'=x at *;generalize(4*n+19)*s.ms=y at *;omega
def uj(hi:i<n)(h:am T'=am (s.th i))(b:wt n w' T'+4*n<wt n w' (s.th i)):OY n ⟨upd s.th i T',w',s.ms⟩ s:=by
 right;have e1:=ba s.th T' am hi;have d:=ba s.th T' (wt n w') hi;have e:=oC (j:=n) (f:=λa=>wt n w' (s.th a)) (g:=λa=>wt n s.w (s.th a)) (c:=4) λi _=>acM n s.w w' (s.th i);refine⟨by unfold nQ;simp only;omega,?_⟩;unfold uh;simp only;omega
def Head.pc{T H:Th}(h:Head T H):H.pc=.c2\/H.pc=.c1\/H.pc=.r1:=by
 cases h with
 |c2=>exact .inl rfl
 |spin _ _ _=>unfold cD.spin;split<;>simp_all
def Head.r{T H:Th}(h:Head T H):H.r=T.r:=by cases h<;>rfl
def Head.aw{T H:Th}(h:Head T H):H.aw=T.aw:=by cases h<;>rfl
def Head.old{T H:Th}(h:Head T H):H.old=T.old:=by cases h<;>rfl
def Head.sv{T H:Th}(h:Head T H):H.sv=T.sv:=by cases h<;>rfl
def Head.it{T H:Th}(h:Head T H):H.it=T.it:=by cases h<;>rfl
def Head.tok{T H:Th}(h:Head T H)(f:1<=T.r)(hs:T.sv=true->T.aw=true)(g:T.it<=4)(j:T.old.k<=n)(l:T.aw=true->T.old.w=true):Tok n H:=by
 have d:=h.pc;refine⟨λx=>?_,λ_ x=>?_,λx=>?_,λx=>?_,by rw[h.it];exact g,λx=>?_,λx y=>?_,λx=>?_,by rw[h.old];exact j,λ_=>by rw[h.r];exact f,λx=>?_⟩
 ·rcases d with e|e|e
  ·exact .inr (.inl e)
  ·cases h with
   |c2=>cases e
   |spin a b c=>
    unfold cD.spin at e x;simp only at e x;rw[x]at e;simp at e
  ·exact .inl e
 ·rw[h.aw];exact hs (by rw[<-h.sv];exact x)
 ·cases h with
  |c2=>cases x
  |spin a b c=>
   unfold cD.spin at x ⊢;simp only at x ⊢
   split at x
   ·rename_i hc;simp only[Bool.and_eq_true,Bool.not_eq_true',bne_iff_ne,ne_eq]at hc;exact⟨a,b,hc.1.2,hc.2⟩
   ·cases x
 ·cases h with
  |c2=>rcases x with x|x<;>cases x
  |spin a b c=>exact c
 ·cases h with
  |c2=>rfl
  |spin a b c=>
   unfold cD.spin at x;simp only at x
   split at x<;>cases x
 ·rw[h.old];exact l (by rw[<-h.aw];exact y)
 ·rcases d with e|e|e<;>rw[e]at x<;>cases x
 ·rcases d with e|e|e<;>rw[e]at x<;>cases x
def Head.counts{T H:Th}(h:Head T H):fh H=0/\fq H=0/\fk H=0/\fa H=0/\fr H=0/\fu H=0/\fw H=fw T:=by
 have a:=h.pc;refine⟨?_,?_,?_,?_,?_,?_,?_⟩
 ·unfold fh;rcases a with e|e|e<;>simp[e]
 ·unfold fq;rcases a with e|e|e<;>simp[e]
 ·unfold fk;rcases a with e|e|e<;>simp[e]
 ·unfold fa;rcases a with e|e|e<;>simp[e]
 ·unfold fr;rcases a with e|e|e<;>simp[e]
 ·unfold fu;rcases a with e|e|e<;>simp[e]
 ·unfold fw;rw[h.aw]
def Head.am{T H:Th}(h:Head T H):am H=2*T.r:=by
 unfold cD.am
 rcases h.pc with e|e|e<;>simp[e,h.r]
def Head.wt{T H:Th}(h:Head T H):wt n T.old H<=4*n+1+(if T.aw then 0 else 4*n+1)+3*(4-T.it)+4:=by
 unfold cD.wt
 rcases h.pc with e|e|e<;>simp[e,h.aw,h.it,h.old]
def lz(r:Nat):fh (bP r)=0/\fq (bP r)=0/\fk (bP r)=0/\fa (bP r)=0/\fr (bP r)=0/\fu (bP r)=0/\fw (bP r)=0:=by
 unfold bP;by_cases h:r<=1<;>simp[h,fh,fq,fk,fa,fr,fu,fw]
def uk(r:Nat):am (bP r)=2*(r-1):=by
 unfold bP;by_cases h:r<=1
 ·rw[if_pos h];show 0=_;omega
 ·rw[if_neg h];rfl
def Ai(r:Nat)(w:Wd):wt n w (bP r)<=8*n+20:=by
 unfold bP wt
 split<;>simp
def dg{T:Th}(b:T.aw=false)(j:T.pc≠.r1)(c:T.pc≠.c1)(a:T.pc≠.c2)(l:T.pc≠.r3)(d:T.pc≠.uc)(e:T.old.k<=n)(f:T.pc≠.out->1<=T.r)(g:T.pc=.out->T.r=0)(h:T.it<=4):Tok n T where
 aw x:=by rw[b]at x;cases x
 sv x:=by rcases x with x|x|x|x<;>contradiction
 c1 x:=absurd x c
 it x:=by rcases x with x|x<;>contradiction
 Yv:=h
 c2 x:=absurd x a
 c2w x:=absurd x a
 uc x:=absurd x d
 old:=e
 r:=f
 r0:=g
def ri(r:Nat):Tok n (bP r):=by
 unfold bP
 split
 ·exact dg rfl (by simp) (by simp) (by simp) (by simp) (by simp) (by simp) (by simp) (by simp) (by simp)
 ·exact dg rfl (by simp) (by simp) (by simp) (by simp) (by simp) (by simp) (by intro _;show 1<=r-1;omega) (by simp) (by simp)
def ew(h:Inv n s)(a:Tok n T'):∀j,j<n->Tok n (upd s.th i T' j):=by
 intro j b;by_cases e:j=i
 ·subst e;rw[bb];exact a
 ·rw[bc _ _ e];exact h.tok j b
def fX(h:Inv n s)(hi:i<n)(g:Tok n T')(c1:fh T'=fh (s.th i))(l:fq T'=fq (s.th i))(c3:fk T'=fk (s.th i))(m:fa T'=fa (s.th i))(o:fr T'=fr (s.th i))(p:fu T'=fu (s.th i))(t:fw T'=fw (s.th i)) :
 Inv n ⟨upd s.th i T',s.w,s.ms⟩:=by
 have S:=acN s.th T' hi;have e1:sumTo n (λa=>fh (upd s.th i T' a))=sumTo n (λa=>fh (s.th a)):=by have:=S.h;omega
 have b:sumTo n (λa=>fq (upd s.th i T' a))=sumTo n (λa=>fq (s.th a)):=by have:=S.q;omega
 have c:sumTo n (λa=>fk (upd s.th i T' a))=sumTo n (λa=>fk (s.th a)):=by have:=S.k;omega
 have d:sumTo n (λa=>fa (upd s.th i T' a))=sumTo n (λa=>fa (s.th a)):=by have:=S.a;omega
 have e:sumTo n (λa=>fr (upd s.th i T' a))=sumTo n (λa=>fr (s.th a)):=by have:=S.r;omega
 have f:sumTo n (λa=>fw (upd s.th i T' a))=sumTo n (λa=>fw (s.th a)):=by have:=S.w;omega
 have j:sumTo n (λa=>fu (upd s.th i T' a))=sumTo n (λa=>fu (s.th a)):=by have:=S.u;omega
 refine⟨ew h g,?_,?_,?_,?_,?_⟩
 ·show sumTo n (λa=>fh (upd s.th i T' a))<=1;rw[e1];exact h.hold
 ·show _↔sumTo n (λa=>fh (upd s.th i T' a))=1;rw[e1];exact h.lock
 ·show _->sumTo n (λa=>fw (upd s.th i T' a))+sumTo n (λa=>fr (upd s.th i T' a))+s.ms+sumTo n (λa=>fk (upd s.th i T' a))=_/\sumTo n (λa=>fa (upd s.th i T' a))=0/\sumTo n (λa=>fq (upd s.th i T' a))=s.w.k+sumTo n (λa=>fr (upd s.th i T' a))+s.ms;rw[b,c,d,e,f];exact h.norm
 ·show _->s.w.w=false/\sumTo n (λa=>fw (upd s.th i T' a))=0/\sumTo n (λa=>fh (upd s.th i T' a))+sumTo n (λa=>fr (upd s.th i T' a))+s.ms+sumTo n (λa=>fk (upd s.th i T' a))+sumTo n (λa=>fa (upd s.th i T' a))=1/\sumTo n (λa=>fq (upd s.th i T' a))+sumTo n (λa=>fk (upd s.th i T' a))+sumTo n (λa=>fa (upd s.th i T' a))=s.w.k;rw[e1,b,c,d,e,f];exact h.star
 ·show _->_->_->_->1<=sumTo n (λa=>fu (upd s.th i T' a));rw[j];exact h.Yw
structure Num(n:Nat)(s:St)(H Q K A R W U:Nat):Prop where
 h:sumTo n (λa=>fh (s.th a))=H
 q:sumTo n (λa=>fq (s.th a))=Q
 k:sumTo n (λa=>fk (s.th a))=K
 a:sumTo n (λa=>fa (s.th a))=A
 r:sumTo n (λa=>fr (s.th a))=R
 w:sumTo n (λa=>fw (s.th a))=W
 u:sumTo n (λa=>fu (s.th a))=U
def inv_of(tok:∀i,i<n->Tok n (s.th i)){H Q K A R W U:Nat}(N:Num n s H Q K A R W U)(a:H<=1)(b:s.w.l=true↔H=1)
 (c:s.w.s=false->W+R+s.ms+K=(if s.w.w then 1 else 0)/\A=0/\Q=s.w.k+R+s.ms)
 (d:s.w.s=true->s.w.w=false/\W=0/\H+R+s.ms+K+A=1/\Q+K+A=s.w.k)
 (e:s.w.s=false->s.w.w=false->s.w.l=false->s.w.k≠0->1<=U):Inv n s:=by
 obtain⟨rfl,rfl,rfl,rfl,rfl,rfl,rfl⟩:=N;exact⟨tok,a,b,c,d,e⟩
def Inv.num(h:Inv n s):∃H Q K A R W U,Num n s H Q K A R W U/\H<=1/\(s.w.l=true↔H=1)/\
 (s.w.s=false->W+R+s.ms+K=(if s.w.w then 1 else 0)/\A=0/\Q=s.w.k+R+s.ms)/\
 (s.w.s=true->s.w.w=false/\W=0/\H+R+s.ms+K+A=1/\Q+K+A=s.w.k)/\
 (s.w.s=false->s.w.w=false->s.w.l=false->s.w.k≠0->1<=U):=
 ⟨_,_,_,_,_,_,_,⟨rfl,rfl,rfl,rfl,rfl,rfl,rfl⟩,h.hold,h.lock,h.norm,h.star,h.Yw⟩
def Num.upd{H Q K A R W U:Nat}(N:Num n s H Q K A R W U)(hi:i<n){T:Th}(b:s.th i=T):fh T<=H/\fq T<=Q/\fk T<=K/\fa T<=A/\fr T<=R/\fw T<=W/\fu T<=U/\
 Num n ⟨bd s.th i T',w',ms'⟩ (H-fh T+fh T') (Q-fq T+fq T') (K-fk T+fk T') (A-fa T+fa T') (R-fr T+fr T') (W-fw T+fw T') (U-fu T+fu T'):=by
 obtain⟨rfl,rfl,rfl,rfl,rfl,rfl,rfl⟩:=N;subst b;have S:=acN s.th T' hi;have c:=bg (f:=λa=>fh (s.th a)) hi;have d:=bg (f:=λa=>fq (s.th a)) hi;have e:=bg (f:=λa=>fk (s.th a)) hi;have g:=bg (f:=λa=>fa (s.th a)) hi;have j:=bg (f:=λa=>fr (s.th a)) hi;have l:=bg (f:=λa=>fw (s.th a)) hi;have m:=bg (f:=λa=>fu (s.th a)) hi;refine⟨c,d,e,g,j,l,m,⟨?_,?_,?_,?_,?_,?_,?_⟩⟩<;>simp only
 ·have:=S.h;omega
 ·have:=S.q;omega
 ·have:=S.k;omega
 ·have:=S.a;omega
 ·have:=S.r;omega
 ·have:=S.w;omega
 ·have:=S.u;omega
structure Safe(T:Th)(w:Wd):Prop where
 u0:T.pc=.u0->w.l=true
 r2:T.pc=.r2->w.s=true->w.l=false/\w.w=false/\w.k≠0
 a1:T.pc=.a1->w.l=false/\w.w=false/\w.s=true/\w.k≠0
 aw:T.aw=true->w.w=true/\w.s=false
 r2n:T.pc=.r2->w.s=false->w.w=true
def Inv.safe(h:Inv n s)(hi:i<n):Safe (s.th i) s.w:=by
 obtain⟨H,Q,K,A,R,W,U,N,m,a,b,c,o⟩:=h.num;obtain⟨p,q,r,t,u,v,x,_⟩:=N.upd (T':=s.th i) (w':=s.w) (ms':=s.ms) hi rfl;refine⟨λe=>?_,λe hs=>?_,λe=>?_,λe=>?_,λe hs=>?_⟩
 ·have:fh (s.th i)=1:=by simp[fh,e]
  exact a.2 (by omega)
 ·have e1:fk (s.th i)=1:=by simp[fk,e]
  obtain⟨d,g,j,k⟩:=c hs;refine⟨?_,d,by omega⟩
  cases hl:s.w.l with
  |false=>rfl
  |true=>have:=a.1 hl;omega
 ·have e1:fa (s.th i)=1:=by simp[fa,e]
  cases hs:s.w.s with
  |false=>have:=(b hs).2.1;omega
  |true=>
   obtain⟨d,g,j,k⟩:=c hs;refine⟨?_,d,rfl,by omega⟩
   cases hl:s.w.l with
   |false=>rfl
   |true=>have:=a.1 hl;omega
 ·have e1:fw (s.th i)=1:=by simp[fw,e]
  cases hs:s.w.s with
  |true=>have:=(c hs).2.1;omega
  |false=>
   refine⟨?_,rfl⟩;have:=(b hs).1
   cases f:s.w.w with
   |true=>rfl
   |false=>simp[f]at this;omega
 ·have e1:fk (s.th i)=1:=by simp[fk,e]
  have:=(b hs).1
  cases f:s.w.w with
  |true=>rfl
  |false=>simp[f]at this;omega
def Inv.small(h:Inv n s):s.w.k<=n:=by
 have b:∀f:Th->Nat,(∀T,f T<=1)->sumTo n (λa=>f (s.th a))<=n:=λf hf=>by
  have:=bi (f:=λa=>f (s.th a)) (c:=1) (j:=n) λi _=>hf _;omega
 cases hs:s.w.s with
 |false=>
  have:=(h.norm hs).2.2;have:=b fq (λT=>by unfold fq;split<;>omega);omega
 |true=>
  have:=(h.star hs).2.2.2;have:=b (λT=>fq T+fk T+fa T) (λT=>by unfold fq fk fa;cases T.pc<;>simp);have e:∀j,sumTo j (λa=>fq (s.th a)+fk (s.th a)+fa (s.th a))=sumTo j (λa=>fq (s.th a))+sumTo j (λa=>fk (s.th a))+sumTo j (λa=>fa (s.th a)):=by
   intro j
   induction j with
   |zero=>rfl
   |succ j d=>simp only[sumTo,d];omega
  rw[e]at this;omega
end
section
variable {n:Nat}{s:St}{i:Nat}{T T':Th}{w':Wd}{ms':Nat}
def Inv.move(h:Inv n s)(hi:i<n)(c:s.th i=T)(m:Mv s.w s.ms T T' w' ms'):Inv n ⟨upd s.th i T',w',ms'⟩/\OY n ⟨upd s.th i T',w',ms'⟩ s:=by
 have d:Tok n T:=c▸h.tok i hi;have Z:Safe T s.w:=c▸h.safe hi;have small:=h.small
 cases m with
 |lock a E=>
  have f:=d.r (by rw[a];simp)
  have g:T.aw=false:=by cases e:T.aw with|false=>rfl|true=>rcases d.aw e with x|x|x<;>rw[a]at x<;>cases x
  refine⟨?_,pQ hi (by rw[c];simp only[am,a];omega)⟩;obtain⟨H,Q,K,A,R,W,U,N,D,p,B,C,F⟩:=h.num;obtain⟨y,t,q,u,v,j,z,N'⟩:=N.upd (T':={ pc:=.u0,r:=T.r }) (w':={ l:=true }) (ms':=s.ms) hi c;rw[E]at p B C F;simp only[fh,fq,fk,fa,fr,fw,fu,a,g]at N' y t q u v j z;simp at p B C F N';refine inv_of (ew h (dg rfl (by simp) (by simp) (by simp) (by simp) (by simp) (by simp) (λ_=>f) (by simp) (by simp))) N' (by omega) (by simp;omega) (by simp;omega) (by simp) (by simp)
 |acJ a E=>
  have f:=d.r (by rw[a];simp)
  have g:T.aw=false:=by cases e:T.aw with|false=>rfl|true=>rcases d.aw e with x|x|x<;>rw[a]at x<;>cases x
  refine⟨fX h hi (dg rfl (by simp) (by simp) (by simp) (by simp) (by simp) (by simp) (λ_=>f) (by simp) (by simp)) ?_ ?_ ?_ ?_ ?_ ?_ ?_,fI hi (by rw[c];simp[am,a]) (by rw[c];simp[wt,a])⟩<;>simp[c,fh,fq,fk,fa,fr,fw,fu,a,g]
 |Ws _ a I=>
  have f:=d.r (by rw[a];simp)
  have g:T.aw=false:=by cases e:T.aw with|false=>rfl|true=>rcases d.aw e with x|x|x<;>rw[a]at x<;>cases x
  obtain⟨c1,M,c3,O,P,S,V⟩:=I.counts;refine⟨fX h hi (I.tok f (by simp) (by simp) small (by simp)) ?_ ?_ ?_ ?_ ?_ ?_ ?_,fI hi (by rw[c,I.am];simp[am,a]) ?_⟩
  ·rw[c,c1];simp[fh,a]
  ·rw[c,M];simp[fq,a]
  ·rw[c,c3];simp[fk,a]
  ·rw[c,O];simp[fa,a]
  ·rw[c,P];simp[fr,a]
  ·rw[c,S];simp[fu,a]
  ·rw[c,V];simp[fw,g]
  ·have zg:=I.wt (n:=n);simp at zg;rw[c];have e:wt n s.w T=8*n+19:=by simp[wt,a]
   omega
 |Wt a E=>
  have f:=d.r (by rw[a];simp);have zf:=d.it (.inl a);obtain⟨o1,o2,o3,o4⟩:=d.c1 a
  have g:T.aw=false:=by cases e:T.aw with|false=>rfl|true=>rcases d.aw e with x|x|x<;>rw[a]at x<;>cases x
  refine⟨?_,uj hi (by rw[c];simp[am,a]) (by rw[c];simp[wt,a,g];omega)⟩;obtain⟨H,Q,K,A,R,W,U,N,D,p,B,C,F⟩:=h.num;obtain⟨y,t,q,u,v,j,z,N'⟩:=N.upd (T':={ T with pc:=.r1,aw:=true }) (w':={ s.w with w:=true }) (ms':=s.ms) hi c;rw[<-E]at o1 o2 o3 o4;obtain⟨o,J,L⟩:=B o2;simp[o3]at o;simp only[fh,fq,fk,fa,fr,fw,fu,a,g]at N' y t q u v j z;simp at N';refine inv_of (ew h ?_) N' D (by simpa using p) (by simp;omega) (by simp[o2]) (by simp);exact⟨λ_=>.inl rfl,λ_ _=>rfl,λx=>(by cases x),λ_=>zf,d.Yv,λx=>(by cases x),λx=>(by cases x),λx=>(by cases x),d.old,λ_=>f,λx=>(by cases x)⟩
 |Wu a E=>
  have f:=d.r (by rw[a];simp);have zf:=d.it (.inl a)
  have g:T.aw=false:=by cases e:T.aw with|false=>rfl|true=>rcases d.aw e with x|x|x<;>rw[a]at x<;>cases x
  refine⟨fX h hi ?_ ?_ ?_ ?_ ?_ ?_ ?_ ?_,fI hi (by rw[c];simp[am,a]) (by rw[c];simp[wt,a])⟩
  ·exact⟨λx=>.inl rfl,λ_ x=>d.sv (.inr (.inl a)) x,λx=>(by cases x),λ_=>zf,d.Yv,λx=>(by cases x),λx=>(by cases x),λx=>(by cases x),d.old,λ_=>f,λx=>(by cases x)⟩
  all_goals simp[c,fh,fq,fk,fa,fr,fw,fu,a]
 |Wv _ a I=>
  have f:=d.r (by rw[a];simp);have zf:=d.it (.inr a);obtain⟨c1,M,c3,O,P,S,V⟩:=I.counts;refine⟨fX h hi (I.tok f (λx=>d.sv (.inl a) x) (by show T.it+1<=4;omega) small (λx=>(Z.aw x).1)) ?_ ?_ ?_ ?_ ?_ ?_ ?_,fI hi (by rw[c,I.am];simp[am,a]) ?_⟩
  ·rw[c,c1];simp[fh,a]
  ·rw[c,M];simp[fq,a]
  ·rw[c,c3];simp[fk,a]
  ·rw[c,O];simp[fa,a]
  ·rw[c,P];simp[fr,a]
  ·rw[c,S];simp[fu,a]
  ·rw[c,V];simp[fw]
  ·have zg:=I.wt (n:=n);simp at zg;rw[c];have e:wt n s.w T=4*n+1+(if T.aw then 0 else 4*n+1)+3*(4-T.it)+2:=by simp[wt,a]
   omega
 |take a E hl hs=>
  have f:=d.r (by rw[a];simp);refine⟨?_,pQ hi (by rw[c];simp only[am,a];omega)⟩;obtain⟨H,Q,K,A,R,W,U,N,D,p,B,C,F⟩:=h.num;obtain⟨y,t,q,u,v,j,z,N'⟩:=N.upd (T':={ pc:=.u0,r:=T.r }) (w':=T.nw) (ms':=s.ms) hi c;have enw:T.nw={ l:=true,w:=s.w.w && !T.aw,s:=false,k:=s.w.k }:=by rw[d.c2 a,qZ,<-E];simp[hl,hs]
  rw[enw]at N' ⊢;obtain⟨o,J,L⟩:=B hs;have hH0:H=0:=by
   rcases Nat.eq_zero_or_pos H with e|e
   ·exact e
   ·rw[p.2 (by omega)]at hl;cases hl
  have g:T.aw=true->s.w.w=true:=λx=>(Z.aw x).1;simp only[fh,fq,fk,fa,fr,fw,fu,a]at N' y t q u v j z;simp at N';refine inv_of (ew h (dg rfl (by simp) (by simp) (by simp) (by simp) (by simp) (by simp) (λ_=>f) (by simp) (by simp))) N' (by omega) (by simp;omega) (λ_=>?_) (by simp) (by simp)
  cases X:T.aw with
  |false=>simp[X]at j ⊢;rw[o];exact⟨rfl,J,by omega⟩
  |true=>
   simp[X]at j ⊢;rw[g X]at o;simp at o;omega
 |queue a E Fz=>
  have f:=d.r (by rw[a];simp);refine⟨?_,uj hi (by rw[c];simp[am,a]) (by rw[c];simp[wt,a];omega)⟩;obtain⟨H,Q,K,A,R,W,U,N,D,p,B,C,F⟩:=h.num;obtain⟨y,t,q,u,v,j,z,N'⟩:=N.upd (T':={ pc:=.s1,sv:=T.sv,r:=T.r }) (w':=T.nw) (ms':=s.ms) hi c;have g:T.aw=true->s.w.w=true/\s.w.s=false:=λx=>Z.aw x;have hsv:T.sv=true->T.aw=true:=d.sv (.inr (.inr (.inl a)))
  have zz:(s.w.l||s.w.s)=true:=by rcases Fz with e|e<;>simp[e]
  have enw:T.nw={ l:=s.w.l || !s.w.s,w:=s.w.w && !T.aw,s:=s.w.s||(T.sv&&s.w.l),k:=s.w.k+1 }:=by rw[d.c2 a,qZ,<-E,if_pos zz]
  rw[enw]at N' ⊢;simp only[fh,fq,fk,fa,fr,fw,fu,a]at N' y t q u v j z;simp at N';refine inv_of (ew h (dg rfl (by simp) (by simp) (by simp) (by simp) (by simp) (by simp) (λ_=>f) (by simp) (by simp))) N' D ?_ ?_ ?_ ?_
  ·cases hs:s.w.s with
   |true=>simpa[hs]using p
   |false=>
    have hl:s.w.l=true:=by simpa[hs]using zz
    simpa[hl]using p.1 hl
  ·intro Y;simp at Y;obtain⟨hs,hsl⟩:=Y;have hl:s.w.l=true:=by simpa[hs]using zz
   obtain⟨o,J,L⟩:=B hs
   cases X:T.aw with
   |false=>simp[X]at j ⊢;rw[o];exact⟨rfl,J,by omega⟩
   |true=>
    simp[X]at j ⊢;rw[(g X).1]at o;simp at o;omega
  ·intro Y;simp at Y
   cases hs:s.w.s with
   |true=>
    obtain⟨o,J,L,g4⟩:=C hs;have X:T.aw=false:=by
     cases e:T.aw with
     |false=>rfl
     |true=>have:=(g e).2;rw[hs]at this;cases this
    simp[X,o];omega
   |false=>
    obtain⟨ai0,hl⟩:T.sv=true/\s.w.l=true:=by simpa[hs]using Y
    have X:=hsv ai0;obtain⟨o,J,L⟩:=B hs;rw[(g X).1]at o;have:=p.1 hl;simp[X]at j o ⊢;omega
  ·intro Y qu Ji;simp at Y Ji;rw[Y.1]at Ji;exact absurd Ji.2 (by simp)
 |Ww a E=>
  have f:=d.r (by rw[a];simp);refine⟨fX h hi ?_ ?_ ?_ ?_ ?_ ?_ ?_ ?_,fI hi (by rw[c];simp[am,a]) (by rw[c];simp[wt,a,bj E])⟩
  ·exact⟨λx=>.inr (.inr rfl),λ_ x=>d.sv (.inr (.inr (.inl a))) x,λx=>(by cases x),λx=>(by rcases x with x|x<;>cases x),d.Yv,λx=>(by cases x),λx=>(by cases x),λx=>(by cases x),d.old,λ_=>f,λx=>(by cases x)⟩
  all_goals simp[c,fh,fq,fk,fa,fr,fw,fu,a]
 |Wx _ a I=>
  have f:=d.r (by rw[a];simp);obtain⟨c1,M,c3,O,P,S,V⟩:=I.counts;refine⟨fX h hi (I.tok f (λx=>d.sv (.inr (.inr (.inr a))) x) d.Yv small (λx=>(Z.aw x).1)) ?_ ?_ ?_ ?_ ?_ ?_ ?_,fI hi (by rw[c,I.am];simp[am,a]) ?_⟩
  ·rw[c,c1];simp[fh,a]
  ·rw[c,M];simp[fq,a]
  ·rw[c,c3];simp[fk,a]
  ·rw[c,O];simp[fa,a]
  ·rw[c,P];simp[fr,a]
  ·rw[c,S];simp[fu,a]
  ·rw[c,V];simp[fw]
  ·have zg:=I.wt (n:=n);simp at zg;rw[c];have e:wt n s.w T=4*n+1+(if T.aw then 0 else 4*n+1)+3*(4-T.it)+5:=by simp[wt,a]
   omega
 |woken b a hb GB=>
  have f:=d.r (by rw[a];simp)
  have g:T.aw=false:=by cases e:T.aw with|false=>rfl|true=>rcases d.aw e with x|x|x<;>rw[a]at x<;>cases x
  refine⟨?_,fI hi (by rw[c];simp[am,a]) ?_⟩
  ·obtain⟨H,Q,K,A,R,W,U,N,D,p,B,C,F⟩:=h.num;obtain⟨y,t,q,u,v,j,z,N'⟩:=N.upd (T':={ pc:=.r2,sv:=b,r:=T.r }) (w':=s.w) (ms':=s.ms-1) hi c;simp only[fh,fq,fk,fa,fr,fw,fu,a,g]at N' y t q u v j z;simp at N' t;refine inv_of (ew h (dg rfl (by simp) (by simp) (by simp) (by simp) (by simp) (by simp) (λ_=>f) (by simp) (by simp))) N' D p (λhs=>?_) (λhs=>?_) F
   ·obtain⟨o,J,L⟩:=B hs;show W+R+(s.ms-1)+(K+1)=_/\_/\Q-1=s.w.k+R+(s.ms-1)
    rw[<-o];omega
   ·obtain⟨o,J,L,g4⟩:=C hs;show _/\_/\H+R+(s.ms-1)+(K+1)+A=1/\Q-1+(K+1)+A=s.w.k;exact⟨o,J,by omega,by omega⟩
  ·rw[c];have e1:wt n s.w T=0:=by simp[wt,a]
   have e2:wt n s.w { pc:=.r2,sv:=b,r:=T.r }=4*n+18:=rfl;obtain⟨m,hm⟩:∃m,s.ms=m+1:=⟨s.ms-1,by omega⟩
   rw[e1,e2,hm,Nat.add_sub_cancel,aP,aS];omega
 |Wz _ a hs I=>
  have f:=d.r (by rw[a];simp)
  have g:T.aw=false:=by cases e:T.aw with|false=>rfl|true=>rcases d.aw e with x|x|x<;>rw[a]at x<;>cases x
  obtain⟨c1,M,c3,O,P,S,V⟩:=I.counts;refine⟨?_,fI hi (by rw[c,I.am];simp[am,a]) ?_⟩
  ·obtain⟨H,Q,K,A,R,W,U,N,D,p,B,C,F⟩:=h.num;obtain⟨y,t,q,u,v,j,z,N'⟩:=N.upd (T':=T') (w':=s.w) (ms':=s.ms) hi c;rw[c1,M,c3,O,P,S,V]at N';simp only[fh,fq,fk,fa,fr,fw,fu,a,g]at N' y t q u v j z;simp at N' q;refine inv_of (ew h (I.tok f (λx=>rfl) (by simp) small (λ_=>Z.r2n a hs))) N' D p (λhs=>?_) (λY=>by rw[show s.w.s=true from Y]at hs;cases hs) F;obtain⟨o,J,L⟩:=B hs;show W+1+R+s.ms+(K-1)=_/\_/\_;rw[<-o];exact⟨by omega,J,L⟩
  ·have zg:=I.wt (n:=n);simp at zg;rw[c];have e:wt n s.w T=4*n+18:=by simp[wt,a]
   omega
 |handed a hs=>
  have f:=d.r (by rw[a];simp)
  have g:T.aw=false:=by cases e:T.aw with|false=>rfl|true=>rcases d.aw e with x|x|x<;>rw[a]at x<;>cases x
  refine⟨?_,fI hi (by rw[c];simp[am,a]) (by rw[c];simp[wt,a])⟩;obtain⟨H,Q,K,A,R,W,U,N,D,p,B,C,F⟩:=h.num;obtain⟨y,t,q,u,v,j,z,N'⟩:=N.upd (T':={ pc:=.a1,sv:=T.sv,ex:=!T.sv||s.w.k==1,r:=T.r }) (w':=s.w) (ms':=s.ms) hi c;simp only[fh,fq,fk,fa,fr,fw,fu,a,g]at N' y t q u v j z;simp at N' q;refine inv_of (ew h (dg rfl (by simp) (by simp) (by simp) (by simp) (by simp) (by simp) (λ_=>f) (by simp) (by simp))) N' D p (λY=>by rw[show s.w.s=false from Y]at hs;cases hs) (λ_=>?_) F;obtain⟨o,J,L,g4⟩:=C hs;show _/\_/\H+R+s.ms+(K-1)+(A+1)=1/\Q+(K-1)+(A+1)=s.w.k;exact⟨o,J,by omega,by omega⟩
 |acK a=>
  have f:=d.r (by rw[a];simp)
  have g:T.aw=false:=by cases e:T.aw with|false=>rfl|true=>rcases d.aw e with x|x|x<;>rw[a]at x<;>cases x
  obtain⟨a1,a2,a3,a4⟩:=Z.a1 a;refine⟨?_,pQ hi (by rw[c];simp only[am,a];omega)⟩;obtain⟨H,Q,K,A,R,W,U,N,D,p,B,C,F⟩:=h.num;obtain⟨y,t,q,u,v,j,z,N'⟩:=N.upd (T':={ pc:=.u0,r:=T.r }) (w':={ l:=true,w:=s.w.w,s:=s.w.s && !T.ex,k:=s.w.k-1 }) (ms':=s.ms) hi c;simp only[fh,fq,fk,fa,fr,fw,fu,a,g]at N' y t q u v j z;simp at N' u;obtain⟨o,J,L,g4⟩:=C a3;refine inv_of (ew h (dg rfl (by simp) (by simp) (by simp) (by simp) (by simp) (by simp) (λ_=>f) (by simp) (by simp))) N' (by omega) (by simp;omega) (λ_=>?_) (λ_=>?_) (by simp)
  ·simp[a2];omega
  ·simp[a2];omega
 |free a hs hk=>
  have f:=d.r (by rw[a];simp)
  have g:T.aw=false:=by cases e:T.aw with|false=>rfl|true=>rcases d.aw e with x|x|x<;>rw[a]at x<;>cases x
  have hl:=Z.u0 a;obtain⟨c1,M,c3,O,P,S,V⟩:=lz T.r;refine⟨?_,pQ hi (by rw[c,uk];simp only[am,a];omega)⟩;obtain⟨H,Q,K,A,R,W,U,N,D,p,B,C,F⟩:=h.num;obtain⟨y,t,q,u,v,j,z,N'⟩:=N.upd (T':=bP T.r) (w':={ s.w with l:=false }) (ms':=s.ms) hi c;rw[c1,M,c3,O,P,S,V]at N';simp only[fh,fq,fk,fa,fr,fw,fu,a,g]at N' y t q u v j z;simp at N';have:=p.1 hl;refine inv_of (ew h (ri _)) N' (by omega) (by simp;omega) (by simpa using B) (by simp[hs]) (λ_ FA _ WB=>?_);simp at FA WB
  rcases hk with e|e
  ·exact absurd e WB
  ·rw[e]at FA;cases FA
 |hand a hs=>
  have f:=d.r (by rw[a];simp)
  have g:T.aw=false:=by cases e:T.aw with|false=>rfl|true=>rcases d.aw e with x|x|x<;>rw[a]at x<;>cases x
  have hl:=Z.u0 a;refine⟨?_,pQ hi (by rw[c];simp only[am,a];omega)⟩;obtain⟨H,Q,K,A,R,W,U,N,D,p,B,C,F⟩:=h.num;obtain⟨y,t,q,u,v,j,z,N'⟩:=N.upd (T':={ pc:=.us,r:=T.r }) (w':={ s.w with l:=false }) (ms':=s.ms) hi c;simp only[fh,fq,fk,fa,fr,fw,fu,a,g]at N' y t q u v j z;simp at N';have:=p.1 hl;obtain⟨o,J,L,g4⟩:=C hs;refine inv_of (ew h (dg rfl (by simp) (by simp) (by simp) (by simp) (by simp) (by simp) (λ_=>f) (by simp) (by simp))) N' (by omega) (by simp;omega) (by simp[hs]) (λ_=>?_) (by simp[hs]);simp[o];omega
 |acL a hs hk E=>
  have f:=d.r (by rw[a];simp)
  have g:T.aw=false:=by cases e:T.aw with|false=>rfl|true=>rcases d.aw e with x|x|x<;>rw[a]at x<;>cases x
  have hl:=Z.u0 a;refine⟨?_,pQ hi (by rw[c];simp only[am,a];omega)⟩;obtain⟨H,Q,K,A,R,W,U,N,D,p,B,C,F⟩:=h.num;obtain⟨y,t,q,u,v,j,z,N'⟩:=N.upd (T':={ pc:=.uc,old:={ s.w with l:=false },r:=T.r }) (w':={ s.w with l:=false }) (ms':=s.ms) hi c;simp only[fh,fq,fk,fa,fr,fw,fu,a,g]at N' y t q u v j z;simp at N';have:=p.1 hl;refine inv_of (ew h ?_) N' (by omega) (by simp;omega) (by simpa using B) (by simp[hs]) (λ_ _ _ _=>by omega);exact⟨λx=>(by cases x),λx=>(by rcases x with x|x|x|x<;>cases x),λx=>(by cases x),λx=>(by rcases x with x|x<;>cases x),by simp,λx=>(by cases x),λx=>(by cases x),λ_=>⟨rfl,hs,E,hk⟩,small,λ_=>f,λx=>(by cases x)⟩
 |release a E=>
  have f:=d.r (by rw[a];simp)
  have g:T.aw=false:=by cases e:T.aw with|false=>rfl|true=>rcases d.aw e with x|x|x<;>rw[a]at x<;>cases x
  obtain⟨o1,o2,o3,o4⟩:=d.uc a;refine⟨?_,uj hi (by rw[c];simp[am,a]) (by rw[c];simp[wt,a];omega)⟩;obtain⟨H,Q,K,A,R,W,U,N,D,p,B,C,F⟩:=h.num;obtain⟨y,t,q,u,v,j,z,N'⟩:=N.upd (T':={ pc:=.us,r:=T.r }) (w':={ s.w with k:=s.w.k-1,w:=true }) (ms':=s.ms) hi c;rw[<-E]at o1 o2 o3 o4;simp only[fh,fq,fk,fa,fr,fw,fu,a,g]at N' y t q u v j z;simp at N';obtain⟨o,J,L⟩:=B o2;simp[o3]at o;refine inv_of (ew h (dg rfl (by simp) (by simp) (by simp) (by simp) (by simp) (by simp) (λ_=>f) (by simp) (by simp))) N' D (by simpa using p) (λ_=>?_) (by simp[o2]) (by simp);simp;omega
 |again a E=>
  have f:=d.r (by rw[a];simp)
  have g:T.aw=false:=by cases e:T.aw with|false=>rfl|true=>rcases d.aw e with x|x|x<;>rw[a]at x<;>cases x
  refine⟨fX h hi (dg rfl (by simp) (by simp) (by simp) (by simp) (by simp) (by simp) (λ_=>f) (by simp) (by simp)) ?_ ?_ ?_ ?_ ?_ ?_ ?_,fI hi (by rw[c];simp[am,a]) (by rw[c];simp[wt,a,bj E])⟩<;>simp[c,fh,fq,fk,fa,fr,fw,fu,a,g]
 |leave a hk=>
  have f:=d.r (by rw[a];simp)
  have g:T.aw=false:=by cases e:T.aw with|false=>rfl|true=>rcases d.aw e with x|x|x<;>rw[a]at x<;>cases x
  obtain⟨c1,M,c3,O,P,S,V⟩:=lz T.r;refine⟨?_,fI hi (by rw[c,uk];simp[am,a]) ?_⟩
  ·obtain⟨H,Q,K,A,R,W,U,N,D,p,B,C,F⟩:=h.num;obtain⟨y,t,q,u,v,j,z,N'⟩:=N.upd (T':=bP T.r) (w':=s.w) (ms':=s.ms) hi c;rw[c1,M,c3,O,P,S,V]at N';simp only[fh,fq,fk,fa,fr,fw,fu,a,g]at N' y t q u v j z;simp at N';refine inv_of (ew h (ri _)) N' D p B C (λe1 e2 e3 e4=>?_)
   rcases hk with e|e|e|e
   ·exact absurd e e4
   ·rw[show s.w.l=false from e3]at e;cases e
   ·rw[show s.w.w=false from e2]at e;cases e
   ·rw[show s.w.s=false from e1]at e;cases e
  ·rw[c];have e1:wt n s.w T=16*n+42:=by simp[wt,a]
   have:=Ai (n:=n) T.r s.w;omega
 |WA a hk hl E hs=>
  have f:=d.r (by rw[a];simp)
  have g:T.aw=false:=by cases e:T.aw with|false=>rfl|true=>rcases d.aw e with x|x|x<;>rw[a]at x<;>cases x
  refine⟨fX h hi ?_ ?_ ?_ ?_ ?_ ?_ ?_ ?_,fI hi (by rw[c];simp[am,a]) (by rw[c];simp[wt,a])⟩
  ·exact⟨λx=>(by cases x),λx=>(by rcases x with x|x|x|x<;>cases x),λx=>(by cases x),λx=>(by rcases x with x|x<;>cases x),by simp,λx=>(by cases x),λx=>(by cases x),λ_=>⟨hl,hs,E,hk⟩,small,λ_=>f,λx=>(by cases x)⟩
  all_goals simp[c,fh,fq,fk,fa,fr,fw,fu,a,g]
 |post a=>
  have f:=d.r (by rw[a];simp)
  have g:T.aw=false:=by cases e:T.aw with|false=>rfl|true=>rcases d.aw e with x|x|x<;>rw[a]at x<;>cases x
  obtain⟨c1,M,c3,O,P,S,V⟩:=lz T.r;refine⟨?_,fI hi (by rw[c,uk];simp[am,a]) ?_⟩
  ·obtain⟨H,Q,K,A,R,W,U,N,D,p,B,C,F⟩:=h.num;obtain⟨y,t,q,u,v,j,z,N'⟩:=N.upd (T':=bP T.r) (w':=s.w) (ms':=s.ms+1) hi c;rw[c1,M,c3,O,P,S,V]at N';simp only[fh,fq,fk,fa,fr,fw,fu,a,g]at N' y t q u v j z;simp at N' v;refine inv_of (ew h (ri _)) N' D p (λhs=>?_) (λhs=>?_) F
   ·obtain⟨o,J,L⟩:=B hs;show W+(R-1)+(s.ms+1)+K=_/\_/\Q=s.w.k+(R-1)+(s.ms+1)
    rw[<-o];omega
   ·obtain⟨o,J,L,g4⟩:=C hs;show _/\_/\H+(R-1)+(s.ms+1)+K+A=1/\_;exact⟨o,J,by omega,g4⟩
  ·rw[c];have e1:wt n s.w T=12*n+40:=by simp[wt,a]
   have:=Ai (n:=n) T.r s.w;rw[e1,aP,aS];omega
def Inv.live(h:Inv n s)(hb:∀i,i<n->(s.th i).pc=.out\/((s.th i).pc=.s1/\s.ms=0)):∀i,i<n->(s.th i).pc=.out:=by
 have zero:∀f:Th->Nat,(∀T,T.pc=.out\/T.pc=.s1->f T=0)->sumTo n (λa=>f (s.th a))=0:=by
  intro f hf;have:=bi (f:=λa=>f (s.th a)) (c:=0) (j:=n) λi hi=>by rw[hf _ ((hb i hi).imp id (·.1))];exact aT _
  omega
 intro i hi
 rcases hb i hi with e|⟨e,k⟩
 ·exact e
 exfalso;have z1:=zero fh (λT e=>by rcases e with e|e<;>simp[fh,e]);have m:=zero fk (λT e=>by rcases e with e|e<;>simp[fk,e]);have o:=zero fa (λT e=>by rcases e with e|e<;>simp[fa,e]);have p:=zero fr (λT e=>by rcases e with e|e<;>simp[fr,e]);have q:=zero fu (λT e=>by rcases e with e|e<;>simp[fu,e]);have r:sumTo n (λa=>fw (s.th a))=0:=by
  have:=bi (f:=λa=>fw (s.th a)) (c:=0) (j:=n) λi hi=>by
   unfold fw
   split
   ·rename_i b
    rcases(h.tok i hi).aw b with x|x|x<;>rcases hb i hi with y|⟨y,_⟩<;>rw[y]at x<;>cases x
   ·exact aT _
  omega
 have q1:1<=sumTo n (λa=>fq (s.th a)):=by
  have:=bg (f:=λa=>fq (s.th a)) hi;have e1:fq (s.th i)=1:=by simp[fq,e]
  simp only[e1]at this;exact this
 cases hs:s.w.s with
 |true=>have:=(h.star hs).2.2.1;omega
 |false=>
  obtain⟨d,t,u⟩:=h.norm hs;have g:s.w.w=false:=by
   cases e:s.w.w with
   |false=>rfl
   |true=>simp[e]at d;omega
  have hl:s.w.l=false:=by
   cases e:s.w.l with
   |false=>rfl
   |true=>have:=h.lock.1 e;omega
  have:=h.Yw hs g hl (by omega);omega
end
end Go.cD
namespace Go.Ph
open Go.Conc Go.ConcN
open Go.ConcM (MuAt muA msA OsLater muBlock)
open Go.ConcR (KK WgAt stA smA rd wr mk)
open Go.cD (Wd Th Mv Safe)
inductive Tree where
 |leaf
 |node (f:World->Tree)
inductive Tree.Lt:Tree->Tree->Prop
 |sub (f:World->Tree) (w:World):Tree.Lt (f w) (.node f)
def Tree.wf:WellFounded Tree.Lt:=⟨λt=>by
 induction t with
 |leaf=>exact⟨_,λ_ h=>by cases h⟩
 |node f a=>exact⟨_,λ_ h=>by cases h with|sub _ w=>exact a w⟩⟩
def _root_.Go.cD.Wd.num(x:Wd):Nat:=(if x.l then 1 else 0)+(if x.w then 2 else 0)+(if x.s then 4 else 0)+8*x.k
structure Sh where
 mw:Wd
 ms:Nat
 v:Nat
 wt:Nat
 ws:Nat
structure Fix where
 P:aB
 tM:TypeId
 tW:TypeId
 tT:TypeId
 Mu:Nat
 Wg:Nat
 Tb:Nat
 size:Nat
 n:Nat
 Shun:Loc->Prop
variable (X:Fix)
def ShAt(w:World)(s:Sh):Prop:=MuAt X.tM X.Mu w (s.mw.num:Int) (s.ms:Int)/\WgAt X.tW X.Wg w ((s.v:Int)*KK+(s.wt:Int)) (s.ws:Int)
def Live(w:World):Prop:=(∃st a,MuAt X.tM X.Mu w st a)/\(∃st a,WgAt X.tW X.Wg w st a)/\∃c:Array Value,w.heap[X.Tb]?=some (.cells c X.tT)/\c.size=X.size
def OZ(l:Loc):Prop:=∃a,l=.cell a/\(a.block=X.Mu\/a.block=X.Wg)
def jm(b:Nat):Prop:=b≠X.Mu/\b≠X.Wg/\b≠X.Tb
structure Vw where
 g:Nat
 st:Nat->Prop
 row:Nat->Prop
abbrev Own:=Nat->Prop
structure Rl(V:Vw)(M:Own)(w ai:World):Prop where
 tape:ai.tape=w.tape
 output:ai.output=w.output
 os:OsLater w.os ai.os
 size:w.heap.size<=ai.heap.size
 st:∀b,V.st b->ai.heap[b]?=w.heap[b]?
 own:∀b,M b->ai.heap[b]?=w.heap[b]?
 live:Live X w->Live X ai
 row:∀o,V.row o->ai.cell? ⟨X.Tb,o,none⟩=w.cell? ⟨X.Tb,o,none⟩
def TR(V:Vw)(M:Own)(l:Loc):Prop:=match l with
 |.cell a=>M a.block\/(a.block=X.Tb/\V.row a.off)
 |.obj b=>M b
 |_=>False
def RdL(V:Vw)(l:Loc):Prop:=¬X.Shun l/\match l with
 |.cell a=>V.st a.block
 |.obj b=>V.st b
 |_=>False
def jG(V:Vw)(M:Own)(B:Nat)(e:Event):Prop:=
 (∀x,(bm e).touch? = some x->x.loc.isMemory=true/\((OZ X x.loc/\if V.g=0 then x.kind≠.plain else x.kind=.atomic)\/(x.kind=.plain/\(TR X V M x.loc\/(RdL X V x.loc/\x.write=false)))))/\
 e.loc≠.mark (.release (stA X.Wg))/\(bm e).low B
structure Dl(V:Vw)(q:Bool)(M:Own)(d:Nat)(w w':World)(es:Array Event)(M':Own)(d':Nat):Prop where
 tape:w'.tape=w.tape
 output:w'.output=w.output
 os:OsLater w.os w'.os
 size:w.heap.size<=w'.heap.size
 block:∀b,b<w.heap.size->¬M b->b≠X.Mu->b≠X.Wg->b≠X.Tb->w'.heap[b]?=w.heap[b]?
 tb:∀c:Array Value,w.heap[X.Tb]?=some (.cells c X.tT)->∃c':Array Value,w'.heap[X.Tb]?=some (.cells c' X.tT)/\c'.size=c.size
 cells:∀o,¬V.row o->w'.cell? ⟨X.Tb,o,none⟩=w.cell? ⟨X.Tb,o,none⟩
 calm:q=true->w'.heap[X.Tb]?=w.heap[X.Tb]?
 own:∀b,M' b↔M b\/(w.heap.size<=b/\b<w'.heap.size)
 ev:∀e∈es,jG X V M' w'.heap.size e
 ai1:q=true->∀j e,es[j]?=some e->(bm e).touch? = none\/((∃ad wr,e=⟨.cell ad,wr,true⟩)/\0<deafBehind d (es.extract 0 j))
 deaf:d'=deafBehind d es
def L3(w w':World):Prop:=w'.heap[X.Mu]?=w.heap[X.Mu]?/\w'.heap[X.Wg]?=w.heap[X.Wg]?
abbrev Stp:=Own->Nat->aF->World->Prop
def jA(V:Vw)(q:Bool)(Stop:Stp):Tree->Own->Nat->aF->World->Prop
 |.leaf,M,d,g,w=>∀ai,Rl X V M w ai->Stop M d g ai
 |.node f,M,d,g,w=>∀ai,Rl X V M w ai->Stop M d g ai\/(g.status=.running/\∃a w' es b c,stepG X.P (V.g==0) g ai=.go a w' es/\Dl X V q M d ai w' es b c/\L3 X ai w'/\a.status=.running/\jA V q Stop (f ai) b c a w')
def ay(V:Vw)(q:Bool)(Stop:Stp)(M:Own)(d:Nat)(g:aF)(w:World):Prop:=∃t,jA X V q Stop t M d g w
section
variable {X}{V:Vw}{q:Bool}{Stop WG:Stp}{M:Own}{d:Nat}{g:aF}{w ai GD:World}
def Rl.refl(V:Vw)(M:Own)(w:World):Rl X V M w w:=⟨rfl,rfl,.refl _,aT _,λ_ _=>rfl,λ_ _=>rfl,id,λ_ _=>rfl⟩
def Rl.trans(h:Rl X V M w ai)(k:Rl X V M ai GD):Rl X V M w GD:=
 ⟨k.tape.trans h.tape,k.output.trans h.output,h.os.trans k.os,Nat.le_trans h.size k.size,λb hb=>(k.st b hb).trans (h.st b hb),λb hb=>(k.own b hb).trans (h.own b hb),λl=>k.live (h.live l),λo a=>(k.row o a).trans (h.row o a)⟩
def ay.stop(h:∀ai,Rl X V M w ai->Stop M d g ai):ay X V q Stop M d g w:=⟨.leaf,h⟩
def ay.either(h:∀ai,Rl X V M w ai->Stop M d g ai\/(g.status=.running/\∃g' w' es M' d',stepG X.P (V.g==0) g ai=.go g' w' es/\Dl X V q M d ai w' es M' d'/\L3 X ai w'/\g'.status=.running/\ay X V q Stop M' d' g' w')):ay X V q Stop M d g w:=by
 have key:∀ai,∃t:Tree,Rl X V M w ai->Stop M d g ai\/(g.status=.running/\∃g' w' es M' d',stepG X.P (V.g==0) g ai=.go g' w' es/\Dl X V q M d ai w' es M' d'/\L3 X ai w'/\g'.status=.running/\jA X V q Stop t M' d' g' w'):=by
  intro ai;by_cases a:Rl X V M w ai
  ·rcases h ai a with hs|⟨b,g',w',es,M',d',c,e,i,j,t,k⟩
   ·exact⟨.leaf,λ_=>.inl hs⟩
   ·exact⟨t,λ_=>.inr ⟨b,g',w',es,M',d',c,e,i,j,k⟩⟩
  ·exact⟨.leaf,λx=>absurd x a⟩
 obtain⟨f,hf⟩:=a9 key;exact⟨.node f,λai a=>hf ai a⟩
def ay.step(a:g.status=.running)(h:∀ai,Rl X V M w ai->∃g' w' es M' d',stepG X.P (V.g==0) g ai=.go g' w' es/\Dl X V q M d ai w' es M' d'/\L3 X ai w'/\g'.status=.running/\ay X V q Stop M' d' g' w'):ay X V q Stop M d g w:=
 .either λai r=>.inr ⟨a,h ai r⟩
def jA.rely:∀{t:Tree},jA X V q Stop t M d g w->Rl X V M w ai->jA X V q Stop t M d g ai
 |.leaf,h,r=>λGD a=>h GD (r.trans a)
 |.node _,h,r=>λGD a=>h GD (r.trans a)
def ay.rely(h:ay X V q Stop M d g w)(r:Rl X V M w ai):ay X V q Stop M d g ai:=h.imp λ_ x=>x.rely r
def ay.mono(h:ay X V q Stop M d g w)(hs:∀M d g w,Stop M d g w->WG M d g w):ay X V q WG M d g w:=by
 obtain⟨t,a⟩:=h
 induction t generalizing M d g w with
 |leaf=>exact .stop λai r=>hs _ _ _ _ (a ai r)
 |node f b=>
  refine .either λai r=>?_
  rcases a ai r with x|⟨c,e,w',es,i,j,k,l,m,n,o⟩
  ·exact .inl (hs _ _ _ _ x)
  ·exact .inr ⟨c,e,w',es,i,j,k,l,m,n,b ai o⟩
end
end Go.Ph
namespace Go.Ph
open Go.Conc Go.ConcN
open Go.ConcM (MuAt muA msA OsLater muBlock)
open Go.ConcR (KK WgAt stA smA rd wr mk)
open Go.cD (Wd Th Mv Safe Head eR spin)
inductive Alt:Th->Th->Prop
 |refl (T:Th):Alt T T
 |head (T H:Th):Head T H->(T.aw=true->T.old.w=true)->Alt (eR T) H
 |r2 (T:Th) (b:Bool):T.pc=.r2->(T.sv=true->b=true)->Alt T { T with sv:=b }
variable (X:Fix)
def nR(V:Vw)(q:Bool)(a:Sh->Prop)(f:Sh->Sh)(wake:Bool)(Next:Sh->Stp):Stp:=λM d g w=>
 g.status=.running/\g.offers=none/\(wake=true->aI X.P g=true)/\∀s,ShAt X w s->a s->
  ∃b w' es e h,stepG X.P (V.g==0) g w=.go b w' es/\ShAt X w' (f s)/\Dl X V q M d w w' es e h/\b.status=.running/\Next s e h b w'
def acP(V:Vw)(q:Bool)(a:Sh->Prop)(waits:Sh->Prop)(f:Sh->Sh)(Next:Sh->Stp):Stp:=λM d g w=>
 g.status=.running/\g.offers=none/\∀s,ShAt X w s->a s->(waits s->stepG X.P (V.g==0) g w=.go { g with status:=.blocked } w #[])/\
  (¬waits s->∃b w' es e h,stepG X.P (V.g==0) g w=.go b w' es/\ShAt X w' (f s)/\Dl X V q M d w w' es e h/\b.status=.running/\Next s e h b w')
section
variable (V:Vw)(Fin:World->Prop)
def AtD4:Stp:=nR X V true (λs=>s.v=0/\s.wt=0/\s.ws=0) (λs=>{ s with ws:=1 }) true (λ_ _ d g _=>∃q,ae X.P q d g)
def AtD3:Stp:=nR X V true (λs=>s.v=0/\s.wt=1/\s.ws=0) (λs=>{ s with wt:=0 }) false (λ_=>ay X V true (AtD4 X V))
def AtD2:Stp:=nR X V true (λs=>s.v=0/\s.wt=1/\s.ws=0) id false (λ_=>ay X V true (AtD3 X V))
def AtD1:Stp:=nR X V true (λs=>1<=s.v/\s.v<=X.n/\s.wt<=1/\s.ws=0) (λs=>{ s with v:=s.v-1 }) false
 (λs=>if s.v=1/\s.wt=1 then ay X V true (AtD2 X V) else λ_ d g _=>∃q,ae X.P q d g)
def O0:Stp:=λM d g w=>g.status=.running/\d=0/\Fin w/\∃a,stepG X.P (V.g==0) g w=.go a w #[mk (.releaseMerge (stA X.Wg))]/\a.status=.running/\ay X V true (AtD1 X V) M 0 a w
def iF:Nat->Th->Stp
 |0,_,_,_,_,_=>True
 |k+1,T,M,d,g,w=>g.status=.running/\g.offers=none/\(T.pc=.us->aI X.P g=true)/\∀s,ShAt X w s->cD.Safe T s.mw->s.mw.k<=X.n->s.ms<=1->
  (T.pc=.s1/\s.ms=0->stepG X.P (V.g==0) g w=.go { g with status:=.blocked } w #[])/\
  (¬(T.pc=.s1/\s.ms=0)->∃e h a f w' es i j,Mv s.mw s.ms T e h a/\stepG X.P (V.g==0) g w=.go f w' es/\ShAt X w' { s with mw:=h,ms:=a }/\Dl X V false M d w w' es i j/\f.status=.running/\
    ay X V false (λM d g w=>if e.pc=.out then O0 X V Fin M d g w else∃b,Alt e b/\iF k b M d g w) i j f w')
def eU(k:Nat)(T:Th):Stp:=λM d g w=>if T.pc=.out then O0 X V Fin M d g w else∃a,Alt T a/\iF X V Fin k a M d g w
end
section
variable (c:Nat)(np:Nat)(row:Nat->Nat->Prop)(Fin:Nat->World->Prop)(Post:Own->aF->World->Prop)
def Yy:Stp:=λM d g w=>g.status=.running/\d=0/\Post M g w
def O1(V:Vw):Stp:=λM d g w=>g.status=.running/\d=0/\∃a,stepG X.P (V.g==0) g w=.go a w #[mk (.acquire (stA X.Wg))]/\a.status=.running/\ay X V false (Yy Post) M 0 a w
def AtW4(V:Vw):Stp:=nR X V false (λs=>s.v=0/\s.wt=0/\s.ws=0) id false (λ_=>ay X V false (O1 X Post V))
def AtW3(V:Vw):Stp:=acP X V false (λs=>s.ws<=1) (λs=>s.ws=0) (λs=>{ s with ws:=s.ws-1 }) (λ_=>ay X V false (AtW4 X Post V))
mutual
def AtW1(V:Vw):Nat->Stp
 |0=>λ_ _ _ _=>True
 |k+1=>nR X V false (λs=>s.v<=X.n/\s.wt=0/\s.ws=0) id false (λs=>if s.v=0 then ay X V false (O1 X Post V) else ay X V false (AtW2 V k s.v))
def AtW2(V:Vw):Nat->Nat->Stp
 |0,_=>λ_ _ _ _=>True
 |k+1,a=>nR X V false (λs=>s.v<=X.n/\s.wt=0/\s.ws=0) (λs=>if s.v=a then { s with wt:=1 } else s) false
  (λs=>if s.v=a then ay X V false (AtW3 X Post V) else ay X V false (AtW1 V k))
end
def rj(j:Nat)(V:Vw)(M:Own):Vw:=⟨c+j,λb=>V.st b\/M b,row j⟩
def Vw.more(V:Vw)(M:Own):Vw:={ V with st:=λb=>V.st b\/M b }
def nobody:Own:=λ_=>False
def AtGo(j:Nat)(a:Vw->Stp)(V:Vw):Stp:=λM d g w=>g.status=.running/\d=0/\∃b child,stepG X.P (V.g==0) g w=.spawn b child w #[]/\b.status=.running/\child.status=.running/\
 ((∀o,row j o->w.cell? ⟨X.Tb,o,none⟩=some (.int .i64 0))->∀k,ay X (rj c row j V M) false (eU X (rj c row j V M) (Fin j) k { pc:=.l0,r:=np }) nobody 0 child w)/\ay X (V.more M) false (a (V.more M)) nobody 0 b w
def Ta:Nat->Vw->Stp
 |0,V=>λM d g w=>∀k,AtW1 X Post V k M d g w
 |r+1,V=>nR X V false (λs=>s.v<X.n/\s.wt=0/\s.ws=0) (λs=>{ s with v:=s.v+1 }) false (λ_=>ay X V false (AtGo X c np row Fin (X.n-(r+1)) (Ta r) V))
end
end Go.Ph
namespace Go.Ph
open Go.Conc Go.ConcN
open Go.ConcM (MuAt muA msA OsLater muBlock)
open Go.ConcR (KK WgAt stA smA rd wr mk)
open Go.cD (Wd Th Mv Head eR spin)
inductive WP where
 |mu|d1|d2|d3|d4|quit
 deriving DecidableEq
inductive MP where
 |add|go|w1|w2 (v:Nat)|w3|w4|aq|an
 deriving DecidableEq
structure Gh where
 j:Nat
 th:Nat->Th
 wp:Nat->WP
 mp:MP
 V:Nat->Vw
 M:Nat->Own
 tr:Nat->Tree
 q:Nat->Nat
 fu:Nat->Nat
 s:Sh
structure CB extends Fix where
 c:Nat
 np:Nat
 row:Nat->Nat->Prop
 Fin:Nat->World->Prop
 Post:Own->aF->World->Prop
 sE:Nat
 w₀:World
variable (Y:CB)
def gid(a:Nat):Nat:=if a=0 then 0 else Y.c+(a-1)
def Gh.q?(G:Gh):Nat->Bool
 |0=>false
 |k+1=>decide (G.wp k≠.mu)
def stM(j f:Nat)(V:Vw):MP->Stp
 |.add=>Ta Y.toFix Y.c Y.np Y.row Y.Fin Y.Post (Y.n-j) V
 |.go=>AtGo Y.toFix Y.c Y.np Y.row Y.Fin j (Ta Y.toFix Y.c Y.np Y.row Y.Fin Y.Post (Y.n-(j+1))) V
 |.w1=>AtW1 Y.toFix Y.Post V f
 |.w2 v=>AtW2 Y.toFix Y.Post V f v
 |.w3=>AtW3 Y.toFix Y.Post V
 |.w4=>AtW4 Y.toFix Y.Post V
 |.aq=>O1 Y.toFix Y.Post V
 |.an=>Yy Y.Post
def NH(V:Vw)(k f:Nat)(T:Th):WP->Stp
 |.mu=>eU Y.toFix V (Y.Fin k) f T
 |.d1=>AtD1 Y.toFix V
 |.d2=>AtD2 Y.toFix V
 |.d3=>AtD3 Y.toFix V
 |.d4=>AtD4 Y.toFix V
 |.quit=>λ_ _ _ _=>False
def Gh.um(G:Gh):Nat->Stp
 |0=>stM Y G.j (G.fu 0) (G.V 0) G.mp
 |k+1=>NH Y (G.V (k+1)) k (G.fu (k+1)) (G.th k) (G.wp k)
def Gh.waits(G:Gh):Nat->Prop
 |0=>G.mp=.w3/\G.s.ws=0
 |k+1=>G.wp k=.mu/\(G.th k).pc=.s1/\G.s.ms=0
def Gh.gone(G:Gh):Nat->Prop
 |0=>False
 |k+1=>G.wp k=.quit
inductive Sit(G:Gh)(a:Nat)(d:Nat)(g:aF)(w:World):Prop
 |run:¬G.gone a->g.status=.running->jA Y.toFix (G.V a) (G.q? a) (G.um Y a) (G.tr a) (G.M a) d g w->Sit G a d g w
 |wait (fJ:aF):¬G.gone a->g={ fJ with status:=.blocked }->fJ.status=.running->fJ.offers=none->G.waits a->jA Y.toFix (G.V a) (G.q? a) (G.um Y a) (G.tr a) (G.M a) d fJ w->Sit G a d g w
 |gone:G.gone a->ae Y.P (G.q (gid Y a)) d g->Sit G a d g w
structure OI(G:Gh)(w:World):Prop where
 ap:∀a,a<=G.j->∀b,(G.M a b\/(G.V a).st b)->b<w.heap.size/\jm Y.toFix b
 dj:∀a a',a<=G.j->a'<=G.j->a≠a'->∀b,G.M a b->¬G.M a' b/\¬(G.V a').st b
 self:∀a,a<=G.j->∀b,G.M a b->¬(G.V a).st b
 rows:∀a a',a<=G.j->a'<=G.j->a≠a'->∀o,(G.V a).row o->¬(G.V a').row o
 base:∀a,a<=G.j->∀b,G.M a b->Y.sE<=b
 num:∀a,a<=G.j->(G.V a).g=gid Y a
 ids:Y.Mu≠Y.Wg/\Y.Mu≠Y.Tb/\Y.Wg≠Y.Tb/\Y.sE<=Y.Mu/\Y.sE<=Y.Wg/\Y.sE<=Y.Tb/\Y.Mu<w.heap.size/\Y.Wg<w.heap.size/\Y.Tb<w.heap.size
 main:(G.V 0).row=λ_=>False
 rowV:∀k,k<G.j->(G.V (k+1)).row=Y.row k
def BK(G:Gh)(g:Nat)(l:Loc):Prop:=Y.c<=g/\g<Y.c+G.j/\TR Y.toFix (G.V (g-Y.c+1)) (G.M (g-Y.c+1)) l
def O5(G:Gh)(g:Nat)(l:Loc):Prop:=Y.c<=g/\g<Y.c+G.j/\RdL Y.toFix (G.V (g-Y.c+1)) l
def fv:WP->Nat
 |.mu | .d1=>1
 |_=>0
def fd:WP->Nat
 |.d2 | .d3=>1
 |_=>0
def f4:WP->Nat
 |.d4=>1
 |_=>0
structure WI(G:Gh):Prop where
 v:G.s.v=sumTo G.j (λk=>fv (G.wp k))+(if G.mp=.go then 1 else 0)
 early:(G.mp=.add\/G.mp=.go)->G.j<Y.n
 late:G.mp≠.add->G.mp≠.go->G.j=Y.n
 le:G.j<=Y.n
 calm:(G.mp=.add\/G.mp=.go\/G.mp=.w1\/∃v,G.mp=.w2 v)->G.s.wt=0/\G.s.ws=0/\sumTo G.j (λk=>fd (G.wp k))=0/\sumTo G.j (λk=>f4 (G.wp k))=0
 w3:G.mp=.w3->(G.s.wt=1/\G.s.ws=0/\sumTo G.j (λk=>f4 (G.wp k))=0/\(if G.s.v=0 then 1 else 0)=sumTo G.j (λk=>fd (G.wp k)))\/
  (G.s.wt=0/\G.s.v=0/\sumTo G.j (λk=>fd (G.wp k))=0/\sumTo G.j (λk=>f4 (G.wp k))+G.s.ws=1)
 done:(G.mp=.w4\/G.mp=.aq\/G.mp=.an)->G.s.v=0/\G.s.wt=0/\G.s.ws=0/\∀k,k<G.j->G.wp k=.quit
 nz:∀v,G.mp=.w2 v->v≠0
def wW:WP->Nat
 |.mu=>30
 |.d1=>25
 |.d2=>10
 |.d3=>9
 |.d4=>8
 |.quit=>0
def wM(n j:Nat)(v:Nat):MP->Nat
 |.add=>50*(n-j)+20
 |.go=>50*(n-j)+15
 |.w1=>10
 |.w2 a=>if v=a then 9 else 12
 |.w3=>8
 |.w4=>7
 |.aq=>6
 |.an=>0
def vK(G:Gh):Nat:=wM Y.n G.j G.s.v G.mp+sumTo G.j (λk=>wW (G.wp k))
def muK(n:Nat):Nat:=(16*n+43)*n+(4*n+19)+1
def oD(G:Gh):cD.St:=⟨G.th,G.s.mw,G.s.ms⟩
def phi(G:Gh):Nat:=cD.nQ Y.n (oD G)*muK Y.n+cD.uh Y.n (oD G)
structure MI(G:Gh)(gs:Array aF)(w:World)(t:Trace):Prop where
 cpos:0<Y.c
 size:gs.size=Y.c+G.j
 sit:∀a,a<=G.j->∀g,gs[gid Y a]?=some g->Sit Y G a (Deaf t (gid Y a)) g w
 old:∀i g,0<i->i<Y.c->gs[i]?=some g->ae Y.P (G.q i) (Deaf t i) g
 above:∀i,gs.size<=i->Deaf t i=0
 sh:ShAt Y.toFix w G.s
 tb:∃cs:Array Value,w.heap[Y.Tb]?=some (.cells cs Y.tT)/\cs.size=Y.toFix.size
 mun:cD.Inv Y.n (oD G)
 fresh:∀k,G.j<=k->k<Y.n->G.th k={ pc:=.l0,r:=Y.np }
 out:∀k,k<G.j->G.wp k≠.mu->(G.th k).pc=.out
 wi:WI Y G
 fuel:∀k,k<G.j->phi Y G+1<=G.fu (k+1)
 fuel0:vK Y G+1<=G.fu 0
 oi:OI Y G w
 shun:∀l,Y.Shun l->l.low Y.sE/\l.isMemory=true
 tri:TI Y.Shun (OZ Y.toFix) (BK Y G) (O5 Y G) Y.c G.j t
 rel:∀k,k<G.j->G.wp k≠.mu->∃r,RelBy (stA Y.Wg) t (Y.c+k) r
 norel:NoRelease (stA Y.Wg) t
 low:∀op∈t,op.act.low w.heap.size
 fin:∀k,k<G.j->G.wp k≠.mu->Y.Fin k w
 acq:G.mp=.an->∃p,t.act? p=some (.mark (.acquire (stA Y.Wg)))/\t.g? p=some 0/\t.heard p/\∀k,k<G.j->∃r,RelBy (stA Y.Wg) t (Y.c+k) r/\r<p
 tape:w.tape=Y.w₀.tape
 output:w.output=Y.w₀.output
 os:OsLater Y.w₀.os w.os
 kept:∀b,b<Y.sE->w.heap[b]?=Y.w₀.heap[b]?
 rowok:∀k k' o,k≠k'->Y.row k o->¬Y.row k' o
 un:∀k,G.j<=k->∀o,Y.row k o->w.cell? ⟨Y.Tb,o,none⟩=some (.int .i64 0)
section
variable {Y:CB}{G G':Gh}{gs:Array aF}{w w':World}{t:Trace}{a b d d':Nat}{g g':aF}{es:Array Event}{M':Own}{q:Bool}
def iZ:gid Y 0=0:=rfl
def bQ(k:Nat):gid Y (k+1)=Y.c+k:=by simp[gid]
def wm(hc:0<Y.c)(h:gid Y a=gid Y b):a=b:=by
 unfold gid at h
 split at h<;>split at h<;>omega
def Yz(h:a<=G.j)(hc:0<Y.c):gid Y a<Y.c+G.j:=by
 unfold gid;split<;>omega
def TU(hs:ShAt Y.toFix w G.s)(c:∃cs:Array Value,w.heap[Y.Tb]?=some (.cells cs Y.tT)/\cs.size=Y.toFix.size):Live Y.toFix w:=
 ⟨⟨_,_,hs.1⟩,⟨_,_,hs.2⟩,c⟩
def acQ(c:Dl Y.toFix (G.V a) q (G.M a) d w w' es M' d')(e:∃cs:Array Value,w.heap[Y.Tb]?=some (.cells cs Y.tT)/\cs.size=Y.toFix.size):∃cs:Array Value,w'.heap[Y.Tb]?=some (.cells cs Y.tT)/\cs.size=Y.toFix.size:=by
 obtain⟨cs,f,h⟩:=e;obtain⟨cs',i,j⟩:=c.tb cs f;exact⟨cs',i,j.trans h⟩
def OI.rl(O:OI Y G w)(f:a<=G.j)(hb:b<=G.j)(i:a≠b)(c:Dl Y.toFix (G.V a) q (G.M a) d w w' es M' d')(hl:Live Y.toFix w->Live Y.toFix w'):Rl Y.toFix (G.V b) (G.M b) w w':=by
 refine⟨c.tape,c.output,c.os,c.size,λx e=>?_,λx e=>?_,hl,λo p=>c.cells o λh=>O.rows a b f hb i o h p⟩
 ·obtain⟨k,l,m,n⟩:=O.ap b hb x (.inr e);exact c.block x k (λh=>(O.dj a b f hb i x h).2 e) l m n
 ·obtain⟨k,l,m,n⟩:=O.ap b hb x (.inl e);exact c.block x k (λh=>(O.dj a b f hb i x h).1 e) l m n
def OI.after(O:OI Y G w)(F:a<=G.j)(u:Dl Y.toFix (G.V a) q (G.M a) d w w' es M' d')(m:G'.j=G.j)(n:G'.V=G.V)(s:G'.M=upd G.M a M'):OI Y G' w':=by
 have f:∀b x,(upd G.M a M') b x->G.M b x\/(b=a/\w.heap.size<=x/\x<w'.heap.size):=by
  intro b x h;by_cases e:b=a
  ·subst e;rw[bb]at h;exact((u.own x).1 h).imp id λy=>⟨rfl,y⟩
  ·rw[bc _ _ e]at h;exact .inl h
 obtain⟨v,z,A,B,C,D,H,i8,I⟩:=O.ids;have J:=u.size;refine⟨λb hb x c=>?_,λb b' hb i p x c=>?_,λb hb x c=>?_,λb b' hb i p=>?_,λb hb x c=>?_,λb hb=>?_,⟨v,z,A,B,C,D,by omega,by omega,by omega⟩,by rw[n];exact O.main,λk E=>by rw[n];exact O.rowV k (m▸E)⟩
 ·rw[m]at hb;rw[s,n]at c
  rcases c with c|c
  ·rcases f b x c with h|⟨_,r,l⟩
   ·obtain⟨r,l⟩:=O.ap b hb x (.inl h);exact⟨by omega,l⟩
   ·exact⟨l,by unfold jm;omega⟩
  ·obtain⟨r,l⟩:=O.ap b hb x (.inr c);exact⟨by omega,l⟩
 ·rw[m]at hb i;rw[s]at c ⊢;rw[n]
  rcases f b x c with h|⟨rfl,r,l⟩
  ·refine⟨λo=>?_,(O.dj b b' hb i p x h).2⟩
   rcases f b' x o with k|⟨rfl,k1,_⟩
   ·exact(O.dj b b' hb i p x h).1 k
   ·have:=(O.ap b hb x (.inl h)).1;omega
  ·refine⟨λo=>?_,λo=>?_⟩
   ·rcases f b' x o with k|⟨e,_⟩
    ·have:=(O.ap b' i x (.inl k)).1;omega
    ·exact p e.symm
   ·have:=(O.ap b' i x (.inr o)).1;omega
 ·rw[m]at hb;rw[s]at c;rw[n]
  rcases f b x c with h|⟨rfl,r,l⟩
  ·exact O.self b hb x h
  ·intro o;have:=(O.ap b hb x (.inr o)).1;omega
 ·rw[m]at hb i;rw[n];exact O.rows b b' hb i p
 ·rw[m]at hb;rw[s]at c
  rcases f b x c with h|⟨rfl,r,l⟩
  ·exact O.base b hb x h
  ·omega
 ·rw[m]at hb;rw[n];exact O.num b hb
def again_blocked(c:aF)(e:c.status=.running)(f:c.offers=none)(w:World):({ c with status:=.blocked }:aF).again w=c:=by
 obtain⟨fr,cs,st,h,of⟩:=c;simp only at e f;subst e f;rfl
def zF(P:aB)(x e c:aF)(f:c.status=.running)(h:c.offers=none)(w:World) :
 woken P x e w { c with status:=.blocked }={ c with status:=.blocked }\/woken P x e w { c with status:=.blocked }=c:=by
 unfold woken
 split
 ·exact .inr (again_blocked c f h w)
 ·exact .inl rfl
def GF(P:aB)(x e c:aF)(f:c.status=.running)(h:c.offers=none)(w:World)(i:aI P x=true)(j:e.status=.running) :
 woken P x e w { c with status:=.blocked }=c:=by
 unfold woken;rw[if_pos (by simp[i,j])];exact again_blocked c f h w
def Sit.other(h:Sit Y G b d g w)(r:Rl Y.toFix (G.V b) (G.M b) w w')(x i:aF)(e1:G'.V b=G.V b)(j:G'.M b=G.M b)(l:G'.tr b=G.tr b)(m:G'.um Y b=G.um Y b)(n:G'.q? b=G.q? b)(f:G'.gone b↔G.gone b)(s:G'.q (gid Y b)=G.q (gid Y b))
 (u:G.waits b->G'.waits b\/(aI Y.P x=true/\i.status=.running)):Sit Y G' b d (woken Y.P x i w' g) w':=by
 cases h with
 |run hg c h=>
  rw[woken_run c];exact .run (λy=>hg (f.1 y)) c (by rw[e1,j,l,m,n];exact h.rely r)
 |wait o hg e c p v h=>
  subst e
  rcases u v with k|⟨k1,k2⟩
  ·rcases zF Y.P x i o c p w' with e|e
   ·rw[e];exact .wait o (λy=>hg (f.1 y)) rfl c p k (by rw[e1,j,l,m,n];exact h.rely r)
   ·rw[e];exact .run (λy=>hg (f.1 y)) c (by rw[e1,j,l,m,n];exact h.rely r)
  ·rw[GF Y.P x i o c p w' k1 k2];exact .run (λy=>hg (f.1 y)) c (by rw[e1,j,l,m,n];exact h.rely r)
 |gone hg h=>
  rw[ag h];exact .gone (f.2 hg) (by rw[s];exact h)
def Sit.status(h:Sit Y G b d g w):g.status=.running\/g.status=.blocked\/g.status=.finished:=by
 cases h with
 |run _ h _=>exact .inl h
 |wait _ _ e _ _ _ _=>subst e;exact .inr (.inl rfl)
 |gone _ h=>exact h.status.imp id .inr
def TV{x:MemAct}{c:Touch}{B:Nat}(h:x.touch? = some c)(hl:x.low B):c.loc.low B:=by
 cases x with
 |access e=>simp[bo]at h;subst h;exact hl
 |mark m=>cases m<;>simp[bo]at h<;>(subst h;exact hl)
 |_=>simp[bo]at h
def Aj(c:∀op∈t,op.act.low w.heap.size){l:Loc}(hl:¬l.low w.heap.size):∀i x,aa t i=some x->x.loc≠l:=by
 intro i x f e;obtain⟨op,h,j⟩:=ab f;exact hl (e▸TV j (c op (mem_of_getElem? h)))
def O6{V:Vw}{M:Own}{l:Loc}(h:TR Y.toFix V M l):l.isMemory=true:=by
 cases l<;>first|rfl|exact h.elim
def TW{V:Vw}{l:Loc}(h:RdL Y.toFix V l):l.isMemory=true:=by
 cases l<;>first|rfl|exact h.2.elim
def Jj:∀k l,(BK Y G k l\/O5 Y G k l)->l.isMemory=true:=λ_ _ h=>h.elim (λx=>O6 x.2.2) (λx=>TW x.2.2)
def OI.shun(O:OI Y G w)(hs:∀l,Y.Shun l->l.low Y.sE/\l.isMemory=true):∀l,OZ Y.toFix l->¬Y.Shun l/\l.isMemory=true:=by
 rintro l⟨a,rfl,h⟩;refine⟨λx=>?_,rfl⟩;have:=(hs _ x).1;obtain⟨_,_,_,c,e,_⟩:=O.ids;have:a.block<Y.sE:=this
 rcases h with h|h<;>omega
def OI.fam(O:OI Y G w)(hs:∀l,Y.Shun l->l.low Y.sE/\l.isMemory=true):Fam Y.Shun (OZ Y.toFix) (BK Y G) (O5 Y G):=by
 obtain⟨L,H,I,N,P,Q,_⟩:=O.ids;have blk:∀{V:Vw}{M:Own}{l:Loc},TR Y.toFix V M l->∃x,(l=.obj x\/∃f:Addr,l=.cell f/\f.block=x)/\(M x\/(x=Y.Tb/\∃f:Addr,l=.cell f/\V.row f.off)):=by
  intro V M l h
  cases l with
  |cell f=>exact⟨f.block,.inr ⟨f,rfl,rfl⟩,h.imp id λx=>⟨x.1,f,rfl,x.2⟩⟩
  |obj r=>exact⟨r,.inl rfl,.inl h⟩
  |_=>exact h.elim
 have st:∀{V:Vw}{l:Loc},RdL Y.toFix V l->∃x,(l=.obj x\/∃f:Addr,l=.cell f/\f.block=x)/\V.st x:=by
  intro V l h
  cases l with
  |cell f=>exact⟨f.block,.inr ⟨f,rfl,rfl⟩,h.2⟩
  |obj r=>exact⟨r,.inl rfl,h.2⟩
  |_=>exact h.2.elim
 have same:∀{l:Loc}{x y:Nat},(l=.obj x\/∃f:Addr,l=.cell f/\f.block=x)->(l=.obj y\/∃f:Addr,l=.cell f/\f.block=y)->x=y:=by
  rintro l x y(rfl|⟨f,rfl,rfl⟩)(h|⟨C,h,rfl⟩)
  ·cases h;rfl
  ·cases h
  ·cases h
  ·cases h;rfl
 refine⟨λk k' l h D=>?_,λk k' l h D=>?_,λk l h=>⟨λp=>?_,λp=>?_⟩,λk l h=>⟨λp=>?_,λp=>h.2.2.1 p⟩⟩
 ·obtain⟨A,B,o⟩:=h;obtain⟨J,K,s⟩:=D;refine a8 λR=>?_;obtain⟨x,v,m⟩:=blk o;obtain⟨y,hy,n⟩:=blk s;obtain rfl:=same v hy;have i:k-Y.c+1<=G.j:=by omega
  have u:k' - Y.c+1<=G.j:=by omega
  have z:k-Y.c+1≠k' - Y.c+1:=by omega
  rcases m with m|⟨e,f,e1,m⟩
  ·rcases n with n|⟨e,_⟩
   ·exact(O.dj _ _ i u z x m).1 n
   ·exact(O.ap _ i x (.inl m)).2.2.2 e
  ·rcases n with n|⟨_,C,F,n⟩
   ·exact(O.ap _ u x (.inl n)).2.2.2 e
   ·rw[e1]at F;cases F;exact O.rows _ _ i u z _ m n
 ·obtain⟨A,B,o⟩:=h;obtain⟨J,K,s⟩:=D;obtain⟨x,v,m⟩:=blk o;obtain⟨y,hy,n⟩:=st s;obtain rfl:=same v hy;have i:k-Y.c+1<=G.j:=by omega
  have u:k' - Y.c+1<=G.j:=by omega
  rcases m with m|⟨e,_⟩
  ·by_cases e:k-Y.c+1=k' - Y.c+1
   ·rw[<-e]at n;exact O.self _ i x m n
   ·exact(O.dj _ _ i u e x m).2 n
  ·exact(O.ap _ u x (.inr n)).2.2.2 e
 ·obtain⟨A,B,o⟩:=h;obtain⟨f,rfl,hb⟩:=p;have i:k-Y.c+1<=G.j:=by omega
  rcases o with m|⟨e,_⟩
  ·obtain⟨_,a1,a2,_⟩:=O.ap _ i _ (.inl m)
   rcases hb with e|e
   ·exact a1 e
   ·exact a2 e
  ·rcases hb with E|E
   ·exact H (E.symm.trans e)
   ·exact I (E.symm.trans e)
 ·obtain⟨A,B,o⟩:=h;have i:k-Y.c+1<=G.j:=by omega
  obtain⟨x,v,m⟩:=blk o;have S:x<Y.sE:=by
   have:=(hs _ p).1
   rcases v with rfl|⟨f,rfl,rfl⟩
   ·exact this
   ·exact this
  rcases m with m|⟨e,_⟩
  ·have:=O.base _ i x m;omega
  ·omega
 ·obtain⟨A,B,o⟩:=h;obtain⟨f,rfl,hb⟩:=p;have i:k-Y.c+1<=G.j:=by omega
  obtain⟨_,a1,a2,_⟩:=O.ap _ i _ (.inr o.2)
  rcases hb with e|e
  ·exact a1 e
  ·exact a2 e
end
def nG(Y:CB):Prop:=∀k w w',(∀o,Y.row k o->w'.cell? ⟨Y.Tb,o,none⟩=w.cell? ⟨Y.Tb,o,none⟩)->Y.Fin k w->Y.Fin k w'
section
variable {Y:CB}{G G':Gh}{gs:Array aF}{w w':World}{t:Trace}{a b d d':Nat}{g g':aF}{es:Array Event}{M':Own}{q:Bool}
def YA{k B:Nat}(p:k<G'.j)(hc:0<Y.c)(i:(G'.V (k+1)).g=Y.c+k)(fn:FuncId)(pos:String)(l:∀e∈es,jG Y.toFix (G'.V (k+1)) (G'.M (k+1)) B e) :
 ∀op∈bp (Y.c+k) fn pos es,OkW (OZ Y.toFix) (BK Y G') (O5 Y G') (Y.c+k) op:=by
 intro op m;obtain⟨e,f,rfl⟩:=ao m;refine⟨rfl,λx n=>?_⟩;obtain⟨o,h⟩:=(l e f).1 x n;rw[i,if_neg (by omega)]at h;have hi:Y.c+k-Y.c+1=k+1:=by omega
 refine⟨o,h.imp id λy=>⟨y.1,y.2.imp (λz=>⟨by omega,by omega,by rw[hi];exact z⟩) λz=>⟨⟨by omega,by omega,by rw[hi];exact z.1⟩,z.2⟩⟩⟩
def YB(O:OI Y G' w')(hs:∀l,Y.Shun l->l.low Y.sE/\l.isMemory=true){B:Nat}(fn:FuncId)(pos:String)(u:∀e∈es,jG Y.toFix (G'.V 0) (G'.M 0) B e) :
 ∀op∈bp 0 fn pos es,Ok0 Y.Shun (OZ Y.toFix) (BK Y G') (O5 Y G') Y.c G'.j op:=by
 intro op v;obtain⟨e,o,rfl⟩:=ao v;refine⟨rfl,λx A K=>?_⟩;obtain⟨_,s⟩:=(u e o).1 x A;have C:=O.num 0 (a5 _);rw[C,iZ,if_pos rfl]at s;obtain⟨L,N,P,Q,R,S,_⟩:=O.ids;have key:∀y,(x.loc=.obj y\/∃f:Addr,x.loc=.cell f/\f.block=y)->(G'.M 0 y\/(G'.V 0).st y)->¬OZ Y.toFix x.loc/\∀k,Y.c<=k->k<Y.c+G'.j->¬BK Y G' k x.loc:=by
  intro y hy m;obtain⟨_,a1,a2,a3⟩:=O.ap 0 (a5 _) y m;refine⟨?_,λk k1 k2 D=>?_⟩
  ·rintro⟨f,e1,hb⟩;rw[e1]at hy
   rcases hy with hy|⟨E,hy,rfl⟩
   ·cases hy
   ·cases hy
    rcases hb with hb|hb
    ·exact a1 hb
    ·exact a2 hb
  ·obtain⟨_,_,i⟩:=D;have n:k-Y.c+1<=G'.j:=by omega
   have p:G'.M (k-Y.c+1) y:=by
    rcases hy with hy|⟨f,hy,rfl⟩
    ·rw[hy]at i;exact i
    ·rw[hy]at i;exact i.resolve_right λz=>a3 z.1
   have:=O.dj (k-Y.c+1) 0 n (a5 _) (by omega) y p;exact m.elim this.1 this.2
 rcases s with h|⟨_,h|⟨h,F⟩⟩
 ·exact .inl h
 ·obtain⟨y,hy,m⟩:∃y,(x.loc=.obj y\/∃f:Addr,x.loc=.cell f/\f.block=y)/\G'.M 0 y:=by
   cases hl:x.loc with
   |cell f=>
    rw[hl]at h;refine⟨f.block,.inr ⟨f,rfl,rfl⟩,h.resolve_right λz=>?_⟩;have:=z.2;rw[O.main]at this;exact this
   |obj r=>rw[hl]at h;exact⟨r,.inl rfl,h⟩
   |_=>rw[hl]at h;exact h.elim
  obtain⟨k1,k2⟩:=key y hy (.inl m);refine .inr ⟨k1,λH=>?_,k2,λ_ k c1 T I=>?_⟩
  ·have hb:=O.base 0 (a5 _) y m;have:=(hs _ H).1
   rcases hy with hy|⟨f,hy,rfl⟩
   ·rw[hy]at this;have:y<Y.sE:=this;omega
   ·rw[hy]at this;have:f.block<Y.sE:=this;omega
  ·obtain⟨_,_,i⟩:=I;have n:k-Y.c+1<=G'.j:=by omega
   have J:(G'.V (k-Y.c+1)).st y:=by
    rcases hy with hy|⟨f,hy,rfl⟩
    ·rw[hy]at i;exact i.2
    ·rw[hy]at i;exact i.2
   exact(O.dj 0 (k-Y.c+1) (a5 _) n (by omega) y m).2 J
 ·obtain⟨y,hy,m⟩:∃y,(x.loc=.obj y\/∃f:Addr,x.loc=.cell f/\f.block=y)/\(G'.V 0).st y:=by
   cases hl:x.loc with
   |cell f=>rw[hl]at h;exact⟨f.block,.inr ⟨f,rfl,rfl⟩,h.2⟩
   |obj r=>rw[hl]at h;exact⟨r,.inl rfl,h.2⟩
   |_=>rw[hl]at h;exact h.2.elim
  obtain⟨k1,k2⟩:=key y hy (.inr m);exact .inr ⟨k1,h.1,k2,λz=>by rw[F]at z;cases z⟩
def O7(m:MI Y G gs w t)(C:a<=G.j)(s:Dl Y.toFix (G.V a) q (G.M a) d w w' es M' d')(i:G'.j=G.j)(o:G'.V=G.V)(u:G'.M=upd G.M a M'):TI Y.Shun (OZ Y.toFix) (BK Y G') (O5 Y G') Y.c G'.j t:=by
 have B:O5 Y G'=O5 Y G:=by funext k l;simp only[O5,i,o]
 rw[B,i];have v:∀b x,G.M b x->G'.M b x:=by
  intro b x h;rw[u];by_cases e:b=a
  ·subst e;rw[bb];exact(s.own x).2 (.inl h)
  ·rw[bc _ _ e];exact h
 have z:∀b x,G'.M b x->G.M b x\/w.heap.size<=x:=by
  intro b x h;rw[u]at h;by_cases e:b=a
  ·subst e;rw[bb]at h;exact((s.own x).1 h).imp id (·.1)
  ·rw[bc _ _ e]at h;exact .inl h
 refine m.tri.grow (λk l h=>⟨h.1,i▸h.2.1,?_⟩) (λk l h=>?_)
 ·have f:=h.2.2;rw[o]
  cases l with
  |cell A=>exact f.imp (v _ _) id
  |obj r=>exact v _ _ f
  |_=>exact f.elim
 ·obtain⟨p,n,f⟩:=h;rw[i]at n;rw[o]at f
  cases l with
  |cell A=>
   rcases f with f|f
   ·rcases z _ _ f with x|x
    ·exact .inl ⟨p,n,.inl x⟩
    ·exact .inr (Aj m.low (λy:A.block<w.heap.size=>by omega))
   ·exact .inl ⟨p,n,.inr f⟩
  |obj r=>
   rcases z _ _ f with x|x
   ·exact .inl ⟨p,n,x⟩
   ·exact .inr (Aj m.low (λy:r<w.heap.size=>by omega))
  |_=>exact f.elim
def Ma{i:Nat}(hi:i<Y.c)(e:0<i):i≠gid Y a:=by
 unfold gid;split<;>omega
def MI.own(m:MI Y G gs w t)(hF:nG Y)(z:a<=G.j)(hg:gs[gid Y a]?=some g)
 (l:Dl Y.toFix (G.V a) (G.q? a) (G.M a) (Deaf t (gid Y a)) w w' es M' d')
 (v:G'.j=G.j) (N:G'.V=G.V) (O:G'.M=upd G.M a M') (eq:∀i,i≠gid Y a->G'.q i=G.q i)
 (same:∀b,b<=G.j->b≠a->G'.tr b=G.tr b/\G'.um Y b=G.um Y b/\G'.q? b=G.q? b/\(G'.gone b↔G.gone b))
 (wk:∀b,b<=G.j->b≠a->G.waits b->G'.waits b\/(aI Y.P g=true/\g'.status=.running))
 (F:∀k,k<G.j->G'.wp k≠.mu->G.wp k≠.mu\/(a=k+1/\es=#[Go.ConcR.mk (.releaseMerge (stA Y.Wg))]/\Deaf t (Y.c+k)=0/\Y.Fin k w'))
 (R:G'.mp=.an->G.mp=.an\/(a=0/\es=#[Go.ConcR.mk (.acquire (stA Y.Wg))]/\Deaf t 0=0/\∀k,k<G.j->G.wp k=.quit))
 (sit:Sit Y G' a d' g' w') (sh:ShAt Y.toFix w' G'.s) (mun:cD.Inv Y.n (oD G')) (fresh:∀k,G.j<=k->G'.th k=G.th k) (out:∀k,k<G.j->G'.wp k≠.mu->(G'.th k).pc=.out)
 (wi:WI Y G') (fuel:∀k,k<G.j->phi Y G'+1<=G'.fu (k+1)) (fuel0:vK Y G'+1<=G'.fu 0) :
 MI Y G' ((gs.map (woken Y.P g g' w')).setIfInBounds (gid Y a) g') w' (t++bp (gid Y a) g.frame.fn g.frame.place es):=by
 have aH:gid Y a<gs.size:=(Array.getElem?_eq_some_iff.1 hg).1;have H:=acQ l m.tb;have S:Live Y.toFix w->Live Y.toFix w':=λ_=>TU sh H;have C:=m.oi.after z l v N O;have T:∀b,b≠gid Y a->Deaf (t++bp (gid Y a) g.frame.fn g.frame.place es) b=Deaf t b:=λb hb=>
  Deaf_other t (bj hb) _ (λop I=>by obtain⟨e,_,rfl⟩:=ao I;rfl)
 have U:Deaf (t++bp (gid Y a) g.frame.fn g.frame.place es) (gid Y a)=d':=by rw[Deaf_own];exact l.deaf.symm
 have J:∀e∈es,jG Y.toFix (G'.V a) (G'.M a) w'.heap.size e:=by rw[N,O,bb];exact l.ev
 have fW:((gs.map (woken Y.P g g' w')).setIfInBounds (gid Y a) g').size=gs.size:=by simp
 have xB:∀i x,i≠gid Y a->((gs.map (woken Y.P g g' w')).setIfInBounds (gid Y a) g')[i]?=some x->∃y,gs[i]?=some y/\x=woken Y.P g g' w' y:=by
  intro i x hi A;rw[bq (bj hi),Array.getElem?_map]at A;obtain⟨y,hy,rfl⟩:=Option.map_eq_some_iff.1 A;exact⟨y,hy,rfl⟩
 have W:∀k,k<G.j->G.wp k≠.mu->∀r,RelBy (stA Y.Wg) t (Y.c+k) r->RelBy (stA Y.Wg) (t++bp (gid Y a) g.frame.fn g.frame.place es) (Y.c+k) r:=by
  intro k f B r u;by_cases e:a=k+1
  ·subst e;rw[bQ];refine u.appOwn _ _ _ λj e X=>?_;have K:G.q? (k+1)=true:=by simp[Gh.q?,B]
   have:=l.ai1 K j e X;rw[bQ]at this;exact this
  ·exact u.appOther (g:=gid Y a) (λop I=>by obtain⟨e,_,rfl⟩:=ao I;rfl) (λx=>e (by
    have:gid Y a=gid Y (k+1):=by rw[bQ];exact x
    exact wm m.cpos this))
 refine⟨m.cpos,by rw[fW,v];exact m.size,λb hb x A=>?_,λi x E hi A=>?_,λi hi=>?_,sh,H,mun,λk f By=>?_,λk f=>out k (v▸f),wi,λk f=>fuel k (v▸f),fuel0,C,m.shun,?_,λk f B=>?_,?_,λop I=>?_,λk f B=>?_,λhm=>?_,l.tape.trans m.tape,l.output.trans m.output,m.os.trans l.os,λb hb=>?_,m.rowok,λk f o Q=>?_⟩
 ·rw[v]at hb;by_cases e:b=a
  ·subst e;rw[br (by simpa using aH)]at A;obtain rfl:=Option.some.inj A;rw[U];exact sit
  ·have D:gid Y b≠gid Y a:=λx=>e (wm m.cpos x);obtain⟨y,hy,rfl⟩:=xB _ _ D A;rw[T _ D];obtain⟨s1,s2,s3,s4⟩:=same b hb e;exact(m.sit b hb y hy).other (m.oi.rl z hb (bj e) l S) g g' (by rw[N]) (by rw[O,bc _ _ e]) s1 s2 s3 s4 (eq _ D) (wk b hb e)
 ·have D:i≠gid Y a:=Ma hi E;obtain⟨y,hy,rfl⟩:=xB _ _ D A;have:=m.old i y E hi hy;rw[T _ D,ag this,eq _ D];exact this
 ·rw[fW]at hi;rw[T _ (by omega)];exact m.above i hi
 ·rw[v]at f;rw[fresh k f];exact m.fresh k f By
 ·have T0:=O7 m z l v N O
  cases a with
  |zero=>exact T0.app0 (C.fam m.shun) (C.shun m.shun) Jj m.cpos (YB C m.shun _ _ J)
  |succ k=>
   rw[bQ];have f:k<G'.j:=by rw[v];exact z
   refine T0.appW (C.fam m.shun) (C.shun m.shun) (by omega) (by omega) (YA f m.cpos ?_ _ _ J);have:=C.num (k+1) f;rwa[bQ]at this
 ·rw[v]at f
  rcases F k f B with h|⟨rfl,rfl,E,_⟩
  ·obtain⟨r,u⟩:=m.rel k f h;exact⟨r,W k f h r u⟩
  ·rw[bQ];exact⟨t.size,RelBy.new E _ _⟩
 ·exact m.norel.app (norel_of (Wg:=Y.Wg) λe Z=>(l.ev e Z).2.1)
 ·rcases Array.mem_append.1 I with h|h
  ·exact MemAct.low_mono l.size (m.low op h)
  ·obtain⟨e,Z,rfl⟩:=ao h;exact(l.ev e Z).2.2
 ·rw[v]at f
  rcases F k f B with FA|⟨_,_,_,hf⟩
  case inr=>exact hf
  refine hF k w w' (λo Q=>?_) (m.fin k f FA);by_cases e:a=k+1
  ·subst e;have K:G.q? (k+1)=true:=by simp[Gh.q?,FA]
   simp only[World.cell?,l.calm K]
  ·refine l.cells o λu=>?_;exact m.oi.rows a (k+1) z f e o u (by rw[m.oi.rowV k f];exact Q)
 ·rcases R hm with L|⟨rfl,rfl,E,K⟩
  case inr=>
   have e1:bp (gid Y 0) g.frame.fn g.frame.place #[Go.ConcR.mk (.acquire (stA Y.Wg))]=#[{ g:=0,fn:=g.frame.fn,pos:=g.frame.place,act:=.mark (.acquire (stA Y.Wg)) }]:=by rw[ofEvents_eq];simp[iZ];rfl
   refine⟨t.size,?_,?_,⟨0,?_,?_⟩,λk f=>?_⟩
   ·rw[e1];simp[Trace.act?]
   ·rw[e1];simp[aJ]
   ·rw[e1];simp[aJ]
   ·rw[deaf_old (aT _)];exact E
   ·rw[v]at f;have B:G.wp k≠.mu:=by rw[K k f];simp
    obtain⟨r,u⟩:=m.rel k f B;exact⟨r,W k f B r u,lt_of_act? u.act⟩
  obtain⟨p,p1,p2,p3,p4⟩:=m.acq L;have hp:=lt_of_act? p1;refine⟨p,by rw[act?_old hp];exact p1,by rw[g?_old hp];exact p2,(heard_old hp).2 p3,λk f=>?_⟩;rw[v]at f;obtain⟨r,u,hrp⟩:=p4 k f;have hd:=m.wi.done (.inr (.inr L));exact⟨r,W k f (by rw[hd.2.2.2 k f];simp) r u,hrp⟩
 ·rw[l.block b ?_ ?_ ?_ ?_ ?_,m.kept b hb]
  all_goals obtain⟨i1,i2,i3,i4,i5,i6,i7,i8,i9⟩:=m.oi.ids
  ·omega
  ·intro h;have:=m.oi.base a z b h;omega
  ·omega
  ·omega
  ·omega
 ·rw[v]at f;rw[l.cells o λu=>?_]
  ·exact m.un k f o Q
  ·cases a with
   |zero=>rw[m.oi.main]at u;exact u
   |succ i=>
    rw[m.oi.rowV i z]at u;exact m.rowok i k o (by have:i<G.j:=z;omega) u Q
end
end Go.Ph
namespace Go.cD
open Go.ConcN (sumTo upd sumTo_upd upd_ne upd_same sumTo_congr le_sumTo sumTo_le)
section
variable {n:Nat}{s s':St}
def Inv.LY(h:Inv n s):s.ms<=1:=by
 cases hs:s.w.s with
 |false=>
  have:=(h.norm hs).1
  split at this<;>omega
 |true=>have:=(h.star hs).2.2.1;omega
def YE(n:Nat)(w:Wd)(T:Th):wt n w T<=16*n+43:=by
 unfold wt;cases T.pc<;>simp only<;>(repeat' split)<;>omega
def O8(h:s.ms<=1):uh n s<=(16*n+43)*n+(4*n+19):=by
 have a:=bi (f:=λi=>wt n s.w (s.th i)) (c:=16*n+43) (j:=n) λi _=>YE n s.w (s.th i);have b:(4*n+19)*s.ms<=4*n+19:=by
  have:=Nat.mul_le_mul_left (4*n+19) h;omega
 unfold uh;omega
def O9(h:OY n s' s)(a:s'.ms<=1):nQ n s'*((16*n+43)*n+(4*n+19)+1)+uh n s'<nQ n s*((16*n+43)*n+(4*n+19)+1)+uh n s:=by
 generalize b:(16*n+43)*n+(4*n+19)=K;have c:=O8 (n:=n) a;rw[b]at c
 rcases h with h|⟨d,e⟩
 ·have:(nQ n s'+1)*(K+1)<=nQ n s*(K+1):=Nat.mul_le_mul_right _ h;rw[Nat.add_mul,Nat.one_mul]at this;omega
 ·rw[d];omega
def mU{b:Type}(f:Nat->b)(i:Nat)(x y:b):upd (upd f i x) i y=upd f i y:=by
 funext a;unfold upd
 split<;>rfl
def ja{b:Type}(f:Nat->b)(i:Nat):upd f i (f i)=f:=by
 funext a;unfold upd
 split
 ·rename_i h;rw[h]
 ·rfl
end
end Go.cD
namespace Go.Ph
open Go.Conc Go.ConcN
open Go.ConcM (MuAt muA msA OsLater muBlock)
open Go.ConcR (KK WgAt stA smA rd wr mk)
open Go.cD (Wd Th Mv Head eR spin mU ja)
def YF(n:Nat)(f' f:Nat->Tree):Prop:=∃a,a<n/\Tree.Lt (f' a) (f a)/\∀b,b≠a->f' b=f b
def Jk:∀(n:Nat)(f:Nat->Tree),Acc (YF n) f
 |0,f=>⟨_,λ_ h=>by obtain⟨a,o,_⟩:=h;omega⟩
 |n+1,f=>by
  have key:∀x:Tree,Acc Tree.Lt x->∀f:Nat->Tree,f n=x->Acc (YF (n+1)) f:=by
   intro x p
   induction p with
   |intro x _ c=>
    intro f hf;have inner:∀h:Nat->Tree,Acc (YF n) h->h n=x->Acc (YF (n+1)) h:=by
     intro h r
     induction r with
     |intro h _ i=>
      intro k;refine⟨_,λj s=>?_⟩;obtain⟨a,o,l,m⟩:=s;by_cases e:a=n
      ·subst e;exact c (j a) (k▸l) j rfl
      ·exact i j ⟨a,by omega,l,m⟩ ((m n (bj e)).trans k)
    exact inner f (Jk n f) hf
  exact key (f n) (Tree.wf.apply _) f rfl
structure Mz where
 a:Nat
 b:Nat
 c:Nat
 f:Nat->Tree
 e:Nat
def ML(n:Nat)(x y:Mz):Prop:=x.a<y.a\/(x.a=y.a/\(x.b<y.b\/(x.b=y.b/\(x.c<y.c\/(x.c=y.c/\(YF n x.f y.f\/(x.f=y.f/\x.e<y.e)))))))
def acT(n:Nat):WellFounded (ML n):=by
 have w1:WellFounded (Prod.Lex (YF n) (· < · : Nat->Nat->Prop)):=(Prod.lex ⟨YF n,⟨Jk n⟩⟩ a6).wf;have w2:=(Prod.lex a6 ⟨_,w1⟩).wf;have w3:=(Prod.lex a6 ⟨_,w2⟩).wf;have w4:=(Prod.lex a6 ⟨_,w3⟩).wf;refine Subrelation.wf (r:=InvImage _ λx:Mz=>(x.a,x.b,x.c,x.f,x.e)) (λ{x y}h=>?_) (InvImage.wf _ w4);obtain⟨a,b,c,f,e⟩:=x;obtain⟨i,b',j,k,l⟩:=y;simp only[ML]at h;show Prod.Lex _ _ (a,b,c,f,e) (i,b',j,k,l)
 rcases h with h|⟨rfl,h⟩
 ·exact .left _ _ h
 ·refine .right _ ?_
  rcases h with h|⟨rfl,h⟩
  ·exact .left _ _ h
  ·refine .right _ ?_
   rcases h with h|⟨rfl,h⟩
   ·exact .left _ _ h
   ·refine .right _ ?_
    rcases h with h|⟨rfl,h⟩
    ·exact .left _ _ h
    ·exact .right _ h
section
variable {Y:CB}{G G':Gh}{gs:Array aF}{w w':World}{t:Trace}{a b d d':Nat}{g g':aF}{es:Array Event}{M':Own}{q:Bool}
def qs(Y:CB)(G:Gh):Nat:=sumTo Y.c (λi=>if i=0 then 0 else G.q i)+sumTo G.j (λk=>if G.wp k=.quit then G.q (Y.c+k) else 0)
def rn:Option aF->Nat
 |some g=>if g.status=.running then 1 else 0
 |none=>0
def awk(Y:CB)(G:Gh)(gs:Array aF):Nat:=sumTo (G.j+1) (λa=>rn gs[gid Y a]?)
def mz(Y:CB)(G:Gh)(gs:Array aF):Mz:=⟨vK Y G,phi Y G,qs Y G,G.tr,awk Y G gs⟩
def Made(Y:CB)(G:Gh)(gs:Array aF)(w:World)(t:Trace)(a:Nat)(g:aF):Prop:=
 ∃g' w' es G',stepG Y.P (gid Y a==0) g w=.go g' w' es/\MI Y G' ((gs.map (woken Y.P g g' w')).setIfInBounds (gid Y a) g') w' (t++bp (gid Y a) g.frame.fn g.frame.place es)/\
  ML (Y.n+1) (mz Y G' ((gs.map (woken Y.P g g' w')).setIfInBounds (gid Y a) g')) (mz Y G gs)
def fT(m:MI Y G gs w t)(c:a<=G.j):((G.V a).g==0)=(gid Y a==0):=by rw[m.oi.num a c]
def MI.loc(m:MI Y G gs w t)(hF:nG Y)(e:a<=G.j)(hg:gs[gid Y a]?=some g)(n:¬G.gone a){f:World->Tree}(hf:G.tr a=.node f)
 (h:∃g' w' es M' d',stepG Y.P ((G.V a).g==0) g w=.go g' w' es/\Dl Y.toFix (G.V a) (G.q? a) (G.M a) (Deaf t (gid Y a)) w w' es M' d'/\L3 Y.toFix w w'/\g'.status=.running/\jA Y.toFix (G.V a) (G.q? a) (G.um Y a) (f w) M' d' g' w'):Made Y G gs w t a g:=by
 obtain⟨g',w',es,M',d',hs,o,i,p,r⟩:=h;rw[fT m e]at hs;have key:=MI.own (G':={ G with M:=upd G.M a M',tr:=upd G.tr a (f w) }) (g':=g') m hF e hg o rfl rfl rfl (λ_ _=>rfl) (λb hb l=>⟨bc _ _ l,rfl,rfl,Iff.rfl⟩) (λb hb l c=>.inl c) (λk u c=>.inl c) (λs=>.inl s)
  (.run n p (by simp only[bb];exact r)) ⟨by rw[MuAt,i.1];exact m.sh.1,by rw[WgAt,i.2];exact m.sh.2⟩ m.mun (λ_ _=>rfl) m.out ⟨m.wi.v,m.wi.early,m.wi.late,m.wi.le,m.wi.calm,m.wi.w3,m.wi.done,m.wi.nz⟩ m.fuel m.fuel0
 refine⟨g',w',es,_,hs,key,.inr ⟨rfl,.inr ⟨rfl,.inr ⟨rfl,.inl ⟨a,?_,?_,λb hb=>bc _ _ hb⟩⟩⟩⟩⟩
 ·have:=m.wi.le;omega
 ·simp only[mz,bb,hf];exact .sub f w
end
end Go.Ph
namespace Go.Ph
open Go.Conc Go.ConcN
open Go.ConcM (MuAt muA msA OsLater muBlock)
open Go.ConcR (KK WgAt stA smA rd wr)
open Go.cD (Wd Th Mv Head eR spin mU ja)
def Ds(T:Th):cD.fh (eR T)=0/\cD.fq (eR T)=0/\cD.fk (eR T)=0/\cD.fa (eR T)=0/\cD.fr (eR T)=0/\cD.fu (eR T)=0/\cD.fw (eR T)=cD.fw T:=(Head.c2 (T:=T)).counts
def TX{n:Nat}{w:Wd}{T H:Th}(h:Head T H):cD.wt n w H<=cD.wt n w (eR T):=by
 cases h with
 |c2=>exact aT _
 |spin e f i=>
  have c:cD.wt n w (eR T)=4*n+1+(if T.aw then 0 else 4*n+1)+3*(4-T.it)+4+(if T.old=w then 0 else 4):=rfl;rw[c]
  cases hc:(!T.aw && !T.old.w&&T.old.k != 0) with
  |true=>
   have e1:cD.wt n w (cD.spin T)=4*n+1+(if T.aw then 0 else 4*n+1)+3*(4-T.it)+3:=by simp only[cD.wt,cD.spin,hc,if_true]
   rw[e1];omega
  |false=>
   have e1:cD.wt n w (cD.spin T)=4*n+1+(if T.aw then 0 else 4*n+1)+3*(4-T.it)+2:=by simp only[cD.wt,cD.spin,hc,Bool.false_eq_true,if_false]
   rw[e1];omega
def TY{n:Nat}{s:cD.St}{i:Nat}{T T':Th}(h:cD.Inv n s)(hi:i<n)(c:s.th i=T)(hA:Alt T T') :
 cD.Inv n ⟨upd s.th i T',s.w,s.ms⟩/\cD.nQ n ⟨upd s.th i T',s.w,s.ms⟩=cD.nQ n s/\cD.uh n ⟨upd s.th i T',s.w,s.ms⟩<=cD.uh n s:=by
 have f:=h.tok i hi;have e1:=ba s.th T' cD.am hi;have o:=ba s.th T' (cD.wt n s.w) hi
 cases hA with
 |refl=>subst c;rw[ja];exact⟨h,rfl,aT _⟩
 |head l _ k m=>
  rw[c]at f e1 o;obtain⟨c1,p,c3,u,v,y,z⟩:=k.counts;obtain⟨k1,k2,k3,A,B,C,D⟩:=Ds l;refine⟨cD.fX h hi (k.tok (f.r (by simp[eR])) (f.sv (.inr (.inr (.inl rfl)))) f.Yv f.old m) ?_ ?_ ?_ ?_ ?_ ?_ ?_,?_,?_⟩
  ·rw[c,c1,k1]
  ·rw[c,p,k2]
  ·rw[c,c3,k3]
  ·rw[c,u,A]
  ·rw[c,v,B]
  ·rw[c,y,C]
  ·rw[c,z,D]
  ·have:cD.am T'=cD.am (eR l):=by rw[k.am,(Head.c2 (T:=l)).am]
   unfold cD.nQ;simp only;omega
  ·have:=TX (n:=n) (w:=s.w) k;unfold cD.uh;simp only;omega
 |r2 _ b j hb=>
  rw[c]at f e1 o
  have m:T.aw=false:=by cases e:T.aw with|false=>rfl|true=>rcases f.aw e with x|x|x<;>rw[j]at x<;>cases x
  refine⟨cD.fX h hi ?_ ?_ ?_ ?_ ?_ ?_ ?_ ?_,?_,?_⟩
  ·exact cD.dg m (by simp[j]) (by simp[j]) (by simp[j]) (by simp[j]) (by simp[j]) f.old (λ_=>f.r (by simp[j])) (by simp[j]) f.Yv
  all_goals first
   |(simp[c,cD.fh,cD.fq,cD.fk,cD.fa,cD.fr,cD.fw,cD.fu];done)
   |(have:cD.am { T with sv:=b }=cD.am T:=by simp[cD.am]
     unfold cD.nQ;simp only;omega)
   |(have:cD.wt n s.w { T with sv:=b }=cD.wt n s.w T:=by simp[cD.wt,j]
     unfold cD.uh;simp only;omega)
def TZ{w w':Wd}{ms ms':Nat}{T T':Th}(h:Mv w ms T T' w' ms'):ms'<=ms\/T.pc=.us:=by
 cases h<;>first|exact .inl (aT _)|exact .inl (Nat.sub_le _ _)|exact .inr (by assumption)
def YG{T T':Th}(h:Alt T T')(c:T'.pc=.s1):T'=T:=by
 cases h with
 |refl=>rfl
 |head j _ f _=>rcases f.pc with e|e|e<;>rw[e]at c<;>cases c
 |r2 _ _ i _=>simp at c;rw[i]at c;cases c
section
variable {Y:CB}{G G':Gh}{gs:Array aF}{w w':World}{t:Trace}{a b d d':Nat}{g g':aF}{es:Array Event}{M':Own}{q:Bool}
def MI.mutex(m:MI Y G gs w t)(hF:nG Y){k:Nat}(h:k<G.j)(hg:gs[gid Y (k+1)]?=some g)(o:G.wp k=.mu)(z:(G.th k).pc≠.out)
 (f:eU Y.toFix (G.V (k+1)) (Y.Fin k) (G.fu (k+1)) (G.th k) (G.M (k+1)) (Deaf t (gid Y (k+1))) g w) (A:¬((G.th k).pc=.s1/\G.s.ms=0)):Made Y G gs w t (k+1) g:=by
 unfold eU at f;rw[if_neg z]at f;obtain⟨B,hA,f⟩:=f;have C:k<Y.n:=a7 h m.wi.le;obtain⟨p,R,i3⟩:=TY (s:=oD G) m.mun C rfl hA;have S:=m.fuel k h;obtain⟨r,D⟩:∃r,G.fu (k+1)=r+1:=⟨G.fu (k+1)-1,by omega⟩
 rw[D]at f;obtain⟨h1,h2,U,W⟩:=f;have J:=p.safe C;simp only[bb]at J;obtain⟨_,X⟩:=W G.s m.sh J p.small p.LY;have E:¬(B.pc=.s1/\G.s.ms=0):=fun⟨x,y⟩=>A ⟨by rw[<-YG hA x];exact x,y⟩;obtain⟨K,L,i,g',w',es,M',d',l,hs,Z,hD,N,O,YH⟩:=X E;rw[fT m (show k+1<=G.j from h)]at hs;obtain⟨F,P⟩:=p.move C (T:=B) (by simp only[bb]) l;simp only[mU]at F P;have Q:=cD.O9 P F.LY;have GG:phi Y { G with th:=upd G.th k K,M:=upd G.M (k+1) M',tr:=upd G.tr (k+1) O,fu:=upd G.fu (k+1) r,s:=⟨L,i,G.s.v,G.s.wt,G.s.ws⟩ }<phi Y G:=by
  have H:cD.nQ Y.n ⟨upd (oD G).th k B,(oD G).w,(oD G).ms⟩=cD.nQ Y.n (oD G):=R;rw[H]at Q;unfold phi muK;refine a7 Q ?_;omega
 have hq:G.q? (k+1)=false:=by simp[Gh.q?,o]
 have key:=MI.own (G':={ G with th:=upd G.th k K,M:=upd G.M (k+1) M',tr:=upd G.tr (k+1) O,fu:=upd G.fu (k+1) r,s:=⟨L,i,G.s.v,G.s.wt,G.s.ws⟩ }) (g':=g') m hF (show k+1<=G.j from h) hg (by rw[hq];exact hD) rfl rfl rfl (λ_ _=>rfl)
  (λb hb I=>⟨bc _ _ I,by
    cases b with
    |zero=>simp only[Gh.um];rw[bc _ _ (by omega)]
    |succ b=>simp only[Gh.um];rw[bc _ _ I,bc _ _ (by omega)],rfl,Iff.rfl⟩)
  (λb hb I c=>by
    cases b with
    |zero=>exact .inl c
    |succ b=>
     obtain⟨x1,x2,x3⟩:=c
     rcases TZ l with e|e
     ·exact .inl ⟨x1,by simp only;rw[bc _ _ (by omega)];exact x2,by simp only;omega⟩
     ·exact .inr ⟨U e,N⟩)
  (λk h c=>.inl c) (λhm=>.inl hm)
  (.run (by simp[Gh.gone,o]) N (by simp only[Gh.q?,Gh.um,o,bb,ne_eq,not_true_eq_false,decide_false];exact YH)) Z F (λk' u=>bc _ _ (by omega))
  (λk' u c=>by
    have:k'≠k:=λe=>c (by rw[e];exact o)
    simp only;rw[bc _ _ this];exact m.out k' u c)
  ⟨m.wi.v,m.wi.early,m.wi.late,m.wi.le,m.wi.calm,m.wi.w3,m.wi.done,m.wi.nz⟩
  (λk' u=>by
    by_cases e:k'=k
    ·subst e;simp only[bb];omega
    ·simp only;rw[bc _ _ (by omega)];have:=m.fuel k' u;omega)
  (by simp only;rw[bc _ _ (by omega)];exact m.fuel0)
 exact⟨g',w',es,_,hs,key,.inr ⟨rfl,.inl GG⟩⟩
def MI.block(m:MI Y G gs w t)(hF:nG Y)(p:a<=G.j)(hg:gs[gid Y a]?=some g)(r:¬G.gone a)(n:g.status=.running)(f:g.offers=none)(e:G.waits a)
 (s:jA Y.toFix (G.V a) (G.q? a) (G.um Y a) (G.tr a) (G.M a) (Deaf t (gid Y a)) g w) (hs:stepG Y.P (gid Y a==0) g w=.go { g with status:=.blocked } w #[]):Made Y G gs w t a g:=by
 have u:Dl Y.toFix (G.V a) (G.q? a) (G.M a) (Deaf t (gid Y a)) w w #[] (G.M a) (Deaf t (gid Y a)):=
  ⟨rfl,rfl,.refl _,aT _,λ_ _ _ _ _ _=>rfl,λc h=>⟨c,h,rfl⟩,λ_ _=>rfl,λ_=>rfl,λb=>⟨.inl,λh=>h.resolve_right λx=>by omega⟩,by simp,by simp,rfl⟩
 have v:G.M=upd G.M a (G.M a):=(ja _ _).symm;have key:=MI.own (G':=G) (g':={ g with status:=.blocked }) m hF p hg u rfl rfl v (λ_ _=>rfl) (λb hb y=>⟨rfl,rfl,rfl,Iff.rfl⟩) (λb hb y e=>.inl e) (λk C e=>.inl e) (λz=>.inl z)
  (.wait g r rfl n f e s) m.sh m.mun (λ_ _=>rfl) m.out m.wi m.fuel m.fuel0
 refine⟨_,_,_,G,hs,key,.inr ⟨rfl,.inr ⟨rfl,.inr ⟨rfl,.inr ⟨rfl,?_⟩⟩⟩⟩⟩;have l:gs.map (woken Y.P g { g with status:=.blocked } w)=gs:=by
  have:woken Y.P g { g with status:=.blocked } w=id:=by funext o;exact Go.ConcM.woken_by_blocked rfl
  rw[this,Array.map_id]
 show awk Y G _<awk Y G gs;rw[l];unfold awk;have A:gid Y a<gs.size:=(Array.getElem?_eq_some_iff.1 hg).1;have B:sumTo (G.j+1) (λb=>rn (gs.setIfInBounds (gid Y a) { g with status:=.blocked })[gid Y b]?)=sumTo (G.j+1) (λb=>upd (λa=>rn gs[gid Y a]?) a 0 b):=by
  refine sumTo_congr λb _=>?_;by_cases h:b=a
  ·subst h;rw[bb,br A];rfl
  ·rw[bc _ _ h,bq λx=>h (wm m.cpos x.symm)]
 rw[B];have D:sumTo (G.j+1) (λb=>upd (λa=>rn gs[gid Y a]?) a 0 b)+rn (some g)=sumTo (G.j+1) (λa=>rn gs[gid Y a]?)+0:=by
  have:=ba (j:=G.j+1) (i:=a) (λa=>rn gs[gid Y a]?) 0 id (by omega);simpa only[id,hg]using this
 have E:rn (some g)=1:=by simp[rn,n]
 omega
end
end Go.Ph
