/- Part of the proof of FieldFlat and FieldMarshals. -/
import Derived.Conc.Beside
import Derived.Conc.CrowdBase
import Derived.Conc.CrowdTrace
import Derived.Conc.Strewn
set_option linter.all false
open Go.Conc renaming touchAt->aa,touch_of->ab,noRace_append->ac
open Go renaming HappensBefore->ad
open Nat renaming lt_or_ge->ae,mul_add->ag,mul_one->ai,le_refl->ao
open Go.ConcN renaming sumTo_upd->ap,upd->aq,le_sumTo->ar,sumTo_le->aB
namespace Go.Ph
open Go.Conc Go.ConcN
section
variable (Shun Sh:Loc->Prop)(Own Rd:Nat->Loc->Prop)
structure Fam:Prop where
 own:∀k k' l,Own k l->Own k' l->k=k'
 ownRd:∀k k' l,Own k l->¬Rd k' l
 ownSh:∀k l,Own k l->¬Sh l/\¬Shun l
 rdSh:∀k l,Rd k l->¬Sh l/\¬Shun l
structure TI(c j:Nat)(t:Trace):Prop where
 nr:∀said,¬Race said t
 shun:∀i a,aa t i=some a->Shun a.loc->a.loc.isMemory=true->Knows t 0 i\/a.kind=.atomic
 quiet:Quiet Sh t
 own:∀k,c<=k->k<c+j->∀l,Own k l->Perm t k l
 rd:∀k,c<=k->k<c+j->∀l,Rd k l->PermW t k l
 free:∀l,l.isMemory=true->¬Sh l->¬Shun l->(∀k,c<=k->k<c+j->¬Own k l/\¬Rd k l)->Perm t 0 l
 mine:∀l,l.isMemory=true->¬Sh l->¬Shun l->(∀k,c<=k->k<c+j->¬Own k l)->PermW t 0 l
 elder:∀(i:Nat)(op:MemOp)(a:Touch),t[i]?=some op->op.g≠0->op.g<c->op.act.touch? = some a->a.loc.isMemory=true->Knows t 0 i\/(Shun a.loc/\a.kind=.atomic)
 over:∀i g,t.g? i=some g->g≠0->g<c->t.counts i->∃p,t.g? p=some 0/\ad t i p
 child:∀(i:Nat)(op:MemOp)(a:Touch),t[i]?=some op->c<=op.g->op.act.touch? = some a->a.kind=.plain\/Sh a.loc
 LY:∀(i:Nat)(op:MemOp),t[i]?=some op->c+j<=op.g->op.act.touch? = none
def Ok0(c j:Nat)(op:MemOp):Prop:=
 op.g=0/\∀x,op.act.touch? = some x->x.loc.isMemory=true->(Sh x.loc/\x.kind≠.plain)\/(¬Sh x.loc/\¬Shun x.loc/\(∀k,c<=k->k<c+j->¬Own k x.loc)/\(x.write=true->∀k,c<=k->k<c+j->¬Rd k x.loc))
def OkW(k:Nat)(op:MemOp):Prop:=
 op.g=k/\∀x,op.act.touch? = some x->x.loc.isMemory=true/\((Sh x.loc/\x.kind=.atomic)\/(x.kind=.plain/\(Own k x.loc\/(Rd k x.loc/\x.write=false))))
end
section
variable {Shun Sh:Loc->Prop}{Own Rd:Nat->Loc->Prop}{c j:Nat}{t u:Trace}
def gk{i:Nat}{op:MemOp}(h:(t++u)[i]?=some op):(t[i]?=some op/\i<t.size)\/op∈u:=by
 rcases getElem?_append_cases h with⟨a,b⟩|⟨_,b⟩
 ·exact .inl ⟨b,a⟩
 ·exact .inr b
def sC(h:∀i g,t.g? i=some g->g≠0->g<c->t.counts i->∃p,t.g? p=some 0/\ad t i p)(k:∀op∈u,op.g=0\/c<=op.g\/op.act.touch? = none) :
 ∀i g,(t++u).g? i=some g->g≠0->g<c->(t++u).counts i->∃p,(t++u).g? p=some 0/\ad (t++u) i p:=by
 intro i g hg l m hc;obtain⟨x,n,_⟩:=id hc;obtain⟨op,b,d⟩:=ab n;have a:op.g=g:=by simpa[Trace.g?,b]using hg
 rcases gk b with⟨o,hi⟩|q
 ·obtain⟨p,f,hb⟩:=h i g (by simp[Trace.g?,o,a]) l m ((counts_old hi).1 hc);exact⟨p,by rw[g?_old (lt_of_g? f)];exact f,hb_app u hb⟩
 ·rcases k op q with e|e|e
  ·omega
  ·omega
  ·rw[e]at d;cases d
def pP(h:∀(i:Nat)(op:MemOp)(a:Touch),t[i]?=some op->op.g≠0->op.g<c->op.act.touch? = some a->a.loc.isMemory=true->Knows t 0 i\/(Shun a.loc/\a.kind=.atomic))(f:∀op∈u,op.g=0\/c<=op.g\/op.act.touch? = none) :
 ∀(i:Nat)(op:MemOp)(a:Touch),(t++u)[i]?=some op->op.g≠0->op.g<c->op.act.touch? = some a->a.loc.isMemory=true->Knows (t++u) 0 i\/(Shun a.loc/\a.kind=.atomic):=by
 intro i op a hi d k b l
 rcases gk hi with⟨m,_⟩|n
 ·exact(h i op a m d k b l).imp (·.app u) id
 ·rcases f op n with e|e|e
  ·exact absurd e d
  ·omega
  ·rw[e]at b;cases b
def sD(h:∀i a,aa t i=some a->Shun a.loc->a.loc.isMemory=true->Knows t 0 i\/a.kind=.atomic)(e:∀op∈u,∀x,op.act.touch? = some x->x.loc.isMemory=true->¬Shun x.loc) :
 ∀i a,aa (t++u) i=some a->Shun a.loc->a.loc.isMemory=true->Knows (t++u) 0 i\/a.kind=.atomic:=by
 intro i a f hs b;obtain⟨op,g,d⟩:=ab f
 rcases gk g with⟨k,_⟩|l
 ·exact(h i a (by rw[touchAt_of k];exact d) hs b).imp (·.app u) id
 ·exact absurd hs (e op l a d b)
def TI.app0(A:Fam Shun Sh Own Rd)(y:∀l,Sh l->¬Shun l/\l.isMemory=true)(z:∀k l,(Own k l\/Rd k l)->l.isMemory=true)(h:TI Shun Sh Own Rd c j t)(hc:0<c)(g:∀op∈u,Ok0 Shun Sh Own Rd c j op):TI Shun Sh Own Rd c j (t++u):=by
 refine⟨λsaid=>?_,sD h.shun λop d x r m=>?_,h.quiet.app λop d x r hs=>?_,λk k1 n l hl=>(h.own k k1 n l hl).app λop d b hb e=>?_,λk k1 n l hl=>(h.rd k k1 n l hl).app λop d b hb e C=>?_,
  λl m hs f hl=>(h.free l m hs f hl).app λop d _ _ _=>(g op d).1,λl m hs f hl=>(h.mine l m hs f hl).app λop d _ _ _ _=>(g op d).1,
  pP h.elder λop d=>.inl (g op d).1,sC h.over λop d=>.inl (g op d).1,λi op a hi hg p=>?_,λi op hi hg=>?_⟩
 ·refine ac (h.nr said) (λop d=>(g op d).1) (λi a p op d b hb o=>?_);have m:b.loc.isMemory=true:=by rw[<-o.1];exact o.2.1
  rcases(g op d).2 b hb m with⟨hs,s⟩|⟨hs,f,B,D⟩
  ·exact h.quiet.known hs s (λ_=>rfl) i a p o
  ·cases q:b.write with
   |true=>exact h.free b.loc m hs f (λk k1 n=>⟨B k k1 n,D q k k1 n⟩) i a p o.1
   |false=>exact h.mine b.loc m hs f B i a p o.1 (o.2.2.1.resolve_right (by simp[q]))
 ·rcases(g op d).2 x r m with⟨hs,_⟩|⟨_,f,_⟩
  ·exact(y _ hs).1
  ·exact f
 ·rcases(g op d).2 x r (y _ hs).2 with⟨_,s⟩|⟨f,_⟩
  ·exact⟨s,λ_=>(g op d).1⟩
  ·exact absurd hs f
 ·rcases(g op d).2 b hb (by rw[e];exact z k l (.inl hl)) with⟨hs,_⟩|⟨_,_,f,_⟩
  ·exact absurd (e▸hs) (A.ownSh k l hl).1
  ·exact absurd (e▸hl) (f k k1 n)
 ·rcases(g op d).2 b hb (by rw[e];exact z k l (.inr hl)) with⟨hs,_⟩|⟨_,_,_,f⟩
  ·exact absurd (e▸hs) (A.rdSh k l hl).1
  ·exact absurd (e▸hl) (f C k k1 n)
 ·rcases gk hi with⟨v,_⟩|w
  ·exact h.child i op a v hg p
  ·rw[(g op w).1]at hg;omega
 ·rcases gk hi with⟨v,_⟩|w
  ·exact h.LY i op v hg
  ·rw[(g op w).1]at hg;omega
def TI.appW(A:Fam Shun Sh Own Rd)(J:∀l,Sh l->¬Shun l/\l.isMemory=true)(h:TI Shun Sh Own Rd c j t){k:Nat}(k1:c<=k)(v:k<c+j)(n:∀op∈u,OkW Sh Own Rd k op):TI Shun Sh Own Rd c j (t++u):=by
 have hg:∀op∈u,op.g=k:=λop d=>(n op d).1
 refine⟨λsaid=>?_,sD h.shun λop d x B y=>?_,h.quiet.app λop d x B hs=>?_,λk' p q l hl=>(h.own k' p q l hl).app λop d b hb e=>?_,λk' p q l hl=>(h.rd k' p q l hl).app λop d b hb e w=>?_,
  λl y hs C hl=>(h.free l y hs C hl).app λop d b hb e=>?_,λl y hs C hl=>(h.mine l y hs C hl).app λop d b hb e w=>?_,
  pP h.elder λop d=>.inr (.inl (by rw[hg op d];exact k1)),sC h.over λop d=>.inr (.inl (by rw[hg op d];exact k1)),λi op a hi o r=>?_,λi op hi o=>?_⟩
 ·refine ac (h.nr said) hg (λi a r op d b hb z=>?_);obtain⟨_,D⟩:=(n op d).2 b hb
  rcases D with⟨hs,s⟩|⟨_,f|⟨m,E⟩⟩
  ·exact h.quiet.known hs (by rw[s];simp) (λe=>by rw[s]at e;cases e) i a r z
  ·exact h.own k k1 v b.loc f i a r z.1
  ·exact h.rd k k1 v b.loc m i a r z.1 (z.2.2.1.resolve_right (by simp[E]))
 ·rcases((n op d).2 x B).2 with⟨hs,_⟩|⟨_,f|⟨m,_⟩⟩
  ·exact(J _ hs).1
  ·exact(A.ownSh k _ f).2
  ·exact(A.rdSh k _ m).2
 ·rcases((n op d).2 x B).2 with⟨_,s⟩|⟨_,f|⟨m,_⟩⟩
  ·rw[s];exact⟨by simp,by simp⟩
  ·exact absurd hs (A.ownSh k _ f).1
  ·exact absurd hs (A.rdSh k _ m).1
 ·rcases((n op d).2 b hb).2 with⟨hs,_⟩|⟨_,f|⟨m,_⟩⟩
  ·exact absurd (e▸hs) (A.ownSh k' l hl).1
  ·rw[hg op d];exact A.own k k' l (e▸f) hl
  ·exact absurd (e▸m) (A.ownRd k' k l hl)
 ·rcases((n op d).2 b hb).2 with⟨hs,_⟩|⟨_,f|⟨_,m⟩⟩
  ·exact absurd (e▸hs) (A.rdSh k' l hl).1
  ·exact absurd hl (A.ownRd k k' l (e▸f))
  ·rw[m]at w;cases w
 ·rcases((n op d).2 b hb).2 with⟨F,_⟩|⟨_,f|⟨m,_⟩⟩
  ·exact absurd (e▸F) hs
  ·exact absurd (e▸f) (hl k k1 v).1
  ·exact absurd (e▸m) (hl k k1 v).2
 ·rcases((n op d).2 b hb).2 with⟨F,_⟩|⟨_,f|⟨_,m⟩⟩
  ·exact absurd (e▸F) hs
  ·exact absurd (e▸f) (hl k k1 v)
  ·rw[m]at w;cases w
 ·rcases gk hi with⟨H,_⟩|I
  ·exact h.child i op a H o r
  ·rcases((n op I).2 a r).2 with⟨hs,_⟩|⟨s,_⟩
   ·exact .inr hs
   ·exact .inl s
 ·rcases gk hi with⟨H,_⟩|I
  ·exact h.LY i op H o
  ·rw[hg op I]at o;omega
def TI.appMute(h:TI Shun Sh Own Rd c j t){g:Nat}(hg:∀op∈u,op.g=g)(f:∀op∈u,op.act.touch? = none):TI Shun Sh Own Rd c j (t++u):=by
 have no:∀op∈u,∀b,op.act.touch? = some b->False:=λop d b hb=>by rw[f op d]at hb;cases hb
 refine⟨λsaid=>ac (h.nr said) hg λi a _ op d b hb _=>(no op d b hb).elim,sD h.shun λop d x m _=>(no op d x m).elim,h.quiet.app λop d x m _=>(no op d x m).elim,λk k1 n l hl=>(h.own k k1 n l hl).app λop d b hb _=>(no op d b hb).elim,λk k1 n l hl=>(h.rd k k1 n l hl).app λop d b hb _ _=>(no op d b hb).elim,
  λl o hs p hl=>(h.free l o hs p hl).app λop d b hb _=>(no op d b hb).elim,λl o hs p hl=>(h.mine l o hs p hl).app λop d b hb _ _=>(no op d b hb).elim,
  pP h.elder λop d=>.inr (.inr (f op d)),sC h.over λop d=>.inr (.inr (f op d)),λi op a hi e s=>?_,λi op hi e=>?_⟩
 ·rcases gk hi with⟨q,_⟩|r
  ·exact h.child i op a q e s
  ·exact(no op r a s).elim
 ·rcases gk hi with⟨q,_⟩|r
  ·exact h.LY i op q e
  ·exact f op r
def TI.fork(A:Fam Shun Sh Own Rd)(F:∀k l,(Own k l\/Rd k l)->l.isMemory=true)(h:TI Shun Sh Own Rd c j t){x y:MemOp}(q:x.g=0/\x.act=.go (c+j))(hy:y.g=c+j/\y.act=.start)(H:Deaf t 0=0)(I:Deaf t (c+j)=0):TI Shun Sh Own Rd c (j+1) (t ++ #[x,y]):=by
 have f:∀op∈#[x,y],op.act.touch? = none:=by
  intro op d;simp only[List.mem_toArray,List.mem_cons,List.not_mem_nil,or_false]at d
  rcases d with rfl|rfl
  ·rw[q.2];rfl
  ·rw[hy.2];rfl
 have no:∀op∈#[x,y],∀b,op.act.touch? = some b->False:=λop d b hb=>by rw[f op d]at hb;cases hb
 have n:∀{i:Nat}{a:Touch},aa (t ++ #[x,y]) i=some a->aa t i=some a:=by
  intro i a m;obtain⟨z,J,o⟩:=ab m
  rcases gk J with⟨K,_⟩|r
  ·rw[touchAt_of K];exact o
  ·exact(no z r a o).elim
 refine⟨λsaid=>?_,sD h.shun λop d b hb _=>(no op d b hb).elim,h.quiet.app λop d b hb _=>(no op d b hb).elim,λk k1 s l hl=>?_,λk k1 s l hl=>?_,
  λl v hs w hl=>(h.free l v hs w λk k1 s=>hl k k1 (by omega)).app λop d b hb _=>(no op d b hb).elim,λl v hs w hl=>(h.mine l v hs w λk k1 s=>hl k k1 (by omega)).app λop d b hb _ _=>(no op d b hb).elim,
  pP h.elder λop d=>.inr (.inr (f op d)),sC h.over λop d=>.inr (.inr (f op d)),λi op a hi p m=>?_,λi op hi p=>?_⟩
 ·have e:t ++ #[x,y]=(t ++ #[x]) ++ #[y]:=by apply Array.ext';simp
  rw[e];refine ac (g:=c+j) (ac (g:=0) (h.nr said) (λop d=>by simp at d;rw[d];exact q.1) (λi a _ op d b hb _=>(no op (by simp at d ⊢;exact .inl d) b hb).elim))
   (λop d=>by simp at d;rw[d];exact hy.1) (λi a _ op d b hb _=>(no op (by simp at d ⊢;exact .inr d) b hb).elim)
 ·rcases ae k (c+j) with B|L
  ·exact(h.own k k1 B l hl).app λop d b hb _=>(no op d b hb).elim
  ·obtain rfl:k=c+j:=by omega
   exact λi a m e=>fork_knows q hy H I (h.free l (F _ l (.inl hl)) (A.ownSh _ l hl).1 (A.ownSh _ l hl).2 (λk' _ M=>⟨λC=>by have:=A.own _ _ l C hl;omega,A.ownRd _ _ l hl⟩) i a (n m) e)
 ·rcases ae k (c+j) with B|L
  ·exact(h.rd k k1 B l hl).app λop d b hb _ _=>(no op d b hb).elim
  ·obtain rfl:k=c+j:=by omega
   exact λi a m e N=>fork_knows q hy H I (h.mine l (F _ l (.inr hl)) (A.rdSh _ l hl).1 (A.rdSh _ l hl).2 (λk' _ _ C=>A.ownRd _ _ l C hl) i a (n m) e N)
 ·rcases gk hi with⟨D,_⟩|E
  ·exact h.child i op a D p m
  ·exact(no op E a m).elim
 ·rcases gk hi with⟨D,_⟩|E
  ·exact h.LY i op D (by omega)
  ·exact f op E
def TI.grow{f:Nat->Loc->Prop}(h:TI Shun Sh Own Rd c j t)(m:∀k l,Own k l->f k l)(n:∀k l,f k l->Own k l\/∀i a,aa t i=some a->a.loc≠l):TI Shun Sh f Rd c j t:=
 ⟨h.nr,h.shun,h.quiet,λk k1 b l hl=>(n k l hl).elim (h.own k k1 b l) λd i a o e=>absurd e (d i a o),h.rd,
  λl g hs d hl=>h.free l g hs d λk k1 b=>⟨λx=>(hl k k1 b).1 (m k l x),(hl k k1 b).2⟩,λl g hs d hl=>h.mine l g hs d λk k1 b x=>hl k k1 b (m k l x),h.elder,h.over,h.child,h.LY⟩
def TI.choose{g b:Nat->Loc->Prop}(h:TI Shun Sh Own Rd c j t)(d:∀k l,c<=k->k<c+j->(g k l↔Own k l))(i:∀k l,c<=k->k<c+j->(b k l↔Rd k l)):TI Shun Sh g b c j t:=
 ⟨h.nr,h.shun,h.quiet,λk k1 a l hl=>h.own k k1 a l ((d k l k1 a).1 hl),λk k1 a l hl=>h.rd k k1 a l ((i k l k1 a).1 hl),
  λl e hs f hl=>h.free l e hs f λk k1 a=>⟨λx=>(hl k k1 a).1 ((d k l k1 a).2 x),λx=>(hl k k1 a).2 ((i k l k1 a).2 x)⟩,λl e hs f hl=>h.mine l e hs f λk k1 a x=>hl k k1 a ((d k l k1 a).2 x),h.elder,h.over,h.child,h.LY⟩
def TI.GA{a:Addr}{q B:Nat}(h:TI Shun Sh Own Rd c j t)(rel:∀k,c<=k->k<c+j->(∃i,t.g? i=some k)->∃r,RelBy a t k r/\r<q)(F:NoRelease a t)
 (H:t.act? q=some (.mark (.acquire a))) (hg:t.g? q=some 0) (I:t.heard q) (hd:Deaf t 0=0) (hl:∀op∈t,op.act.low B):Past (λl=>Shun l\/Sh l) B t:=by
 have key:∀i k,c<=k->k<c+j->t.g? i=some k->t.counts i->ad t i q:=by
  intro i k k1 J hi hc;obtain⟨r,n,s⟩:=rel k k1 J ⟨i,hi⟩;have edge:ad t r q:=.single (.inr ⟨.marked s (.inr n.act) H (λk _ _=>F k),n.heard,I⟩);have K:i<=r:=Nat.le_of_not_lt λd=>n.after i d hi hc
  rcases ae i r with d|m
  ·exact .trans (.single (.inl ⟨d,k,hi,n.g⟩)) edge
  ·obtain rfl:i=r:=by omega
   exact edge
 have v:∀{i:Nat}{op:MemOp},t[i]?=some op->t.g? i=some op.g:=λh=>by simp[Trace.g?,h]
 obtain⟨L,w,y⟩:=Option.map_eq_some_iff.1 hg;refine⟨h.nr,λi a A C=>?_,λi g z M hc=>?_,hd,hl⟩
 ·obtain⟨op,b,o⟩:=ab A;by_cases D:op.g=0
  ·have:=knows_own b;rw[D]at this;exact .inl this
  ·rcases ae op.g c with d|m
   ·exact(h.elder i op a b D d o C).imp id λx=>⟨.inl x.1,x.2⟩
   ·rcases ae op.g (c+j) with f|f
    ·by_cases hc:t.counts i
     ·exact .inl ⟨q,L,w,y,.inr (key i op.g m f (v b) hc)⟩
     ·have p:a.kind=.atomic:=Classical.byContradiction λp=>hc ⟨a,A,C,.inl p⟩
      rcases h.child i op a b m o with e|e
      ·rw[p]at e;cases e
      ·exact .inr ⟨.inr e,p⟩
    ·rw[h.LY i op b f]at o;cases o
 ·rcases ae g c with d|m
  ·exact h.over i g z M d hc
  ·rcases ae g (c+j) with f|f
   ·exact⟨q,hg,key i g m f z hc⟩
   ·obtain⟨x,N,_⟩:=hc;obtain⟨op,b,E⟩:=ab N;have:op.g=g:=by simpa[Trace.g?,b]using z
    rw[h.LY i op b (by omega)]at E;cases E
end
end Go.Ph
namespace Go.cD
open Go.ConcN (sumTo upd sumTo_upd upd_ne upd_same sumTo_congr le_sumTo sumTo_le)
inductive Pc where
 |out|l0|r0|c1|r1|c2|r3|s1|r2|a1|u0|uc|ux|us
 deriving DecidableEq,Repr
structure Wd where
 l:Bool:=false
 w:Bool:=false
 s:Bool:=false
 k:Nat:=0
 deriving DecidableEq,Repr
structure Th where
 pc:Pc
 old:Wd:={}
 nw:Wd:={}
 aw:Bool:=false
 sv:Bool:=false
 it:Nat:=0
 ex:Bool:=false
 r:Nat
 deriving DecidableEq,Repr
def qZ(T:Th):Wd:=
 { l:=T.old.l || !T.old.s,w:=T.old.w && !T.aw,s:=T.old.s||(T.sv&&T.old.l),k:=if T.old.l||T.old.s then T.old.k+1 else T.old.k }
def eR(T:Th):Th:={ T with pc:=.c2,nw:=qZ T }
def spin(T:Th):Th:={ T with pc:=if !T.aw && !T.old.w&&T.old.k != 0 then .c1 else .r1 }
inductive Head(T:Th):Th->Prop
 |c2:Head T (eR T)
 |spin:T.old.l=true->T.old.s=false->T.it<4->Head T (spin T)
def bP(r:Nat):Th:=if r<=1 then { pc:=.out,r:=0 } else { pc:=.l0,r:=r-1 }
inductive Mv(w:Wd)(ms:Nat):Th->Th->Wd->Nat->Prop
 |lock (T:Th):T.pc=.l0->w={}->Mv w ms T { pc:=.u0,r:=T.r } { l:=true } ms
 |acJ (T:Th):T.pc=.l0->w≠{}->Mv w ms T { pc:=.r0,r:=T.r } w ms
 |Ws (T H:Th):T.pc=.r0->Head { pc:=.r0,old:=w,r:=T.r } H->Mv w ms T H w ms
 |Wt (T:Th):T.pc=.c1->w=T.old->Mv w ms T { T with pc:=.r1,aw:=true } { w with w:=true } ms
 |Wu (T:Th):T.pc=.c1->w≠T.old->Mv w ms T { T with pc:=.r1 } w ms
 |Wv (T H:Th):T.pc=.r1->Head { T with old:=w,it:=T.it+1 } H->Mv w ms T H w ms
 |take (T:Th):T.pc=.c2->w=T.old->w.l=false->w.s=false->Mv w ms T { pc:=.u0,r:=T.r } T.nw ms
 |queue (T:Th):T.pc=.c2->w=T.old->(w.l=true\/w.s=true)->Mv w ms T { pc:=.s1,sv:=T.sv,r:=T.r } T.nw ms
 |Ww (T:Th):T.pc=.c2->w≠T.old->Mv w ms T { T with pc:=.r3 } w ms
 |Wx (T H:Th):T.pc=.r3->Head { T with old:=w } H->Mv w ms T H w ms
 |woken (T:Th) (b:Bool):T.pc=.s1->(T.sv=true->b=true)->ms≠0->Mv w ms T { pc:=.r2,sv:=b,r:=T.r } w (ms-1)
 |Wz (T H:Th):T.pc=.r2->w.s=false->Head { T with old:=w,aw:=true,it:=0 } H->Mv w ms T H w ms
 |handed (T:Th):T.pc=.r2->w.s=true->Mv w ms T { pc:=.a1,sv:=T.sv,ex:=!T.sv||w.k==1,r:=T.r } w ms
 |acK (T:Th):T.pc=.a1->Mv w ms T { pc:=.u0,r:=T.r } { l:=true,w:=w.w,s:=w.s && !T.ex,k:=w.k-1 } ms
 |free (T:Th):T.pc=.u0->w.s=false->(w.k=0\/w.w=true)->Mv w ms T (bP T.r) { w with l:=false } ms
 |hand (T:Th):T.pc=.u0->w.s=true->Mv w ms T { pc:=.us,r:=T.r } { w with l:=false } ms
 |acL (T:Th):T.pc=.u0->w.s=false->w.k≠0->w.w=false->Mv w ms T { pc:=.uc,old:={ w with l:=false },r:=T.r } { w with l:=false } ms
 |release (T:Th):T.pc=.uc->w=T.old->Mv w ms T { pc:=.us,r:=T.r } { w with k:=w.k-1,w:=true } ms
 |again (T:Th):T.pc=.uc->w≠T.old->Mv w ms T { pc:=.ux,r:=T.r } w ms
 |leave (T:Th):T.pc=.ux->(w.k=0\/w.l=true\/w.w=true\/w.s=true)->Mv w ms T (bP T.r) w ms
 |WA (T:Th):T.pc=.ux->w.k≠0->w.l=false->w.w=false->w.s=false->Mv w ms T { pc:=.uc,old:=w,r:=T.r } w ms
 |post (T:Th):T.pc=.us->Mv w ms T (bP T.r) w (ms+1)
def fh(T:Th):Nat:=if T.pc=.u0 then 1 else 0
def fq(T:Th):Nat:=if T.pc=.s1 then 1 else 0
def fk(T:Th):Nat:=if T.pc=.r2 then 1 else 0
def fa(T:Th):Nat:=if T.pc=.a1 then 1 else 0
def fr(T:Th):Nat:=if T.pc=.us then 1 else 0
def fw(T:Th):Nat:=if T.aw then 1 else 0
def fu(T:Th):Nat:=if T.pc=.uc\/T.pc=.ux then 1 else 0
structure Tok(n:Nat)(T:Th):Prop where
 aw:T.aw=true->T.pc=.r1\/T.pc=.c2\/T.pc=.r3
 sv:T.pc=.r1\/T.pc=.c1\/T.pc=.c2\/T.pc=.r3->T.sv=true->T.aw=true
 c1:T.pc=.c1->T.old.l=true/\T.old.s=false/\T.old.w=false/\T.old.k≠0
 it:T.pc=.c1\/T.pc=.r1->T.it<4
 Yv:T.it<=4
 c2:T.pc=.c2->T.nw=qZ T
 c2w:T.pc=.c2->T.aw=true->T.old.w=true
 uc:T.pc=.uc->T.old.l=false/\T.old.s=false/\T.old.w=false/\T.old.k≠0
 old:T.old.k<=n
 r:T.pc≠.out->1<=T.r
 r0:T.pc=.out->T.r=0
structure St where
 th:Nat->Th
 w:Wd
 ms:Nat
structure Inv(n:Nat)(s:St):Prop where
 tok:∀i,i<n->Tok n (s.th i)
 hold:sumTo n (λi=>fh (s.th i))<=1
 lock:s.w.l=true↔sumTo n (λi=>fh (s.th i))=1
 norm:s.w.s=false->sumTo n (λi=>fw (s.th i))+sumTo n (λi=>fr (s.th i))+s.ms+sumTo n (λi=>fk (s.th i))=(if s.w.w then 1 else 0)/\
  sumTo n (λi=>fa (s.th i))=0/\sumTo n (λi=>fq (s.th i))=s.w.k+sumTo n (λi=>fr (s.th i))+s.ms
 star:s.w.s=true->s.w.w=false/\sumTo n (λi=>fw (s.th i))=0/\
  sumTo n (λi=>fh (s.th i))+sumTo n (λi=>fr (s.th i))+s.ms+sumTo n (λi=>fk (s.th i))+sumTo n (λi=>fa (s.th i))=1/\
  sumTo n (λi=>fq (s.th i))+sumTo n (λi=>fk (s.th i))+sumTo n (λi=>fa (s.th i))=s.w.k
 Yw:s.w.s=false->s.w.w=false->s.w.l=false->s.w.k≠0->1<=sumTo n (λi=>fu (s.th i))
def am(T:Th):Nat:=match T.pc with
 |.out=>0
 |.u0=>2*T.r-1
 |.uc | .ux | .us=>2*(T.r-1)
 |_=>2*T.r
def wt(n:Nat)(w:Wd)(T:Th):Nat:=
 let e:=if T.aw then 0 else 4*n+1
 match T.pc with
 |.out | .s1 | .u0=>0
 |.l0=>8*n+20
 |.r0=>8*n+19
 |.c1=>4*n+1+e+3*(4-T.it)+3
 |.r1=>4*n+1+e+3*(4-T.it)+2
 |.c2=>4*n+1+e+3*(4-T.it)+4+(if T.old=w then 0 else 4)
 |.r3=>4*n+1+e+3*(4-T.it)+5
 |.r2=>4*n+18
 |.a1=>1
 |.us=>12*n+40
 |.uc=>16*n+41+(if T.old=w then 0 else 2)
 |.ux=>16*n+42
def nQ(n:Nat)(s:St):Nat:=sumTo n (λi=>am (s.th i))
def uh(n:Nat)(s:St):Nat:=sumTo n (λi=>wt n s.w (s.th i))+(4*n+19)*s.ms
def oC{f g:Nat->Nat}{c:Nat}:∀{j:Nat},(∀i,i<j->f i<=g i+c)->sumTo j f<=sumTo j g+c*j
 |0,_=>by simp[sumTo]
 |j+1,h=>by
  have:=oC (f:=f) (g:=g) (c:=c) (j:=j) λi hi=>h i (by omega);have:=h j (by omega);simp only[sumTo,ag,ai];omega
def acM(n:Nat)(w w':Wd)(T:Th):wt n w' T<=wt n w T+4:=by
 unfold wt;cases T.pc<;>simp only<;>(repeat' split)<;>omega
section
variable {n:Nat}{s:St}{i:Nat}{T':Th}{w':Wd}{ms':Nat}
structure ahY(n:Nat)(th:Nat->Th)(i:Nat)(T':Th):Prop where
 h:sumTo n (λa=>fh (upd th i T' a))+fh (th i)=sumTo n (λa=>fh (th a))+fh T'
 q:sumTo n (λa=>fq (upd th i T' a))+fq (th i)=sumTo n (λa=>fq (th a))+fq T'
 k:sumTo n (λa=>fk (upd th i T' a))+fk (th i)=sumTo n (λa=>fk (th a))+fk T'
 a:sumTo n (λa=>fa (upd th i T' a))+fa (th i)=sumTo n (λa=>fa (th a))+fa T'
 r:sumTo n (λa=>fr (upd th i T' a))+fr (th i)=sumTo n (λa=>fr (th a))+fr T'
 w:sumTo n (λa=>fw (upd th i T' a))+fw (th i)=sumTo n (λa=>fw (th a))+fw T'
 u:sumTo n (λa=>fu (upd th i T' a))+fu (th i)=sumTo n (λa=>fu (th a))+fu T'
def acN(a:Nat->Th)(T':Th)(hi:i<n):ahY n a i T':=
 ⟨ap a T' fh hi,ap a T' fq hi,ap a T' fk hi,ap a T' fa hi,ap a T' fr hi,ap a T' fw hi,ap a T' fu hi⟩
def OY(n:Nat)(s' s:St):Prop:=nQ n s'<nQ n s\/(nQ n s'=nQ n s/\uh n s'<uh n s)
def pQ(hi:i<n)(h:am T'<am (s.th i)):OY n ⟨upd s.th i T',w',ms'⟩ s:=by
 left;have:=ap s.th T' am hi;unfold nQ;simp only;omega
def fI(hi:i<n)(h:am T'=am (s.th i))(a:wt n s.w T'+(4*n+19)*ms'<wt n s.w (s.th i)+(4*n+19)*s.ms):OY n ⟨upd s.th i T',s.w,ms'⟩ s:=by
 right;have e1:=ap s.th T' am hi;have b:=ap s.th T' (wt n s.w) hi;refine⟨by unfold nQ;simp only;omega,?_⟩;unfold uh;simp only;generalize(4*n+19)*ms'=x at *;generalize(4*n+19)*s.ms=y at *;omega
def uj(hi:i<n)(h:am T'=am (s.th i))(b:wt n w' T'+4*n<wt n w' (s.th i)):OY n ⟨upd s.th i T',w',s.ms⟩ s:=by
 right;have e1:=ap s.th T' am hi;have d:=ap s.th T' (wt n w') hi;have e:=oC (j:=n) (f:=λa=>wt n w' (s.th a)) (g:=λa=>wt n s.w (s.th a)) (c:=4) λi _=>acM n s.w w' (s.th i);refine⟨by unfold nQ;simp only;omega,?_⟩;unfold uh;simp only;omega
def Head.pc{T H:Th}(h:Head T H):H.pc=.c2\/H.pc=.c1\/H.pc=.r1:=by
 cases h with
 |c2=>exact .inl rfl
 |spin _ _ _=>unfold cD.spin;split<;>simp_all
def Head.r{T H:Th}(h:Head T H):H.r=T.r:=by cases h<;>rfl
def Head.aw{T H:Th}(h:Head T H):H.aw=T.aw:=by cases h<;>rfl
def Head.old{T H:Th}(h:Head T H):H.old=T.old:=by cases h<;>rfl
def Head.sv{T H:Th}(h:Head T H):H.sv=T.sv:=by cases h<;>rfl
def Head.it{T H:Th}(h:Head T H):H.it=T.it:=by cases h<;>rfl
def Head.tok{T H:Th}(h:Head T H)(f:1<=T.r)(hs:T.sv=true->T.aw=true)(g:T.it<=4)(j:T.old.k<=n)(l:T.aw=true->T.old.w=true):Tok n H:=by
 have d:=h.pc;refine⟨λx=>?_,λ_ x=>?_,λx=>?_,λx=>?_,by rw[h.it];exact g,λx=>?_,λx y=>?_,λx=>?_,by rw[h.old];exact j,λ_=>by rw[h.r];exact f,λx=>?_⟩
 ·rcases d with e|e|e
  ·exact .inr (.inl e)
  ·cases h with
   |c2=>cases e
   |spin a b c=>
    unfold cD.spin at e x;simp only at e x;rw[x]at e;simp at e
  ·exact .inl e
 ·rw[h.aw];exact hs (by rw[<-h.sv];exact x)
 ·cases h with
  |c2=>cases x
  |spin a b c=>
   unfold cD.spin at x ⊢;simp only at x ⊢
   split at x
   ·rename_i hc;simp only[Bool.and_eq_true,Bool.not_eq_true',bne_iff_ne,ne_eq]at hc;exact⟨a,b,hc.1.2,hc.2⟩
   ·cases x
 ·cases h with
  |c2=>rcases x with x|x<;>cases x
  |spin a b c=>exact c
 ·cases h with
  |c2=>rfl
  |spin a b c=>
   unfold cD.spin at x;simp only at x
   split at x<;>cases x
 ·rw[h.old];exact l (by rw[<-h.aw];exact y)
 ·rcases d with e|e|e<;>rw[e]at x<;>cases x
 ·rcases d with e|e|e<;>rw[e]at x<;>cases x
def Head.counts{T H:Th}(h:Head T H):fh H=0/\fq H=0/\fk H=0/\fa H=0/\fr H=0/\fu H=0/\fw H=fw T:=by
 have a:=h.pc;refine⟨?_,?_,?_,?_,?_,?_,?_⟩
 ·unfold fh;rcases a with e|e|e<;>simp[e]
 ·unfold fq;rcases a with e|e|e<;>simp[e]
 ·unfold fk;rcases a with e|e|e<;>simp[e]
 ·unfold fa;rcases a with e|e|e<;>simp[e]
 ·unfold fr;rcases a with e|e|e<;>simp[e]
 ·unfold fu;rcases a with e|e|e<;>simp[e]
 ·unfold fw;rw[h.aw]
def Head.am{T H:Th}(h:Head T H):am H=2*T.r:=by
 unfold cD.am
 rcases h.pc with e|e|e<;>simp[e,h.r]
def Head.wt{T H:Th}(h:Head T H):wt n T.old H<=4*n+1+(if T.aw then 0 else 4*n+1)+3*(4-T.it)+4:=by
 unfold cD.wt
 rcases h.pc with e|e|e<;>simp[e,h.aw,h.it,h.old]
def lz(r:Nat):fh (bP r)=0/\fq (bP r)=0/\fk (bP r)=0/\fa (bP r)=0/\fr (bP r)=0/\fu (bP r)=0/\fw (bP r)=0:=by
 unfold bP;by_cases h:r<=1<;>simp[h,fh,fq,fk,fa,fr,fu,fw]
def uk(r:Nat):am (bP r)=2*(r-1):=by
 unfold bP;by_cases h:r<=1
 ·rw[if_pos h];show 0=_;omega
 ·rw[if_neg h];rfl
def Ai(r:Nat)(w:Wd):wt n w (bP r)<=8*n+20:=by
 unfold bP wt
 split<;>simp
def dg{T:Th}(b:T.aw=false)(j:T.pc≠.r1)(c:T.pc≠.c1)(a:T.pc≠.c2)(l:T.pc≠.r3)(d:T.pc≠.uc)(e:T.old.k<=n)(f:T.pc≠.out->1<=T.r)(g:T.pc=.out->T.r=0)(h:T.it<=4):Tok n T where
 aw x:=by rw[b]at x;cases x
 sv x:=by rcases x with x|x|x|x<;>contradiction
 c1 x:=absurd x c
 it x:=by rcases x with x|x<;>contradiction
 Yv:=h
 c2 x:=absurd x a
 c2w x:=absurd x a
 uc x:=absurd x d
 old:=e
 r:=f
 r0:=g
def ri(r:Nat):Tok n (bP r):=by
 unfold bP
 split
 ·exact dg rfl (by simp) (by simp) (by simp) (by simp) (by simp) (by simp) (by simp) (by simp) (by simp)
 ·exact dg rfl (by simp) (by simp) (by simp) (by simp) (by simp) (by simp) (by intro _;show 1<=r-1;omega) (by simp) (by simp)
def ew(h:Inv n s)(a:Tok n T'):∀j,j<n->Tok n (upd s.th i T' j):=by
 intro j b;by_cases e:j=i
 ·subst e;rw[upd_same];exact a
 ·rw[upd_ne _ _ e];exact h.tok j b
def fX(h:Inv n s)(hi:i<n)(g:Tok n T')(c1:fh T'=fh (s.th i))(l:fq T'=fq (s.th i))(c3:fk T'=fk (s.th i))(m:fa T'=fa (s.th i))(o:fr T'=fr (s.th i))(p:fu T'=fu (s.th i))(t:fw T'=fw (s.th i)) :
 Inv n ⟨upd s.th i T',s.w,s.ms⟩:=by
 have S:=acN s.th T' hi;have e1:sumTo n (λa=>fh (upd s.th i T' a))=sumTo n (λa=>fh (s.th a)):=by have:=S.h;omega
 have b:sumTo n (λa=>fq (upd s.th i T' a))=sumTo n (λa=>fq (s.th a)):=by have:=S.q;omega
 have c:sumTo n (λa=>fk (upd s.th i T' a))=sumTo n (λa=>fk (s.th a)):=by have:=S.k;omega
 have d:sumTo n (λa=>fa (upd s.th i T' a))=sumTo n (λa=>fa (s.th a)):=by have:=S.a;omega
 have e:sumTo n (λa=>fr (upd s.th i T' a))=sumTo n (λa=>fr (s.th a)):=by have:=S.r;omega
 have f:sumTo n (λa=>fw (upd s.th i T' a))=sumTo n (λa=>fw (s.th a)):=by have:=S.w;omega
 have j:sumTo n (λa=>fu (upd s.th i T' a))=sumTo n (λa=>fu (s.th a)):=by have:=S.u;omega
 refine⟨ew h g,?_,?_,?_,?_,?_⟩
 ·show sumTo n (λa=>fh (upd s.th i T' a))<=1;rw[e1];exact h.hold
 ·show _↔sumTo n (λa=>fh (upd s.th i T' a))=1;rw[e1];exact h.lock
 ·show _->sumTo n (λa=>fw (upd s.th i T' a))+sumTo n (λa=>fr (upd s.th i T' a))+s.ms+sumTo n (λa=>fk (upd s.th i T' a))=_/\sumTo n (λa=>fa (upd s.th i T' a))=0/\sumTo n (λa=>fq (upd s.th i T' a))=s.w.k+sumTo n (λa=>fr (upd s.th i T' a))+s.ms;rw[b,c,d,e,f];exact h.norm
 ·show _->s.w.w=false/\sumTo n (λa=>fw (upd s.th i T' a))=0/\sumTo n (λa=>fh (upd s.th i T' a))+sumTo n (λa=>fr (upd s.th i T' a))+s.ms+sumTo n (λa=>fk (upd s.th i T' a))+sumTo n (λa=>fa (upd s.th i T' a))=1/\sumTo n (λa=>fq (upd s.th i T' a))+sumTo n (λa=>fk (upd s.th i T' a))+sumTo n (λa=>fa (upd s.th i T' a))=s.w.k;rw[e1,b,c,d,e,f];exact h.star
 ·show _->_->_->_->1<=sumTo n (λa=>fu (upd s.th i T' a));rw[j];exact h.Yw
structure Num(n:Nat)(s:St)(H Q K A R W U:Nat):Prop where
 h:sumTo n (λa=>fh (s.th a))=H
 q:sumTo n (λa=>fq (s.th a))=Q
 k:sumTo n (λa=>fk (s.th a))=K
 a:sumTo n (λa=>fa (s.th a))=A
 r:sumTo n (λa=>fr (s.th a))=R
 w:sumTo n (λa=>fw (s.th a))=W
 u:sumTo n (λa=>fu (s.th a))=U
def inv_of(tok:∀i,i<n->Tok n (s.th i)){H Q K A R W U:Nat}(N:Num n s H Q K A R W U)(a:H<=1)(b:s.w.l=true↔H=1)
 (c:s.w.s=false->W+R+s.ms+K=(if s.w.w then 1 else 0)/\A=0/\Q=s.w.k+R+s.ms)
 (d:s.w.s=true->s.w.w=false/\W=0/\H+R+s.ms+K+A=1/\Q+K+A=s.w.k)
 (e:s.w.s=false->s.w.w=false->s.w.l=false->s.w.k≠0->1<=U):Inv n s:=by
 obtain⟨rfl,rfl,rfl,rfl,rfl,rfl,rfl⟩:=N;exact⟨tok,a,b,c,d,e⟩
def Inv.num(h:Inv n s):∃H Q K A R W U,Num n s H Q K A R W U/\H<=1/\(s.w.l=true↔H=1)/\
 (s.w.s=false->W+R+s.ms+K=(if s.w.w then 1 else 0)/\A=0/\Q=s.w.k+R+s.ms)/\
 (s.w.s=true->s.w.w=false/\W=0/\H+R+s.ms+K+A=1/\Q+K+A=s.w.k)/\
 (s.w.s=false->s.w.w=false->s.w.l=false->s.w.k≠0->1<=U):=
 ⟨_,_,_,_,_,_,_,⟨rfl,rfl,rfl,rfl,rfl,rfl,rfl⟩,h.hold,h.lock,h.norm,h.star,h.Yw⟩
def Num.upd{H Q K A R W U:Nat}(N:Num n s H Q K A R W U)(hi:i<n){T:Th}(b:s.th i=T):fh T<=H/\fq T<=Q/\fk T<=K/\fa T<=A/\fr T<=R/\fw T<=W/\fu T<=U/\
 Num n ⟨aq s.th i T',w',ms'⟩ (H-fh T+fh T') (Q-fq T+fq T') (K-fk T+fk T') (A-fa T+fa T') (R-fr T+fr T') (W-fw T+fw T') (U-fu T+fu T'):=by
 obtain⟨rfl,rfl,rfl,rfl,rfl,rfl,rfl⟩:=N;subst b;have S:=acN s.th T' hi;have c:=ar (f:=λa=>fh (s.th a)) hi;have d:=ar (f:=λa=>fq (s.th a)) hi;have e:=ar (f:=λa=>fk (s.th a)) hi;have g:=ar (f:=λa=>fa (s.th a)) hi;have j:=ar (f:=λa=>fr (s.th a)) hi;have l:=ar (f:=λa=>fw (s.th a)) hi;have m:=ar (f:=λa=>fu (s.th a)) hi;refine⟨c,d,e,g,j,l,m,⟨?_,?_,?_,?_,?_,?_,?_⟩⟩<;>simp only
 ·have:=S.h;omega
 ·have:=S.q;omega
 ·have:=S.k;omega
 ·have:=S.a;omega
 ·have:=S.r;omega
 ·have:=S.w;omega
 ·have:=S.u;omega
structure Safe(T:Th)(w:Wd):Prop where
 u0:T.pc=.u0->w.l=true
 r2:T.pc=.r2->w.s=true->w.l=false/\w.w=false/\w.k≠0
 a1:T.pc=.a1->w.l=false/\w.w=false/\w.s=true/\w.k≠0
 aw:T.aw=true->w.w=true/\w.s=false
 r2n:T.pc=.r2->w.s=false->w.w=true
def Inv.safe(h:Inv n s)(hi:i<n):Safe (s.th i) s.w:=by
 obtain⟨H,Q,K,A,R,W,U,N,m,a,b,c,o⟩:=h.num;obtain⟨p,q,r,t,u,v,x,_⟩:=N.upd (T':=s.th i) (w':=s.w) (ms':=s.ms) hi rfl;refine⟨λe=>?_,λe hs=>?_,λe=>?_,λe=>?_,λe hs=>?_⟩
 ·have:fh (s.th i)=1:=by simp[fh,e]
  exact a.2 (by omega)
 ·have e1:fk (s.th i)=1:=by simp[fk,e]
  obtain⟨d,g,j,k⟩:=c hs;refine⟨?_,d,by omega⟩
  cases hl:s.w.l with
  |false=>rfl
  |true=>have:=a.1 hl;omega
 ·have e1:fa (s.th i)=1:=by simp[fa,e]
  cases hs:s.w.s with
  |false=>have:=(b hs).2.1;omega
  |true=>
   obtain⟨d,g,j,k⟩:=c hs;refine⟨?_,d,rfl,by omega⟩
   cases hl:s.w.l with
   |false=>rfl
   |true=>have:=a.1 hl;omega
 ·have e1:fw (s.th i)=1:=by simp[fw,e]
  cases hs:s.w.s with
  |true=>have:=(c hs).2.1;omega
  |false=>
   refine⟨?_,rfl⟩;have:=(b hs).1
   cases f:s.w.w with
   |true=>rfl
   |false=>simp[f]at this;omega
 ·have e1:fk (s.th i)=1:=by simp[fk,e]
  have:=(b hs).1
  cases f:s.w.w with
  |true=>rfl
  |false=>simp[f]at this;omega
def Inv.small(h:Inv n s):s.w.k<=n:=by
 have b:∀f:Th->Nat,(∀T,f T<=1)->sumTo n (λa=>f (s.th a))<=n:=λf hf=>by
  have:=aB (f:=λa=>f (s.th a)) (c:=1) (j:=n) λi _=>hf _;omega
 cases hs:s.w.s with
 |false=>
  have:=(h.norm hs).2.2;have:=b fq (λT=>by unfold fq;split<;>omega);omega
 |true=>
  have:=(h.star hs).2.2.2;have:=b (λT=>fq T+fk T+fa T) (λT=>by unfold fq fk fa;cases T.pc<;>simp);have e:∀j,sumTo j (λa=>fq (s.th a)+fk (s.th a)+fa (s.th a))=sumTo j (λa=>fq (s.th a))+sumTo j (λa=>fk (s.th a))+sumTo j (λa=>fa (s.th a)):=by
   intro j
   induction j with
   |zero=>rfl
   |succ j d=>simp only[sumTo,d];omega
  rw[e]at this;omega
end
section
variable {n:Nat}{s:St}{i:Nat}{T T':Th}{w':Wd}{ms':Nat}
def Inv.move(h:Inv n s)(hi:i<n)(c:s.th i=T)(m:Mv s.w s.ms T T' w' ms'):Inv n ⟨upd s.th i T',w',ms'⟩/\OY n ⟨upd s.th i T',w',ms'⟩ s:=by
 have d:Tok n T:=c▸h.tok i hi;have Z:Safe T s.w:=c▸h.safe hi;have small:=h.small
 cases m with
 |lock a E=>
  have f:=d.r (by rw[a];simp)
  have g:T.aw=false:=by cases e:T.aw with|false=>rfl|true=>rcases d.aw e with x|x|x<;>rw[a]at x<;>cases x
  refine⟨?_,pQ hi (by rw[c];simp only[am,a];omega)⟩;obtain⟨H,Q,K,A,R,W,U,N,D,p,B,C,F⟩:=h.num;obtain⟨y,t,q,u,v,j,z,N'⟩:=N.upd (T':={ pc:=.u0,r:=T.r }) (w':={ l:=true }) (ms':=s.ms) hi c;rw[E]at p B C F;simp only[fh,fq,fk,fa,fr,fw,fu,a,g]at N' y t q u v j z;simp at p B C F N';refine inv_of (ew h (dg rfl (by simp) (by simp) (by simp) (by simp) (by simp) (by simp) (λ_=>f) (by simp) (by simp))) N' (by omega) (by simp;omega) (by simp;omega) (by simp) (by simp)
 |acJ a E=>
  have f:=d.r (by rw[a];simp)
  have g:T.aw=false:=by cases e:T.aw with|false=>rfl|true=>rcases d.aw e with x|x|x<;>rw[a]at x<;>cases x
  refine⟨fX h hi (dg rfl (by simp) (by simp) (by simp) (by simp) (by simp) (by simp) (λ_=>f) (by simp) (by simp)) ?_ ?_ ?_ ?_ ?_ ?_ ?_,fI hi (by rw[c];simp[am,a]) (by rw[c];simp[wt,a])⟩<;>simp[c,fh,fq,fk,fa,fr,fw,fu,a,g]
 |Ws _ a I=>
  have f:=d.r (by rw[a];simp)
  have g:T.aw=false:=by cases e:T.aw with|false=>rfl|true=>rcases d.aw e with x|x|x<;>rw[a]at x<;>cases x
  obtain⟨c1,M,c3,O,P,S,V⟩:=I.counts;refine⟨fX h hi (I.tok f (by simp) (by simp) small (by simp)) ?_ ?_ ?_ ?_ ?_ ?_ ?_,fI hi (by rw[c,I.am];simp[am,a]) ?_⟩
  ·rw[c,c1];simp[fh,a]
  ·rw[c,M];simp[fq,a]
  ·rw[c,c3];simp[fk,a]
  ·rw[c,O];simp[fa,a]
  ·rw[c,P];simp[fr,a]
  ·rw[c,S];simp[fu,a]
  ·rw[c,V];simp[fw,g]
  ·have zg:=I.wt (n:=n);simp at zg;rw[c];have e:wt n s.w T=8*n+19:=by simp[wt,a]
   omega
 |Wt a E=>
  have f:=d.r (by rw[a];simp);have zf:=d.it (.inl a);obtain⟨o1,o2,o3,o4⟩:=d.c1 a
  have g:T.aw=false:=by cases e:T.aw with|false=>rfl|true=>rcases d.aw e with x|x|x<;>rw[a]at x<;>cases x
  refine⟨?_,uj hi (by rw[c];simp[am,a]) (by rw[c];simp[wt,a,g];omega)⟩;obtain⟨H,Q,K,A,R,W,U,N,D,p,B,C,F⟩:=h.num;obtain⟨y,t,q,u,v,j,z,N'⟩:=N.upd (T':={ T with pc:=.r1,aw:=true }) (w':={ s.w with w:=true }) (ms':=s.ms) hi c;rw[<-E]at o1 o2 o3 o4;obtain⟨o,J,L⟩:=B o2;simp[o3]at o;simp only[fh,fq,fk,fa,fr,fw,fu,a,g]at N' y t q u v j z;simp at N';refine inv_of (ew h ?_) N' D (by simpa using p) (by simp;omega) (by simp[o2]) (by simp);exact⟨λ_=>.inl rfl,λ_ _=>rfl,λx=>(by cases x),λ_=>zf,d.Yv,λx=>(by cases x),λx=>(by cases x),λx=>(by cases x),d.old,λ_=>f,λx=>(by cases x)⟩
 |Wu a E=>
  have f:=d.r (by rw[a];simp);have zf:=d.it (.inl a)
  have g:T.aw=false:=by cases e:T.aw with|false=>rfl|true=>rcases d.aw e with x|x|x<;>rw[a]at x<;>cases x
  refine⟨fX h hi ?_ ?_ ?_ ?_ ?_ ?_ ?_ ?_,fI hi (by rw[c];simp[am,a]) (by rw[c];simp[wt,a])⟩
  ·exact⟨λx=>.inl rfl,λ_ x=>d.sv (.inr (.inl a)) x,λx=>(by cases x),λ_=>zf,d.Yv,λx=>(by cases x),λx=>(by cases x),λx=>(by cases x),d.old,λ_=>f,λx=>(by cases x)⟩
  all_goals simp[c,fh,fq,fk,fa,fr,fw,fu,a]
 |Wv _ a I=>
  have f:=d.r (by rw[a];simp);have zf:=d.it (.inr a);obtain⟨c1,M,c3,O,P,S,V⟩:=I.counts;refine⟨fX h hi (I.tok f (λx=>d.sv (.inl a) x) (by show T.it+1<=4;omega) small (λx=>(Z.aw x).1)) ?_ ?_ ?_ ?_ ?_ ?_ ?_,fI hi (by rw[c,I.am];simp[am,a]) ?_⟩
  ·rw[c,c1];simp[fh,a]
  ·rw[c,M];simp[fq,a]
  ·rw[c,c3];simp[fk,a]
  ·rw[c,O];simp[fa,a]
  ·rw[c,P];simp[fr,a]
  ·rw[c,S];simp[fu,a]
  ·rw[c,V];simp[fw]
  ·have zg:=I.wt (n:=n);simp at zg;rw[c];have e:wt n s.w T=4*n+1+(if T.aw then 0 else 4*n+1)+3*(4-T.it)+2:=by simp[wt,a]
   omega
 |take a E hl hs=>
  have f:=d.r (by rw[a];simp);refine⟨?_,pQ hi (by rw[c];simp only[am,a];omega)⟩;obtain⟨H,Q,K,A,R,W,U,N,D,p,B,C,F⟩:=h.num;obtain⟨y,t,q,u,v,j,z,N'⟩:=N.upd (T':={ pc:=.u0,r:=T.r }) (w':=T.nw) (ms':=s.ms) hi c;have enw:T.nw={ l:=true,w:=s.w.w && !T.aw,s:=false,k:=s.w.k }:=by rw[d.c2 a,qZ,<-E];simp[hl,hs]
  rw[enw]at N' ⊢;obtain⟨o,J,L⟩:=B hs;have hH0:H=0:=by
   rcases Nat.eq_zero_or_pos H with e|e
   ·exact e
   ·rw[p.2 (by omega)]at hl;cases hl
  have g:T.aw=true->s.w.w=true:=λx=>(Z.aw x).1;simp only[fh,fq,fk,fa,fr,fw,fu,a]at N' y t q u v j z;simp at N';refine inv_of (ew h (dg rfl (by simp) (by simp) (by simp) (by simp) (by simp) (by simp) (λ_=>f) (by simp) (by simp))) N' (by omega) (by simp;omega) (λ_=>?_) (by simp) (by simp)
  cases X:T.aw with
  |false=>simp[X]at j ⊢;rw[o];exact⟨rfl,J,by omega⟩
  |true=>
   simp[X]at j ⊢;rw[g X]at o;simp at o;omega
 |queue a E Fz=>
  have f:=d.r (by rw[a];simp);refine⟨?_,uj hi (by rw[c];simp[am,a]) (by rw[c];simp[wt,a];omega)⟩;obtain⟨H,Q,K,A,R,W,U,N,D,p,B,C,F⟩:=h.num;obtain⟨y,t,q,u,v,j,z,N'⟩:=N.upd (T':={ pc:=.s1,sv:=T.sv,r:=T.r }) (w':=T.nw) (ms':=s.ms) hi c;have g:T.aw=true->s.w.w=true/\s.w.s=false:=λx=>Z.aw x;have hsv:T.sv=true->T.aw=true:=d.sv (.inr (.inr (.inl a)))
  have zz:(s.w.l||s.w.s)=true:=by rcases Fz with e|e<;>simp[e]
  have enw:T.nw={ l:=s.w.l || !s.w.s,w:=s.w.w && !T.aw,s:=s.w.s||(T.sv&&s.w.l),k:=s.w.k+1 }:=by rw[d.c2 a,qZ,<-E,if_pos zz]
  rw[enw]at N' ⊢;simp only[fh,fq,fk,fa,fr,fw,fu,a]at N' y t q u v j z;simp at N';refine inv_of (ew h (dg rfl (by simp) (by simp) (by simp) (by simp) (by simp) (by simp) (λ_=>f) (by simp) (by simp))) N' D ?_ ?_ ?_ ?_
  ·cases hs:s.w.s with
   |true=>simpa[hs]using p
   |false=>
    have hl:s.w.l=true:=by simpa[hs]using zz
    simpa[hl]using p.1 hl
  ·intro Y;simp at Y;obtain⟨hs,hsl⟩:=Y;have hl:s.w.l=true:=by simpa[hs]using zz
   obtain⟨o,J,L⟩:=B hs
   cases X:T.aw with
   |false=>simp[X]at j ⊢;rw[o];exact⟨rfl,J,by omega⟩
   |true=>
    simp[X]at j ⊢;rw[(g X).1]at o;simp at o;omega
  ·intro Y;simp at Y
   cases hs:s.w.s with
   |true=>
    obtain⟨o,J,L,g4⟩:=C hs;have X:T.aw=false:=by
     cases e:T.aw with
     |false=>rfl
     |true=>have:=(g e).2;rw[hs]at this;cases this
    simp[X,o];omega
   |false=>
    obtain⟨ai0,hl⟩:T.sv=true/\s.w.l=true:=by simpa[hs]using Y
    have X:=hsv ai0;obtain⟨o,J,L⟩:=B hs;rw[(g X).1]at o;have:=p.1 hl;simp[X]at j o ⊢;omega
  ·intro Y qu Ji;simp at Y Ji;rw[Y.1]at Ji;exact absurd Ji.2 (by simp)
 |Ww a E=>
  have f:=d.r (by rw[a];simp);refine⟨fX h hi ?_ ?_ ?_ ?_ ?_ ?_ ?_ ?_,fI hi (by rw[c];simp[am,a]) (by rw[c];simp[wt,a,Ne.symm E])⟩
  ·exact⟨λx=>.inr (.inr rfl),λ_ x=>d.sv (.inr (.inr (.inl a))) x,λx=>(by cases x),λx=>(by rcases x with x|x<;>cases x),d.Yv,λx=>(by cases x),λx=>(by cases x),λx=>(by cases x),d.old,λ_=>f,λx=>(by cases x)⟩
  all_goals simp[c,fh,fq,fk,fa,fr,fw,fu,a]
 |Wx _ a I=>
  have f:=d.r (by rw[a];simp);obtain⟨c1,M,c3,O,P,S,V⟩:=I.counts;refine⟨fX h hi (I.tok f (λx=>d.sv (.inr (.inr (.inr a))) x) d.Yv small (λx=>(Z.aw x).1)) ?_ ?_ ?_ ?_ ?_ ?_ ?_,fI hi (by rw[c,I.am];simp[am,a]) ?_⟩
  ·rw[c,c1];simp[fh,a]
  ·rw[c,M];simp[fq,a]
  ·rw[c,c3];simp[fk,a]
  ·rw[c,O];simp[fa,a]
  ·rw[c,P];simp[fr,a]
  ·rw[c,S];simp[fu,a]
  ·rw[c,V];simp[fw]
  ·have zg:=I.wt (n:=n);simp at zg;rw[c];have e:wt n s.w T=4*n+1+(if T.aw then 0 else 4*n+1)+3*(4-T.it)+5:=by simp[wt,a]
   omega
 |woken b a hb GB=>
  have f:=d.r (by rw[a];simp)
  have g:T.aw=false:=by cases e:T.aw with|false=>rfl|true=>rcases d.aw e with x|x|x<;>rw[a]at x<;>cases x
  refine⟨?_,fI hi (by rw[c];simp[am,a]) ?_⟩
  ·obtain⟨H,Q,K,A,R,W,U,N,D,p,B,C,F⟩:=h.num;obtain⟨y,t,q,u,v,j,z,N'⟩:=N.upd (T':={ pc:=.r2,sv:=b,r:=T.r }) (w':=s.w) (ms':=s.ms-1) hi c;simp only[fh,fq,fk,fa,fr,fw,fu,a,g]at N' y t q u v j z;simp at N' t;refine inv_of (ew h (dg rfl (by simp) (by simp) (by simp) (by simp) (by simp) (by simp) (λ_=>f) (by simp) (by simp))) N' D p (λhs=>?_) (λhs=>?_) F
   ·obtain⟨o,J,L⟩:=B hs;show W+R+(s.ms-1)+(K+1)=_/\_/\Q-1=s.w.k+R+(s.ms-1)
    rw[<-o];omega
   ·obtain⟨o,J,L,g4⟩:=C hs;show _/\_/\H+R+(s.ms-1)+(K+1)+A=1/\Q-1+(K+1)+A=s.w.k;exact⟨o,J,by omega,by omega⟩
  ·rw[c];have e1:wt n s.w T=0:=by simp[wt,a]
   have e2:wt n s.w { pc:=.r2,sv:=b,r:=T.r }=4*n+18:=rfl;obtain⟨m,hm⟩:∃m,s.ms=m+1:=⟨s.ms-1,by omega⟩
   rw[e1,e2,hm,Nat.add_sub_cancel,ag,ai];omega
 |Wz _ a hs I=>
  have f:=d.r (by rw[a];simp)
  have g:T.aw=false:=by cases e:T.aw with|false=>rfl|true=>rcases d.aw e with x|x|x<;>rw[a]at x<;>cases x
  obtain⟨c1,M,c3,O,P,S,V⟩:=I.counts;refine⟨?_,fI hi (by rw[c,I.am];simp[am,a]) ?_⟩
  ·obtain⟨H,Q,K,A,R,W,U,N,D,p,B,C,F⟩:=h.num;obtain⟨y,t,q,u,v,j,z,N'⟩:=N.upd (T':=T') (w':=s.w) (ms':=s.ms) hi c;rw[c1,M,c3,O,P,S,V]at N';simp only[fh,fq,fk,fa,fr,fw,fu,a,g]at N' y t q u v j z;simp at N' q;refine inv_of (ew h (I.tok f (λx=>rfl) (by simp) small (λ_=>Z.r2n a hs))) N' D p (λhs=>?_) (λY=>by rw[show s.w.s=true from Y]at hs;cases hs) F;obtain⟨o,J,L⟩:=B hs;show W+1+R+s.ms+(K-1)=_/\_/\_;rw[<-o];exact⟨by omega,J,L⟩
  ·have zg:=I.wt (n:=n);simp at zg;rw[c];have e:wt n s.w T=4*n+18:=by simp[wt,a]
   omega
 |handed a hs=>
  have f:=d.r (by rw[a];simp)
  have g:T.aw=false:=by cases e:T.aw with|false=>rfl|true=>rcases d.aw e with x|x|x<;>rw[a]at x<;>cases x
  refine⟨?_,fI hi (by rw[c];simp[am,a]) (by rw[c];simp[wt,a])⟩;obtain⟨H,Q,K,A,R,W,U,N,D,p,B,C,F⟩:=h.num;obtain⟨y,t,q,u,v,j,z,N'⟩:=N.upd (T':={ pc:=.a1,sv:=T.sv,ex:=!T.sv||s.w.k==1,r:=T.r }) (w':=s.w) (ms':=s.ms) hi c;simp only[fh,fq,fk,fa,fr,fw,fu,a,g]at N' y t q u v j z;simp at N' q;refine inv_of (ew h (dg rfl (by simp) (by simp) (by simp) (by simp) (by simp) (by simp) (λ_=>f) (by simp) (by simp))) N' D p (λY=>by rw[show s.w.s=false from Y]at hs;cases hs) (λ_=>?_) F;obtain⟨o,J,L,g4⟩:=C hs;show _/\_/\H+R+s.ms+(K-1)+(A+1)=1/\Q+(K-1)+(A+1)=s.w.k;exact⟨o,J,by omega,by omega⟩
 |acK a=>
  have f:=d.r (by rw[a];simp)
  have g:T.aw=false:=by cases e:T.aw with|false=>rfl|true=>rcases d.aw e with x|x|x<;>rw[a]at x<;>cases x
  obtain⟨a1,a2,a3,a4⟩:=Z.a1 a;refine⟨?_,pQ hi (by rw[c];simp only[am,a];omega)⟩;obtain⟨H,Q,K,A,R,W,U,N,D,p,B,C,F⟩:=h.num;obtain⟨y,t,q,u,v,j,z,N'⟩:=N.upd (T':={ pc:=.u0,r:=T.r }) (w':={ l:=true,w:=s.w.w,s:=s.w.s && !T.ex,k:=s.w.k-1 }) (ms':=s.ms) hi c;simp only[fh,fq,fk,fa,fr,fw,fu,a,g]at N' y t q u v j z;simp at N' u;obtain⟨o,J,L,g4⟩:=C a3;refine inv_of (ew h (dg rfl (by simp) (by simp) (by simp) (by simp) (by simp) (by simp) (λ_=>f) (by simp) (by simp))) N' (by omega) (by simp;omega) (λ_=>?_) (λ_=>?_) (by simp)
  ·simp[a2];omega
  ·simp[a2];omega
 |free a hs hk=>
  have f:=d.r (by rw[a];simp)
  have g:T.aw=false:=by cases e:T.aw with|false=>rfl|true=>rcases d.aw e with x|x|x<;>rw[a]at x<;>cases x
  have hl:=Z.u0 a;obtain⟨c1,M,c3,O,P,S,V⟩:=lz T.r;refine⟨?_,pQ hi (by rw[c,uk];simp only[am,a];omega)⟩;obtain⟨H,Q,K,A,R,W,U,N,D,p,B,C,F⟩:=h.num;obtain⟨y,t,q,u,v,j,z,N'⟩:=N.upd (T':=bP T.r) (w':={ s.w with l:=false }) (ms':=s.ms) hi c;rw[c1,M,c3,O,P,S,V]at N';simp only[fh,fq,fk,fa,fr,fw,fu,a,g]at N' y t q u v j z;simp at N';have:=p.1 hl;refine inv_of (ew h (ri _)) N' (by omega) (by simp;omega) (by simpa using B) (by simp[hs]) (λ_ FA _ WB=>?_);simp at FA WB
  rcases hk with e|e
  ·exact absurd e WB
  ·rw[e]at FA;cases FA
 |hand a hs=>
  have f:=d.r (by rw[a];simp)
  have g:T.aw=false:=by cases e:T.aw with|false=>rfl|true=>rcases d.aw e with x|x|x<;>rw[a]at x<;>cases x
  have hl:=Z.u0 a;refine⟨?_,pQ hi (by rw[c];simp only[am,a];omega)⟩;obtain⟨H,Q,K,A,R,W,U,N,D,p,B,C,F⟩:=h.num;obtain⟨y,t,q,u,v,j,z,N'⟩:=N.upd (T':={ pc:=.us,r:=T.r }) (w':={ s.w with l:=false }) (ms':=s.ms) hi c;simp only[fh,fq,fk,fa,fr,fw,fu,a,g]at N' y t q u v j z;simp at N';have:=p.1 hl;obtain⟨o,J,L,g4⟩:=C hs;refine inv_of (ew h (dg rfl (by simp) (by simp) (by simp) (by simp) (by simp) (by simp) (λ_=>f) (by simp) (by simp))) N' (by omega) (by simp;omega) (by simp[hs]) (λ_=>?_) (by simp[hs]);simp[o];omega
 |acL a hs hk E=>
  have f:=d.r (by rw[a];simp)
  have g:T.aw=false:=by cases e:T.aw with|false=>rfl|true=>rcases d.aw e with x|x|x<;>rw[a]at x<;>cases x
  have hl:=Z.u0 a;refine⟨?_,pQ hi (by rw[c];simp only[am,a];omega)⟩;obtain⟨H,Q,K,A,R,W,U,N,D,p,B,C,F⟩:=h.num;obtain⟨y,t,q,u,v,j,z,N'⟩:=N.upd (T':={ pc:=.uc,old:={ s.w with l:=false },r:=T.r }) (w':={ s.w with l:=false }) (ms':=s.ms) hi c;simp only[fh,fq,fk,fa,fr,fw,fu,a,g]at N' y t q u v j z;simp at N';have:=p.1 hl;refine inv_of (ew h ?_) N' (by omega) (by simp;omega) (by simpa using B) (by simp[hs]) (λ_ _ _ _=>by omega);exact⟨λx=>(by cases x),λx=>(by rcases x with x|x|x|x<;>cases x),λx=>(by cases x),λx=>(by rcases x with x|x<;>cases x),by simp,λx=>(by cases x),λx=>(by cases x),λ_=>⟨rfl,hs,E,hk⟩,small,λ_=>f,λx=>(by cases x)⟩
 |release a E=>
  have f:=d.r (by rw[a];simp)
  have g:T.aw=false:=by cases e:T.aw with|false=>rfl|true=>rcases d.aw e with x|x|x<;>rw[a]at x<;>cases x
  obtain⟨o1,o2,o3,o4⟩:=d.uc a;refine⟨?_,uj hi (by rw[c];simp[am,a]) (by rw[c];simp[wt,a];omega)⟩;obtain⟨H,Q,K,A,R,W,U,N,D,p,B,C,F⟩:=h.num;obtain⟨y,t,q,u,v,j,z,N'⟩:=N.upd (T':={ pc:=.us,r:=T.r }) (w':={ s.w with k:=s.w.k-1,w:=true }) (ms':=s.ms) hi c;rw[<-E]at o1 o2 o3 o4;simp only[fh,fq,fk,fa,fr,fw,fu,a,g]at N' y t q u v j z;simp at N';obtain⟨o,J,L⟩:=B o2;simp[o3]at o;refine inv_of (ew h (dg rfl (by simp) (by simp) (by simp) (by simp) (by simp) (by simp) (λ_=>f) (by simp) (by simp))) N' D (by simpa using p) (λ_=>?_) (by simp[o2]) (by simp);simp;omega
 |again a E=>
  have f:=d.r (by rw[a];simp)
  have g:T.aw=false:=by cases e:T.aw with|false=>rfl|true=>rcases d.aw e with x|x|x<;>rw[a]at x<;>cases x
  refine⟨fX h hi (dg rfl (by simp) (by simp) (by simp) (by simp) (by simp) (by simp) (λ_=>f) (by simp) (by simp)) ?_ ?_ ?_ ?_ ?_ ?_ ?_,fI hi (by rw[c];simp[am,a]) (by rw[c];simp[wt,a,Ne.symm E])⟩<;>simp[c,fh,fq,fk,fa,fr,fw,fu,a,g]
 |leave a hk=>
  have f:=d.r (by rw[a];simp)
  have g:T.aw=false:=by cases e:T.aw with|false=>rfl|true=>rcases d.aw e with x|x|x<;>rw[a]at x<;>cases x
  obtain⟨c1,M,c3,O,P,S,V⟩:=lz T.r;refine⟨?_,fI hi (by rw[c,uk];simp[am,a]) ?_⟩
  ·obtain⟨H,Q,K,A,R,W,U,N,D,p,B,C,F⟩:=h.num;obtain⟨y,t,q,u,v,j,z,N'⟩:=N.upd (T':=bP T.r) (w':=s.w) (ms':=s.ms) hi c;rw[c1,M,c3,O,P,S,V]at N';simp only[fh,fq,fk,fa,fr,fw,fu,a,g]at N' y t q u v j z;simp at N';refine inv_of (ew h (ri _)) N' D p B C (λe1 e2 e3 e4=>?_)
   rcases hk with e|e|e|e
   ·exact absurd e e4
   ·rw[show s.w.l=false from e3]at e;cases e
   ·rw[show s.w.w=false from e2]at e;cases e
   ·rw[show s.w.s=false from e1]at e;cases e
  ·rw[c];have e1:wt n s.w T=16*n+42:=by simp[wt,a]
   have:=Ai (n:=n) T.r s.w;omega
 |WA a hk hl E hs=>
  have f:=d.r (by rw[a];simp)
  have g:T.aw=false:=by cases e:T.aw with|false=>rfl|true=>rcases d.aw e with x|x|x<;>rw[a]at x<;>cases x
  refine⟨fX h hi ?_ ?_ ?_ ?_ ?_ ?_ ?_ ?_,fI hi (by rw[c];simp[am,a]) (by rw[c];simp[wt,a])⟩
  ·exact⟨λx=>(by cases x),λx=>(by rcases x with x|x|x|x<;>cases x),λx=>(by cases x),λx=>(by rcases x with x|x<;>cases x),by simp,λx=>(by cases x),λx=>(by cases x),λ_=>⟨hl,hs,E,hk⟩,small,λ_=>f,λx=>(by cases x)⟩
  all_goals simp[c,fh,fq,fk,fa,fr,fw,fu,a,g]
 |post a=>
  have f:=d.r (by rw[a];simp)
  have g:T.aw=false:=by cases e:T.aw with|false=>rfl|true=>rcases d.aw e with x|x|x<;>rw[a]at x<;>cases x
  obtain⟨c1,M,c3,O,P,S,V⟩:=lz T.r;refine⟨?_,fI hi (by rw[c,uk];simp[am,a]) ?_⟩
  ·obtain⟨H,Q,K,A,R,W,U,N,D,p,B,C,F⟩:=h.num;obtain⟨y,t,q,u,v,j,z,N'⟩:=N.upd (T':=bP T.r) (w':=s.w) (ms':=s.ms+1) hi c;rw[c1,M,c3,O,P,S,V]at N';simp only[fh,fq,fk,fa,fr,fw,fu,a,g]at N' y t q u v j z;simp at N' v;refine inv_of (ew h (ri _)) N' D p (λhs=>?_) (λhs=>?_) F
   ·obtain⟨o,J,L⟩:=B hs;show W+(R-1)+(s.ms+1)+K=_/\_/\Q=s.w.k+(R-1)+(s.ms+1)
    rw[<-o];omega
   ·obtain⟨o,J,L,g4⟩:=C hs;show _/\_/\H+(R-1)+(s.ms+1)+K+A=1/\_;exact⟨o,J,by omega,g4⟩
  ·rw[c];have e1:wt n s.w T=12*n+40:=by simp[wt,a]
   have:=Ai (n:=n) T.r s.w;rw[e1,ag,ai];omega
def Inv.live(h:Inv n s)(hb:∀i,i<n->(s.th i).pc=.out\/((s.th i).pc=.s1/\s.ms=0)):∀i,i<n->(s.th i).pc=.out:=by
 have zero:∀f:Th->Nat,(∀T,T.pc=.out\/T.pc=.s1->f T=0)->sumTo n (λa=>f (s.th a))=0:=by
  intro f hf;have:=aB (f:=λa=>f (s.th a)) (c:=0) (j:=n) λi hi=>by rw[hf _ ((hb i hi).imp id (·.1))];exact ao _
  omega
 intro i hi
 rcases hb i hi with e|⟨e,k⟩
 ·exact e
 exfalso;have z1:=zero fh (λT e=>by rcases e with e|e<;>simp[fh,e]);have m:=zero fk (λT e=>by rcases e with e|e<;>simp[fk,e]);have o:=zero fa (λT e=>by rcases e with e|e<;>simp[fa,e]);have p:=zero fr (λT e=>by rcases e with e|e<;>simp[fr,e]);have q:=zero fu (λT e=>by rcases e with e|e<;>simp[fu,e]);have r:sumTo n (λa=>fw (s.th a))=0:=by
  have:=aB (f:=λa=>fw (s.th a)) (c:=0) (j:=n) λi hi=>by
   unfold fw
   split
   ·rename_i b
    rcases(h.tok i hi).aw b with x|x|x<;>rcases hb i hi with y|⟨y,_⟩<;>rw[y]at x<;>cases x
   ·exact ao _
  omega
 have q1:1<=sumTo n (λa=>fq (s.th a)):=by
  have:=ar (f:=λa=>fq (s.th a)) hi;have e1:fq (s.th i)=1:=by simp[fq,e]
  simp only[e1]at this;exact this
 cases hs:s.w.s with
 |true=>have:=(h.star hs).2.2.1;omega
 |false=>
  obtain⟨d,t,u⟩:=h.norm hs;have g:s.w.w=false:=by
   cases e:s.w.w with
   |false=>rfl
   |true=>simp[e]at d;omega
  have hl:s.w.l=false:=by
   cases e:s.w.l with
   |false=>rfl
   |true=>have:=h.lock.1 e;omega
  have:=h.Yw hs g hl (by omega);omega
end
end Go.cD
