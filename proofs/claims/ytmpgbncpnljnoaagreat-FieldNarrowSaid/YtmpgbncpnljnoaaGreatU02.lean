/- Part of the proof of FieldNarrow. -/
import Derived.Test.YtmpgbncpnljnoaaGreatU01
set_option linter.all false
open SizeOf renaming sizeOf->aa
open Go.World renaming cell?->ab
namespace Go.bJ
def Sb(W:World)(b:Nat):Prop:=∃c t a,W.heap[b]?=some (.cells c t a)
def ox(W:World):Ren:=λa b=>a=b/\Sb W a
structure Rep(F:FuncId->Bool)(W:World)(v v':Value):Prop where
 vr:VR F (ox W) v v'
 int:∀k n,v'=.int k n->v=v'
 str:∀s,v'=.string s->v=v'
 sl:∀b l c,v'=.slice b l c->(b=none\/(∃a,b=some a/\Sb W a.block)\/(l=0/\c=0))->∃b',v=.slice b' l c/\(0<c->b'=b)
 fn:∀(aJ:Ren)(u:Value),(∀b,¬aJ W.heap.size b)->(∀{a b b':Nat},aJ a b->aJ a b'->b=b')->(ox W).le aJ->VR F aJ v u->u=v'\/v=.tuple #[]\/∃c,v=.agg c
section
variable {F:FuncId->Bool}{W:World}
def gU{v':Value}(h:XU v'=true)(hs:∀b l c,v'=.slice b l c->¬(b=none\/(∃a,b=some a/\Sb W a.block)\/(l=0/\c=0))):Rep F W (.tuple #[]) v':=
 ⟨.hole v' h,(λk n e=>by subst e;cases h),(λs e=>by subst e;cases h),(λb l c e k=>absurd k (hs b l c e)),λ_ _ _ _ _ _=>.inr (.inl rfl)⟩
def OT(n:Nat)(c:∀v':Value,aa v'<=n->∃v,Rep F W v v'):∀l:List Value,(∀x∈l,aa x<=n)->∃a:List Value,cU F (ox W) a l:=by
 intro l
 induction l with
 |nil=>exact λ_=>⟨[],.nil⟩
 |cons x l b=>
  intro h;obtain⟨v,hv⟩:=c x (h x (by simp));obtain⟨a,hl⟩:=b λy hy=>h y (by simp[hy]);exact⟨v::a,.cons hv.vr hl⟩
def TQ:∀(n:Nat)(v':Value),aa v'<=n->∃v,Rep F W v v':=by
 intro n
 induction n with
 |zero=>intro v' h;cases v'<;>simp at h
 |succ n z=>
  intro v' E
  cases v' with
  |bool b=>exact⟨.bool b,.bool b,λ_ _ _=>rfl,λ_ _=>rfl,(λ_ _ _ e=>by cases e),λ_ _ _ _ _ h=>by cases h;exact .inl rfl⟩
  |int k m=>exact⟨.int k m,.int k m,λ_ _ _=>rfl,λ_ _=>rfl,(λ_ _ _ e=>by cases e),λ_ _ _ _ _ h=>by cases h;exact .inl rfl⟩
  |string s=>exact⟨.string s,.string s,λ_ _ _=>rfl,λ_ _=>rfl,(λ_ _ _ e=>by cases e),λ_ _ _ _ _ h=>by cases h;exact .inl rfl⟩
  |float k b=>exact⟨_,gU rfl λ_ _ _ e=>by cases e⟩
  |complex k a b=>exact⟨_,gU rfl λ_ _ _ e=>by cases e⟩
  |pointer p=>cases p with
   |none=>exact⟨.pointer none,.dS,λ_ _ _=>rfl,λ_ _=>rfl,(λ_ _ _ e=>by cases e),λ_ _ _ _ _ h=>by cases h;exact .inl rfl⟩
   |some p=>exact⟨_,gU rfl λ_ _ _ e=>by cases e⟩
  |slice b l c=>
   cases b with
   |none=>exact⟨.slice none l c,.di l c,λ_ _ _=>rfl,λ_ _=>rfl,(λ_ _ _ e _=>by grind),λ_ _ _ _ _ h=>by cases h;exact .inl rfl⟩
   |some a=>
    by_cases A:l=0/\c=0
    ·obtain⟨rfl,rfl⟩:=A;refine⟨.slice (some ⟨W.heap.size,N1 a,none⟩) 0 0,.dK _ a,(λ_ _ e=>by cases e),(λ_ e=>by cases e),(λ_ _ _ e _=>by grind),λj u o _ _ h=>?_⟩;left;generalize d:(⟨W.heap.size,N1 a,none⟩:Addr)=x at h
     cases h with
     |slice _ _ g=>subst d;exact absurd g.1 (o _)
     |dK D y=>
      grind[Addr.mk.injEq,N3]
    ·by_cases q:Sb W a.block
     ·refine⟨.slice (some a) l c,.slice l c ⟨⟨rfl,q⟩,rfl,rfl⟩,(λ_ _ e=>by cases e),(λ_ e=>by cases e),(λ_ _ _ e _=>by grind),λj u o hf i h=>?_⟩;left
      cases h with
      |@slice _ B _ _ g=>
       obtain⟨w,H,I⟩:=g;have e:=hf w (i ⟨rfl,q⟩);obtain⟨J,L,M⟩:=a;obtain⟨N,O,P⟩:=B
       grind
      |dK D y=>grind
     ·refine⟨_,gU rfl λ_ _ _ e=>?_⟩
      grind
  |map r=>exact⟨_,gU rfl λ_ _ _ e=>by cases e⟩
  |chan r=>exact⟨_,gU rfl λ_ _ _ e=>by cases e⟩
  |func fn f c=>
   cases fn with
   |method m=>
    refine⟨_,.wG m f c,(λ_ _ e=>by cases e),(λ_ e=>by cases e),(λ_ _ _ e=>by cases e),λj u _ _ _ h=>?_⟩;left
    cases h with
    |func h=>cases h
    |wG=>rfl
   |_=>exact⟨_,gU rfl λ_ _ _ e=>by cases e⟩
  |nilFunc=>exact⟨.nilFunc,.nilFunc,λ_ _ _=>rfl,λ_ _=>rfl,(λ_ _ _ e=>by cases e),λ_ _ _ _ _ h=>by cases h;exact .inl rfl⟩
  |iface t v=>exact⟨_,gU rfl λ_ _ _ e=>by cases e⟩
  |nilIface=>exact⟨.nilIface,.nilIface,λ_ _ _=>rfl,λ_ _=>rfl,(λ_ _ _ e=>by cases e),λ_ _ _ _ _ h=>by cases h;exact .inl rfl⟩
  |agg cs=>
   obtain⟨C,hl⟩:=OT n z cs.toList λx d=>by
    have w:aa x<aa cs:=Array.sizeOf_lt_of_mem (Array.mem_toList_iff.1 d)
    grind
   exact⟨.agg ⟨C⟩,.agg hl,(λ_ _ e=>by cases e),(λ_ e=>by cases e),(λ_ _ _ e=>by cases e),λ_ _ _ _ _ _=>.inr (.inr ⟨_,rfl⟩)⟩
  |tuple vs=>exact⟨_,gU rfl λ_ _ _ e=>by cases e⟩
def OU(v':Value):∃v,Rep F W v v':=TQ _ v' (Nat.le_refl _)
end
noncomputable def rep(F:FuncId->Bool)(W:World)(v:Value):Value:=Classical.choose (OU (F:=F) (W:=W) v)
def oy(F:FuncId->Bool)(W:World)(v:Value):Rep F W (rep F W v) v:=Classical.choose_spec (OU (F:=F) (W:=W) v)
noncomputable def acF(F:FuncId->Bool)(W:World):Obj->Obj
 |.cells c t a=>.cells (c.map (rep F W)) t a
 |o=>o
noncomputable def cV(F:FuncId->Bool)(W:World):World:={ W with heap:=(W.heap.map (acF F W)).push (.deferred none) }
section
variable {F:FuncId->Bool}{K:Code->Bool}{W:World}{G:Nat}
def mT:(cV F W).heap.size=W.heap.size+1:=by simp[cV]
def oz{b:Nat}{c:Array Value}{t:TypeId}{a:Nat×Nat}(h:W.heap[b]?=some (.cells c t a)):(cV F W).heap[b]?=some (.cells (c.map (rep F W)) t a):=by
 have hl:=bE h;show((W.heap.map (acF F W)).push (.deferred none))[b]?=_;rw[Array.getElem?_push_lt (by simpa using hl),<-Array.getElem?_eq_getElem (by simpa using hl),Array.getElem?_map,h];rfl
def xA{b i:Nat}{v:Value}(h:W.cell? ⟨b,i,none⟩=some v):(cV F W).cell? ⟨b,i,none⟩=some (rep F W v)/\Sb W b:=by
 unfold ab at h
 cases hb:W.heap[b]? with
 |none=>simp only[hb]at h;cases h
 |some o=>
  cases o with
  |cells c t a=>
   simp only[hb]at h;have h:c[i]?=some v:=h;refine⟨?_,c,t,a,hb⟩;unfold ab;simp only[oz hb]
   grind
  |_=>simp only[hb]at h;cases h
def Je(l:List Value):cU F (ox W) (l.map (rep F W)) l:=by
 induction l with
 |nil=>exact .nil
 |cons v l a=>exact .cons (oy F W v).vr a
def Yq(c:Array Value):VA F (ox W) (c.map (rep F W)) c:=by
 show cU _ _ _ _;rw[Array.toList_map];exact Je _
def Yr:(ox W).bw G:=⟨λh k=>h.1.symm.trans k.1,λh k=>h.1.trans k.1.symm,λh=>by rw[h.1]⟩
def wr0(b:G<=W.heap.size){w:World}(a:w.heap=(cV F W).heap):WR G F K (ox W) w W:=by
 refine⟨by rw[a,mT];omega,b,λ{r e}h=>?_⟩;obtain⟨rfl,c,t,d,h⟩:=h;exact⟨_,_,by rw[a];exact oz h,h,.cells t d (Yq c)⟩
def LV{d:Ren}{g w0 j:World}(q:w0.heap=(cV F W).heap)(r:∀b,b<W.heap.size->g.heap[b]?=(cV F W).heap[b]?)(s:WR G F K d g j)(w:d.bw G)(hg:sA (ox W) d w0 W g j)(z:Kept (ox W) W j) :
 ∀b,b<W.heap.size->j.heap[b]?=W.heap[b]?:=by
 intro b hb;by_cases l:Sb W b
 ·obtain⟨c,t,m,h⟩:=l;have A:d b b:=hg.1 ⟨rfl,c,t,m,h⟩;obtain⟨o,J,n,B,C⟩:=s.obj A;have D:=oz (F:=F) h;rw[r b hb,D]at n;cases n;have E:∀b,¬d W.heap.size b:=λb x=>by
   rcases hg.2.1 _ _ x with⟨_,_,_,_,y⟩|⟨y,_⟩
   ·grind
   ·rw[q,mT]at y;omega
  cases C with
  |@cells _ L _ _ hc=>
   rw[B,h];congr 2;apply Array.ext_getElem?;intro i
   rcases VA.get? hc i with⟨f,p⟩|⟨v,u,f,p,hv⟩
   ·grind
   ·rw[Array.getElem?_map,Option.map_eq_some_iff]at f;obtain⟨v',f,rfl⟩:=f
    rcases(oy F W v').fn d u E (λa b=>w.fn a b) hg.1 hv with e|e
    ·rw[f,p,e]
    ·have H:nX g b i:=by
      refine⟨rep F W v',?_,e⟩;unfold ab
      grind
     obtain⟨_,k⟩:=hg.2.2 b b ⟨rfl,c,t,m,h⟩ i H;unfold ab at k
     grind
 ·exact z.block b hb λa I=>l (by obtain⟨rfl,h⟩:=I;exact h)
end
end Go.bJ
