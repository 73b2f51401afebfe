/- Part of the proof of FieldFlat and FieldMarshals. -/
import GoSem.Step
set_option linter.all false
open Go renaming FuncId->aa,TypeId->ab,Result->ac,MapEntry->ad
open Nat renaming le_add_right->ae,lt_or_ge->ag,lt_irrefl->ai,le_refl->ao,le_trans->ap
open Array renaming toList_push->aq,toList_append->ar,getD_eq_getD_getElem?->aw,toList_setIfInBounds->aB,toList_extract->aF,replicate->aH,toList_replicate->aI,getElem?_push_lt->aL,getElem?_eq_getElem->a5,getElem?_setIfInBounds_ne->a6,ext_getElem?->a7,getElem?_modify->a8,getElem?_setIfInBounds->a9,append_assoc->ba
open Go.World renaming freeze->bb,noCell->bc,cell?->bd,farLoad->bg,shape?->bi
open Go.Sem renaming store->bj,runT->bl,run->bm,getObj->bo,setObj->bp
namespace Go.bJ
abbrev Ren:=Nat->Nat->Prop
structure Ren.bw(G:Nat)(ρ:Ren):Prop where
 fn:∀{a b b':Nat},ρ a b->ρ a b'->b=b'
 inj:∀{a a' b:Nat},ρ a b->ρ a' b->a=a'
 XS:∀{a b:Nat},ρ a b->(a<G↔b<G)
def Ren.le(ρ σ:Ren):Prop:=∀ ⦃a b:Nat⦄,ρ a b->σ a b
def Ren.ext(ρ:Ren)(r c:Nat):Ren:=λa b=>ρ a b\/(a=r/\b=c)
def Ren.le_refl(ρ:Ren):ρ.le ρ:=λ_ _ h=>h
def Ren.le_trans{ρ σ a:Ren}(h:ρ.le σ)(k:σ.le a):ρ.le a:=λ_ _ x=>k (h x)
def Ren.kW(ρ:Ren)(r a:Nat):ρ.le (ρ.ext r a):=λ_ _ h=>.inl h
def Ren.IW(ρ:Ren)(r a:Nat):ρ.ext r a r a:=.inr ⟨rfl,rfl⟩
def Ren.bw.ext{G:Nat}{ρ:Ren}(h:ρ.bw G){r c:Nat}(d:∀b,¬ρ r b)(e:∀a,¬ρ a c)(f:G<=r)(g:G<=c):(ρ.ext r c).bw G:=by
 refine⟨λ{a b b'}x y=>?_,λ{a i b}x y=>?_,λ{a b}x=>?_⟩
 ·rcases x with x|⟨rfl,rfl⟩<;>rcases y with y|⟨y1,y2⟩
  ·exact h.fn x y
  ·subst y1;exact absurd x (d _)
  ·exact absurd y (d _)
  ·exact y2.symm
 ·rcases x with x|⟨rfl,rfl⟩<;>rcases y with y|⟨y1,y2⟩
  ·exact h.inj x y
  ·subst y2;exact absurd x (e _)
  ·exact absurd y (e _)
  ·exact y1.symm
 ·rcases x with x|⟨rfl,rfl⟩
  ·exact h.XS x
  ·omega
def AR(ρ:Ren)(a a':Addr):Prop:=ρ a.block a'.block/\a.off=a'.off/\a.spot=a'.spot
def AR.mono{ρ σ:Ren}(h:ρ.le σ){a a':Addr}(x:AR ρ a a'):AR σ a a':=⟨h x.1,x.2⟩
def AR.add{ρ:Ren}{a a':Addr}(x:AR ρ a a')(n:Nat):AR ρ (a.add n) (a'.add n):=by
 unfold Addr.add
 split
 ·exact x
 ·exact⟨x.1,by show a.off+n=a'.off+n;rw[x.2.1],rfl⟩
def AR.eq_iff{G:Nat}{ρ:Ren}(c:ρ.bw G){a a' b b':Addr}(x:AR ρ a a')(y:AR ρ b b'):(a=b)↔(a'=b'):=by
 obtain⟨k,l,d⟩:=a;obtain⟨m,n,o⟩:=b;obtain⟨e,f,p⟩:=a';obtain⟨g,i,j⟩:=b';obtain⟨x1,x2,x3⟩:=x;obtain⟨y1,y2,y3⟩:=y;simp only at x1 x2 x3 y1 y2 y3;subst x2 x3 y2 y3;constructor
 ·intro h;simp only[Addr.mk.injEq]at h;obtain⟨rfl,rfl,rfl⟩:=h;rw[c.fn x1 y1]
 ·intro h;simp only[Addr.mk.injEq]at h;obtain⟨rfl,rfl,rfl⟩:=h;rw[c.inj x1 y1]
def cn:aa:=1000000
inductive XT(F:aa->Bool)(ρ:Ren):Fn->Fn->Prop
 |func (f:aa) (h:F f=true):XT F ρ (.func f) (.func f)
 |yield {l l':Nat} (h:ρ l l'):XT F ρ (.yield l) (.yield l')
 |spec {l l':Nat} (h:ρ l l'):XT F ρ (.func (cn+l)) (.yield l')
def XU:Value->Bool
 |.bool _ | .int .. | .string _ | .agg _ | .pointer none | .nilIface | .nilFunc | .func (.method _) _ _=>false
 |_=>true
def CM(x y:Nat):Nat:=(x+y)*(x+y)+x
def zY{x y u v:Nat}(h:CM x y=CM u v):x=u/\y=v:=by
 unfold CM at h;have a:∀{s t p q:Nat},p<=s->s<t->s*s+p<t*t+q:=by
  intro s t p q c b;have d:(s+1)*(s+1)<=t*t:=Nat.mul_le_mul b b;have e:(s+1)*(s+1)=s*s+s+s+1:=by rw[Nat.add_mul,Nat.mul_add];omega
  omega
 rcases Nat.lt_trichotomy (x+y) (u+v) with g|g|g
 ·have:=a (p:=x) (q:=u) (ae x y) g;omega
 ·rw[g]at h;omega
 ·have:=a (p:=u) (q:=x) (ae u v) g;omega
def N1(a:Addr):Nat:=CM (CM a.block a.off) (match a.spot with|none=>0|some k=>k+1)
def N3{a b:Addr}(h:N1 a=N1 b):a=b:=by
 obtain⟨x,y,z⟩:=a;obtain⟨u,v,w⟩:=b;obtain⟨d,c⟩:=zY h;obtain⟨rfl,rfl⟩:=zY d;cases z<;>cases w<;>simp only at c<;>first|rfl|omega|(obtain rfl:_=_:=Nat.succ.inj c;rfl)
mutual
inductive VR(F:aa->Bool)(ρ:Ren):Value->Value->Prop
 |bool (b:Bool):VR F ρ (.bool b) (.bool b)
 |int (k:IntKind) (n:Int):VR F ρ (.int k n) (.int k n)
 |string (s:ByteArray):VR F ρ (.string s) (.string s)
 |dS:VR F ρ (.pointer none) (.pointer none)
 |ptr {a a':Addr} (h:AR ρ a a'):VR F ρ (.pointer (some a)) (.pointer (some a'))
 |di (l c:Nat):VR F ρ (.slice none l c) (.slice none l c)
 |slice {a a':Addr} (l c:Nat) (h:AR ρ a a'):VR F ρ (.slice (some a) l c) (.slice (some a') l c)
 |dK (D:Nat) (a:Addr):VR F ρ (.slice (some ⟨D,N1 a,none⟩) 0 0) (.slice (some a) 0 0)
 |qQ:VR F ρ (.map none) (.map none)
 |map {r r':Nat} (h:ρ r r'):VR F ρ (.map (some r)) (.map (some r'))
 |func {fn dL:Fn} {a a' b b':Array Value} (h:XT F ρ fn dL) (h1:cU F ρ a.toList a'.toList) (h2:cU F ρ b.toList b'.toList):VR F ρ (.func fn a b) (.func dL a' b')
 |nilFunc:VR F ρ .nilFunc .nilFunc
 |iface (t:ab) {v v':Value} (h:VR F ρ v v'):VR F ρ (.iface t v) (.iface t v')
 |nilIface:VR F ρ .nilIface .nilIface
 |agg {a a':Array Value} (h:cU F ρ a.toList a'.toList):VR F ρ (.agg a) (.agg a')
 |tuple {a a':Array Value} (h:cU F ρ a.toList a'.toList):VR F ρ (.tuple a) (.tuple a')
 |hole (v':Value) (h:XU v'=true):VR F ρ (.tuple #[]) v'
 |wG (n:String) (f c:Array Value):VR F ρ (.func (.method "") #[.iface 0 .nilIface] #[.func (.method n) f c]) (.func (.method n) f c)
inductive cU(F:aa->Bool)(ρ:Ren):List Value->List Value->Prop
 |nil:cU F ρ [] []
 |cons {v v':Value} {l l':List Value} (h:VR F ρ v v') (t:cU F ρ l l'):cU F ρ (v::l) (v'::l')
end
abbrev VA(F:aa->Bool)(ρ:Ren)(a a':Array Value):Prop:=cU F ρ a.toList a'.toList
def XT.mono{F:aa->Bool}{ρ σ:Ren}(h:ρ.le σ){f f':Fn}(x:XT F ρ f f'):XT F σ f f':=by
 cases x with
 |func f hf=>exact .func f hf
 |yield hl=>exact .yield (h hl)
 |spec hl=>exact .spec (h hl)
section
variable {F:aa->Bool}{ρ σ:Ren}
mutual
theorem VR.mono(h:ρ.le σ){v v':Value}(x:VR F ρ v v'):VR F σ v v':=by
 cases x with
 |bool b=>exact .bool b
 |int k n=>exact .int k n
 |string s=>exact .string s
 |dS=>exact .dS
 |ptr a=>exact .ptr (a.mono h)
 |di l c=>exact .di l c
 |slice l c a=>exact .slice l c (a.mono h)
 |dK D a=>exact .dK D a
 |qQ=>exact .qQ
 |map a=>exact .map (h a)
 |func a b c=>exact .func (a.mono h) (cU.mono h b) (cU.mono h c)
 |nilFunc=>exact .nilFunc
 |iface t a=>exact .iface t (VR.mono h a)
 |nilIface=>exact .nilIface
 |agg a=>exact .agg (cU.mono h a)
 |tuple a=>exact .tuple (cU.mono h a)
 |hole v' a=>exact .hole v' a
 |wG n f c=>exact .wG n f c
theorem cU.mono(h:ρ.le σ){l l':List Value}(x:cU F ρ l l'):cU F σ l l':=by
 cases x with
 |nil=>exact .nil
 |cons a b=>exact .cons (VR.mono h a) (cU.mono h b)
end
def cU.length{l l':List Value}(x:cU F ρ l l'):l.length=l'.length:=by
 induction l generalizing l' with
 |nil=>cases x;rfl
 |cons v l a=>cases x with|cons _ t=>simp[a t]
def cU.append{l l' m m':List Value}(x:cU F ρ l l')(y:cU F ρ m m'):cU F ρ (l++m) (l'++m'):=by
 induction l generalizing l' with
 |nil=>cases x;exact y
 |cons v l a=>cases x with|cons h t=>exact .cons h (a t)
def cU.get?{l l':List Value}(x:cU F ρ l l')(i:Nat):(l[i]?=none/\l'[i]?=none)\/∃v v',l[i]?=some v/\l'[i]?=some v'/\VR F ρ v v':=by
 induction l generalizing l' i with
 |nil=>cases x;exact .inl ⟨rfl,rfl⟩
 |cons v l a=>
  cases x with
  |cons h t=>
   cases i with
   |zero=>exact .inr ⟨_,_,rfl,rfl,h⟩
   |succ i=>simpa using a t i
def cU.set{l l':List Value}(x:cU F ρ l l')(i:Nat){v v':Value}(h:VR F ρ v v'):cU F ρ (l.set i v) (l'.set i v'):=by
 induction l generalizing l' i with
 |nil=>cases x;exact .nil
 |cons u l a=>
  cases x with
  |cons b t=>
   cases i with
   |zero=>exact .cons h t
   |succ i=>exact .cons b (a t i)
def cU.take{l l':List Value}(x:cU F ρ l l')(i:Nat):cU F ρ (l.take i) (l'.take i):=by
 induction l generalizing l' i with
 |nil=>cases x;simpa using cU.nil
 |cons u l a=>
  cases x with
  |cons b t=>
   cases i with
   |zero=>exact .nil
   |succ i=>exact .cons b (a t i)
def cU.drop{l l':List Value}(x:cU F ρ l l')(i:Nat):cU F ρ (l.drop i) (l'.drop i):=by
 induction l generalizing l' i with
 |nil=>cases x;simpa using cU.nil
 |cons u l a=>
  cases x with
  |cons b t=>
   cases i with
   |zero=>exact .cons b t
   |succ i=>simpa using a t i
def cU.replicate{v v':Value}(h:VR F ρ v v')(n:Nat):cU F ρ (List.replicate n v) (List.replicate n v'):=by
 induction n with
 |zero=>exact .nil
 |succ n a=>exact .cons h a
def cU.map{a:Type}(l:List a){f g:a->Value}(h:∀x∈l,VR F ρ (f x) (g x)):cU F ρ (l.map f) (l.map g):=by
 induction l with
 |nil=>exact .nil
 |cons x l b=>exact .cons (h x (by simp)) (b λy hy=>h y (by simp[hy]))
def VR.undef:VR F ρ undef undef:=.tuple .nil
def FM{v:Value}(h:XU v=true):v.cells=#[v]:=by
 cases v<;>first|rfl|cases h
def VR.cells{v v':Value}(h:VR F ρ v v'):VA F ρ v.cells v'.cells:=by
 cases h with
 |hole v' h=>rw[FM h];exact .cons (.hole v' h) .nil
 |wG n f c=>exact .cons (.wG n f c) .nil
 |dK D a=>exact .cons (.dK D a) .nil
 |_=>first|(rename_i h;exact h)|exact .cons (by constructor<;>assumption) .nil
def VA.size{a a':Array Value}(h:VA F ρ a a'):a.size=a'.size:=h.length
def VA.push{a a':Array Value}(h:VA F ρ a a'){v v':Value}(hv:VR F ρ v v'):VA F ρ (a.push v) (a'.push v'):=by
 show cU _ _ _ _;rw[aq,aq];exact cU.append h (.cons hv .nil)
def VA.append{a a' b b':Array Value}(h:VA F ρ a a')(k:VA F ρ b b'):VA F ρ (a++b) (a'++b'):=by
 show cU _ _ _ _;rw[ar,ar];exact cU.append h k
def VA.get?{a a':Array Value}(h:VA F ρ a a')(i:Nat):(a[i]?=none/\a'[i]?=none)\/∃v v',a[i]?=some v/\a'[i]?=some v'/\VR F ρ v v':=by
 have:=cU.get? h i;simpa using this
def VA.getD{a a':Array Value}(h:VA F ρ a a')(i:Nat){d d':Value}(hd:VR F ρ d d'):VR F ρ (a.getD i d) (a'.getD i d'):=by
 rw[aw,aw]
 rcases VA.get? h i with⟨b,c⟩|⟨v,v',b,c,hv⟩
 ·rw[b,c];exact hd
 ·rw[b,c];exact hv
def VA.set{a a':Array Value}(h:VA F ρ a a')(i:Nat){v v':Value}(hv:VR F ρ v v'):VA F ρ (a.setIfInBounds i v) (a'.setIfInBounds i v'):=by
 show cU _ _ _ _;rw[aB,aB];exact cU.set h i hv
def VA.extract{a a':Array Value}(h:VA F ρ a a')(i j:Nat):VA F ρ (a.extract i j) (a'.extract i j):=by
 show cU _ _ _ _;rw[aF,aF];exact cU.take (cU.drop h i) _
def VA.replicate{v v':Value}(h:VR F ρ v v')(n:Nat):VA F ρ (aH n v) (aH n v'):=by
 show cU _ _ _ _;rw[aI,aI];exact cU.replicate h n
def VA.mono(h:ρ.le σ){a a':Array Value}(x:VA F ρ a a'):VA F σ a a':=cU.mono h x
def VA.nil:VA F ρ #[] #[]:=cU.nil
def VA.one{v v':Value}(h:VR F ρ v v'):VA F ρ #[v] #[v']:=cU.cons h cU.nil
def VA.two{v v' u a:Value}(h:VR F ρ v v')(k:VR F ρ u a):VA F ρ #[v,u] #[v',a]:=cU.cons h (cU.cons k cU.nil)
def VA.three{v v' u a x b:Value}(h:VR F ρ v v')(k:VR F ρ u a)(m:VR F ρ x b):VA F ρ #[v,u,x] #[v',a,b]:=cU.cons h (cU.cons k (cU.cons m cU.nil))
end
end Go.bJ
namespace Go
def World.re(w:World)(a:Nat->Question->Nat)(d:Nat):World:={ w with tape:=a,drawn:=d }
def Result.world{a:Type}:ac a->World
 |.ok _ w | .halt _ w=>w
def Result.re{b:Type}(r:ac b)(c:Nat->Question->Nat)(d:Nat):ac b:=match r with
 |.ok a w=>.ok a (w.re c d)
 |.halt h w=>.halt h (w.re c d)
end Go
namespace Go.bJ
structure zo(F:aa->Bool)(ρ:Ren)(e e':ad):Prop where
 key:VR F ρ e.key e'.key
 val:VR F ρ e.val e'.val
 born:e.born=e'.born
def zo.mono{F:aa->Bool}{ρ σ:Ren}(h:ρ.le σ){e e':ad}(x:zo F ρ e e'):zo F σ e e':=⟨x.key.mono h,x.val.mono h,x.born⟩
inductive bD(F:aa->Bool)(ρ:Ren):List ad->List ad->Prop
 |nil:bD F ρ [] []
 |cons {e e':ad} {l l':List ad} (h:zo F ρ e e') (t:bD F ρ l l'):bD F ρ (e::l) (e'::l')
def bD.mono{F:aa->Bool}{ρ σ:Ren}(h:ρ.le σ){l l':List ad}(x:bD F ρ l l'):bD F σ l l':=by
 induction x with
 |nil=>exact .nil
 |cons a _ b=>exact .cons (a.mono h) b
def bD.length{F:aa->Bool}{ρ:Ren}{l l':List ad}(x:bD F ρ l l'):l.length=l'.length:=by
 induction x with
 |nil=>rfl
 |cons _ _ a=>simp[a]
structure CN(F:aa->Bool)(K:Code->Bool)(ρ:Ren)(l l':Loop):Prop where
 state:l.state=l'.state
 pending:l.pending=l'.pending
 FN:∀c,l.pending=some c->K c=true
 fn:l.fn=l'.fn
 mI:F l.fn=true
 tmps:VA F ρ l.tmps l'.tmps
 params:l.params=l'.params
 assign:l.assign=l'.assign
 CP:K l.assign=true
 body:l.body=l'.body
 N6:K l.body=true
 defers:ρ l.defers l'.defers
def CN.mono{F:aa->Bool}{K:Code->Bool}{ρ σ:Ren}(h:ρ.le σ){l l':Loop}(x:CN F K ρ l l'):CN F K σ l l':=
 ⟨x.state,x.pending,x.FN,x.fn,x.mI,cU.mono h x.tmps,x.params,x.assign,x.CP,x.body,x.N6,h x.defers⟩
inductive OR(F:aa->Bool)(K:Code->Bool)(ρ:Ren):Obj->Obj->Prop
 |cells {c c':Array Value} (t:ab) (fz:Nat×Nat) (h:VA F ρ c c'):OR F K ρ (.cells c t fz) (.cells c' t fz)
 |map {es aT:Array ad} (clock:Nat) (h:bD F ρ es.toList aT.toList):OR F K ρ (.map es clock) (.map aT clock)
 |stringIter (s:ByteArray) (pos:Nat):OR F K ρ (.stringIter s pos) (.stringIter s pos)
 |mJ (a:Nat) (b:Array Nat) (c:Nat):OR F K ρ (.mapIter none a b c) (.mapIter none a b c)
 |mapIter {m m':Nat} (a:Nat) (b:Array Nat) (c:Nat) (h:ρ m m'):OR F K ρ (.mapIter (some m) a b c) (.mapIter (some m') a b c)
 |loop {l l':Loop} (h:CN F K ρ l l'):OR F K ρ (.loop l) (.loop l')
 |deferred:OR F K ρ (.deferred (some [])) (.deferred (some []))
 |nW:OR F K ρ (.deferred none) (.deferred none)
 |number {a a':Addr} (lost:Bool) (h:AR ρ a a'):OR F K ρ (.number a lost) (.number a' lost)
def OR.mono{F:aa->Bool}{K:Code->Bool}{ρ σ:Ren}(h:ρ.le σ){o o':Obj}(x:OR F K ρ o o'):OR F K σ o o':=by
 cases x with
 |cells t e a=>exact .cells t e (cU.mono h a)
 |map c a=>exact .map c (a.mono h)
 |stringIter s p=>exact .stringIter s p
 |mJ a b c=>exact .mJ a b c
 |mapIter a b c d=>exact .mapIter a b c (h d)
 |loop a=>exact .loop (a.mono h)
 |deferred=>exact .deferred
 |nW=>exact .nW
 |number l a=>exact .number l (a.mono h)
structure WR(G:Nat)(F:aa->Bool)(K:Code->Bool)(ρ:Ren)(w w':World):Prop where
 pK:G<=w.heap.size
 gN:G<=w'.heap.size
 obj:∀{r r':Nat},ρ r r'->∃o o',w.heap[r]?=some o/\w'.heap[r']?=some o'/\OR F K ρ o o'
section
variable {G:Nat}{F:aa->Bool}{K:Code->Bool}{ρ σ:Ren}{w w':World}
def bE{c:Type}{a:Array c}{i:Nat}{x:c}(h:a[i]?=some x):i<a.size:=by
 rcases ag i a.size with b|b
 ·exact b
 ·rw[Array.getElem?_eq_none b]at h;cases h
def WR.lt(h:WR G F K ρ w w'){r a:Nat}(x:ρ r a):r<w.heap.size/\a<w'.heap.size:=by
 obtain⟨o,d,b,c,_⟩:=h.obj x;exact⟨bE b,bE c⟩
def WR.fresh(h:WR G F K ρ w w'):(∀b,¬ρ w.heap.size b)/\(∀a,¬ρ a w'.heap.size):=
 ⟨λ_ x=>absurd (h.lt x).1 (ai _),λ_ x=>absurd (h.lt x).2 (ai _)⟩
def WR.push(h:WR G F K ρ w w'){o o':Obj}(x:OR F K (ρ.ext w.heap.size w'.heap.size) o o') :
 WR G F K (ρ.ext w.heap.size w'.heap.size) { w with heap:=w.heap.push o } { w' with heap:=w'.heap.push o' }:=by
 refine⟨by have:=h.pK;simp;omega,by have:=h.gN;simp;omega,λ{r i}a=>?_⟩
 rcases a with a|⟨rfl,rfl⟩
 ·obtain⟨p,f,b,c,g⟩:=h.obj a;have d:=bE b;have e:=bE c;exact⟨p,f,by rw[aL d,<-a5 d];exact b,by rw[aL e,<-a5 e];exact c,g.mono (Ren.kW _ _ _)⟩
 ·exact⟨o,o',by simp,by simp,x⟩
def WR.put(h:WR G F K ρ w w')(c:ρ.bw G){r a:Nat}(b:ρ r a){o o':Obj}(x:OR F K ρ o o') :
 WR G F K ρ { w with heap:=w.heap.setIfInBounds r o } { w' with heap:=w'.heap.setIfInBounds a o' }:=by
 refine⟨by simpa using h.pK,by simpa using h.gN,λ{s d}hs=>?_⟩;obtain⟨f,g⟩:=h.lt b;by_cases e:r=s
 ·subst e;obtain rfl:=c.fn b hs;exact⟨o,o',by simp[f],by simp[g],x⟩
 ·have i:a≠d:=λy=>e (c.inj b (y▸hs));obtain⟨p,j,k,l,m⟩:=h.obj hs;exact⟨p,j,by simpa[a6 e]using k,by simpa[a6 i]using l,m⟩
def jR(w:World)(a:Addr)(v:Value){c:Array Value}{t:ab}{b:Nat×Nat}(h:w.heap[a.block]?=some (.cells c t b))(hs:a.spot=none) :
 w.setCell a v={ w with heap:=w.heap.setIfInBounds a.block (.cells (c.setIfInBounds a.off v) t b) }:=by
 unfold World.setCell;congr 1;apply a7;intro i;rw[a8,a9];by_cases e:a.block=i
 ·subst e;have hl:=bE h;rw[if_pos rfl,if_pos rfl,h,if_pos hl];simp[hs]
 ·simp[e]
def iz(w:World)(a:Addr)(n:Nat)(d:n≠0){c:Array Value}{t:ab}{b hi:Nat}(h:w.heap[a.block]?=some (.cells c t (b,hi))) :
 w.freeze a n={ w with heap:=w.heap.setIfInBounds a.block (.cells c t (if b==hi then(a.off,a.off+n) else(min b a.off,max hi (a.off+n)))) }:=by
 unfold bb;rw[if_neg d];congr 1;apply a7;intro i;rw[a8,a9];by_cases e:a.block=i
 ·subst e;have hl:=bE h;rw[if_pos rfl,if_pos rfl,h,if_pos hl];simp
 ·simp[e]
end
def lE(m:Mark):Prop:=m=.noRoom
section
variable (T:Tables)(fB fA:Array Func)(F:aa->Bool)(K:Code->Bool)
def dw:Unsupported->Bool
 |.initOrder _=>false
 |_=>true
def ac8{a:Type}(ρ:Ren):Halt->Sem a->Prop
 |.panic v,b=>∃v',b=.halt (.panic v')/\VR F ρ v v'
 |.stuck _,_=>True
 |.unsupported u,_=>dw u=true
 |_,_=>False
def Lr:Halt->Prop
 |.stuck _=>True
 |.unsupported u=>dw u=true
 |_=>False
def bW{a:Type}:Sem a->Prop
 |.halt h=>Lr h
 |.program k=>bW (k ⟨T,fB⟩)
 |.shape _ k=>∀x,bW (k x)
 |.frozen _ k=>∀x,bW (k x)
 |.mark m k=>lE m/\bW k
 |_=>False
def vW(o:Obj):Prop:=∀c t a,o≠.cells c t a
def av{g i:Type}(RA:Ren->g->i->Prop):Ren->Sem g->Sem i->Prop
 |ρ,.halt h,c=>ac8 F ρ h c
 |ρ,.pure a,c=>∃d,c=.pure d/\RA ρ a d
 |ρ,.load m a k,c=>∃m' d k',c=.load m' d k'/\m=.plain/\m'=.plain/\AR ρ a d/\∀v v',VR F ρ v v'->av RA ρ (k v) (k' v')
 |ρ,.store m a v k,c=>∃m' d v' k',c=.store m' d v' k'/\m=.plain/\m'=.plain/\AR ρ a d/\VR F ρ v v'/\av RA ρ k k'
 |ρ,.new o k,c=>∃f k',c=.new f k'/\OR F K ρ o f/\∀r e,(∀b,¬ρ r b)->(∀a,¬ρ a e)->T.globals.size<=r->T.globals.size<=e->av RA (ρ.ext r e) (k r) (k' e)
 |ρ,.shape r k,c=>(∃e k',c=.shape e k'/\ρ r e/\∀x,av RA ρ (k x) (k' x))\/∀x,bW T fB (k x)
 |ρ,.freeze a n k,c=>∃d k',c=.freeze d n k'/\AR ρ a d/\av RA ρ k k'
 |ρ,.frozen a k,c=>(∃d k',c=.frozen d k'/\AR ρ a d/\∀b,av RA ρ (k b) (k' b))\/∀x,bW T fB (k x)
 |ρ,.getObj r k,c=>∃e k',c=.getObj e k'/\ρ r e/\∀o f,OR F K ρ o f->av RA ρ (k o) (k' f)
 |ρ,.setObj r o k,c=>∃e f k',c=.setObj e f k'/\ρ r e/\(OR F K ρ o f/\vW o)/\av RA ρ k k'
 |ρ,.choose q k,c=>∃k',c=.choose q k'/\∀n,av RA ρ (k n) (k' n)
 |_,.sys _ _,_=>False
 |ρ,.program k,c=>(∃k',c=.program k'/\av RA ρ (k ⟨T,fB⟩) (k' ⟨T,fA⟩))\/bW T fB (k ⟨T,fB⟩)
 |ρ,.mark m k,c=>(∃k',c=.mark m k'/\lE m/\av RA ρ k k')\/(lE m/\bW T fB k)
end
section
variable {T:Tables}{fB fA:Array Func}{F:aa->Bool}{K:Code->Bool}
def bW.bind{b c:Type}{s:Sem b}{f:b->Sem c}(h:bW T fB s):bW T fB (s.bind f):=by
 induction s with
 |halt _=>exact h
 |program k a=>exact a _ h
 |shape r k a=>exact λx=>a x (h x)
 |frozen r k a=>exact λx=>a x (h x)
 |mark m k a=>exact⟨h.1,a h.2⟩
 |_=>exact h.elim
def bW.run{c:Type}{s:Sem c}(h:bW T fB s)(w:World):∃x,Lr x/\∀b d,s.run ⟨T,fB⟩ (w.re b d)=.halt x (w.re b d):=by
 induction s with
 |halt x=>exact⟨x,h,λ_ _=>rfl⟩
 |program k a=>exact a _ h
 |shape r k a=>exact a (w.shape? r) (h _)
 |frozen r k a=>exact a (w.frozen? r) (h _)
 |mark m k a=>exact a h.2
 |_=>exact h.elim
def Lr.halt{c a:Type}{RA:Ren->c->a->Prop}{ρ:Ren}{h:Halt}(b:Lr h)(s':Sem a):av T fB fA F K RA ρ (.halt h) s':=by
 cases h<;>first|exact b.elim|trivial|exact b
def bW.rel{a b:Type}{RA:Ren->a->b->Prop}{ρ:Ren}{s:Sem a}(h:bW T fB s)(s':Sem b):av T fB fA F K RA ρ s s':=by
 cases s with
 |halt x=>exact Lr.halt h s'
 |program k=>exact .inr h
 |shape r k=>exact .inr h
 |frozen r k=>exact .inr h
 |mark m k=>exact .inr h
 |_=>exact h.elim
def av.bind{t u A B:Type}{RA:Ren->t->u->Prop}{C:Ren->A->B->Prop}{s:Sem t} :
 ∀{ρ:Ren}{s':Sem u}{f:t->Sem A}{f':u->Sem B},ρ.bw T.globals.size->av T fB fA F K RA ρ s s'->
  (∀σ:Ren,ρ.le σ->σ.bw T.globals.size->∀a a',RA σ a a'->av T fB fA F K C σ (f a) (f' a'))->av T fB fA F K C ρ (s.bind f) (s'.bind f'):=by
 induction s with
 |pure a=>rintro ρ s' f f' e⟨a',rfl,h⟩hf;exact hf ρ (Ren.le_refl ρ) e a a' h
 |halt h=>
  intro ρ s' f f' e hs hf;cases h<;>first|exact hs|trivial|(obtain⟨v',rfl,hv⟩:=hs;exact⟨v',rfl,hv⟩)
 |load m a k i=>rintro ρ s' f f' e⟨m',a',k',rfl,g,j,l,y⟩hf;exact⟨_,_,_,rfl,g,j,l,λv v' hv=>i v e (y v v' hv) hf⟩
 |store m a v k i=>rintro ρ s' f f' e⟨m',a',v',k',rfl,g,j,l,y,D⟩hf;exact⟨_,_,_,_,rfl,g,j,l,y,i e D hf⟩
 |new o k i=>
  rintro ρ s' f f' e⟨z,k',rfl,g,j⟩hf;exact⟨_,_,rfl,g,λr p a b c d=>i r (e.ext a b c d) (j r p a b c d) λσ E=>hf σ (λ_ _ x=>E (Ren.kW _ _ _ x))⟩
 |shape r k i=>
  rintro ρ s' f f' e(⟨p,k',rfl,g,j⟩|h)hf
  ·exact .inl ⟨_,_,rfl,g,λx=>i x e (j x) hf⟩
  ·exact .inr λx=>(h x).bind
 |freeze a n k i=>rintro ρ s' f f' e⟨a',k',rfl,g,j⟩hf;exact⟨_,_,rfl,g,i e j hf⟩
 |frozen a k i=>
  rintro ρ s' f f' e(⟨a',k',rfl,g,j⟩|h)hf
  ·exact .inl ⟨_,_,rfl,g,λb=>i b e (j b) hf⟩
  ·exact .inr λx=>(h x).bind
 |getObj r k i=>rintro ρ s' f f' e⟨p,k',rfl,g,j⟩hf;exact⟨_,_,rfl,g,λo z H=>i o e (j o z H) hf⟩
 |setObj r o k i=>rintro ρ s' f f' e⟨p,z,k',rfl,g,j,l⟩hf;exact⟨_,_,_,rfl,g,j,i e l hf⟩
 |choose q k i=>rintro ρ s' f f' e⟨k',rfl,g⟩hf;exact⟨_,rfl,λn=>i n e (g n) hf⟩
 |sys c k i=>intro ρ s' f f' e h;exact h.elim
 |program k i=>
  rintro ρ s' f f' e(⟨k',rfl,g⟩|g)hf
  ·exact .inl ⟨_,rfl,i _ e g hf⟩
  ·exact .inr g.bind
 |mark m k i=>
  rintro ρ s' f f' e(⟨k',rfl,g,j⟩|h)hf
  ·exact .inl ⟨_,rfl,g,i e j hf⟩
  ·exact .inr ⟨h.1,h.2.bind⟩
def av.mono{t u:Type}{RA y:Ren->t->u->Prop}{s:Sem t}:∀{ρ:Ren}{s':Sem u},av T fB fA F K RA ρ s s'->(∀σ:Ren,ρ.le σ->∀a a',RA σ a a'->y σ a a')->av T fB fA F K y ρ s s':=by
 induction s with
 |pure a=>rintro ρ s'⟨a',rfl,h⟩hf;exact⟨a',rfl,hf ρ (Ren.le_refl ρ) a a' h⟩
 |halt h=>intro ρ s' hs _;exact hs
 |load m a k f=>rintro ρ s'⟨m',a',k',rfl,e,g,i,l⟩hf;exact⟨_,_,_,rfl,e,g,i,λv v' hv=>f v (l v v' hv) hf⟩
 |store m a v k f=>rintro ρ s'⟨m',a',v',k',rfl,e,g,i,l,z⟩hf;exact⟨_,_,_,_,rfl,e,g,i,l,f z hf⟩
 |new o k f=>
  rintro ρ s'⟨p,k',rfl,e,g⟩hf;exact⟨_,_,rfl,e,λr j a b c d=>f r (g r j a b c d) λσ A=>hf σ (λ_ _ x=>A (Ren.kW _ _ _ x))⟩
 |shape r k f=>
  rintro ρ s'(⟨j,k',rfl,e,g⟩|h)hf
  ·exact .inl ⟨_,_,rfl,e,λx=>f x (g x) hf⟩
  ·exact .inr h
 |freeze a n k f=>rintro ρ s'⟨a',k',rfl,e,g⟩hf;exact⟨_,_,rfl,e,f g hf⟩
 |frozen a k f=>
  rintro ρ s'(⟨a',k',rfl,e,g⟩|h)hf
  ·exact .inl ⟨_,_,rfl,e,λb=>f b (g b) hf⟩
  ·exact .inr h
 |getObj r k f=>rintro ρ s'⟨j,k',rfl,e,g⟩hf;exact⟨_,_,rfl,e,λo p B=>f o (g o p B) hf⟩
 |setObj r o k f=>rintro ρ s'⟨j,p,k',rfl,e,g,i⟩hf;exact⟨_,_,_,rfl,e,g,f i hf⟩
 |choose q k f=>rintro ρ s'⟨k',rfl,e⟩hf;exact⟨_,rfl,λn=>f n (e n) hf⟩
 |sys c k f=>intro ρ s' h;exact h.elim
 |program k f=>
  rintro ρ s'(⟨k',rfl,e⟩|e)hf
  ·exact .inl ⟨_,rfl,f _ e hf⟩
  ·exact .inr e
 |mark m k f=>
  rintro ρ s'(⟨k',rfl,e,g⟩|h)hf
  ·exact .inl ⟨_,rfl,e,f g hf⟩
  ·exact .inr h
end
def Ls(ρ:Ren)(e:Event):Prop:=
 match e.loc with
 |.cell a=>e.sync=false/\∃r,ρ r a.block
 |.obj b=>e.sync=false/\∃r,ρ r b
 |.mark m=>lE m
 |.output=>False
 |.goroutines=>False
def Ls.mono{ρ a:Ren}(h:ρ.le a){e:Event}(x:Ls ρ e):Ls a e:=by
 obtain⟨l,w,s⟩:=e;cases l<;>simp only[Ls]at x ⊢
 ·exact⟨x.1,x.2.imp λ_ y=>h y⟩
 ·exact⟨x.1,x.2.imp λ_ y=>h y⟩
 ·exact x
def nX(w:World)(a i:Nat):Prop:=∃v,w.cell? ⟨a,i,none⟩=some v/\(v=.tuple #[]\/∃c,v=.agg c)
structure cE(G:Nat)(F:aa->Bool)(K:Code->Bool)(ρ:Ren)(w w':World)(aJ:Ren)(w1 aP:World)(new:Array Event):Prop where
 le:ρ.le aJ
 inj:aJ.bw G
 wr:WR G F K aJ w1 aP
 tape:w1.tape=aP.tape
 drawn:w1.drawn=aP.drawn
 wH:aP.tape=w'.tape
 XV:aP.os=w'.os
 mK:aP.output=w'.output
 size:w.heap.size<=w1.heap.size
 fV:w'.heap.size<=aP.heap.size
 frame:∀b,b<w'.heap.size->(∀a,¬ρ a b)->aP.heap[b]?=w'.heap[b]?
 N7:∀b,w'.heap.size<=b->b<aP.heap.size->∃a,aJ a b
 only:∀a b,aJ a b->ρ a b\/(w.heap.size<=a/\w'.heap.size<=b)
 ev:∀e∈new,Ls aJ e
 hol:∀a b,ρ a b->∀i,nX w1 a i->nX w a i/\aP.cell? ⟨b,i,none⟩=w'.cell? ⟨b,i,none⟩
section
variable {G:Nat}{F:aa->Bool}{K:Code->Bool}
def cE.refl{ρ:Ren}{w w':World}(a:ρ.bw G)(b:WR G F K ρ w w')(c:w.tape=w'.tape)(hd:w.drawn=w'.drawn):cE G F K ρ w w' ρ w w' #[]:=
 ⟨Ren.le_refl _,a,b,c,hd,rfl,rfl,rfl,ao _,ao _,λ_ _ _=>rfl,λ_ d e=>absurd e (Nat.not_lt.2 d),λ_ _ h=>.inl h,by simp,λ_ _ _ _ h=>⟨h,rfl⟩⟩
def cE.trans{ρ d f:Ren}{w w' w1 c w2 g:World}{e1 j:Array Event}(h:cE G F K ρ w w' d w1 c e1)(k:cE G F K d w1 c f w2 g j):cE G F K ρ w w' f w2 g (e1++j):=by
 refine⟨Ren.le_trans h.le k.le,k.inj,k.wr,k.tape,k.drawn,k.wH.trans h.wH,k.XV.trans h.XV,k.mK.trans h.mK,ap h.size k.size,ap h.fV k.fV,λb hb l=>?_,λb m n=>?_,λa b x=>?_,λe o=>?_,λa b x i p=>?_⟩
 ·rw[k.frame b (Nat.lt_of_lt_of_le hb h.fV) (λa x=>?_),h.frame b hb l]
  rcases h.only a b x with y|⟨_,y⟩
  ·exact l a y
  ·omega
 ·rcases ag b c.heap.size with hl|hg
  ·exact(h.N7 b m hl).imp λ_ x=>k.le x
  ·exact k.N7 b hg n
 ·rcases k.only a b x with y|⟨y1,y2⟩
  ·exact h.only a b y
  ·exact .inr ⟨ap h.size y1,ap h.fV y2⟩
 ·rcases Array.mem_append.1 o with x|x
  ·exact(h.ev e x).mono k.le
  ·exact k.ev e x
 ·obtain⟨y,e⟩:=k.hol a b (h.le x) i p;obtain⟨z,q⟩:=h.hol a b x i y;exact⟨z,e.trans q⟩
end
section
variable (G:Nat)(F:aa->Bool)(K:Code->Bool)
def mL{d e:Type}(RA:Ren->d->e->Prop)(ρ:Ren)(w w':World)(f:Array Event)(g:ac e×Array Event):ac d->Prop
 |.ok a w1=>∃b h c new,g=(.ok h c,f++new)/\cE G F K ρ w w' b w1 c new/\RA b a h
 |.halt (.panic v) w1=>∃b v' c new,g=(.halt (.panic v') c,f++new)/\cE G F K ρ w w' b w1 c new/\VR F b v v'
 |.halt (.stuck _) _=>True
 |.halt (.unsupported u) _=>dw u=true
 |.halt _ _=>False
def qp{f g:Type}(RA:Ren->f->g->Prop)(ρ:Ren)(w w':World)(h:Array Event)(i:ac g×Array Event):ac f->Prop
 |.ok a w1=>∃b j c new e d,i=(.ok j c,h++new)/\cE G F K ρ w w' b (w1.re e d) c new/\RA b a j
 |.halt (.panic v) w1=>∃b v' c new e d,i=(.halt (.panic v') c,h++new)/\cE G F K ρ w w' b (w1.re e d) c new/\VR F b v v'
 |.halt (.stuck _) _=>True
 |.halt (.unsupported u) _=>dw u=true
 |.halt _ _=>False
end
section
variable {T:Tables}{fB fA:Array Func}{G:Nat}{F:aa->Bool}{K:Code->Bool}
def mL.step{f g:Type}{RA:Ren->f->g->Prop}{ρ i:Ren}{w w' w1 j:World}{l new:Array Event}{m:ac g×Array Event}{r:ac f}
 (hs:cE G F K ρ w w' i w1 j new) (h:mL G F K RA i w1 j (l++new) m r):mL G F K RA ρ w w' l m r:=by
 match r,h with
 |.ok a w2,⟨b,n,c,d,e,k,o⟩=>exact⟨b,n,c,new++d,by rw[e,ba],hs.trans k,o⟩
 |.halt (.panic v) w2,⟨b,v',c,d,e,k,hv⟩=>exact⟨b,v',c,new++d,by rw[e,ba],hs.trans k,hv⟩
 |.halt .blocked _,h=>exact h
 |.halt .waiting _,h=>exact h
 |.halt (.exit _) _,h=>exact h
 |.halt (.fatal _) _,h=>exact h
 |.halt (.throw _) _,h=>exact h
 |.halt .goexit _,h=>exact h
 |.halt (.unsupported _) _,h=>exact h
 |.halt (.stuck _) _,_=>trivial
def mL.zu{f g:Type}{RA:Ren->f->g->Prop}{ρ:Ren}{w w':World}{i:Array Event}{j:ac g×Array Event}{r:ac f}(h:mL G F K RA ρ w w' i j r):qp G F K RA ρ w w' i j r:=by
 match r,h with
 |.ok a w2,⟨b,l,c,d,e,k,m⟩=>exact⟨b,l,c,d,w2.tape,w2.drawn,e,k,m⟩
 |.halt (.panic v) w2,⟨b,v',c,d,e,k,hv⟩=>exact⟨b,v',c,d,w2.tape,w2.drawn,e,k,hv⟩
 |.halt .blocked _,h=>exact h
 |.halt .waiting _,h=>exact h
 |.halt (.exit _) _,h=>exact h
 |.halt (.fatal _) _,h=>exact h
 |.halt (.throw _) _,h=>exact h
 |.halt .goexit _,h=>exact h
 |.halt (.unsupported _) _,h=>exact h
 |.halt (.stuck _) _,_=>trivial
def qp.step{i j:Type}{RA:Ren->i->j->Prop}{ρ l:Ren}{w w' w1 m:World}{n new:Array Event}{o:ac j×Array Event}{r:ac i}
 (hs:cE G F K ρ w w' l w1 m new) (h:qp G F K RA l w1 m (n++new) o r):qp G F K RA ρ w w' n o r:=by
 match r,h with
 |.ok a w2,⟨b,p,c,f,g,d,e,k,q⟩=>exact⟨b,p,c,new++f,g,d,by rw[e,ba],hs.trans k,q⟩
 |.halt (.panic v) w2,⟨b,v',c,f,g,d,e,k,hv⟩=>exact⟨b,v',c,new++f,g,d,by rw[e,ba],hs.trans k,hv⟩
 |.halt .blocked _,h=>exact h
 |.halt .waiting _,h=>exact h
 |.halt (.exit _) _,h=>exact h
 |.halt (.fatal _) _,h=>exact h
 |.halt (.throw _) _,h=>exact h
 |.halt .goexit _,h=>exact h
 |.halt (.unsupported _) _,h=>exact h
 |.halt (.stuck _) _,_=>trivial
def run_store{P:Program}{b:Type}(a:Addr)(v:Value)(k:Sem b)(w:World)(d:∀c,v≠.agg c)(e:∀c,v≠.tuple c) :
 (bj .plain a v k).run P w=match w.cell? a with
  |some _=>if w.frozen? a then .halt (.unsupported (.unsafePointer "a write to bytes that a string shares")) w else k.run P (w.setCell a v)
  |none=>match w.farStore P a v false with
   |.ok (w,_)=>k.run P w
   |.error h=>.halt h w:=by
 cases v<;>first|rfl|exact absurd rfl (d _)|exact absurd rfl (e _)
def qR{P:Program}{b:Type}(a:Addr)(v:Value)(k:Sem b)(w:World)(es:Array Event)(d:∀c,v≠.agg c)(e:∀c,v≠.tuple c) :
 (bj .plain a v k).runT P w es=match w.cell? a with
  |some _=>if w.frozen? a then(.halt (.unsupported (.unsafePointer "a write to bytes that a string shares")) w,es) else k.runT P (w.setCell a v) (es.push ⟨.cell a,true,false⟩)
  |none=>match w.farStore P a v false with
   |.ok (w,f)=>k.runT P w (es++f.toArray.map (⟨.cell ·,true,false⟩))
   |.error h=>(.halt h w,es):=by
 cases v<;>first|rfl|exact absurd rfl (d _)|exact absurd rfl (e _)
def mM{ρ:Ren}{w:World}{a:Addr}{o o':Obj}(h:w.heap[a.block]?=some o)(b:OR F K ρ o o')(s:String):w.noCell a s=.stuck s:=by
 unfold bc;rw[h];cases b<;>rfl
def lF{ρ:Ren}{w w':World}(i:WR G F K ρ w w'){a a':Addr}(e:AR ρ a a') :
 (w.cell? a=none/\∃s:String,∀m,w.farLoad ⟨T,fB⟩ a m=.error (.stuck s))\/∃v v' c c' t d,w.cell? a=some v/\w'.cell? a'=some v'/\VR F ρ v v'/\a.spot=none/\w.heap[a.block]?=some (.cells c t d)/\w'.heap[a'.block]?=some (.cells c' t d)/\VA F ρ c c':=by
 obtain⟨o,l,b,g,j⟩:=i.obj e.1
 cases j with
 |@cells c c' t d hc=>
  by_cases hs:a.spot=none
  ·rcases VA.get? hc a.off with⟨f,h⟩|⟨v,v',f,h,hv⟩
   ·left;refine⟨by simp[bd,b,hs,f],"load: no such cell",λm=>?_⟩;simp only[bg,b,bc]
   ·right;refine⟨v,v',c,c',t,d,by simp[bd,b,hs,f],?_,hv,hs,b,g,hc⟩;have k:a'.spot=none:=by rw[<-e.2.2];exact hs
    simp[bd,g,k,<-e.2.1,h]
  ·left;refine⟨by simp[bd,b,Option.isSome_iff_ne_none.2 hs],"load: no such cell",λm=>?_⟩;simp only[bg,b,bc]
 |_=>
  left;refine⟨by simp[bd,b],"load: no such cell",λm=>?_⟩;simp only[bg,b,bc]
def FP{ρ:Ren}{w w':World}(b:ρ.bw G)(c:WR G F K ρ w w')(d:w.tape=w'.tape)(hd:w.drawn=w'.drawn){e:Event}(f:Ls ρ e):cE G F K ρ w w' ρ w w' #[e]:=
 { cE.refl b c d hd with ev:=λx a=>by simp at a;rw[a];exact f }
def wI{ρ:Ren}{w w':World}(c:WR G F K ρ w w'){a a':Addr}(b:AR ρ a a'):w.frozen? a=w'.frozen? a':=by
 obtain⟨o,g,d,e,f⟩:=c.obj b.1;cases f<;>simp[World.frozen?,d,e,b.2.1]
def Lu{ρ:Ren}{w w':World}(d:WR G F K ρ w w'){r a:Nat}(e:ρ r a):w.shape? r=w'.shape? a:=by
 obtain⟨o,g,b,c,f⟩:=d.obj e
 cases f with
 |cells t h hc=>simp[bi,b,c,VA.size hc]
 |_=>simp[bi,b,c]
def wJ(w:World)(r a i:Nat)(o:Obj):({ w with heap:=w.heap.setIfInBounds r o }:World).cell? ⟨a,i,none⟩=if r=a/\r<w.heap.size then(match o with | .cells c _ _=>c[i]? | _=>none) else w.cell? ⟨a,i,none⟩:=by
 unfold bd;by_cases e:r=a
 ·subst e;by_cases h:r<w.heap.size
  ·simp[h];cases o<;>rfl
  ·simp[h,Array.setIfInBounds]
 ·simp[e,a6 e]
def tQ(w:World)(o:Obj)(a i:Nat)(h:a<w.heap.size):({ w with heap:=w.heap.push o }:World).cell? ⟨a,i,none⟩=w.cell? ⟨a,i,none⟩:=by
 unfold bd;simp only[aL h,<-a5 h]
def Hol(w w':World)(r d:Nat)(o o':Obj):Prop:=∀c t e,o=.cells c t e->∃b f a,o'=.cells b f a/\∀i,(∃v,c[i]?=some v/\(v=.tuple #[]\/∃c,v=.agg c))->nX w r i/\b[i]?=w'.cell? ⟨d,i,none⟩
def vW.hol{w w':World}{r a:Nat}{o o':Obj}(h:vW o):Hol w w' r a o o':=λc t b e=>absurd e (h c t b)
def lG{ρ:Ren}{w w':World}(j:ρ.bw G)(k:WR G F K ρ w w')(l:w.tape=w'.tape)(hd:w.drawn=w'.drawn){r f:Nat}(g:ρ r f){o o':Obj}(m:OR F K ρ o o'){new:Array Event}(n:∀e∈new,Ls ρ e)(p:Hol w w' r f o o') :
 cE G F K ρ w w' ρ { w with heap:=w.heap.setIfInBounds r o } { w' with heap:=w'.heap.setIfInBounds f o' } new:=
 ⟨Ren.le_refl _,j,k.put j g m,l,hd,rfl,rfl,rfl,by simp,by simp,λb _ q=>by
   have:f≠b:=λe=>q r (e▸g);simp[a6 this],
   λb E s=>by simp at s;omega,λ_ _ h=>.inl h,n,λa b x i d=>by
    unfold nX at d;rw[wJ]at d;by_cases e:r=a
    ·subst e;obtain rfl:=j.fn g x;obtain⟨u,v⟩:=k.lt g;rw[if_pos ⟨rfl,u⟩]at d
     cases o with
     |cells c t z=>
      obtain⟨H,I,A,rfl,hc⟩:=p c t z rfl;obtain⟨B,C⟩:=hc i d;refine⟨B,?_⟩;rw[wJ,if_pos ⟨rfl,v⟩];exact C
     |_=>obtain⟨_,d,_⟩:=d;cases d
    ·rw[if_neg λh=>e h.1]at d;have D:f≠b:=λy=>e (j.inj g (y▸x));refine⟨d,?_⟩
     rw[wJ,if_neg λh=>D h.1]⟩
def CQ{ρ:Ren}{w w':World}(e:ρ.bw G)(c:WR G F K ρ w w')(f:w.tape=w'.tape)(hd:w.drawn=w'.drawn){o o':Obj}(g:OR F K ρ o o') :
 cE G F K ρ w w' (ρ.ext w.heap.size w'.heap.size) { w with heap:=w.heap.push o } { w' with heap:=w'.heap.push o' } #[]:=
 ⟨Ren.kW _ _ _,e.ext c.fresh.1 c.fresh.2 c.pK c.gN,c.push (g.mono (Ren.kW _ _ _)),f,hd,rfl,rfl,rfl,by simp,by simp,λb hb _=>by
   show(w'.heap.push o')[b]?=_;rw[aL hb,<-a5 hb],
   λb m j=>⟨w.heap.size,.inr ⟨rfl,by simp at j;omega⟩⟩,λa b h=>by
    rcases h with h|⟨rfl,rfl⟩
    ·exact .inl h
    ·exact .inr ⟨ao _,ao _⟩,by simp,λa b x i d=>by
    obtain⟨k,l⟩:=c.lt x;unfold nX at d;rw[tQ _ _ _ _ k]at d
    exact⟨d,tQ _ _ _ _ l⟩⟩
def CR{w w':World}{a a':Addr}{c c':Array Value}{t d:ab}{f fz':Nat×Nat}(g:w.heap[a.block]?=some (.cells c t f))(h:w'.heap[a'.block]?=some (.cells c' d fz'))(v v':Value)(j:∀c,v≠.agg c)(k:∀c,v≠.tuple c) :
 Hol w w' a.block a'.block (.cells (c.setIfInBounds a.off v) t f) (.cells (c'.setIfInBounds a.off v') d fz'):=by
 rintro _ _ _ e;cases e;refine⟨_,_,_,rfl,λi hi=>?_⟩;by_cases e:a.off=i
 ·subst e;rw[Array.getElem?_setIfInBounds_self]at hi;obtain⟨u,hi,b⟩:=hi
  split at hi
  ·injection hi with hi
   subst hi
   rcases b with b|⟨_,b⟩
   ·exact absurd b (k _)
   ·exact absurd b (j _)
  ·cases hi
 ·rw[a6 e]at hi ⊢;refine⟨?_,?_⟩
  ·obtain⟨u,hi,b⟩:=hi;refine⟨u,?_,b⟩;show(match w.heap[a.block]? with|some (.cells c _ _)=>_|_=>none)=_;rw[g];exact hi
  ·show _=(match w'.heap[a'.block]? with|some (.cells c _ _)=>_|_=>none)
   rw[h];rfl
def IY{w w':World}{a a':Addr}{c c':Array Value}{t b:ab}{d fz':Nat×Nat}(f:w.heap[a.block]?=some (.cells c t d))(g:w'.heap[a'.block]?=some (.cells c' b fz'))(u h:Nat×Nat) :
 Hol w w' a.block a'.block (.cells c t u) (.cells c' b h):=by
 rintro _ _ _ e;cases e;refine⟨_,_,_,rfl,λi hi=>⟨?_,?_⟩⟩
 ·obtain⟨u,hi,j⟩:=hi;refine⟨u,?_,j⟩;show(match w.heap[a.block]? with|some (.cells c _ _)=>_|_=>none)=_;rw[f];exact hi
 ·show _=(match w'.heap[a'.block]? with|some (.cells c _ _)=>_|_=>none)
  rw[g];rfl
def bW.Tu{a b:Type}{RA:Ren->a->b->Prop}{ρ:Ren}{w w':World}{f:Array Event}{g:ac b×Array Event}{s:Sem a}(h:bW T fB s):mL G F K RA ρ w w' f g (s.run ⟨T,fB⟩ w):=by
 obtain⟨x,c,e⟩:=h.run w;have d:=e w.tape w.drawn;rw[show w.re w.tape w.drawn=w from rfl]at d;rw[d]
 cases x with
 |stuck _=>trivial
 |unsupported u=>exact c
 |_=>exact c.elim
def av.run{R S:Type}{RA:Ren->R->S->Prop}{s:Sem R}:∀{ρ:Ren}{s':Sem S}{w w':World}(d:Array Event),av T fB fA F K RA ρ s s'->ρ.bw T.globals.size->WR T.globals.size F K ρ w w'->w.tape=w'.tape->w.drawn=w'.drawn->
 mL T.globals.size F K RA ρ w w' d (s'.runT ⟨T,fA⟩ w' d) (s.run ⟨T,fB⟩ w):=by
 induction s with
 |pure a=>
  rintro ρ s' w w' d⟨z,rfl,h⟩g b f hd;exact⟨ρ,z,w',#[],by simp[bl],cE.refl g b f hd,h⟩
 |halt h=>
  intro ρ s' w w' d hs g b f hd;cases h<;>first|exact hs|trivial|(obtain⟨v',rfl,hv⟩:=hs;exact⟨ρ,v',w',#[],by simp[bl],cE.refl g b f hd,hv⟩)
 |load m a k j=>
  rintro ρ s' w w' d⟨m',z,k',rfl,rfl,rfl,x,l⟩g b f hd
  rcases lF (T:=T) (fB:=fB) b x with⟨E,s,J⟩|⟨v,v',c,U,t,y,E,J,hv,_⟩
  ·simp only[bm,E,J];trivial
  ·simp only[bm,E,bl,J];show mL T.globals.size F K RA ρ w w' d ((k' v').runT ⟨T,fA⟩ w' (d.push ⟨.cell z,false,false⟩)) _;exact mL.step (FP g b f hd (e:=⟨.cell z,false,false⟩) ⟨rfl,_,x.1⟩) (by simpa using j v (d.push _) (l v v' hv) g b f hd)
 |store m a v k j=>
  rintro ρ s' w w' d⟨m',z,v',k',rfl,rfl,rfl,x,hv,l⟩g b f hd;have key:(∀c,v≠.agg c)->(∀c,v≠.tuple c)->(∀c,v'≠.agg c)->(∀c,v'≠.tuple c)->
   mL T.globals.size F K RA ρ w w' d ((bj .plain z v' k').runT ⟨T,fA⟩ w' d) ((bj .plain a v k).run ⟨T,fB⟩ w):=by
   intro O L Q n4;rw[run_store _ _ _ _ O L,qR _ _ _ _ _ Q n4]
   rcases lF (T:=T) (fB:=fB) b x with⟨E,_⟩|⟨u,u',c,U,t,y,E,J,hu,hs,V,W,hc⟩
   ·rw[E];obtain⟨o,A,B,H,C⟩:=b.obj x.1;have hf:w.farStore ⟨T,fB⟩ a v false=.error (w.noCell a "store: no such cell"):=by
     cases C<;>simp[World.farStore,B]
    simp only[hf,mM B C];trivial
   ·have fR:z.spot=none:=by rw[<-x.2.2];exact hs
    rw[E,J];simp only[<-wI b x]
    split
    ·show dw (.unsafePointer _)=true;rfl
    ·rw[jR w a _ V hs,jR w' z _ W fR,<-x.2.1];have X:=lG g b f hd x.1 (.cells t y (VA.set hc a.off hv)) (new:=#[⟨.cell z,true,false⟩]) (λe M=>by simp at M;subst M;exact⟨rfl,_,x.1⟩) (CR V W v v' O L);exact mL.step X (by simpa using j (d.push ⟨.cell z,true,false⟩) l g X.wr f hd)
  cases hv<;>first|trivial|exact key (by simp) (by simp) (by simp) (by simp)
 |new o k j=>
  rintro ρ s' w w' d⟨A,k',rfl,C,l⟩g b f hd;simp only[bm,bl];have hs:=CQ g b f hd C;exact mL.step hs (by simpa using j w.heap.size d (l _ _ b.fresh.1 b.fresh.2 b.pK b.gN) hs.inj hs.wr f hd)
 |shape r k j=>
  rintro ρ s' w w' d(⟨D,k',rfl,I,l⟩|h)g b f hd
  ·simp only[bm,bl,<-Lu b I];exact j _ d (l _) g b f hd
  ·exact bW.Tu (s:=.shape r k) h
 |freeze a n k j=>
  rintro ρ s' w w' d⟨z,k',rfl,x,l⟩g b f hd;simp only[bm,bl];by_cases P:n=0
  ·subst P;have e1:w.freeze a 0=w:=by simp[bb]
   have N:w'.freeze z 0=w':=by simp[bb]
   rw[e1,N];exact j d l g b f hd
  obtain⟨o,A,B,H,C⟩:=b.obj x.1;have idle:∀{w:World}{a:Addr}{o:Obj},w.heap[a.block]?=some o->(∀c t y,o≠.cells c t y)->w.freeze a n=w:=by
   intro w a o h bu;unfold bb;rw[if_neg P];obtain⟨heap,_,_,_,_⟩:=w;congr 1;apply a7;intro i;rw[a8]
   split
   ·rename_i e;subst e;show Option.map _ heap[a.block]?=heap[a.block]?;have h':heap[a.block]?=some o:=h;rw[h'];cases o<;>first|rfl|exact absurd rfl (bu _ _ _)
   ·rfl
  cases C with
  |@cells c U t y hc=>
   obtain⟨Y,hi⟩:=y;rw[iz w a n P B,iz w' z n P H,<-x.2.1];have hs:=lG g b f hd x.1 (.cells t (if Y==hi then(a.off,a.off+n) else(min Y a.off,max hi (a.off+n))) hc) (new:=#[]) (by simp) (IY B H _ _);exact mL.step hs (by simpa using j d l g hs.wr f hd)
  |_=>
   rw[idle B (by simp),idle H (by simp)];exact j d l g b f hd
 |frozen a k j=>
  rintro ρ s' w w' d(⟨z,k',rfl,x,l⟩|h)g b f hd
  ·simp only[bm,bl,<-wI b x];exact j _ d (l _) g b f hd
  ·exact bW.Tu (s:=.frozen a k) h
 |getObj r k j=>
  rintro ρ s' w w' d⟨D,k',rfl,I,l⟩g b f hd;obtain⟨o,A,B,H,C⟩:=b.obj I;have key:(∀c t y,o≠.cells c t y)->(∀c t y,A≠.cells c t y)->A.isChan=false->
   mL T.globals.size F K RA ρ w w' d ((bo D k').runT ⟨T,fA⟩ w' d) ((bo r k).run ⟨T,fB⟩ w):=by
   intro O L Q;have e1:(bo r k).run ⟨T,fB⟩ w=(k o).run ⟨T,fB⟩ w:=by
    simp only[bm,B]
   have N:(bo D k').runT ⟨T,fA⟩ w' d=(k' A).runT ⟨T,fA⟩ w' (d.push ⟨.obj D,false,false⟩):=by
    simp only[bl,H];cases A<;>first|rfl|exact absurd rfl (L _ _ _)|(simp only[Q])
   rw[e1,N];exact mL.step (FP g b f hd (e:=⟨.obj D,false,false⟩) ⟨rfl,_,I⟩) (by simpa using j o (d.push _) (l o A C) g b f hd)
  cases C with
  |cells t y hc=>simp only[bm,B];trivial
  |_=>exact key (by simp) (by simp) rfl
 |setObj r o k j=>
  rintro ρ s' w w' d⟨D,A,k',rfl,I,⟨C,N8⟩,l⟩g b f hd;obtain⟨p,p',B,H,hp⟩:=b.obj I;have uQ:A.isChan=false:=by cases C<;>rfl
  have key:(∀c t y,p≠.cells c t y)->(∀c t y,p'≠.cells c t y)->
   mL T.globals.size F K RA ρ w w' d ((bp D A k').runT ⟨T,fA⟩ w' d) ((bp r o k).run ⟨T,fB⟩ w):=by
   intro O L;have e1:(bp r o k).run ⟨T,fB⟩ w=k.run ⟨T,fB⟩ { w with heap:=w.heap.setIfInBounds r o }:=by
    simp only[bm,B]
   have N:(bp D A k').runT ⟨T,fA⟩ w' d=k'.runT ⟨T,fA⟩ { w' with heap:=w'.heap.setIfInBounds D A } (d.push ⟨.obj D,true,false⟩):=by
    simp only[bl,H,uQ]
   rw[e1,N];have hs:=lG g b f hd I C (new:=#[⟨.obj D,true,false⟩]) (λe M=>by simp at M;subst M;exact⟨rfl,_,I⟩) N8.hol;exact mL.step hs (by simpa using j (d.push _) l g hs.wr f hd)
  cases hp with
  |cells t y hc=>simp only[bm,B];trivial
  |_=>exact key (by simp) (by simp)
 |choose q k j=>
  rintro ρ s' w w' d⟨k',rfl,l⟩g b f hd;simp only[bm,bl]
  split
  ·exact j _ d (l _) g b f hd
  ·rw[<-f,<-hd];have Z:WR T.globals.size F K ρ { w with drawn:=w.drawn+1 } { w' with drawn:=w.drawn+1 }:=⟨b.pK,b.gN,b.obj⟩
   have hs:cE T.globals.size F K ρ w w' ρ { w with drawn:=w.drawn+1 } { w' with drawn:=w.drawn+1 } #[]:=
    ⟨Ren.le_refl _,g,Z,f,rfl,rfl,rfl,rfl,ao _,ao _,λ_ _ _=>rfl,λ_ E J=>absurd J (Nat.not_lt.2 E),λ_ _ h=>.inl h,by simp,λ_ _ _ _ h=>⟨h,rfl⟩⟩
   have:=j (q.cut (w.tape w.drawn q)) d (l _) g Z f rfl;exact mL.step hs (by simpa[f]using this)
 |sys c k j=>intro ρ s' w w' d h;exact h.elim
 |program k j=>
  rintro ρ s' w w' d(⟨k',rfl,l⟩|CS)g b f hd
  ·simp only[bm,bl];exact j _ d l g b f hd
  ·exact bW.Tu (s:=.program k) CS
 |mark m k j=>
  rintro ρ s' w w' d(⟨k',rfl,hm,l⟩|h)g b f hd
  ·simp only[bm,bl];exact mL.step (FP g b f hd (e:=⟨.mark m,false,true⟩) hm) (by simpa using j (d.push _) l g b f hd)
  ·exact bW.Tu (s:=.mark m k) h
end
end Go.bJ
