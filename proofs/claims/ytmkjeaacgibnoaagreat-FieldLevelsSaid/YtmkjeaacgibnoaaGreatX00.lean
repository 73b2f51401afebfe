/- Part of the proof of FieldLevels: see X45. -/
import GoSem.Step
set_option linter.all false
open Go renaming FuncId->aa,TypeId->ab,MapEntry->ac
open Array renaming toList_push->ad,toList_append->ae,getD_eq_getD_getElem?->ag,toList_setIfInBounds->ai,toList_extract->ao,replicate->ap,toList_replicate->aq,getElem?_push_lt->ar,getElem?_eq_getElem->aw,getElem?_setIfInBounds_ne->aB,ext_getElem?->aF,getElem?_modify->aH,getElem?_setIfInBounds->aI
namespace Go.bJ
abbrev Ren:=Nat->Nat->Prop
structure Ren.bw(G:Nat)(ρ:Ren):Prop where
 fn:∀{a b b':Nat},ρ a b->ρ a b'->b=b'
 inj:∀{a a' b:Nat},ρ a b->ρ a' b->a=a'
 XS:∀{a b:Nat},ρ a b->(a<G↔b<G)
def Ren.le(ρ σ:Ren):Prop:=∀ ⦃a b:Nat⦄,ρ a b->σ a b
def Ren.ext(ρ:Ren)(r c:Nat):Ren:=λa b=>ρ a b\/(a=r/\b=c)
def Ren.le_refl(ρ:Ren):ρ.le ρ:=λ_ _ h=>h
def Ren.le_trans{ρ σ a:Ren}(h:ρ.le σ)(k:σ.le a):ρ.le a:=λ_ _ x=>k (h x)
def Ren.kW(ρ:Ren)(r a:Nat):ρ.le (ρ.ext r a):=λ_ _ h=>.inl h
def Ren.IW(ρ:Ren)(r a:Nat):ρ.ext r a r a:=.inr ⟨rfl,rfl⟩
def Ren.bw.ext{G:Nat}{ρ:Ren}(h:ρ.bw G){r c:Nat}(d:∀b,¬ρ r b)(e:∀a,¬ρ a c)(f:G<=r)(g:G<=c):(ρ.ext r c).bw G:=by
 refine⟨λ{a b b'}x y=>?_,λ{a i b}x y=>?_,λ{a b}x=>?_⟩
 ·rcases x with x|⟨rfl,rfl⟩<;>rcases y with y|⟨y1,y2⟩
  ·exact h.fn x y
  ·subst y1;exact absurd x (d _)
  ·exact absurd y (d _)
  ·exact y2.symm
 ·rcases x with x|⟨rfl,rfl⟩<;>rcases y with y|⟨y1,y2⟩
  ·exact h.inj x y
  ·subst y2;exact absurd x (e _)
  ·exact absurd y (e _)
  ·exact y1.symm
 ·rcases x with x|⟨rfl,rfl⟩
  ·exact h.XS x
  ·omega
def AR(ρ:Ren)(a a':Addr):Prop:=ρ a.block a'.block/\a.off=a'.off/\a.spot=a'.spot
def AR.mono{ρ σ:Ren}(h:ρ.le σ){a a':Addr}(x:AR ρ a a'):AR σ a a':=⟨h x.1,x.2⟩
def AR.add{ρ:Ren}{a a':Addr}(x:AR ρ a a')(n:Nat):AR ρ (a.add n) (a'.add n):=by
 unfold Addr.add
 split
 ·exact x
 ·exact⟨x.1,by show a.off+n=a'.off+n;rw[x.2.1],rfl⟩
def AR.eq_iff{G:Nat}{ρ:Ren}(c:ρ.bw G){a a' b b':Addr}(x:AR ρ a a')(y:AR ρ b b'):(a=b)↔(a'=b'):=by
 obtain⟨k,l,d⟩:=a;obtain⟨m,n,o⟩:=b;obtain⟨e,f,p⟩:=a';obtain⟨g,i,j⟩:=b';obtain⟨x1,x2,x3⟩:=x;obtain⟨y1,y2,y3⟩:=y;simp only at x1 x2 x3 y1 y2 y3;subst x2 x3 y2 y3;constructor
 ·intro h;simp only[Addr.mk.injEq]at h;obtain⟨rfl,rfl,rfl⟩:=h;rw[c.fn x1 y1]
 ·intro h;simp only[Addr.mk.injEq]at h;obtain⟨rfl,rfl,rfl⟩:=h;rw[c.inj x1 y1]
def cn:aa:=1000000
inductive XT(F:aa->Bool)(ρ:Ren):Fn->Fn->Prop
 |func (f:aa) (h:F f=true):XT F ρ (.func f) (.func f)
 |yield {l l':Nat} (h:ρ l l'):XT F ρ (.yield l) (.yield l')
 |spec {l l':Nat} (h:ρ l l'):XT F ρ (.func (cn+l)) (.yield l')
def XU:Value->Bool
 |.bool _ | .int .. | .string _ | .agg _ | .pointer none | .nilIface | .nilFunc | .func (.method _) _ _=>false
 |_=>true
def CM(x y:Nat):Nat:=(x+y)*(x+y)+x
def zY{x y u v:Nat}(h:CM x y=CM u v):x=u/\y=v:=by
 unfold CM at h;have a:∀{s t p q:Nat},p<=s->s<t->s*s+p<t*t+q:=by
  intro s t p q c b;have d:(s+1)*(s+1)<=t*t:=Nat.mul_le_mul b b;have e:(s+1)*(s+1)=s*s+s+s+1:=by rw[Nat.add_mul,Nat.mul_add];omega
  omega
 rcases Nat.lt_trichotomy (x+y) (u+v) with g|g|g
 ·have:=a (p:=x) (q:=u) (Nat.le_add_right x y) g;omega
 ·rw[g]at h;omega
 ·have:=a (p:=u) (q:=x) (Nat.le_add_right u v) g;omega
def N1(a:Addr):Nat:=CM (CM a.block a.off) (match a.spot with|none=>0|some k=>k+1)
def N3{a b:Addr}(h:N1 a=N1 b):a=b:=by
 obtain⟨x,y,z⟩:=a;obtain⟨u,v,w⟩:=b;obtain⟨d,c⟩:=zY h;obtain⟨rfl,rfl⟩:=zY d;cases z<;>cases w<;>simp only at c<;>first|rfl|omega|(obtain rfl:_=_:=Nat.succ.inj c;rfl)
mutual
inductive VR(F:aa->Bool)(ρ:Ren):Value->Value->Prop
 |bool (b:Bool):VR F ρ (.bool b) (.bool b)
 |int (k:IntKind) (n:Int):VR F ρ (.int k n) (.int k n)
 |string (s:ByteArray):VR F ρ (.string s) (.string s)
 |dS:VR F ρ (.pointer none) (.pointer none)
 |ptr {a a':Addr} (h:AR ρ a a'):VR F ρ (.pointer (some a)) (.pointer (some a'))
 |di (l c:Nat):VR F ρ (.slice none l c) (.slice none l c)
 |slice {a a':Addr} (l c:Nat) (h:AR ρ a a'):VR F ρ (.slice (some a) l c) (.slice (some a') l c)
 |dK (D:Nat) (a:Addr):VR F ρ (.slice (some ⟨D,N1 a,none⟩) 0 0) (.slice (some a) 0 0)
 |qQ:VR F ρ (.map none) (.map none)
 |map {r r':Nat} (h:ρ r r'):VR F ρ (.map (some r)) (.map (some r'))
 |func {fn dL:Fn} {a a' b b':Array Value} (h:XT F ρ fn dL) (h1:cU F ρ a.toList a'.toList) (h2:cU F ρ b.toList b'.toList):VR F ρ (.func fn a b) (.func dL a' b')
 |nilFunc:VR F ρ .nilFunc .nilFunc
 |iface (t:ab) {v v':Value} (h:VR F ρ v v'):VR F ρ (.iface t v) (.iface t v')
 |nilIface:VR F ρ .nilIface .nilIface
 |agg {a a':Array Value} (h:cU F ρ a.toList a'.toList):VR F ρ (.agg a) (.agg a')
 |tuple {a a':Array Value} (h:cU F ρ a.toList a'.toList):VR F ρ (.tuple a) (.tuple a')
 |hole (v':Value) (h:XU v'=true):VR F ρ (.tuple #[]) v'
 |wG (n:String) (f c:Array Value):VR F ρ (.func (.method "") #[.iface 0 .nilIface] #[.func (.method n) f c]) (.func (.method n) f c)
inductive cU(F:aa->Bool)(ρ:Ren):List Value->List Value->Prop
 |nil:cU F ρ [] []
 |cons {v v':Value} {l l':List Value} (h:VR F ρ v v') (t:cU F ρ l l'):cU F ρ (v::l) (v'::l')
end
abbrev VA(F:aa->Bool)(ρ:Ren)(a a':Array Value):Prop:=cU F ρ a.toList a'.toList
def XT.mono{F:aa->Bool}{ρ σ:Ren}(h:ρ.le σ){f f':Fn}(x:XT F ρ f f'):XT F σ f f':=by
 cases x with
 |func f hf=>exact .func f hf
 |yield hl=>exact .yield (h hl)
 |spec hl=>exact .spec (h hl)
section
variable {F:aa->Bool}{ρ σ:Ren}
mutual
theorem VR.mono(h:ρ.le σ){v v':Value}(x:VR F ρ v v'):VR F σ v v':=by
 cases x with
 |bool b=>exact .bool b
 |int k n=>exact .int k n
 |string s=>exact .string s
 |dS=>exact .dS
 |ptr a=>exact .ptr (a.mono h)
 |di l c=>exact .di l c
 |slice l c a=>exact .slice l c (a.mono h)
 |dK D a=>exact .dK D a
 |qQ=>exact .qQ
 |map a=>exact .map (h a)
 |func a b c=>exact .func (a.mono h) (cU.mono h b) (cU.mono h c)
 |nilFunc=>exact .nilFunc
 |iface t a=>exact .iface t (VR.mono h a)
 |nilIface=>exact .nilIface
 |agg a=>exact .agg (cU.mono h a)
 |tuple a=>exact .tuple (cU.mono h a)
 |hole v' a=>exact .hole v' a
 |wG n f c=>exact .wG n f c
theorem cU.mono(h:ρ.le σ){l l':List Value}(x:cU F ρ l l'):cU F σ l l':=by
 cases x with
 |nil=>exact .nil
 |cons a b=>exact .cons (VR.mono h a) (cU.mono h b)
end
def cU.length{l l':List Value}(x:cU F ρ l l'):l.length=l'.length:=by
 induction l generalizing l' with
 |nil=>cases x;rfl
 |cons v l a=>cases x with|cons _ t=>simp[a t]
def cU.append{l l' m m':List Value}(x:cU F ρ l l')(y:cU F ρ m m'):cU F ρ (l++m) (l'++m'):=by
 induction l generalizing l' with
 |nil=>cases x;exact y
 |cons v l a=>cases x with|cons h t=>exact .cons h (a t)
def cU.get?{l l':List Value}(x:cU F ρ l l')(i:Nat):(l[i]?=none/\l'[i]?=none)\/∃v v',l[i]?=some v/\l'[i]?=some v'/\VR F ρ v v':=by
 induction l generalizing l' i with
 |nil=>cases x;exact .inl ⟨rfl,rfl⟩
 |cons v l a=>
  cases x with
  |cons h t=>
   cases i with
   |zero=>exact .inr ⟨_,_,rfl,rfl,h⟩
   |succ i=>simpa using a t i
def cU.set{l l':List Value}(x:cU F ρ l l')(i:Nat){v v':Value}(h:VR F ρ v v'):cU F ρ (l.set i v) (l'.set i v'):=by
 induction l generalizing l' i with
 |nil=>cases x;exact .nil
 |cons u l a=>
  cases x with
  |cons b t=>
   cases i with
   |zero=>exact .cons h t
   |succ i=>exact .cons b (a t i)
def cU.take{l l':List Value}(x:cU F ρ l l')(i:Nat):cU F ρ (l.take i) (l'.take i):=by
 induction l generalizing l' i with
 |nil=>cases x;simpa using cU.nil
 |cons u l a=>
  cases x with
  |cons b t=>
   cases i with
   |zero=>exact .nil
   |succ i=>exact .cons b (a t i)
def cU.drop{l l':List Value}(x:cU F ρ l l')(i:Nat):cU F ρ (l.drop i) (l'.drop i):=by
 induction l generalizing l' i with
 |nil=>cases x;simpa using cU.nil
 |cons u l a=>
  cases x with
  |cons b t=>
   cases i with
   |zero=>exact .cons b t
   |succ i=>simpa using a t i
def cU.replicate{v v':Value}(h:VR F ρ v v')(n:Nat):cU F ρ (List.replicate n v) (List.replicate n v'):=by
 induction n with
 |zero=>exact .nil
 |succ n a=>exact .cons h a
def cU.map{a:Type}(l:List a){f g:a->Value}(h:∀x∈l,VR F ρ (f x) (g x)):cU F ρ (l.map f) (l.map g):=by
 induction l with
 |nil=>exact .nil
 |cons x l b=>exact .cons (h x (by simp)) (b λy hy=>h y (by simp[hy]))
def VR.undef:VR F ρ undef undef:=.tuple .nil
def FM{v:Value}(h:XU v=true):v.cells=#[v]:=by
 cases v<;>first|rfl|cases h
def VR.cells{v v':Value}(h:VR F ρ v v'):VA F ρ v.cells v'.cells:=by
 cases h with
 |hole v' h=>rw[FM h];exact .cons (.hole v' h) .nil
 |wG n f c=>exact .cons (.wG n f c) .nil
 |dK D a=>exact .cons (.dK D a) .nil
 |_=>first|(rename_i h;exact h)|exact .cons (by constructor<;>assumption) .nil
def VA.size{a a':Array Value}(h:VA F ρ a a'):a.size=a'.size:=h.length
def VA.push{a a':Array Value}(h:VA F ρ a a'){v v':Value}(hv:VR F ρ v v'):VA F ρ (a.push v) (a'.push v'):=by
 show cU _ _ _ _;rw[ad,ad];exact cU.append h (.cons hv .nil)
def VA.append{a a' b b':Array Value}(h:VA F ρ a a')(k:VA F ρ b b'):VA F ρ (a++b) (a'++b'):=by
 show cU _ _ _ _;rw[ae,ae];exact cU.append h k
def VA.get?{a a':Array Value}(h:VA F ρ a a')(i:Nat):(a[i]?=none/\a'[i]?=none)\/∃v v',a[i]?=some v/\a'[i]?=some v'/\VR F ρ v v':=by
 have:=cU.get? h i;simpa using this
def VA.getD{a a':Array Value}(h:VA F ρ a a')(i:Nat){d d':Value}(hd:VR F ρ d d'):VR F ρ (a.getD i d) (a'.getD i d'):=by
 rw[ag,ag]
 rcases VA.get? h i with⟨b,c⟩|⟨v,v',b,c,hv⟩
 ·rw[b,c];exact hd
 ·rw[b,c];exact hv
def VA.set{a a':Array Value}(h:VA F ρ a a')(i:Nat){v v':Value}(hv:VR F ρ v v'):VA F ρ (a.setIfInBounds i v) (a'.setIfInBounds i v'):=by
 show cU _ _ _ _;rw[ai,ai];exact cU.set h i hv
def VA.extract{a a':Array Value}(h:VA F ρ a a')(i j:Nat):VA F ρ (a.extract i j) (a'.extract i j):=by
 show cU _ _ _ _;rw[ao,ao];exact cU.take (cU.drop h i) _
def VA.replicate{v v':Value}(h:VR F ρ v v')(n:Nat):VA F ρ (ap n v) (ap n v'):=by
 show cU _ _ _ _;rw[aq,aq];exact cU.replicate h n
def VA.mono(h:ρ.le σ){a a':Array Value}(x:VA F ρ a a'):VA F σ a a':=cU.mono h x
def VA.nil:VA F ρ #[] #[]:=cU.nil
def VA.one{v v':Value}(h:VR F ρ v v'):VA F ρ #[v] #[v']:=cU.cons h cU.nil
def VA.two{v v' u a:Value}(h:VR F ρ v v')(k:VR F ρ u a):VA F ρ #[v,u] #[v',a]:=cU.cons h (cU.cons k cU.nil)
def VA.three{v v' u a x b:Value}(h:VR F ρ v v')(k:VR F ρ u a)(m:VR F ρ x b):VA F ρ #[v,u,x] #[v',a,b]:=cU.cons h (cU.cons k (cU.cons m cU.nil))
end
end Go.bJ
namespace Go
def World.re(w:World)(a:Nat->Question->Nat)(d:Nat):World:={ w with tape:=a,drawn:=d }
def Result.world{a:Type}:Result a->World
 |.ok _ w | .halt _ w=>w
def Result.re{b:Type}(r:Result b)(c:Nat->Question->Nat)(d:Nat):Result b:=match r with
 |.ok a w=>.ok a (w.re c d)
 |.halt h w=>.halt h (w.re c d)
end Go
namespace Go.bJ
structure zo(F:aa->Bool)(ρ:Ren)(e e':ac):Prop where
 key:VR F ρ e.key e'.key
 val:VR F ρ e.val e'.val
 born:e.born=e'.born
def zo.mono{F:aa->Bool}{ρ σ:Ren}(h:ρ.le σ){e e':ac}(x:zo F ρ e e'):zo F σ e e':=⟨x.key.mono h,x.val.mono h,x.born⟩
inductive bD(F:aa->Bool)(ρ:Ren):List ac->List ac->Prop
 |nil:bD F ρ [] []
 |cons {e e':ac} {l l':List ac} (h:zo F ρ e e') (t:bD F ρ l l'):bD F ρ (e::l) (e'::l')
def bD.mono{F:aa->Bool}{ρ σ:Ren}(h:ρ.le σ){l l':List ac}(x:bD F ρ l l'):bD F σ l l':=by
 induction x with
 |nil=>exact .nil
 |cons a _ b=>exact .cons (a.mono h) b
def bD.length{F:aa->Bool}{ρ:Ren}{l l':List ac}(x:bD F ρ l l'):l.length=l'.length:=by
 induction x with
 |nil=>rfl
 |cons _ _ a=>simp[a]
structure CN(F:aa->Bool)(K:Code->Bool)(ρ:Ren)(l l':Loop):Prop where
 state:l.state=l'.state
 pending:l.pending=l'.pending
 FN:∀c,l.pending=some c->K c=true
 fn:l.fn=l'.fn
 mI:F l.fn=true
 tmps:VA F ρ l.tmps l'.tmps
 params:l.params=l'.params
 assign:l.assign=l'.assign
 CP:K l.assign=true
 body:l.body=l'.body
 N6:K l.body=true
 defers:ρ l.defers l'.defers
def CN.mono{F:aa->Bool}{K:Code->Bool}{ρ σ:Ren}(h:ρ.le σ){l l':Loop}(x:CN F K ρ l l'):CN F K σ l l':=
 ⟨x.state,x.pending,x.FN,x.fn,x.mI,cU.mono h x.tmps,x.params,x.assign,x.CP,x.body,x.N6,h x.defers⟩
inductive OR(F:aa->Bool)(K:Code->Bool)(ρ:Ren):Obj->Obj->Prop
 |cells {c c':Array Value} (t:ab) (fz:Nat×Nat) (h:VA F ρ c c'):OR F K ρ (.cells c t fz) (.cells c' t fz)
 |map {es aT:Array ac} (clock:Nat) (h:bD F ρ es.toList aT.toList):OR F K ρ (.map es clock) (.map aT clock)
 |stringIter (s:ByteArray) (pos:Nat):OR F K ρ (.stringIter s pos) (.stringIter s pos)
 |mJ (a:Nat) (b:Array Nat) (c:Nat):OR F K ρ (.mapIter none a b c) (.mapIter none a b c)
 |mapIter {m m':Nat} (a:Nat) (b:Array Nat) (c:Nat) (h:ρ m m'):OR F K ρ (.mapIter (some m) a b c) (.mapIter (some m') a b c)
 |loop {l l':Loop} (h:CN F K ρ l l'):OR F K ρ (.loop l) (.loop l')
 |deferred:OR F K ρ (.deferred (some [])) (.deferred (some []))
 |nW:OR F K ρ (.deferred none) (.deferred none)
 |number {a a':Addr} (lost:Bool) (h:AR ρ a a'):OR F K ρ (.number a lost) (.number a' lost)
def OR.mono{F:aa->Bool}{K:Code->Bool}{ρ σ:Ren}(h:ρ.le σ){o o':Obj}(x:OR F K ρ o o'):OR F K σ o o':=by
 cases x with
 |cells t e a=>exact .cells t e (cU.mono h a)
 |map c a=>exact .map c (a.mono h)
 |stringIter s p=>exact .stringIter s p
 |mJ a b c=>exact .mJ a b c
 |mapIter a b c d=>exact .mapIter a b c (h d)
 |loop a=>exact .loop (a.mono h)
 |deferred=>exact .deferred
 |nW=>exact .nW
 |number l a=>exact .number l (a.mono h)
structure WR(G:Nat)(F:aa->Bool)(K:Code->Bool)(ρ:Ren)(w w':World):Prop where
 pK:G<=w.heap.size
 gN:G<=w'.heap.size
 obj:∀{r r':Nat},ρ r r'->∃o o',w.heap[r]?=some o/\w'.heap[r']?=some o'/\OR F K ρ o o'
section
variable {G:Nat}{F:aa->Bool}{K:Code->Bool}{ρ σ:Ren}{w w':World}
def bE{c:Type}{a:Array c}{i:Nat}{x:c}(h:a[i]?=some x):i<a.size:=by
 rcases Nat.lt_or_ge i a.size with b|b
 ·exact b
 ·rw[Array.getElem?_eq_none b]at h;cases h
def WR.lt(h:WR G F K ρ w w'){r a:Nat}(x:ρ r a):r<w.heap.size/\a<w'.heap.size:=by
 obtain⟨o,d,b,c,_⟩:=h.obj x;exact⟨bE b,bE c⟩
def WR.fresh(h:WR G F K ρ w w'):(∀b,¬ρ w.heap.size b)/\(∀a,¬ρ a w'.heap.size):=
 ⟨λ_ x=>absurd (h.lt x).1 (Nat.lt_irrefl _),λ_ x=>absurd (h.lt x).2 (Nat.lt_irrefl _)⟩
def WR.push(h:WR G F K ρ w w'){o o':Obj}(x:OR F K (ρ.ext w.heap.size w'.heap.size) o o') :
 WR G F K (ρ.ext w.heap.size w'.heap.size) { w with heap:=w.heap.push o } { w' with heap:=w'.heap.push o' }:=by
 refine⟨by have:=h.pK;simp;omega,by have:=h.gN;simp;omega,λ{r i}a=>?_⟩
 rcases a with a|⟨rfl,rfl⟩
 ·obtain⟨p,f,b,c,g⟩:=h.obj a;have d:=bE b;have e:=bE c;exact⟨p,f,by rw[ar d,<-aw d];exact b,by rw[ar e,<-aw e];exact c,g.mono (Ren.kW _ _ _)⟩
 ·exact⟨o,o',by simp,by simp,x⟩
def WR.put(h:WR G F K ρ w w')(c:ρ.bw G){r a:Nat}(b:ρ r a){o o':Obj}(x:OR F K ρ o o') :
 WR G F K ρ { w with heap:=w.heap.setIfInBounds r o } { w' with heap:=w'.heap.setIfInBounds a o' }:=by
 refine⟨by simpa using h.pK,by simpa using h.gN,λ{s d}hs=>?_⟩;obtain⟨f,g⟩:=h.lt b;by_cases e:r=s
 ·subst e;obtain rfl:=c.fn b hs;exact⟨o,o',by simp[f],by simp[g],x⟩
 ·have i:a≠d:=λy=>e (c.inj b (y▸hs));obtain⟨p,j,k,l,m⟩:=h.obj hs;exact⟨p,j,by simpa[aB e]using k,by simpa[aB i]using l,m⟩
def jR(w:World)(a:Addr)(v:Value){c:Array Value}{t:ab}{b:Nat×Nat}(h:w.heap[a.block]?=some (.cells c t b))(hs:a.spot=none) :
 w.setCell a v={ w with heap:=w.heap.setIfInBounds a.block (.cells (c.setIfInBounds a.off v) t b) }:=by
 unfold World.setCell;congr 1;apply aF;intro i;rw[aH,aI];by_cases e:a.block=i
 ·subst e;have hl:=bE h;rw[if_pos rfl,if_pos rfl,h,if_pos hl];simp[hs]
 ·simp[e]
def iz(w:World)(a:Addr)(n:Nat)(d:n≠0){c:Array Value}{t:ab}{b hi:Nat}(h:w.heap[a.block]?=some (.cells c t (b,hi))) :
 w.freeze a n={ w with heap:=w.heap.setIfInBounds a.block (.cells c t (if b==hi then(a.off,a.off+n) else(min b a.off,max hi (a.off+n)))) }:=by
 unfold World.freeze;rw[if_neg d];congr 1;apply aF;intro i;rw[aH,aI];by_cases e:a.block=i
 ·subst e;have hl:=bE h;rw[if_pos rfl,if_pos rfl,h,if_pos hl];simp
 ·simp[e]
end
def lE(m:Mark):Prop:=m=.noRoom
section
variable (T:Tables)(fB fA:Array Func)(F:aa->Bool)(K:Code->Bool)
def dw:Unsupported->Bool
 |.initOrder _=>false
 |_=>true
def ac8{a:Type}(ρ:Ren):Halt->Sem a->Prop
 |.panic v,b=>∃v',b=.halt (.panic v')/\VR F ρ v v'
 |.stuck _,_=>True
 |.unsupported u,_=>dw u=true
 |_,_=>False
def Lr:Halt->Prop
 |.stuck _=>True
 |.unsupported u=>dw u=true
 |_=>False
def bW{a:Type}:Sem a->Prop
 |.halt h=>Lr h
 |.program k=>bW (k ⟨T,fB⟩)
 |.shape _ k=>∀x,bW (k x)
 |.frozen _ k=>∀x,bW (k x)
 |.mark m k=>lE m/\bW k
 |_=>False
def vW(o:Obj):Prop:=∀c t a,o≠.cells c t a
def av{g i:Type}(RA:Ren->g->i->Prop):Ren->Sem g->Sem i->Prop
 |ρ,.halt h,c=>ac8 F ρ h c
 |ρ,.pure a,c=>∃d,c=.pure d/\RA ρ a d
 |ρ,.load m a k,c=>∃m' d k',c=.load m' d k'/\m=.plain/\m'=.plain/\AR ρ a d/\∀v v',VR F ρ v v'->av RA ρ (k v) (k' v')
 |ρ,.store m a v k,c=>∃m' d v' k',c=.store m' d v' k'/\m=.plain/\m'=.plain/\AR ρ a d/\VR F ρ v v'/\av RA ρ k k'
 |ρ,.new o k,c=>∃f k',c=.new f k'/\OR F K ρ o f/\∀r e,(∀b,¬ρ r b)->(∀a,¬ρ a e)->T.globals.size<=r->T.globals.size<=e->av RA (ρ.ext r e) (k r) (k' e)
 |ρ,.shape r k,c=>(∃e k',c=.shape e k'/\ρ r e/\∀x,av RA ρ (k x) (k' x))\/∀x,bW T fB (k x)
 |ρ,.freeze a n k,c=>∃d k',c=.freeze d n k'/\AR ρ a d/\av RA ρ k k'
 |ρ,.frozen a k,c=>(∃d k',c=.frozen d k'/\AR ρ a d/\∀b,av RA ρ (k b) (k' b))\/∀x,bW T fB (k x)
 |ρ,.getObj r k,c=>∃e k',c=.getObj e k'/\ρ r e/\∀o f,OR F K ρ o f->av RA ρ (k o) (k' f)
 |ρ,.setObj r o k,c=>∃e f k',c=.setObj e f k'/\ρ r e/\(OR F K ρ o f/\vW o)/\av RA ρ k k'
 |ρ,.choose q k,c=>∃k',c=.choose q k'/\∀n,av RA ρ (k n) (k' n)
 |_,.sys _ _,_=>False
 |ρ,.program k,c=>(∃k',c=.program k'/\av RA ρ (k ⟨T,fB⟩) (k' ⟨T,fA⟩))\/bW T fB (k ⟨T,fB⟩)
 |ρ,.mark m k,c=>(∃k',c=.mark m k'/\lE m/\av RA ρ k k')\/(lE m/\bW T fB k)
end
section
variable {T:Tables}{fB fA:Array Func}{F:aa->Bool}{K:Code->Bool}
def bW.bind{b c:Type}{s:Sem b}{f:b->Sem c}(h:bW T fB s):bW T fB (s.bind f):=by
 induction s with
 |halt _=>exact h
 |program k a=>exact a _ h
 |shape r k a=>exact λx=>a x (h x)
 |frozen r k a=>exact λx=>a x (h x)
 |mark m k a=>exact⟨h.1,a h.2⟩
 |_=>exact h.elim
def bW.run{c:Type}{s:Sem c}(h:bW T fB s)(w:World):∃x,Lr x/\∀b d,s.run ⟨T,fB⟩ (w.re b d)=.halt x (w.re b d):=by
 induction s with
 |halt x=>exact⟨x,h,λ_ _=>rfl⟩
 |program k a=>exact a _ h
 |shape r k a=>exact a (w.shape? r) (h _)
 |frozen r k a=>exact a (w.frozen? r) (h _)
 |mark m k a=>exact a h.2
 |_=>exact h.elim
def Lr.halt{c a:Type}{RA:Ren->c->a->Prop}{ρ:Ren}{h:Halt}(b:Lr h)(s':Sem a):av T fB fA F K RA ρ (.halt h) s':=by
 cases h<;>first|exact b.elim|trivial|exact b
def bW.rel{a b:Type}{RA:Ren->a->b->Prop}{ρ:Ren}{s:Sem a}(h:bW T fB s)(s':Sem b):av T fB fA F K RA ρ s s':=by
 cases s with
 |halt x=>exact Lr.halt h s'
 |program k=>exact .inr h
 |shape r k=>exact .inr h
 |frozen r k=>exact .inr h
 |mark m k=>exact .inr h
 |_=>exact h.elim
def av.bind{t u A B:Type}{RA:Ren->t->u->Prop}{C:Ren->A->B->Prop}{s:Sem t} :
 ∀{ρ:Ren}{s':Sem u}{f:t->Sem A}{f':u->Sem B},ρ.bw T.globals.size->av T fB fA F K RA ρ s s'->
  (∀σ:Ren,ρ.le σ->σ.bw T.globals.size->∀a a',RA σ a a'->av T fB fA F K C σ (f a) (f' a'))->av T fB fA F K C ρ (s.bind f) (s'.bind f'):=by
 induction s with
 |pure a=>rintro ρ s' f f' e⟨a',rfl,h⟩hf;exact hf ρ (Ren.le_refl ρ) e a a' h
 |halt h=>
  intro ρ s' f f' e hs hf;cases h<;>first|exact hs|trivial|(obtain⟨v',rfl,hv⟩:=hs;exact⟨v',rfl,hv⟩)
 |load m a k i=>rintro ρ s' f f' e⟨m',a',k',rfl,g,j,l,y⟩hf;exact⟨_,_,_,rfl,g,j,l,λv v' hv=>i v e (y v v' hv) hf⟩
 |store m a v k i=>rintro ρ s' f f' e⟨m',a',v',k',rfl,g,j,l,y,D⟩hf;exact⟨_,_,_,_,rfl,g,j,l,y,i e D hf⟩
 |new o k i=>
  rintro ρ s' f f' e⟨z,k',rfl,g,j⟩hf;exact⟨_,_,rfl,g,λr p a b c d=>i r (e.ext a b c d) (j r p a b c d) λσ E=>hf σ (λ_ _ x=>E (Ren.kW _ _ _ x))⟩
 |shape r k i=>
  rintro ρ s' f f' e(⟨p,k',rfl,g,j⟩|h)hf
  ·exact .inl ⟨_,_,rfl,g,λx=>i x e (j x) hf⟩
  ·exact .inr λx=>(h x).bind
 |freeze a n k i=>rintro ρ s' f f' e⟨a',k',rfl,g,j⟩hf;exact⟨_,_,rfl,g,i e j hf⟩
 |frozen a k i=>
  rintro ρ s' f f' e(⟨a',k',rfl,g,j⟩|h)hf
  ·exact .inl ⟨_,_,rfl,g,λb=>i b e (j b) hf⟩
  ·exact .inr λx=>(h x).bind
 |getObj r k i=>rintro ρ s' f f' e⟨p,k',rfl,g,j⟩hf;exact⟨_,_,rfl,g,λo z H=>i o e (j o z H) hf⟩
 |setObj r o k i=>rintro ρ s' f f' e⟨p,z,k',rfl,g,j,l⟩hf;exact⟨_,_,_,rfl,g,j,i e l hf⟩
 |choose q k i=>rintro ρ s' f f' e⟨k',rfl,g⟩hf;exact⟨_,rfl,λn=>i n e (g n) hf⟩
 |sys c k i=>intro ρ s' f f' e h;exact h.elim
 |program k i=>
  rintro ρ s' f f' e(⟨k',rfl,g⟩|g)hf
  ·exact .inl ⟨_,rfl,i _ e g hf⟩
  ·exact .inr g.bind
 |mark m k i=>
  rintro ρ s' f f' e(⟨k',rfl,g,j⟩|h)hf
  ·exact .inl ⟨_,rfl,g,i e j hf⟩
  ·exact .inr ⟨h.1,h.2.bind⟩
def av.mono{t u:Type}{RA y:Ren->t->u->Prop}{s:Sem t}:∀{ρ:Ren}{s':Sem u},av T fB fA F K RA ρ s s'->(∀σ:Ren,ρ.le σ->∀a a',RA σ a a'->y σ a a')->av T fB fA F K y ρ s s':=by
 induction s with
 |pure a=>rintro ρ s'⟨a',rfl,h⟩hf;exact⟨a',rfl,hf ρ (Ren.le_refl ρ) a a' h⟩
 |halt h=>intro ρ s' hs _;exact hs
 |load m a k f=>rintro ρ s'⟨m',a',k',rfl,e,g,i,l⟩hf;exact⟨_,_,_,rfl,e,g,i,λv v' hv=>f v (l v v' hv) hf⟩
 |store m a v k f=>rintro ρ s'⟨m',a',v',k',rfl,e,g,i,l,z⟩hf;exact⟨_,_,_,_,rfl,e,g,i,l,f z hf⟩
 |new o k f=>
  rintro ρ s'⟨p,k',rfl,e,g⟩hf;exact⟨_,_,rfl,e,λr j a b c d=>f r (g r j a b c d) λσ A=>hf σ (λ_ _ x=>A (Ren.kW _ _ _ x))⟩
 |shape r k f=>
  rintro ρ s'(⟨j,k',rfl,e,g⟩|h)hf
  ·exact .inl ⟨_,_,rfl,e,λx=>f x (g x) hf⟩
  ·exact .inr h
 |freeze a n k f=>rintro ρ s'⟨a',k',rfl,e,g⟩hf;exact⟨_,_,rfl,e,f g hf⟩
 |frozen a k f=>
  rintro ρ s'(⟨a',k',rfl,e,g⟩|h)hf
  ·exact .inl ⟨_,_,rfl,e,λb=>f b (g b) hf⟩
  ·exact .inr h
 |getObj r k f=>rintro ρ s'⟨j,k',rfl,e,g⟩hf;exact⟨_,_,rfl,e,λo p B=>f o (g o p B) hf⟩
 |setObj r o k f=>rintro ρ s'⟨j,p,k',rfl,e,g,i⟩hf;exact⟨_,_,_,rfl,e,g,f i hf⟩
 |choose q k f=>rintro ρ s'⟨k',rfl,e⟩hf;exact⟨_,rfl,λn=>f n (e n) hf⟩
 |sys c k f=>intro ρ s' h;exact h.elim
 |program k f=>
  rintro ρ s'(⟨k',rfl,e⟩|e)hf
  ·exact .inl ⟨_,rfl,f _ e hf⟩
  ·exact .inr e
 |mark m k f=>
  rintro ρ s'(⟨k',rfl,e,g⟩|h)hf
  ·exact .inl ⟨_,rfl,e,f g hf⟩
  ·exact .inr h
end
end Go.bJ
