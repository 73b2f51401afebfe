/- Part of the proof of FieldDelays. -/
import Derived.Laws.Sem
import GoSem.Core.Layout
import GoSem.Dispatch
import GoSem.Step
set_option linter.all false
open Go renaming FuncId->aa,IntKind->ab,TypeId->ac,Question->ad,Result->ae,MapEntry->ag,Tables->ai,Unsupported->ao,Program->ap,unsupported->aq,choose->ar,program->aw,askRoom->aB,typeInfo->aF,underlying->aH,sizeOf->aL,zeroValue->aS,loadCellsFrom->a5,storeVar->a6,runtimePanic->a7,BoundsCode->a8,boundsPanic->a9,byteOfCell->ba,cellOfByte->bb,cellAtBytes->bc,noView->bd,numberAt->bg,behindNumber->bi,fieldPlace->bj,sameAddr->bm,mayBeOne->bo,stringish->bp,samePointer->bq,typeStr->br,eqGuard->bs,movedNumber->bt,movedPointer->bv
open Nat renaming le_add_right->bx,lt_or_ge->bA,lt_irrefl->bL,le_refl->bM,le_trans->bR
open List renaming replicate->bT,toArray->bX,forIn_cons->b1
open Array renaming toList_push->b2,toList_append->b3,getD_eq_getD_getElem?->b4,toList_setIfInBounds->b5,toList_extract->b6,replicate->b8,toList_replicate->b9,getElem?_push_lt->ca,getElem?_eq_getElem->cb,getElem?_setIfInBounds_ne->cc,ext_getElem?->cd,getElem?_modify->ce,getElem?_setIfInBounds->cf,append_assoc->cg,foldl_toList->ch,toList_zipIdx->ci,mapM_eq_mapM_toList->cl,forIn_toList->cm
open Go.World renaming freeze->co,noCell->cp,cell?->cq,farLoad->ct,shape?->cu
open Go.Sem renaming store->cv,runT->cx,run->cB,getObj->cC,setObj->cQ,bind->c2,program->c4
open Go.Program renaming mk->c5,eqGuardType->c6,alikeButTags->c7,stoodInAs->c8,stoodInHeld->c9,packedAs->da,packed->db,holdsPacked->dd,cellsOf->de,depth->df,underlying->dj
open Go.Instr renaming sureAddr->dk,alloc->dl,box->dp,loadAt->dq,storeAt->dt,fill->du,build->dv,fieldAt->dx,field->dy,index->dz,indexAt->dB,extract->dC,sliceBound->dO,sliceBounds->dP,slice->dQ,sliceAt->dT
open Std.Legacy.Range renaming forIn_eq_forIn_range'->dU
open Bool renaming eq_iff_iff->d8
open Go.Op renaming equalIn->d9,eqGuardIn->ea,intArith->eb,intCmp->ec,intBits->ed,intDiv->eg,shift->eh,stringOp->ei,twoPlaces->ej,addrMod->ek,addrCmp->el,addrSub->em,equal->en,maxDepth->ep
open Go.Builtin renaming unsafeAdd_->eq
open Go.Unsupported renaming addressObserved->et
namespace Go.bJ
abbrev Ren:=Nat->Nat->Prop
structure Ren.bw(G:Nat)(ρ:Ren):Prop where
 fn:∀{a b b':Nat},ρ a b->ρ a b'->b=b'
 inj:∀{a a' b:Nat},ρ a b->ρ a' b->a=a'
 XS:∀{a b:Nat},ρ a b->(a<G↔b<G)
def Ren.le(ρ σ:Ren):Prop:=∀ ⦃a b:Nat⦄,ρ a b->σ a b
def Ren.ext(ρ:Ren)(r c:Nat):Ren:=λa b=>ρ a b\/(a=r/\b=c)
def Ren.le_refl(ρ:Ren):ρ.le ρ:=λ_ _ h=>h
def Ren.le_trans{ρ σ a:Ren}(h:ρ.le σ)(k:σ.le a):ρ.le a:=λ_ _ x=>k (h x)
def Ren.kW(ρ:Ren)(r a:Nat):ρ.le (ρ.ext r a):=λ_ _ h=>.inl h
def Ren.IW(ρ:Ren)(r a:Nat):ρ.ext r a r a:=.inr ⟨rfl,rfl⟩
def Ren.bw.ext{G:Nat}{ρ:Ren}(h:ρ.bw G){r c:Nat}(d:∀b,¬ρ r b)(e:∀a,¬ρ a c)(f:G<=r)(g:G<=c):(ρ.ext r c).bw G:=by
 refine⟨λ{a b b'}x y=>?_,λ{a i b}x y=>?_,λ{a b}x=>?_⟩
 ·rcases x with x|⟨rfl,rfl⟩<;>rcases y with y|⟨y1,y2⟩
  ·exact h.fn x y
  ·subst y1;exact absurd x (d _)
  ·exact absurd y (d _)
  ·exact y2.symm
 ·rcases x with x|⟨rfl,rfl⟩<;>rcases y with y|⟨y1,y2⟩
  ·exact h.inj x y
  ·subst y2;exact absurd x (e _)
  ·exact absurd y (e _)
  ·exact y1.symm
 ·rcases x with x|⟨rfl,rfl⟩
  ·exact h.XS x
  ·omega
def AR(ρ:Ren)(a a':Addr):Prop:=ρ a.block a'.block/\a.off=a'.off/\a.spot=a'.spot
def AR.mono{ρ σ:Ren}(h:ρ.le σ){a a':Addr}(x:AR ρ a a'):AR σ a a':=⟨h x.1,x.2⟩
def AR.add{ρ:Ren}{a a':Addr}(x:AR ρ a a')(n:Nat):AR ρ (a.add n) (a'.add n):=by
 unfold Addr.add
 split
 ·exact x
 ·exact⟨x.1,by show a.off+n=a'.off+n;rw[x.2.1],rfl⟩
def AR.eq_iff{G:Nat}{ρ:Ren}(c:ρ.bw G){a a' b b':Addr}(x:AR ρ a a')(y:AR ρ b b'):(a=b)↔(a'=b'):=by
 obtain⟨k,l,d⟩:=a;obtain⟨m,n,o⟩:=b;obtain⟨e,f,p⟩:=a';obtain⟨g,i,j⟩:=b';obtain⟨x1,x2,x3⟩:=x;obtain⟨y1,y2,y3⟩:=y;simp only at x1 x2 x3 y1 y2 y3;subst x2 x3 y2 y3;constructor
 ·intro h;simp only[Addr.mk.injEq]at h;obtain⟨rfl,rfl,rfl⟩:=h;rw[c.fn x1 y1]
 ·intro h;simp only[Addr.mk.injEq]at h;obtain⟨rfl,rfl,rfl⟩:=h;rw[c.inj x1 y1]
def cn:aa:=1000000
inductive XT(F:aa->Bool)(ρ:Ren):Fn->Fn->Prop
 |func (f:aa) (h:F f=true):XT F ρ (.func f) (.func f)
 |yield {l l':Nat} (h:ρ l l'):XT F ρ (.yield l) (.yield l')
 |spec {l l':Nat} (h:ρ l l'):XT F ρ (.func (cn+l)) (.yield l')
def XU:Value->Bool
 |.bool _ | .int .. | .string _ | .agg _ | .pointer none | .nilIface | .nilFunc | .func (.method _) _ _=>false
 |_=>true
def CM(x y:Nat):Nat:=(x+y)*(x+y)+x
def zY{x y u v:Nat}(h:CM x y=CM u v):x=u/\y=v:=by
 unfold CM at h;have a:∀{s t p q:Nat},p<=s->s<t->s*s+p<t*t+q:=by
  intro s t p q c b;have d:(s+1)*(s+1)<=t*t:=Nat.mul_le_mul b b;have e:(s+1)*(s+1)=s*s+s+s+1:=by rw[Nat.add_mul,Nat.mul_add];omega
  omega
 rcases Nat.lt_trichotomy (x+y) (u+v) with g|g|g
 ·have:=a (p:=x) (q:=u) (bx x y) g;omega
 ·rw[g]at h;omega
 ·have:=a (p:=u) (q:=x) (bx u v) g;omega
def N1(a:Addr):Nat:=CM (CM a.block a.off) (match a.spot with|none=>0|some k=>k+1)
def N3{a b:Addr}(h:N1 a=N1 b):a=b:=by
 obtain⟨x,y,z⟩:=a;obtain⟨u,v,w⟩:=b;obtain⟨d,c⟩:=zY h;obtain⟨rfl,rfl⟩:=zY d;cases z<;>cases w<;>simp only at c<;>first|rfl|omega|(obtain rfl:_=_:=Nat.succ.inj c;rfl)
mutual
inductive VR(F:aa->Bool)(ρ:Ren):Value->Value->Prop
 |bool (b:Bool):VR F ρ (.bool b) (.bool b)
 |int (k:ab) (n:Int):VR F ρ (.int k n) (.int k n)
 |string (s:ByteArray):VR F ρ (.string s) (.string s)
 |dS:VR F ρ (.pointer none) (.pointer none)
 |ptr {a a':Addr} (h:AR ρ a a'):VR F ρ (.pointer (some a)) (.pointer (some a'))
 |di (l c:Nat):VR F ρ (.slice none l c) (.slice none l c)
 |slice {a a':Addr} (l c:Nat) (h:AR ρ a a'):VR F ρ (.slice (some a) l c) (.slice (some a') l c)
 |dK (D:Nat) (a:Addr):VR F ρ (.slice (some ⟨D,N1 a,none⟩) 0 0) (.slice (some a) 0 0)
 |qQ:VR F ρ (.map none) (.map none)
 |map {r r':Nat} (h:ρ r r'):VR F ρ (.map (some r)) (.map (some r'))
 |func {fn dL:Fn} {a a' b b':Array Value} (h:XT F ρ fn dL) (h1:cU F ρ a.toList a'.toList) (h2:cU F ρ b.toList b'.toList):VR F ρ (.func fn a b) (.func dL a' b')
 |nilFunc:VR F ρ .nilFunc .nilFunc
 |iface (t:ac) {v v':Value} (h:VR F ρ v v'):VR F ρ (.iface t v) (.iface t v')
 |nilIface:VR F ρ .nilIface .nilIface
 |agg {a a':Array Value} (h:cU F ρ a.toList a'.toList):VR F ρ (.agg a) (.agg a')
 |tuple {a a':Array Value} (h:cU F ρ a.toList a'.toList):VR F ρ (.tuple a) (.tuple a')
 |hole (v':Value) (h:XU v'=true):VR F ρ (.tuple #[]) v'
 |wG (n:String) (f c:Array Value):VR F ρ (.func (.method "") #[.iface 0 .nilIface] #[.func (.method n) f c]) (.func (.method n) f c)
inductive cU(F:aa->Bool)(ρ:Ren):List Value->List Value->Prop
 |nil:cU F ρ [] []
 |cons {v v':Value} {l l':List Value} (h:VR F ρ v v') (t:cU F ρ l l'):cU F ρ (v::l) (v'::l')
end
abbrev VA(F:aa->Bool)(ρ:Ren)(a a':Array Value):Prop:=cU F ρ a.toList a'.toList
def XT.mono{F:aa->Bool}{ρ σ:Ren}(h:ρ.le σ){f f':Fn}(x:XT F ρ f f'):XT F σ f f':=by
 cases x with
 |func f hf=>exact .func f hf
 |yield hl=>exact .yield (h hl)
 |spec hl=>exact .spec (h hl)
section
variable {F:aa->Bool}{ρ σ:Ren}
mutual
theorem VR.mono(h:ρ.le σ){v v':Value}(x:VR F ρ v v'):VR F σ v v':=by
 cases x with
 |bool b=>exact .bool b
 |int k n=>exact .int k n
 |string s=>exact .string s
 |dS=>exact .dS
 |ptr a=>exact .ptr (a.mono h)
 |di l c=>exact .di l c
 |slice l c a=>exact .slice l c (a.mono h)
 |dK D a=>exact .dK D a
 |qQ=>exact .qQ
 |map a=>exact .map (h a)
 |func a b c=>exact .func (a.mono h) (cU.mono h b) (cU.mono h c)
 |nilFunc=>exact .nilFunc
 |iface t a=>exact .iface t (VR.mono h a)
 |nilIface=>exact .nilIface
 |agg a=>exact .agg (cU.mono h a)
 |tuple a=>exact .tuple (cU.mono h a)
 |hole v' a=>exact .hole v' a
 |wG n f c=>exact .wG n f c
theorem cU.mono(h:ρ.le σ){l l':List Value}(x:cU F ρ l l'):cU F σ l l':=by
 cases x with
 |nil=>exact .nil
 |cons a b=>exact .cons (VR.mono h a) (cU.mono h b)
end
def cU.length{l l':List Value}(x:cU F ρ l l'):l.length=l'.length:=by
 induction l generalizing l' with
 |nil=>cases x;rfl
 |cons v l a=>cases x with|cons _ t=>simp[a t]
def cU.append{l l' m m':List Value}(x:cU F ρ l l')(y:cU F ρ m m'):cU F ρ (l++m) (l'++m'):=by
 induction l generalizing l' with
 |nil=>cases x;exact y
 |cons v l a=>cases x with|cons h t=>exact .cons h (a t)
def cU.get?{l l':List Value}(x:cU F ρ l l')(i:Nat):(l[i]?=none/\l'[i]?=none)\/∃v v',l[i]?=some v/\l'[i]?=some v'/\VR F ρ v v':=by
 induction l generalizing l' i with
 |nil=>cases x;exact .inl ⟨rfl,rfl⟩
 |cons v l a=>
  cases x with
  |cons h t=>
   cases i with
   |zero=>exact .inr ⟨_,_,rfl,rfl,h⟩
   |succ i=>simpa using a t i
def cU.set{l l':List Value}(x:cU F ρ l l')(i:Nat){v v':Value}(h:VR F ρ v v'):cU F ρ (l.set i v) (l'.set i v'):=by
 induction l generalizing l' i with
 |nil=>cases x;exact .nil
 |cons u l a=>
  cases x with
  |cons b t=>
   cases i with
   |zero=>exact .cons h t
   |succ i=>exact .cons b (a t i)
def cU.take{l l':List Value}(x:cU F ρ l l')(i:Nat):cU F ρ (l.take i) (l'.take i):=by
 induction l generalizing l' i with
 |nil=>cases x;simpa using cU.nil
 |cons u l a=>
  cases x with
  |cons b t=>
   cases i with
   |zero=>exact .nil
   |succ i=>exact .cons b (a t i)
def cU.drop{l l':List Value}(x:cU F ρ l l')(i:Nat):cU F ρ (l.drop i) (l'.drop i):=by
 induction l generalizing l' i with
 |nil=>cases x;simpa using cU.nil
 |cons u l a=>
  cases x with
  |cons b t=>
   cases i with
   |zero=>exact .cons b t
   |succ i=>simpa using a t i
def cU.replicate{v v':Value}(h:VR F ρ v v')(n:Nat):cU F ρ (bT n v) (bT n v'):=by
 induction n with
 |zero=>exact .nil
 |succ n a=>exact .cons h a
def cU.map{a:Type}(l:List a){f g:a->Value}(h:∀x∈l,VR F ρ (f x) (g x)):cU F ρ (l.map f) (l.map g):=by
 induction l with
 |nil=>exact .nil
 |cons x l b=>exact .cons (h x (by simp)) (b λy hy=>h y (by simp[hy]))
def VR.undef:VR F ρ undef undef:=.tuple .nil
def FM{v:Value}(h:XU v=true):v.cells=#[v]:=by
 cases v<;>first|rfl|cases h
def VR.cells{v v':Value}(h:VR F ρ v v'):VA F ρ v.cells v'.cells:=by
 cases h with
 |hole v' h=>rw[FM h];exact .cons (.hole v' h) .nil
 |wG n f c=>exact .cons (.wG n f c) .nil
 |dK D a=>exact .cons (.dK D a) .nil
 |_=>first|(rename_i h;exact h)|exact .cons (by constructor<;>assumption) .nil
def VA.size{a a':Array Value}(h:VA F ρ a a'):a.size=a'.size:=h.length
def VA.push{a a':Array Value}(h:VA F ρ a a'){v v':Value}(hv:VR F ρ v v'):VA F ρ (a.push v) (a'.push v'):=by
 show cU _ _ _ _;rw[b2,b2];exact cU.append h (.cons hv .nil)
def VA.append{a a' b b':Array Value}(h:VA F ρ a a')(k:VA F ρ b b'):VA F ρ (a++b) (a'++b'):=by
 show cU _ _ _ _;rw[b3,b3];exact cU.append h k
def VA.get?{a a':Array Value}(h:VA F ρ a a')(i:Nat):(a[i]?=none/\a'[i]?=none)\/∃v v',a[i]?=some v/\a'[i]?=some v'/\VR F ρ v v':=by
 have:=cU.get? h i;simpa using this
def VA.getD{a a':Array Value}(h:VA F ρ a a')(i:Nat){d d':Value}(hd:VR F ρ d d'):VR F ρ (a.getD i d) (a'.getD i d'):=by
 rw[b4,b4]
 rcases VA.get? h i with⟨b,c⟩|⟨v,v',b,c,hv⟩
 ·rw[b,c];exact hd
 ·rw[b,c];exact hv
def VA.set{a a':Array Value}(h:VA F ρ a a')(i:Nat){v v':Value}(hv:VR F ρ v v'):VA F ρ (a.setIfInBounds i v) (a'.setIfInBounds i v'):=by
 show cU _ _ _ _;rw[b5,b5];exact cU.set h i hv
def VA.extract{a a':Array Value}(h:VA F ρ a a')(i j:Nat):VA F ρ (a.extract i j) (a'.extract i j):=by
 show cU _ _ _ _;rw[b6,b6];exact cU.take (cU.drop h i) _
def VA.replicate{v v':Value}(h:VR F ρ v v')(n:Nat):VA F ρ (b8 n v) (b8 n v'):=by
 show cU _ _ _ _;rw[b9,b9];exact cU.replicate h n
def VA.mono(h:ρ.le σ){a a':Array Value}(x:VA F ρ a a'):VA F σ a a':=cU.mono h x
def VA.nil:VA F ρ #[] #[]:=cU.nil
def VA.one{v v':Value}(h:VR F ρ v v'):VA F ρ #[v] #[v']:=cU.cons h cU.nil
def VA.two{v v' u a:Value}(h:VR F ρ v v')(k:VR F ρ u a):VA F ρ #[v,u] #[v',a]:=cU.cons h (cU.cons k cU.nil)
def VA.three{v v' u a x b:Value}(h:VR F ρ v v')(k:VR F ρ u a)(m:VR F ρ x b):VA F ρ #[v,u,x] #[v',a,b]:=cU.cons h (cU.cons k (cU.cons m cU.nil))
end
end Go.bJ
namespace Go
def World.re(w:World)(a:Nat->ad->Nat)(d:Nat):World:={ w with tape:=a,drawn:=d }
def Result.world{a:Type}:ae a->World
 |.ok _ w | .halt _ w=>w
def Result.re{b:Type}(r:ae b)(c:Nat->ad->Nat)(d:Nat):ae b:=match r with
 |.ok a w=>.ok a (w.re c d)
 |.halt h w=>.halt h (w.re c d)
end Go
namespace Go.bJ
structure zo(F:aa->Bool)(ρ:Ren)(e e':ag):Prop where
 key:VR F ρ e.key e'.key
 val:VR F ρ e.val e'.val
 born:e.born=e'.born
def zo.mono{F:aa->Bool}{ρ σ:Ren}(h:ρ.le σ){e e':ag}(x:zo F ρ e e'):zo F σ e e':=⟨x.key.mono h,x.val.mono h,x.born⟩
inductive bD(F:aa->Bool)(ρ:Ren):List ag->List ag->Prop
 |nil:bD F ρ [] []
 |cons {e e':ag} {l l':List ag} (h:zo F ρ e e') (t:bD F ρ l l'):bD F ρ (e::l) (e'::l')
def bD.mono{F:aa->Bool}{ρ σ:Ren}(h:ρ.le σ){l l':List ag}(x:bD F ρ l l'):bD F σ l l':=by
 induction x with
 |nil=>exact .nil
 |cons a _ b=>exact .cons (a.mono h) b
def bD.length{F:aa->Bool}{ρ:Ren}{l l':List ag}(x:bD F ρ l l'):l.length=l'.length:=by
 induction x with
 |nil=>rfl
 |cons _ _ a=>simp[a]
structure CN(F:aa->Bool)(K:Code->Bool)(ρ:Ren)(l l':Loop):Prop where
 state:l.state=l'.state
 pending:l.pending=l'.pending
 FN:∀c,l.pending=some c->K c=true
 fn:l.fn=l'.fn
 mI:F l.fn=true
 tmps:VA F ρ l.tmps l'.tmps
 params:l.params=l'.params
 assign:l.assign=l'.assign
 CP:K l.assign=true
 body:l.body=l'.body
 N6:K l.body=true
 defers:ρ l.defers l'.defers
def CN.mono{F:aa->Bool}{K:Code->Bool}{ρ σ:Ren}(h:ρ.le σ){l l':Loop}(x:CN F K ρ l l'):CN F K σ l l':=
 ⟨x.state,x.pending,x.FN,x.fn,x.mI,cU.mono h x.tmps,x.params,x.assign,x.CP,x.body,x.N6,h x.defers⟩
inductive OR(F:aa->Bool)(K:Code->Bool)(ρ:Ren):Obj->Obj->Prop
 |cells {c c':Array Value} (t:ac) (fz:Nat×Nat) (h:VA F ρ c c'):OR F K ρ (.cells c t fz) (.cells c' t fz)
 |map {es aT:Array ag} (clock:Nat) (h:bD F ρ es.toList aT.toList):OR F K ρ (.map es clock) (.map aT clock)
 |stringIter (s:ByteArray) (pos:Nat):OR F K ρ (.stringIter s pos) (.stringIter s pos)
 |mJ (a:Nat) (b:Array Nat) (c:Nat):OR F K ρ (.mapIter none a b c) (.mapIter none a b c)
 |mapIter {m m':Nat} (a:Nat) (b:Array Nat) (c:Nat) (h:ρ m m'):OR F K ρ (.mapIter (some m) a b c) (.mapIter (some m') a b c)
 |loop {l l':Loop} (h:CN F K ρ l l'):OR F K ρ (.loop l) (.loop l')
 |deferred:OR F K ρ (.deferred (some [])) (.deferred (some []))
 |nW:OR F K ρ (.deferred none) (.deferred none)
 |number {a a':Addr} (lost:Bool) (h:AR ρ a a'):OR F K ρ (.number a lost) (.number a' lost)
def OR.mono{F:aa->Bool}{K:Code->Bool}{ρ σ:Ren}(h:ρ.le σ){o o':Obj}(x:OR F K ρ o o'):OR F K σ o o':=by
 cases x with
 |cells t e a=>exact .cells t e (cU.mono h a)
 |map c a=>exact .map c (a.mono h)
 |stringIter s p=>exact .stringIter s p
 |mJ a b c=>exact .mJ a b c
 |mapIter a b c d=>exact .mapIter a b c (h d)
 |loop a=>exact .loop (a.mono h)
 |deferred=>exact .deferred
 |nW=>exact .nW
 |number l a=>exact .number l (a.mono h)
structure WR(G:Nat)(F:aa->Bool)(K:Code->Bool)(ρ:Ren)(w w':World):Prop where
 pK:G<=w.heap.size
 gN:G<=w'.heap.size
 obj:∀{r r':Nat},ρ r r'->∃o o',w.heap[r]?=some o/\w'.heap[r']?=some o'/\OR F K ρ o o'
section
variable {G:Nat}{F:aa->Bool}{K:Code->Bool}{ρ σ:Ren}{w w':World}
def bE{c:Type}{a:Array c}{i:Nat}{x:c}(h:a[i]?=some x):i<a.size:=by
 rcases bA i a.size with b|b
 ·exact b
 ·rw[Array.getElem?_eq_none b]at h;cases h
def WR.lt(h:WR G F K ρ w w'){r a:Nat}(x:ρ r a):r<w.heap.size/\a<w'.heap.size:=by
 obtain⟨o,d,b,c,_⟩:=h.obj x;exact⟨bE b,bE c⟩
def WR.fresh(h:WR G F K ρ w w'):(∀b,¬ρ w.heap.size b)/\(∀a,¬ρ a w'.heap.size):=
 ⟨λ_ x=>absurd (h.lt x).1 (bL _),λ_ x=>absurd (h.lt x).2 (bL _)⟩
def WR.push(h:WR G F K ρ w w'){o o':Obj}(x:OR F K (ρ.ext w.heap.size w'.heap.size) o o') :
 WR G F K (ρ.ext w.heap.size w'.heap.size) { w with heap:=w.heap.push o } { w' with heap:=w'.heap.push o' }:=by
 refine⟨by have:=h.pK;simp;omega,by have:=h.gN;simp;omega,λ{r i}a=>?_⟩
 rcases a with a|⟨rfl,rfl⟩
 ·obtain⟨p,f,b,c,g⟩:=h.obj a;have d:=bE b;have e:=bE c;exact⟨p,f,by rw[ca d,<-cb d];exact b,by rw[ca e,<-cb e];exact c,g.mono (Ren.kW _ _ _)⟩
 ·exact⟨o,o',by simp,by simp,x⟩
def WR.put(h:WR G F K ρ w w')(c:ρ.bw G){r a:Nat}(b:ρ r a){o o':Obj}(x:OR F K ρ o o') :
 WR G F K ρ { w with heap:=w.heap.setIfInBounds r o } { w' with heap:=w'.heap.setIfInBounds a o' }:=by
 refine⟨by simpa using h.pK,by simpa using h.gN,λ{s d}hs=>?_⟩;obtain⟨f,g⟩:=h.lt b;by_cases e:r=s
 ·subst e;obtain rfl:=c.fn b hs;exact⟨o,o',by simp[f],by simp[g],x⟩
 ·have i:a≠d:=λy=>e (c.inj b (y▸hs));obtain⟨p,j,k,l,m⟩:=h.obj hs;exact⟨p,j,by simpa[cc e]using k,by simpa[cc i]using l,m⟩
def setCell_eq(w:World)(a:Addr)(v:Value){c:Array Value}{t:ac}{b:Nat×Nat}(h:w.heap[a.block]?=some (.cells c t b))(hs:a.spot=none) :
 w.setCell a v={ w with heap:=w.heap.setIfInBounds a.block (.cells (c.setIfInBounds a.off v) t b) }:=by
 unfold World.setCell;congr 1;apply cd;intro i;rw[ce,cf];by_cases e:a.block=i
 ·subst e;have hl:=bE h;rw[if_pos rfl,if_pos rfl,h,if_pos hl];simp[hs]
 ·simp[e]
def iz(w:World)(a:Addr)(n:Nat)(d:n≠0){c:Array Value}{t:ac}{b hi:Nat}(h:w.heap[a.block]?=some (.cells c t (b,hi))) :
 w.freeze a n={ w with heap:=w.heap.setIfInBounds a.block (.cells c t (if b==hi then(a.off,a.off+n) else(min b a.off,max hi (a.off+n)))) }:=by
 unfold co;rw[if_neg d];congr 1;apply cd;intro i;rw[ce,cf];by_cases e:a.block=i
 ·subst e;have hl:=bE h;rw[if_pos rfl,if_pos rfl,h,if_pos hl];simp
 ·simp[e]
end
def lE(m:Mark):Prop:=m=.noRoom
section
variable (T:ai)(fB fA:Array Func)(F:aa->Bool)(K:Code->Bool)
def dw:ao->Bool
 |.initOrder _=>false
 |_=>true
def ac8{a:Type}(ρ:Ren):Halt->Sem a->Prop
 |.panic v,b=>∃v',b=.halt (.panic v')/\VR F ρ v v'
 |.stuck _,_=>True
 |.unsupported u,_=>dw u=true
 |_,_=>False
def Lr:Halt->Prop
 |.stuck _=>True
 |.unsupported u=>dw u=true
 |_=>False
def bW{a:Type}:Sem a->Prop
 |.halt h=>Lr h
 |.program k=>bW (k ⟨T,fB⟩)
 |.shape _ k=>∀x,bW (k x)
 |.frozen _ k=>∀x,bW (k x)
 |.mark m k=>lE m/\bW k
 |_=>False
def vW(o:Obj):Prop:=∀c t a,o≠.cells c t a
def av{g i:Type}(RA:Ren->g->i->Prop):Ren->Sem g->Sem i->Prop
 |ρ,.halt h,c=>ac8 F ρ h c
 |ρ,.pure a,c=>∃d,c=.pure d/\RA ρ a d
 |ρ,.load m a k,c=>∃m' d k',c=.load m' d k'/\m=.plain/\m'=.plain/\AR ρ a d/\∀v v',VR F ρ v v'->av RA ρ (k v) (k' v')
 |ρ,.store m a v k,c=>∃m' d v' k',c=.store m' d v' k'/\m=.plain/\m'=.plain/\AR ρ a d/\VR F ρ v v'/\av RA ρ k k'
 |ρ,.new o k,c=>∃f k',c=.new f k'/\OR F K ρ o f/\∀r e,(∀b,¬ρ r b)->(∀a,¬ρ a e)->T.globals.size<=r->T.globals.size<=e->av RA (ρ.ext r e) (k r) (k' e)
 |ρ,.shape r k,c=>(∃e k',c=.shape e k'/\ρ r e/\∀x,av RA ρ (k x) (k' x))\/∀x,bW T fB (k x)
 |ρ,.freeze a n k,c=>∃d k',c=.freeze d n k'/\AR ρ a d/\av RA ρ k k'
 |ρ,.frozen a k,c=>(∃d k',c=.frozen d k'/\AR ρ a d/\∀b,av RA ρ (k b) (k' b))\/∀x,bW T fB (k x)
 |ρ,.getObj r k,c=>∃e k',c=.getObj e k'/\ρ r e/\∀o f,OR F K ρ o f->av RA ρ (k o) (k' f)
 |ρ,.setObj r o k,c=>∃e f k',c=.setObj e f k'/\ρ r e/\(OR F K ρ o f/\vW o)/\av RA ρ k k'
 |ρ,.choose q k,c=>∃k',c=.choose q k'/\∀n,av RA ρ (k n) (k' n)
 |_,.sys _ _,_=>False
 |ρ,.program k,c=>(∃k',c=.program k'/\av RA ρ (k ⟨T,fB⟩) (k' ⟨T,fA⟩))\/bW T fB (k ⟨T,fB⟩)
 |ρ,.mark m k,c=>(∃k',c=.mark m k'/\lE m/\av RA ρ k k')\/(lE m/\bW T fB k)
end
section
variable {T:ai}{fB fA:Array Func}{F:aa->Bool}{K:Code->Bool}
def bW.bind{b c:Type}{s:Sem b}{f:b->Sem c}(h:bW T fB s):bW T fB (s.bind f):=by
 induction s with
 |halt _=>exact h
 |program k a=>exact a _ h
 |shape r k a=>exact λx=>a x (h x)
 |frozen r k a=>exact λx=>a x (h x)
 |mark m k a=>exact⟨h.1,a h.2⟩
 |_=>exact h.elim
def bW.run{c:Type}{s:Sem c}(h:bW T fB s)(w:World):∃x,Lr x/\∀b d,s.run ⟨T,fB⟩ (w.re b d)=.halt x (w.re b d):=by
 induction s with
 |halt x=>exact⟨x,h,λ_ _=>rfl⟩
 |program k a=>exact a _ h
 |shape r k a=>exact a (w.shape? r) (h _)
 |frozen r k a=>exact a (w.frozen? r) (h _)
 |mark m k a=>exact a h.2
 |_=>exact h.elim
def Lr.halt{c a:Type}{RA:Ren->c->a->Prop}{ρ:Ren}{h:Halt}(b:Lr h)(s':Sem a):av T fB fA F K RA ρ (.halt h) s':=by
 cases h<;>first|exact b.elim|trivial|exact b
def bW.rel{a b:Type}{RA:Ren->a->b->Prop}{ρ:Ren}{s:Sem a}(h:bW T fB s)(s':Sem b):av T fB fA F K RA ρ s s':=by
 cases s with
 |halt x=>exact Lr.halt h s'
 |program k=>exact .inr h
 |shape r k=>exact .inr h
 |frozen r k=>exact .inr h
 |mark m k=>exact .inr h
 |_=>exact h.elim
def av.bind{t u A B:Type}{RA:Ren->t->u->Prop}{C:Ren->A->B->Prop}{s:Sem t} :
 ∀{ρ:Ren}{s':Sem u}{f:t->Sem A}{f':u->Sem B},ρ.bw T.globals.size->av T fB fA F K RA ρ s s'->
  (∀σ:Ren,ρ.le σ->σ.bw T.globals.size->∀a a',RA σ a a'->av T fB fA F K C σ (f a) (f' a'))->av T fB fA F K C ρ (s.bind f) (s'.bind f'):=by
 induction s with
 |pure a=>rintro ρ s' f f' e⟨a',rfl,h⟩hf;exact hf ρ (Ren.le_refl ρ) e a a' h
 |halt h=>
  intro ρ s' f f' e hs hf;cases h<;>first|exact hs|trivial|(obtain⟨v',rfl,hv⟩:=hs;exact⟨v',rfl,hv⟩)
 |load m a k i=>rintro ρ s' f f' e⟨m',a',k',rfl,g,j,l,y⟩hf;exact⟨_,_,_,rfl,g,j,l,λv v' hv=>i v e (y v v' hv) hf⟩
 |store m a v k i=>rintro ρ s' f f' e⟨m',a',v',k',rfl,g,j,l,y,D⟩hf;exact⟨_,_,_,_,rfl,g,j,l,y,i e D hf⟩
 |new o k i=>
  rintro ρ s' f f' e⟨z,k',rfl,g,j⟩hf;exact⟨_,_,rfl,g,λr p a b c d=>i r (e.ext a b c d) (j r p a b c d) λσ E=>hf σ (λ_ _ x=>E (Ren.kW _ _ _ x))⟩
 |shape r k i=>
  rintro ρ s' f f' e(⟨p,k',rfl,g,j⟩|h)hf
  ·exact .inl ⟨_,_,rfl,g,λx=>i x e (j x) hf⟩
  ·exact .inr λx=>(h x).bind
 |freeze a n k i=>rintro ρ s' f f' e⟨a',k',rfl,g,j⟩hf;exact⟨_,_,rfl,g,i e j hf⟩
 |frozen a k i=>
  rintro ρ s' f f' e(⟨a',k',rfl,g,j⟩|h)hf
  ·exact .inl ⟨_,_,rfl,g,λb=>i b e (j b) hf⟩
  ·exact .inr λx=>(h x).bind
 |getObj r k i=>rintro ρ s' f f' e⟨p,k',rfl,g,j⟩hf;exact⟨_,_,rfl,g,λo z H=>i o e (j o z H) hf⟩
 |setObj r o k i=>rintro ρ s' f f' e⟨p,z,k',rfl,g,j,l⟩hf;exact⟨_,_,_,rfl,g,j,i e l hf⟩
 |choose q k i=>rintro ρ s' f f' e⟨k',rfl,g⟩hf;exact⟨_,rfl,λn=>i n e (g n) hf⟩
 |sys c k i=>intro ρ s' f f' e h;exact h.elim
 |program k i=>
  rintro ρ s' f f' e(⟨k',rfl,g⟩|g)hf
  ·exact .inl ⟨_,rfl,i _ e g hf⟩
  ·exact .inr g.bind
 |mark m k i=>
  rintro ρ s' f f' e(⟨k',rfl,g,j⟩|h)hf
  ·exact .inl ⟨_,rfl,g,i e j hf⟩
  ·exact .inr ⟨h.1,h.2.bind⟩
def av.mono{t u:Type}{RA y:Ren->t->u->Prop}{s:Sem t}:∀{ρ:Ren}{s':Sem u},av T fB fA F K RA ρ s s'->(∀σ:Ren,ρ.le σ->∀a a',RA σ a a'->y σ a a')->av T fB fA F K y ρ s s':=by
 induction s with
 |pure a=>rintro ρ s'⟨a',rfl,h⟩hf;exact⟨a',rfl,hf ρ (Ren.le_refl ρ) a a' h⟩
 |halt h=>intro ρ s' hs _;exact hs
 |load m a k f=>rintro ρ s'⟨m',a',k',rfl,e,g,i,l⟩hf;exact⟨_,_,_,rfl,e,g,i,λv v' hv=>f v (l v v' hv) hf⟩
 |store m a v k f=>rintro ρ s'⟨m',a',v',k',rfl,e,g,i,l,z⟩hf;exact⟨_,_,_,_,rfl,e,g,i,l,f z hf⟩
 |new o k f=>
  rintro ρ s'⟨p,k',rfl,e,g⟩hf;exact⟨_,_,rfl,e,λr j a b c d=>f r (g r j a b c d) λσ A=>hf σ (λ_ _ x=>A (Ren.kW _ _ _ x))⟩
 |shape r k f=>
  rintro ρ s'(⟨j,k',rfl,e,g⟩|h)hf
  ·exact .inl ⟨_,_,rfl,e,λx=>f x (g x) hf⟩
  ·exact .inr h
 |freeze a n k f=>rintro ρ s'⟨a',k',rfl,e,g⟩hf;exact⟨_,_,rfl,e,f g hf⟩
 |frozen a k f=>
  rintro ρ s'(⟨a',k',rfl,e,g⟩|h)hf
  ·exact .inl ⟨_,_,rfl,e,λb=>f b (g b) hf⟩
  ·exact .inr h
 |getObj r k f=>rintro ρ s'⟨j,k',rfl,e,g⟩hf;exact⟨_,_,rfl,e,λo p B=>f o (g o p B) hf⟩
 |setObj r o k f=>rintro ρ s'⟨j,p,k',rfl,e,g,i⟩hf;exact⟨_,_,_,rfl,e,g,f i hf⟩
 |choose q k f=>rintro ρ s'⟨k',rfl,e⟩hf;exact⟨_,rfl,λn=>f n (e n) hf⟩
 |sys c k f=>intro ρ s' h;exact h.elim
 |program k f=>
  rintro ρ s'(⟨k',rfl,e⟩|e)hf
  ·exact .inl ⟨_,rfl,f _ e hf⟩
  ·exact .inr e
 |mark m k f=>
  rintro ρ s'(⟨k',rfl,e,g⟩|h)hf
  ·exact .inl ⟨_,rfl,e,f g hf⟩
  ·exact .inr h
end
def Ls(ρ:Ren)(e:Event):Prop:=
 match e.loc with
 |.cell a=>e.sync=false/\∃r,ρ r a.block
 |.obj b=>e.sync=false/\∃r,ρ r b
 |.mark m=>lE m
 |.output=>False
 |.goroutines=>False
def Ls.mono{ρ a:Ren}(h:ρ.le a){e:Event}(x:Ls ρ e):Ls a e:=by
 obtain⟨l,w,s⟩:=e;cases l<;>simp only[Ls]at x ⊢
 ·exact⟨x.1,x.2.imp λ_ y=>h y⟩
 ·exact⟨x.1,x.2.imp λ_ y=>h y⟩
 ·exact x
def nX(w:World)(a i:Nat):Prop:=∃v,w.cell? ⟨a,i,none⟩=some v/\(v=.tuple #[]\/∃c,v=.agg c)
structure cE(G:Nat)(F:aa->Bool)(K:Code->Bool)(ρ:Ren)(w w':World)(aJ:Ren)(w1 aP:World)(new:Array Event):Prop where
 le:ρ.le aJ
 inj:aJ.bw G
 wr:WR G F K aJ w1 aP
 tape:w1.tape=aP.tape
 drawn:w1.drawn=aP.drawn
 wH:aP.tape=w'.tape
 XV:aP.os=w'.os
 mK:aP.output=w'.output
 size:w.heap.size<=w1.heap.size
 fV:w'.heap.size<=aP.heap.size
 frame:∀b,b<w'.heap.size->(∀a,¬ρ a b)->aP.heap[b]?=w'.heap[b]?
 N7:∀b,w'.heap.size<=b->b<aP.heap.size->∃a,aJ a b
 only:∀a b,aJ a b->ρ a b\/(w.heap.size<=a/\w'.heap.size<=b)
 ev:∀e∈new,Ls aJ e
 hol:∀a b,ρ a b->∀i,nX w1 a i->nX w a i/\aP.cell? ⟨b,i,none⟩=w'.cell? ⟨b,i,none⟩
section
variable {G:Nat}{F:aa->Bool}{K:Code->Bool}
def cE.refl{ρ:Ren}{w w':World}(a:ρ.bw G)(b:WR G F K ρ w w')(c:w.tape=w'.tape)(hd:w.drawn=w'.drawn):cE G F K ρ w w' ρ w w' #[]:=
 ⟨Ren.le_refl _,a,b,c,hd,rfl,rfl,rfl,bM _,bM _,λ_ _ _=>rfl,λ_ d e=>absurd e (Nat.not_lt.2 d),λ_ _ h=>.inl h,by simp,λ_ _ _ _ h=>⟨h,rfl⟩⟩
def cE.trans{ρ d f:Ren}{w w' w1 c w2 g:World}{e1 j:Array Event}(h:cE G F K ρ w w' d w1 c e1)(k:cE G F K d w1 c f w2 g j):cE G F K ρ w w' f w2 g (e1++j):=by
 refine⟨Ren.le_trans h.le k.le,k.inj,k.wr,k.tape,k.drawn,k.wH.trans h.wH,k.XV.trans h.XV,k.mK.trans h.mK,bR h.size k.size,bR h.fV k.fV,λb hb l=>?_,λb m n=>?_,λa b x=>?_,λe o=>?_,λa b x i p=>?_⟩
 ·rw[k.frame b (Nat.lt_of_lt_of_le hb h.fV) (λa x=>?_),h.frame b hb l]
  rcases h.only a b x with y|⟨_,y⟩
  ·exact l a y
  ·omega
 ·rcases bA b c.heap.size with hl|hg
  ·exact(h.N7 b m hl).imp λ_ x=>k.le x
  ·exact k.N7 b hg n
 ·rcases k.only a b x with y|⟨y1,y2⟩
  ·exact h.only a b y
  ·exact .inr ⟨bR h.size y1,bR h.fV y2⟩
 ·rcases Array.mem_append.1 o with x|x
  ·exact(h.ev e x).mono k.le
  ·exact k.ev e x
 ·obtain⟨y,e⟩:=k.hol a b (h.le x) i p;obtain⟨z,q⟩:=h.hol a b x i y;exact⟨z,e.trans q⟩
end
section
variable (G:Nat)(F:aa->Bool)(K:Code->Bool)
def mL{d e:Type}(RA:Ren->d->e->Prop)(ρ:Ren)(w w':World)(f:Array Event)(g:ae e×Array Event):ae d->Prop
 |.ok a w1=>∃b h c new,g=(.ok h c,f++new)/\cE G F K ρ w w' b w1 c new/\RA b a h
 |.halt (.panic v) w1=>∃b v' c new,g=(.halt (.panic v') c,f++new)/\cE G F K ρ w w' b w1 c new/\VR F b v v'
 |.halt (.stuck _) _=>True
 |.halt (.unsupported u) _=>dw u=true
 |.halt _ _=>False
def qp{f g:Type}(RA:Ren->f->g->Prop)(ρ:Ren)(w w':World)(h:Array Event)(i:ae g×Array Event):ae f->Prop
 |.ok a w1=>∃b j c new e d,i=(.ok j c,h++new)/\cE G F K ρ w w' b (w1.re e d) c new/\RA b a j
 |.halt (.panic v) w1=>∃b v' c new e d,i=(.halt (.panic v') c,h++new)/\cE G F K ρ w w' b (w1.re e d) c new/\VR F b v v'
 |.halt (.stuck _) _=>True
 |.halt (.unsupported u) _=>dw u=true
 |.halt _ _=>False
end
section
variable {T:ai}{fB fA:Array Func}{G:Nat}{F:aa->Bool}{K:Code->Bool}
def mL.step{f g:Type}{RA:Ren->f->g->Prop}{ρ i:Ren}{w w' w1 j:World}{l new:Array Event}{m:ae g×Array Event}{r:ae f}
 (hs:cE G F K ρ w w' i w1 j new) (h:mL G F K RA i w1 j (l++new) m r):mL G F K RA ρ w w' l m r:=by
 match r,h with
 |.ok a w2,⟨b,n,c,d,e,k,o⟩=>exact⟨b,n,c,new++d,by rw[e,cg],hs.trans k,o⟩
 |.halt (.panic v) w2,⟨b,v',c,d,e,k,hv⟩=>exact⟨b,v',c,new++d,by rw[e,cg],hs.trans k,hv⟩
 |.halt .blocked _,h=>exact h
 |.halt .waiting _,h=>exact h
 |.halt (.exit _) _,h=>exact h
 |.halt (.fatal _) _,h=>exact h
 |.halt (.throw _) _,h=>exact h
 |.halt .goexit _,h=>exact h
 |.halt (.unsupported _) _,h=>exact h
 |.halt (.stuck _) _,_=>trivial
def mL.zu{f g:Type}{RA:Ren->f->g->Prop}{ρ:Ren}{w w':World}{i:Array Event}{j:ae g×Array Event}{r:ae f}(h:mL G F K RA ρ w w' i j r):qp G F K RA ρ w w' i j r:=by
 match r,h with
 |.ok a w2,⟨b,l,c,d,e,k,m⟩=>exact⟨b,l,c,d,w2.tape,w2.drawn,e,k,m⟩
 |.halt (.panic v) w2,⟨b,v',c,d,e,k,hv⟩=>exact⟨b,v',c,d,w2.tape,w2.drawn,e,k,hv⟩
 |.halt .blocked _,h=>exact h
 |.halt .waiting _,h=>exact h
 |.halt (.exit _) _,h=>exact h
 |.halt (.fatal _) _,h=>exact h
 |.halt (.throw _) _,h=>exact h
 |.halt .goexit _,h=>exact h
 |.halt (.unsupported _) _,h=>exact h
 |.halt (.stuck _) _,_=>trivial
def qp.step{i j:Type}{RA:Ren->i->j->Prop}{ρ l:Ren}{w w' w1 m:World}{n new:Array Event}{o:ae j×Array Event}{r:ae i}
 (hs:cE G F K ρ w w' l w1 m new) (h:qp G F K RA l w1 m (n++new) o r):qp G F K RA ρ w w' n o r:=by
 match r,h with
 |.ok a w2,⟨b,p,c,f,g,d,e,k,q⟩=>exact⟨b,p,c,new++f,g,d,by rw[e,cg],hs.trans k,q⟩
 |.halt (.panic v) w2,⟨b,v',c,f,g,d,e,k,hv⟩=>exact⟨b,v',c,new++f,g,d,by rw[e,cg],hs.trans k,hv⟩
 |.halt .blocked _,h=>exact h
 |.halt .waiting _,h=>exact h
 |.halt (.exit _) _,h=>exact h
 |.halt (.fatal _) _,h=>exact h
 |.halt (.throw _) _,h=>exact h
 |.halt .goexit _,h=>exact h
 |.halt (.unsupported _) _,h=>exact h
 |.halt (.stuck _) _,_=>trivial
def run_store{P:ap}{b:Type}(a:Addr)(v:Value)(k:Sem b)(w:World)(d:∀c,v≠.agg c)(e:∀c,v≠.tuple c) :
 (cv .plain a v k).run P w=match w.cell? a with
  |some _=>if w.frozen? a then .halt (.unsupported (.unsafePointer "a write to bytes that a string shares")) w else k.run P (w.setCell a v)
  |none=>match w.farStore P a v false with
   |.ok (w,_)=>k.run P w
   |.error h=>.halt h w:=by
 cases v<;>first|rfl|exact absurd rfl (d _)|exact absurd rfl (e _)
def qR{P:ap}{b:Type}(a:Addr)(v:Value)(k:Sem b)(w:World)(es:Array Event)(d:∀c,v≠.agg c)(e:∀c,v≠.tuple c) :
 (cv .plain a v k).runT P w es=match w.cell? a with
  |some _=>if w.frozen? a then(.halt (.unsupported (.unsafePointer "a write to bytes that a string shares")) w,es) else k.runT P (w.setCell a v) (es.push ⟨.cell a,true,false⟩)
  |none=>match w.farStore P a v false with
   |.ok (w,f)=>k.runT P w (es++f.toArray.map (⟨.cell ·,true,false⟩))
   |.error h=>(.halt h w,es):=by
 cases v<;>first|rfl|exact absurd rfl (d _)|exact absurd rfl (e _)
def mM{ρ:Ren}{w:World}{a:Addr}{o o':Obj}(h:w.heap[a.block]?=some o)(b:OR F K ρ o o')(s:String):w.noCell a s=.stuck s:=by
 unfold cp;rw[h];cases b<;>rfl
def lF{ρ:Ren}{w w':World}(i:WR G F K ρ w w'){a a':Addr}(e:AR ρ a a') :
 (w.cell? a=none/\∃s:String,∀m,w.farLoad ⟨T,fB⟩ a m=.error (.stuck s))\/∃v v' c c' t d,w.cell? a=some v/\w'.cell? a'=some v'/\VR F ρ v v'/\a.spot=none/\w.heap[a.block]?=some (.cells c t d)/\w'.heap[a'.block]?=some (.cells c' t d)/\VA F ρ c c':=by
 obtain⟨o,l,b,g,j⟩:=i.obj e.1
 cases j with
 |@cells c c' t d hc=>
  by_cases hs:a.spot=none
  ·rcases VA.get? hc a.off with⟨f,h⟩|⟨v,v',f,h,hv⟩
   ·left;refine⟨by simp[cq,b,hs,f],"load: no such cell",λm=>?_⟩;simp only[ct,b,cp]
   ·right;refine⟨v,v',c,c',t,d,by simp[cq,b,hs,f],?_,hv,hs,b,g,hc⟩;have k:a'.spot=none:=by rw[<-e.2.2];exact hs
    simp[cq,g,k,<-e.2.1,h]
  ·left;refine⟨by simp[cq,b,Option.isSome_iff_ne_none.2 hs],"load: no such cell",λm=>?_⟩;simp only[ct,b,cp]
 |_=>
  left;refine⟨by simp[cq,b],"load: no such cell",λm=>?_⟩;simp only[ct,b,cp]
def FP{ρ:Ren}{w w':World}(b:ρ.bw G)(c:WR G F K ρ w w')(d:w.tape=w'.tape)(hd:w.drawn=w'.drawn){e:Event}(f:Ls ρ e):cE G F K ρ w w' ρ w w' #[e]:=
 { cE.refl b c d hd with ev:=λx a=>by simp at a;rw[a];exact f }
def wI{ρ:Ren}{w w':World}(c:WR G F K ρ w w'){a a':Addr}(b:AR ρ a a'):w.frozen? a=w'.frozen? a':=by
 obtain⟨o,g,d,e,f⟩:=c.obj b.1;cases f<;>simp[World.frozen?,d,e,b.2.1]
def Lu{ρ:Ren}{w w':World}(d:WR G F K ρ w w'){r a:Nat}(e:ρ r a):w.shape? r=w'.shape? a:=by
 obtain⟨o,g,b,c,f⟩:=d.obj e
 cases f with
 |cells t h hc=>simp[cu,b,c,VA.size hc]
 |_=>simp[cu,b,c]
def wJ(w:World)(r a i:Nat)(o:Obj):({ w with heap:=w.heap.setIfInBounds r o }:World).cell? ⟨a,i,none⟩=if r=a/\r<w.heap.size then(match o with | .cells c _ _=>c[i]? | _=>none) else w.cell? ⟨a,i,none⟩:=by
 unfold cq;by_cases e:r=a
 ·subst e;by_cases h:r<w.heap.size
  ·simp[h];cases o<;>rfl
  ·simp[h,Array.setIfInBounds]
 ·simp[e,cc e]
def tQ(w:World)(o:Obj)(a i:Nat)(h:a<w.heap.size):({ w with heap:=w.heap.push o }:World).cell? ⟨a,i,none⟩=w.cell? ⟨a,i,none⟩:=by
 unfold cq;simp only[ca h,<-cb h]
def Hol(w w':World)(r d:Nat)(o o':Obj):Prop:=∀c t e,o=.cells c t e->∃b f a,o'=.cells b f a/\∀i,(∃v,c[i]?=some v/\(v=.tuple #[]\/∃c,v=.agg c))->nX w r i/\b[i]?=w'.cell? ⟨d,i,none⟩
def vW.hol{w w':World}{r a:Nat}{o o':Obj}(h:vW o):Hol w w' r a o o':=λc t b e=>absurd e (h c t b)
def lG{ρ:Ren}{w w':World}(j:ρ.bw G)(k:WR G F K ρ w w')(l:w.tape=w'.tape)(hd:w.drawn=w'.drawn){r f:Nat}(g:ρ r f){o o':Obj}(m:OR F K ρ o o'){new:Array Event}(n:∀e∈new,Ls ρ e)(p:Hol w w' r f o o') :
 cE G F K ρ w w' ρ { w with heap:=w.heap.setIfInBounds r o } { w' with heap:=w'.heap.setIfInBounds f o' } new:=
 ⟨Ren.le_refl _,j,k.put j g m,l,hd,rfl,rfl,rfl,by simp,by simp,λb _ q=>by
   have:f≠b:=λe=>q r (e▸g);simp[cc this],
   λb E s=>by simp at s;omega,λ_ _ h=>.inl h,n,λa b x i d=>by
    unfold nX at d;rw[wJ]at d;by_cases e:r=a
    ·subst e;obtain rfl:=j.fn g x;obtain⟨u,v⟩:=k.lt g;rw[if_pos ⟨rfl,u⟩]at d
     cases o with
     |cells c t z=>
      obtain⟨H,I,A,rfl,hc⟩:=p c t z rfl;obtain⟨B,C⟩:=hc i d;refine⟨B,?_⟩;rw[wJ,if_pos ⟨rfl,v⟩];exact C
     |_=>obtain⟨_,d,_⟩:=d;cases d
    ·rw[if_neg λh=>e h.1]at d;have D:f≠b:=λy=>e (j.inj g (y▸x));refine⟨d,?_⟩
     rw[wJ,if_neg λh=>D h.1]⟩
def CQ{ρ:Ren}{w w':World}(e:ρ.bw G)(c:WR G F K ρ w w')(f:w.tape=w'.tape)(hd:w.drawn=w'.drawn){o o':Obj}(g:OR F K ρ o o') :
 cE G F K ρ w w' (ρ.ext w.heap.size w'.heap.size) { w with heap:=w.heap.push o } { w' with heap:=w'.heap.push o' } #[]:=
 ⟨Ren.kW _ _ _,e.ext c.fresh.1 c.fresh.2 c.pK c.gN,c.push (g.mono (Ren.kW _ _ _)),f,hd,rfl,rfl,rfl,by simp,by simp,λb hb _=>by
   show(w'.heap.push o')[b]?=_;rw[ca hb,<-cb hb],
   λb m j=>⟨w.heap.size,.inr ⟨rfl,by simp at j;omega⟩⟩,λa b h=>by
    rcases h with h|⟨rfl,rfl⟩
    ·exact .inl h
    ·exact .inr ⟨bM _,bM _⟩,by simp,λa b x i d=>by
    obtain⟨k,l⟩:=c.lt x;unfold nX at d;rw[tQ _ _ _ _ k]at d
    exact⟨d,tQ _ _ _ _ l⟩⟩
def CR{w w':World}{a a':Addr}{c c':Array Value}{t d:ac}{f fz':Nat×Nat}(g:w.heap[a.block]?=some (.cells c t f))(h:w'.heap[a'.block]?=some (.cells c' d fz'))(v v':Value)(j:∀c,v≠.agg c)(k:∀c,v≠.tuple c) :
 Hol w w' a.block a'.block (.cells (c.setIfInBounds a.off v) t f) (.cells (c'.setIfInBounds a.off v') d fz'):=by
 rintro _ _ _ e;cases e;refine⟨_,_,_,rfl,λi hi=>?_⟩;by_cases e:a.off=i
 ·subst e;rw[Array.getElem?_setIfInBounds_self]at hi;obtain⟨u,hi,b⟩:=hi
  split at hi
  ·injection hi with hi
   subst hi
   rcases b with b|⟨_,b⟩
   ·exact absurd b (k _)
   ·exact absurd b (j _)
  ·cases hi
 ·rw[cc e]at hi ⊢;refine⟨?_,?_⟩
  ·obtain⟨u,hi,b⟩:=hi;refine⟨u,?_,b⟩;show(match w.heap[a.block]? with|some (.cells c _ _)=>_|_=>none)=_;rw[g];exact hi
  ·show _=(match w'.heap[a'.block]? with|some (.cells c _ _)=>_|_=>none)
   rw[h];rfl
def IY{w w':World}{a a':Addr}{c c':Array Value}{t b:ac}{d fz':Nat×Nat}(f:w.heap[a.block]?=some (.cells c t d))(g:w'.heap[a'.block]?=some (.cells c' b fz'))(u h:Nat×Nat) :
 Hol w w' a.block a'.block (.cells c t u) (.cells c' b h):=by
 rintro _ _ _ e;cases e;refine⟨_,_,_,rfl,λi hi=>⟨?_,?_⟩⟩
 ·obtain⟨u,hi,j⟩:=hi;refine⟨u,?_,j⟩;show(match w.heap[a.block]? with|some (.cells c _ _)=>_|_=>none)=_;rw[f];exact hi
 ·show _=(match w'.heap[a'.block]? with|some (.cells c _ _)=>_|_=>none)
  rw[g];rfl
def bW.Tu{a b:Type}{RA:Ren->a->b->Prop}{ρ:Ren}{w w':World}{f:Array Event}{g:ae b×Array Event}{s:Sem a}(h:bW T fB s):mL G F K RA ρ w w' f g (s.run ⟨T,fB⟩ w):=by
 obtain⟨x,c,e⟩:=h.run w;have d:=e w.tape w.drawn;rw[show w.re w.tape w.drawn=w from rfl]at d;rw[d]
 cases x with
 |stuck _=>trivial
 |unsupported u=>exact c
 |_=>exact c.elim
def av.run{R S:Type}{RA:Ren->R->S->Prop}{s:Sem R}:∀{ρ:Ren}{s':Sem S}{w w':World}(d:Array Event),av T fB fA F K RA ρ s s'->ρ.bw T.globals.size->WR T.globals.size F K ρ w w'->w.tape=w'.tape->w.drawn=w'.drawn->
 mL T.globals.size F K RA ρ w w' d (s'.runT ⟨T,fA⟩ w' d) (s.run ⟨T,fB⟩ w):=by
 induction s with
 |pure a=>
  rintro ρ s' w w' d⟨z,rfl,h⟩g b f hd;exact⟨ρ,z,w',#[],by simp[cx],cE.refl g b f hd,h⟩
 |halt h=>
  intro ρ s' w w' d hs g b f hd;cases h<;>first|exact hs|trivial|(obtain⟨v',rfl,hv⟩:=hs;exact⟨ρ,v',w',#[],by simp[cx],cE.refl g b f hd,hv⟩)
 |load m a k j=>
  rintro ρ s' w w' d⟨m',z,k',rfl,rfl,rfl,x,l⟩g b f hd
  rcases lF (T:=T) (fB:=fB) b x with⟨E,s,J⟩|⟨v,v',c,U,t,y,E,J,hv,_⟩
  ·simp only[cB,E,J];trivial
  ·simp only[cB,E,cx,J];show mL T.globals.size F K RA ρ w w' d ((k' v').runT ⟨T,fA⟩ w' (d.push ⟨.cell z,false,false⟩)) _;exact mL.step (FP g b f hd (e:=⟨.cell z,false,false⟩) ⟨rfl,_,x.1⟩) (by simpa using j v (d.push _) (l v v' hv) g b f hd)
 |store m a v k j=>
  rintro ρ s' w w' d⟨m',z,v',k',rfl,rfl,rfl,x,hv,l⟩g b f hd;have key:(∀c,v≠.agg c)->(∀c,v≠.tuple c)->(∀c,v'≠.agg c)->(∀c,v'≠.tuple c)->
   mL T.globals.size F K RA ρ w w' d ((cv .plain z v' k').runT ⟨T,fA⟩ w' d) ((cv .plain a v k).run ⟨T,fB⟩ w):=by
   intro O L Q n4;rw[run_store _ _ _ _ O L,qR _ _ _ _ _ Q n4]
   rcases lF (T:=T) (fB:=fB) b x with⟨E,_⟩|⟨u,u',c,U,t,y,E,J,hu,hs,V,W,hc⟩
   ·rw[E];obtain⟨o,A,B,H,C⟩:=b.obj x.1;have hf:w.farStore ⟨T,fB⟩ a v false=.error (w.noCell a "store: no such cell"):=by
     cases C<;>simp[World.farStore,B]
    simp only[hf,mM B C];trivial
   ·have fR:z.spot=none:=by rw[<-x.2.2];exact hs
    rw[E,J];simp only[<-wI b x]
    split
    ·show dw (.unsafePointer _)=true;rfl
    ·rw[setCell_eq w a _ V hs,setCell_eq w' z _ W fR,<-x.2.1];have X:=lG g b f hd x.1 (.cells t y (VA.set hc a.off hv)) (new:=#[⟨.cell z,true,false⟩]) (λe M=>by simp at M;subst M;exact⟨rfl,_,x.1⟩) (CR V W v v' O L);exact mL.step X (by simpa using j (d.push ⟨.cell z,true,false⟩) l g X.wr f hd)
  cases hv<;>first|trivial|exact key (by simp) (by simp) (by simp) (by simp)
 |new o k j=>
  rintro ρ s' w w' d⟨A,k',rfl,C,l⟩g b f hd;simp only[cB,cx];have hs:=CQ g b f hd C;exact mL.step hs (by simpa using j w.heap.size d (l _ _ b.fresh.1 b.fresh.2 b.pK b.gN) hs.inj hs.wr f hd)
 |shape r k j=>
  rintro ρ s' w w' d(⟨D,k',rfl,I,l⟩|h)g b f hd
  ·simp only[cB,cx,<-Lu b I];exact j _ d (l _) g b f hd
  ·exact bW.Tu (s:=.shape r k) h
 |freeze a n k j=>
  rintro ρ s' w w' d⟨z,k',rfl,x,l⟩g b f hd;simp only[cB,cx];by_cases P:n=0
  ·subst P;have e1:w.freeze a 0=w:=by simp[co]
   have N:w'.freeze z 0=w':=by simp[co]
   rw[e1,N];exact j d l g b f hd
  obtain⟨o,A,B,H,C⟩:=b.obj x.1;have idle:∀{w:World}{a:Addr}{o:Obj},w.heap[a.block]?=some o->(∀c t y,o≠.cells c t y)->w.freeze a n=w:=by
   intro w a o h bu;unfold co;rw[if_neg P];obtain⟨heap,_,_,_,_⟩:=w;congr 1;apply cd;intro i;rw[ce]
   split
   ·rename_i e;subst e;show Option.map _ heap[a.block]?=heap[a.block]?;have h':heap[a.block]?=some o:=h;rw[h'];cases o<;>first|rfl|exact absurd rfl (bu _ _ _)
   ·rfl
  cases C with
  |@cells c U t y hc=>
   obtain⟨Y,hi⟩:=y;rw[iz w a n P B,iz w' z n P H,<-x.2.1];have hs:=lG g b f hd x.1 (.cells t (if Y==hi then(a.off,a.off+n) else(min Y a.off,max hi (a.off+n))) hc) (new:=#[]) (by simp) (IY B H _ _);exact mL.step hs (by simpa using j d l g hs.wr f hd)
  |_=>
   rw[idle B (by simp),idle H (by simp)];exact j d l g b f hd
 |frozen a k j=>
  rintro ρ s' w w' d(⟨z,k',rfl,x,l⟩|h)g b f hd
  ·simp only[cB,cx,<-wI b x];exact j _ d (l _) g b f hd
  ·exact bW.Tu (s:=.frozen a k) h
 |getObj r k j=>
  rintro ρ s' w w' d⟨D,k',rfl,I,l⟩g b f hd;obtain⟨o,A,B,H,C⟩:=b.obj I;have key:(∀c t y,o≠.cells c t y)->(∀c t y,A≠.cells c t y)->A.isChan=false->
   mL T.globals.size F K RA ρ w w' d ((cC D k').runT ⟨T,fA⟩ w' d) ((cC r k).run ⟨T,fB⟩ w):=by
   intro O L Q;have e1:(cC r k).run ⟨T,fB⟩ w=(k o).run ⟨T,fB⟩ w:=by
    simp only[cB,B]
   have N:(cC D k').runT ⟨T,fA⟩ w' d=(k' A).runT ⟨T,fA⟩ w' (d.push ⟨.obj D,false,false⟩):=by
    simp only[cx,H];cases A<;>first|rfl|exact absurd rfl (L _ _ _)|(simp only[Q])
   rw[e1,N];exact mL.step (FP g b f hd (e:=⟨.obj D,false,false⟩) ⟨rfl,_,I⟩) (by simpa using j o (d.push _) (l o A C) g b f hd)
  cases C with
  |cells t y hc=>simp only[cB,B];trivial
  |_=>exact key (by simp) (by simp) rfl
 |setObj r o k j=>
  rintro ρ s' w w' d⟨D,A,k',rfl,I,⟨C,N8⟩,l⟩g b f hd;obtain⟨p,p',B,H,hp⟩:=b.obj I;have uQ:A.isChan=false:=by cases C<;>rfl
  have key:(∀c t y,p≠.cells c t y)->(∀c t y,p'≠.cells c t y)->
   mL T.globals.size F K RA ρ w w' d ((cQ D A k').runT ⟨T,fA⟩ w' d) ((cQ r o k).run ⟨T,fB⟩ w):=by
   intro O L;have e1:(cQ r o k).run ⟨T,fB⟩ w=k.run ⟨T,fB⟩ { w with heap:=w.heap.setIfInBounds r o }:=by
    simp only[cB,B]
   have N:(cQ D A k').runT ⟨T,fA⟩ w' d=k'.runT ⟨T,fA⟩ { w' with heap:=w'.heap.setIfInBounds D A } (d.push ⟨.obj D,true,false⟩):=by
    simp only[cx,H,uQ]
   rw[e1,N];have hs:=lG g b f hd I C (new:=#[⟨.obj D,true,false⟩]) (λe M=>by simp at M;subst M;exact⟨rfl,_,I⟩) N8.hol;exact mL.step hs (by simpa using j (d.push _) l g hs.wr f hd)
  cases hp with
  |cells t y hc=>simp only[cB,B];trivial
  |_=>exact key (by simp) (by simp)
 |choose q k j=>
  rintro ρ s' w w' d⟨k',rfl,l⟩g b f hd;simp only[cB,cx]
  split
  ·exact j _ d (l _) g b f hd
  ·rw[<-f,<-hd];have Z:WR T.globals.size F K ρ { w with drawn:=w.drawn+1 } { w' with drawn:=w.drawn+1 }:=⟨b.pK,b.gN,b.obj⟩
   have hs:cE T.globals.size F K ρ w w' ρ { w with drawn:=w.drawn+1 } { w' with drawn:=w.drawn+1 } #[]:=
    ⟨Ren.le_refl _,g,Z,f,rfl,rfl,rfl,rfl,bM _,bM _,λ_ _ _=>rfl,λ_ E J=>absurd J (Nat.not_lt.2 E),λ_ _ h=>.inl h,by simp,λ_ _ _ _ h=>⟨h,rfl⟩⟩
   have:=j (q.cut (w.tape w.drawn q)) d (l _) g Z f rfl;exact mL.step hs (by simpa[f]using this)
 |sys c k j=>intro ρ s' w w' d h;exact h.elim
 |program k j=>
  rintro ρ s' w w' d(⟨k',rfl,l⟩|CS)g b f hd
  ·simp only[cB,cx];exact j _ d l g b f hd
  ·exact bW.Tu (s:=.program k) CS
 |mark m k j=>
  rintro ρ s' w w' d(⟨k',rfl,hm,l⟩|h)g b f hd
  ·simp only[cB,cx];exact mL.step (FP g b f hd (e:=⟨.mark m,false,true⟩) hm) (by simpa using j (d.push _) l g b f hd)
  ·exact bW.Tu (s:=.mark m k) h
end
section
variable {T:ai}{fB fA:Array Func}{F:aa->Bool}{K:Code->Bool}{ρ σ:Ren}
abbrev RV(F:aa->Bool):Ren->Value->Value->Prop:=λρ v v'=>VR F ρ v v'
abbrev fF{b:Type}:Ren->b->b->Prop:=λ_ a c=>a=c
abbrev RVA(F:aa->Bool):Ren->Array Value->Array Value->Prop:=λρ a b=>VA F ρ a b
abbrev RA_:Ren->Addr->Addr->Prop:=λρ a b=>AR ρ a b
def ah{b c:Type}{R:Ren->b->c->Prop}{a:b}{a':c}(h:R ρ a a'):av T fB fA F K R ρ (pure a) (pure a'):=⟨a',rfl,h⟩
def af{b c d e:Type}{RA:Ren->b->c->Prop}{g:Ren->d->e->Prop}{s:Sem b}{s':Sem c}{f:b->Sem d}{f':c->Sem e}(i:ρ.bw T.globals.size)(h:av T fB fA F K RA ρ s s')
 (hf:∀σ:Ren,ρ.le σ->σ.bw T.globals.size->∀a a',RA σ a a'->av T fB fA F K g σ (f a) (f' a')):av T fB fA F K g ρ (s >>= f) (s' >>= f'):=av.bind i h hf
def ak{a b:Type}{R:Ren->a->b->Prop}{m:String}{s':Sem b}:av T fB fA F K R ρ (stuck m:Sem a) s':=trivial
def aA{a b:Type}{R:Ren->a->b->Prop}{u:ao}{s':Sem b}(c:dw u=true:=by rfl):av T fB fA F K R ρ (aq u:Sem a) s':=c
def bz{a b c:Type}{R:Ren->b->c->Prop}{m:String}{f:a->Sem b}{s':Sem c}:av T fB fA F K R ρ ((stuck m:Sem a) >>= f) s':=trivial
def aM{a b c:Type}{R:Ren->b->c->Prop}{u:ao}{f:a->Sem b}{s':Sem c}(d:dw u=true:=by rfl):av T fB fA F K R ρ ((aq u:Sem a) >>= f) s':=d
def IZ{a a':Addr}(h:AR ρ a a'):av T fB fA F K (RV F) ρ (load a) (load a'):=⟨_,_,_,rfl,rfl,rfl,h,λ_ v' hv=>⟨v',rfl,hv⟩⟩
def N9{a a':Addr}(h:AR ρ a a'){v v':Value}(hv:VR F ρ v v'):av T fB fA F K fF ρ (store a v) (store a' v'):=⟨_,_,_,_,rfl,rfl,rfl,h,hv,(),rfl,rfl⟩
def jO{o o':Obj}(h:OR F K ρ o o'):av T fB fA F K (λσ r a=>σ r a) ρ (newObj o) (newObj o'):=⟨_,_,rfl,h,λ_ a _ _ _ _=>⟨a,rfl,Ren.IW _ _ _⟩⟩
def jS{r a:Nat}(h:ρ r a):av T fB fA F K fF ρ (shape r) (shape a):=.inl ⟨_,_,rfl,h,λx=>⟨x,rfl,rfl⟩⟩
def pL{a a':Addr}(h:AR ρ a a'):av T fB fA F K fF ρ (frozen a) (frozen a'):=.inl ⟨_,_,rfl,h,λx=>⟨x,rfl,rfl⟩⟩
def dA{r a:Nat}(h:ρ r a):av T fB fA F K (λσ o o'=>OR F K σ o o') ρ (getObj r) (getObj a):=⟨_,_,rfl,h,λ_ o' b=>⟨o',rfl,b⟩⟩
def dV{r a:Nat}(h:ρ r a){o o':Obj}(b:OR F K ρ o o')(c:vW o:=by intro _ _ _ h;cases h):av T fB fA F K fF ρ (setObj r o) (setObj a o'):=⟨_,_,_,rfl,h,⟨b,c⟩,(),rfl,rfl⟩
def lH(q:ad):av T fB fA F K fF ρ (ar q) (ar q):=⟨_,rfl,λn=>⟨n,rfl,rfl⟩⟩
def bI{a b:Type}{R:Ren->a->b->Prop}{f:ap->Sem a}{f':ap->Sem b}(h:av T fB fA F K R ρ (f ⟨T,fB⟩) (f' ⟨T,fA⟩)):av T fB fA F K R ρ (aw >>= f) (aw >>= f'):=.inl ⟨_,rfl,h⟩
def Lv:av T fB fA F K fF ρ (mark .noRoom) (mark .noRoom):=.inl ⟨_,rfl,rfl,(),rfl,rfl⟩
def FQ(n:Nat):av T fB fA F K fF ρ (aB n) (aB n):=by
 unfold aB
 split
 ·exact Lv
 ·exact ah rfl
def aN{a b:Type}{R:Ren->a->b->Prop}{c:Prop}[Decidable c]{s t:Sem a}{s' d:Sem b}(e:c->av T fB fA F K R ρ s s')(f:¬c->av T fB fA F K R ρ t d):av T fB fA F K R ρ (if c then s else t) (if c then s' else d):=by
 split
 ·exact e ‹_›
 ·exact f ‹_›
def rT{a b:Type}{R:Ren->a->b->Prop}{v v':Value}(h:VR F ρ v v'):av T fB fA F K R ρ (goPanic v:Sem a) (goPanic v':Sem b):=⟨v',rfl,h⟩
def ee(t:ac):av T fB fA F K fF ρ (aF t) (aF t):=by
 unfold aF;refine bI ?_;show(av T fB fA F K) fF ρ (match T.info? t with|some i=>pure i|none=>stuck "no such type") (match T.info? t with|some i=>pure i|none=>stuck "no such type")
 cases T.info? t with
 |none=>exact ak
 |some i=>exact ah rfl
def bk(t:ac):av T fB fA F K fF ρ (aH t) (aH t):=by
 unfold aH;refine bI ?_;show(av T fB fA F K) fF ρ (match(c5 T fB).underlying t with|some i=>pure i|none=>stuck "no such type") (match(c5 T fB).underlying t with|some i=>pure i|none=>stuck "no such type")
 cases(c5 T fB).underlying t with
 |none=>exact ak
 |some i=>exact ah rfl
def bN(b:ρ.bw T.globals.size)(t:ac):av T fB fA F K fF ρ (aL t) (aL t):=af b (ee t) λ_ _ _ a c h=>ah (by rw[h])
def CU(b:ρ.bw T.globals.size)(t:ac):av T fB fA F K fF ρ (isAgg t) (isAgg t):=by
 refine af b (bk t) λσ _ _ a c h=>?_;subst h
 split<;>exact ah rfl
def dM(T:ai)(F:aa->Bool)(Z:ac->Bool):Prop:=(∀t i v,Z t=true->T.info? t=some i->i.zero=some v->VR F (λ_ _=>False) v v)/\∀i,T.info? 0=some i->i.methods.find? (·.name == "")=none
def VR.closed{v:Value}(h:VR F (λ_ _=>False) v v)(ρ:Ren):VR F ρ v v:=h.mono λ_ _ x=>x.elim
def gO{Z:ac->Bool}(b:dM T F Z)(c:ρ.bw T.globals.size){t:ac}(d:Z t=true):av T fB fA F K (λσ v v'=>VR F σ v v'/\v=v') ρ (aS t) (aS t):=by
 unfold aS aF;show(av T fB fA F K) _ ρ ((aw >>= λp=>_) >>= _) _;refine af (RA:=λσ(i a:TypeInfo)=>i=a/\T.info? t=some i) c ?_ λσ _ _ i a h=>?_
 ·refine bI ?_;show(av T fB fA F K) _ ρ (match T.info? t with|some i=>pure i|none=>stuck "no such type") (match T.info? t with|some i=>pure i|none=>stuck "no such type")
  cases e:T.info? t with
  |none=>exact ak
  |some i=>exact ah ⟨rfl,rfl⟩
 ·obtain⟨rfl,hi⟩:=h
  cases hv:i.zero with
  |none=>simp only;exact aA
  |some v=>simp only;exact ah ⟨VR.closed (b.1 t i v d hi hv) σ,rfl⟩
def tR(f:ρ.bw T.globals.size){a a':Addr}(h:AR ρ a a')(n:Nat):∀(i:Nat){b d:Array Value},VA F ρ b d->av T fB fA F K (RVA F) ρ (a5 a i n b) (a5 a' i n d):=by
 induction n generalizing ρ with
 |zero=>intro i b d e;exact ah e
 |succ n g=>
  intro i b d e;exact af f (IZ (h.add i)) λσ c j v v' hv=>g j (h.mono c) (i+1) (VA.push (VA.mono c e) hv)
def rU(b:ρ.bw T.globals.size){a a':Addr}(h:AR ρ a a')(n:Nat):av T fB fA F K (RVA F) ρ (loadCells a n) (loadCells a' n):=tR b h n 0 VA.nil
def qD(d:ρ.bw T.globals.size){a a':Addr}(h:AR ρ a a'){vs c:List Value}(hv:cU F ρ vs c):∀i:Nat,av T fB fA F K fF ρ (storeCells a vs i) (storeCells a' c i):=by
 induction vs generalizing ρ c with
 |nil=>intro i;cases hv;exact ah rfl
 |cons v vs e=>
  intro i
  cases hv with
  |cons f g=>exact af d (N9 (h.add i) f) λσ b j _ _ _=>e j (h.mono b) (cU.mono b g) (i+1)
def wN(e:ρ.bw T.globals.size)(t:ac){a a':Addr}(h:AR ρ a a'):av T fB fA F K (RV F) ρ (loadVar t a) (loadVar t a'):=by
 refine af e (CU e t) λσ d f b b' hb=>?_;subst hb;refine aN (λ_=>?_) λ_=>IZ (h.mono d);refine af f (bN f t) λk i g n n' j=>?_;subst j;exact af g (rU g ((h.mono d).mono i) n) λ_ _ _ c l hc=>ah (VR.agg hc)
def CV(c:ρ.bw T.globals.size)(t:ac){a a':Addr}(h:AR ρ a a'){v v':Value}(hv:VR F ρ v v'):av T fB fA F K fF ρ (a6 t a v) (a6 t a' v'):=by
 unfold a6;refine af c (bN c t) λσ b d n n' e=>?_;subst e;have hs:=VA.size hv.cells;rw[hs]
 split
 ·exact bz
 ·exact qD d (h.mono b) (cU.mono b hv.cells) 0
def tS(a:ρ.bw T.globals.size)(t:ac){c c':Array Value}(h:VA F ρ c c'):av T fB fA F K RA_ ρ (newRow t c) (newRow t c'):=
 af a (jO (.cells t (0,0) h)) λ_ _ _ _ _ b=>ah ⟨b,rfl,rfl⟩
def zZ(a:ρ.bw T.globals.size)(t:ac){v v':Value}(h:VR F ρ v v'):av T fB fA F K RA_ ρ (newVar t v) (newVar t v'):=tS a t h.cells
def kI(f:ρ.bw T.globals.size)(t:ac){c c':Array Value}(h:VA F ρ c c')(off:Nat):av T fB fA F K (RV F) ρ (part t c off) (part t c' off):=by
 refine af f (CU f t) λσ a g b b' hb=>?_;subst hb;refine aN (λ_=>?_) λ_=>?_
 ·refine af g (bN g t) λk i l n n' j=>?_;subst j;exact ah (VR.agg (VA.extract (VA.mono i (VA.mono a h)) _ _))
 ·rcases VA.get? (VA.mono a h) off with⟨d,e⟩|⟨v,v',d,e,hv⟩
  ·rw[d,e];exact ak
  ·rw[d,e];exact ah hv
def jT{v v':Value}(h:VR F ρ v v'):av T fB fA F K fF ρ (asIntOf v) (asIntOf v'):=by
 cases h<;>first|exact ah rfl|exact ak|exact aA
def Oa(b:ρ.bw T.globals.size){v v':Value}(h:VR F ρ v v'):av T fB fA F K fF ρ (asInt v) (asInt v'):=af b (jT h) λ_ _ _ a c e=>ah (by rw[e])
def tU{v v':Value}(h:VR F ρ v v'):av T fB fA F K fF ρ (asBool v) (asBool v'):=by
 cases h<;>first|exact ah rfl|exact ak
def Ob{v v':Value}(h:VR F ρ v v'):av T fB fA F K (RVA F) ρ (asAgg v) (asAgg v'):=by
 cases h<;>first|(rename_i h;exact ah h)|exact ak
def cX{a b:Type}{R:Ren->a->b->Prop}(m:String):av T fB fA F K R ρ (a7 (.error m):Sem a) (a7 (.error m):Sem b):=by
 unfold a7;exact bI (rT (.iface _ (.string _)))
def zv{a b:Type}{R:Ren->a->b->Prop}(m:String):av T fB fA F K R ρ (a7 (.plain m):Sem a) (a7 (.plain m):Sem b):=by
 unfold a7;exact bI (rT (.iface _ (.string _)))
def nY{a b:Type}{R:Ren->a->b->Prop}:av T fB fA F K R ρ (a7 .nilDeref:Sem a) (a7 .nilDeref:Sem b):=by
 unfold a7;exact bI (rT (.iface _ (.string _)))
def nZ{a b:Type}{R:Ren->a->b->Prop}(x y:Int)(s:Bool)(c:a8):av T fB fA F K R ρ (a7 (.bounds x y s c):Sem a) (a7 (.bounds x y s c):Sem b):=by
 unfold a7;exact bI (rT (.iface _ (.agg (.cons (.int _ _) (.cons (.int _ _) (.cons (.bool _) (.cons (.int _ _) .nil)))))))
def dW(d:ρ.bw T.globals.size){a b:Type}{R:Ren->a->b->Prop}(k:ab)(x y:Int)(c:a8):av T fB fA F K R ρ (a9 k x y c:Sem a) (a9 k x y c:Sem b):=by
 unfold a9;refine aN (λ_=>?_) λ_=>nZ _ _ _ _;exact⟨_,rfl,λn=>nZ _ _ _ _⟩
def z7{v v':Value}(h:VR F ρ v v'):av T fB fA F K RA_ ρ (asAddr v) (asAddr v'):=by
 cases h<;>first|exact nY|exact ak|(rename_i h;exact ah h)
def iV{v v':Value}(h:VR F ρ v v'):av T fB fA F K RA_ ρ (dk v) (dk v'):=by
 cases h<;>first|exact ak|(rename_i h;exact ah h)
def Oc{Z:ac->Bool}(c:dM T F Z)(a:ρ.bw T.globals.size){t:ac}(d:Z t=true):av T fB fA F K (RV F) ρ (dl t true (.tuple #[])) (dl t true (.tuple #[])):=by
 unfold dl;refine af a (gO c a d) λσ _ b z f h=>?_;exact af b (zZ b t h.1) λ_ _ _ _ _ e=>ah (.ptr e)
def XY(a:ρ.bw T.globals.size)(t:ac){v v':Value}(h:VR F ρ v v'):av T fB fA F K (RV F) ρ (dp t v) (dp t v'):=
 af a (zZ a t h) λ_ _ _ _ _ b=>ah (.ptr b)
def Lx(a:ρ.bw T.globals.size)(t:ac){v v':Value}(h:VR F ρ v v'):av T fB fA F K (RV F) ρ (dq t v) (dq t v'):=
 af a (iV h) λ_ _ b _ _ c=>wN b t c
def FR(c:ρ.bw T.globals.size)(t:ac){v v' x b:Value}(h:VR F ρ v v')(d:VR F ρ x b):av T fB fA F K fF ρ (dt t v x) (dt t v' b):=
 af c (iV h) λ_ a e _ _ f=>CV e t f (d.mono a)
inductive kX(F:aa->Bool)(ρ:Ren):List (Nat×Value)->List (Nat×Value)->Prop
 |nil:kX F ρ [] []
 |cons (i:Nat) {v v':Value} {l l':List (Nat×Value)} (h:VR F ρ v v') (t:kX F ρ l l'):kX F ρ ((i,v)::l) ((i,v')::l')
def kX.mono{l l':List (Nat×Value)}(h:ρ.le σ)(x:kX F ρ l l'):kX F σ l l':=by
 induction x with
 |nil=>exact .nil
 |cons i a _ b=>exact .cons i (a.mono h) b
def Od(off:Nat):∀{l l':List Value}{cs cs':Array Value}(j:Nat),cU F ρ l l'->VA F ρ cs cs'->
 VA F ρ ((l.zipIdx j).foldl (λcs(c,j)=>cs.setIfInBounds (off+j) c) cs) ((l'.zipIdx j).foldl (λcs(c,j)=>cs.setIfInBounds (off+j) c) cs'):=by
 intro l
 induction l with
 |nil=>intro l' cs cs' j h hc;cases h;exact hc
 |cons v l a=>
  intro l' cs cs' j h hc
  cases h with
  |cons b d=>simpa using a (j+1) d (VA.set hc (off+j) b)
def wO(place:Nat->Option (Nat×Nat)):∀{l l':List (Nat×Value)}{cs cs':Array Value},kX F ρ l l'->VA F ρ cs cs'->
 (du place cs l=none/\du place cs' l'=none)\/∃r a,du place cs l=some r/\du place cs' l'=some a/\VA F ρ r a:=by
 intro l
 induction l with
 |nil=>intro l' cs cs' h hc;cases h;exact .inr ⟨_,_,rfl,rfl,hc⟩
 |cons p l b=>
  intro l' cs cs' h hc
  cases h with
  |@cons i v v' _ l' hv t=>
   simp only[du]
   cases e:place i with
   |none=>exact .inl ⟨rfl,rfl⟩
   |some c=>
    obtain⟨off,size⟩:=c;simp only;rw[<-VA.size hv.cells,<-VA.size hc]
    split
    ·exact .inl ⟨rfl,rfl⟩
    ·refine b t ?_;have d:=Od (F:=F) (ρ:=ρ) off 0 hv.cells hc;rw[<-ch,<-ch,ci,ci];exact d
def FU{d i:Type}(e:ρ.bw T.globals.size){f f':d->Sem i}:∀(l:List d),(∀x∈l,∀σ:Ren,ρ.le σ->σ.bw T.globals.size->av T fB fA F K fF σ (f x) (f' x))->av T fB fA F K fF ρ (l.mapM f) (l.mapM f'):=by
 intro l
 induction l generalizing ρ with
 |nil=>intro _;simp only[List.mapM_nil];exact ah rfl
 |cons x l j=>
  intro h;simp only[List.mapM_cons];refine af e (h x (by simp) ρ (Ren.le_refl _) e) λσ c g a p k=>?_;refine af g (j g λy hy m n o=>h y (by simp[hy]) m (Ren.le_trans c n) o) λ_ _ _ b b' hb=>?_;exact ah (by rw[k,hb])
def CW{c d:Type}(g:ρ.bw T.globals.size){f f':c->Sem d}(l:Array c)(h:∀x∈l.toList,∀σ:Ren,ρ.le σ->σ.bw T.globals.size->av T fB fA F K fF σ (f x) (f' x)):av T fB fA F K fF ρ (l.mapM f) (l.mapM f'):=by
 rw[cl,cl];have:∀(s b:Sem (List d)),av T fB fA F K fF ρ s b->av T fB fA F K fF ρ (Functor.map bX s) (Functor.map bX b):=λs b h=>by
  rw[map_eq_pure_bind,map_eq_pure_bind];exact af g h λ_ _ _ a i e=>ah (by rw[e])
 exact this _ _ (FU g l.toList h)
end
section
variable (T:ai)(f g:Array Func)
def lI(d:Nat):ba ⟨T,f⟩ d=ba ⟨T,g⟩ d:=by
 induction d with
 |zero=>rfl
 |succ d a=>funext t off;simp only[ba,a];rfl
def tV(d:Nat):bb ⟨T,f⟩ d=bb ⟨T,g⟩ d:=by
 induction d with
 |zero=>rfl
 |succ d a=>funext t off;simp only[bb,a];rfl
def rV(d:Nat):bc ⟨T,f⟩ d=bc ⟨T,g⟩ d:=by
 funext e count off bytes;unfold bc;simp only[lI T f g,tV T f g];rfl
def kJ(d:Nat):c6 ⟨T,f⟩ d=c6 ⟨T,g⟩ d:=by
 induction d with
 |zero=>rfl
 |succ d a=>funext t;simp only[c6,a];rfl
def uR(d:Nat):c7 ⟨T,f⟩ d=c7 ⟨T,g⟩ d:=by
 induction d with
 |zero=>rfl
 |succ d a=>funext t u;simp only[c7,a]
def vD(t:ac):c8 ⟨T,f⟩ t=c8 ⟨T,g⟩ t:=by
 simp only[c8,uR T f g];try rfl
def rW(t:ac):c9 ⟨T,f⟩ t=c9 ⟨T,g⟩ t:=by
 simp only[c9,vD T f g];try rfl
def wP(t:ac):da ⟨T,f⟩ t=da ⟨T,g⟩ t:=by
 simp only[da,uR T f g];try rfl
def Bb(t:ac):db ⟨T,f⟩ t=db ⟨T,g⟩ t:=by
 simp only[db,wP T f g]
def rX(d:Nat):dd ⟨T,f⟩ d=dd ⟨T,g⟩ d:=by
 induction d with
 |zero=>rfl
 |succ d a=>funext t;simp only[dd,a,Bb T f g];rfl
end
section
variable {T:ai}{fB fA:Array Func}{F:aa->Bool}{K:Code->Bool}{ρ σ:Ren}
def Oe{Z:ac->Bool}(v:dM T F Z)(c:ρ.bw T.globals.size){t:ac}(w:Z t=true){ps f:Array (Nat×Value)}(h:kX F ρ ps.toList f.toList):av T fB fA F K (RV F) ρ (dv t ps) (dv t f):=by
 unfold dv;refine af c (gO v c w) λσ m y z H A=>?_;refine af y (bk t) λI q l d J hd=>?_;subst hd;have u:=h.mono (Ren.le_trans m q);have g:=VR.cells (A.1.mono q)
 cases d with
 |struct fields=>
  refine af l (CW l fields λx _ σ _ c=>af c (bN c x.type) λ_ _ _ a L e=>ah (by rw[e])) λo j _ B C D=>?_;subst D
  rcases wO (F:=F) (ρ:=o) (B[·]?) (u.mono j) (VA.mono j g) with⟨b,k⟩|⟨r,E,b,k,p⟩
  ·simp only[b];exact ak
  ·simp only[b,k];exact ah (.agg p)
 |array n elem=>
  refine af l (bN l elem) λo j _ s M hs=>?_;subst hs
  rcases wO (F:=F) (ρ:=o) (λi=>some (i*s,s)) (u.mono j) (VA.mono j g) with⟨b,k⟩|⟨r,E,b,k,p⟩
  ·simp only[b];exact ak
  ·simp only[b,k];exact ah (.agg p)
 |_=>exact ak
def z8(d:ρ.bw T.globals.size){r c:Nat}(h:ρ r c):av T fB fA F K (λ_ a a'=>a=none/\a'=none) ρ (viewAt r) (viewAt c):=by
 unfold viewAt;refine af d (jS h) λσ b f x i e=>?_;subst e;refine aN (λ_=>ah ⟨rfl,rfl⟩) λ_=>?_;refine af f (dA (b h)) λ_ _ _ o j g=>?_;cases g<;>exact ah ⟨rfl,rfl⟩
def tX(b:ρ.bw T.globals.size){a a':Addr}(h:AR ρ a a'):av T fB fA F K fF ρ (bd a) (bd a'):=by
 unfold bd;refine af b (z8 b h.1) λσ c d x f e=>?_;obtain⟨rfl,rfl⟩:=e;exact ah rfl
def uS(f:ρ.bw T.globals.size){r d:Nat}(h:ρ r d) :
 av T fB fA F K (λσ x b=>(x=none/\b=none)\/∃a a' l,x=some (a,l)/\b=some (a',l)/\AR σ a a') ρ (bg r) (bg d):=by
 unfold bg;refine af f (jS h) λσ c g x b e=>?_;subst e;refine aN (λ_=>ah (.inl ⟨rfl,rfl⟩)) λ_=>?_;refine af g (dA (c h)) λ_ _ _ o j i=>?_
 cases i with
 |number l a=>exact ah (.inr ⟨_,_,l,rfl,rfl,a⟩)
 |_=>exact ah (.inl ⟨rfl,rfl⟩)
def gC(f:ρ.bw T.globals.size){a a':Addr}(h:AR ρ a a'):av T fB fA F K (λσ x c=>AR σ x.1 c.1/\x.2=c.2) ρ (bi a) (bi a'):=by
 unfold bi;refine af f (uS f h.1) λσ d g x c e=>?_
 rcases e with⟨rfl,rfl⟩|⟨b,b',l,rfl,rfl,hb⟩
 ·exact ah ⟨h.mono d,rfl⟩
 ·exact ah ⟨hb,rfl⟩
def iA(d:ρ.bw T.globals.size){a a':Addr}(h:AR ρ a a'):av T fB fA F K fF ρ (byteOf a) (byteOf a'):=by
 unfold byteOf;obtain⟨f,g,i⟩:=h;rw[<-i]
 cases hs:a.spot with
 |some s=>exact ah rfl
 |none=>
  refine bI ?_;refine af d (tX d ⟨f,g,i⟩) λσ c k _ _ _=>?_;refine af k (jS (c f)) λj m o x p e=>?_;subst e
  cases x with
  |none=>exact ak
  |some l=>
   obtain⟨e,n⟩:=l;simp only[<-g,lI T fA fB];show(av T fB fA F K) fF j (if(de ⟨T,fB⟩ e)=0 then _ else _) (if(de ⟨T,fB⟩ e)=0 then _ else _);refine aN (λ_=>ah rfl) λ_=>?_;show(av T fB fA F K) fF j (match ba ⟨T,fB⟩ (df ⟨T,fB⟩) e (a.off % de ⟨T,fB⟩ e) with|some b=>_|_=>_) (match ba ⟨T,fB⟩ (df ⟨T,fB⟩) e (a.off % de ⟨T,fB⟩ e) with|some b=>_|_=>_)
   cases ba ⟨T,fB⟩ (df ⟨T,fB⟩) e (a.off % de ⟨T,fB⟩ e) with
   |none=>exact ak
   |some b=>exact ah rfl
def Ly(f:ρ.bw T.globals.size){a a':Addr}(h:AR ρ a a')(c b:Nat):av T fB fA F K RA_ ρ (partAt a c b) (partAt a' c b):=by
 unfold partAt;refine af f (iA f h) λσ d g x k e=>?_;subst e;have i:AR σ { block:=a.block,off:=a.off+c } { block:=a'.block,off:=a'.off+c }:=⟨d h.1,by show a.off+c=a'.off+c;rw[h.2.1],rfl⟩
 refine af g (iA g i) λl j _ y y' e=>?_;subst e;refine ah ?_
 split
 ·exact i.mono j
 ·exact⟨j (d h.1),by show a.off+c=a'.off+c;rw[h.2.1],rfl⟩
def zx(c:ρ.bw T.globals.size){a a':Addr}(h:AR ρ a a')(f:Field):av T fB fA F K RA_ ρ (bj a f) (bj a' f):=by
 unfold bj;refine af c (bN c f.type) λσ b d n n' e=>?_;subst e;exact aN (λ_=>Ly d (h.mono b) _ _) λ_=>ah ((h.mono b).add _)
def FV(g:ρ.bw T.globals.size)(s:ac){v v':Value}(h:VR F ρ v v')(i:Nat):av T fB fA F K (RV F) ρ (dx s v i) (dx s v' i):=by
 unfold dx;refine af g (bk s) λσ b j d l e=>?_;subst e
 cases d with
 |struct fields=>
  simp only
  cases fields[i]? with
  |none=>exact ak
  |some f=>
   simp only;refine af j (iV (h.mono b)) λm n c a o k=>?_;exact af c (zx c k f) λ_ _ _ _ _ hb=>ah (.ptr hb)
 |_=>exact ak
def Of(b:ρ.bw T.globals.size)(s:ac){v v':Value}(h:VR F ρ v v')(i:Nat):av T fB fA F K (RV F) ρ (dy s v i) (dy s v' i):=by
 unfold dy;refine af b (bk s) λσ a c d j e=>?_;subst e
 cases d with
 |struct fields=>
  simp only
  cases fields[i]? with
  |none=>exact ak
  |some f=>exact af c (Ob (h.mono a)) λk _ g _ _ hc=>kI g f.type hc f.offset
 |_=>exact ak
def Og(g:ρ.bw T.globals.size)(t:ac){v v' x f:Value}(h:VR F ρ v v')(j:VR F ρ x f):av T fB fA F K (RV F) ρ (dz t v x) (dz t v' f):=by
 unfold dz;refine af g (jT j) λσ c l o p e=>?_;subst e;obtain⟨k,i⟩:=o;refine af l (bk t) λw q a d y e=>?_;subst e;have hv:=h.mono (Ren.le_trans c q)
 cases d with
 |array n elem=>
  cases hv with
  |agg hc=>
   refine aN (λ_=>?_) λ_=>dW a _ _ _ _;refine af a (bN a elem) λz r u m m' e=>?_;subst e;exact kI u elem (VA.mono r hc) _
  |_=>exact ak
 |string=>
  cases hv with
  |string s=>
   simp only
   cases(if 0<=i then s[i.toNat]? else none) with
   |none=>exact dW a _ _ _ _
   |some b=>exact ah (.int _ _)
  |_=>exact ak
 |_=>exact ak
def FW(z:ρ.bw T.globals.size)(t:ac){v v' x y:Value}(h:VR F ρ v v')(A:VR F ρ x y):av T fB fA F K (RV F) ρ (dB t v x) (dB t v' y):=by
 unfold dB;refine af z (jT A) λσ s B C E e=>?_;subst e;obtain⟨k,i⟩:=C;refine af B (bk t) λu H o d M e=>?_;subst e;have hv:=h.mono (Ren.le_trans s H);have b:∀(g:Ren)(p:g.bw T.globals.size)(base q:Option Addr)(len:Nat)(elem:ac),
  (base=none/\q=none)\/(∃a j,base=some a/\q=some j/\(AR g a j\/len=0))->av T fB fA F K (RV F) g
  (do
    let w:=len<=1&&(match<-aH t with | .array ..=>true|_=>false)
    match base with
    |some a=>if 0<=i/\i<len then pure (.pointer (some (a.add (i.toNat*(<-aL elem))))) else if w then aq (.noEntry "op/indexAddr.an index out of range at an array of length 0 or 1 (ledger 616)") else a9 k i len .index
    |none=>a9 k i 0 .index)
  (do
    let w:=len<=1&&(match<-aH t with | .array ..=>true|_=>false)
    match q with
    |some a=>if 0<=i/\i<len then pure (.pointer (some (a.add (i.toNat*(<-aL elem))))) else if w then aq (.noEntry "op/indexAddr.an index out of range at an array of length 0 or 1 (ledger 616)") else a9 k i len .index
    |none=>a9 k i 0 .index):=by
  intro g p base q len elem hb;refine af p (bk t) λN I r O J e=>?_;subst e
  rcases hb with⟨rfl,rfl⟩|⟨a,j,rfl,rfl,f⟩
  ·exact dW r _ _ _ _
  ·refine aN (λhb=>?_) λ_=>aN (λ_=>aA) λ_=>dW r _ _ _ _
   rcases f with f|rfl
   rotate_left
   ·exact absurd hb (by simp)
   refine af r (bN r elem) λP L _ m m' e=>?_;subst e;exact ah (.ptr (((f.mono I).mono L).add _))
 cases d with
 |array n elem=>
  exact af o (iV hv) λg _ p a j f=>b g p (some a) (some j) n elem (.inr ⟨_,_,rfl,rfl,.inl f⟩)
 |slice elem=>
  cases hv with
  |di l c=>exact b u o none none l elem (.inl ⟨rfl,rfl⟩)
  |slice l c f=>exact b u o _ _ l elem (.inr ⟨_,_,rfl,rfl,.inl f⟩)
  |dK D a=>exact b u o _ _ 0 elem (.inr ⟨_,_,rfl,rfl,.inr rfl⟩)
  |_=>exact bz
 |_=>exact bz
def FX{v v':Value}(h:VR F ρ v v')(i:Nat):av T fB fA F K (RV F) ρ (dC v i) (dC v' i):=by
 unfold dC
 cases h with
 |tuple hc=>
  rcases VA.get? hc i with⟨a,b⟩|⟨v,v',a,b,hv⟩
  ·simp only[a];exact ak
  ·simp only[a,b];exact ah hv
 |_=>exact ak
def iQ(b:ρ.bw T.globals.size){x a:Value}(h:VR F ρ x a)(y:Nat)(c:a8):av T fB fA F K fF ρ (dO x y c) (dO a y c):=by
 unfold dO;refine af b (jT h) λσ _ d g f e=>?_;subst e;exact aN (λ_=>ah rfl) λ_=>dW d _ _ _ _
inductive lJ(F:aa->Bool)(ρ:Ren):Option Value->Option Value->Prop
 |none:lJ F ρ none none
 |some {v v':Value} (h:VR F ρ v v'):lJ F ρ (some v) (some v')
def lJ.mono(h:ρ.le σ){o o':Option Value}(x:lJ F ρ o o'):lJ F σ o o':=by
 cases x with
 |none=>exact .none
 |some a=>exact .some (a.mono h)
def eY(d:ρ.bw T.globals.size)(b:Bool)(len cap:Nat){l l' h p m m':Option Value}(hl:lJ F ρ l l')(q:lJ F ρ h p)(s:lJ F ρ m m') :
 av T fB fA F K fF ρ (dP b len cap l h m) (dP b len cap l' p m'):=by
 unfold dP;have k:∀(σ:Ren)(_:σ.bw T.globals.size)(H M:Nat)(l l':Option Value)(full:Bool),lJ F σ l l'->av T fB fA F K fF σ
  (do
    let n<-match l with
     |some v=>dO v H (if full then .slice3C else .sliceB)
     |none=>pure 0
    pure (n,H,M))
  (do
    let n<-match l' with
     |some v=>dO v H (if full then .slice3C else .sliceB)
     |none=>pure 0
    pure (n,H,M)):=by
  intro σ d H M l l' full hl
  cases hl with
  |none=>exact ah rfl
  |some hv=>exact af d (iQ d hv _ _) λ_ _ _ a u e=>ah (by rw[e])
 cases s with
 |none=>
  refine af (RA:=fF) d (ah rfl) λσ c f M t e=>?_;subst e
  cases q with
  |none=>
   refine af (RA:=fF) f (ah rfl) λg i j H r e=>?_;subst e;exact k g j _ _ _ _ false (hl.mono (Ren.le_trans c i))
  |some hv=>
   refine af (RA:=fF) f (iQ f (hv.mono c) _ _) λg i j H r e=>?_;subst e;exact k g j _ _ _ _ false (hl.mono (Ren.le_trans c i))
 |some o=>
  refine af (RA:=fF) d (iQ d o _ _) λσ c f M t e=>?_;subst e
  cases q with
  |none=>exact bz
  |some hv=>
   refine af (RA:=fF) f (iQ f (hv.mono c) _ _) λg i j H r e=>?_;subst e;exact k g j _ _ _ _ true (hl.mono (Ren.le_trans c i))
def gP(d:ρ.bw T.globals.size){x b:Value}(h:VR F ρ x b)(c:a8):av T fB fA F K (λ_ a a'=>a=0/\a'=0) ρ (dO x 0 c) (dO b 0 c):=by
 unfold dO;refine af d (jT h) λσ _ f g i e=>?_;subst e;refine aN (λh=>ah ?_) λ_=>dW f _ _ _ _;have:g.2.toNat=0:=by have:=h.2;simp at this;omega
 exact⟨this,this⟩
def vE(d:ρ.bw T.globals.size)(b:Bool){l l' h p m m':Option Value}(hl:lJ F ρ l l')(q:lJ F ρ h p)(s:lJ F ρ m m') :
 av T fB fA F K (λ_ a a'=>a=(0,0,0)/\a'=(0,0,0)) ρ (dP b 0 0 l h m) (dP b 0 0 l' p m'):=by
 unfold dP;have k:∀(σ:Ren)(_:σ.bw T.globals.size)(l l':Option Value)(full:Bool),lJ F σ l l'->av T fB fA F K (λ_ a a'=>a=(0,0,0)/\a'=(0,0,0)) σ
  (do
    let n<-match l with
     |some v=>dO v 0 (if full then .slice3C else .sliceB)
     |none=>pure 0
    pure (n,0,0))
  (do
    let n<-match l' with
     |some v=>dO v 0 (if full then .slice3C else .sliceB)
     |none=>pure 0
    pure (n,0,0)):=by
  intro σ d l l' full hl
  cases hl with
  |none=>exact ah ⟨rfl,rfl⟩
  |some hv=>exact af d (gP d hv _) λ_ _ _ a a' e=>ah (by obtain⟨rfl,rfl⟩:=e;exact⟨rfl,rfl⟩)
 cases s with
 |none=>
  refine af (RA:=λ_ a a'=>a=0/\a'=0) d (ah ⟨rfl,rfl⟩) λσ c f M t e=>?_;obtain⟨rfl,rfl⟩:=e
  cases q with
  |none=>
   refine af (RA:=λ_ a a'=>a=0/\a'=0) f (ah ⟨rfl,rfl⟩) λg i j H r e=>?_;obtain⟨rfl,rfl⟩:=e;exact k g j _ _ false (hl.mono (Ren.le_trans c i))
  |some hv=>
   refine af f (gP f (hv.mono c) _) λg i j H r e=>?_;obtain⟨rfl,rfl⟩:=e;exact k g j _ _ false (hl.mono (Ren.le_trans c i))
 |some o=>
  refine af d (gP d o _) λσ c f M t e=>?_;obtain⟨rfl,rfl⟩:=e
  cases q with
  |none=>exact bz
  |some hv=>
   refine af f (gP f (hv.mono c) _) λg i j H r e=>?_;obtain⟨rfl,rfl⟩:=e;exact k g j _ _ true (hl.mono (Ren.le_trans c i))
def Oi(B:ρ.bw T.globals.size)(t:ac){x w:Value}(p:VR F ρ x w){l l' h y m m':Option Value}(hl:lJ F ρ l l')(i:lJ F ρ h y)(j:lJ F ρ m m') :
 av T fB fA F K (RV F) ρ (dQ t x l h m) (dQ t w l' y m'):=by
 unfold dQ;refine af B (bk t) λσ f g d C e=>?_;subst e;have p:=p.mono f;have hl:=hl.mono f;have i:=i.mono f;have j:=j.mono f
 cases d with
 |string=>
  cases p with
  |string s=>
   cases j with
   |some _=>exact bz
   |none=>
    refine af g (eY g _ _ _ hl i .none) λ_ _ _ a r e=>?_;subst e;exact ah (.string _)
  |_=>exact ak
 |slice elem=>
  cases p with
  |di len cap=>
   refine af g (eY g _ _ _ hl i j) λu k c a r e=>?_;subst e;refine af c (bN c elem) λ_ _ _ n n' e=>?_;subst e;refine ah ?_;show VR F _ (.slice (if _ then none else none) _ _) (.slice (if _ then none else none) _ _);simp only[ite_self];exact .di _ _
  |slice len cap q=>
   refine af g (eY g _ _ _ hl i j) λu k c a r e=>?_;subst e;refine af c (bN c elem) λ_ o _ n n' e=>?_;subst e;refine ah ?_
   split
   ·exact .slice _ _ ((q.mono k).mono o)
   ·exact .slice _ _ (((q.mono k).mono o).add _)
  |dK D a=>
   refine af g (vE g _ hl i j) λu k c b b' e=>?_;obtain⟨rfl,rfl⟩:=e;refine af c (bN c elem) λ_ o _ n n' e=>?_;subst e;exact ah (.dK D a)
  |_=>exact ak
 |pointer arr=>
  refine af g (z7 p) λu k c a r q=>?_;refine af c (bk arr) λI o z d C e=>?_;subst e
  cases d with
  |array n elem=>
   have v:=Ren.le_trans k o;refine af z (eY z _ _ _ (hl.mono v) (i.mono v) (j.mono v)) λJ E A b b' e=>?_;subst e;refine af A (bN A elem) λ_ H _ n n' e=>?_;subst e;refine ah ?_;have ha':=((q.mono o).mono E).mono H
   split
   ·exact .slice _ _ ha'
   ·exact .slice _ _ (ha'.add _)
  |_=>exact ak
 |_=>exact ak
def FZ(s:ρ.bw T.globals.size)(t:ac){x k:Value}(f:VR F ρ x k){l l' h o m m':Option Value}(hl:lJ F ρ l l')(g:lJ F ρ h o)(i:lJ F ρ m m') :
 av T fB fA F K (RV F) ρ (dT t x l h m) (dT t k l' o m'):=by
 unfold dT;refine af s (bk t) λσ c p d y e=>?_;subst e;have f:=f.mono c;have hl:=hl.mono c;have g:=g.mono c;have i:=i.mono c
 cases d with
 |array n elem=>
  refine af p (iV f) λz j q a A u=>?_;refine af q (eY q _ _ _ (hl.mono j) (g.mono j) (i.mono j)) λB v r b b' e=>?_;subst e;refine af r (bN r elem) λ_ w _ n n' e=>?_;subst e;refine ah ?_;have ha':=(u.mono v).mono w
  split
  ·exact .slice _ _ ha'
  ·exact .slice _ _ (ha'.add _)
 |_=>exact Oi p t f hl g i
def oa{g a:Type}:∀(l:List g){ρ:Ren}(_:ρ.bw T.globals.size)(b:a){f f':g->a->Sem (ForInStep a)},
 (∀x∈l,∀σ:Ren,ρ.le σ->σ.bw T.globals.size->∀b,av T fB fA F K fF σ (f x b) (f' x b))->av T fB fA F K fF ρ (forIn l b f) (forIn l b f'):=by
 intro l
 induction l with
 |nil=>intro ρ c b f f' _;exact ah rfl
 |cons x l i=>
  intro ρ c b f f' h;rw[b1,b1];refine af c (h x (by simp) ρ (Ren.le_refl _) c b) λσ d j s o e=>?_;subst e
  cases s with
  |done b=>exact ah rfl
  |yield b=>exact i j b λy hy k m n b=>h y (by simp[hy]) k (Ren.le_trans d m) n b
def Be{c a:Type}(l:Array c)(d:ρ.bw T.globals.size)(b:a){f f':c->a->Sem (ForInStep a)}
 (h:∀x,∀σ:Ren,ρ.le σ->σ.bw T.globals.size->∀b,av T fB fA F K fF σ (f x b) (f' x b)):av T fB fA F K fF ρ (forIn l b f) (forIn l b f'):=by
 rw[<-cm,<-cm];exact oa l.toList d b λx _=>h x
def oc{a:Type}(n:Nat)(c:ρ.bw T.globals.size)(b:a){f f':Nat->a->Sem (ForInStep a)}
 (h:∀x,∀σ:Ren,ρ.le σ->σ.bw T.globals.size->∀b,av T fB fA F K fF σ (f x b) (f' x b)):av T fB fA F K fF ρ (forIn [0:n] b f) (forIn [0:n] b f'):=by
 rw[dU,dU];exact oa _ c b λx _=>h x
def uT(h:ρ.bw T.globals.size){a a' b b':Addr}(i:AR ρ a a')(hb:AR ρ b b'):av T fB fA F K fF ρ (bm a b) (bm a' b'):=by
 have e1:(a.block==b.block)=(a'.block==b'.block):=by
  rw[d8,beq_iff_eq,beq_iff_eq];exact⟨λe=>h.fn i.1 (e▸hb.1),λe=>h.inj i.1 (e▸hb.1)⟩
 have t:(a==b)=(a'==b'):=by
  rw[d8,beq_iff_eq,beq_iff_eq];exact AR.eq_iff h i hb
 unfold bm;rw[e1,t];refine aN (λ_=>ah rfl) λ_=>?_;refine af h (pL i) λσ d m x j e=>?_;subst e;have tail:∀σ:Ren,ρ.le σ->σ.bw T.globals.size->av T fB fA F K fF σ
  (do
    bd a
    bd b
    if<-bo a b then return(<-ar (.extern "sameAddr.stringBytes" 2))==1
    pure false)
  (do
    bd a'
    bd b'
    if<-bo a' b' then return(<-ar (.extern "sameAddr.stringBytes" 2))==1
    pure false):=by
  intro σ d m;refine af m (tX m (i.mono d)) λf g q _ _ _=>?_;have d:=Ren.le_trans d g;refine af q (tX q (hb.mono d)) λf g r _ _ _=>?_;have d:=Ren.le_trans d g;refine af r (RA:=fF) ?_ λf g s x j e=>?_
  ·unfold bo;have str:∀(f:Ren)(_:f.bw T.globals.size)(c k:Addr),AR f c k->av T fB fA F K fF f (bp c) (bp k):=by
    intro f h c k hc;unfold bp;refine af h (pL hc) λσ d m x j e=>?_;subst e;refine aN (λ_=>ah rfl) λ_=>?_;refine af m (jS (d hc.1)) λf g u y y' e=>?_;subst e
    cases y with
    |none=>exact ah rfl
    |some v=>exact pL ⟨g (d hc.1),rfl,rfl⟩
   have o:∀(f:Ren)(_:f.bw T.globals.size)(c k:Addr),AR f c k->av T fB fA F K fF f (do pure ((<-shape c.block) matches some (_,0)):Sem Bool) (do pure ((<-shape k.block) matches some (_,0)):Sem Bool):=by
    intro f h c k hc;exact af h (jS hc.1) λ_ _ _ x j e=>ah (by rw[e])
   refine af r (str _ r a a' (i.mono d)) λf g s x j e=>?_;have d:=Ren.le_trans d g;subst e;refine af s (str _ s b b' (hb.mono d)) λf g p x j e=>?_;have d:=Ren.le_trans d g;subst e;refine af p (o _ p a a' (i.mono d)) λf g l x j e=>?_;have d:=Ren.le_trans d g;subst e;refine af l (o _ l b b' (hb.mono d)) λf g l x j e=>?_;subst e;exact ah rfl
  ·subst e;refine aN (λ_=>?_) λ_=>ah rfl;exact⟨_,rfl,λn=>⟨_,rfl,rfl⟩⟩
 refine af m (pL (hb.mono d)) λf g q y y' e=>?_;subst e;refine aN (λ_=>aM) λ_=>?_;exact tail f (Ren.le_trans d g) q
def wT(d:ρ.bw T.globals.size){v v' u c:Value}(h:VR F ρ v v')(k:VR F ρ u c):∀{a a' b b':Option Addr},v=.pointer a->v'=.pointer a'->u=.pointer b->c=.pointer b'->av T fB fA F K fF ρ (bq a b) (bq a' b'):=by
 rintro a a' b b' rfl rfl rfl rfl
 cases h with
 |dS=>cases k<;>exact ah rfl
 |ptr e=>
  cases k with
  |dS=>exact ah rfl
  |ptr hb=>exact uT d e hb
def F0(a:ρ.bw T.globals.size)(t:ac):av T fB fA F K fF ρ (br t) (br t):=by
 unfold br;refine af a (ee t) λσ _ _ i b e=>?_;subst e;exact aN (λ_=>aA) λ_=>ah rfl
set_option maxHeartbeats 8000000 in
def qS:∀(d:Nat){ρ:Ren}(_:ρ.bw T.globals.size)(t:ac){x x' y y':Value}(_:VR F ρ x x')(_:VR F ρ y y'),av T fB fA F K fF ρ (d9 d t x y) (d9 d t x' y'):=by
 intro d
 induction d with
 |zero=>intro ρ hI t x x' y y' _ _;exact aA
 |succ d ih=>
  intro ρ hI t x x' y y' hx hy;unfold d9;refine af hI (bk t) λσ hle bC ds ds' e=>?_;subst e;have hx:=hx.mono hle;have hy:=hy.mono hle
  cases ds with
  |bool=>cases hx<;>cases hy<;>first|exact ah rfl|exact ak
  |int k=>
   cases hx with
   |int k n=>
    cases hy with
    |int k' m=>exact aN (λ_=>ah rfl) λ_=>ak
    |dS=>exact aA
    |ptr _=>
     by_cases hn:n=0
     ·subst hn;exact ah rfl
     ·cases n with
      |ofNat n=>cases n with
       |zero=>exact absurd rfl hn
       |succ n=>exact aA
      |negSucc n=>exact aA
    |_=>exact ak
   |dS=>cases hy<;>exact aA
   |ptr ha=>
    cases hy with
    |int k' m=>
     by_cases hn:m=0
     ·subst hn;exact ah rfl
     ·cases m with
      |ofNat n=>cases n with
       |zero=>exact absurd rfl hn
       |succ n=>exact aA
      |negSucc n=>exact aA
    |ptr hb=>
     refine af bC (gC bC ha) λτ aI gE a a' ha=>?_;refine af gE (gC gE (hb.mono aI)) λυ gp iP b b' hb=>?_;have ha:=ha.1;have hb:=hb.1;have ha:=ha.mono gp;refine bI ?_;have e1:(a.1.block==b.1.block)=(a'.1.block==b'.1.block):=by
      rw[d8,beq_iff_eq,beq_iff_eq];exact⟨λe=>iP.fn ha.1 (e▸hb.1),λe=>iP.inj ha.1 (e▸hb.1)⟩
     have e2:(a.1==b.1)=(a'.1==b'.1):=by
      rw[d8,beq_iff_eq,beq_iff_eq];exact AR.eq_iff iP ha hb
     have e3:decide (a.1.block<T.globals.size)=decide (a'.1.block<T.globals.size):=by
      rw[decide_eq_decide];exact iP.XS ha.1
     have rest:∀(φ:Ren),υ.le φ->φ.bw T.globals.size->av T fB fA F K fF φ
      (do
        let .named "sync.copyChecker" _:=(<-aF t).desc|unsupported .addressObserved
        if a.1==b.1 then pure true else aq .addressObserved)
      (do
        let .named "sync.copyChecker" _:=(<-aF t).desc|unsupported .addressObserved
        if a'.1==b'.1 then pure true else aq .addressObserved):=by
      intro φ _ hIf;refine af hIf (ee t) λχ _ _ i i' e=>?_;subst e;rw[e2]
      split
      ·exact aN (λ_=>ah rfl) λ_=>aA
      ·exact aA
     simp only[e1];show(av T fB fA F K) fF υ (if(_&&decide (a.1.block<T.globals.size))=true then _ else _) (if(_&&decide (a'.1.block<T.globals.size))=true then _ else _);rw[e3];refine aN (λ_=>?_) λ_=>rest υ (Ren.le_refl _) iP;refine af iP (iA iP ha) λφ kY qq z z' e=>?_;subst e;refine af qq (iA qq (hb.mono kY)) λ_ _ _ z z' e=>?_;subst e;exact ah rfl
    |_=>exact aA
   |_=>cases hy<;>first|exact ak|exact aA
  |float k=>
   cases hx<;>cases hy<;>first|exact aN (λ_=>ah rfl) (λ_=>ak)|exact ak
  |complex k=>
   cases hx<;>cases hy<;>first|exact aN (λ_=>ah rfl) (λ_=>ak)|exact ak
  |string=>cases hx<;>cases hy<;>first|exact ah rfl|exact ak
  |pointer elem=>
   cases hx with
   |dS=>cases hy<;>first|exact ah rfl|exact ak
   |ptr ha=>
    cases hy with
    |dS=>exact ah rfl
    |ptr hb=>
     refine af bC (bN bC elem) λτ aI gE n n' e=>?_;subst e;refine aN (λ_=>uT gE (ha.mono aI) (hb.mono aI)) λ_=>?_;have e2:(_==_)=(_==_):=Bool.eq_iff_iff.2 ((beq_iff_eq.trans (AR.eq_iff gE (ha.mono aI) (hb.mono aI))).trans beq_iff_eq.symm);rw[e2];refine aN (λ_=>ah rfl) λ_=>?_;exact⟨_,rfl,λn=>⟨_,rfl,rfl⟩⟩
    |_=>exact ak
   |_=>cases hy<;>exact ak
  |unsafePointer=>
   cases hx<;>cases hy<;>first|exact ak|(refine wT bC ?_ ?_ rfl rfl rfl rfl<;>(constructor<;>assumption))
  |chan _ _=>cases hx<;>cases hy<;>exact ak
  |interface ms=>
   cases hx with
   |nilIface=>cases hy<;>first|exact ah rfl|exact ak
   |iface tx hvx=>
    cases hy with
    |nilIface=>exact ah rfl
    |iface ty hvy=>
     refine aN (λ_=>ah rfl) λ_=>?_;refine af bC (ee tx) λτ aI gE i i' e=>?_;subst e;refine aN (λ_=>?_) λ_=>ih gE tx (hvx.mono aI) (hvy.mono aI);refine bI ?_;refine bI ?_;rw[rX T fA fB];show(av T fB fA F K) fF τ (if(dd ⟨T,fB⟩ (df ⟨T,fB⟩) tx)=true then _ else _) (if(dd ⟨T,fB⟩ (df ⟨T,fB⟩) tx)=true then _ else _);refine aN (λ_=>aM) λ_=>?_;refine af gE (F0 gE tx) λυ _ _ z z' e=>?_;subst e;exact cX _
    |_=>exact ak
   |_=>cases hy<;>exact ak
  |struct fields=>
   cases hx with
   |agg Tw=>
    cases hy with
    |agg hys=>
     refine bI ?_;rw[rW T fA fB];refine aN (λ_=>aM) λ_=>?_;refine af bC (Be fields bC _ λf τ aI gE b=>?_) λυ _ _ z z' e=>?_
     ·refine aN (λ_=>?_) λ_=>ah rfl;refine af gE (kI gE f.type (VA.mono aI Tw) f.offset) λυ gp iP p p' hp=>?_;refine af iP (kI iP f.type (VA.mono gp (VA.mono aI hys)) f.offset) λφ kY qq q q' hq=>?_;refine af qq (ih qq f.type (hp.mono kY) hq) λ_ _ _ z z' e=>?_;subst e;exact aN (λ_=>ah rfl) λ_=>ah rfl
     ·subst e;obtain⟨z1,z2⟩:=z;cases z1<;>exact ah rfl
    |_=>exact ak
   |_=>cases hy<;>exact ak
  |array len elem=>
   cases hx with
   |agg Tw=>
    cases hy with
    |agg hys=>
     refine af bC (bN bC elem) λτ0 X2 hI0 n n' e=>?_;subst e;have Tw:=VA.mono X2 Tw;have hys:=VA.mono X2 hys;refine af hI0 (oc len hI0 _ λi τ aI gE b=>?_) λυ _ _ z z' e=>?_
     ·refine af gE (kI gE elem (VA.mono aI Tw) (i*n)) λυ gp iP p p' hp=>?_;refine af iP (kI iP elem (VA.mono gp (VA.mono aI hys)) (i*n)) λφ kY qq q q' hq=>?_;refine af qq (ih qq elem (hp.mono kY) hq) λ_ _ _ z z' e=>?_;subst e;exact aN (λ_=>ah rfl) λ_=>ah rfl
     ·subst e;obtain⟨z1,z2⟩:=z;cases z1<;>exact ah rfl
    |_=>exact ak
   |_=>cases hy<;>exact ak
  |slice _=>cases hx<;>cases hy<;>first|exact ah rfl|exact ak
  |map _ _=>cases hx<;>cases hy<;>first|exact ah rfl|exact ak
  |func _ _ _=>cases hx<;>cases hy<;>first|exact ah rfl|exact ak
  |_=>cases hx<;>cases hy<;>exact ak
def CX(a:ρ.bw T.globals.size)(d:Nat)(t:ac):av T fB fA F K fF ρ (ea d t .nilIface .nilIface) (ea d t .nilIface .nilIface):=by
 cases d with
 |zero=>exact aA
 |succ d=>
  unfold ea;refine af a (bk t) λσ b f ds c e=>?_;subst e;cases ds<;>exact ah rfl
def F1(d:ρ.bw T.globals.size)(op:BinOp)(t:ac)(x y:Operand){a a' b b':Value}(f:VR F ρ a a')(hb:VR F ρ b b')(g:a≠.tuple #[])(c:b≠.tuple #[])
 (hg:(op matches .eql | .neq)=true->c6 ⟨T,fB⟩ (df ⟨T,fB⟩) t=false):av T fB fA F K fF ρ (bs op t x y a b) (bs op t x y a' b'):=by
 unfold bs;refine aN (λ_=>ah rfl) λh=>?_;have i:c6 ⟨T,fB⟩ (df ⟨T,fB⟩) t=false:=hg (by cases op<;>first|rfl|exact absurd rfl h)
 cases f with
 |nilIface=>
  cases hb with
  |nilIface=>
   refine aN (λ_=>ah rfl) λ_=>?_;refine af d (CX d _ t) λ_ _ _ z k e=>?_;subst e;exact aN (λ_=>aA) λ_=>ah rfl
  |hole=>exact absurd rfl c
  |_=>exact ah rfl
 |agg l=>
  cases hb with
  |agg j=>
   refine bI (bI ?_);rw[kJ T fA fB];show(av T fB fA F K) fF ρ (if(!c6 ⟨T,fB⟩ (df ⟨T,fB⟩) t)=true then _ else _) (if(!c6 ⟨T,fB⟩ (df ⟨T,fB⟩) t)=true then _ else _);rw[i];exact ah rfl
  |hole=>exact absurd rfl c
  |_=>exact ah rfl
 |hole=>exact absurd rfl g
 |_=>cases hb with
  |hole=>exact absurd rfl c
  |_=>exact ah rfl
def uU(op:BinOp)(k:ab)(a b:Int):av T fB fA F K (RV F) ρ (eb op k a b) (eb op k a b):=by
 cases op<;>first|exact ah (.int _ _)|exact ak
def Lz(op:BinOp)(a b:Int):av T fB fA F K (RV F) ρ (ec op a b) (ec op a b):=by
 cases op<;>first|exact ah (.bool _)|exact ak
def wU(op:BinOp)(k:ab)(a b:Int):av T fB fA F K (RV F) ρ (ed op k a b) (ed op k a b):=by
 cases op<;>first|exact ah (.int _ _)|exact ak
def LA(op:BinOp)(k:ab)(a b:Int):av T fB fA F K (RV F) ρ (eg op k a b) (eg op k a b):=by
 unfold eg;refine aN (λ_=>cX _) λ_=>?_;cases op<;>first|exact ah (.int _ _)|exact ak
def CY(op:BinOp)(k j:ab)(a b:Int):av T fB fA F K (RV F) ρ (eh op k a j b) (eh op k a j b):=by
 unfold eh;refine aN (λ_=>cX _) λ_=>?_;cases op<;>first|exact ah (.int _ _)|exact ak
def oe(op:BinOp)(a b:ByteArray):av T fB fA F K (RV F) ρ (ei op a b) (ei op a b):=by
 unfold ei;cases op<;>first|exact aN (λ_=>aA) (λ_=>ah (.string _))|exact ah (.bool _)|exact ak
def RP:Ren->Value->Value->Prop:=λρ v v'=>∃a b,v=.pointer (some a)/\v'=.pointer (some b)/\AR ρ a b
def uV(j:ρ.bw T.globals.size){x f y y':Value}(g:VR F ρ x f)(hy:VR F ρ y y')(ts:Array ac)(t:ac):av T fB fA F K RP ρ (eq ts t #[x,y]) (eq ts t #[f,y']):=by
 unfold eq;have main:∀{p k:Option Addr},x=.pointer p->f=.pointer k->av T fB fA F K RP ρ (eq ts t #[x,y]) (eq ts t #[f,y']):=by
  rintro p k rfl rfl;unfold eq;refine af j (Oa j hy) λσ b h n n' e=>?_;subst e;refine aN (λ_=>?_) λ_=>?_
  ·cases g with
   |dS=>first|exact aA|exact aM
   |ptr d=>
    refine af h (z8 h (b d.1)) λl i _ z m e=>?_;obtain⟨rfl,rfl⟩:=e;exact ah ⟨_,_,rfl,rfl,(d.mono b).mono i⟩
  ·refine aN (λ_=>aM) λ_=>?_
   cases g with
   |dS=>first|exact aA|exact aM
   |@ptr a o d=>
    refine af h (jS (b d.1)) λl i _ z m e=>?_;subst e
    cases z with
    |none=>first|exact aA|exact aM
    |some c=>
     refine bI ?_;have ha':=(d.mono b).mono i;rw[rV T fA fB,<-ha'.2.1];show(av T fB fA F K) RP l (match bc ⟨T,fB⟩ (df ⟨T,fB⟩) c.1 (c.2 / de ⟨T,fB⟩ c.1) a.off n with|some off=>_|none=>_) (match bc ⟨T,fB⟩ (df ⟨T,fB⟩) c.1 (c.2 / de ⟨T,fB⟩ c.1) a.off n with|some off=>_|none=>_)
     cases bc ⟨T,fB⟩ (df ⟨T,fB⟩) c.1 (c.2 / de ⟨T,fB⟩ c.1) a.off n with
     |none=>exact aA
     |some off=>exact ah ⟨_,_,rfl,rfl,ha'.1,rfl,ha'.2.2⟩
 cases g with
 |dS=>exact main rfl rfl
 |ptr d=>exact main rfl rfl
 |_=>first|exact ak|exact bz
def CZ(b:ρ.bw T.globals.size){a a':Addr}(h:AR ρ a a')(l:Bool):av T fB fA F K (RV F) ρ (asNumber a l) (asNumber a' l):=
 af b (jO (.number l h)) λ_ _ _ _ _ c=>ah (.ptr ⟨c,rfl,rfl⟩)
def gQ(c:ρ.bw T.globals.size){x b y y':Value}(d:VR F ρ x b)(hy:VR F ρ y y')(ts:Array ac)(t:ac):av T fB fA F K (RV F) ρ (eq ts t #[x,y]) (eq ts t #[b,y']):=
 (uV c d hy ts t).mono λσ _ a f⟨_,_,e1,e,h⟩=>by rw[e1,e];exact .ptr h
def eZ(j:ρ.bw T.globals.size)(t:ac){x g y y':Value}(f:VR F ρ x g)(hy:VR F ρ y y'):av T fB fA F K (RV F) ρ (bt t x y) (bt t g y'):=by
 unfold bt;refine af j (bk t) λσ a b d s e=>?_;subst e;refine aN (λ_=>aM) λ_=>?_;have f:=f.mono a;have hy:=hy.mono a
 cases f with
 |ptr k=>
  refine af b (gC b k) λu l i z m c=>?_;obtain⟨z1,v⟩:=z;obtain⟨n,o⟩:=m;obtain⟨c,e⟩:=c;simp only at c e;subst e;refine af i (uV i (.ptr c) (hy.mono l) _ _) λw A p q B r=>?_;obtain⟨_,_,rfl,rfl,hb⟩:=r;exact CZ p hb _
 |dS=>exact gQ b .dS hy _ _
 |hole _ h=>exact ak
 |_=>exact gQ b (by first|exact .wG _ _ _|exact .dK _ _|(constructor<;>assumption)) hy _ _
def vF(a:ρ.bw T.globals.size)(t:ac){x c y y':Value}(f:VR F ρ x c)(hy:VR F ρ y y'):av T fB fA F K (RV F) ρ (bv t x y) (bv t c y'):=by
 unfold bv
 cases f with
 |ptr d=>
  refine af a (uS a d.1) λj e g z k i=>?_
  rcases i with⟨rfl,rfl⟩|⟨b,b',l,rfl,rfl,hb⟩
  ·exact gQ g (.ptr (d.mono e)) (hy.mono e) #[] t
  ·exact aA
 |dS=>exact gQ a .dS hy #[] t
 |hole _ h=>exact ak
 |_=>exact gQ a (by first|exact .wG _ _ _|exact .dK _ _|(constructor<;>assumption)) hy #[] t
def rY(c:ρ.bw T.globals.size){a a' b b':Addr}(d:AR ρ a a')(hb:AR ρ b b'):av T fB fA F K fF ρ (ej a b) (ej a' b'):=by
 unfold ej;refine bI ?_;have e1:(a.block != b.block)=(a'.block != b'.block):=by
  simp only[bne];congr 1;rw[d8,beq_iff_eq,beq_iff_eq];exact⟨λe=>c.fn d.1 (e▸hb.1),λe=>c.inj d.1 (e▸hb.1)⟩
 have g:decide (a.block>=T.globals.size)=decide (a'.block>=T.globals.size):=by
  rw[decide_eq_decide];have:=c.XS d.1;omega
 show(av T fB fA F K) fF ρ (if(_||decide (a.block>=T.globals.size))=true then _ else _) (if(_||decide (a'.block>=T.globals.size))=true then _ else _);rw[e1,g];refine aN (λ_=>aM) λ_=>?_;refine af c (iA c d) λj h f z i e=>?_;subst e;refine af f (iA f (hb.mono h)) λ_ _ _ z i e=>?_;subst e;exact ah rfl
def qT(f:ρ.bw T.globals.size)(k:ab){a a':Addr}(c:AR ρ a a')(n:Int):av T fB fA F K (RV F) ρ (ek k a n) (ek k a' n):=by
 unfold ek;refine af f (jS c.1) λσ b g z h e=>?_;subst e
 cases z with
 |none=>exact aA
 |some j=>
  refine af g (ee j.1) λm l d i o e=>?_;subst e;refine aN (λ_=>aM) λ_=>?_;refine af d (iA d ((c.mono b).mono l)) λ_ _ _ z h e=>?_;subst e;exact ah (.int _ _)
def mN(c:ρ.bw T.globals.size)(op:BinOp){a a' b b':Addr}(d:AR ρ a a')(hb:AR ρ b b'):av T fB fA F K (RV F) ρ (el op a b) (el op a' b'):=by
 unfold el;refine af c (rY c d hb) λ_ _ _ z f e=>?_;subst e;obtain⟨x,y⟩:=z;cases op<;>first|exact ah (.bool _)|exact aA
def F2(c:ρ.bw T.globals.size)(k:ab){a a' b b':Addr}(d:AR ρ a a')(hb:AR ρ b b'):av T fB fA F K (RV F) ρ (em k a b) (em k a' b'):=by
 unfold em;refine af c (rY c d hb) λ_ _ _ z f e=>?_;subst e;exact ah (.int _ _)
def wV{d e:Type}{R:Ren->d->e->Prop}(g:ρ.bw T.globals.size){a a' b b':Addr}(l:AR ρ a a')(hb:AR ρ b b'){f:Addr->Addr->Sem d}{c:Addr->Addr->Sem e}
 (h:∀(σ:Ren),ρ.le σ->σ.bw T.globals.size->∀a a' b b',AR σ a a'->AR σ b b'->av T fB fA F K R σ (f a b) (c a' b')) :
 av T fB fA F K R ρ (do f (<-bi a).1 (<-bi b).1) (do c (<-bi a').1 (<-bi b').1):=by
 refine af g (gC g l) λp i j z q m=>?_;refine af j (gC j (hb.mono i)) λn k o y y' hy=>?_;exact h n (Ren.le_trans i k) o _ _ _ _ (m.1.mono k) hy.1
set_option maxHeartbeats 1000000 in
def Oj(hI:ρ.bw T.globals.size)(op:BinOp)(t:ac){a a' b b':Value}(ha:VR F ρ a a')(hb:VR F ρ b b')(na:a≠.tuple #[])(nb:b≠.tuple #[]):av T fB fA F K (RV F) ρ (binOp op t a b) (binOp op t a' b'):=by
 have eqs:av T fB fA F K (RV F) ρ (do pure (.bool (<-en t a b)):Sem Value) (do pure (.bool (<-en t a' b')):Sem Value):=
  af hI (qS _ hI t ha hb) λ_ _ _ z z' e=>ah (by rw[e];exact .bool _)
 have neqs:av T fB fA F K (RV F) ρ (do pure (.bool (!(<-en t a b))):Sem Value) (do pure (.bool (!(<-en t a' b'))):Sem Value):=
  af hI (qS _ hI t ha hb) λ_ _ _ z z' e=>ah (by rw[e];exact .bool _)
 have plus:∀{x x' y y':Value},VR F ρ x x'->VR F ρ y y'->av T fB fA F K (RV F) ρ (do if(<-aH t) matches .unsafePointer then bv t x y else bt t x y:Sem Value) (do if(<-aH t) matches .unsafePointer then bv t x' y' else bt t x' y':Sem Value):=by
  intro x x' y y' hx hy;refine af hI (bk t) λσ hle bC d d' e=>?_;subst e;exact aN (λ_=>vF bC t (hx.mono hle) (hy.mono hle)) λ_=>eZ bC t (hx.mono hle) (hy.mono hle)
 by_cases h1:∃k i j l,a=.int k i/\b=.int j l
 ·obtain⟨k,i,j,l,rfl,rfl⟩:=h1;cases ha;cases hb
  cases op with
  |shl=>unfold binOp;exact CY _ _ _ _ _
  |shr=>unfold binOp;exact CY _ _ _ _ _
  |_=>
   unfold binOp;refine aN (λ_=>ak) λ_=>?_
   first|exact uU _ _ _ _|exact LA _ _ _ _|exact wU _ _ _ _|exact Lz _ _ _
 by_cases h2:∃s u,a=.string s/\b=.string u
 ·obtain⟨s,u,rfl,rfl⟩:=h2;cases ha;cases hb;cases op<;>(unfold binOp;exact oe _ _ _)
 by_cases he:op=.eql
 ·subst he;cases ha<;>cases hb<;>first|exact absurd rfl na|exact absurd rfl nb|exact eqs|exact absurd ⟨_,_,_,_,rfl,rfl⟩ h1|exact absurd ⟨_,_,rfl,rfl⟩ h2
 by_cases hn:op=.neq
 ·subst hn;cases ha<;>cases hb<;>first|exact absurd rfl na|exact absurd rfl nb|exact neqs|exact absurd ⟨_,_,_,_,rfl,rfl⟩ h1|exact absurd ⟨_,_,rfl,rfl⟩ h2
 generalize fR:binOp op t a' b'=s';unfold binOp
 split
 ·exact absurd ⟨_,_,_,_,rfl,rfl⟩ h1
 ·exact absurd ⟨_,_,_,_,rfl,rfl⟩ h1
 ·exact absurd ⟨_,_,_,_,rfl,rfl⟩ h1
 ·cases ha
 ·cases ha
 ·exact absurd ⟨_,_,rfl,rfl⟩ h2
 ·exact absurd rfl he
 ·exact absurd rfl hn
 ·cases hb;cases ha<;>(subst fR;first|exact plus .dS (.int _ _)|exact plus (.ptr (by assumption)) (.int _ _))
 ·cases ha;cases hb<;>(subst fR;first|exact eZ hI t .dS (.int _ _)|exact eZ hI t (.ptr (by assumption)) (.int _ _))
 ·cases hb;cases ha<;>(subst fR;first|exact eZ hI t .dS (.int _ _)|exact eZ hI t (.ptr (by assumption)) (.int _ _))
 ·cases ha;cases hb;subst fR;exact wV hI (by assumption) (by assumption) λσ _ bC a a' b b' ha hb=>F2 bC _ ha hb
 ·cases ha;cases hb;subst fR;exact wV hI (by assumption) (by assumption) λσ _ bC a a' b b' ha hb=>mN bC _ ha hb
 ·cases ha;cases hb;subst fR;exact wV hI (by assumption) (by assumption) λσ _ bC a a' b b' ha hb=>mN bC _ ha hb
 ·cases ha;cases hb;subst fR;exact wV hI (by assumption) (by assumption) λσ _ bC a a' b b' ha hb=>mN bC _ ha hb
 ·cases ha;cases hb;subst fR;exact wV hI (by assumption) (by assumption) λσ _ bC a a' b b' ha hb=>mN bC _ ha hb
 ·cases ha;cases hb;subst fR;exact af hI (gC hI (by assumption)) λ_ _ bC z z' hz=>qT bC _ hz.1 _
 ·cases ha;cases hb;subst fR;exact af hI (gC hI (by assumption)) λ_ _ bC z z' hz=>qT bC _ hz.1 _
 ·cases ha;cases hb;subst fR;exact af hI (gC hI (by assumption)) λ_ _ bC z z' hz=>qT bC _ hz.1 _
 ·exact aA
 ·exact aA
 ·exact ak
def wX{a:Type}(t:ac)(g:TypeDesc->Sem a):c2 (aH t) g=.program λp=>match p.underlying t with|some d=>g d|none=>stuck "no such type":=by
 show c4 _=c4 _;congr 1;funext p;show c2 (match p.underlying t with|some d=>pure d|none=>stuck "no such type") g=_;cases p.underlying t<;>rfl
def Ol(t:ac)(b:Value):bW T fB (en t (.tuple #[]) b):=by
 unfold en ep d9;show bW T fB (c2 (aH t) _);rw[wX];show bW T fB (match dj ⟨T,fB⟩ t with|some d=>_|none=>stuck "no such type")
 cases dj ⟨T,fB⟩ t with
 |none=>trivial
 |some d=>cases d<;>first
  |trivial
  |(cases b<;>first|trivial|rfl|(rename_i o;cases o<;>first|trivial|rfl)|(rename_i o _ _;cases o<;>first|trivial|rfl))
def Om(t:ac)(b:Value):bW T fB (en t b (.tuple #[])):=by
 unfold en ep d9;show bW T fB (c2 (aH t) _);rw[wX];show bW T fB (match dj ⟨T,fB⟩ t with|some d=>_|none=>stuck "no such type")
 cases dj ⟨T,fB⟩ t with
 |none=>trivial
 |some d=>cases d<;>first
  |trivial
  |(cases b<;>first|trivial|rfl|(rename_i o;cases o<;>first|trivial|rfl)|(rename_i o _ _;cases o<;>first|trivial|rfl))
def X3{a c:Type}{R:Ren->a->c->Prop}(t:ac)(b:Value)(f:Bool->Sem a)(s':Sem c):av T fB fA F K R ρ (en t (.tuple #[]) b >>= f) s':=bW.rel (bW.bind (Ol t b)) s'
def X4{a c:Type}{R:Ren->a->c->Prop}(t:ac)(b:Value)(f:Bool->Sem a)(s':Sem c):av T fB fA F K R ρ (en t b (.tuple #[]) >>= f) s':=bW.rel (bW.bind (Om t b)) s'
def F6(d:ρ.bw T.globals.size)(op:BinOp)(t:ac)(x y:Operand){a a' b b':Value}(g:VR F ρ a a')(hb:VR F ρ b b')
 (hg:(op matches .eql | .neq)=true->c6 ⟨T,fB⟩ (df ⟨T,fB⟩) t=false):av T fB fA F K (RV F) ρ (do bs op t x y a b;binOp op t a b) (do bs op t x y a' b';binOp op t a' b'):=by
 by_cases e:a=.tuple #[]
 ·subst e;generalize(do bs op t x y a' b';binOp op t a' b')=h;cases op<;>first
   |exact X3 t b _ _
   |(cases b<;>first|exact ak|exact(show dw et=true from rfl)|(rename_i o;cases o<;>first|exact ak|exact(show dw et=true from rfl)))
 by_cases f:b=.tuple #[]
 ·subst f;generalize(do bs op t x y a' b';binOp op t a' b')=h;cases op<;>first
   |(cases a<;>exact X4 t _ _ _)
   |(cases a<;>first|exact ak|exact(show dw et=true from rfl)|(rename_i o;cases o<;>first|exact ak|exact(show dw et=true from rfl)))
 exact af d (F1 d op t x y g hb e f hg) λσ c d _ _ _=>Oj d op t (g.mono c) (hb.mono c) e f
end
end Go.bJ
