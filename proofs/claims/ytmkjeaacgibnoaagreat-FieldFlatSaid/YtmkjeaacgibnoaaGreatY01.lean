/- Part of the proof of FieldFlat and FieldMarshals. -/
import Derived.Test.YtmkjeaacgibnoaaGreatY00
import Derived.Laws.Sem
import GoSem.Core.Layout
import GoSem.Dispatch
set_option linter.all false
open Go renaming Tables->aa,FuncId->ab,Unsupported->ac,unsupported->ad,choose->ae,program->ag,askRoom->ai,TypeId->ao,typeInfo->ap,underlying->aq,sizeOf->ar,zeroValue->aw,loadCellsFrom->aB,storeVar->aF,runtimePanic->aH,BoundsCode->aJ,boundsPanic->aL,byteOfCell->aP,cellOfByte->aT,cellAtBytes->a5,noView->a6,numberAt->a7,behindNumber->a8,fieldPlace->a9,sameAddr->ba,mayBeOne->bb,stringish->bc,samePointer->bd,typeStr->bg
open Go.Program renaming mk->bi,eqGuardType->bj,alikeButTags->bl,stoodInAs->bm,stoodInHeld->bo,packedAs->bp,packed->bq,holdsPacked->br,cellsOf->bs,depth->bt
open Go.bJ.VA renaming mono->bu,size->bv
open Go.Instr renaming sureAddr->bx,alloc->bA,box->bL,loadAt->bM,storeAt->bR,fill->bT,build->bX,fieldAt->b1,field->b2,index->b3,indexAt->b4,extract->b5,sliceBound->b6,sliceBounds->b7,slice->b8,sliceAt->b9
open Array renaming foldl_toList->ca,toList_zipIdx->cb,mapM_eq_mapM_toList->cc,forIn_toList->cd
open Go.bJ.Ren renaming le_refl->ce,le_trans->cf
open Std.Legacy.Range renaming forIn_eq_forIn_range'->cg
open Bool renaming eq_iff_iff->ch
namespace Go.bJ
section
variable {T:aa}{fB fA:Array Func}{F:ab->Bool}{K:Code->Bool}{ρ σ:Ren}
abbrev RV(F:ab->Bool):Ren->Value->Value->Prop:=λρ v v'=>VR F ρ v v'
abbrev fF{b:Type}:Ren->b->b->Prop:=λ_ a c=>a=c
abbrev RVA(F:ab->Bool):Ren->Array Value->Array Value->Prop:=λρ a b=>VA F ρ a b
abbrev RA_:Ren->Addr->Addr->Prop:=λρ a b=>AR ρ a b
def ah{b c:Type}{R:Ren->b->c->Prop}{a:b}{a':c}(h:R ρ a a'):av T fB fA F K R ρ (pure a) (pure a'):=⟨a',rfl,h⟩
def af{b c d e:Type}{RA:Ren->b->c->Prop}{g:Ren->d->e->Prop}{s:Sem b}{s':Sem c}{f:b->Sem d}{f':c->Sem e}(i:ρ.bw T.globals.size)(h:av T fB fA F K RA ρ s s')
 (hf:∀σ:Ren,ρ.le σ->σ.bw T.globals.size->∀a a',RA σ a a'->av T fB fA F K g σ (f a) (f' a')):av T fB fA F K g ρ (s >>= f) (s' >>= f'):=av.bind i h hf
def ak{a b:Type}{R:Ren->a->b->Prop}{m:String}{s':Sem b}:av T fB fA F K R ρ (stuck m:Sem a) s':=trivial
def aA{a b:Type}{R:Ren->a->b->Prop}{u:ac}{s':Sem b}(c:dw u=true:=by rfl):av T fB fA F K R ρ (ad u:Sem a) s':=c
def bz{a b c:Type}{R:Ren->b->c->Prop}{m:String}{f:a->Sem b}{s':Sem c}:av T fB fA F K R ρ ((stuck m:Sem a) >>= f) s':=trivial
def aM{a b c:Type}{R:Ren->b->c->Prop}{u:ac}{f:a->Sem b}{s':Sem c}(d:dw u=true:=by rfl):av T fB fA F K R ρ ((ad u:Sem a) >>= f) s':=d
def IZ{a a':Addr}(h:AR ρ a a'):av T fB fA F K (RV F) ρ (load a) (load a'):=⟨_,_,_,rfl,rfl,rfl,h,λ_ v' hv=>⟨v',rfl,hv⟩⟩
def N9{a a':Addr}(h:AR ρ a a'){v v':Value}(hv:VR F ρ v v'):av T fB fA F K fF ρ (store a v) (store a' v'):=⟨_,_,_,_,rfl,rfl,rfl,h,hv,(),rfl,rfl⟩
def jO{o o':Obj}(h:OR F K ρ o o'):av T fB fA F K (λσ r a=>σ r a) ρ (newObj o) (newObj o'):=⟨_,_,rfl,h,λ_ a _ _ _ _=>⟨a,rfl,Ren.IW _ _ _⟩⟩
def jS{r a:Nat}(h:ρ r a):av T fB fA F K fF ρ (shape r) (shape a):=.inl ⟨_,_,rfl,h,λx=>⟨x,rfl,rfl⟩⟩
def pL{a a':Addr}(h:AR ρ a a'):av T fB fA F K fF ρ (frozen a) (frozen a'):=.inl ⟨_,_,rfl,h,λx=>⟨x,rfl,rfl⟩⟩
def dA{r a:Nat}(h:ρ r a):av T fB fA F K (λσ o o'=>OR F K σ o o') ρ (getObj r) (getObj a):=⟨_,_,rfl,h,λ_ o' b=>⟨o',rfl,b⟩⟩
def dV{r a:Nat}(h:ρ r a){o o':Obj}(b:OR F K ρ o o')(c:vW o:=by intro _ _ _ h;cases h):av T fB fA F K fF ρ (setObj r o) (setObj a o'):=⟨_,_,_,rfl,h,⟨b,c⟩,(),rfl,rfl⟩
def lH(q:Question):av T fB fA F K fF ρ (ae q) (ae q):=⟨_,rfl,λn=>⟨n,rfl,rfl⟩⟩
def bI{a b:Type}{R:Ren->a->b->Prop}{f:Program->Sem a}{f':Program->Sem b}(h:av T fB fA F K R ρ (f ⟨T,fB⟩) (f' ⟨T,fA⟩)):av T fB fA F K R ρ (ag >>= f) (ag >>= f'):=.inl ⟨_,rfl,h⟩
def Lv:av T fB fA F K fF ρ (mark .noRoom) (mark .noRoom):=.inl ⟨_,rfl,rfl,(),rfl,rfl⟩
def FQ(n:Nat):av T fB fA F K fF ρ (ai n) (ai n):=by
 unfold ai
 split
 ·exact Lv
 ·exact ah rfl
def aN{a b:Type}{R:Ren->a->b->Prop}{c:Prop}[Decidable c]{s t:Sem a}{s' d:Sem b}(e:c->av T fB fA F K R ρ s s')(f:¬c->av T fB fA F K R ρ t d):av T fB fA F K R ρ (if c then s else t) (if c then s' else d):=by
 split
 ·exact e ‹_›
 ·exact f ‹_›
def rT{a b:Type}{R:Ren->a->b->Prop}{v v':Value}(h:VR F ρ v v'):av T fB fA F K R ρ (goPanic v:Sem a) (goPanic v':Sem b):=⟨v',rfl,h⟩
def ee(t:ao):av T fB fA F K fF ρ (ap t) (ap t):=by
 unfold ap;refine bI ?_;show(av T fB fA F K) fF ρ (match T.info? t with|some i=>pure i|none=>stuck "no such type") (match T.info? t with|some i=>pure i|none=>stuck "no such type")
 cases T.info? t with
 |none=>exact ak
 |some i=>exact ah rfl
def bk(t:ao):av T fB fA F K fF ρ (aq t) (aq t):=by
 unfold aq;refine bI ?_;show(av T fB fA F K) fF ρ (match(bi T fB).underlying t with|some i=>pure i|none=>stuck "no such type") (match(bi T fB).underlying t with|some i=>pure i|none=>stuck "no such type")
 cases(bi T fB).underlying t with
 |none=>exact ak
 |some i=>exact ah rfl
def bN(b:ρ.bw T.globals.size)(t:ao):av T fB fA F K fF ρ (ar t) (ar t):=af b (ee t) λ_ _ _ a c h=>ah (by rw[h])
def CU(b:ρ.bw T.globals.size)(t:ao):av T fB fA F K fF ρ (isAgg t) (isAgg t):=by
 refine af b (bk t) λσ _ _ a c h=>?_;subst h
 split<;>exact ah rfl
def dM(T:aa)(F:ab->Bool)(Z:ao->Bool):Prop:=(∀t i v,Z t=true->T.info? t=some i->i.zero=some v->VR F (λ_ _=>False) v v)/\∀i,T.info? 0=some i->i.methods.find? (·.name == "")=none
def VR.closed{v:Value}(h:VR F (λ_ _=>False) v v)(ρ:Ren):VR F ρ v v:=h.mono λ_ _ x=>x.elim
def gO{Z:ao->Bool}(b:dM T F Z)(c:ρ.bw T.globals.size){t:ao}(d:Z t=true):av T fB fA F K (λσ v v'=>VR F σ v v'/\v=v') ρ (aw t) (aw t):=by
 unfold aw ap;show(av T fB fA F K) _ ρ ((ag >>= λp=>_) >>= _) _;refine af (RA:=λσ(i a:TypeInfo)=>i=a/\T.info? t=some i) c ?_ λσ _ _ i a h=>?_
 ·refine bI ?_;show(av T fB fA F K) _ ρ (match T.info? t with|some i=>pure i|none=>stuck "no such type") (match T.info? t with|some i=>pure i|none=>stuck "no such type")
  cases e:T.info? t with
  |none=>exact ak
  |some i=>exact ah ⟨rfl,rfl⟩
 ·obtain⟨rfl,hi⟩:=h
  cases hv:i.zero with
  |none=>simp only;exact aA
  |some v=>simp only;exact ah ⟨VR.closed (b.1 t i v d hi hv) σ,rfl⟩
def tR(f:ρ.bw T.globals.size){a a':Addr}(h:AR ρ a a')(n:Nat):∀(i:Nat){b d:Array Value},VA F ρ b d->av T fB fA F K (RVA F) ρ (aB a i n b) (aB a' i n d):=by
 induction n generalizing ρ with
 |zero=>intro i b d e;exact ah e
 |succ n g=>
  intro i b d e;exact af f (IZ (h.add i)) λσ c j v v' hv=>g j (h.mono c) (i+1) (VA.push (bu c e) hv)
def rU(b:ρ.bw T.globals.size){a a':Addr}(h:AR ρ a a')(n:Nat):av T fB fA F K (RVA F) ρ (loadCells a n) (loadCells a' n):=tR b h n 0 VA.nil
def qD(d:ρ.bw T.globals.size){a a':Addr}(h:AR ρ a a'){vs c:List Value}(hv:cU F ρ vs c):∀i:Nat,av T fB fA F K fF ρ (storeCells a vs i) (storeCells a' c i):=by
 induction vs generalizing ρ c with
 |nil=>intro i;cases hv;exact ah rfl
 |cons v vs e=>
  intro i
  cases hv with
  |cons f g=>exact af d (N9 (h.add i) f) λσ b j _ _ _=>e j (h.mono b) (cU.mono b g) (i+1)
def wN(e:ρ.bw T.globals.size)(t:ao){a a':Addr}(h:AR ρ a a'):av T fB fA F K (RV F) ρ (loadVar t a) (loadVar t a'):=by
 refine af e (CU e t) λσ d f b b' hb=>?_;subst hb;refine aN (λ_=>?_) λ_=>IZ (h.mono d);refine af f (bN f t) λk i g n n' j=>?_;subst j;exact af g (rU g ((h.mono d).mono i) n) λ_ _ _ c l hc=>ah (VR.agg hc)
def CV(c:ρ.bw T.globals.size)(t:ao){a a':Addr}(h:AR ρ a a'){v v':Value}(hv:VR F ρ v v'):av T fB fA F K fF ρ (aF t a v) (aF t a' v'):=by
 unfold aF;refine af c (bN c t) λσ b d n n' e=>?_;subst e;have hs:=bv hv.cells;rw[hs]
 split
 ·exact bz
 ·exact qD d (h.mono b) (cU.mono b hv.cells) 0
def tS(a:ρ.bw T.globals.size)(t:ao){c c':Array Value}(h:VA F ρ c c'):av T fB fA F K RA_ ρ (newRow t c) (newRow t c'):=
 af a (jO (.cells t (0,0) h)) λ_ _ _ _ _ b=>ah ⟨b,rfl,rfl⟩
def zZ(a:ρ.bw T.globals.size)(t:ao){v v':Value}(h:VR F ρ v v'):av T fB fA F K RA_ ρ (newVar t v) (newVar t v'):=tS a t h.cells
def kI(f:ρ.bw T.globals.size)(t:ao){c c':Array Value}(h:VA F ρ c c')(off:Nat):av T fB fA F K (RV F) ρ (part t c off) (part t c' off):=by
 refine af f (CU f t) λσ a g b b' hb=>?_;subst hb;refine aN (λ_=>?_) λ_=>?_
 ·refine af g (bN g t) λk i l n n' j=>?_;subst j;exact ah (VR.agg (VA.extract (bu i (bu a h)) _ _))
 ·rcases VA.get? (bu a h) off with⟨d,e⟩|⟨v,v',d,e,hv⟩
  ·rw[d,e];exact ak
  ·rw[d,e];exact ah hv
def jT{v v':Value}(h:VR F ρ v v'):av T fB fA F K fF ρ (asIntOf v) (asIntOf v'):=by
 cases h<;>first|exact ah rfl|exact ak|exact aA
def Oa(b:ρ.bw T.globals.size){v v':Value}(h:VR F ρ v v'):av T fB fA F K fF ρ (asInt v) (asInt v'):=af b (jT h) λ_ _ _ a c e=>ah (by rw[e])
def tU{v v':Value}(h:VR F ρ v v'):av T fB fA F K fF ρ (asBool v) (asBool v'):=by
 cases h<;>first|exact ah rfl|exact ak
def Ob{v v':Value}(h:VR F ρ v v'):av T fB fA F K (RVA F) ρ (asAgg v) (asAgg v'):=by
 cases h<;>first|(rename_i h;exact ah h)|exact ak
def cX{a b:Type}{R:Ren->a->b->Prop}(m:String):av T fB fA F K R ρ (aH (.error m):Sem a) (aH (.error m):Sem b):=by
 unfold aH;exact bI (rT (.iface _ (.string _)))
def zv{a b:Type}{R:Ren->a->b->Prop}(m:String):av T fB fA F K R ρ (aH (.plain m):Sem a) (aH (.plain m):Sem b):=by
 unfold aH;exact bI (rT (.iface _ (.string _)))
def nY{a b:Type}{R:Ren->a->b->Prop}:av T fB fA F K R ρ (aH .nilDeref:Sem a) (aH .nilDeref:Sem b):=by
 unfold aH;exact bI (rT (.iface _ (.string _)))
def nZ{a b:Type}{R:Ren->a->b->Prop}(x y:Int)(s:Bool)(c:aJ):av T fB fA F K R ρ (aH (.bounds x y s c):Sem a) (aH (.bounds x y s c):Sem b):=by
 unfold aH;exact bI (rT (.iface _ (.agg (.cons (.int _ _) (.cons (.int _ _) (.cons (.bool _) (.cons (.int _ _) .nil)))))))
def dW(d:ρ.bw T.globals.size){a b:Type}{R:Ren->a->b->Prop}(k:IntKind)(x y:Int)(c:aJ):av T fB fA F K R ρ (aL k x y c:Sem a) (aL k x y c:Sem b):=by
 unfold aL;refine aN (λ_=>?_) λ_=>nZ _ _ _ _;exact⟨_,rfl,λn=>nZ _ _ _ _⟩
def z7{v v':Value}(h:VR F ρ v v'):av T fB fA F K RA_ ρ (asAddr v) (asAddr v'):=by
 cases h<;>first|exact nY|exact ak|(rename_i h;exact ah h)
def iV{v v':Value}(h:VR F ρ v v'):av T fB fA F K RA_ ρ (bx v) (bx v'):=by
 cases h<;>first|exact ak|(rename_i h;exact ah h)
def Oc{Z:ao->Bool}(c:dM T F Z)(a:ρ.bw T.globals.size){t:ao}(d:Z t=true):av T fB fA F K (RV F) ρ (bA t true (.tuple #[])) (bA t true (.tuple #[])):=by
 unfold bA;refine af a (gO c a d) λσ _ b z f h=>?_;exact af b (zZ b t h.1) λ_ _ _ _ _ e=>ah (.ptr e)
def XY(a:ρ.bw T.globals.size)(t:ao){v v':Value}(h:VR F ρ v v'):av T fB fA F K (RV F) ρ (bL t v) (bL t v'):=
 af a (zZ a t h) λ_ _ _ _ _ b=>ah (.ptr b)
def Lx(a:ρ.bw T.globals.size)(t:ao){v v':Value}(h:VR F ρ v v'):av T fB fA F K (RV F) ρ (bM t v) (bM t v'):=
 af a (iV h) λ_ _ b _ _ c=>wN b t c
def FR(c:ρ.bw T.globals.size)(t:ao){v v' x b:Value}(h:VR F ρ v v')(d:VR F ρ x b):av T fB fA F K fF ρ (bR t v x) (bR t v' b):=
 af c (iV h) λ_ a e _ _ f=>CV e t f (d.mono a)
inductive kX(F:ab->Bool)(ρ:Ren):List (Nat×Value)->List (Nat×Value)->Prop
 |nil:kX F ρ [] []
 |cons (i:Nat) {v v':Value} {l l':List (Nat×Value)} (h:VR F ρ v v') (t:kX F ρ l l'):kX F ρ ((i,v)::l) ((i,v')::l')
def kX.mono{l l':List (Nat×Value)}(h:ρ.le σ)(x:kX F ρ l l'):kX F σ l l':=by
 induction x with
 |nil=>exact .nil
 |cons i a _ b=>exact .cons i (a.mono h) b
def Od(off:Nat):∀{l l':List Value}{cs cs':Array Value}(j:Nat),cU F ρ l l'->VA F ρ cs cs'->
 VA F ρ ((l.zipIdx j).foldl (λcs(c,j)=>cs.setIfInBounds (off+j) c) cs) ((l'.zipIdx j).foldl (λcs(c,j)=>cs.setIfInBounds (off+j) c) cs'):=by
 intro l
 induction l with
 |nil=>intro l' cs cs' j h hc;cases h;exact hc
 |cons v l a=>
  intro l' cs cs' j h hc
  cases h with
  |cons b d=>simpa using a (j+1) d (VA.set hc (off+j) b)
def wO(place:Nat->Option (Nat×Nat)):∀{l l':List (Nat×Value)}{cs cs':Array Value},kX F ρ l l'->VA F ρ cs cs'->
 (bT place cs l=none/\bT place cs' l'=none)\/∃r a,bT place cs l=some r/\bT place cs' l'=some a/\VA F ρ r a:=by
 intro l
 induction l with
 |nil=>intro l' cs cs' h hc;cases h;exact .inr ⟨_,_,rfl,rfl,hc⟩
 |cons p l b=>
  intro l' cs cs' h hc
  cases h with
  |@cons i v v' _ l' hv t=>
   simp only[bT]
   cases e:place i with
   |none=>exact .inl ⟨rfl,rfl⟩
   |some c=>
    obtain⟨off,size⟩:=c;simp only;rw[<-bv hv.cells,<-bv hc]
    split
    ·exact .inl ⟨rfl,rfl⟩
    ·refine b t ?_;have d:=Od (F:=F) (ρ:=ρ) off 0 hv.cells hc;rw[<-ca,<-ca,cb,cb];exact d
def FU{d i:Type}(e:ρ.bw T.globals.size){f f':d->Sem i}:∀(l:List d),(∀x∈l,∀σ:Ren,ρ.le σ->σ.bw T.globals.size->av T fB fA F K fF σ (f x) (f' x))->av T fB fA F K fF ρ (l.mapM f) (l.mapM f'):=by
 intro l
 induction l generalizing ρ with
 |nil=>intro _;simp only[List.mapM_nil];exact ah rfl
 |cons x l j=>
  intro h;simp only[List.mapM_cons];refine af e (h x (by simp) ρ (ce _) e) λσ c g a p k=>?_;refine af g (j g λy hy m n o=>h y (by simp[hy]) m (cf c n) o) λ_ _ _ b b' hb=>?_;exact ah (by rw[k,hb])
def CW{c d:Type}(g:ρ.bw T.globals.size){f f':c->Sem d}(l:Array c)(h:∀x∈l.toList,∀σ:Ren,ρ.le σ->σ.bw T.globals.size->av T fB fA F K fF σ (f x) (f' x)):av T fB fA F K fF ρ (l.mapM f) (l.mapM f'):=by
 rw[cc,cc];have:∀(s b:Sem (List d)),av T fB fA F K fF ρ s b->av T fB fA F K fF ρ (Functor.map List.toArray s) (Functor.map List.toArray b):=λs b h=>by
  rw[map_eq_pure_bind,map_eq_pure_bind];exact af g h λ_ _ _ a i e=>ah (by rw[e])
 exact this _ _ (FU g l.toList h)
end
section
variable (T:aa)(f g:Array Func)
def lI(d:Nat):aP ⟨T,f⟩ d=aP ⟨T,g⟩ d:=by
 induction d with
 |zero=>rfl
 |succ d a=>funext t off;simp only[aP,a];rfl
def tV(d:Nat):aT ⟨T,f⟩ d=aT ⟨T,g⟩ d:=by
 induction d with
 |zero=>rfl
 |succ d a=>funext t off;simp only[aT,a];rfl
def rV(d:Nat):a5 ⟨T,f⟩ d=a5 ⟨T,g⟩ d:=by
 funext e count off bytes;unfold a5;simp only[lI T f g,tV T f g];rfl
def kJ(d:Nat):bj ⟨T,f⟩ d=bj ⟨T,g⟩ d:=by
 induction d with
 |zero=>rfl
 |succ d a=>funext t;simp only[bj,a];rfl
def uR(d:Nat):bl ⟨T,f⟩ d=bl ⟨T,g⟩ d:=by
 induction d with
 |zero=>rfl
 |succ d a=>funext t u;simp only[bl,a]
def vD(t:ao):bm ⟨T,f⟩ t=bm ⟨T,g⟩ t:=by
 simp only[bm,uR T f g];try rfl
def rW(t:ao):bo ⟨T,f⟩ t=bo ⟨T,g⟩ t:=by
 simp only[bo,vD T f g];try rfl
def wP(t:ao):bp ⟨T,f⟩ t=bp ⟨T,g⟩ t:=by
 simp only[bp,uR T f g];try rfl
def Bb(t:ao):bq ⟨T,f⟩ t=bq ⟨T,g⟩ t:=by
 simp only[bq,wP T f g]
def rX(d:Nat):br ⟨T,f⟩ d=br ⟨T,g⟩ d:=by
 induction d with
 |zero=>rfl
 |succ d a=>funext t;simp only[br,a,Bb T f g];rfl
end
section
variable {T:aa}{fB fA:Array Func}{F:ab->Bool}{K:Code->Bool}{ρ σ:Ren}
def Oe{Z:ao->Bool}(v:dM T F Z)(c:ρ.bw T.globals.size){t:ao}(w:Z t=true){ps f:Array (Nat×Value)}(h:kX F ρ ps.toList f.toList):av T fB fA F K (RV F) ρ (bX t ps) (bX t f):=by
 unfold bX;refine af c (gO v c w) λσ m y z H A=>?_;refine af y (bk t) λI q l d J hd=>?_;subst hd;have u:=h.mono (cf m q);have g:=VR.cells (A.1.mono q)
 cases d with
 |struct fields=>
  refine af l (CW l fields λx _ σ _ c=>af c (bN c x.type) λ_ _ _ a L e=>ah (by rw[e])) λo j _ B C D=>?_;subst D
  rcases wO (F:=F) (ρ:=o) (B[·]?) (u.mono j) (bu j g) with⟨b,k⟩|⟨r,E,b,k,p⟩
  ·simp only[b];exact ak
  ·simp only[b,k];exact ah (.agg p)
 |array n elem=>
  refine af l (bN l elem) λo j _ s M hs=>?_;subst hs
  rcases wO (F:=F) (ρ:=o) (λi=>some (i*s,s)) (u.mono j) (bu j g) with⟨b,k⟩|⟨r,E,b,k,p⟩
  ·simp only[b];exact ak
  ·simp only[b,k];exact ah (.agg p)
 |_=>exact ak
def z8(d:ρ.bw T.globals.size){r c:Nat}(h:ρ r c):av T fB fA F K (λ_ a a'=>a=none/\a'=none) ρ (viewAt r) (viewAt c):=by
 unfold viewAt;refine af d (jS h) λσ b f x i e=>?_;subst e;refine aN (λ_=>ah ⟨rfl,rfl⟩) λ_=>?_;refine af f (dA (b h)) λ_ _ _ o j g=>?_;cases g<;>exact ah ⟨rfl,rfl⟩
def tX(b:ρ.bw T.globals.size){a a':Addr}(h:AR ρ a a'):av T fB fA F K fF ρ (a6 a) (a6 a'):=by
 unfold a6;refine af b (z8 b h.1) λσ c d x f e=>?_;obtain⟨rfl,rfl⟩:=e;exact ah rfl
def uS(f:ρ.bw T.globals.size){r d:Nat}(h:ρ r d) :
 av T fB fA F K (λσ x b=>(x=none/\b=none)\/∃a a' l,x=some (a,l)/\b=some (a',l)/\AR σ a a') ρ (a7 r) (a7 d):=by
 unfold a7;refine af f (jS h) λσ c g x b e=>?_;subst e;refine aN (λ_=>ah (.inl ⟨rfl,rfl⟩)) λ_=>?_;refine af g (dA (c h)) λ_ _ _ o j i=>?_
 cases i with
 |number l a=>exact ah (.inr ⟨_,_,l,rfl,rfl,a⟩)
 |_=>exact ah (.inl ⟨rfl,rfl⟩)
def gC(f:ρ.bw T.globals.size){a a':Addr}(h:AR ρ a a'):av T fB fA F K (λσ x c=>AR σ x.1 c.1/\x.2=c.2) ρ (a8 a) (a8 a'):=by
 unfold a8;refine af f (uS f h.1) λσ d g x c e=>?_
 rcases e with⟨rfl,rfl⟩|⟨b,b',l,rfl,rfl,hb⟩
 ·exact ah ⟨h.mono d,rfl⟩
 ·exact ah ⟨hb,rfl⟩
def iA(d:ρ.bw T.globals.size){a a':Addr}(h:AR ρ a a'):av T fB fA F K fF ρ (byteOf a) (byteOf a'):=by
 unfold byteOf;obtain⟨f,g,i⟩:=h;rw[<-i]
 cases hs:a.spot with
 |some s=>exact ah rfl
 |none=>
  refine bI ?_;refine af d (tX d ⟨f,g,i⟩) λσ c k _ _ _=>?_;refine af k (jS (c f)) λj m o x p e=>?_;subst e
  cases x with
  |none=>exact ak
  |some l=>
   obtain⟨e,n⟩:=l;simp only[<-g,lI T fA fB];show(av T fB fA F K) fF j (if(bs ⟨T,fB⟩ e)=0 then _ else _) (if(bs ⟨T,fB⟩ e)=0 then _ else _);refine aN (λ_=>ah rfl) λ_=>?_;show(av T fB fA F K) fF j (match aP ⟨T,fB⟩ (bt ⟨T,fB⟩) e (a.off % bs ⟨T,fB⟩ e) with|some b=>_|_=>_) (match aP ⟨T,fB⟩ (bt ⟨T,fB⟩) e (a.off % bs ⟨T,fB⟩ e) with|some b=>_|_=>_)
   cases aP ⟨T,fB⟩ (bt ⟨T,fB⟩) e (a.off % bs ⟨T,fB⟩ e) with
   |none=>exact ak
   |some b=>exact ah rfl
def Ly(f:ρ.bw T.globals.size){a a':Addr}(h:AR ρ a a')(c b:Nat):av T fB fA F K RA_ ρ (partAt a c b) (partAt a' c b):=by
 unfold partAt;refine af f (iA f h) λσ d g x k e=>?_;subst e;have i:AR σ { block:=a.block,off:=a.off+c } { block:=a'.block,off:=a'.off+c }:=⟨d h.1,by show a.off+c=a'.off+c;rw[h.2.1],rfl⟩
 refine af g (iA g i) λl j _ y y' e=>?_;subst e;refine ah ?_
 split
 ·exact i.mono j
 ·exact⟨j (d h.1),by show a.off+c=a'.off+c;rw[h.2.1],rfl⟩
def zx(c:ρ.bw T.globals.size){a a':Addr}(h:AR ρ a a')(f:Field):av T fB fA F K RA_ ρ (a9 a f) (a9 a' f):=by
 unfold a9;refine af c (bN c f.type) λσ b d n n' e=>?_;subst e;exact aN (λ_=>Ly d (h.mono b) _ _) λ_=>ah ((h.mono b).add _)
def FV(g:ρ.bw T.globals.size)(s:ao){v v':Value}(h:VR F ρ v v')(i:Nat):av T fB fA F K (RV F) ρ (b1 s v i) (b1 s v' i):=by
 unfold b1;refine af g (bk s) λσ b j d l e=>?_;subst e
 cases d with
 |struct fields=>
  simp only
  cases fields[i]? with
  |none=>exact ak
  |some f=>
   simp only;refine af j (iV (h.mono b)) λm n c a o k=>?_;exact af c (zx c k f) λ_ _ _ _ _ hb=>ah (.ptr hb)
 |_=>exact ak
def Of(b:ρ.bw T.globals.size)(s:ao){v v':Value}(h:VR F ρ v v')(i:Nat):av T fB fA F K (RV F) ρ (b2 s v i) (b2 s v' i):=by
 unfold b2;refine af b (bk s) λσ a c d j e=>?_;subst e
 cases d with
 |struct fields=>
  simp only
  cases fields[i]? with
  |none=>exact ak
  |some f=>exact af c (Ob (h.mono a)) λk _ g _ _ hc=>kI g f.type hc f.offset
 |_=>exact ak
def Og(g:ρ.bw T.globals.size)(t:ao){v v' x f:Value}(h:VR F ρ v v')(j:VR F ρ x f):av T fB fA F K (RV F) ρ (b3 t v x) (b3 t v' f):=by
 unfold b3;refine af g (jT j) λσ c l o p e=>?_;subst e;obtain⟨k,i⟩:=o;refine af l (bk t) λw q a d y e=>?_;subst e;have hv:=h.mono (cf c q)
 cases d with
 |array n elem=>
  cases hv with
  |agg hc=>
   refine aN (λ_=>?_) λ_=>dW a _ _ _ _;refine af a (bN a elem) λz r u m m' e=>?_;subst e;exact kI u elem (bu r hc) _
  |_=>exact ak
 |string=>
  cases hv with
  |string s=>
   simp only
   cases(if 0<=i then s[i.toNat]? else none) with
   |none=>exact dW a _ _ _ _
   |some b=>exact ah (.int _ _)
  |_=>exact ak
 |_=>exact ak
def FW(z:ρ.bw T.globals.size)(t:ao){v v' x y:Value}(h:VR F ρ v v')(A:VR F ρ x y):av T fB fA F K (RV F) ρ (b4 t v x) (b4 t v' y):=by
 unfold b4;refine af z (jT A) λσ s B C E e=>?_;subst e;obtain⟨k,i⟩:=C;refine af B (bk t) λu H o d M e=>?_;subst e;have hv:=h.mono (cf s H);have b:∀(g:Ren)(p:g.bw T.globals.size)(base q:Option Addr)(len:Nat)(elem:ao),
  (base=none/\q=none)\/(∃a j,base=some a/\q=some j/\(AR g a j\/len=0))->av T fB fA F K (RV F) g
  (do
    let w:=len<=1&&(match<-aq t with | .array ..=>true|_=>false)
    match base with
    |some a=>if 0<=i/\i<len then pure (.pointer (some (a.add (i.toNat*(<-ar elem))))) else if w then ad (.noEntry "op/indexAddr.an index out of range at an array of length 0 or 1 (ledger 616)") else aL k i len .index
    |none=>aL k i 0 .index)
  (do
    let w:=len<=1&&(match<-aq t with | .array ..=>true|_=>false)
    match q with
    |some a=>if 0<=i/\i<len then pure (.pointer (some (a.add (i.toNat*(<-ar elem))))) else if w then ad (.noEntry "op/indexAddr.an index out of range at an array of length 0 or 1 (ledger 616)") else aL k i len .index
    |none=>aL k i 0 .index):=by
  intro g p base q len elem hb;refine af p (bk t) λN I r O J e=>?_;subst e
  rcases hb with⟨rfl,rfl⟩|⟨a,j,rfl,rfl,f⟩
  ·exact dW r _ _ _ _
  ·refine aN (λhb=>?_) λ_=>aN (λ_=>aA) λ_=>dW r _ _ _ _
   rcases f with f|rfl
   rotate_left
   ·exact absurd hb (by simp)
   refine af r (bN r elem) λP L _ m m' e=>?_;subst e;exact ah (.ptr (((f.mono I).mono L).add _))
 cases d with
 |array n elem=>
  exact af o (iV hv) λg _ p a j f=>b g p (some a) (some j) n elem (.inr ⟨_,_,rfl,rfl,.inl f⟩)
 |slice elem=>
  cases hv with
  |di l c=>exact b u o none none l elem (.inl ⟨rfl,rfl⟩)
  |slice l c f=>exact b u o _ _ l elem (.inr ⟨_,_,rfl,rfl,.inl f⟩)
  |dK D a=>exact b u o _ _ 0 elem (.inr ⟨_,_,rfl,rfl,.inr rfl⟩)
  |_=>exact bz
 |_=>exact bz
def FX{v v':Value}(h:VR F ρ v v')(i:Nat):av T fB fA F K (RV F) ρ (b5 v i) (b5 v' i):=by
 unfold b5
 cases h with
 |tuple hc=>
  rcases VA.get? hc i with⟨a,b⟩|⟨v,v',a,b,hv⟩
  ·simp only[a];exact ak
  ·simp only[a,b];exact ah hv
 |_=>exact ak
def iQ(b:ρ.bw T.globals.size){x a:Value}(h:VR F ρ x a)(y:Nat)(c:aJ):av T fB fA F K fF ρ (b6 x y c) (b6 a y c):=by
 unfold b6;refine af b (jT h) λσ _ d g f e=>?_;subst e;exact aN (λ_=>ah rfl) λ_=>dW d _ _ _ _
inductive lJ(F:ab->Bool)(ρ:Ren):Option Value->Option Value->Prop
 |none:lJ F ρ none none
 |some {v v':Value} (h:VR F ρ v v'):lJ F ρ (some v) (some v')
def lJ.mono(h:ρ.le σ){o o':Option Value}(x:lJ F ρ o o'):lJ F σ o o':=by
 cases x with
 |none=>exact .none
 |some a=>exact .some (a.mono h)
def eY(d:ρ.bw T.globals.size)(b:Bool)(len cap:Nat){l l' h p m m':Option Value}(hl:lJ F ρ l l')(q:lJ F ρ h p)(s:lJ F ρ m m') :
 av T fB fA F K fF ρ (b7 b len cap l h m) (b7 b len cap l' p m'):=by
 unfold b7;have k:∀(σ:Ren)(_:σ.bw T.globals.size)(H M:Nat)(l l':Option Value)(full:Bool),lJ F σ l l'->av T fB fA F K fF σ
  (do
    let n<-match l with
     |some v=>b6 v H (if full then .slice3C else .sliceB)
     |none=>pure 0
    pure (n,H,M))
  (do
    let n<-match l' with
     |some v=>b6 v H (if full then .slice3C else .sliceB)
     |none=>pure 0
    pure (n,H,M)):=by
  intro σ d H M l l' full hl
  cases hl with
  |none=>exact ah rfl
  |some hv=>exact af d (iQ d hv _ _) λ_ _ _ a u e=>ah (by rw[e])
 cases s with
 |none=>
  refine af (RA:=fF) d (ah rfl) λσ c f M t e=>?_;subst e
  cases q with
  |none=>
   refine af (RA:=fF) f (ah rfl) λg i j H r e=>?_;subst e;exact k g j _ _ _ _ false (hl.mono (cf c i))
  |some hv=>
   refine af (RA:=fF) f (iQ f (hv.mono c) _ _) λg i j H r e=>?_;subst e;exact k g j _ _ _ _ false (hl.mono (cf c i))
 |some o=>
  refine af (RA:=fF) d (iQ d o _ _) λσ c f M t e=>?_;subst e
  cases q with
  |none=>exact bz
  |some hv=>
   refine af (RA:=fF) f (iQ f (hv.mono c) _ _) λg i j H r e=>?_;subst e;exact k g j _ _ _ _ true (hl.mono (cf c i))
def gP(d:ρ.bw T.globals.size){x b:Value}(h:VR F ρ x b)(c:aJ):av T fB fA F K (λ_ a a'=>a=0/\a'=0) ρ (b6 x 0 c) (b6 b 0 c):=by
 unfold b6;refine af d (jT h) λσ _ f g i e=>?_;subst e;refine aN (λh=>ah ?_) λ_=>dW f _ _ _ _;have:g.2.toNat=0:=by have:=h.2;simp at this;omega
 exact⟨this,this⟩
def vE(d:ρ.bw T.globals.size)(b:Bool){l l' h p m m':Option Value}(hl:lJ F ρ l l')(q:lJ F ρ h p)(s:lJ F ρ m m') :
 av T fB fA F K (λ_ a a'=>a=(0,0,0)/\a'=(0,0,0)) ρ (b7 b 0 0 l h m) (b7 b 0 0 l' p m'):=by
 unfold b7;have k:∀(σ:Ren)(_:σ.bw T.globals.size)(l l':Option Value)(full:Bool),lJ F σ l l'->av T fB fA F K (λ_ a a'=>a=(0,0,0)/\a'=(0,0,0)) σ
  (do
    let n<-match l with
     |some v=>b6 v 0 (if full then .slice3C else .sliceB)
     |none=>pure 0
    pure (n,0,0))
  (do
    let n<-match l' with
     |some v=>b6 v 0 (if full then .slice3C else .sliceB)
     |none=>pure 0
    pure (n,0,0)):=by
  intro σ d l l' full hl
  cases hl with
  |none=>exact ah ⟨rfl,rfl⟩
  |some hv=>exact af d (gP d hv _) λ_ _ _ a a' e=>ah (by obtain⟨rfl,rfl⟩:=e;exact⟨rfl,rfl⟩)
 cases s with
 |none=>
  refine af (RA:=λ_ a a'=>a=0/\a'=0) d (ah ⟨rfl,rfl⟩) λσ c f M t e=>?_;obtain⟨rfl,rfl⟩:=e
  cases q with
  |none=>
   refine af (RA:=λ_ a a'=>a=0/\a'=0) f (ah ⟨rfl,rfl⟩) λg i j H r e=>?_;obtain⟨rfl,rfl⟩:=e;exact k g j _ _ false (hl.mono (cf c i))
  |some hv=>
   refine af f (gP f (hv.mono c) _) λg i j H r e=>?_;obtain⟨rfl,rfl⟩:=e;exact k g j _ _ false (hl.mono (cf c i))
 |some o=>
  refine af d (gP d o _) λσ c f M t e=>?_;obtain⟨rfl,rfl⟩:=e
  cases q with
  |none=>exact bz
  |some hv=>
   refine af f (gP f (hv.mono c) _) λg i j H r e=>?_;obtain⟨rfl,rfl⟩:=e;exact k g j _ _ true (hl.mono (cf c i))
def Oi(B:ρ.bw T.globals.size)(t:ao){x w:Value}(p:VR F ρ x w){l l' h y m m':Option Value}(hl:lJ F ρ l l')(i:lJ F ρ h y)(j:lJ F ρ m m') :
 av T fB fA F K (RV F) ρ (b8 t x l h m) (b8 t w l' y m'):=by
 unfold b8;refine af B (bk t) λσ f g d C e=>?_;subst e;have p:=p.mono f;have hl:=hl.mono f;have i:=i.mono f;have j:=j.mono f
 cases d with
 |string=>
  cases p with
  |string s=>
   cases j with
   |some _=>exact bz
   |none=>
    refine af g (eY g _ _ _ hl i .none) λ_ _ _ a r e=>?_;subst e;exact ah (.string _)
  |_=>exact ak
 |slice elem=>
  cases p with
  |di len cap=>
   refine af g (eY g _ _ _ hl i j) λu k c a r e=>?_;subst e;refine af c (bN c elem) λ_ _ _ n n' e=>?_;subst e;refine ah ?_;show VR F _ (.slice (if _ then none else none) _ _) (.slice (if _ then none else none) _ _);simp only[ite_self];exact .di _ _
  |slice len cap q=>
   refine af g (eY g _ _ _ hl i j) λu k c a r e=>?_;subst e;refine af c (bN c elem) λ_ o _ n n' e=>?_;subst e;refine ah ?_
   split
   ·exact .slice _ _ ((q.mono k).mono o)
   ·exact .slice _ _ (((q.mono k).mono o).add _)
  |dK D a=>
   refine af g (vE g _ hl i j) λu k c b b' e=>?_;obtain⟨rfl,rfl⟩:=e;refine af c (bN c elem) λ_ o _ n n' e=>?_;subst e;exact ah (.dK D a)
  |_=>exact ak
 |pointer arr=>
  refine af g (z7 p) λu k c a r q=>?_;refine af c (bk arr) λI o z d C e=>?_;subst e
  cases d with
  |array n elem=>
   have v:=cf k o;refine af z (eY z _ _ _ (hl.mono v) (i.mono v) (j.mono v)) λJ E A b b' e=>?_;subst e;refine af A (bN A elem) λ_ H _ n n' e=>?_;subst e;refine ah ?_;have ha':=((q.mono o).mono E).mono H
   split
   ·exact .slice _ _ ha'
   ·exact .slice _ _ (ha'.add _)
  |_=>exact ak
 |_=>exact ak
def FZ(s:ρ.bw T.globals.size)(t:ao){x k:Value}(f:VR F ρ x k){l l' h o m m':Option Value}(hl:lJ F ρ l l')(g:lJ F ρ h o)(i:lJ F ρ m m') :
 av T fB fA F K (RV F) ρ (b9 t x l h m) (b9 t k l' o m'):=by
 unfold b9;refine af s (bk t) λσ c p d y e=>?_;subst e;have f:=f.mono c;have hl:=hl.mono c;have g:=g.mono c;have i:=i.mono c
 cases d with
 |array n elem=>
  refine af p (iV f) λz j q a A u=>?_;refine af q (eY q _ _ _ (hl.mono j) (g.mono j) (i.mono j)) λB v r b b' e=>?_;subst e;refine af r (bN r elem) λ_ w _ n n' e=>?_;subst e;refine ah ?_;have ha':=(u.mono v).mono w
  split
  ·exact .slice _ _ ha'
  ·exact .slice _ _ (ha'.add _)
 |_=>exact Oi p t f hl g i
def oa{g a:Type}:∀(l:List g){ρ:Ren}(_:ρ.bw T.globals.size)(b:a){f f':g->a->Sem (ForInStep a)},
 (∀x∈l,∀σ:Ren,ρ.le σ->σ.bw T.globals.size->∀b,av T fB fA F K fF σ (f x b) (f' x b))->av T fB fA F K fF ρ (forIn l b f) (forIn l b f'):=by
 intro l
 induction l with
 |nil=>intro ρ c b f f' _;exact ah rfl
 |cons x l i=>
  intro ρ c b f f' h;rw[List.forIn_cons,List.forIn_cons];refine af c (h x (by simp) ρ (ce _) c b) λσ d j s o e=>?_;subst e
  cases s with
  |done b=>exact ah rfl
  |yield b=>exact i j b λy hy k m n b=>h y (by simp[hy]) k (cf d m) n b
def Be{c a:Type}(l:Array c)(d:ρ.bw T.globals.size)(b:a){f f':c->a->Sem (ForInStep a)}
 (h:∀x,∀σ:Ren,ρ.le σ->σ.bw T.globals.size->∀b,av T fB fA F K fF σ (f x b) (f' x b)):av T fB fA F K fF ρ (forIn l b f) (forIn l b f'):=by
 rw[<-cd,<-cd];exact oa l.toList d b λx _=>h x
def oc{a:Type}(n:Nat)(c:ρ.bw T.globals.size)(b:a){f f':Nat->a->Sem (ForInStep a)}
 (h:∀x,∀σ:Ren,ρ.le σ->σ.bw T.globals.size->∀b,av T fB fA F K fF σ (f x b) (f' x b)):av T fB fA F K fF ρ (forIn [0:n] b f) (forIn [0:n] b f'):=by
 rw[cg,cg];exact oa _ c b λx _=>h x
def uT(h:ρ.bw T.globals.size){a a' b b':Addr}(i:AR ρ a a')(hb:AR ρ b b'):av T fB fA F K fF ρ (ba a b) (ba a' b'):=by
 have e1:(a.block==b.block)=(a'.block==b'.block):=by
  rw[ch,beq_iff_eq,beq_iff_eq];exact⟨λe=>h.fn i.1 (e▸hb.1),λe=>h.inj i.1 (e▸hb.1)⟩
 have t:(a==b)=(a'==b'):=by
  rw[ch,beq_iff_eq,beq_iff_eq];exact AR.eq_iff h i hb
 unfold ba;rw[e1,t];refine aN (λ_=>ah rfl) λ_=>?_;refine af h (pL i) λσ d m x j e=>?_;subst e;have tail:∀σ:Ren,ρ.le σ->σ.bw T.globals.size->av T fB fA F K fF σ
  (do
    a6 a
    a6 b
    if<-bb a b then return(<-ae (.extern "sameAddr.stringBytes" 2))==1
    pure false)
  (do
    a6 a'
    a6 b'
    if<-bb a' b' then return(<-ae (.extern "sameAddr.stringBytes" 2))==1
    pure false):=by
  intro σ d m;refine af m (tX m (i.mono d)) λf g q _ _ _=>?_;have d:=cf d g;refine af q (tX q (hb.mono d)) λf g r _ _ _=>?_;have d:=cf d g;refine af r (RA:=fF) ?_ λf g s x j e=>?_
  ·unfold bb;have str:∀(f:Ren)(_:f.bw T.globals.size)(c k:Addr),AR f c k->av T fB fA F K fF f (bc c) (bc k):=by
    intro f h c k hc;unfold bc;refine af h (pL hc) λσ d m x j e=>?_;subst e;refine aN (λ_=>ah rfl) λ_=>?_;refine af m (jS (d hc.1)) λf g u y y' e=>?_;subst e
    cases y with
    |none=>exact ah rfl
    |some v=>exact pL ⟨g (d hc.1),rfl,rfl⟩
   have o:∀(f:Ren)(_:f.bw T.globals.size)(c k:Addr),AR f c k->av T fB fA F K fF f (do pure ((<-shape c.block) matches some (_,0)):Sem Bool) (do pure ((<-shape k.block) matches some (_,0)):Sem Bool):=by
    intro f h c k hc;exact af h (jS hc.1) λ_ _ _ x j e=>ah (by rw[e])
   refine af r (str _ r a a' (i.mono d)) λf g s x j e=>?_;have d:=cf d g;subst e;refine af s (str _ s b b' (hb.mono d)) λf g p x j e=>?_;have d:=cf d g;subst e;refine af p (o _ p a a' (i.mono d)) λf g l x j e=>?_;have d:=cf d g;subst e;refine af l (o _ l b b' (hb.mono d)) λf g l x j e=>?_;subst e;exact ah rfl
  ·subst e;refine aN (λ_=>?_) λ_=>ah rfl;exact⟨_,rfl,λn=>⟨_,rfl,rfl⟩⟩
 refine af m (pL (hb.mono d)) λf g q y y' e=>?_;subst e;refine aN (λ_=>aM) λ_=>?_;exact tail f (cf d g) q
def wT(d:ρ.bw T.globals.size){v v' u c:Value}(h:VR F ρ v v')(k:VR F ρ u c):∀{a a' b b':Option Addr},v=.pointer a->v'=.pointer a'->u=.pointer b->c=.pointer b'->av T fB fA F K fF ρ (bd a b) (bd a' b'):=by
 rintro a a' b b' rfl rfl rfl rfl
 cases h with
 |dS=>cases k<;>exact ah rfl
 |ptr e=>
  cases k with
  |dS=>exact ah rfl
  |ptr hb=>exact uT d e hb
def F0(a:ρ.bw T.globals.size)(t:ao):av T fB fA F K fF ρ (bg t) (bg t):=by
 unfold bg;refine af a (ee t) λσ _ _ i b e=>?_;subst e;exact aN (λ_=>aA) λ_=>ah rfl
set_option maxHeartbeats 8000000 in
def qS:∀(d:Nat){ρ:Ren}(_:ρ.bw T.globals.size)(t:ao){x x' y y':Value}(_:VR F ρ x x')(_:VR F ρ y y'),av T fB fA F K fF ρ (Op.equalIn d t x y) (Op.equalIn d t x' y'):=by
 intro d
 induction d with
 |zero=>intro ρ hI t x x' y y' _ _;exact aA
 |succ d ih=>
  intro ρ hI t x x' y y' hx hy;unfold Op.equalIn;refine af hI (bk t) λσ hle bC ds ds' e=>?_;subst e;have hx:=hx.mono hle;have hy:=hy.mono hle
  cases ds with
  |bool=>cases hx<;>cases hy<;>first|exact ah rfl|exact ak
  |int k=>
   cases hx with
   |int k n=>
    cases hy with
    |int k' m=>exact aN (λ_=>ah rfl) λ_=>ak
    |dS=>exact aA
    |ptr _=>
     by_cases hn:n=0
     ·subst hn;exact ah rfl
     ·cases n with
      |ofNat n=>cases n with
       |zero=>exact absurd rfl hn
       |succ n=>exact aA
      |negSucc n=>exact aA
    |_=>exact ak
   |dS=>cases hy<;>exact aA
   |ptr ha=>
    cases hy with
    |int k' m=>
     by_cases hn:m=0
     ·subst hn;exact ah rfl
     ·cases m with
      |ofNat n=>cases n with
       |zero=>exact absurd rfl hn
       |succ n=>exact aA
      |negSucc n=>exact aA
    |ptr hb=>
     refine af bC (gC bC ha) λτ aI gE a a' ha=>?_;refine af gE (gC gE (hb.mono aI)) λυ gp iP b b' hb=>?_;have ha:=ha.1;have hb:=hb.1;have ha:=ha.mono gp;refine bI ?_;have e1:(a.1.block==b.1.block)=(a'.1.block==b'.1.block):=by
      rw[ch,beq_iff_eq,beq_iff_eq];exact⟨λe=>iP.fn ha.1 (e▸hb.1),λe=>iP.inj ha.1 (e▸hb.1)⟩
     have e2:(a.1==b.1)=(a'.1==b'.1):=by
      rw[ch,beq_iff_eq,beq_iff_eq];exact AR.eq_iff iP ha hb
     have e3:decide (a.1.block<T.globals.size)=decide (a'.1.block<T.globals.size):=by
      rw[decide_eq_decide];exact iP.XS ha.1
     have rest:∀(φ:Ren),υ.le φ->φ.bw T.globals.size->av T fB fA F K fF φ
      (do
        let .named "sync.copyChecker" _:=(<-ap t).desc|unsupported .addressObserved
        if a.1==b.1 then pure true else ad .addressObserved)
      (do
        let .named "sync.copyChecker" _:=(<-ap t).desc|unsupported .addressObserved
        if a'.1==b'.1 then pure true else ad .addressObserved):=by
      intro φ _ hIf;refine af hIf (ee t) λχ _ _ i i' e=>?_;subst e;rw[e2]
      split
      ·exact aN (λ_=>ah rfl) λ_=>aA
      ·exact aA
     simp only[e1];show(av T fB fA F K) fF υ (if(_&&decide (a.1.block<T.globals.size))=true then _ else _) (if(_&&decide (a'.1.block<T.globals.size))=true then _ else _);rw[e3];refine aN (λ_=>?_) λ_=>rest υ (ce _) iP;refine af iP (iA iP ha) λφ kY qq z z' e=>?_;subst e;refine af qq (iA qq (hb.mono kY)) λ_ _ _ z z' e=>?_;subst e;exact ah rfl
    |_=>exact aA
   |_=>cases hy<;>first|exact ak|exact aA
  |float k=>
   cases hx<;>cases hy<;>first|exact aN (λ_=>ah rfl) (λ_=>ak)|exact ak
  |complex k=>
   cases hx<;>cases hy<;>first|exact aN (λ_=>ah rfl) (λ_=>ak)|exact ak
  |string=>cases hx<;>cases hy<;>first|exact ah rfl|exact ak
  |pointer elem=>
   cases hx with
   |dS=>cases hy<;>first|exact ah rfl|exact ak
   |ptr ha=>
    cases hy with
    |dS=>exact ah rfl
    |ptr hb=>
     refine af bC (bN bC elem) λτ aI gE n n' e=>?_;subst e;refine aN (λ_=>uT gE (ha.mono aI) (hb.mono aI)) λ_=>?_;have e2:(_==_)=(_==_):=Bool.eq_iff_iff.2 ((beq_iff_eq.trans (AR.eq_iff gE (ha.mono aI) (hb.mono aI))).trans beq_iff_eq.symm);rw[e2];refine aN (λ_=>ah rfl) λ_=>?_;exact⟨_,rfl,λn=>⟨_,rfl,rfl⟩⟩
    |_=>exact ak
   |_=>cases hy<;>exact ak
  |unsafePointer=>
   cases hx<;>cases hy<;>first|exact ak|(refine wT bC ?_ ?_ rfl rfl rfl rfl<;>(constructor<;>assumption))
  |chan _ _=>cases hx<;>cases hy<;>exact ak
  |interface ms=>
   cases hx with
   |nilIface=>cases hy<;>first|exact ah rfl|exact ak
   |iface tx hvx=>
    cases hy with
    |nilIface=>exact ah rfl
    |iface ty hvy=>
     refine aN (λ_=>ah rfl) λ_=>?_;refine af bC (ee tx) λτ aI gE i i' e=>?_;subst e;refine aN (λ_=>?_) λ_=>ih gE tx (hvx.mono aI) (hvy.mono aI);refine bI ?_;refine bI ?_;rw[rX T fA fB];show(av T fB fA F K) fF τ (if(br ⟨T,fB⟩ (bt ⟨T,fB⟩) tx)=true then _ else _) (if(br ⟨T,fB⟩ (bt ⟨T,fB⟩) tx)=true then _ else _);refine aN (λ_=>aM) λ_=>?_;refine af gE (F0 gE tx) λυ _ _ z z' e=>?_;subst e;exact cX _
    |_=>exact ak
   |_=>cases hy<;>exact ak
  |struct fields=>
   cases hx with
   |agg Tw=>
    cases hy with
    |agg hys=>
     refine bI ?_;rw[rW T fA fB];refine aN (λ_=>aM) λ_=>?_;refine af bC (Be fields bC _ λf τ aI gE b=>?_) λυ _ _ z z' e=>?_
     ·refine aN (λ_=>?_) λ_=>ah rfl;refine af gE (kI gE f.type (bu aI Tw) f.offset) λυ gp iP p p' hp=>?_;refine af iP (kI iP f.type (bu gp (bu aI hys)) f.offset) λφ kY qq q q' hq=>?_;refine af qq (ih qq f.type (hp.mono kY) hq) λ_ _ _ z z' e=>?_;subst e;exact aN (λ_=>ah rfl) λ_=>ah rfl
     ·subst e;obtain⟨z1,z2⟩:=z;cases z1<;>exact ah rfl
    |_=>exact ak
   |_=>cases hy<;>exact ak
  |array len elem=>
   cases hx with
   |agg Tw=>
    cases hy with
    |agg hys=>
     refine af bC (bN bC elem) λτ0 X2 hI0 n n' e=>?_;subst e;have Tw:=bu X2 Tw;have hys:=bu X2 hys;refine af hI0 (oc len hI0 _ λi τ aI gE b=>?_) λυ _ _ z z' e=>?_
     ·refine af gE (kI gE elem (bu aI Tw) (i*n)) λυ gp iP p p' hp=>?_;refine af iP (kI iP elem (bu gp (bu aI hys)) (i*n)) λφ kY qq q q' hq=>?_;refine af qq (ih qq elem (hp.mono kY) hq) λ_ _ _ z z' e=>?_;subst e;exact aN (λ_=>ah rfl) λ_=>ah rfl
     ·subst e;obtain⟨z1,z2⟩:=z;cases z1<;>exact ah rfl
    |_=>exact ak
   |_=>cases hy<;>exact ak
  |slice _=>cases hx<;>cases hy<;>first|exact ah rfl|exact ak
  |map _ _=>cases hx<;>cases hy<;>first|exact ah rfl|exact ak
  |func _ _ _=>cases hx<;>cases hy<;>first|exact ah rfl|exact ak
  |_=>cases hx<;>cases hy<;>exact ak
end
end Go.bJ
