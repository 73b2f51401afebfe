/- Part of the proof of FieldFlat and FieldMarshals. -/
import Derived.Test.YtmkjeaacgibnoaaGreatY02
import Derived.Conc.Listed
import Derived.RunT
set_option linter.all false
open Go renaming typeInfo->aa,runtimePanic->ab,Tables->ac,FuncId->ad,TypeId->ae,callFunc->ag,method->ai,nilAhead->ao,invoke->ap,Operand->aq,execOp->ar,Deferred->aw,PanicEntry->aB,FrameMode->aF,exitTo->aH,findLabel->aI,gotoIn->aJ,yielded->aL
open Go.Builtin renaming holdsCells->aP,zeroCells->aT,mayShare->a5,append_->a6,len_->a7,max2->a8,min2->a9,max_->ba,min_->bb
open Array renaming toList_map->bc,range->bd,getElem?_eq_getElem->bg,foldl_toList->bi,toList_zip->bj,replicate->bl
open Go.bJ.VA renaming get?->bm,mono->bo,append->bp
open Go.Instr renaming buildSlice->bq,fill->br,getLoop->bs,yield->bt,mapUpdate->bu
open Bool renaming false_eq_true->bv,and_eq_true->bx
open Go.Deferred renaming ofValue->bA
open Go.Program renaming eqGuardType->bC,depth->bL
open Go.Frame renaming enter->bM
open Go.stepG renaming apply->bR
namespace Go.bJ
open Builtin in
def jU(elem size d e:Nat)(base:Option Addr)(s x:Value):Sem Value:=do
 let n<-lenOf x;let appended:Sem (Array Value):=firstCells size n x;let b:=d+n
 if b<=e then
  let new<-appended
  if let some a:=base then storeCells (a.add (d*size)) new.toList
  pure (.slice base b e)
 else
  if(b:Int) > IntKind.i64.max/\((false:Bool)\/(<-aa elem).bytes=0) then ab (.error "growslice: len out of range")
  if nextslicecap b e*(<-aa elem).bytes > 2 ^ 48 then(if(false:Bool) then ab (.error "growslice: len out of range") else do
   if !(<-mayShare size d n base x) then mark .noRoom
   unsupported (.resourceLimit "append: a slice or a string whose bytes no memory bears"))
  let f<-choose (.appendCap b e elem)
  askRoom (f*(<-aa elem).bytes)
  let g<-firstCells size d s;let new<-appended;let c:=zeroCells (<-zeroValue elem).cells (f-b)
  pure (.slice (some (<-newRow elem (g++new++c))) b f)
def I7(size n:Nat)(base:Option Addr)(x:Value)(there:Bool):Sem Bool:=
 if(!there)=true then pure true else
 match x with
 |.slice (some b) _ _=>do pure (!(<-aP b (n*size))||base.any (·.block==b.block))
 |_=>pure false
section
variable {T:ac}{fB fA:Array Func}{F:ad->Bool}{K:Code->Bool}{ρ σ:Ren}
def VA.zeroCells{c:Array Value}(h:VA F ρ c c)(n:Nat):VA F ρ (aT c n) (aT c n):=by
 show cU _ _ _ _;unfold aT;rw[bc];refine cU.map _ λi hi=>?_
 rcases Nat.eq_zero_or_pos c.size with b|b
 ·have:i∈bd (n*c.size):=Array.mem_toList_iff.1 hi;simp[b]at this
 ·have hl:=Nat.mod_lt i b
  rcases bm h (i % c.size) with⟨a,_⟩|⟨v,v',a,d,hv⟩
  ·rw[bg hl]at a;cases a
  ·rw[a]at d;cases d;rw[getElem!_pos c _ hl];rw[bg hl]at a;cases a;exact hv
def qV(T:ac)(fB:Array Func){a:Type}:Sem a->Prop
 |.pure _=>True
 |.program k=>qV T fB (k ⟨T,fB⟩)
 |.shape _ k=>∀x,qV T fB (k x)
 |.frozen _ k=>∀x,qV T fB (k x)
 |_=>False
def qV.bind{c d:Type}{s:Sem c}{f:c->Sem d}(h:qV T fB s)(hf:∀a,qV T fB (f a)):qV T fB (s.bind f):=by
 induction s with
 |pure a=>exact hf a
 |program k b=>exact b _ h
 |shape r k b=>exact λx=>b x (h x)
 |frozen r k b=>exact λx=>b x (h x)
 |_=>exact h.elim
def qV.dead{c d:Type}{s:Sem c}{f:c->Sem d}(h:qV T fB s)(hf:∀a,bW T fB (f a)):bW T fB (s.bind f):=by
 induction s with
 |pure a=>exact hf a
 |program k b=>exact b _ h
 |shape r k b=>exact λx=>b x (h x)
 |frozen r k b=>exact λx=>b x (h x)
 |_=>exact h.elim
theorem look_holds(a:Addr)(n:Nat):qV T fB (aP a n):=λx=>by cases x<;>trivial
def Ab(size n:Nat)(b:Option Addr)(x:Value)(there:Bool):qV T fB (I7 size n b x there):=by
 unfold I7
 split
 ·trivial
 ·split
  ·exact qV.bind (look_holds _ _) λ_=>trivial
  ·trivial
def Gg(size l n:Nat)(b:Option Addr)(x:Value):qV T fB (a5 size l n b x):=by
 cases b with
 |none=>exact Ab size n none x true
 |some p=>
  unfold a5;simp only;exact qV.bind (look_holds _ _) λy=>λz=>Ab size n (some p) x (y && !z)
def zA{Z:ae->Bool}(E:dM T F Z)(f:ρ.bw T.globals.size){elem:ae}(t:Z elem=true)(size l c:Nat){b b':Option Addr}(hs:VR F ρ (.slice b l c) (.slice b' l c)){x v:Value}(g:VR F ρ x v) :
 av T fB fA F K (RV F) ρ (jU elem size l c b (.slice b l c) x) (jU elem size l c b' (.slice b' l c) v):=by
 unfold jU;have u:∀a w,Value.slice b l c=.slice a 0 w->l=0:=λa w h=>by cases h;rfl
 refine af f (LG g) λσ d f n n' e=>?_;obtain⟨rfl,p⟩:=e;have g:=g.mono d;have hs:=hs.mono d;simp only;refine aN (λM=>?_) λ_=>?_
 ·by_cases A:c=0
  ·subst A;obtain rfl:n=0:=by omega
   obtain rfl:l=0:=by omega
   refine af f (Gb size g) λB d f new C o=>?_;obtain⟨rfl,rfl⟩:=o;have hs:=hs.mono d
   cases hs with
   |di=>exact ah (.di _ _)
   |slice _ _ s=>exact ah (.slice _ _ s)
   |dK D a=>exact ah (.dK D a)
  refine af f (kZ f size n g p) λB d f new C o=>?_;have hs:=hs.mono d
  cases hs with
  |dK D a=>exact absurd rfl A
  |di=>exact ah (.di _ _)
  |slice _ _ s=>exact af f (qD f (s.add _) o 0) λm d f _ _ _=>ah (.slice _ _ (s.mono d))
 ·refine af f (ee elem) λB d f i N e=>?_;subst e;have g:=g.mono d;have hs:=hs.mono d;refine aN (λ_=>?_) λ_=>?_
  ·exact af (RA:=λ_ _ _=>False) f (cX _) λ_ _ _ _ _ h=>h.elim
  refine af f (ee elem) λm d f j O e=>?_;subst e;have g:=g.mono d;have hs:=hs.mono d;refine aN (λ_=>?_) λ_=>?_
  ·refine af (RA:=λ_ _ _=>False) f ?_ λ_ _ _ _ _ h=>h.elim;refine aN (λh=>absurd h (by decide)) λ_=>?_;refine bW.rel ?_ _;refine qV.dead (Gg size l n b x) λy=>?_;cases y
   ·exact⟨rfl,rfl⟩
   ·rfl
  refine af f (lH _) λm d f cap H e=>?_;subst e;have g:=g.mono d;have hs:=hs.mono d;refine af f (ee elem) λm d f k k' e=>?_;subst e;have g:=g.mono d;have hs:=hs.mono d;refine af f (FQ _) λm d f _ _ _=>?_;have g:=g.mono d;have hs:=hs.mono d;refine af f (kZ f size l hs u) λm d f I P q=>?_;have g:=g.mono d;refine af f (kZ f size n g p) λm d f new C o=>?_;have q:=bo d q;refine af f (gO E f t) λm d f z Q h=>?_;obtain⟨J,rfl⟩:=h;have q:=bo d q;have o:=bo d o;refine af f (tS f elem (bp (bp q o) (VA.zeroCells J.cells _))) λm d f r R L=>ah (.slice _ _ L)
def LH{Z:ae->Bool}(J:dM T F Z)(v:ρ.bw T.globals.size){ts:Array ae}(t:ae)(L:∀s,ts[0]?=some s->∀e,tY T s=some (.slice e)->Z e=true)(w:∀s,ts[1]?=some s->∀k,tY T s≠some (.int k))
 {n B:Array Value} (C:VA F ρ n B):av T fB fA F K (RV F) ρ (a6 ts t n) (a6 ts t B):=by
 unfold a6
 rcases bm C 0 with⟨u,E⟩|⟨s,M,u,E,hs⟩
 ·rw[u];cases ts[0]?<;>exact ak
 rcases bm C 1 with⟨k1,k2⟩|⟨x,N,k1,k2,y⟩
 ·rw[u,k1];cases ts[0]?<;>exact ak
 rw[u,E,k1,k2]
 cases O:ts[0]? with
 |none=>exact ak
 |some H=>
  simp only;refine af v (fG H) λσ a m d z e=>?_;obtain⟨rfl,j⟩:=e;have hs:=hs.mono a;have y:=y.mono a
  cases d with
  |slice elem=>
   have A:=L H O elem j;have fin:∀(f:Ren),f.bw T.globals.size->σ.le f->∀(size l c:Nat)(b b':Option Addr),s=.slice b l c->M=.slice b' l c->
    av T fB fA F K (RV F) f (jU elem size l c b (.slice b l c) x) (jU elem size l c b' (.slice b' l c) N):=by
    intro f v a size l c b b' e1 P;subst e1 P;exact zA J v A size l c (hs.mono a) (y.mono a)
   cases hs with
   |di l c=>
    simp only;refine af m (bN m elem) λf g h size I e=>?_;subst e
    cases e1:ts[1]? with
    |none=>exact fin f h g size l c none none rfl rfl
    |some i=>
     refine af h (fG i) λo p r d z e=>?_;obtain⟨rfl,j⟩:=e
     cases d with
     |int k=>exact absurd j (w i e1 k)
     |_=>exact fin o r (Ren.le_trans g p) size l c none none rfl rfl
   |slice l c Q=>
    simp only;refine af m (bN m elem) λf g h size I e=>?_;subst e
    cases e1:ts[1]? with
    |none=>exact fin f h g size l c _ _ rfl rfl
    |some i=>
     refine af h (fG i) λo p r d z e=>?_;obtain⟨rfl,j⟩:=e
     cases d with
     |int k=>exact absurd j (w i e1 k)
     |_=>exact fin o r (Ren.le_trans g p) size l c _ _ rfl rfl
   |dK D q=>
    simp only;refine af m (bN m elem) λf g h size I e=>?_;subst e
    cases e1:ts[1]? with
    |none=>exact fin f h g size 0 0 _ _ rfl rfl
    |some i=>
     refine af h (fG i) λo p r d z e=>?_;obtain⟨rfl,j⟩:=e
     cases d with
     |int k=>exact absurd j (w i e1 k)
     |_=>exact fin o r (Ren.le_trans g p) size 0 0 _ _ rfl rfl
   |_=>exact ak
  |_=>exact ak
end
end Go.bJ
namespace Go.bJ
section
variable {T:ac}{fB fA:Array Func}{F:ad->Bool}{K:Code->Bool}{ρ σ:Ren}
def xg{z:Array Value}(h:VA F ρ z z)(n:Nat):VA F ρ ((bd n).map (z[· % z.size]!)) ((bd n).map (z[· % z.size]!)):=by
 show cU _ _ _ _;rw[bc];refine cU.map _ λi _=>?_;rw[getElem!_def]
 rcases bm h (i % z.size) with⟨a,_⟩|⟨v,v',a,b,hv⟩
 ·rw[a];exact .bool _
 ·rw[a]at b⊢;cases b;exact hv
def zB{Z:ae->Bool}(o:dM T F Z)(b:ρ.bw T.globals.size){t:ae}(p:∀e,tY T t=some (.slice e)->Z e=true)(len:Nat){ps f:Array (Nat×Value)}(h:kX F ρ ps.toList f.toList):av T fB fA F K (RV F) ρ (bq t len ps) (bq t len f):=by
 unfold bq;refine af b (fG t) λσ a b d w e=>?_;obtain⟨rfl,q⟩:=e;have h:=h.mono a
 cases d with
 |slice elem=>
  have k:=p elem q;refine af b (bN b elem) λm a b size x e=>?_;subst e;have h:=h.mono a;refine aN (λ_=>aM) λ_=>?_;have c:∀(g:Ren),m.le g->g.bw T.globals.size->∀zero j:Array Value,(VA F g zero j/\zero=j)->
   av T fB fA F K (RV F) g (match br (λi=>some (i*size,size)) ((bd (len*size)).map (zero[· % zero.size]!)) ps.toList with
    |some cells=>do pure (.slice (some (<-newRow elem cells)) len len)
    |_=>stuck "buildSlice: a part of the wrong size" : Sem Value)
    (match br (λi=>some (i*size,size)) ((bd (len*size)).map (j[· % j.size]!)) f.toList with
    |some cells=>do pure (.slice (some (<-newRow elem cells)) len len)
    |_=>stuck "buildSlice: a part of the wrong size" : Sem Value):=by
   rintro g a b zero j⟨hv,rfl⟩
   rcases wO (λi=>some (i*size,size)) (h.mono a) (xg hv (len*size)) with⟨l,n⟩|⟨r,y,l,n,s⟩
   ·rw[l];exact ak
   ·rw[l,n];exact af b (tS b elem s) λ_ _ _ _ _ u=>ah (.slice _ _ u)
  refine aN (λ_=>?_) λ_=>?_
  ·exact c m (Ren.le_refl _) b #[] #[] ⟨VA.nil,rfl⟩
  ·refine af b (gO o b k) λg a b z A v=>?_;obtain⟨hv,rfl⟩:=v;exact c g a b _ _ ⟨hv.cells,rfl⟩
 |_=>exact ak
def X7(b:ρ.bw T.globals.size)(ts:Array ae)(t:ae){f h:Array Value}(m:VA F ρ f h):av T fB fA F K (RV F) ρ (a7 ts t f) (a7 ts t h):=by
 unfold a7
 rcases bm m 0 with⟨g,i⟩|⟨x,w,g,i,c⟩
 ·rw[g];cases ts[0]?<;>exact ak
 rw[g,i]
 cases ts[0]? with
 |none=>exact ak
 |some s=>
  simp only;refine af b (fG s) λσ a b d p e=>?_;obtain⟨rfl,q⟩:=e;have c:=c.mono a
  cases d with
  |array n e=>exact ah (.int _ _)
  |string=>cases c<;>first|exact ah (.int _ _)|exact ak
  |slice e=>cases c<;>first|exact ah (.int _ _)|exact ak
  |pointer e=>
   refine af b (fG e) λj a b d p e=>?_;obtain⟨rfl,q⟩:=e;cases d<;>first|exact ah (.int _ _)|exact ak
  |map k e=>
   cases c with
   |qQ=>exact ah (.int _ _)
   |map r=>
    refine af b (dA r) λj a b o y u=>?_
    cases u with
    |@map es l clock v=>exact ah (by
     have:es.size=l.size:=by simpa using bD.length v
     show VR F j (goInt es.size) (goInt l.size);rw[this]
     exact .int _ _)
    |_=>exact ak
   |_=>exact ak
  |chan _ _=>cases c<;>exact ak
  |_=>exact ak
def Ac{f:Value->Value->Sem Value}(hf:∀{ρ:Ren}{x a y y':Value},ρ.bw T.globals.size->VR F ρ x a->VR F ρ y y'->av T fB fA F K (RV F) ρ (f x y) (f a y')) :
 ∀{l l':List Value}{ρ:Ren}{x a:Value},ρ.bw T.globals.size->cU F ρ l l'->VR F ρ x a->av T fB fA F K (RV F) ρ (l.foldlM f x) (l'.foldlM f a):=by
 intro l
 induction l with
 |nil=>intro l' ρ x a b h c;cases h;exact ah c
 |cons y l e=>
  intro l' ρ x a b h c
  cases h with
  |cons hy t=>exact af b (hf b c hy) λσ d g z j i=>e g (t.mono d) i
def TC(a:ρ.bw T.globals.size){x c y y':Value}(d:VR F ρ x c)(hy:VR F ρ y y'):av T fB fA F K (RV F) ρ (a8 x y) (a8 c y'):=by
 cases d<;>cases hy<;>first
  |exact ah (.int _ _)
  |exact ak
  |exact aA
  |skip
 refine af a (oe .geq _ _) λσ f a v v' hv=>?_;exact af a (tU hv) λ_ _ _ b b' e=>ah (by subst e;exact .string _)
def TD(a:ρ.bw T.globals.size){x c y y':Value}(d:VR F ρ x c)(hy:VR F ρ y y'):av T fB fA F K (RV F) ρ (a9 x y) (a9 c y'):=by
 cases d<;>cases hy<;>first
  |exact ah (.int _ _)
  |exact ak
  |exact aA
  |skip
 refine af a (oe .leq _ _) λσ f a v v' hv=>?_;exact af a (tU hv) λ_ _ _ b b' e=>ah (by subst e;exact .string _)
def X8(d:ρ.bw T.globals.size)(ts:Array ae)(t:ae){a c:Array Value}(b:VA F ρ a c):av T fB fA F K (RV F) ρ (ba ts t a) (ba ts t c):=by
 unfold ba;have b:cU F ρ a.toList c.toList:=b;generalize a.toList=l at b ⊢;generalize c.toList=f at b ⊢
 cases b with
 |nil=>exact ak
 |cons h t=>exact Ac (λd e hy=>TC d e hy) d t h
def X9(d:ρ.bw T.globals.size)(ts:Array ae)(t:ae){a c:Array Value}(b:VA F ρ a c):av T fB fA F K (RV F) ρ (bb ts t a) (bb ts t c):=by
 unfold bb;have b:cU F ρ a.toList c.toList:=b;generalize a.toList=l at b ⊢;generalize c.toList=f at b ⊢
 cases b with
 |nil=>exact ak
 |cons h t=>exact Ac (λd e hy=>TD d e hy) d t h
inductive gT(F:ad->Bool)(K:Code->Bool)(ρ:Ren):Next->Next->Prop
 |value {v v':Value} (h:VR F ρ v v'):gT F K ρ (.value v) (.value v')
 |skip:gT F K ρ .skip .skip
 |enter (f:ad) (hf:F f=true) {a a':Array Value} (h:VA F ρ a a'):gT F K ρ (.enter f a) (.enter f a')
 |round {l l':Nat} (hl:ρ l l') (f:ad) (hf:F f=true) {a a':Array Value} (h:VA F ρ a a') (assign body:Code) (ha:K assign=true) (hb:K body=true):gT F K ρ (.round l f a assign body) (.round l' f a' assign body)
def si(fB fA:Array Func)(F:ad->Bool):Prop:=
 (∀l,fB[cn+l]?=none)/\∀f,F f=true->(∃b,fB[f]?=some b/\b.body.isSome=true/\b.name≠ "runtime.NumGoroutine")/\∃a,fA[f]?=some a/\a.body.isSome=true/\a.name≠ "runtime.NumGoroutine"
def uf{T:ac}{fs:Array Func}{f:ad}{b:Func}(h:fs[f]?=some b)(hb:b.body.isSome=true)(a:b.name≠ "runtime.NumGoroutine")(args:Array Value):∃k,ag f args=program.bind k/\k ⟨T,fs⟩=pure (.enter f args):=by
 refine⟨_,rfl,?_⟩
 show(match fs[f]? with
  |none=>stuck "call: no such function"
  |some fn=>_)=_
 rw[h];have c:(b.name == "runtime.NumGoroutine")=false:=by simpa using a
 have d:b.body.isNone=false:=by cases e:b.body with|none=>rw[e]at hb;cases hb|some _=>rfl
 simp only[c,d,bv,if_false]
def C8(hF:si fB fA F){f:ad}(hf:F f=true){a a':Array Value}(h:VA F ρ a a'):av T fB fA F K (gT F K) ρ (ag f a) (ag f a'):=by
 obtain⟨⟨b,hb,k,e⟩,c,hc,d,g⟩:=hF.2 f hf;unfold ag;refine bI ?_;show(av T fB fA F K) (gT F K) ρ (match fB[f]? with|none=>stuck "call: no such function" | some fn=>_) (match fA[f]? with|none=>stuck "call: no such function" | some fn=>_);rw[hb,hc];have l:(b.name == "runtime.NumGoroutine")=false:=by simpa using e
 have m:b.body.isNone=false:=by cases i:b.body with|none=>rw[i]at k;cases k|some _=>rfl
 have c1:(c.name == "runtime.NumGoroutine")=false:=by simpa using g
 have n:c.body.isNone=false:=by cases j:c.body with|none=>rw[j]at d;cases d|some _=>rfl
 simp only[l,m,c1,n,bv,if_false];exact ah (.enter f hf h)
def jV(a:ρ.bw T.globals.size){l l':Nat}(h:ρ l l'):av T fB fA F K (CN F K) ρ (bs l) (bs l'):=by
 refine af a (dA h) λσ _ _ o c b=>?_
 cases b with
 |loop h=>exact ah h
 |_=>exact ak
def Ov(params:Array Tmp){a a' t c:Array Value}(b:VA F ρ a a')(d:VA F ρ t c) :
 VA F ρ ((params.zip a).foldl (λtmps(t,a)=>tmps.setIfInBounds t a) t) ((params.zip a').foldl (λtmps(t,a)=>tmps.setIfInBounds t a) c):=by
 rw[<-bi,<-bi,bj,bj];have b:cU F ρ a.toList a'.toList:=b;generalize a.toList=l at b;generalize a'.toList=e at b;generalize params.toList=ps
 induction ps generalizing l e t c with
 |nil=>exact d
 |cons p ps f=>
  cases b with
  |nil=>exact d
  |cons h g=>exact f (VA.set d p h) _ _ g
def Ow(e:ρ.bw T.globals.size){l l':Nat}(h:ρ l l'){a a':Array Value}(d:VA F ρ a a'):av T fB fA F K (gT F K) ρ (bt l a) (bt l' a'):=by
 refine af e (jV e h) λσ c e r f b=>?_;have d:=bo c d;rw[VA.size d,b.params];refine aN (λ_=>bz) λ_=>?_;rw[b.fn,b.assign,b.body];exact ah (.round (c h) _ (b.fn▸b.mI) (Ov _ d b.tmps) _ _ (b.assign▸b.CP) (b.body▸b.N6))
def bK{s s':Sem Value}(a:ρ.bw T.globals.size)(h:av T fB fA F K (RV F) ρ s s'):av T fB fA F K (gT F K) ρ (do pure (.value (<-s)):Sem Next) (do pure (.value (<-s')):Sem Next):=
 af a h λ_ _ _ _ _ hv=>ah (.value hv)
def vX{s s':Sem Unit}(a:ρ.bw T.globals.size)(h:av T fB fA F K fF ρ s s'):av T fB fA F K (gT F K) ρ (do s;pure .skip:Sem Next) (do s';pure .skip:Sem Next):=
 af a h λ_ _ _ _ _ _=>ah .skip
def C9(hF:si fB fA F)(l:Nat)(a:Array Value)(s':Sem Next):av T fB fA F K (gT F K) ρ (ag (cn+l) a) s':=by
 refine .inr ?_;show bW T fB (match fB[cn+l]? with|none=>stuck "call: no such function" | some fn=>_);rw[hF.1 l];trivial
def Ad{a:Type}{Z:ae->Bool}(b:dM T F Z)(g:TypeInfo->Sem a)(hg:∀i,i.methods.find? (·.name == "")=none->bW T fB (g i)):bW T fB (Sem.bind (aa 0) g):=by
 show bW T fB (Sem.bind (match T.info? 0 with|some i=>pure i|none=>stuck "no such type") g)
 cases hi:T.info? 0 with
 |none=>trivial
 |some i=>exact hg i (b.2 i hi)
def Da{Z:ae->Bool}(a:dM T F Z)(v:Value):bW T fB (ai (T.types.size+Made.depth) 0 v ""):=by
 show bW T fB (ai ((T.types.size+99)+1) 0 v "");unfold ai;refine Ad a _ λi hi=>?_;simp only[hi];trivial
def Gj{Z:ae->Bool}(a:dM T F Z)(v:Value):bW T fB (ao (T.types.size+Made.depth) 0 v ""):=by
 show bW T fB (ao ((T.types.size+99)+1) 0 v "");unfold ao;refine Ad a _ λi hi=>?_;simp only[hi];trivial
def jE{Z:ae->Bool}(i:dM T F Z)(hF:si fB fA F)(j:ρ.bw T.globals.size){f f':Value}(hf:VR F ρ f f'){a a':Array Value}(k:VA F ρ a a') :
 av T fB fA F K (gT F K) ρ (do let d<-bA f a;ap d.target d.args) (do let d<-bA f' a';ap d.target d.args):=by
 cases hf with
 |func h l m=>
  have b:=bp l k
  cases h with
  |func g hg=>exact C8 hF hg (bp b m)
  |yield hl=>exact Ow j hl b
  |spec hl=>exact C9 hF _ _ _
 |wG n f c=>
  refine bW.rel ?_ _;have e:(#[Value.iface 0 .nilIface]++a)[0]?=some (.iface 0 .nilIface):=by rw[Array.getElem?_append_left (by simp)];rfl
  unfold bA;simp only[pure_bind];unfold ap;simp only[e];show bW T fB (Sem.bind (ai (T.types.size+Made.depth) 0 .nilIface "") _);exact bW.bind (Da i _)
 |nilFunc=>exact nY
 |_=>exact ak
end
def Bh(F:ad->Bool):Value->Bool
 |.bool _ | .int .. | .string _ | .pointer none | .slice none _ _ | .map none | .nilFunc | .nilIface=>true
 |.func (.func f) a b=>F f&&a.toList.isEmpty&&b.toList.isEmpty
 |_=>false
def pM(F:ad->Bool):Nat->Value->Bool
 |0,v=>Bh F v
 |n+1,v=>match v with
  |.agg a=>a.toList.all (pM F n)
  |.tuple a=>a.toList.all (pM F n)
  |.iface _ v=>pM F n v
  |v=>Bh F v
def cF(F:ad->Bool):aq->Bool
 |.tmp _=>true
 |.const v=>pM F 6 v
 |.global _=>false
 |.func f=>F f
def Gl(T:ac)(F:ad->Bool)(Z:ae->Bool)(c:Call):Bool:=
 c.args.toList.all (cF F)&&match c.callee with
  |.value f=>cF F f
  |.invoke ..=>false
  |.builtin .append=>
   (match c.argTypes[0]? with|none=>true|some s=>match tY T s with|some (.slice e)=>Z e|_=>true) &&
   (match c.argTypes[1]? with|none=>true|some s=>match tY T s with|some (.int _)=>false|_=>true)
  |.builtin .len | .builtin .max | .builtin .min=>true
  |.builtin _=>false
def Db(T:ac)(Z:ae->Bool)(t:ae):Bool:=match tY T t with|some (.map k e)=>og T 8 k&&Z e|_=>true
def Ya:ad:=22
def jh(T:ac)(F:ad->Bool)(Z:ae->Bool):Op->Bool
 |.move x | .assign x | .box _ x | .load _ x | .nilCheck x | .unOp _ _ x | .fieldAddr _ x _ | .field _ x _ | .range _ x | .next x _ | .entry x | .extract x _=>cF F x
 |.pick a b c=>cF F a&&cF F b&&cF F c
 |.alloc t=>Z t
 |.build t ps=>Z t&&ps.toList.all λp=>cF F p.2
 |.buildSlice t _ ps=>(match tY T t with|some (.slice e)=>Z e|_=>true)&&ps.toList.all λp=>cF F p.2
 |.store _ a b | .indexAddr _ a b | .index _ a b=>cF F a&&cF F b
 |.binOp op t a b _=>(cF F a&&cF F b)&&(!(op matches .eql | .neq) || !bC ⟨T,#[]⟩ (bL ⟨T,#[]⟩) t)
 |.convert s d x=>tZ T s&&tZ T d&&cF F x
 |.makeFunc (.func f) xs ys=>F f&&xs.toList.all (cF F)&&ys.toList.all (cF F)
 |.makeMap _ none=>true
 |.slice _ x l h m=>cF F x&&l.all (cF F)&&h.all (cF F)&&m.all (cF F)
 |.lookup t a b _=>Db T Z t&&cF F a&&cF F b
 |.mapUpdate t a b c | .insert t a b c=>F Ya&&(Db T Z t&&cF F a&&cF F b&&cF F c)
 |.call c=>Gl T F Z c
 |_=>false
section
variable {T:ac}{fB fA:Array Func}{F:ad->Bool}{K:Code->Bool}{ρ σ:Ren}
def cU.self{l:List Value}(h:∀v∈l,VR F ρ v v):cU F ρ l l:=by
 induction l with
 |nil=>exact .nil
 |cons v l a=>exact .cons (h v (by simp)) (a λu b=>h u (by simp[b]))
def xh{v:Value}(h:Bh F v=true):VR F ρ v v:=by
 cases v with
 |bool b=>exact .bool b
 |int k n=>exact .int k n
 |string s=>exact .string s
 |pointer a=>cases a with
  |none=>exact .dS
  |some _=>cases h
 |slice a _ _=>cases a with
  |none=>exact .di _ _
  |some _=>cases h
 |map a=>cases a with
  |none=>exact .qQ
  |some _=>cases h
 |nilFunc=>exact .nilFunc
 |nilIface=>exact .nilIface
 |func fn a b=>
  cases fn with
  |func f=>
   simp only[Bh,bx,List.isEmpty_iff]at h;exact .func (.func f h.1.1) (by rw[h.1.2];exact .nil) (by rw[h.2];exact .nil)
  |_=>cases h
 |_=>cases h
def uY(n:Nat):∀{v:Value},pM F n v=true->VR F ρ v v:=by
 induction n with
 |zero=>intro v h;exact xh h
 |succ n b=>
  intro v h
  cases v with
  |agg a=>exact .agg (cU.self λv hv=>b (List.all_eq_true.1 h v hv))
  |tuple a=>exact .tuple (cU.self λv hv=>b (List.all_eq_true.1 h v hv))
  |iface t v=>exact .iface t (b h)
  |_=>exact xh h
def lN(F:ad->Bool)(ρ:Ren)(e e':aq->Value):Prop:=∀x,cF F x=true->VR F ρ (e x) (e' x)
def dD{fr fr':Frame}(h:VA F ρ fr.tmps fr'.tmps):lN F ρ fr.eval fr'.eval:=by
 intro x a
 cases x with
 |tmp t=>exact VA.getD h t VR.undef
 |const v=>exact uY 6 a
 |global g=>cases a
 |func f=>exact .func (.func f a) .nil .nil
def lN.list{e e':aq->Value}(h:lN F ρ e e'){l:List aq}(hl:l.all (cF F)=true):cU F ρ (l.map e) (l.map e'):=
 cU.map l λx a=>h x (List.all_eq_true.1 hl x a)
def lN.arr{e e':aq->Value}(h:lN F ρ e e'){l:Array aq}(hl:l.toList.all (cF F)=true):VA F ρ (l.map e) (l.map e'):=by
 show cU _ _ _ _;rw[bc,bc];exact h.list hl
def lN.opt{e e':aq->Value}(h:lN F ρ e e'){o:Option aq}(a:o.all (cF F)=true):lJ F ρ (o.map e) (o.map e'):=by
 cases o with
 |none=>exact .none
 |some x=>exact .some (h x (by simpa using a))
def lN.parts{e e':aq->Value}(h:lN F ρ e e'){l:Array (Nat×aq)}(hl:(l.toList.all λp=>cF F p.2)=true):kX F ρ (l.map fun(i,x)=>(i,e x)).toList (l.map fun(i,x)=>(i,e' x)).toList:=by
 rw[bc,bc];generalize l.toList=m at hl
 induction m with
 |nil=>exact .nil
 |cons p m a=>
  simp only[List.all_cons,bx]at hl;exact .cons p.1 (h _ hl.1) (a hl.2)
def TE{Z:ae->Bool}(i:dM T F Z)(hF:si fB fA F)(a:ρ.bw T.globals.size){e e':aq->Value}(j:lN F ρ e e')(c:Call)(t:ae)(ok:Gl T F Z c=true) :
 av T fB fA F K (gT F K) ρ (do let d<-resolve e c t;ap d.target d.args) (do let d<-resolve e' c t;ap d.target d.args):=by
 obtain⟨callee,args,argTypes⟩:=c;simp only[Gl,bx]at ok;obtain⟨g,ok⟩:=ok;have g:=j.arr g
 cases callee with
 |value f=>exact jE i hF a (j f ok) g
 |invoke _ _=>cases ok
 |builtin b=>
  cases b with
  |append=>
   simp only[bx]at ok;refine bK a (LH i a t (λs hs m h=>?_) (λs hs k l=>?_) g)
   ·have:=ok.1;rw[hs]at this;simp only[h]at this;exact this
   ·have:=ok.2;rw[hs]at this;simp only[l]at this;cases this
  |len=>exact bK a (X7 a argTypes t g)
  |max=>exact bK a (X8 a argTypes t g)
  |min=>exact bK a (X9 a argTypes t g)
  |_=>cases ok
def Dc:Op->Bool
 |.mapUpdate .. | .insert ..=>true
 |_=>false
def ug{Z:ae->Bool}(q:dM T F Z)(hF:si fB fA F)(g:ρ.bw T.globals.size){e e':aq->Value}(j:lN F ρ e e')(o:Oper)(ok:jh T F Z o.op=true)(w:Dc o.op=false) :
 av T fB fA F K (gT F K) ρ (ar e o) (ar e' o):=by
 obtain⟨dst,op,type,pos,after,guard⟩:=o;simp only at ok w;unfold ar
 cases op with
 |move x=>exact ah (.value (j x ok))
 |assign x=>exact ah (.value (j x ok))
 |pick c a b=>
  simp only[jh,bx]at ok;refine af g (tU (j c ok.1.1)) λσ u g b b' e=>ah (.value ?_);subst e;cases b
  ·exact(j _ ok.2).mono u
  ·exact(j _ ok.1.2).mono u
 |alloc t=>exact bK g (Oc q g ok)
 |box t x=>exact bK g (XY g t (j x ok))
 |build t ps=>
  simp only[jh,bx]at ok;exact bK g (Oe q g ok.1 (j.parts ok.2))
 |buildSlice t n ps=>
  simp only[jh,bx]at ok;exact bK g (zB q g (λD A=>by have:=ok.1;simp only[A]at this;exact this) n (j.parts ok.2))
 |load t a=>exact bK g (Lx g t (j a ok))
 |store t a x=>
  simp only[jh,bx]at ok;exact vX g (FR g t (j a ok.1) (j x ok.2))
 |nilCheck x=>
  have B:=j x ok;simp only;generalize e x=v at B;generalize e' x=v' at B
  cases B with
  |func hf E C=>cases hf<;>exact ah (.value (.func (by constructor<;>assumption) E C))
  |wG n f c=>
   refine bW.rel ?_ _;show bW T fB (Sem.bind (ao (T.types.size+Made.depth) 0 .nilIface "") _);exact bW.bind (Gj q _)
  |hole v' h=>
   cases v' with
   |pointer p=>cases p with
    |none=>cases h
    |some _=>exact ah (.value (.hole _ h))
   |func fn _ _=>cases fn with
    |method _=>cases h
    |_=>exact ah (.value (.hole _ h))
   |agg _=>cases h
   |nilIface=>cases h
   |nilFunc=>cases h
   |_=>exact ah (.value (.hole _ h))
  |_=>first|exact nY|exact ah (.value (by first|exact .wG _ _ _|exact .dK _ _|(constructor<;>assumption)))
 |binOp op t x y I=>
  simp only[jh,bx]at ok;refine bK g (F6 g op t x y (j x ok.1.1) (j y ok.1.2) λh=>?_);have C:=ok.2;have H:bC ⟨T,#[]⟩ (bL ⟨T,#[]⟩) t=false:=by
   cases op<;>first|(simpa using C;done)|cases h
  rw[kJ T fB #[]];exact H
 |unOp op t x=>exact bK g (On (j x ok))
 |convert s d x=>
  simp only[jh,bx]at ok;exact bK g (F8 g ok.1.1 ok.1.2 (j x ok.2))
 |makeFunc fn xs ys=>
  cases fn with
  |func f=>
   simp only[jh,bx]at ok;exact bK g (ah (.func (.func f ok.1.1) (j.arr ok.1.2) (j.arr ok.2)))
  |_=>cases ok
 |makeMap t r=>
  cases r with
  |none=>exact bK g (Ga g t)
  |some _=>cases ok
 |slice t x l h m=>
  simp only[jh,bx]at ok;exact bK g (FZ g t (j x ok.1.1.1) (j.opt ok.1.1.2) (j.opt ok.1.2) (j.opt ok.2))
 |fieldAddr t x i=>exact bK g (FV g t (j x ok) i)
 |field t x i=>exact bK g (Of g t (j x ok) i)
 |indexAddr t x y=>
  simp only[jh,bx]at ok;exact bK g (FW g t (j x ok.1) (j y ok.2))
 |index t x y=>
  simp only[jh,bx]at ok;exact bK g (Og g t (j x ok.1) (j y ok.2))
 |lookup t x y b=>
  simp only[jh,bx]at ok;refine bK g (LD (m:=8) q g t (λk D h=>?_) (j x ok.1.2) (j y ok.2) b);have:=ok.1.1;simpa[Db,h]using this
 |mapUpdate t x y z=>cases w
 |insert t x y z=>cases w
 |range t x=>exact bK g (Oq g t (j x ok))
 |next x b=>exact bK g (Tz g (j x ok) b type)
 |entry x=>exact bK g (Ot g (j x ok))
 |extract x i=>exact bK g (FX (j x ok) i)
 |call c=>exact TE q hF g j c type ok
 |_=>cases ok
def xj(e:aq->Value)(o:Oper)(h:Dc o.op=true):∃t x y z,(o.op=.mapUpdate t x y z\/o.op=.insert t x y z)/\ar e o=Sem.bind (bu t (e x) (e y) (e z)) λ_=>.pure .skip:=by
 obtain⟨dst,op,type,pos,after,guard⟩:=o;simp only at h
 cases op with
 |mapUpdate t x y z=>exact⟨_,_,_,_,.inl rfl,rfl⟩
 |insert t x y z=>exact⟨_,_,_,_,.inr rfl,rfl⟩
 |_=>cases h
def Dd{Z:ae->Bool}{o:Op}{t:ae}{x y z:aq}(h:o=.mapUpdate t x y z\/o=.insert t x y z)(ok:jh T F Z o=true) :
 (∀k e,tY T t=some (.map k e)->og T 8 k=true)/\cF F x=true/\cF F y=true/\cF F z=true:=by
 have a:(Db T Z t&&cF F x&&cF F y&&cF F z)=true:=by rcases h with rfl|rfl<;>exact(Bool.and_eq_true_iff.1 ok).2
 simp only[bx]at a;refine⟨λk b h=>?_,a.1.1.2,a.1.2,a.2⟩;have:=a.1.1.1;simp[Db,h]at this;exact this.1
def acm{Z:ae->Bool}{o:Op}(a:F Ya=false)(ok:jh T F Z o=true):Dc o=false:=by
 cases o with
 |mapUpdate t x y z=>simp[jh,a]at ok
 |insert t x y z=>simp[jh,a]at ok
 |_=>rfl
def De{Z:ae->Bool}(s:dM T F Z)(hF:si fB fA F)(i:ρ.bw T.globals.size){w w':World}(q:WR T.globals.size F K ρ w w')(r:w.tape=w'.tape)(hd:w.drawn=w'.drawn){e e':aq->Value}(f:lN F ρ e e')(o:Oper)(ok:jh T F Z o.op=true)(g:Array Event) :
 qp T.globals.size F K (gT F K) ρ w w' g ((ar e' o).runT ⟨T,fA⟩ w' g) ((ar e o).run ⟨T,fB⟩ w):=by
 by_cases j:Dc o.op=true
 ·obtain⟨t,x,y,z,b,u⟩:=xj e o j;obtain⟨A,B,y',C,c,D⟩:=xj e' o j;obtain⟨rfl,rfl,rfl,rfl⟩:t=A/\x=B/\y=y'/\z=C:=by
   rcases b with b|b<;>rcases c with c|c<;>(rw[b]at c;cases c)<;>exact⟨rfl,rfl,rfl,rfl⟩
  obtain⟨k1,k2,k3,E⟩:=Dd b ok;rw[u,D,Sem.run_bind',Sem.runT_bind'];have h:=Ty (fB:=fB) (fA:=fA) (K:=K) i q r hd t k1 (f x k2) (f y k3) (f z E) g;generalize(bu t (e x) (e y) (e z)).run ⟨T,fB⟩ w=res at h
  match res,h with
  |.ok a w2,⟨l,H,m,n,p,d,e,k,I⟩=>rw[e];exact⟨l,.skip,m,n,p,d,rfl,k,.skip⟩
  |.halt (.panic v) w2,⟨l,v',m,n,p,d,e,k,hv⟩=>rw[e];exact⟨l,v',m,n,p,d,rfl,k,hv⟩
  |.halt .blocked _,h=>exact h
  |.halt .waiting _,h=>exact h
  |.halt (.exit _) _,h=>exact h
  |.halt (.fatal _) _,h=>exact h
  |.halt (.throw _) _,h=>exact h
  |.halt .goexit _,h=>exact h
  |.halt (.unsupported _) _,h=>exact h
  |.halt (.stuck _) _,_=>trivial
 ·exact(av.run g (ug s hF i f o ok (by simpa using j)) i q r hd).zu
end
def codeOk(T:ac)(F:ad->Bool)(Z:ae->Bool):Code->Bool
 |.skip | .exit _ | .label _ | .goto _ | .ret=>true
 |.region _ ops _=>ops.toList.all λo=>jh T F Z o.op
 |.seq a b=>codeOk T F Z a&&codeOk T F Z b
 |.cond c a b=>cF F c&&codeOk T F Z a&&codeOk T F Z b
 |.block _ b | .loop b | .scope b=>codeOk T F Z b
 |.rangeFunc f _ a b=>cF F f&&codeOk T F Z a&&codeOk T F Z b
 |.refuse _=>false
structure Bi(T:ac)(fB fA:Array Func)(F:ad->Bool)(Z:ae->Bool)(f:ad):Prop where
 ex:∃fn c,fB[f]?=some fn/\fA[f]?=some fn/\fn.body=some c/\codeOk T F Z c=true
section
variable (T:ac)(F:ad->Bool)(Z:ae->Bool)
inductive nF(ρ:Ren):Item->Item->Prop
 |code (c:Code) (h:codeOk T F Z c=true):nF ρ (.code c) (.code c)
 |inBlock (id:Nat):nF ρ (.inBlock id) (.inBlock id)
 |inLoop (c:Code) (h:codeOk T F Z c=true):nF ρ (.inLoop c) (.inLoop c)
 |inScope (c:Code) (h:codeOk T F Z c=true):nF ρ (.inScope c) (.inScope c)
 |inRegion (ops:Array Oper) (todo:List Nat) (h:(ops.toList.all λo=>jh T F Z o.op)=true):nF ρ (.inRegion ops todo) (.inRegion ops todo)
 |inRangeFunc {l l':Nat} (h:ρ l l'):nF ρ (.inRangeFunc l) (.inRangeFunc l')
 |endRangeFunc {l l':Nat} (h:ρ l l'):nF ρ (.endRangeFunc l) (.endRangeFunc l')
 |beginRound:nF ρ .beginRound .beginRound
inductive cN(ρ:Ren):List Item->List Item->Prop
 |nil:cN ρ [] []
 |cons {i i':Item} {l l':List Item} (h:nF T F Z ρ i i') (t:cN ρ l l'):cN ρ (i::l) (i'::l')
inductive fS(ρ:Ren):List aw->List aw->Prop
 |nil:fS ρ [] []
 |cons {r r':Nat} {l l':List aw} (h:ρ r r') (t:fS ρ l l'):fS ρ ({ target:=.collected r,args:=#[] }::l) ({ target:=.collected r',args:=#[] }::l')
inductive ji(ρ:Ren):List aB->List aB->Prop
 |nil:ji ρ [] []
 |cons {v v':Value} {l l':List aB} (h:VR F ρ v v') (t:ji ρ l l'):ji ρ ({ v,recovered:=false }::l) ({ v:=v',recovered:=false }::l')
inductive qE(ρ:Ren):aF->aF->Prop
 |run:qE ρ .run .run
 |returning:qE ρ .returning .returning
 |panicking {c c':List aB} (h:ji F ρ c c'):qE ρ (.panicking c) (.panicking c')
inductive om(ρ:Ren):Option Nat->Option Nat->Prop
 |none:om ρ none none
 |some {l l':Nat} (h:ρ l l'):om ρ (some l) (some l')
structure aQ(fB fA:Array Func)(ρ:Ren)(fr fr':Frame):Prop where
 fn:fr'.fn=fr.fn
 same:fr.roundOf=none->Bi T fB fA F Z fr.fn
 mI:F fr.fn=true
 tmps:VA F ρ fr.tmps fr'.tmps
 todo:cN T F Z ρ fr.todo fr'.todo
 defers:fS ρ fr.defers fr'.defers
 mode:qE F ρ fr.mode fr'.mode
 kind:fr.kind=.normal
 bX:fr'.kind=.normal
 roundOf:om ρ fr.roundOf fr'.roundOf
 ret:fr.mode=.returning->fr.roundOf=none
inductive cj(fB fA:Array Func)(ρ:Ren):List Frame->List Frame->Prop
 |nil:cj fB fA ρ [] []
 |cons {f f':Frame} {l l':List Frame} (h:aQ T F Z fB fA ρ f f') (t:cj fB fA ρ l l'):cj fB fA ρ (f::l) (f'::l')
end
section
variable {T:ac}{fB fA:Array Func}{F:ad->Bool}{Z:ae->Bool}{ρ σ:Ren}
def nF.mono(h:ρ.le σ){i b:Item}(x:nF T F Z ρ i b):nF T F Z σ i b:=by
 cases x with
 |code c a=>exact .code c a
 |inBlock id=>exact .inBlock id
 |inLoop c a=>exact .inLoop c a
 |inScope c a=>exact .inScope c a
 |inRegion ops todo a=>exact .inRegion ops todo a
 |inRangeFunc a=>exact .inRangeFunc (h a)
 |endRangeFunc a=>exact .endRangeFunc (h a)
 |beginRound=>exact .beginRound
def cN.mono(h:ρ.le σ){l l':List Item}(x:cN T F Z ρ l l'):cN T F Z σ l l':=by
 induction x with
 |nil=>exact .nil
 |cons a _ b=>exact .cons (a.mono h) b
def cN.append{l l' m m':List Item}(x:cN T F Z ρ l l')(y:cN T F Z ρ m m'):cN T F Z ρ (l++m) (l'++m'):=by
 induction x with
 |nil=>exact y
 |cons a _ b=>exact .cons a b
def fS.mono(h:ρ.le σ){l l':List aw}(x:fS ρ l l'):fS σ l l':=by
 induction x with
 |nil=>exact .nil
 |cons a _ b=>exact .cons (h a) b
def fS.append{l l' m m':List aw}(x:fS ρ l l')(y:fS ρ m m'):fS ρ (l++m) (l'++m'):=by
 induction x with
 |nil=>exact y
 |cons a _ b=>exact .cons a b
def ji.mono(h:ρ.le σ){l l':List aB}(x:ji F ρ l l'):ji F σ l l':=by
 induction x with
 |nil=>exact .nil
 |cons a _ b=>exact .cons (a.mono h) b
def ji.append{l l' m m':List aB}(x:ji F ρ l l')(y:ji F ρ m m'):ji F ρ (l++m) (l'++m'):=by
 induction x with
 |nil=>exact y
 |cons a _ b=>exact .cons a b
def qE.mono(h:ρ.le σ){m m':aF}(x:qE F ρ m m'):qE F σ m m':=by
 cases x with
 |run=>exact .run
 |returning=>exact .returning
 |panicking a=>exact .panicking (a.mono h)
def om.mono(h:ρ.le σ){m m':Option Nat}(x:om ρ m m'):om σ m m':=by
 cases x with
 |none=>exact .none
 |some a=>exact .some (h a)
def aQ.mono(h:ρ.le σ){f f':Frame}(x:aQ T F Z fB fA ρ f f'):aQ T F Z fB fA σ f f':=
 ⟨x.fn,x.same,x.mI,cU.mono h x.tmps,x.todo.mono h,x.defers.mono h,x.mode.mono h,x.kind,x.bX,x.roundOf.mono h,x.ret⟩
def cj.mono(h:ρ.le σ){l l':List Frame}(x:cj T F Z fB fA ρ l l'):cj T F Z fB fA σ l l':=by
 induction x with
 |nil=>exact .nil
 |cons a _ b=>exact .cons (a.mono h) b
def aQ.oper?{f f':Frame}(x:aQ T F Z fB fA ρ f f'):f'.oper? = f.oper?:=by
 unfold Frame.oper?;have a:=x.todo;generalize f.todo=l at a;generalize f'.todo=b at a
 cases a with
 |nil=>rfl
 |cons h t=>
  cases h with
  |inRegion ops todo _=>cases todo<;>rfl
  |_=>rfl
def aQ.finish{f f':Frame}(x:aQ T F Z fB fA ρ f f'){v v':Value}(hv:VR F ρ v v'):aQ T F Z fB fA ρ (f.finish v) (f'.finish v'):=by
 obtain⟨fn,tmps,todo,defers,mode,kind,w⟩:=f;obtain⟨y,n,z,A,B,bX,C⟩:=f';obtain⟨o,b,e,a,p,g,j,q,r,k,l⟩:=x;simp only at o b e a p g j q r k l;subst o q r
 cases p with
 |nil=>exact⟨rfl,b,e,a,.nil,g,j,rfl,rfl,k,l⟩
 |cons h t=>
  cases h with
  |inRegion ops u s=>
   cases u with
   |nil=>exact⟨rfl,b,e,a,.cons (.inRegion ops [] s) t,g,j,rfl,rfl,k,l⟩
   |cons i m=>
    refine⟨rfl,b,e,?_,.cons (.inRegion ops m s) t,g,j,rfl,rfl,k,l⟩;show VA F ρ (match(ops[i]?).bind (·.dst) with|some d=>tmps.setIfInBounds d v|none=>tmps) (match(ops[i]?).bind (·.dst) with|some d=>n.setIfInBounds d v'|none=>n)
    cases(ops[i]?).bind (·.dst) with
    |none=>exact a
    |some d=>exact VA.set a d hv
  |inRangeFunc hl=>exact⟨rfl,b,e,a,.cons (.endRangeFunc hl) t,g,j,rfl,rfl,k,l⟩
  |beginRound=>exact⟨rfl,b,e,a,t,g,j,rfl,rfl,k,l⟩
  |code c hc=>exact⟨rfl,b,e,a,.cons (.code c hc) t,g,j,rfl,rfl,k,l⟩
  |inBlock id=>exact⟨rfl,b,e,a,.cons (.inBlock id) t,g,j,rfl,rfl,k,l⟩
  |inLoop c hc=>exact⟨rfl,b,e,a,.cons (.inLoop c hc) t,g,j,rfl,rfl,k,l⟩
  |inScope c hc=>exact⟨rfl,b,e,a,.cons (.inScope c hc) t,g,j,rfl,rfl,k,l⟩
  |endRangeFunc hl=>exact⟨rfl,b,e,a,.cons (.endRangeFunc hl) t,g,j,rfl,rfl,k,l⟩
def aQ.raise{f f':Frame}(x:aQ T F Z fB fA ρ f f'){c c':List aB}(hc:ji F ρ c c'):aQ T F Z fB fA ρ (f.raise c) (f'.raise c'):=by
 obtain⟨fn,tmps,todo,defers,mode,kind,p⟩:=f;obtain⟨q,r,s,t,u,bX,v⟩:=f';obtain⟨a,b,d,g,i,j,n,k,l,m,o⟩:=x;simp only at a b d g i j n k l m o
 cases n with
 |run=>exact⟨a,b,d,g,i,j,.panicking hc,k,l,m,λe=>by cases e⟩
 |returning=>exact⟨a,b,d,g,i,j,.panicking hc,k,l,m,λe=>by cases e⟩
 |panicking h=>exact⟨a,b,d,g,i,j,.panicking (hc.append h),k,l,m,λe=>by cases e⟩
def aQ.lO{f f':Frame}(x:aQ T F Z fB fA ρ f f'){t a:List Item}(h:cN T F Z ρ t a):aQ T F Z fB fA ρ { f with todo:=t } { f' with todo:=a }:=
 ⟨x.fn,x.same,x.mI,x.tmps,h,x.defers,x.mode,x.kind,x.bX,x.roundOf,x.ret⟩
def xo(id:Nat){l l':List Item}(h:cN T F Z ρ l l'):(aH id l=none/\aH id l'=none)\/∃k k',aH id l=some k/\aH id l'=some k'/\cN T F Z ρ k k':=by
 induction h with
 |nil=>exact .inl ⟨rfl,rfl⟩
 |cons h t a=>
  cases h with
  |inBlock b=>
   simp only[aH]
   split
   ·exact .inr ⟨_,_,rfl,rfl,t⟩
   ·exact a
  |_=>exact a
def Bj(l:Nat):∀{c r:Code},codeOk T F Z c=true->aI c l=some r->codeOk T F Z r=true:=by
 intro c
 induction c with
 |seq a b d e=>
  intro r hc h;simp only[codeOk,bx]at hc;simp only[aI]at h
  split at h
  ·rename_i f g;cases h;simp only[codeOk,bx];exact⟨d hc.1 g,hc.2⟩
  ·exact e hc.2 h
 |label i=>
  intro r hc h;simp only[aI]at h
  split at h
  ·cases h;rfl
  ·cases h
 |_=>intro r hc h;simp[aI]at h
def xq(id:Nat){l l':List Item}(h:cN T F Z ρ l l'):(aJ id l=none/\aJ id l'=none)\/∃k k',aJ id l=some k/\aJ id l'=some k'/\cN T F Z ρ k k':=by
 induction h with
 |nil=>exact .inl ⟨rfl,rfl⟩
 |cons h t a=>
  cases h with
  |inScope c hc=>
   simp only[aJ]
   split
   ·rename_i b d;exact .inr ⟨_,_,rfl,rfl,.cons (.code _ (Bj id hc d)) (.cons (.inScope c hc) t)⟩
   ·exact a
  |_=>exact a
def oo(ops:Array Oper){t c:Array Value}(h:VA F ρ t c)(j:Nat):aL ops t j=aL ops c j:=by
 unfold aL
 cases(ops[j]?).bind (·.dst) with
 |none=>rfl
 |some d=>
  rcases bm h d with⟨a,b⟩|⟨v,v',a,b,hv⟩
  ·simp[a,b]
  ·simp only[Option.bind_some,a,b]
   cases hv with
   |hole v' h=>cases v'<;>first|rfl|cases h
   |_=>rfl
def fe{f:ad}(hs:Bi T fB fA F Z f)(hf:F f=true){a a':Array Value}(h:VA F ρ a a'):aQ T F Z fB fA ρ (bM ⟨T,fB⟩ f a .normal) (bM ⟨T,fA⟩ f a' .normal):=by
 obtain⟨fn,c,b,d,g,i⟩:=hs.ex;refine⟨rfl,λ_=>hs,hf,?_,?_,.nil,.run,rfl,rfl,.none,λe=>by cases e⟩
 ·show VA F ρ (a++bl ((fB[f]?.map (·.ntmps)).getD 0-a.size) undef) (a'++bl ((fA[f]?.map (·.ntmps)).getD 0-a'.size) undef);rw[b,d,VA.size h];exact bp h (VA.replicate .undef _)
 ·show cN T F Z ρ [.code ((fB[f]?.bind (·.body)).getD _)] [.code ((fA[f]?.bind (·.body)).getD _)];rw[b,d];simp only[Option.bind_some,g,Option.getD_some];exact .cons (.code _ i) .nil
end
section
variable (T:ac)(fB fA:Array Func)(F X:ad->Bool)(Z:ae->Bool)(bot:Frame)
inductive Gm(ρ:Ren):Frame->Frame->Prop
 |alike {f f':Frame} (h:aQ T F Z fB fA ρ f f'):Gm ρ f f'
 |enters (x:ad) (hx:X x=true) (hf:F x=true) {a a':Array Value} (h:VA F ρ a a'):Gm ρ (bM ⟨T,fB⟩ x a .normal) (bM ⟨T,fA⟩ x a' .normal)
def dn(l:List Frame):Prop:=∀f,l.getLast? = some f->f.roundOf=none
structure GR(ρ:Ren)(g g':Goroutine):Prop where
 top:Gm T fB fA F X Z ρ g.frame g'.frame
 callers:∃l,g.callers=l++[bot]/\cj T F Z fB fA ρ l g'.callers/\dn (g.frame::l)/\(l=[]->aQ T F Z fB fA ρ g.frame g'.frame)
 st:g.status=.running
 st':g'.status=.running
 dy:g.dying=none
 Bl:g'.dying=none
 of:g.offers=none
 Bm:g'.offers=none
def ef(ρ:Ren)(w w':World):GStep->GStep->Prop
 |.go f w1 _,g=>∃a b c e h d,g=.go b c e/\cE T.globals.size F (codeOk T F Z) ρ w w' a (w1.re h d) c e/\GR T fB fA F X Z bot a f b
 |.ended ..,_=>True
 |_,_=>False
structure Fits:Prop where
 zero:dM T F Z
 fns:si fB fA F
 same:∀f,F f=true->X f=false->Bi T fB fA F Z f
structure Wd(ρ:Ren)(w w':World):Prop where
 inj:ρ.bw T.globals.size
 wr:WR T.globals.size F (codeOk T F Z) ρ w w'
 tape:w.tape=w'.tape
 drawn:w.drawn=w'.drawn
end
section
variable {T:ac}{fB fA:Array Func}{F X:ad->Bool}{Z:ae->Bool}{bot:Frame}{ρ σ:Ren}{w w':World}
def cE.wd{a:Ren}{w1 b:World}{es:Array Event}(h:cE T.globals.size F (codeOk T F Z) ρ w w' a w1 b es):Wd T F Z a w1 b:=⟨h.inj,h.wr,h.tape,h.drawn⟩
def Wd.refl(h:Wd T F Z ρ w w'):cE T.globals.size F (codeOk T F Z) ρ w w' ρ w w' #[]:=cE.refl h.inj h.wr h.tape h.drawn
def cE.less{a:Ren}{w1 b:World}{es c:Array Event}(h:cE T.globals.size F (codeOk T F Z) ρ w w' a w1 b es)(k:∀e∈c,e∈es):cE T.globals.size F (codeOk T F Z) ρ w w' a w1 b c:=
 { h with ev:=λe d=>h.ev e (k e d) }
def dn.push{f:Frame}{l:List Frame}(h:dn (f::l))(g:Frame):dn (g::f::l):=λx a=>h x (by simpa using a)
def dn.top{f g:Frame}{l:List Frame}(h:dn (f::l))(e:g.roundOf=f.roundOf):dn (g::l):=by
 cases l with
 |nil=>intro x b;simp at b;subst b;exact e.trans (h f rfl)
 |cons a l=>exact λx b=>h x (by simpa using b)
def dn.pop{f g:Frame}{l:List Frame}(h:dn (f::g::l)):dn (g::l):=λx a=>h x (by simpa using a)
def bZ(f:Frame)(v:Value):(f.finish v).roundOf=f.roundOf:=by
 unfold Frame.finish
 split<;>rfl
def eC(f:Frame)(c:List aB):(f.raise c).roundOf=f.roundOf:=by
 unfold Frame.raise
 split<;>rfl
def ef.comp{b:Ren}{w1 c:World}{new es a:Array Event}{s s':GStep}(f:cE T.globals.size F (codeOk T F Z) ρ w w' b w1 c new)(h:ef T fB fA F X Z bot b w1 c s s')(g:∀e∈a,e∈new) :
 ef T fB fA F X Z bot ρ w w' (GStep.after es s) (GStep.after a s'):=by
 cases s with
 |go p w2 q=>
  obtain⟨i,j,l,m,n,d,e,k,o⟩:=h;subst e;exact⟨i,j,l,a++m,n,d,rfl,(f.less g).trans k,o⟩
 |ended _ _ _=>trivial
 |_=>exact h.elim
def Bo{ops:Array Oper}(h:(ops.toList.all λo=>jh T F Z o.op)=true){i:Nat}{o:Oper}(a:ops[i]?=some o):jh T F Z o.op=true:=by
 rw[List.all_eq_true]at h;exact h o (Array.mem_toList_iff.2 (Array.mem_of_getElem? a))
def Ae(fit:Fits T fB fA F X Z)(N:Wd T F Z ρ w w'){fr fr':Frame}{cs cs':List Frame}(n:aQ T F Z fB fA ρ fr fr')(hcs:cj T F Z fB fA ρ cs cs')(hb:dn (fr::cs))
 {s s':Sem Next} (p:qp T.globals.size F (codeOk T F Z) (gT F (codeOk T F Z)) ρ w w' #[] (s'.runT ⟨T,fA⟩ w' #[]) (s.run ⟨T,fB⟩ w)) :
 ef T fB fA F X Z bot ρ w w' (bR ⟨T,fB⟩ true fr (cs++[bot]) none s w) (bR ⟨T,fA⟩ true fr' cs' none s' w'):=by
 have z:(s.runT ⟨T,fB⟩ w #[]).1=s.run ⟨T,fB⟩ w:=Sem.runT_fst _ _ _ _;have B:(fr'.kind == .early)=false:=by rw[n.bX];rfl
 generalize H:s.runT ⟨T,fB⟩ w #[]=I at z;obtain⟨r,es⟩:=I;simp only at z;rw[<-z]at p;unfold bR;simp only[if_true,H]
 cases r with
 |ok a w1=>
  obtain⟨b,C,D,new,i,d,e1,c,J⟩:=p;rw[e1];simp only[B,bv,if_false];have o:=n.mono c.le;have q:=hcs.mono c.le;have x:∀O:Array Event,cE T.globals.size F (codeOk T F Z) ρ w w' b (w1.re i d) D (seen ⟨T,fA⟩ fr'.fn (#[]++new) ++ #[]):=λ_=>c.less λe A=>by
   have:=Conc.mem_seen (by simpa using A:e∈seen ⟨T,fA⟩ fr'.fn new);exact this
  cases J with
  |value hv=>exact⟨b,_,_,_,i,d,rfl,x #[],.alike (o.finish hv),⟨_,rfl,q,hb.top (bZ _ _),λ_=>o.finish hv⟩,rfl,rfl,rfl,rfl,rfl,rfl⟩
  |skip=>exact⟨b,_,_,_,i,d,rfl,x #[],.alike (o.finish .undef),⟨_,rfl,q,hb.top (bZ _ _),λ_=>o.finish .undef⟩,rfl,rfl,rfl,rfl,rfl,rfl⟩
  |@enter f hf a C y=>
   refine⟨b,_,_,_,i,d,rfl,x #[],?_,⟨fr::cs,rfl,.cons o q,hb.push _,(λe=>by cases e)⟩,rfl,rfl,rfl,rfl,rfl,rfl⟩;have top:∀k k':CallKind,k=.normal->k'=.normal->Gm T fB fA F X Z b (bM ⟨T,fB⟩ f a k) (bM ⟨T,fA⟩ f C k'):=by
    rintro k k' rfl rfl
    cases E:X f with
    |true=>exact .enters f E hf y
    |false=>exact .alike (fe (fit.same f hf E) hf y)
   refine top _ _ ?_ ?_
   ·have j:=n.todo;generalize fr.todo=l at j ⊢;generalize fr'.todo=K at j ⊢
    cases j with
    |nil=>rfl
    |cons h t=>cases h<;>rfl
   ·have j:=n.todo;generalize fr.todo=l at j ⊢;generalize fr'.todo=K at j ⊢
    cases j with
    |nil=>rfl
    |cons h t=>cases h<;>rfl
  |round hl f hf y assign body L M=>
   refine⟨b,_,_,_,i,d,rfl,x #[],.alike ?_,⟨fr::cs,rfl,.cons o q,hb.push _,(λe=>by cases e)⟩,rfl,rfl,rfl,rfl,rfl,rfl⟩;exact⟨rfl,(λe=>by cases e),hf,y,.cons (.code _ L) (.cons .beginRound (.cons (.code _ M) .nil)),.nil,.run,rfl,rfl,.some hl,(λe=>by cases e)⟩
 |halt h w1=>
  cases h with
  |panic v=>
   obtain⟨b,v',D,new,i,d,e1,c,hv⟩:=p;rw[e1];simp only[B,bv,if_false];refine⟨b,_,_,_,i,d,rfl,c.less λe A=>?_,.alike ((n.mono c.le).raise (.cons hv .nil)),⟨_,rfl,hcs.mono c.le,hb.top (eC _ _),λ_=>(n.mono c.le).raise (.cons hv .nil)⟩,rfl,rfl,rfl,rfl,rfl,rfl⟩;exact Conc.mem_seen (by simpa using A:e∈seen ⟨T,fA⟩ fr'.fn new)
  |stuck m=>trivial
  |unsupported u=>
   cases u with
   |initOrder g=>exact absurd p (by simp[qp,dw])
   |_=>trivial
  |_=>exact p.elim
def Af(fit:Fits T fB fA F X Z)(a:Wd T F Z ρ w w'){fr fr':Frame}{cs cs':List Frame}(b:aQ T F Z fB fA ρ fr fr')(hcs:cj T F Z fB fA ρ cs cs')(hb:dn (fr::cs))
 {s s':Sem Next} (hs:av T fB fA F (codeOk T F Z) (gT F (codeOk T F Z)) ρ s s') :
 ef T fB fA F X Z bot ρ w w' (bR ⟨T,fB⟩ true fr (cs++[bot]) none s w) (bR ⟨T,fA⟩ true fr' cs' none s' w'):=
 Ae fit a b hcs hb (av.run #[] hs a.inj a.wr a.tape a.drawn).zu
end
end Go.bJ
