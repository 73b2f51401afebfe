/- Part of the proof of FieldLevels: see X45. -/
import Derived.Test.YtmkjeaacgibnoaaGreatX01
set_option linter.all false
open Go renaming TypeId->aa,noView->ab,numberAt->ac,behindNumber->ad,byteOfCell->ae,fieldPlace->ag,underlying->ai,unsupported->ao,boundsPanic->ap,sameAddr->aq,mayBeOne->ar,stringish->aw,samePointer->aB,typeStr->aF,eqGuard->aH,IntKind->aJ,cellAtBytes->aL,movedNumber->aP,movedPointer->aT
open Go.Instr renaming build->a5,fieldAt->a6,field->a7,index->a8,indexAt->a9,extract->ba,sliceBound->bb,sliceBounds->bc,slice->bd,sliceAt->bg
open Go.bJ.Ren renaming le_trans->bi,le_refl->bj
open Go.bJ.VA renaming mono->bl
open Go.Program renaming cellsOf->bm,depth->bo,holdsPacked->bp,eqGuardType->bq,underlying->br
open Std.Legacy.Range renaming forIn_eq_forIn_range'->bs
open Bool renaming eq_iff_iff->bt
open Go.Op renaming equalIn->bu,eqGuardIn->bv,intArith->bx,intCmp->bA,intBits->bL,intDiv->bM,shift->bR,stringOp->bT,twoPlaces->bX,addrMod->b1,addrCmp->b2,addrSub->b3,equal->b4,maxDepth->b5
open Go.Builtin renaming unsafeAdd_->b6
open Go.Unsupported renaming addressObserved->b7
namespace Go.bJ
section
variable {T:Tables}{fB fA:Array Func}{F:FuncId->Bool}{K:Code->Bool}{ρ σ:Ren}
def Oe{Z:aa->Bool}(v:dM T F Z)(c:ρ.bw T.globals.size){t:aa}(w:Z t=true){ps f:Array (Nat×Value)}(h:kX F ρ ps.toList f.toList):av T fB fA F K (RV F) ρ (a5 t ps) (a5 t f):=by
 unfold a5;refine af c (gO v c w) λσ m y z H A=>?_;refine af y (bk t) λI q l d J hd=>?_;subst hd;have u:=h.mono (bi m q);have g:=VR.cells (A.1.mono q)
 cases d with
 |struct fields=>
  refine af l (CW l fields λx _ σ _ c=>af c (bN c x.type) λ_ _ _ a L e=>ah (by rw[e])) λo j _ B C D=>?_;subst D
  rcases wO (F:=F) (ρ:=o) (B[·]?) (u.mono j) (bl j g) with⟨b,k⟩|⟨r,E,b,k,p⟩
  ·simp only[b];exact ak
  ·simp only[b,k];exact ah (.agg p)
 |array n elem=>
  refine af l (bN l elem) λo j _ s M hs=>?_;subst hs
  rcases wO (F:=F) (ρ:=o) (λi=>some (i*s,s)) (u.mono j) (bl j g) with⟨b,k⟩|⟨r,E,b,k,p⟩
  ·simp only[b];exact ak
  ·simp only[b,k];exact ah (.agg p)
 |_=>exact ak
def z8(d:ρ.bw T.globals.size){r c:Nat}(h:ρ r c):av T fB fA F K (λ_ a a'=>a=none/\a'=none) ρ (viewAt r) (viewAt c):=by
 unfold viewAt;refine af d (jS h) λσ b f x i e=>?_;subst e;refine aN (λ_=>ah ⟨rfl,rfl⟩) λ_=>?_;refine af f (dA (b h)) λ_ _ _ o j g=>?_;cases g<;>exact ah ⟨rfl,rfl⟩
def tX(b:ρ.bw T.globals.size){a a':Addr}(h:AR ρ a a'):av T fB fA F K fF ρ (ab a) (ab a'):=by
 unfold ab;refine af b (z8 b h.1) λσ c d x f e=>?_;obtain⟨rfl,rfl⟩:=e;exact ah rfl
def uS(f:ρ.bw T.globals.size){r d:Nat}(h:ρ r d) :
 av T fB fA F K (λσ x b=>(x=none/\b=none)\/∃a a' l,x=some (a,l)/\b=some (a',l)/\AR σ a a') ρ (ac r) (ac d):=by
 unfold ac;refine af f (jS h) λσ c g x b e=>?_;subst e;refine aN (λ_=>ah (.inl ⟨rfl,rfl⟩)) λ_=>?_;refine af g (dA (c h)) λ_ _ _ o j i=>?_
 cases i with
 |number l a=>exact ah (.inr ⟨_,_,l,rfl,rfl,a⟩)
 |_=>exact ah (.inl ⟨rfl,rfl⟩)
def gC(f:ρ.bw T.globals.size){a a':Addr}(h:AR ρ a a'):av T fB fA F K (λσ x c=>AR σ x.1 c.1/\x.2=c.2) ρ (ad a) (ad a'):=by
 unfold ad;refine af f (uS f h.1) λσ d g x c e=>?_
 rcases e with⟨rfl,rfl⟩|⟨b,b',l,rfl,rfl,hb⟩
 ·exact ah ⟨h.mono d,rfl⟩
 ·exact ah ⟨hb,rfl⟩
def iA(d:ρ.bw T.globals.size){a a':Addr}(h:AR ρ a a'):av T fB fA F K fF ρ (byteOf a) (byteOf a'):=by
 unfold byteOf;obtain⟨f,g,i⟩:=h;rw[<-i]
 cases hs:a.spot with
 |some s=>exact ah rfl
 |none=>
  refine bI ?_;refine af d (tX d ⟨f,g,i⟩) λσ c k _ _ _=>?_;refine af k (jS (c f)) λj m o x p e=>?_;subst e
  cases x with
  |none=>exact ak
  |some l=>
   obtain⟨e,n⟩:=l;simp only[<-g,lI T fA fB];show(av T fB fA F K) fF j (if(bm ⟨T,fB⟩ e)=0 then _ else _) (if(bm ⟨T,fB⟩ e)=0 then _ else _);refine aN (λ_=>ah rfl) λ_=>?_;show(av T fB fA F K) fF j (match ae ⟨T,fB⟩ (bo ⟨T,fB⟩) e (a.off % bm ⟨T,fB⟩ e) with|some b=>_|_=>_) (match ae ⟨T,fB⟩ (bo ⟨T,fB⟩) e (a.off % bm ⟨T,fB⟩ e) with|some b=>_|_=>_)
   cases ae ⟨T,fB⟩ (bo ⟨T,fB⟩) e (a.off % bm ⟨T,fB⟩ e) with
   |none=>exact ak
   |some b=>exact ah rfl
def Ly(f:ρ.bw T.globals.size){a a':Addr}(h:AR ρ a a')(c b:Nat):av T fB fA F K RA_ ρ (partAt a c b) (partAt a' c b):=by
 unfold partAt;refine af f (iA f h) λσ d g x k e=>?_;subst e;have i:AR σ { block:=a.block,off:=a.off+c } { block:=a'.block,off:=a'.off+c }:=⟨d h.1,by show a.off+c=a'.off+c;rw[h.2.1],rfl⟩
 refine af g (iA g i) λl j _ y y' e=>?_;subst e;refine ah ?_
 split
 ·exact i.mono j
 ·exact⟨j (d h.1),by show a.off+c=a'.off+c;rw[h.2.1],rfl⟩
def zx(c:ρ.bw T.globals.size){a a':Addr}(h:AR ρ a a')(f:Field):av T fB fA F K RA_ ρ (ag a f) (ag a' f):=by
 unfold ag;refine af c (bN c f.type) λσ b d n n' e=>?_;subst e;exact aN (λ_=>Ly d (h.mono b) _ _) λ_=>ah ((h.mono b).add _)
def FV(g:ρ.bw T.globals.size)(s:aa){v v':Value}(h:VR F ρ v v')(i:Nat):av T fB fA F K (RV F) ρ (a6 s v i) (a6 s v' i):=by
 unfold a6;refine af g (bk s) λσ b j d l e=>?_;subst e
 cases d with
 |struct fields=>
  simp only
  cases fields[i]? with
  |none=>exact ak
  |some f=>
   simp only;refine af j (iV (h.mono b)) λm n c a o k=>?_;exact af c (zx c k f) λ_ _ _ _ _ hb=>ah (.ptr hb)
 |_=>exact ak
def Of(b:ρ.bw T.globals.size)(s:aa){v v':Value}(h:VR F ρ v v')(i:Nat):av T fB fA F K (RV F) ρ (a7 s v i) (a7 s v' i):=by
 unfold a7;refine af b (bk s) λσ a c d j e=>?_;subst e
 cases d with
 |struct fields=>
  simp only
  cases fields[i]? with
  |none=>exact ak
  |some f=>exact af c (Ob (h.mono a)) λk _ g _ _ hc=>kI g f.type hc f.offset
 |_=>exact ak
def Og(g:ρ.bw T.globals.size)(t:aa){v v' x f:Value}(h:VR F ρ v v')(j:VR F ρ x f):av T fB fA F K (RV F) ρ (a8 t v x) (a8 t v' f):=by
 unfold a8;refine af g (jT j) λσ c l o p e=>?_;subst e;obtain⟨k,i⟩:=o;refine af l (bk t) λw q a d y e=>?_;subst e;have hv:=h.mono (bi c q)
 cases d with
 |array n elem=>
  cases hv with
  |agg hc=>
   refine aN (λ_=>?_) λ_=>dW a _ _ _ _;refine af a (bN a elem) λz r u m m' e=>?_;subst e;exact kI u elem (bl r hc) _
  |_=>exact ak
 |string=>
  cases hv with
  |string s=>
   simp only
   cases(if 0<=i then s[i.toNat]? else none) with
   |none=>exact dW a _ _ _ _
   |some b=>exact ah (.int _ _)
  |_=>exact ak
 |_=>exact ak
def FW(z:ρ.bw T.globals.size)(t:aa){v v' x y:Value}(h:VR F ρ v v')(A:VR F ρ x y):av T fB fA F K (RV F) ρ (a9 t v x) (a9 t v' y):=by
 unfold a9;refine af z (jT A) λσ s B C E e=>?_;subst e;obtain⟨k,i⟩:=C;refine af B (bk t) λu H o d M e=>?_;subst e;have hv:=h.mono (bi s H);have b:∀(g:Ren)(p:g.bw T.globals.size)(base q:Option Addr)(len:Nat)(elem:aa),
  (base=none/\q=none)\/(∃a j,base=some a/\q=some j/\(AR g a j\/len=0))->av T fB fA F K (RV F) g
  (do
    let w:=len<=1&&(match<-ai t with | .array ..=>true|_=>false)
    match base with
    |some a=>if 0<=i/\i<len then pure (.pointer (some (a.add (i.toNat*(<-sizeOf elem))))) else if w then ao (.noEntry "op/indexAddr.an index out of range at an array of length 0 or 1 (ledger 616)") else ap k i len .index
    |none=>ap k i 0 .index)
  (do
    let w:=len<=1&&(match<-ai t with | .array ..=>true|_=>false)
    match q with
    |some a=>if 0<=i/\i<len then pure (.pointer (some (a.add (i.toNat*(<-sizeOf elem))))) else if w then ao (.noEntry "op/indexAddr.an index out of range at an array of length 0 or 1 (ledger 616)") else ap k i len .index
    |none=>ap k i 0 .index):=by
  intro g p base q len elem hb;refine af p (bk t) λN I r O J e=>?_;subst e
  rcases hb with⟨rfl,rfl⟩|⟨a,j,rfl,rfl,f⟩
  ·exact dW r _ _ _ _
  ·refine aN (λhb=>?_) λ_=>aN (λ_=>aA) λ_=>dW r _ _ _ _
   rcases f with f|rfl
   rotate_left
   ·exact absurd hb (by simp)
   refine af r (bN r elem) λP L _ m m' e=>?_;subst e;exact ah (.ptr (((f.mono I).mono L).add _))
 cases d with
 |array n elem=>
  exact af o (iV hv) λg _ p a j f=>b g p (some a) (some j) n elem (.inr ⟨_,_,rfl,rfl,.inl f⟩)
 |slice elem=>
  cases hv with
  |di l c=>exact b u o none none l elem (.inl ⟨rfl,rfl⟩)
  |slice l c f=>exact b u o _ _ l elem (.inr ⟨_,_,rfl,rfl,.inl f⟩)
  |dK D a=>exact b u o _ _ 0 elem (.inr ⟨_,_,rfl,rfl,.inr rfl⟩)
  |_=>exact bz
 |_=>exact bz
def FX{v v':Value}(h:VR F ρ v v')(i:Nat):av T fB fA F K (RV F) ρ (ba v i) (ba v' i):=by
 unfold ba
 cases h with
 |tuple hc=>
  rcases VA.get? hc i with⟨a,b⟩|⟨v,v',a,b,hv⟩
  ·simp only[a];exact ak
  ·simp only[a,b];exact ah hv
 |_=>exact ak
def iQ(b:ρ.bw T.globals.size){x a:Value}(h:VR F ρ x a)(y:Nat)(c:BoundsCode):av T fB fA F K fF ρ (bb x y c) (bb a y c):=by
 unfold bb;refine af b (jT h) λσ _ d g f e=>?_;subst e;exact aN (λ_=>ah rfl) λ_=>dW d _ _ _ _
inductive lJ(F:FuncId->Bool)(ρ:Ren):Option Value->Option Value->Prop
 |none:lJ F ρ none none
 |some {v v':Value} (h:VR F ρ v v'):lJ F ρ (some v) (some v')
def lJ.mono(h:ρ.le σ){o o':Option Value}(x:lJ F ρ o o'):lJ F σ o o':=by
 cases x with
 |none=>exact .none
 |some a=>exact .some (a.mono h)
def eY(d:ρ.bw T.globals.size)(b:Bool)(len cap:Nat){l l' h p m m':Option Value}(hl:lJ F ρ l l')(q:lJ F ρ h p)(s:lJ F ρ m m') :
 av T fB fA F K fF ρ (bc b len cap l h m) (bc b len cap l' p m'):=by
 unfold bc;have k:∀(σ:Ren)(_:σ.bw T.globals.size)(H M:Nat)(l l':Option Value)(full:Bool),lJ F σ l l'->av T fB fA F K fF σ
  (do
    let n<-match l with
     |some v=>bb v H (if full then .slice3C else .sliceB)
     |none=>pure 0
    pure (n,H,M))
  (do
    let n<-match l' with
     |some v=>bb v H (if full then .slice3C else .sliceB)
     |none=>pure 0
    pure (n,H,M)):=by
  intro σ d H M l l' full hl
  cases hl with
  |none=>exact ah rfl
  |some hv=>exact af d (iQ d hv _ _) λ_ _ _ a u e=>ah (by rw[e])
 cases s with
 |none=>
  refine af (RA:=fF) d (ah rfl) λσ c f M t e=>?_;subst e
  cases q with
  |none=>
   refine af (RA:=fF) f (ah rfl) λg i j H r e=>?_;subst e;exact k g j _ _ _ _ false (hl.mono (bi c i))
  |some hv=>
   refine af (RA:=fF) f (iQ f (hv.mono c) _ _) λg i j H r e=>?_;subst e;exact k g j _ _ _ _ false (hl.mono (bi c i))
 |some o=>
  refine af (RA:=fF) d (iQ d o _ _) λσ c f M t e=>?_;subst e
  cases q with
  |none=>exact bz
  |some hv=>
   refine af (RA:=fF) f (iQ f (hv.mono c) _ _) λg i j H r e=>?_;subst e;exact k g j _ _ _ _ true (hl.mono (bi c i))
def gP(d:ρ.bw T.globals.size){x b:Value}(h:VR F ρ x b)(c:BoundsCode):av T fB fA F K (λ_ a a'=>a=0/\a'=0) ρ (bb x 0 c) (bb b 0 c):=by
 unfold bb;refine af d (jT h) λσ _ f g i e=>?_;subst e;refine aN (λh=>ah ?_) λ_=>dW f _ _ _ _;have:g.2.toNat=0:=by have:=h.2;simp at this;omega
 exact⟨this,this⟩
def vE(d:ρ.bw T.globals.size)(b:Bool){l l' h p m m':Option Value}(hl:lJ F ρ l l')(q:lJ F ρ h p)(s:lJ F ρ m m') :
 av T fB fA F K (λ_ a a'=>a=(0,0,0)/\a'=(0,0,0)) ρ (bc b 0 0 l h m) (bc b 0 0 l' p m'):=by
 unfold bc;have k:∀(σ:Ren)(_:σ.bw T.globals.size)(l l':Option Value)(full:Bool),lJ F σ l l'->av T fB fA F K (λ_ a a'=>a=(0,0,0)/\a'=(0,0,0)) σ
  (do
    let n<-match l with
     |some v=>bb v 0 (if full then .slice3C else .sliceB)
     |none=>pure 0
    pure (n,0,0))
  (do
    let n<-match l' with
     |some v=>bb v 0 (if full then .slice3C else .sliceB)
     |none=>pure 0
    pure (n,0,0)):=by
  intro σ d l l' full hl
  cases hl with
  |none=>exact ah ⟨rfl,rfl⟩
  |some hv=>exact af d (gP d hv _) λ_ _ _ a a' e=>ah (by obtain⟨rfl,rfl⟩:=e;exact⟨rfl,rfl⟩)
 cases s with
 |none=>
  refine af (RA:=λ_ a a'=>a=0/\a'=0) d (ah ⟨rfl,rfl⟩) λσ c f M t e=>?_;obtain⟨rfl,rfl⟩:=e
  cases q with
  |none=>
   refine af (RA:=λ_ a a'=>a=0/\a'=0) f (ah ⟨rfl,rfl⟩) λg i j H r e=>?_;obtain⟨rfl,rfl⟩:=e;exact k g j _ _ false (hl.mono (bi c i))
  |some hv=>
   refine af f (gP f (hv.mono c) _) λg i j H r e=>?_;obtain⟨rfl,rfl⟩:=e;exact k g j _ _ false (hl.mono (bi c i))
 |some o=>
  refine af d (gP d o _) λσ c f M t e=>?_;obtain⟨rfl,rfl⟩:=e
  cases q with
  |none=>exact bz
  |some hv=>
   refine af f (gP f (hv.mono c) _) λg i j H r e=>?_;obtain⟨rfl,rfl⟩:=e;exact k g j _ _ true (hl.mono (bi c i))
def Oi(B:ρ.bw T.globals.size)(t:aa){x w:Value}(p:VR F ρ x w){l l' h y m m':Option Value}(hl:lJ F ρ l l')(i:lJ F ρ h y)(j:lJ F ρ m m') :
 av T fB fA F K (RV F) ρ (bd t x l h m) (bd t w l' y m'):=by
 unfold bd;refine af B (bk t) λσ f g d C e=>?_;subst e;have p:=p.mono f;have hl:=hl.mono f;have i:=i.mono f;have j:=j.mono f
 cases d with
 |string=>
  cases p with
  |string s=>
   cases j with
   |some _=>exact bz
   |none=>
    refine af g (eY g _ _ _ hl i .none) λ_ _ _ a r e=>?_;subst e;exact ah (.string _)
  |_=>exact ak
 |slice elem=>
  cases p with
  |di len cap=>
   refine af g (eY g _ _ _ hl i j) λu k c a r e=>?_;subst e;refine af c (bN c elem) λ_ _ _ n n' e=>?_;subst e;refine ah ?_;show VR F _ (.slice (if _ then none else none) _ _) (.slice (if _ then none else none) _ _);simp only[ite_self];exact .di _ _
  |slice len cap q=>
   refine af g (eY g _ _ _ hl i j) λu k c a r e=>?_;subst e;refine af c (bN c elem) λ_ o _ n n' e=>?_;subst e;refine ah ?_
   split
   ·exact .slice _ _ ((q.mono k).mono o)
   ·exact .slice _ _ (((q.mono k).mono o).add _)
  |dK D a=>
   refine af g (vE g _ hl i j) λu k c b b' e=>?_;obtain⟨rfl,rfl⟩:=e;refine af c (bN c elem) λ_ o _ n n' e=>?_;subst e;exact ah (.dK D a)
  |_=>exact ak
 |pointer arr=>
  refine af g (z7 p) λu k c a r q=>?_;refine af c (bk arr) λI o z d C e=>?_;subst e
  cases d with
  |array n elem=>
   have v:=bi k o;refine af z (eY z _ _ _ (hl.mono v) (i.mono v) (j.mono v)) λJ E A b b' e=>?_;subst e;refine af A (bN A elem) λ_ H _ n n' e=>?_;subst e;refine ah ?_;have ha':=((q.mono o).mono E).mono H
   split
   ·exact .slice _ _ ha'
   ·exact .slice _ _ (ha'.add _)
  |_=>exact ak
 |_=>exact ak
def FZ(s:ρ.bw T.globals.size)(t:aa){x k:Value}(f:VR F ρ x k){l l' h o m m':Option Value}(hl:lJ F ρ l l')(g:lJ F ρ h o)(i:lJ F ρ m m') :
 av T fB fA F K (RV F) ρ (bg t x l h m) (bg t k l' o m'):=by
 unfold bg;refine af s (bk t) λσ c p d y e=>?_;subst e;have f:=f.mono c;have hl:=hl.mono c;have g:=g.mono c;have i:=i.mono c
 cases d with
 |array n elem=>
  refine af p (iV f) λz j q a A u=>?_;refine af q (eY q _ _ _ (hl.mono j) (g.mono j) (i.mono j)) λB v r b b' e=>?_;subst e;refine af r (bN r elem) λ_ w _ n n' e=>?_;subst e;refine ah ?_;have ha':=(u.mono v).mono w
  split
  ·exact .slice _ _ ha'
  ·exact .slice _ _ (ha'.add _)
 |_=>exact Oi p t f hl g i
def oa{g a:Type}:∀(l:List g){ρ:Ren}(_:ρ.bw T.globals.size)(b:a){f f':g->a->Sem (ForInStep a)},
 (∀x∈l,∀σ:Ren,ρ.le σ->σ.bw T.globals.size->∀b,av T fB fA F K fF σ (f x b) (f' x b))->av T fB fA F K fF ρ (forIn l b f) (forIn l b f'):=by
 intro l
 induction l with
 |nil=>intro ρ c b f f' _;exact ah rfl
 |cons x l i=>
  intro ρ c b f f' h;rw[List.forIn_cons,List.forIn_cons];refine af c (h x (by simp) ρ (bj _) c b) λσ d j s o e=>?_;subst e
  cases s with
  |done b=>exact ah rfl
  |yield b=>exact i j b λy hy k m n b=>h y (by simp[hy]) k (bi d m) n b
def Be{c a:Type}(l:Array c)(d:ρ.bw T.globals.size)(b:a){f f':c->a->Sem (ForInStep a)}
 (h:∀x,∀σ:Ren,ρ.le σ->σ.bw T.globals.size->∀b,av T fB fA F K fF σ (f x b) (f' x b)):av T fB fA F K fF ρ (forIn l b f) (forIn l b f'):=by
 rw[<-Array.forIn_toList,<-Array.forIn_toList];exact oa l.toList d b λx _=>h x
def oc{a:Type}(n:Nat)(c:ρ.bw T.globals.size)(b:a){f f':Nat->a->Sem (ForInStep a)}
 (h:∀x,∀σ:Ren,ρ.le σ->σ.bw T.globals.size->∀b,av T fB fA F K fF σ (f x b) (f' x b)):av T fB fA F K fF ρ (forIn [0:n] b f) (forIn [0:n] b f'):=by
 rw[bs,bs];exact oa _ c b λx _=>h x
def uT(h:ρ.bw T.globals.size){a a' b b':Addr}(i:AR ρ a a')(hb:AR ρ b b'):av T fB fA F K fF ρ (aq a b) (aq a' b'):=by
 have e1:(a.block==b.block)=(a'.block==b'.block):=by
  rw[bt,beq_iff_eq,beq_iff_eq];exact⟨λe=>h.fn i.1 (e▸hb.1),λe=>h.inj i.1 (e▸hb.1)⟩
 have t:(a==b)=(a'==b'):=by
  rw[bt,beq_iff_eq,beq_iff_eq];exact AR.eq_iff h i hb
 unfold aq;rw[e1,t];refine aN (λ_=>ah rfl) λ_=>?_;refine af h (pL i) λσ d m x j e=>?_;subst e;have tail:∀σ:Ren,ρ.le σ->σ.bw T.globals.size->av T fB fA F K fF σ
  (do
    ab a
    ab b
    if<-ar a b then return(<-choose (.extern "sameAddr.stringBytes" 2))==1
    pure false)
  (do
    ab a'
    ab b'
    if<-ar a' b' then return(<-choose (.extern "sameAddr.stringBytes" 2))==1
    pure false):=by
  intro σ d m;refine af m (tX m (i.mono d)) λf g q _ _ _=>?_;have d:=bi d g;refine af q (tX q (hb.mono d)) λf g r _ _ _=>?_;have d:=bi d g;refine af r (RA:=fF) ?_ λf g s x j e=>?_
  ·unfold ar;have str:∀(f:Ren)(_:f.bw T.globals.size)(c k:Addr),AR f c k->av T fB fA F K fF f (aw c) (aw k):=by
    intro f h c k hc;unfold aw;refine af h (pL hc) λσ d m x j e=>?_;subst e;refine aN (λ_=>ah rfl) λ_=>?_;refine af m (jS (d hc.1)) λf g u y y' e=>?_;subst e
    cases y with
    |none=>exact ah rfl
    |some v=>exact pL ⟨g (d hc.1),rfl,rfl⟩
   have o:∀(f:Ren)(_:f.bw T.globals.size)(c k:Addr),AR f c k->av T fB fA F K fF f (do pure ((<-shape c.block) matches some (_,0)):Sem Bool) (do pure ((<-shape k.block) matches some (_,0)):Sem Bool):=by
    intro f h c k hc;exact af h (jS hc.1) λ_ _ _ x j e=>ah (by rw[e])
   refine af r (str _ r a a' (i.mono d)) λf g s x j e=>?_;have d:=bi d g;subst e;refine af s (str _ s b b' (hb.mono d)) λf g p x j e=>?_;have d:=bi d g;subst e;refine af p (o _ p a a' (i.mono d)) λf g l x j e=>?_;have d:=bi d g;subst e;refine af l (o _ l b b' (hb.mono d)) λf g l x j e=>?_;subst e;exact ah rfl
  ·subst e;refine aN (λ_=>?_) λ_=>ah rfl;exact⟨_,rfl,λn=>⟨_,rfl,rfl⟩⟩
 refine af m (pL (hb.mono d)) λf g q y y' e=>?_;subst e;refine aN (λ_=>aM) λ_=>?_;exact tail f (bi d g) q
def wT(d:ρ.bw T.globals.size){v v' u c:Value}(h:VR F ρ v v')(k:VR F ρ u c):∀{a a' b b':Option Addr},v=.pointer a->v'=.pointer a'->u=.pointer b->c=.pointer b'->av T fB fA F K fF ρ (aB a b) (aB a' b'):=by
 rintro a a' b b' rfl rfl rfl rfl
 cases h with
 |dS=>cases k<;>exact ah rfl
 |ptr e=>
  cases k with
  |dS=>exact ah rfl
  |ptr hb=>exact uT d e hb
def F0(a:ρ.bw T.globals.size)(t:aa):av T fB fA F K fF ρ (aF t) (aF t):=by
 unfold aF;refine af a (ee t) λσ _ _ i b e=>?_;subst e;exact aN (λ_=>aA) λ_=>ah rfl
set_option maxHeartbeats 8000000 in
def qS:∀(d:Nat){ρ:Ren}(_:ρ.bw T.globals.size)(t:aa){x x' y y':Value}(_:VR F ρ x x')(_:VR F ρ y y'),av T fB fA F K fF ρ (bu d t x y) (bu d t x' y'):=by
 intro d
 induction d with
 |zero=>intro ρ hI t x x' y y' _ _;exact aA
 |succ d ih=>
  intro ρ hI t x x' y y' hx hy;unfold bu;refine af hI (bk t) λσ hle bC ds ds' e=>?_;subst e;have hx:=hx.mono hle;have hy:=hy.mono hle
  cases ds with
  |bool=>cases hx<;>cases hy<;>first|exact ah rfl|exact ak
  |int k=>
   cases hx with
   |int k n=>
    cases hy with
    |int k' m=>exact aN (λ_=>ah rfl) λ_=>ak
    |dS=>exact aA
    |ptr _=>
     by_cases hn:n=0
     ·subst hn;exact ah rfl
     ·cases n with
      |ofNat n=>cases n with
       |zero=>exact absurd rfl hn
       |succ n=>exact aA
      |negSucc n=>exact aA
    |_=>exact ak
   |dS=>cases hy<;>exact aA
   |ptr ha=>
    cases hy with
    |int k' m=>
     by_cases hn:m=0
     ·subst hn;exact ah rfl
     ·cases m with
      |ofNat n=>cases n with
       |zero=>exact absurd rfl hn
       |succ n=>exact aA
      |negSucc n=>exact aA
    |ptr hb=>
     refine af bC (gC bC ha) λτ aI gE a a' ha=>?_;refine af gE (gC gE (hb.mono aI)) λυ gp iP b b' hb=>?_;have ha:=ha.1;have hb:=hb.1;have ha:=ha.mono gp;refine bI ?_;have e1:(a.1.block==b.1.block)=(a'.1.block==b'.1.block):=by
      rw[bt,beq_iff_eq,beq_iff_eq];exact⟨λe=>iP.fn ha.1 (e▸hb.1),λe=>iP.inj ha.1 (e▸hb.1)⟩
     have e2:(a.1==b.1)=(a'.1==b'.1):=by
      rw[bt,beq_iff_eq,beq_iff_eq];exact AR.eq_iff iP ha hb
     have e3:decide (a.1.block<T.globals.size)=decide (a'.1.block<T.globals.size):=by
      rw[decide_eq_decide];exact iP.XS ha.1
     have rest:∀(φ:Ren),υ.le φ->φ.bw T.globals.size->av T fB fA F K fF φ
      (do
        let .named "sync.copyChecker" _:=(<-typeInfo t).desc|unsupported .addressObserved
        if a.1==b.1 then pure true else ao .addressObserved)
      (do
        let .named "sync.copyChecker" _:=(<-typeInfo t).desc|unsupported .addressObserved
        if a'.1==b'.1 then pure true else ao .addressObserved):=by
      intro φ _ hIf;refine af hIf (ee t) λχ _ _ i i' e=>?_;subst e;rw[e2]
      split
      ·exact aN (λ_=>ah rfl) λ_=>aA
      ·exact aA
     simp only[e1];show(av T fB fA F K) fF υ (if(_&&decide (a.1.block<T.globals.size))=true then _ else _) (if(_&&decide (a'.1.block<T.globals.size))=true then _ else _);rw[e3];refine aN (λ_=>?_) λ_=>rest υ (bj _) iP;refine af iP (iA iP ha) λφ kY qq z z' e=>?_;subst e;refine af qq (iA qq (hb.mono kY)) λ_ _ _ z z' e=>?_;subst e;exact ah rfl
    |_=>exact aA
   |_=>cases hy<;>first|exact ak|exact aA
  |float k=>
   cases hx<;>cases hy<;>first|exact aN (λ_=>ah rfl) (λ_=>ak)|exact ak
  |complex k=>
   cases hx<;>cases hy<;>first|exact aN (λ_=>ah rfl) (λ_=>ak)|exact ak
  |string=>cases hx<;>cases hy<;>first|exact ah rfl|exact ak
  |pointer elem=>
   cases hx with
   |dS=>cases hy<;>first|exact ah rfl|exact ak
   |ptr ha=>
    cases hy with
    |dS=>exact ah rfl
    |ptr hb=>
     refine af bC (bN bC elem) λτ aI gE n n' e=>?_;subst e;refine aN (λ_=>uT gE (ha.mono aI) (hb.mono aI)) λ_=>?_;have e2:(_==_)=(_==_):=Bool.eq_iff_iff.2 ((beq_iff_eq.trans (AR.eq_iff gE (ha.mono aI) (hb.mono aI))).trans beq_iff_eq.symm);rw[e2];refine aN (λ_=>ah rfl) λ_=>?_;exact⟨_,rfl,λn=>⟨_,rfl,rfl⟩⟩
    |_=>exact ak
   |_=>cases hy<;>exact ak
  |unsafePointer=>
   cases hx<;>cases hy<;>first|exact ak|(refine wT bC ?_ ?_ rfl rfl rfl rfl<;>(constructor<;>assumption))
  |chan _ _=>cases hx<;>cases hy<;>exact ak
  |interface ms=>
   cases hx with
   |nilIface=>cases hy<;>first|exact ah rfl|exact ak
   |iface tx hvx=>
    cases hy with
    |nilIface=>exact ah rfl
    |iface ty hvy=>
     refine aN (λ_=>ah rfl) λ_=>?_;refine af bC (ee tx) λτ aI gE i i' e=>?_;subst e;refine aN (λ_=>?_) λ_=>ih gE tx (hvx.mono aI) (hvy.mono aI);refine bI ?_;refine bI ?_;rw[rX T fA fB];show(av T fB fA F K) fF τ (if(bp ⟨T,fB⟩ (bo ⟨T,fB⟩) tx)=true then _ else _) (if(bp ⟨T,fB⟩ (bo ⟨T,fB⟩) tx)=true then _ else _);refine aN (λ_=>aM) λ_=>?_;refine af gE (F0 gE tx) λυ _ _ z z' e=>?_;subst e;exact cX _
    |_=>exact ak
   |_=>cases hy<;>exact ak
  |struct fields=>
   cases hx with
   |agg Tw=>
    cases hy with
    |agg hys=>
     refine bI ?_;rw[rW T fA fB];refine aN (λ_=>aM) λ_=>?_;refine af bC (Be fields bC _ λf τ aI gE b=>?_) λυ _ _ z z' e=>?_
     ·refine aN (λ_=>?_) λ_=>ah rfl;refine af gE (kI gE f.type (bl aI Tw) f.offset) λυ gp iP p p' hp=>?_;refine af iP (kI iP f.type (bl gp (bl aI hys)) f.offset) λφ kY qq q q' hq=>?_;refine af qq (ih qq f.type (hp.mono kY) hq) λ_ _ _ z z' e=>?_;subst e;exact aN (λ_=>ah rfl) λ_=>ah rfl
     ·subst e;obtain⟨z1,z2⟩:=z;cases z1<;>exact ah rfl
    |_=>exact ak
   |_=>cases hy<;>exact ak
  |array len elem=>
   cases hx with
   |agg Tw=>
    cases hy with
    |agg hys=>
     refine af bC (bN bC elem) λτ0 X2 hI0 n n' e=>?_;subst e;have Tw:=bl X2 Tw;have hys:=bl X2 hys;refine af hI0 (oc len hI0 _ λi τ aI gE b=>?_) λυ _ _ z z' e=>?_
     ·refine af gE (kI gE elem (bl aI Tw) (i*n)) λυ gp iP p p' hp=>?_;refine af iP (kI iP elem (bl gp (bl aI hys)) (i*n)) λφ kY qq q q' hq=>?_;refine af qq (ih qq elem (hp.mono kY) hq) λ_ _ _ z z' e=>?_;subst e;exact aN (λ_=>ah rfl) λ_=>ah rfl
     ·subst e;obtain⟨z1,z2⟩:=z;cases z1<;>exact ah rfl
    |_=>exact ak
   |_=>cases hy<;>exact ak
  |slice _=>cases hx<;>cases hy<;>first|exact ah rfl|exact ak
  |map _ _=>cases hx<;>cases hy<;>first|exact ah rfl|exact ak
  |func _ _ _=>cases hx<;>cases hy<;>first|exact ah rfl|exact ak
  |_=>cases hx<;>cases hy<;>exact ak
def CX(a:ρ.bw T.globals.size)(d:Nat)(t:aa):av T fB fA F K fF ρ (bv d t .nilIface .nilIface) (bv d t .nilIface .nilIface):=by
 cases d with
 |zero=>exact aA
 |succ d=>
  unfold bv;refine af a (bk t) λσ b f ds c e=>?_;subst e;cases ds<;>exact ah rfl
def F1(d:ρ.bw T.globals.size)(op:BinOp)(t:aa)(x y:Operand){a a' b b':Value}(f:VR F ρ a a')(hb:VR F ρ b b')(g:a≠.tuple #[])(c:b≠.tuple #[])
 (hg:(op matches .eql | .neq)=true->bq ⟨T,fB⟩ (bo ⟨T,fB⟩) t=false):av T fB fA F K fF ρ (aH op t x y a b) (aH op t x y a' b'):=by
 unfold aH;refine aN (λ_=>ah rfl) λh=>?_;have i:bq ⟨T,fB⟩ (bo ⟨T,fB⟩) t=false:=hg (by cases op<;>first|rfl|exact absurd rfl h)
 cases f with
 |nilIface=>
  cases hb with
  |nilIface=>
   refine aN (λ_=>ah rfl) λ_=>?_;refine af d (CX d _ t) λ_ _ _ z k e=>?_;subst e;exact aN (λ_=>aA) λ_=>ah rfl
  |hole=>exact absurd rfl c
  |_=>exact ah rfl
 |agg l=>
  cases hb with
  |agg j=>
   refine bI (bI ?_);rw[kJ T fA fB];show(av T fB fA F K) fF ρ (if(!bq ⟨T,fB⟩ (bo ⟨T,fB⟩) t)=true then _ else _) (if(!bq ⟨T,fB⟩ (bo ⟨T,fB⟩) t)=true then _ else _);rw[i];exact ah rfl
  |hole=>exact absurd rfl c
  |_=>exact ah rfl
 |hole=>exact absurd rfl g
 |_=>cases hb with
  |hole=>exact absurd rfl c
  |_=>exact ah rfl
def uU(op:BinOp)(k:aJ)(a b:Int):av T fB fA F K (RV F) ρ (bx op k a b) (bx op k a b):=by
 cases op<;>first|exact ah (.int _ _)|exact ak
def Lz(op:BinOp)(a b:Int):av T fB fA F K (RV F) ρ (bA op a b) (bA op a b):=by
 cases op<;>first|exact ah (.bool _)|exact ak
def wU(op:BinOp)(k:aJ)(a b:Int):av T fB fA F K (RV F) ρ (bL op k a b) (bL op k a b):=by
 cases op<;>first|exact ah (.int _ _)|exact ak
def LA(op:BinOp)(k:aJ)(a b:Int):av T fB fA F K (RV F) ρ (bM op k a b) (bM op k a b):=by
 unfold bM;refine aN (λ_=>cX _) λ_=>?_;cases op<;>first|exact ah (.int _ _)|exact ak
def CY(op:BinOp)(k j:aJ)(a b:Int):av T fB fA F K (RV F) ρ (bR op k a j b) (bR op k a j b):=by
 unfold bR;refine aN (λ_=>cX _) λ_=>?_;cases op<;>first|exact ah (.int _ _)|exact ak
def oe(op:BinOp)(a b:ByteArray):av T fB fA F K (RV F) ρ (bT op a b) (bT op a b):=by
 unfold bT;cases op<;>first|exact aN (λ_=>aA) (λ_=>ah (.string _))|exact ah (.bool _)|exact ak
def RP:Ren->Value->Value->Prop:=λρ v v'=>∃a b,v=.pointer (some a)/\v'=.pointer (some b)/\AR ρ a b
def uV(j:ρ.bw T.globals.size){x f y y':Value}(g:VR F ρ x f)(hy:VR F ρ y y')(ts:Array aa)(t:aa):av T fB fA F K RP ρ (b6 ts t #[x,y]) (b6 ts t #[f,y']):=by
 unfold b6;have main:∀{p k:Option Addr},x=.pointer p->f=.pointer k->av T fB fA F K RP ρ (b6 ts t #[x,y]) (b6 ts t #[f,y']):=by
  rintro p k rfl rfl;unfold b6;refine af j (Oa j hy) λσ b h n n' e=>?_;subst e;refine aN (λ_=>?_) λ_=>?_
  ·cases g with
   |dS=>first|exact aA|exact aM
   |ptr d=>
    refine af h (z8 h (b d.1)) λl i _ z m e=>?_;obtain⟨rfl,rfl⟩:=e;exact ah ⟨_,_,rfl,rfl,(d.mono b).mono i⟩
  ·refine aN (λ_=>aM) λ_=>?_
   cases g with
   |dS=>first|exact aA|exact aM
   |@ptr a o d=>
    refine af h (jS (b d.1)) λl i _ z m e=>?_;subst e
    cases z with
    |none=>first|exact aA|exact aM
    |some c=>
     refine bI ?_;have ha':=(d.mono b).mono i;rw[rV T fA fB,<-ha'.2.1];show(av T fB fA F K) RP l (match aL ⟨T,fB⟩ (bo ⟨T,fB⟩) c.1 (c.2 / bm ⟨T,fB⟩ c.1) a.off n with|some off=>_|none=>_) (match aL ⟨T,fB⟩ (bo ⟨T,fB⟩) c.1 (c.2 / bm ⟨T,fB⟩ c.1) a.off n with|some off=>_|none=>_)
     cases aL ⟨T,fB⟩ (bo ⟨T,fB⟩) c.1 (c.2 / bm ⟨T,fB⟩ c.1) a.off n with
     |none=>exact aA
     |some off=>exact ah ⟨_,_,rfl,rfl,ha'.1,rfl,ha'.2.2⟩
 cases g with
 |dS=>exact main rfl rfl
 |ptr d=>exact main rfl rfl
 |_=>first|exact ak|exact bz
def CZ(b:ρ.bw T.globals.size){a a':Addr}(h:AR ρ a a')(l:Bool):av T fB fA F K (RV F) ρ (asNumber a l) (asNumber a' l):=
 af b (jO (.number l h)) λ_ _ _ _ _ c=>ah (.ptr ⟨c,rfl,rfl⟩)
def gQ(c:ρ.bw T.globals.size){x b y y':Value}(d:VR F ρ x b)(hy:VR F ρ y y')(ts:Array aa)(t:aa):av T fB fA F K (RV F) ρ (b6 ts t #[x,y]) (b6 ts t #[b,y']):=
 (uV c d hy ts t).mono λσ _ a f⟨_,_,e1,e,h⟩=>by rw[e1,e];exact .ptr h
def eZ(j:ρ.bw T.globals.size)(t:aa){x g y y':Value}(f:VR F ρ x g)(hy:VR F ρ y y'):av T fB fA F K (RV F) ρ (aP t x y) (aP t g y'):=by
 unfold aP;refine af j (bk t) λσ a b d s e=>?_;subst e;refine aN (λ_=>aM) λ_=>?_;have f:=f.mono a;have hy:=hy.mono a
 cases f with
 |ptr k=>
  refine af b (gC b k) λu l i z m c=>?_;obtain⟨z1,v⟩:=z;obtain⟨n,o⟩:=m;obtain⟨c,e⟩:=c;simp only at c e;subst e;refine af i (uV i (.ptr c) (hy.mono l) _ _) λw A p q B r=>?_;obtain⟨_,_,rfl,rfl,hb⟩:=r;exact CZ p hb _
 |dS=>exact gQ b .dS hy _ _
 |hole _ h=>exact ak
 |_=>exact gQ b (by first|exact .wG _ _ _|exact .dK _ _|(constructor<;>assumption)) hy _ _
def vF(a:ρ.bw T.globals.size)(t:aa){x c y y':Value}(f:VR F ρ x c)(hy:VR F ρ y y'):av T fB fA F K (RV F) ρ (aT t x y) (aT t c y'):=by
 unfold aT
 cases f with
 |ptr d=>
  refine af a (uS a d.1) λj e g z k i=>?_
  rcases i with⟨rfl,rfl⟩|⟨b,b',l,rfl,rfl,hb⟩
  ·exact gQ g (.ptr (d.mono e)) (hy.mono e) #[] t
  ·exact aA
 |dS=>exact gQ a .dS hy #[] t
 |hole _ h=>exact ak
 |_=>exact gQ a (by first|exact .wG _ _ _|exact .dK _ _|(constructor<;>assumption)) hy #[] t
def rY(c:ρ.bw T.globals.size){a a' b b':Addr}(d:AR ρ a a')(hb:AR ρ b b'):av T fB fA F K fF ρ (bX a b) (bX a' b'):=by
 unfold bX;refine bI ?_;have e1:(a.block != b.block)=(a'.block != b'.block):=by
  simp only[bne];congr 1;rw[bt,beq_iff_eq,beq_iff_eq];exact⟨λe=>c.fn d.1 (e▸hb.1),λe=>c.inj d.1 (e▸hb.1)⟩
 have g:decide (a.block>=T.globals.size)=decide (a'.block>=T.globals.size):=by
  rw[decide_eq_decide];have:=c.XS d.1;omega
 show(av T fB fA F K) fF ρ (if(_||decide (a.block>=T.globals.size))=true then _ else _) (if(_||decide (a'.block>=T.globals.size))=true then _ else _);rw[e1,g];refine aN (λ_=>aM) λ_=>?_;refine af c (iA c d) λj h f z i e=>?_;subst e;refine af f (iA f (hb.mono h)) λ_ _ _ z i e=>?_;subst e;exact ah rfl
def qT(f:ρ.bw T.globals.size)(k:aJ){a a':Addr}(c:AR ρ a a')(n:Int):av T fB fA F K (RV F) ρ (b1 k a n) (b1 k a' n):=by
 unfold b1;refine af f (jS c.1) λσ b g z h e=>?_;subst e
 cases z with
 |none=>exact aA
 |some j=>
  refine af g (ee j.1) λm l d i o e=>?_;subst e;refine aN (λ_=>aM) λ_=>?_;refine af d (iA d ((c.mono b).mono l)) λ_ _ _ z h e=>?_;subst e;exact ah (.int _ _)
def mN(c:ρ.bw T.globals.size)(op:BinOp){a a' b b':Addr}(d:AR ρ a a')(hb:AR ρ b b'):av T fB fA F K (RV F) ρ (b2 op a b) (b2 op a' b'):=by
 unfold b2;refine af c (rY c d hb) λ_ _ _ z f e=>?_;subst e;obtain⟨x,y⟩:=z;cases op<;>first|exact ah (.bool _)|exact aA
def F2(c:ρ.bw T.globals.size)(k:aJ){a a' b b':Addr}(d:AR ρ a a')(hb:AR ρ b b'):av T fB fA F K (RV F) ρ (b3 k a b) (b3 k a' b'):=by
 unfold b3;refine af c (rY c d hb) λ_ _ _ z f e=>?_;subst e;exact ah (.int _ _)
def wV{d e:Type}{R:Ren->d->e->Prop}(g:ρ.bw T.globals.size){a a' b b':Addr}(l:AR ρ a a')(hb:AR ρ b b'){f:Addr->Addr->Sem d}{c:Addr->Addr->Sem e}
 (h:∀(σ:Ren),ρ.le σ->σ.bw T.globals.size->∀a a' b b',AR σ a a'->AR σ b b'->av T fB fA F K R σ (f a b) (c a' b')) :
 av T fB fA F K R ρ (do f (<-ad a).1 (<-ad b).1) (do c (<-ad a').1 (<-ad b').1):=by
 refine af g (gC g l) λp i j z q m=>?_;refine af j (gC j (hb.mono i)) λn k o y y' hy=>?_;exact h n (bi i k) o _ _ _ _ (m.1.mono k) hy.1
set_option maxHeartbeats 1000000 in
def Oj(hI:ρ.bw T.globals.size)(op:BinOp)(t:aa){a a' b b':Value}(ha:VR F ρ a a')(hb:VR F ρ b b')(na:a≠.tuple #[])(nb:b≠.tuple #[]):av T fB fA F K (RV F) ρ (binOp op t a b) (binOp op t a' b'):=by
 have eqs:av T fB fA F K (RV F) ρ (do pure (.bool (<-b4 t a b)):Sem Value) (do pure (.bool (<-b4 t a' b')):Sem Value):=
  af hI (qS _ hI t ha hb) λ_ _ _ z z' e=>ah (by rw[e];exact .bool _)
 have neqs:av T fB fA F K (RV F) ρ (do pure (.bool (!(<-b4 t a b))):Sem Value) (do pure (.bool (!(<-b4 t a' b'))):Sem Value):=
  af hI (qS _ hI t ha hb) λ_ _ _ z z' e=>ah (by rw[e];exact .bool _)
 have plus:∀{x x' y y':Value},VR F ρ x x'->VR F ρ y y'->av T fB fA F K (RV F) ρ (do if(<-ai t) matches .unsafePointer then aT t x y else aP t x y:Sem Value) (do if(<-ai t) matches .unsafePointer then aT t x' y' else aP t x' y':Sem Value):=by
  intro x x' y y' hx hy;refine af hI (bk t) λσ hle bC d d' e=>?_;subst e;exact aN (λ_=>vF bC t (hx.mono hle) (hy.mono hle)) λ_=>eZ bC t (hx.mono hle) (hy.mono hle)
 by_cases h1:∃k i j l,a=.int k i/\b=.int j l
 ·obtain⟨k,i,j,l,rfl,rfl⟩:=h1;cases ha;cases hb
  cases op with
  |shl=>unfold binOp;exact CY _ _ _ _ _
  |shr=>unfold binOp;exact CY _ _ _ _ _
  |_=>
   unfold binOp;refine aN (λ_=>ak) λ_=>?_
   first|exact uU _ _ _ _|exact LA _ _ _ _|exact wU _ _ _ _|exact Lz _ _ _
 by_cases h2:∃s u,a=.string s/\b=.string u
 ·obtain⟨s,u,rfl,rfl⟩:=h2;cases ha;cases hb;cases op<;>(unfold binOp;exact oe _ _ _)
 by_cases he:op=.eql
 ·subst he;cases ha<;>cases hb<;>first|exact absurd rfl na|exact absurd rfl nb|exact eqs|exact absurd ⟨_,_,_,_,rfl,rfl⟩ h1|exact absurd ⟨_,_,rfl,rfl⟩ h2
 by_cases hn:op=.neq
 ·subst hn;cases ha<;>cases hb<;>first|exact absurd rfl na|exact absurd rfl nb|exact neqs|exact absurd ⟨_,_,_,_,rfl,rfl⟩ h1|exact absurd ⟨_,_,rfl,rfl⟩ h2
 generalize fR:binOp op t a' b'=s';unfold binOp
 split
 ·exact absurd ⟨_,_,_,_,rfl,rfl⟩ h1
 ·exact absurd ⟨_,_,_,_,rfl,rfl⟩ h1
 ·exact absurd ⟨_,_,_,_,rfl,rfl⟩ h1
 ·cases ha
 ·cases ha
 ·exact absurd ⟨_,_,rfl,rfl⟩ h2
 ·exact absurd rfl he
 ·exact absurd rfl hn
 ·cases hb;cases ha<;>(subst fR;first|exact plus .dS (.int _ _)|exact plus (.ptr (by assumption)) (.int _ _))
 ·cases ha;cases hb<;>(subst fR;first|exact eZ hI t .dS (.int _ _)|exact eZ hI t (.ptr (by assumption)) (.int _ _))
 ·cases hb;cases ha<;>(subst fR;first|exact eZ hI t .dS (.int _ _)|exact eZ hI t (.ptr (by assumption)) (.int _ _))
 ·cases ha;cases hb;subst fR;exact wV hI (by assumption) (by assumption) λσ _ bC a a' b b' ha hb=>F2 bC _ ha hb
 ·cases ha;cases hb;subst fR;exact wV hI (by assumption) (by assumption) λσ _ bC a a' b b' ha hb=>mN bC _ ha hb
 ·cases ha;cases hb;subst fR;exact wV hI (by assumption) (by assumption) λσ _ bC a a' b b' ha hb=>mN bC _ ha hb
 ·cases ha;cases hb;subst fR;exact wV hI (by assumption) (by assumption) λσ _ bC a a' b b' ha hb=>mN bC _ ha hb
 ·cases ha;cases hb;subst fR;exact wV hI (by assumption) (by assumption) λσ _ bC a a' b b' ha hb=>mN bC _ ha hb
 ·cases ha;cases hb;subst fR;exact af hI (gC hI (by assumption)) λ_ _ bC z z' hz=>qT bC _ hz.1 _
 ·cases ha;cases hb;subst fR;exact af hI (gC hI (by assumption)) λ_ _ bC z z' hz=>qT bC _ hz.1 _
 ·cases ha;cases hb;subst fR;exact af hI (gC hI (by assumption)) λ_ _ bC z z' hz=>qT bC _ hz.1 _
 ·exact aA
 ·exact aA
 ·exact ak
def wX{a:Type}(t:aa)(g:TypeDesc->Sem a):Sem.bind (ai t) g=.program λp=>match p.underlying t with|some d=>g d|none=>stuck "no such type":=by
 show Sem.program _=Sem.program _;congr 1;funext p;show Sem.bind (match p.underlying t with|some d=>pure d|none=>stuck "no such type") g=_;cases p.underlying t<;>rfl
def Ol(t:aa)(b:Value):bW T fB (b4 t (.tuple #[]) b):=by
 unfold b4 b5 bu;show bW T fB (Sem.bind (ai t) _);rw[wX];show bW T fB (match br ⟨T,fB⟩ t with|some d=>_|none=>stuck "no such type")
 cases br ⟨T,fB⟩ t with
 |none=>trivial
 |some d=>cases d<;>first
  |trivial
  |(cases b<;>first|trivial|rfl|(rename_i o;cases o<;>first|trivial|rfl)|(rename_i o _ _;cases o<;>first|trivial|rfl))
def Om(t:aa)(b:Value):bW T fB (b4 t b (.tuple #[])):=by
 unfold b4 b5 bu;show bW T fB (Sem.bind (ai t) _);rw[wX];show bW T fB (match br ⟨T,fB⟩ t with|some d=>_|none=>stuck "no such type")
 cases br ⟨T,fB⟩ t with
 |none=>trivial
 |some d=>cases d<;>first
  |trivial
  |(cases b<;>first|trivial|rfl|(rename_i o;cases o<;>first|trivial|rfl)|(rename_i o _ _;cases o<;>first|trivial|rfl))
def X3{a c:Type}{R:Ren->a->c->Prop}(t:aa)(b:Value)(f:Bool->Sem a)(s':Sem c):av T fB fA F K R ρ (b4 t (.tuple #[]) b >>= f) s':=bW.rel (bW.bind (Ol t b)) s'
def X4{a c:Type}{R:Ren->a->c->Prop}(t:aa)(b:Value)(f:Bool->Sem a)(s':Sem c):av T fB fA F K R ρ (b4 t b (.tuple #[]) >>= f) s':=bW.rel (bW.bind (Om t b)) s'
def F6(d:ρ.bw T.globals.size)(op:BinOp)(t:aa)(x y:Operand){a a' b b':Value}(g:VR F ρ a a')(hb:VR F ρ b b')
 (hg:(op matches .eql | .neq)=true->bq ⟨T,fB⟩ (bo ⟨T,fB⟩) t=false):av T fB fA F K (RV F) ρ (do aH op t x y a b;binOp op t a b) (do aH op t x y a' b';binOp op t a' b'):=by
 by_cases e:a=.tuple #[]
 ·subst e;generalize(do aH op t x y a' b';binOp op t a' b')=h;cases op<;>first
   |exact X3 t b _ _
   |(cases b<;>first|exact ak|exact(show dw b7=true from rfl)|(rename_i o;cases o<;>first|exact ak|exact(show dw b7=true from rfl)))
 by_cases f:b=.tuple #[]
 ·subst f;generalize(do aH op t x y a' b';binOp op t a' b')=h;cases op<;>first
   |(cases a<;>exact X4 t _ _ _)
   |(cases a<;>first|exact ak|exact(show dw b7=true from rfl)|(rename_i o;cases o<;>first|exact ak|exact(show dw b7=true from rfl)))
 exact af d (F1 d op t x y g hb e f hg) λσ c d _ _ _=>Oj d op t (g.mono c) (hb.mono c) e f
end
end Go.bJ
