/- Part of the proof of FieldLevels: see X45. -/
import Derived.Test.YtmkjeaacgibnoaaGreatX02
import Derived.Conc.Events
set_option linter.all false
open Go renaming Tables->aa,TypeId->ab,TypeDesc->ac,FuncId->ad,underlying->ae,convert->ag,MapEntry->ai,zeroValue->ao,runtimePanic->ap,setObj->aq,loadCells->ar,typeInfo->aw
open Go.Instr renaming checkKey->aB,sameNow->aF,findNow->aH,findAsking->aI,findKey->aJ,lookup->aL,sameBits->aP,keyThatStays->aT,mapUpdate->a5,makeMap->a6,range->a7,entry->a8,next->a9
open Go.bJ.VA renaming mono->ba,three->bb,get?->bc,append->bd
open Array renaming forIn_toList->bg,getElem?_toList->bi,toList_modify->bj,toList_push->bl,find?_toList->bm,all_toList->bo,toList_filter->bp,toList_append->bq,toList_map->br,getElem?_eq_getElem->bs
open Go.Sem renaming bind->bt,bind_assoc'->bu,setObj->bv
open List renaming filter_cons->bx,find?_cons->bA,all_cons->bC,zip_cons_cons->bL
open Bool renaming and_eq_true->bM,noConfusion->bR
open Go.Builtin renaming lenOf->bT,firstCells->bX,holdsCells->b2,zeroCells->b3,mayShare->b4,append_->b5
namespace Go.bJ
def tY(T:aa)(t:ab):Option ac:=Program.underlying ⟨T,#[]⟩ t
def tZ(T:aa)(t:ab):Bool:=match tY T t with|some (.int _)=>true|_=>false
def og(T:aa):Nat->ab->Bool
 |0,_=>false
 |m+1,t=>match tY T t with
  |some (.interface _)=>false
  |some (.array _ e)=>og T m e
  |some (.struct fs)=>fs.toList.all λf=>og T m f.type
  |_=>true
section
variable {T:aa}{fB fA:Array Func}{F:ad->Bool}{K:Code->Bool}{ρ σ:Ren}
def fG(t:ab):av T fB fA F K (λ_ a a'=>a=a'/\tY T t=some a) ρ (ae t) (ae t):=by
 unfold ae;refine bI ?_;show(av T fB fA F K) _ ρ (match tY T t with|some i=>pure i|none=>stuck "no such type") (match tY T t with|some i=>pure i|none=>stuck "no such type")
 cases h:tY T t with
 |none=>exact ak
 |some d=>exact ah ⟨rfl,rfl⟩
def On{op:UnOp}{x a:Value}(h:VR F ρ x a):av T fB fA F K (RV F) ρ (Op.unary op x) (Op.unary op a):=by
 unfold Op.unary;cases op<;>cases h<;>first|exact ak|exact uU _ _ _ _|exact wU _ _ _ _|exact ah (.bool _)|exact aA
def F8(g:ρ.bw T.globals.size){s d:ab}(hs:tZ T s=true)(hd:tZ T d=true){x f:Value}(h:VR F ρ x f):av T fB fA F K (RV F) ρ (ag s d x) (ag s d f):=by
 unfold ag;refine af g (fG s) λσ c i a o e=>?_;obtain⟨rfl,l⟩:=e;refine af i (fG d) λp m q b b' e=>?_;obtain⟨rfl,n⟩:=e;have h:=(h.mono c).mono m;simp only[tZ,l]at hs;simp only[tZ,n]at hd
 cases a with
 |int j=>
  cases b with
  |int k=>cases h<;>first|exact ah (.int _ _)|exact aA
  |_=>exact absurd hd (by simp)
 |_=>exact absurd hs (by simp)
def uW(b:Bool):∀(n:Nat){ρ:Ren}(_:ρ.bw T.globals.size)(m:Nat)(t:ab)(_:og T m t=true){v v':Value}(_:VR F ρ v v'),av T fB fA F K fF ρ (aB b n t v) (aB b n t v'):=by
 intro n
 induction n with
 |zero=>intro ρ o m t a v v' hv;exact aA
 |succ n q=>
  intro ρ o m t a v v' hv
  cases m with
  |zero=>simp[og]at a
  |succ m=>
   unfold aB;refine af o (fG t) λσ j h d D e=>?_;obtain⟨rfl,x⟩:=e;have hv:=hv.mono j;simp only[og,x]at a
   cases d with
   |interface E=>exact absurd a (by simp)
   |array len elem=>
    simp only at a
    cases hv with
    |agg hc=>
     refine af h (oc len h _ λi y k c u=>?_) λ_ _ _ z A e=>?_
     ·refine af c (bN c elem) λB r g s H e=>?_;subst e;refine af g (kI g elem (ba r (ba k hc)) _) λI J w p C l=>?_;refine af w (q w m elem a l) λ_ _ _ _ _ _=>ah rfl
     ·exact ah rfl
    |_=>exact ak
   |struct fields=>
    simp only[List.all_eq_true]at a
    cases hv with
    |agg hc=>
     refine af h (RA:=fF) ?_ λ_ _ _ z A e=>ah rfl;rw[<-bg,<-bg];refine oa fields.toList h _ λf hf y k c u=>?_;refine aN (λ_=>?_) λ_=>ah rfl;refine af c (kI c f.type (ba k hc) f.offset) λB r g p C l=>?_;exact af g (q g m f.type (a f hf) l) λ_ _ _ _ _ _=>ah rfl
    |_=>exact ak
   |_=>cases hv<;>exact ah rfl
inductive ua(F:ad->Bool)(ρ:Ren):Option (Nat×Value)->Option (Nat×Value)->Prop
 |none:ua F ρ none none
 |some (i:Nat) {v v':Value} (h:VR F ρ v v'):ua F ρ (some (i,v)) (some (i,v'))
def C3(d:ac){k k' e e':Value}(a:VR F ρ k k')(b:VR F ρ e e'):aF d k e=aF d k' e'\/(aF d k e=none/\(k=.tuple #[]\/e=.tuple #[])):=by
 cases a with
 |hole=>exact .inr ⟨by cases d<;>rfl,.inl rfl⟩
 |_=>cases b with
  |hole=>exact .inr ⟨by cases d<;>rfl,.inr rfl⟩
  |_=>left;cases d<;>rfl
def LC{t:ab}{d:ac}(hd:tY T t=some d){k e:Value}{b:Bool}(h:aF d k e=some b){a:Type}(f:Bool->Sem a)(hf:bW T fB (f b)):bW T fB (bt (Op.equal t k e) f):=by
 unfold Op.equal Op.maxDepth Op.equalIn;show bW T fB (bt (bt (ae t) _) f);rw[wX];show bW T fB (bt (match tY T t with|some d=>_|none=>stuck "no such type") f);rw[hd];unfold aF at h
 split at h
 ·split at h
  ·injection h with h
   subst h;rename_i c;simp only[c,if_true];exact hf
  ·cases h
 ·injection h with h;subst h;exact hf
 ·injection h with h;subst h;exact hf
 ·cases h
def C4{t:ab}{d:ac}(hd:tY T t=some d){k k':Value}(j:VR F ρ k k'):∀{es a:List ai}(i:Nat),bD F ρ es a->
 (aH d k es i=none/\aH d k' a i=none)\/(∃r f,aH d k es i=some r/\aH d k' a i=some f/\ua F ρ r f)\/(aH d k es i=none/\bW T fB (aI t k es i)):=by
 intro es
 induction es with
 |nil=>intro a i h;cases h;exact .inr (.inl ⟨_,_,rfl,rfl,.none⟩)
 |cons e es l=>
  intro a i h
  cases h with
  |cons g m=>
   rcases C3 d j g.key with hs|⟨hs,c⟩
   ·simp only[aH,<-hs]
    cases hb:aF d k e.key with
    |none=>exact .inl ⟨rfl,rfl⟩
    |some b=>cases b with
     |true=>exact .inr (.inl ⟨_,_,rfl,rfl,.some i g.val⟩)
     |false=>
      rcases l (i+1) m with h|h|⟨n,o⟩
      ·exact .inl h
      ·exact .inr (.inl h)
      ·exact .inr (.inr ⟨n,LC hd hb _ o⟩)
   ·refine .inr (.inr ⟨by simp only[aH,hs],?_⟩);show bW T fB (bt (Op.equal t k e.key) _)
    rcases c with c|c
    ·rw[c];exact(Ol t _).bind
    ·rw[c];exact(Om t _).bind
def zy(t:ab):∀{es c:List ai}{ρ:Ren}(_:ρ.bw T.globals.size){k k':Value}(_:VR F ρ k k')(i:Nat),bD F ρ es c->av T fB fA F K (λσ r j=>ua F σ r j) ρ (aI t k es i) (aI t k' c i):=by
 intro es
 induction es with
 |nil=>intro c ρ d k k' f i h;cases h;exact ah .none
 |cons e es l=>
  intro c ρ d k k' f i h
  cases h with
  |cons g m=>
   refine af d (qS _ d t f g.key) λσ a n b b' e=>?_;subst e;exact aN (λ_=>ah (.some i (g.val.mono a))) λ_=>l n (f.mono a) (i+1) (m.mono a)
def wZ(j:ρ.bw T.globals.size)(t:ab){k k':Value}(f:VR F ρ k k'){es g:List ai}(h:bD F ρ es g):av T fB fA F K (λσ r i=>ua F σ r i) ρ (aJ t k es) (aJ t k' g):=by
 unfold aJ;refine af j (fG t) λσ a l d n e=>?_;obtain⟨rfl,hd⟩:=e
 rcases C4 (fB:=fB) hd (f.mono a) 0 (h.mono a) with⟨b,c⟩|⟨r,i,b,c,m⟩|⟨b,c⟩
 ·rw[b,c];exact zy t l (f.mono a) 0 (h.mono a)
 ·rw[b,c];exact ah m
 ·rw[b];exact c.rel _
def bD.isEmpty{es a:Array ai}(h:bD F ρ es.toList a.toList):es.isEmpty=a.isEmpty:=by
 have:=h.length;simp only[Array.length_toList]at this;simp[Array.isEmpty,this]
def bD.get?{l l':List ai}(h:bD F ρ l l')(i:Nat):(l[i]?=none/\l'[i]?=none)\/∃e e',l[i]?=some e/\l'[i]?=some e'/\zo F ρ e e':=by
 induction h generalizing i with
 |nil=>exact .inl ⟨rfl,rfl⟩
 |cons a _ b=>
  cases i with
  |zero=>exact .inr ⟨_,_,rfl,rfl,a⟩
  |succ i=>simpa using b i
def bD.append{l l' m m':List ai}(x:bD F ρ l l')(y:bD F ρ m m'):bD F ρ (l++m) (l'++m'):=by
 induction x with
 |nil=>exact y
 |cons a _ b=>exact .cons a b
def bD.modify{l l':List ai}(x:bD F ρ l l')(i:Nat){f f':ai->ai}(hf:∀e e',zo F ρ e e'->zo F ρ (f e) (f' e')):bD F ρ (l.modify i f) (l'.modify i f'):=by
 induction x generalizing i with
 |nil=>cases i<;>exact .nil
 |cons a t b=>
  cases i with
  |zero=>exact .cons (hf _ _ a) t
  |succ i=>exact .cons a (b i)
def bD.filter{l l':List ai}(x:bD F ρ l l'){p:ai->Bool}(c:∀e e':ai,e.born=e'.born->p e=p e'):bD F ρ (l.filter p) (l'.filter p):=by
 induction x with
 |nil=>exact .nil
 |cons a t b=>
  rw[bx,bx,<-c _ _ a.born]
  split
  ·exact .cons a b
  ·exact b
def bD.find?{l l':List ai}(x:bD F ρ l l'){p:ai->Bool}(b:∀e e':ai,e.born=e'.born->p e=p e'):(l.find? p=none/\l'.find? p=none)\/∃e e',l.find? p=some e/\l'.find? p=some e'/\zo F ρ e e':=by
 induction x with
 |nil=>exact .inl ⟨rfl,rfl⟩
 |cons a t c=>
  rw[bA,bA,<-b _ _ a.born]
  split
  ·exact .inr ⟨_,_,rfl,rfl,a⟩
  ·exact c
def bD.all{l l':List ai}(x:bD F ρ l l'){p:ai->Bool}(b:∀e e':ai,e.born=e'.born->p e=p e'):l.all p=l'.all p:=by
 induction x with
 |nil=>rfl
 |cons a t c=>simp only[bC,b _ _ a.born,c]
def LD{Z:ab->Bool}(H:dM T F Z)(I:ρ.bw T.globals.size)(t:ab){m:Nat}(J:∀k e,tY T t=some (.map k e)->og T m k=true/\Z e=true){x y i l:Value}(s:VR F ρ x y)(hi:VR F ρ i l)(ok:Bool) :
 av T fB fA F K (RV F) ρ (aL t x i ok) (aL t y l ok):=by
 unfold aL;refine af I (fG t) λσ f A d R e=>?_;obtain⟨rfl,L⟩:=e;have s:=s.mono f;have hi:=hi.mono f
 cases d with
 |map key elem=>
  obtain⟨zz,M⟩:=J key elem L;have a:∀c:Ren,σ.le c->c.bw T.globals.size->∀es n:Array ai,bD F c es.toList n.toList->av T fB fA F K (RV F) c
   (do
     aB es.isEmpty 10000 key i
     let(v,u)<-match<-aJ key i es.toList with
      |some (_,v)=>pure (v,true)
      |none=>pure (<-ao elem,false)
     pure (if ok then .tuple #[v,.bool u] else v))
   (do
     aB n.isEmpty 10000 key l
     let(v,u)<-match<-aJ key l n.toList with
      |some (_,v)=>pure (v,true)
      |none=>pure (<-ao elem,false)
     pure (if ok then .tuple #[v,.bool u] else v)):=by
   intro c p q es n B;rw[bD.isEmpty B];refine af q (uW _ _ q m key zz (hi.mono p)) λS C D _ _ _=>?_;refine af D (wZ D key ((hi.mono p).mono C) (B.mono C)) λN U E r V w=>?_;have fin:∀(g:Ren)(v v':Value)(b:Bool),VR F g v v'->av T fB fA F K (RV F) g (pure (if ok then .tuple #[v,.bool b] else v):Sem Value) (pure (if ok then .tuple #[v',.bool b] else v'):Sem Value):=by
    intro g v v' b hv;refine ah ?_
    split
    ·exact .tuple (VA.two hv (.bool b))
    ·exact hv
   cases w with
   |none=>
    exact af E (gO H E M) λg _ _ z O P=>fin g z O false P.1
   |some j hv=>exact fin N _ _ true hv
  cases s with
  |qQ=>exact a σ (Ren.le_refl _) A #[] #[] .nil
  |map w=>
   refine af A (dA w) λc p q o W Q=>?_
   cases Q with
   |map clock h=>exact a c p q _ _ h
   |_=>exact bz
  |_=>exact bz
 |_=>exact ak
def Bf(g:ρ.bw T.globals.size):∀(n:Nat){a a' b b':Value},VR F ρ a a'->VR F ρ b b'->aP n a b=true->aP n a' b'=true:=by
 intro n;have ptr:∀{a a' b b':Addr},AR ρ a a'->AR ρ b b'->(some a==some b)=true->(some a'==some b')=true:=by
  intro a a' b b' c hb;rw[beq_iff_eq,beq_iff_eq,Option.some_inj,Option.some_inj];exact(AR.eq_iff g c hb).1
 induction n with
 |zero=>
  intro a a' b b' c hb
  cases c with
  |hole=>intro h;unfold aP at h;cases h
  |_=>cases hb with
   |hole=>intro h;unfold aP at h;cases h
   |_=>first|exact id|(unfold aP;first|exact id|exact ptr (by assumption) (by assumption))|(intro h;unfold aP at h;cases h)
 |succ n f=>
  intro a a' b b' c hb
  cases c with
  |hole=>intro h;unfold aP at h;cases h
  |iface t c=>
   cases hb with
   |iface u hb=>
    simp only[aP,bM];exact fun⟨x,y⟩=>⟨x,f c hb y⟩
   |_=>intro h;unfold aP at h;cases h
  |agg c=>
   cases hb with
   |agg hb=>
    have all:∀{l d m m':List Value},cU F ρ l d->cU F ρ m m'->((l.zip m).all fun(x,y)=>aP n x y)=true->((d.zip m').all fun(x,y)=>aP n x y)=true:=by
     intro l
     induction l with
     |nil=>intro d m m' h _ _;cases h;rfl
     |cons x l e=>
      intro d m m' h k
      cases h with
      |cons i j=>
       cases k with
       |nil=>intro _;rfl
       |cons k1 k2=>
        simp only[bL,bC,bM];exact fun⟨x,y⟩=>⟨f i k1 x,e j k2 y⟩
    simp only[aP,VA.size c,VA.size hb,bM];exact fun⟨x,y⟩=>⟨x,all c hb y⟩
   |_=>intro h;unfold aP at h;cases h
  |_=>cases hb with
   |hole=>intro h;unfold aP at h;cases h
   |_=>first|exact id|(unfold aP;first|exact id|exact ptr (by assumption) (by assumption))|(intro h;unfold aP at h;cases h)
def C5(a b:ByteArray):(a==b)=true↔a=b:=by
 obtain⟨x⟩:=a;obtain⟨y⟩:=b;show(x==y)=true↔_;rw[beq_iff_eq];simp
def C6:∀(n:Nat){a b:Value},aP n a b=true->a=b:=by
 intro n
 induction n with
 |zero=>intro a b h;cases a<;>cases b<;>first|rfl|(unfold aP at h;exact bR h)|(unfold aP at h;simp only[bM,beq_iff_eq,C5]at h;simp[h])
 |succ n d=>
  intro a b h;have all:∀{l m:List Value},l.length=m.length->((l.zip m).all fun(x,y)=>aP n x y)=true->l=m:=by
   intro l
   induction l with
   |nil=>intro m e _;cases m with
    |nil=>rfl
    |cons _ _=>cases e
   |cons x l c=>
    intro m e k
    cases m with
    |nil=>cases e
    |cons y m=>
     simp only[bL,bC,bM]at k;rw[d k.1,c (by simpa using e) k.2]
  cases a<;>cases b<;>first
   |rfl
   |(unfold aP at h;exact bR h)
   |(unfold aP at h;simp only[bM,beq_iff_eq]at h;rw[h.1,d h.2];done)
   |(unfold aP at h;simp only[bM,beq_iff_eq]at h;exact congrArg Value.agg (Array.ext' (all (by simpa using h.1) h.2)))
   |(unfold aP at h;simp only[bM,beq_iff_eq,C5]at h;simp[h];done)
def Aa{es c:Array ai}(h:bD F ρ es.toList c.toList)(i:Nat){k k':Value}(d:VR F ρ k k'):VR F ρ (((es[i]?).map (·.key)).getD k) (((c[i]?).map (·.key)).getD k'):=by
 rcases bD.get? h i with⟨a,b⟩|⟨e,g,a,b,f⟩
 ·simp only[bi]at a b;rw[a,b];exact d
 ·simp only[bi]at a b;rw[a,b];exact f.key
def lK(mapType:ab)(map key:Value):Sem (Nat×Array ai×Nat×Option (Nat×Value)):=do
 let .map keyType _<-ae mapType|stuck "MapUpdate: map type expected"
 match map with
 |.map none=>ap (.plain "assignment to entry in nil map")
 |.map (some r)=>
  let .map es clock<-getObj r|stuck "MapUpdate: map expected"
  aB false 10000 keyType key
  let f<-aJ keyType key es.toList
  pure (r,es,clock,f)
 |_=>stuck "MapUpdate: map expected"
def rZ(key value:Value)(x:Nat×Array ai×Nat×Option (Nat×Value)):Sem Unit:=
 match x.2.2.2 with
 |some (i,_)=>do
  let key<-aT (((x.2.1[i]?).map (·.key)).getD key) key
  aq x.1 (.map (x.2.1.modify i λe=>{ e with key,val:=value }) x.2.2.1)
 |none=>aq x.1 (.map (x.2.1.push { key,val:=value,born:=x.2.2.1 }) (x.2.2.1+1))
def jg(t:ab)(m k v:Value):a5 t m k v=bt (lK t m k) (rZ k v):=by
 unfold a5 lK;show bt _ _=bt (bt _ _) _;rw[bu];congr 1;funext d;cases d<;>try rfl
 cases m<;>try rfl
 rename_i r
 cases r with
 |none=>rfl
 |some r=>
  show bt _ _=bt (bt _ _) _;rw[bu];congr 1;funext o;cases o<;>try rfl
  show bt _ _=bt (bt _ _) _;rw[bu];congr 1;funext _;show bt _ _=bt (bt _ _) _;rw[bu];congr 1
def acf(F:ad->Bool)(ρ:Ren)(x a:Nat×Array ai×Nat×Option (Nat×Value)):Prop:=ρ x.1 a.1/\bD F ρ x.2.1.toList a.2.1.toList/\x.2.2.1=a.2.2.1/\ua F ρ x.2.2.2 a.2.2.2
def uX(s:ρ.bw T.globals.size)(t:ab){m:Nat}(u:∀k e,tY T t=some (.map k e)->og T m k=true){x h i j:Value}(f:VR F ρ x h)(hi:VR F ρ i j) :
 av T fB fA F K (acf F) ρ (lK t x i) (lK t h j):=by
 unfold lK;refine af s (fG t) λσ b v d A e=>?_;obtain⟨rfl,w⟩:=e;have f:=f.mono b;have hi:=hi.mono b
 cases d with
 |map key elem=>
  have zz:=u key elem w
  cases f with
  |qQ=>exact zv _
  |map a=>
   refine af v (dA a) λB l n o C y=>?_;have a:=l a;have hi:=hi.mono l
   cases y with
   |map clock c=>
    refine af n (uW _ _ n m key zz hi) λD g p _ _ _=>?_;have a:=g a;have hi:=hi.mono g;have c:=c.mono g;refine af p (wZ p key hi c) λE q H r I z=>?_;exact ah ⟨q a,c.mono q,rfl,z⟩
   |_=>exact ak
  |_=>exact ak
 |_=>exact ak
def LF{c:Type}(P:Program)(r:Nat)(o:Obj)(a:c)(w:World)(b:Nat->Question->Nat)(d:Nat):(bv r o (.pure a)).run P (w.re b d)=((bv r o (.pure a)).run P w).re b d:=by
 show(match w.heap[r]? with|some (.cells ..)=>_|some _=>_|none=>_)=Result.re (match w.heap[r]? with|some (.cells ..)=>_|some _=>_|none=>_) b d
 cases w.heap[r]? with
 |none=>rfl
 |some o=>cases o<;>rfl
def Oo(d:ρ.bw T.globals.size){w w':World}(o:WR T.globals.size F K ρ w w')(p:w.tape=w'.tape)(hd:w.drawn=w'.drawn){i q v v':Value}(hi:VR F ρ i q)(hv:VR F ρ v v')
 {x t:Nat×Array ai×Nat×Option (Nat×Value)} (I:acf F ρ x t) (c:Array Event) :
 qp T.globals.size F K fF ρ w w' c ((rZ q v' t).runT ⟨T,fA⟩ w' c) ((rZ i v x).run ⟨T,fB⟩ w):=by
 obtain⟨r,es,clock,O⟩:=x;obtain⟨H,u,P,J⟩:=t;obtain⟨s,l,hc,m⟩:=I;simp only at s l hc m;subst hc;have put:∀(j:Nat){k k':Value},VR F ρ k k'->av T fB fA F K fF ρ (aq r (.map (es.modify j λe=>{ e with key:=k,val:=v }) clock)) (aq H (.map (u.modify j λe=>{ e with key:=k',val:=v' }) clock)):=by
  intro j k k' y;refine dV s (.map _ ?_);rw[bj,bj];exact bD.modify l j λe L z=>⟨y,hv,z.born⟩
 cases m with
 |none=>
  refine(av.run c ?_ d o p hd).zu;refine dV s (.map _ ?_);rw[bl,bl];exact bD.append l (.cons ⟨hi,hv,rfl⟩ .nil)
 |some j _=>
  have hold:=Aa l j hi;unfold rZ;simp only;generalize(((es[j]?).map (·.key)).getD i)=f at hold;generalize(((u[j]?).map (·.key)).getD q)=A at hold;unfold aT;by_cases B:aP 10000 f i=true
  ·rw[if_pos B,if_pos (Bf d _ hold hi B)];exact(av.run c (put j hi) d o p hd).zu
  ·rw[if_neg B];by_cases g:aP 10000 A q=true
   ·rw[if_pos g];obtain rfl:=C6 _ g;have one:∀n:Nat,qp T.globals.size F K fF ρ w w' c ((aq H (.map (u.modify j λe=>{ e with key:=A,val:=v' }) clock)).runT ⟨T,fA⟩ w' c)
     ((aq r (.map (es.modify j λe=>{ e with key:=if n=0 then i else f,val:=v }) clock)).run ⟨T,fB⟩ (w.re w.tape (w.drawn+1))):=by
     intro n;have h:=av.run c (put j (k:=if n=0 then i else f) (k':=A) (by split<;>assumption)) d o p hd;unfold aq;rw[LF];unfold aq at h;generalize(bv r _ (.pure ())).run ⟨T,fB⟩ w=res at h
     match res,h with
     |.ok a w2,⟨C,M,D,E,e,k,N⟩=>exact⟨C,M,D,E,w2.tape,w2.drawn,e,k,N⟩
     |.halt (.panic v) w2,⟨C,v',D,E,e,k,hv⟩=>exact⟨C,v',D,E,w2.tape,w2.drawn,e,k,hv⟩
     |.halt .blocked _,h=>exact h
     |.halt .waiting _,h=>exact h
     |.halt (.exit _) _,h=>exact h
     |.halt (.fatal _) _,h=>exact h
     |.halt (.throw _) _,h=>exact h
     |.halt .goexit _,h=>exact h
     |.halt (.unsupported _) _,h=>exact h
     |.halt (.stuck _) _,_=>trivial
    exact one (Question.cut (.extern "map.whichKeyStays" 2) (w.tape w.drawn (.extern "map.whichKeyStays" 2)))
   ·rw[if_neg g];refine(av.run c ?_ d o p hd).zu;refine av.bind d (RA:=RV F) ?_ λσ b _ k k' y=>?_
    ·refine af d (lH _) λσ b _ n n' e=>?_;subst e;refine ah ?_
     split
     ·exact hi.mono b
     ·exact hold.mono b
    ·refine dV (b s) (.map _ ?_);rw[bj,bj];exact bD.modify (l.mono b) j λe L z=>⟨y,hv.mono b,z.born⟩
def Ty(c:ρ.bw T.globals.size){w w':World}(n:WR T.globals.size F K ρ w w')(o:w.tape=w'.tape)(hd:w.drawn=w'.drawn)(t:ab){m:Nat}(p:∀k e,tY T t=some (.map k e)->og T m k=true){x d i f v v':Value}(q:VR F ρ x d)(hi:VR F ρ i f)(hv:VR F ρ v v')(b:Array Event) :
 qp T.globals.size F K fF ρ w w' b ((a5 t d f v').runT ⟨T,fA⟩ w' b) ((a5 t x i v).run ⟨T,fB⟩ w):=by
 rw[jg,jg,Sem.run_bind',Sem.runT_bind'];have h:=av.run b (uX (fB:=fB) (fA:=fA) (F:=F) (K:=K) c t p q hi) c n o hd;generalize(lK t x i).run ⟨T,fB⟩ w=res at h
 match res,h with
 |.ok a w2,⟨g,s,j,l,e,k,r⟩=>
  rw[e];exact qp.step k (Oo k.inj k.wr k.tape k.drawn (hi.mono k.le) (hv.mono k.le) r _)
 |.halt (.panic v) w2,⟨g,v',j,l,e,k,hv⟩=>
  rw[e];exact⟨g,v',j,l,w2.tape,w2.drawn,rfl,k,hv⟩
 |.halt .blocked _,h=>exact h
 |.halt .waiting _,h=>exact h
 |.halt (.exit _) _,h=>exact h
 |.halt (.fatal _) _,h=>exact h
 |.halt (.throw _) _,h=>exact h
 |.halt .goexit _,h=>exact h
 |.halt (.unsupported _) _,h=>exact h
 |.halt (.stuck _) _,_=>trivial
def Ga(a:ρ.bw T.globals.size)(t:ab):av T fB fA F K (RV F) ρ (a6 t none) (a6 t none):=
 af a (jO (.map 0 .nil)) λ_ _ _ _ _ b=>ah (.map b)
def Oq(g:ρ.bw T.globals.size)(t:ab){x l:Value}(b:VR F ρ x l):av T fB fA F K (RV F) ρ (a7 t x) (a7 t l):=by
 unfold a7;refine af g (bk t) λσ i j d p e=>?_;subst e;have b:=b.mono i;have fin:∀(a:Ren),a.bw T.globals.size->∀o c,OR F K a o c->av T fB fA F K (RV F) a (do pure (.pointer (some ⟨<-newObj o,0,none⟩)):Sem Value) (do pure (.pointer (some ⟨<-newObj c,0,none⟩)):Sem Value):=
  λa g o c k=>af g (jO k) λ_ _ _ _ _ f=>ah (.ptr ⟨f,rfl,rfl⟩)
 cases d with
 |string=>cases b<;>first|exact fin σ j _ _ (.stringIter _ _)|exact bz
 |map _ _=>
  cases b with
  |qQ=>exact fin σ j _ _ (.mJ _ _ _)
  |map f=>
   refine af j (dA f) λa m n o c k=>?_
   cases k with
   |map clock h=>exact fin a n _ _ (.mapIter _ _ _ (m f))
   |_=>exact bz
  |_=>exact bz
 |_=>exact bz
def Ot(m:ρ.bw T.globals.size){x g:Value}(q:VR F ρ x g):av T fB fA F K (RV F) ρ (a8 x) (a8 g):=by
 unfold a8
 cases q with
 |@ptr a s t=>
  obtain⟨r,off,sp⟩:=a;obtain⟨E,u,v⟩:=s;obtain⟨i,e1,j⟩:=t;simp only at i e1 j;subst e1 j
  cases off with
  |succ n=>exact ak
  |zero=>
   refine af m (dA i) λσ w y o H z=>?_
   cases z with
   |mapIter a b c A=>
    simp only
    cases b.back? with
    |none=>exact ak
    |some d=>
     refine af y (dA A) λI J L p M B=>?_
     cases B with
     |map clock C=>
      refine aN (λ_=>aM) λ_=>?_;rw[<-bm,<-bm]
      rcases bD.find? C (p:=λe=>e.born==d) (λe D h=>by rw[h]) with⟨f,k⟩|⟨e,D,f,k,l⟩
      ·rw[f];exact aA
      ·rw[f,k];exact ah (.tuple (VA.two l.key l.val))
     |_=>exact ak
   |_=>exact ak
 |_=>exact ak
inductive gS(F:ad->Bool)(ρ:Ren):List (Option ai)->List (Option ai)->Prop
 |nil:gS F ρ [] []
 |no {l l':List (Option ai)} (t:gS F ρ l l'):gS F ρ (none::l) (none::l')
 |yes {e e':ai} {l l':List (Option ai)} (h:zo F ρ e e') (t:gS F ρ l l'):gS F ρ (some e::l) (some e'::l')
def gS.of{l l':List ai}(h:bD F ρ l l'):gS F ρ (l.map some) (l'.map some):=by
 induction h with
 |nil=>exact .nil
 |cons a _ b=>exact .yes a b
def gS.append{l l' m m':List (Option ai)}(x:gS F ρ l l')(y:gS F ρ m m'):gS F ρ (l++m) (l'++m'):=by
 induction x with
 |nil=>exact y
 |no _ b=>exact .no b
 |yes a _ b=>exact .yes a b
def gS.length{l l':List (Option ai)}(x:gS F ρ l l'):l.length=l'.length:=by
 induction x with
 |nil=>rfl
 |no _ b=>simp[b]
 |yes a _ b=>simp[b]
def gS.get?{l l':List (Option ai)}(x:gS F ρ l l')(i:Nat):(l[i]?=none/\l'[i]?=none)\/(l[i]?=some none/\l'[i]?=some none)\/∃e e',l[i]?=some (some e)/\l'[i]?=some (some e')/\zo F ρ e e':=by
 induction x generalizing i with
 |nil=>exact .inl ⟨rfl,rfl⟩
 |no _ b=>
  cases i with
  |zero=>exact .inr (.inl ⟨rfl,rfl⟩)
  |succ i=>simpa using b i
 |yes a _ b=>
  cases i with
  |zero=>exact .inr (.inr ⟨_,_,rfl,rfl,a⟩)
  |succ i=>simpa using b i
def Tz(N:ρ.bw T.globals.size){x E:Value}(O:VR F ρ x E)(b:Bool)(t:ab):av T fB fA F K (RV F) ρ (a9 x b t) (a9 E b t):=by
 unfold a9
 cases O with
 |@ptr a P Q=>
  obtain⟨r,off,sp⟩:=a;obtain⟨Y,R,S⟩:=P;obtain⟨d,e1,H⟩:=Q;simp only at d e1 H;subst e1 H
  cases off with
  |succ n=>exact ak
  |zero=>
   refine af N (dA d) λσ y I o Z U=>?_;have d:=y d;have over:∀g:Ren,av T fB fA F K (RV F) g (pure (.tuple #[.bool false]):Sem Value) (pure (.tuple #[.bool false]):Sem Value):=λg=>ah (.tuple (VA.one (.bool _)))
   cases U with
   |stringIter s pos=>
    cases b with
    |true=>
     refine aN (λ_=>?_) λ_=>over _;refine af I (dV d (.stringIter _ _)) λ_ _ _ _ _ _=>?_;exact ah (.tuple (bb (.bool _) (.int _ _) (.int _ _)))
    |false=>exact ak
   |mJ a1 b1 c1=>
    cases b with
    |false=>exact over _
    |true=>exact ak
   |@mapIter m m' since seen last j=>
    cases b with
    |true=>exact ak
    |false=>
     refine af I (dA j) λg J V p p' W=>?_
     cases W with
     |@map es k clock z=>
      have j:=J j;have d:=J d;have e1:(!seen.isEmpty && !es.isEmpty&&es.all (·.born>=last))=(!seen.isEmpty && !k.isEmpty&&k.all (·.born>=last)):=by
       rw[bD.isEmpty z,<-bo,<-bo,bD.all z (p:=λe=>decide (e.born>=last)) (λe l h=>by rw[h])]
      simp only[e1];refine aN (λ_=>aM) λ_=>?_;have q:bD F g (es.filter λe=>!seen.contains e.born).toList (k.filter λe=>!seen.contains e.born).toList:=by
       rw[bp,bp];exact bD.filter z λe l h=>by rw[h]
      generalize(es.filter λe=>!seen.contains e.born)=left at q;generalize(k.filter λe=>!seen.contains e.born)=u at q;have hold:bD F g (left.filter (·.born<since)).toList (u.filter (·.born<since)).toList:=by
       rw[bp,bp];exact bD.filter q λe l h=>by rw[h]
      have A:bD F g (left.filter (·.born>=since)).toList (u.filter (·.born>=since)).toList:=by
       rw[bp,bp];exact bD.filter q λe l h=>by rw[h]
      generalize(left.filter (·.born<since))=c at hold;generalize(u.filter (·.born<since))=v at hold;generalize(left.filter (·.born>=since))=new at A;generalize(u.filter (·.born>=since))=L at A;have hc:gS F g ((if c.isEmpty then #[none] else #[])++(c++new).map some).toList ((if v.isEmpty then #[none] else #[])++(v++L).map some).toList:=by
       rw[bq,bq,br,br,bq,bq,bD.isEmpty hold];refine gS.append ?_ (gS.of (bD.append hold A))
       split
       ·exact .no .nil
       ·exact .nil
      generalize((if c.isEmpty then #[none] else #[])++(c++new).map some)=B at hc;generalize((if v.isEmpty then #[none] else #[])++(v++L).map some)=C at hc;have hs:B.size=C.size:=by simpa using hc.length
      simp only[hs];refine af V (lH _) λυ w X n n' e=>?_;subst e
      rcases gS.get? hc n with⟨f,i⟩|⟨f,i⟩|⟨e,l,f,i,D⟩
      ·simp only[bi]at f i;rw[f];exact ak
      ·simp only[bi]at f i;rw[f,i];exact over _
      ·simp only[bi]at f i;rw[f,i];simp only[<-D.born];refine af X (dV (w d) (.mapIter _ _ _ (w j))) λ_ M _ _ _ _=>?_;exact ah (.tuple (bb (.bool _) ((D.key.mono w).mono M) ((D.val.mono w).mono M)))
     |_=>exact ak
   |_=>cases b<;>exact ak
 |_=>exact ak
def LG{x b:Value}(d:VR F ρ x b):av T fB fA F K (λ_ n n'=>n=n'/\∀a c,x=.slice a 0 c->n=0) ρ (bT x) (bT b):=by
 cases d<;>first|exact ah ⟨rfl,λa c h=>by cases h;rfl⟩|exact ah ⟨rfl,λa c h=>by cases h⟩|exact ak
def Gb(size:Nat){x d:Value}(g:VR F ρ x d):av T fB fA F K (λ_ a a'=>a=#[]/\a'=#[]) ρ (bX size 0 x) (bX size 0 d):=by
 have f:∀a a':Addr,av T fB fA F K (λ_ a a'=>a=#[]/\a'=#[]) ρ (ar a (0*size)) (ar a' (0*size)):=by
  intro a a';rw[Nat.zero_mul];exact ah ⟨rfl,rfl⟩
 cases g with
 |slice l c j=>exact f _ _
 |dK D a=>exact f _ _
 |di l c=>exact ah ⟨rfl,rfl⟩
 |string s=>
  have e:(s.extract 0 0).data.map (λb=>Value.int .u8 b.toNat)=#[]:=by
   have h:(s.extract 0 0).size=0:=by simp
   have i:(s.extract 0 0).data.size=0:=h;rw[Array.eq_empty_of_size_eq_zero i];simp
  refine ah ?_;rw[e];exact⟨rfl,rfl⟩
 |_=>exact ak
def kZ(d:ρ.bw T.globals.size)(size n:Nat){x b:Value}(e:VR F ρ x b)(f:∀a c,x=.slice a 0 c->n=0):av T fB fA F K (RVA F) ρ (bX size n x) (bX size n b):=by
 cases e with
 |dK D a=>
  obtain rfl:=f _ _ rfl;show(av T fB fA F K) (RVA F) ρ (ar _ (0*size)) (ar _ (0*size));rw[Nat.zero_mul];exact ah VA.nil
 |slice l c g=>exact rU d g _
 |di l c=>exact ah VA.nil
 |string s=>
  refine ah ?_;show cU _ _ _ _;rw[br];exact cU.map _ λ_ _=>.int _ _
 |_=>exact ak
end
open Builtin in
def jU(elem size d e:Nat)(base:Option Addr)(s x:Value):Sem Value:=do
 let n<-lenOf x;let appended:Sem (Array Value):=firstCells size n x;let b:=d+n
 if b<=e then
  let new<-appended
  if let some a:=base then storeCells (a.add (d*size)) new.toList
  pure (.slice base b e)
 else
  if(b:Int) > IntKind.i64.max/\((false:Bool)\/(<-aw elem).bytes=0) then ap (.error "growslice: len out of range")
  if nextslicecap b e*(<-aw elem).bytes > 2 ^ 48 then(if(false:Bool) then ap (.error "growslice: len out of range") else do
   if !(<-mayShare size d n base x) then mark .noRoom
   unsupported (.resourceLimit "append: a slice or a string whose bytes no memory bears"))
  let f<-choose (.appendCap b e elem)
  askRoom (f*(<-aw elem).bytes)
  let g<-firstCells size d s;let new<-appended;let c:=zeroCells (<-ao elem).cells (f-b)
  pure (.slice (some (<-newRow elem (g++new++c))) b f)
def I7(size n:Nat)(base:Option Addr)(x:Value)(there:Bool):Sem Bool:=
 if(!there)=true then pure true else
 match x with
 |.slice (some b) _ _=>do pure (!(<-b2 b (n*size))||base.any (·.block==b.block))
 |_=>pure false
section
variable {T:aa}{fB fA:Array Func}{F:ad->Bool}{K:Code->Bool}{ρ σ:Ren}
def VA.zeroCells{c:Array Value}(h:VA F ρ c c)(n:Nat):VA F ρ (b3 c n) (b3 c n):=by
 show cU _ _ _ _;unfold b3;rw[br];refine cU.map _ λi hi=>?_
 rcases Nat.eq_zero_or_pos c.size with b|b
 ·have:i∈Array.range (n*c.size):=Array.mem_toList_iff.1 hi;simp[b]at this
 ·have hl:=Nat.mod_lt i b
  rcases bc h (i % c.size) with⟨a,_⟩|⟨v,v',a,d,hv⟩
  ·rw[bs hl]at a;cases a
  ·rw[a]at d;cases d;rw[getElem!_pos c _ hl];rw[bs hl]at a;cases a;exact hv
def qV(T:aa)(fB:Array Func){a:Type}:Sem a->Prop
 |.pure _=>True
 |.program k=>qV T fB (k ⟨T,fB⟩)
 |.shape _ k=>∀x,qV T fB (k x)
 |.frozen _ k=>∀x,qV T fB (k x)
 |_=>False
def qV.bind{c d:Type}{s:Sem c}{f:c->Sem d}(h:qV T fB s)(hf:∀a,qV T fB (f a)):qV T fB (s.bind f):=by
 induction s with
 |pure a=>exact hf a
 |program k b=>exact b _ h
 |shape r k b=>exact λx=>b x (h x)
 |frozen r k b=>exact λx=>b x (h x)
 |_=>exact h.elim
def qV.dead{c d:Type}{s:Sem c}{f:c->Sem d}(h:qV T fB s)(hf:∀a,bW T fB (f a)):bW T fB (s.bind f):=by
 induction s with
 |pure a=>exact hf a
 |program k b=>exact b _ h
 |shape r k b=>exact λx=>b x (h x)
 |frozen r k b=>exact λx=>b x (h x)
 |_=>exact h.elim
def xe(a:Addr)(n:Nat):qV T fB (b2 a n):=λx=>by cases x<;>trivial
def Ab(size n:Nat)(b:Option Addr)(x:Value)(there:Bool):qV T fB (I7 size n b x there):=by
 unfold I7
 split
 ·trivial
 ·split
  ·exact qV.bind (xe _ _) λ_=>trivial
  ·trivial
def Gg(size l n:Nat)(b:Option Addr)(x:Value):qV T fB (b4 size l n b x):=by
 cases b with
 |none=>exact Ab size n none x true
 |some p=>
  unfold b4;simp only;exact qV.bind (xe _ _) λy=>λz=>Ab size n (some p) x (y && !z)
def zA{Z:ab->Bool}(E:dM T F Z)(f:ρ.bw T.globals.size){elem:ab}(t:Z elem=true)(size l c:Nat){b b':Option Addr}(hs:VR F ρ (.slice b l c) (.slice b' l c)){x v:Value}(g:VR F ρ x v) :
 av T fB fA F K (RV F) ρ (jU elem size l c b (.slice b l c) x) (jU elem size l c b' (.slice b' l c) v):=by
 unfold jU;have u:∀a w,Value.slice b l c=.slice a 0 w->l=0:=λa w h=>by cases h;rfl
 refine af f (LG g) λσ d f n n' e=>?_;obtain⟨rfl,p⟩:=e;have g:=g.mono d;have hs:=hs.mono d;simp only;refine aN (λM=>?_) λ_=>?_
 ·by_cases A:c=0
  ·subst A;obtain rfl:n=0:=by omega
   obtain rfl:l=0:=by omega
   refine af f (Gb size g) λB d f new C o=>?_;obtain⟨rfl,rfl⟩:=o;have hs:=hs.mono d
   cases hs with
   |di=>exact ah (.di _ _)
   |slice _ _ s=>exact ah (.slice _ _ s)
   |dK D a=>exact ah (.dK D a)
  refine af f (kZ f size n g p) λB d f new C o=>?_;have hs:=hs.mono d
  cases hs with
  |dK D a=>exact absurd rfl A
  |di=>exact ah (.di _ _)
  |slice _ _ s=>exact af f (qD f (s.add _) o 0) λm d f _ _ _=>ah (.slice _ _ (s.mono d))
 ·refine af f (ee elem) λB d f i N e=>?_;subst e;have g:=g.mono d;have hs:=hs.mono d;refine aN (λ_=>?_) λ_=>?_
  ·exact af (RA:=λ_ _ _=>False) f (cX _) λ_ _ _ _ _ h=>h.elim
  refine af f (ee elem) λm d f j O e=>?_;subst e;have g:=g.mono d;have hs:=hs.mono d;refine aN (λ_=>?_) λ_=>?_
  ·refine af (RA:=λ_ _ _=>False) f ?_ λ_ _ _ _ _ h=>h.elim;refine aN (λh=>absurd h (by decide)) λ_=>?_;refine bW.rel ?_ _;refine qV.dead (Gg size l n b x) λy=>?_;cases y
   ·exact⟨rfl,rfl⟩
   ·rfl
  refine af f (lH _) λm d f cap H e=>?_;subst e;have g:=g.mono d;have hs:=hs.mono d;refine af f (ee elem) λm d f k k' e=>?_;subst e;have g:=g.mono d;have hs:=hs.mono d;refine af f (FQ _) λm d f _ _ _=>?_;have g:=g.mono d;have hs:=hs.mono d;refine af f (kZ f size l hs u) λm d f I P q=>?_;have g:=g.mono d;refine af f (kZ f size n g p) λm d f new C o=>?_;have q:=ba d q;refine af f (gO E f t) λm d f z Q h=>?_;obtain⟨J,rfl⟩:=h;have q:=ba d q;have o:=ba d o;refine af f (tS f elem (bd (bd q o) (VA.zeroCells J.cells _))) λm d f r R L=>ah (.slice _ _ L)
def LH{Z:ab->Bool}(J:dM T F Z)(v:ρ.bw T.globals.size){ts:Array ab}(t:ab)(L:∀s,ts[0]?=some s->∀e,tY T s=some (.slice e)->Z e=true)(w:∀s,ts[1]?=some s->∀k,tY T s≠some (.int k))
 {n B:Array Value} (C:VA F ρ n B):av T fB fA F K (RV F) ρ (b5 ts t n) (b5 ts t B):=by
 unfold b5
 rcases bc C 0 with⟨u,E⟩|⟨s,M,u,E,hs⟩
 ·rw[u];cases ts[0]?<;>exact ak
 rcases bc C 1 with⟨k1,k2⟩|⟨x,N,k1,k2,y⟩
 ·rw[u,k1];cases ts[0]?<;>exact ak
 rw[u,E,k1,k2]
 cases O:ts[0]? with
 |none=>exact ak
 |some H=>
  simp only;refine af v (fG H) λσ a m d z e=>?_;obtain⟨rfl,j⟩:=e;have hs:=hs.mono a;have y:=y.mono a
  cases d with
  |slice elem=>
   have A:=L H O elem j;have fin:∀(f:Ren),f.bw T.globals.size->σ.le f->∀(size l c:Nat)(b b':Option Addr),s=.slice b l c->M=.slice b' l c->
    av T fB fA F K (RV F) f (jU elem size l c b (.slice b l c) x) (jU elem size l c b' (.slice b' l c) N):=by
    intro f v a size l c b b' e1 P;subst e1 P;exact zA J v A size l c (hs.mono a) (y.mono a)
   cases hs with
   |di l c=>
    simp only;refine af m (bN m elem) λf g h size I e=>?_;subst e
    cases e1:ts[1]? with
    |none=>exact fin f h g size l c none none rfl rfl
    |some i=>
     refine af h (fG i) λo p r d z e=>?_;obtain⟨rfl,j⟩:=e
     cases d with
     |int k=>exact absurd j (w i e1 k)
     |_=>exact fin o r (Ren.le_trans g p) size l c none none rfl rfl
   |slice l c Q=>
    simp only;refine af m (bN m elem) λf g h size I e=>?_;subst e
    cases e1:ts[1]? with
    |none=>exact fin f h g size l c _ _ rfl rfl
    |some i=>
     refine af h (fG i) λo p r d z e=>?_;obtain⟨rfl,j⟩:=e
     cases d with
     |int k=>exact absurd j (w i e1 k)
     |_=>exact fin o r (Ren.le_trans g p) size l c _ _ rfl rfl
   |dK D q=>
    simp only;refine af m (bN m elem) λf g h size I e=>?_;subst e
    cases e1:ts[1]? with
    |none=>exact fin f h g size 0 0 _ _ rfl rfl
    |some i=>
     refine af h (fG i) λo p r d z e=>?_;obtain⟨rfl,j⟩:=e
     cases d with
     |int k=>exact absurd j (w i e1 k)
     |_=>exact fin o r (Ren.le_trans g p) size 0 0 _ _ rfl rfl
   |_=>exact ak
  |_=>exact ak
end
end Go.bJ
