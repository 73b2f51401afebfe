/- Part of the proof of FieldDelays. -/
import Derived.Test.YtlilmeaaoeemdaaGreatU00
import Derived.Conc.Events
import Derived.Conc.Listed
import Derived.RunT
set_option linter.all false
open Go renaming Tables->aa,TypeId->ab,TypeDesc->ac,FuncId->ad,underlying->ae,convert->ag,MapEntry->ai,zeroValue->ao,runtimePanic->ap,setObj->aq,Program->ar,newObj->aw,loadCells->aB,typeInfo->aF,choose->aH,callFunc->aI,method->aJ,nilAhead->aL,invoke->aP,Operand->aS,resolve->aT,execOp->a5,Deferred->a6,PanicEntry->a7,FrameMode->a8,exitTo->a9,findLabel->ba,gotoIn->bb,yielded->bc,CallKind->bd,results->bg,doReturn->bi,unwind->bj
open Go.Instr renaming checkKey->bm,sameNow->bo,findNow->bp,findAsking->bq,findKey->br,lookup->bs,sameBits->bt,keyThatStays->bu,mapUpdate->bv,makeMap->bx,range->bA,entry->bC,next->bL,buildSlice->bM,fill->bR,getLoop->bT,yield->b2,beginRound->b3,endRound->b4,endLoop->b5,enterLoop->b6,takeDeferred->b8
open Go.bJ.VA renaming mono->b9,size->ca,three->cb,nil->cc,get?->cd,append->ce,getD->cf
open List renaming all_eq_true->cg,filter_cons->ch,find?_cons->ci,all_cons->cl,zip_cons_cons->cm,mapM_cons->co
open Array renaming forIn_toList->cp,getElem?_toList->cq,toList_modify->ct,toList_push->cu,find?_toList->cv,all_toList->cx,toList_filter->cB,toList_append->cC,toList_map->cQ,range->c4,getElem?_eq_getElem->c5,foldl_toList->c6,toList_zip->c7,replicate->c8,mapM_eq_mapM_toList->c9
open Go.Sem renaming bind->da,bind_assoc'->db,setObj->dd,run_bind'->de,runT_bind'->df,runT_fst->dj
open Option renaming some_inj->dk,bind_some->dl
open Bool renaming and_eq_true->dp,noConfusion->dq,false_eq_true->dt
open Go.Builtin renaming lenOf->du,firstCells->dv,holdsCells->dx,zeroCells->dz,mayShare->dB,append_->dC,len_->dL,max2->dO,min2->dP,max_->dQ,min_->dT
open Go.Deferred renaming ofValue->dU
open Go.Program renaming eqGuardType->d8,depth->d9,mk->ea
open Go.Frame renaming oper?->eb,enter->ec,raise->ed,catches->eg,eval->eh
open Go.GStep renaming after->ei
open Go.stepG renaming apply->ej,oper->ek,exec->el
open Go.Conc renaming mem_seen->em
namespace Go.bJ
def tY(T:aa)(t:ab):Option ac:=Program.underlying ⟨T,#[]⟩ t
def tZ(T:aa)(t:ab):Bool:=match tY T t with|some (.int _)=>true|_=>false
def og(T:aa):Nat->ab->Bool
 |0,_=>false
 |m+1,t=>match tY T t with
  |some (.interface _)=>false
  |some (.array _ e)=>og T m e
  |some (.struct fs)=>fs.toList.all λf=>og T m f.type
  |_=>true
section
variable {T:aa}{fB fA:Array Func}{F:ad->Bool}{K:Code->Bool}{ρ σ:Ren}
def fG(t:ab):av T fB fA F K (λ_ a a'=>a=a'/\tY T t=some a) ρ (ae t) (ae t):=by
 unfold ae;refine bI ?_;show(av T fB fA F K) _ ρ (match tY T t with|some i=>pure i|none=>stuck "no such type") (match tY T t with|some i=>pure i|none=>stuck "no such type")
 cases h:tY T t with
 |none=>exact ak
 |some d=>exact ah ⟨rfl,rfl⟩
def On{op:UnOp}{x a:Value}(h:VR F ρ x a):av T fB fA F K (RV F) ρ (Op.unary op x) (Op.unary op a):=by
 unfold Op.unary;cases op<;>cases h<;>first|exact ak|exact uU _ _ _ _|exact wU _ _ _ _|exact ah (.bool _)|exact aA
def F8(g:ρ.bw T.globals.size){s d:ab}(hs:tZ T s=true)(hd:tZ T d=true){x f:Value}(h:VR F ρ x f):av T fB fA F K (RV F) ρ (ag s d x) (ag s d f):=by
 unfold ag;refine af g (fG s) λσ c i a o e=>?_;obtain⟨rfl,l⟩:=e;refine af i (fG d) λp m q b b' e=>?_;obtain⟨rfl,n⟩:=e;have h:=(h.mono c).mono m;simp only[tZ,l]at hs;simp only[tZ,n]at hd
 cases a with
 |int j=>
  cases b with
  |int k=>cases h<;>first|exact ah (.int _ _)|exact aA
  |_=>exact absurd hd (by simp)
 |_=>exact absurd hs (by simp)
def uW(b:Bool):∀(n:Nat){ρ:Ren}(_:ρ.bw T.globals.size)(m:Nat)(t:ab)(_:og T m t=true){v v':Value}(_:VR F ρ v v'),av T fB fA F K fF ρ (bm b n t v) (bm b n t v'):=by
 intro n
 induction n with
 |zero=>intro ρ o m t a v v' hv;exact aA
 |succ n q=>
  intro ρ o m t a v v' hv
  cases m with
  |zero=>simp[og]at a
  |succ m=>
   unfold bm;refine af o (fG t) λσ j h d D e=>?_;obtain⟨rfl,x⟩:=e;have hv:=hv.mono j;simp only[og,x]at a
   cases d with
   |interface E=>exact absurd a (by simp)
   |array len elem=>
    simp only at a
    cases hv with
    |agg hc=>
     refine af h (oc len h _ λi y k c u=>?_) λ_ _ _ z A e=>?_
     ·refine af c (bN c elem) λB r g s H e=>?_;subst e;refine af g (kI g elem (b9 r (b9 k hc)) _) λI J w p C l=>?_;refine af w (q w m elem a l) λ_ _ _ _ _ _=>ah rfl
     ·exact ah rfl
    |_=>exact ak
   |struct fields=>
    simp only[cg]at a
    cases hv with
    |agg hc=>
     refine af h (RA:=fF) ?_ λ_ _ _ z A e=>ah rfl;rw[<-cp,<-cp];refine oa fields.toList h _ λf hf y k c u=>?_;refine aN (λ_=>?_) λ_=>ah rfl;refine af c (kI c f.type (b9 k hc) f.offset) λB r g p C l=>?_;exact af g (q g m f.type (a f hf) l) λ_ _ _ _ _ _=>ah rfl
    |_=>exact ak
   |_=>cases hv<;>exact ah rfl
inductive ua(F:ad->Bool)(ρ:Ren):Option (Nat×Value)->Option (Nat×Value)->Prop
 |none:ua F ρ none none
 |some (i:Nat) {v v':Value} (h:VR F ρ v v'):ua F ρ (some (i,v)) (some (i,v'))
def C3(d:ac){k k' e e':Value}(a:VR F ρ k k')(b:VR F ρ e e'):bo d k e=bo d k' e'\/(bo d k e=none/\(k=.tuple #[]\/e=.tuple #[])):=by
 cases a with
 |hole=>exact .inr ⟨by cases d<;>rfl,.inl rfl⟩
 |_=>cases b with
  |hole=>exact .inr ⟨by cases d<;>rfl,.inr rfl⟩
  |_=>left;cases d<;>rfl
def LC{t:ab}{d:ac}(hd:tY T t=some d){k e:Value}{b:Bool}(h:bo d k e=some b){a:Type}(f:Bool->Sem a)(hf:bW T fB (f b)):bW T fB (da (Op.equal t k e) f):=by
 unfold Op.equal Op.maxDepth Op.equalIn;show bW T fB (da (da (ae t) _) f);rw[wX];show bW T fB (da (match tY T t with|some d=>_|none=>stuck "no such type") f);rw[hd];unfold bo at h
 split at h
 ·split at h
  ·injection h with h
   subst h;rename_i c;simp only[c,if_true];exact hf
  ·cases h
 ·injection h with h;subst h;exact hf
 ·injection h with h;subst h;exact hf
 ·cases h
def C4{t:ab}{d:ac}(hd:tY T t=some d){k k':Value}(j:VR F ρ k k'):∀{es a:List ai}(i:Nat),bD F ρ es a->
 (bp d k es i=none/\bp d k' a i=none)\/(∃r f,bp d k es i=some r/\bp d k' a i=some f/\ua F ρ r f)\/(bp d k es i=none/\bW T fB (bq t k es i)):=by
 intro es
 induction es with
 |nil=>intro a i h;cases h;exact .inr (.inl ⟨_,_,rfl,rfl,.none⟩)
 |cons e es l=>
  intro a i h
  cases h with
  |cons g m=>
   rcases C3 d j g.key with hs|⟨hs,c⟩
   ·simp only[bp,<-hs]
    cases hb:bo d k e.key with
    |none=>exact .inl ⟨rfl,rfl⟩
    |some b=>cases b with
     |true=>exact .inr (.inl ⟨_,_,rfl,rfl,.some i g.val⟩)
     |false=>
      rcases l (i+1) m with h|h|⟨n,o⟩
      ·exact .inl h
      ·exact .inr (.inl h)
      ·exact .inr (.inr ⟨n,LC hd hb _ o⟩)
   ·refine .inr (.inr ⟨by simp only[bp,hs],?_⟩);show bW T fB (da (Op.equal t k e.key) _)
    rcases c with c|c
    ·rw[c];exact(Ol t _).bind
    ·rw[c];exact(Om t _).bind
def zy(t:ab):∀{es c:List ai}{ρ:Ren}(_:ρ.bw T.globals.size){k k':Value}(_:VR F ρ k k')(i:Nat),bD F ρ es c->av T fB fA F K (λσ r j=>ua F σ r j) ρ (bq t k es i) (bq t k' c i):=by
 intro es
 induction es with
 |nil=>intro c ρ d k k' f i h;cases h;exact ah .none
 |cons e es l=>
  intro c ρ d k k' f i h
  cases h with
  |cons g m=>
   refine af d (qS _ d t f g.key) λσ a n b b' e=>?_;subst e;exact aN (λ_=>ah (.some i (g.val.mono a))) λ_=>l n (f.mono a) (i+1) (m.mono a)
def wZ(j:ρ.bw T.globals.size)(t:ab){k k':Value}(f:VR F ρ k k'){es g:List ai}(h:bD F ρ es g):av T fB fA F K (λσ r i=>ua F σ r i) ρ (br t k es) (br t k' g):=by
 unfold br;refine af j (fG t) λσ a l d n e=>?_;obtain⟨rfl,hd⟩:=e
 rcases C4 (fB:=fB) hd (f.mono a) 0 (h.mono a) with⟨b,c⟩|⟨r,i,b,c,m⟩|⟨b,c⟩
 ·rw[b,c];exact zy t l (f.mono a) 0 (h.mono a)
 ·rw[b,c];exact ah m
 ·rw[b];exact c.rel _
def bD.isEmpty{es a:Array ai}(h:bD F ρ es.toList a.toList):es.isEmpty=a.isEmpty:=by
 have:=h.length;simp only[Array.length_toList]at this;simp[Array.isEmpty,this]
def bD.get?{l l':List ai}(h:bD F ρ l l')(i:Nat):(l[i]?=none/\l'[i]?=none)\/∃e e',l[i]?=some e/\l'[i]?=some e'/\zo F ρ e e':=by
 induction h generalizing i with
 |nil=>exact .inl ⟨rfl,rfl⟩
 |cons a _ b=>
  cases i with
  |zero=>exact .inr ⟨_,_,rfl,rfl,a⟩
  |succ i=>simpa using b i
def bD.append{l l' m m':List ai}(x:bD F ρ l l')(y:bD F ρ m m'):bD F ρ (l++m) (l'++m'):=by
 induction x with
 |nil=>exact y
 |cons a _ b=>exact .cons a b
def bD.modify{l l':List ai}(x:bD F ρ l l')(i:Nat){f f':ai->ai}(hf:∀e e',zo F ρ e e'->zo F ρ (f e) (f' e')):bD F ρ (l.modify i f) (l'.modify i f'):=by
 induction x generalizing i with
 |nil=>cases i<;>exact .nil
 |cons a t b=>
  cases i with
  |zero=>exact .cons (hf _ _ a) t
  |succ i=>exact .cons a (b i)
def bD.filter{l l':List ai}(x:bD F ρ l l'){p:ai->Bool}(c:∀e e':ai,e.born=e'.born->p e=p e'):bD F ρ (l.filter p) (l'.filter p):=by
 induction x with
 |nil=>exact .nil
 |cons a t b=>
  rw[ch,ch,<-c _ _ a.born]
  split
  ·exact .cons a b
  ·exact b
def bD.find?{l l':List ai}(x:bD F ρ l l'){p:ai->Bool}(b:∀e e':ai,e.born=e'.born->p e=p e'):(l.find? p=none/\l'.find? p=none)\/∃e e',l.find? p=some e/\l'.find? p=some e'/\zo F ρ e e':=by
 induction x with
 |nil=>exact .inl ⟨rfl,rfl⟩
 |cons a t c=>
  rw[ci,ci,<-b _ _ a.born]
  split
  ·exact .inr ⟨_,_,rfl,rfl,a⟩
  ·exact c
def bD.all{l l':List ai}(x:bD F ρ l l'){p:ai->Bool}(b:∀e e':ai,e.born=e'.born->p e=p e'):l.all p=l'.all p:=by
 induction x with
 |nil=>rfl
 |cons a t c=>simp only[cl,b _ _ a.born,c]
def LD{Z:ab->Bool}(H:dM T F Z)(I:ρ.bw T.globals.size)(t:ab){m:Nat}(J:∀k e,tY T t=some (.map k e)->og T m k=true/\Z e=true){x y i l:Value}(s:VR F ρ x y)(hi:VR F ρ i l)(ok:Bool) :
 av T fB fA F K (RV F) ρ (bs t x i ok) (bs t y l ok):=by
 unfold bs;refine af I (fG t) λσ f A d R e=>?_;obtain⟨rfl,L⟩:=e;have s:=s.mono f;have hi:=hi.mono f
 cases d with
 |map key elem=>
  obtain⟨zz,M⟩:=J key elem L;have a:∀c:Ren,σ.le c->c.bw T.globals.size->∀es n:Array ai,bD F c es.toList n.toList->av T fB fA F K (RV F) c
   (do
     bm es.isEmpty 10000 key i
     let(v,u)<-match<-br key i es.toList with
      |some (_,v)=>pure (v,true)
      |none=>pure (<-ao elem,false)
     pure (if ok then .tuple #[v,.bool u] else v))
   (do
     bm n.isEmpty 10000 key l
     let(v,u)<-match<-br key l n.toList with
      |some (_,v)=>pure (v,true)
      |none=>pure (<-ao elem,false)
     pure (if ok then .tuple #[v,.bool u] else v)):=by
   intro c p q es n B;rw[bD.isEmpty B];refine af q (uW _ _ q m key zz (hi.mono p)) λS C D _ _ _=>?_;refine af D (wZ D key ((hi.mono p).mono C) (B.mono C)) λN U E r V w=>?_;have fin:∀(g:Ren)(v v':Value)(b:Bool),VR F g v v'->av T fB fA F K (RV F) g (pure (if ok then .tuple #[v,.bool b] else v):Sem Value) (pure (if ok then .tuple #[v',.bool b] else v'):Sem Value):=by
    intro g v v' b hv;refine ah ?_
    split
    ·exact .tuple (VA.two hv (.bool b))
    ·exact hv
   cases w with
   |none=>
    exact af E (gO H E M) λg _ _ z O P=>fin g z O false P.1
   |some j hv=>exact fin N _ _ true hv
  cases s with
  |qQ=>exact a σ (Ren.le_refl _) A #[] #[] .nil
  |map w=>
   refine af A (dA w) λc p q o W Q=>?_
   cases Q with
   |map clock h=>exact a c p q _ _ h
   |_=>exact bz
  |_=>exact bz
 |_=>exact ak
def Bf(g:ρ.bw T.globals.size):∀(n:Nat){a a' b b':Value},VR F ρ a a'->VR F ρ b b'->bt n a b=true->bt n a' b'=true:=by
 intro n;have ptr:∀{a a' b b':Addr},AR ρ a a'->AR ρ b b'->(some a==some b)=true->(some a'==some b')=true:=by
  intro a a' b b' c hb;rw[beq_iff_eq,beq_iff_eq,dk,dk];exact(AR.eq_iff g c hb).1
 induction n with
 |zero=>
  intro a a' b b' c hb
  cases c with
  |hole=>intro h;unfold bt at h;cases h
  |_=>cases hb with
   |hole=>intro h;unfold bt at h;cases h
   |_=>first|exact id|(unfold bt;first|exact id|exact ptr (by assumption) (by assumption))|(intro h;unfold bt at h;cases h)
 |succ n f=>
  intro a a' b b' c hb
  cases c with
  |hole=>intro h;unfold bt at h;cases h
  |iface t c=>
   cases hb with
   |iface u hb=>
    simp only[bt,dp];exact fun⟨x,y⟩=>⟨x,f c hb y⟩
   |_=>intro h;unfold bt at h;cases h
  |agg c=>
   cases hb with
   |agg hb=>
    have all:∀{l d m m':List Value},cU F ρ l d->cU F ρ m m'->((l.zip m).all fun(x,y)=>bt n x y)=true->((d.zip m').all fun(x,y)=>bt n x y)=true:=by
     intro l
     induction l with
     |nil=>intro d m m' h _ _;cases h;rfl
     |cons x l e=>
      intro d m m' h k
      cases h with
      |cons i j=>
       cases k with
       |nil=>intro _;rfl
       |cons k1 k2=>
        simp only[cm,cl,dp];exact fun⟨x,y⟩=>⟨f i k1 x,e j k2 y⟩
    simp only[bt,ca c,ca hb,dp];exact fun⟨x,y⟩=>⟨x,all c hb y⟩
   |_=>intro h;unfold bt at h;cases h
  |_=>cases hb with
   |hole=>intro h;unfold bt at h;cases h
   |_=>first|exact id|(unfold bt;first|exact id|exact ptr (by assumption) (by assumption))|(intro h;unfold bt at h;cases h)
def C5(a b:ByteArray):(a==b)=true↔a=b:=by
 obtain⟨x⟩:=a;obtain⟨y⟩:=b;show(x==y)=true↔_;rw[beq_iff_eq];simp
def C6:∀(n:Nat){a b:Value},bt n a b=true->a=b:=by
 intro n
 induction n with
 |zero=>intro a b h;cases a<;>cases b<;>first|rfl|(unfold bt at h;exact dq h)|(unfold bt at h;simp only[dp,beq_iff_eq,C5]at h;simp[h])
 |succ n d=>
  intro a b h;have all:∀{l m:List Value},l.length=m.length->((l.zip m).all fun(x,y)=>bt n x y)=true->l=m:=by
   intro l
   induction l with
   |nil=>intro m e _;cases m with
    |nil=>rfl
    |cons _ _=>cases e
   |cons x l c=>
    intro m e k
    cases m with
    |nil=>cases e
    |cons y m=>
     simp only[cm,cl,dp]at k;rw[d k.1,c (by simpa using e) k.2]
  cases a<;>cases b<;>first
   |rfl
   |(unfold bt at h;exact dq h)
   |(unfold bt at h;simp only[dp,beq_iff_eq]at h;rw[h.1,d h.2];done)
   |(unfold bt at h;simp only[dp,beq_iff_eq]at h;exact congrArg Value.agg (Array.ext' (all (by simpa using h.1) h.2)))
   |(unfold bt at h;simp only[dp,beq_iff_eq,C5]at h;simp[h];done)
def Aa{es c:Array ai}(h:bD F ρ es.toList c.toList)(i:Nat){k k':Value}(d:VR F ρ k k'):VR F ρ (((es[i]?).map (·.key)).getD k) (((c[i]?).map (·.key)).getD k'):=by
 rcases bD.get? h i with⟨a,b⟩|⟨e,g,a,b,f⟩
 ·simp only[cq]at a b;rw[a,b];exact d
 ·simp only[cq]at a b;rw[a,b];exact f.key
def lK(mapType:ab)(map key:Value):Sem (Nat×Array ai×Nat×Option (Nat×Value)):=do
 let .map keyType _<-ae mapType|stuck "MapUpdate: map type expected"
 match map with
 |.map none=>ap (.plain "assignment to entry in nil map")
 |.map (some r)=>
  let .map es clock<-getObj r|stuck "MapUpdate: map expected"
  bm false 10000 keyType key
  let f<-br keyType key es.toList
  pure (r,es,clock,f)
 |_=>stuck "MapUpdate: map expected"
def rZ(key value:Value)(x:Nat×Array ai×Nat×Option (Nat×Value)):Sem Unit:=
 match x.2.2.2 with
 |some (i,_)=>do
  let key<-bu (((x.2.1[i]?).map (·.key)).getD key) key
  aq x.1 (.map (x.2.1.modify i λe=>{ e with key,val:=value }) x.2.2.1)
 |none=>aq x.1 (.map (x.2.1.push { key,val:=value,born:=x.2.2.1 }) (x.2.2.1+1))
def jg(t:ab)(m k v:Value):bv t m k v=da (lK t m k) (rZ k v):=by
 unfold bv lK;show da _ _=da (da _ _) _;rw[db];congr 1;funext d;cases d<;>try rfl
 cases m<;>try rfl
 rename_i r
 cases r with
 |none=>rfl
 |some r=>
  show da _ _=da (da _ _) _;rw[db];congr 1;funext o;cases o<;>try rfl
  show da _ _=da (da _ _) _;rw[db];congr 1;funext _;show da _ _=da (da _ _) _;rw[db];congr 1
def acf(F:ad->Bool)(ρ:Ren)(x a:Nat×Array ai×Nat×Option (Nat×Value)):Prop:=ρ x.1 a.1/\bD F ρ x.2.1.toList a.2.1.toList/\x.2.2.1=a.2.2.1/\ua F ρ x.2.2.2 a.2.2.2
def uX(s:ρ.bw T.globals.size)(t:ab){m:Nat}(u:∀k e,tY T t=some (.map k e)->og T m k=true){x h i j:Value}(f:VR F ρ x h)(hi:VR F ρ i j) :
 av T fB fA F K (acf F) ρ (lK t x i) (lK t h j):=by
 unfold lK;refine af s (fG t) λσ b v d A e=>?_;obtain⟨rfl,w⟩:=e;have f:=f.mono b;have hi:=hi.mono b
 cases d with
 |map key elem=>
  have zz:=u key elem w
  cases f with
  |qQ=>exact zv _
  |map a=>
   refine af v (dA a) λB l n o C y=>?_;have a:=l a;have hi:=hi.mono l
   cases y with
   |map clock c=>
    refine af n (uW _ _ n m key zz hi) λD g p _ _ _=>?_;have a:=g a;have hi:=hi.mono g;have c:=c.mono g;refine af p (wZ p key hi c) λE q H r I z=>?_;exact ah ⟨q a,c.mono q,rfl,z⟩
   |_=>exact ak
  |_=>exact ak
 |_=>exact ak
def LF{c:Type}(P:ar)(r:Nat)(o:Obj)(a:c)(w:World)(b:Nat->Question->Nat)(d:Nat):(dd r o (.pure a)).run P (w.re b d)=((dd r o (.pure a)).run P w).re b d:=by
 show(match w.heap[r]? with|some (.cells ..)=>_|some _=>_|none=>_)=Result.re (match w.heap[r]? with|some (.cells ..)=>_|some _=>_|none=>_) b d
 cases w.heap[r]? with
 |none=>rfl
 |some o=>cases o<;>rfl
def Oo(d:ρ.bw T.globals.size){w w':World}(o:WR T.globals.size F K ρ w w')(p:w.tape=w'.tape)(hd:w.drawn=w'.drawn){i q v v':Value}(hi:VR F ρ i q)(hv:VR F ρ v v')
 {x t:Nat×Array ai×Nat×Option (Nat×Value)} (I:acf F ρ x t) (c:Array Event) :
 qp T.globals.size F K fF ρ w w' c ((rZ q v' t).runT ⟨T,fA⟩ w' c) ((rZ i v x).run ⟨T,fB⟩ w):=by
 obtain⟨r,es,clock,O⟩:=x;obtain⟨H,u,P,J⟩:=t;obtain⟨s,l,hc,m⟩:=I;simp only at s l hc m;subst hc;have put:∀(j:Nat){k k':Value},VR F ρ k k'->av T fB fA F K fF ρ (aq r (.map (es.modify j λe=>{ e with key:=k,val:=v }) clock)) (aq H (.map (u.modify j λe=>{ e with key:=k',val:=v' }) clock)):=by
  intro j k k' y;refine dV s (.map _ ?_);rw[ct,ct];exact bD.modify l j λe L z=>⟨y,hv,z.born⟩
 cases m with
 |none=>
  refine(av.run c ?_ d o p hd).zu;refine dV s (.map _ ?_);rw[cu,cu];exact bD.append l (.cons ⟨hi,hv,rfl⟩ .nil)
 |some j _=>
  have hold:=Aa l j hi;unfold rZ;simp only;generalize(((es[j]?).map (·.key)).getD i)=f at hold;generalize(((u[j]?).map (·.key)).getD q)=A at hold;unfold bu;by_cases B:bt 10000 f i=true
  ·rw[if_pos B,if_pos (Bf d _ hold hi B)];exact(av.run c (put j hi) d o p hd).zu
  ·rw[if_neg B];by_cases g:bt 10000 A q=true
   ·rw[if_pos g];obtain rfl:=C6 _ g;have one:∀n:Nat,qp T.globals.size F K fF ρ w w' c ((aq H (.map (u.modify j λe=>{ e with key:=A,val:=v' }) clock)).runT ⟨T,fA⟩ w' c)
     ((aq r (.map (es.modify j λe=>{ e with key:=if n=0 then i else f,val:=v }) clock)).run ⟨T,fB⟩ (w.re w.tape (w.drawn+1))):=by
     intro n;have h:=av.run c (put j (k:=if n=0 then i else f) (k':=A) (by split<;>assumption)) d o p hd;unfold aq;rw[LF];unfold aq at h;generalize(dd r _ (.pure ())).run ⟨T,fB⟩ w=res at h
     match res,h with
     |.ok a w2,⟨C,M,D,E,e,k,N⟩=>exact⟨C,M,D,E,w2.tape,w2.drawn,e,k,N⟩
     |.halt (.panic v) w2,⟨C,v',D,E,e,k,hv⟩=>exact⟨C,v',D,E,w2.tape,w2.drawn,e,k,hv⟩
     |.halt .blocked _,h=>exact h
     |.halt .waiting _,h=>exact h
     |.halt (.exit _) _,h=>exact h
     |.halt (.fatal _) _,h=>exact h
     |.halt (.throw _) _,h=>exact h
     |.halt .goexit _,h=>exact h
     |.halt (.unsupported _) _,h=>exact h
     |.halt (.stuck _) _,_=>trivial
    exact one (Question.cut (.extern "map.whichKeyStays" 2) (w.tape w.drawn (.extern "map.whichKeyStays" 2)))
   ·rw[if_neg g];refine(av.run c ?_ d o p hd).zu;refine av.bind d (RA:=RV F) ?_ λσ b _ k k' y=>?_
    ·refine af d (lH _) λσ b _ n n' e=>?_;subst e;refine ah ?_
     split
     ·exact hi.mono b
     ·exact hold.mono b
    ·refine dV (b s) (.map _ ?_);rw[ct,ct];exact bD.modify (l.mono b) j λe L z=>⟨y,hv.mono b,z.born⟩
def Ty(c:ρ.bw T.globals.size){w w':World}(n:WR T.globals.size F K ρ w w')(o:w.tape=w'.tape)(hd:w.drawn=w'.drawn)(t:ab){m:Nat}(p:∀k e,tY T t=some (.map k e)->og T m k=true){x d i f v v':Value}(q:VR F ρ x d)(hi:VR F ρ i f)(hv:VR F ρ v v')(b:Array Event) :
 qp T.globals.size F K fF ρ w w' b ((bv t d f v').runT ⟨T,fA⟩ w' b) ((bv t x i v).run ⟨T,fB⟩ w):=by
 rw[jg,jg,de,df];have h:=av.run b (uX (fB:=fB) (fA:=fA) (F:=F) (K:=K) c t p q hi) c n o hd;generalize(lK t x i).run ⟨T,fB⟩ w=res at h
 match res,h with
 |.ok a w2,⟨g,s,j,l,e,k,r⟩=>
  rw[e];exact qp.step k (Oo k.inj k.wr k.tape k.drawn (hi.mono k.le) (hv.mono k.le) r _)
 |.halt (.panic v) w2,⟨g,v',j,l,e,k,hv⟩=>
  rw[e];exact⟨g,v',j,l,w2.tape,w2.drawn,rfl,k,hv⟩
 |.halt .blocked _,h=>exact h
 |.halt .waiting _,h=>exact h
 |.halt (.exit _) _,h=>exact h
 |.halt (.fatal _) _,h=>exact h
 |.halt (.throw _) _,h=>exact h
 |.halt .goexit _,h=>exact h
 |.halt (.unsupported _) _,h=>exact h
 |.halt (.stuck _) _,_=>trivial
def Ga(a:ρ.bw T.globals.size)(t:ab):av T fB fA F K (RV F) ρ (bx t none) (bx t none):=
 af a (jO (.map 0 .nil)) λ_ _ _ _ _ b=>ah (.map b)
def Oq(g:ρ.bw T.globals.size)(t:ab){x l:Value}(b:VR F ρ x l):av T fB fA F K (RV F) ρ (bA t x) (bA t l):=by
 unfold bA;refine af g (bk t) λσ i j d p e=>?_;subst e;have b:=b.mono i;have fin:∀(a:Ren),a.bw T.globals.size->∀o c,OR F K a o c->av T fB fA F K (RV F) a (do pure (.pointer (some ⟨<-aw o,0,none⟩)):Sem Value) (do pure (.pointer (some ⟨<-aw c,0,none⟩)):Sem Value):=
  λa g o c k=>af g (jO k) λ_ _ _ _ _ f=>ah (.ptr ⟨f,rfl,rfl⟩)
 cases d with
 |string=>cases b<;>first|exact fin σ j _ _ (.stringIter _ _)|exact bz
 |map _ _=>
  cases b with
  |qQ=>exact fin σ j _ _ (.mJ _ _ _)
  |map f=>
   refine af j (dA f) λa m n o c k=>?_
   cases k with
   |map clock h=>exact fin a n _ _ (.mapIter _ _ _ (m f))
   |_=>exact bz
  |_=>exact bz
 |_=>exact bz
def Ot(m:ρ.bw T.globals.size){x g:Value}(q:VR F ρ x g):av T fB fA F K (RV F) ρ (bC x) (bC g):=by
 unfold bC
 cases q with
 |@ptr a s t=>
  obtain⟨r,off,sp⟩:=a;obtain⟨E,u,v⟩:=s;obtain⟨i,e1,j⟩:=t;simp only at i e1 j;subst e1 j
  cases off with
  |succ n=>exact ak
  |zero=>
   refine af m (dA i) λσ w y o H z=>?_
   cases z with
   |mapIter a b c A=>
    simp only
    cases b.back? with
    |none=>exact ak
    |some d=>
     refine af y (dA A) λI J L p M B=>?_
     cases B with
     |map clock C=>
      refine aN (λ_=>aM) λ_=>?_;rw[<-cv,<-cv]
      rcases bD.find? C (p:=λe=>e.born==d) (λe D h=>by rw[h]) with⟨f,k⟩|⟨e,D,f,k,l⟩
      ·rw[f];exact aA
      ·rw[f,k];exact ah (.tuple (VA.two l.key l.val))
     |_=>exact ak
   |_=>exact ak
 |_=>exact ak
inductive gS(F:ad->Bool)(ρ:Ren):List (Option ai)->List (Option ai)->Prop
 |nil:gS F ρ [] []
 |no {l l':List (Option ai)} (t:gS F ρ l l'):gS F ρ (none::l) (none::l')
 |yes {e e':ai} {l l':List (Option ai)} (h:zo F ρ e e') (t:gS F ρ l l'):gS F ρ (some e::l) (some e'::l')
def gS.of{l l':List ai}(h:bD F ρ l l'):gS F ρ (l.map some) (l'.map some):=by
 induction h with
 |nil=>exact .nil
 |cons a _ b=>exact .yes a b
def gS.append{l l' m m':List (Option ai)}(x:gS F ρ l l')(y:gS F ρ m m'):gS F ρ (l++m) (l'++m'):=by
 induction x with
 |nil=>exact y
 |no _ b=>exact .no b
 |yes a _ b=>exact .yes a b
def gS.length{l l':List (Option ai)}(x:gS F ρ l l'):l.length=l'.length:=by
 induction x with
 |nil=>rfl
 |no _ b=>simp[b]
 |yes a _ b=>simp[b]
def gS.get?{l l':List (Option ai)}(x:gS F ρ l l')(i:Nat):(l[i]?=none/\l'[i]?=none)\/(l[i]?=some none/\l'[i]?=some none)\/∃e e',l[i]?=some (some e)/\l'[i]?=some (some e')/\zo F ρ e e':=by
 induction x generalizing i with
 |nil=>exact .inl ⟨rfl,rfl⟩
 |no _ b=>
  cases i with
  |zero=>exact .inr (.inl ⟨rfl,rfl⟩)
  |succ i=>simpa using b i
 |yes a _ b=>
  cases i with
  |zero=>exact .inr (.inr ⟨_,_,rfl,rfl,a⟩)
  |succ i=>simpa using b i
def Tz(N:ρ.bw T.globals.size){x E:Value}(O:VR F ρ x E)(b:Bool)(t:ab):av T fB fA F K (RV F) ρ (bL x b t) (bL E b t):=by
 unfold bL
 cases O with
 |@ptr a P Q=>
  obtain⟨r,off,sp⟩:=a;obtain⟨Y,R,S⟩:=P;obtain⟨d,e1,H⟩:=Q;simp only at d e1 H;subst e1 H
  cases off with
  |succ n=>exact ak
  |zero=>
   refine af N (dA d) λσ y I o Z U=>?_;have d:=y d;have over:∀g:Ren,av T fB fA F K (RV F) g (pure (.tuple #[.bool false]):Sem Value) (pure (.tuple #[.bool false]):Sem Value):=λg=>ah (.tuple (VA.one (.bool _)))
   cases U with
   |stringIter s pos=>
    cases b with
    |true=>
     refine aN (λ_=>?_) λ_=>over _;refine af I (dV d (.stringIter _ _)) λ_ _ _ _ _ _=>?_;exact ah (.tuple (cb (.bool _) (.int _ _) (.int _ _)))
    |false=>exact ak
   |mJ a1 b1 c1=>
    cases b with
    |false=>exact over _
    |true=>exact ak
   |@mapIter m m' since seen last j=>
    cases b with
    |true=>exact ak
    |false=>
     refine af I (dA j) λg J V p p' W=>?_
     cases W with
     |@map es k clock z=>
      have j:=J j;have d:=J d;have e1:(!seen.isEmpty && !es.isEmpty&&es.all (·.born>=last))=(!seen.isEmpty && !k.isEmpty&&k.all (·.born>=last)):=by
       rw[bD.isEmpty z,<-cx,<-cx,bD.all z (p:=λe=>decide (e.born>=last)) (λe l h=>by rw[h])]
      simp only[e1];refine aN (λ_=>aM) λ_=>?_;have q:bD F g (es.filter λe=>!seen.contains e.born).toList (k.filter λe=>!seen.contains e.born).toList:=by
       rw[cB,cB];exact bD.filter z λe l h=>by rw[h]
      generalize(es.filter λe=>!seen.contains e.born)=left at q;generalize(k.filter λe=>!seen.contains e.born)=u at q;have hold:bD F g (left.filter (·.born<since)).toList (u.filter (·.born<since)).toList:=by
       rw[cB,cB];exact bD.filter q λe l h=>by rw[h]
      have A:bD F g (left.filter (·.born>=since)).toList (u.filter (·.born>=since)).toList:=by
       rw[cB,cB];exact bD.filter q λe l h=>by rw[h]
      generalize(left.filter (·.born<since))=c at hold;generalize(u.filter (·.born<since))=v at hold;generalize(left.filter (·.born>=since))=new at A;generalize(u.filter (·.born>=since))=L at A;have hc:gS F g ((if c.isEmpty then #[none] else #[])++(c++new).map some).toList ((if v.isEmpty then #[none] else #[])++(v++L).map some).toList:=by
       rw[cC,cC,cQ,cQ,cC,cC,bD.isEmpty hold];refine gS.append ?_ (gS.of (bD.append hold A))
       split
       ·exact .no .nil
       ·exact .nil
      generalize((if c.isEmpty then #[none] else #[])++(c++new).map some)=B at hc;generalize((if v.isEmpty then #[none] else #[])++(v++L).map some)=C at hc;have hs:B.size=C.size:=by simpa using hc.length
      simp only[hs];refine af V (lH _) λυ w X n n' e=>?_;subst e
      rcases gS.get? hc n with⟨f,i⟩|⟨f,i⟩|⟨e,l,f,i,D⟩
      ·simp only[cq]at f i;rw[f];exact ak
      ·simp only[cq]at f i;rw[f,i];exact over _
      ·simp only[cq]at f i;rw[f,i];simp only[<-D.born];refine af X (dV (w d) (.mapIter _ _ _ (w j))) λ_ M _ _ _ _=>?_;exact ah (.tuple (cb (.bool _) ((D.key.mono w).mono M) ((D.val.mono w).mono M)))
     |_=>exact ak
   |_=>cases b<;>exact ak
 |_=>exact ak
def LG{x b:Value}(d:VR F ρ x b):av T fB fA F K (λ_ n n'=>n=n'/\∀a c,x=.slice a 0 c->n=0) ρ (du x) (du b):=by
 cases d<;>first|exact ah ⟨rfl,λa c h=>by cases h;rfl⟩|exact ah ⟨rfl,λa c h=>by cases h⟩|exact ak
def Gb(size:Nat){x d:Value}(g:VR F ρ x d):av T fB fA F K (λ_ a a'=>a=#[]/\a'=#[]) ρ (dv size 0 x) (dv size 0 d):=by
 have f:∀a a':Addr,av T fB fA F K (λ_ a a'=>a=#[]/\a'=#[]) ρ (aB a (0*size)) (aB a' (0*size)):=by
  intro a a';rw[Nat.zero_mul];exact ah ⟨rfl,rfl⟩
 cases g with
 |slice l c j=>exact f _ _
 |dK D a=>exact f _ _
 |di l c=>exact ah ⟨rfl,rfl⟩
 |string s=>
  have e:(s.extract 0 0).data.map (λb=>Value.int .u8 b.toNat)=#[]:=by
   have h:(s.extract 0 0).size=0:=by simp
   have i:(s.extract 0 0).data.size=0:=h;rw[Array.eq_empty_of_size_eq_zero i];simp
  refine ah ?_;rw[e];exact⟨rfl,rfl⟩
 |_=>exact ak
def kZ(d:ρ.bw T.globals.size)(size n:Nat){x b:Value}(e:VR F ρ x b)(f:∀a c,x=.slice a 0 c->n=0):av T fB fA F K (RVA F) ρ (dv size n x) (dv size n b):=by
 cases e with
 |dK D a=>
  obtain rfl:=f _ _ rfl;show(av T fB fA F K) (RVA F) ρ (aB _ (0*size)) (aB _ (0*size));rw[Nat.zero_mul];exact ah cc
 |slice l c g=>exact rU d g _
 |di l c=>exact ah cc
 |string s=>
  refine ah ?_;show cU _ _ _ _;rw[cQ];exact cU.map _ λ_ _=>.int _ _
 |_=>exact ak
end
open Builtin in
def jU(elem size d e:Nat)(base:Option Addr)(s x:Value):Sem Value:=do
 let n<-lenOf x;let appended:Sem (Array Value):=firstCells size n x;let b:=d+n
 if b<=e then
  let new<-appended
  if let some a:=base then storeCells (a.add (d*size)) new.toList
  pure (.slice base b e)
 else
  if(b:Int) > IntKind.i64.max/\((false:Bool)\/(<-aF elem).bytes=0) then ap (.error "growslice: len out of range")
  if nextslicecap b e*(<-aF elem).bytes > 2 ^ 48 then(if(false:Bool) then ap (.error "growslice: len out of range") else do
   if !(<-mayShare size d n base x) then mark .noRoom
   unsupported (.resourceLimit "append: a slice or a string whose bytes no memory bears"))
  let f<-aH (.appendCap b e elem)
  askRoom (f*(<-aF elem).bytes)
  let g<-firstCells size d s;let new<-appended;let c:=zeroCells (<-ao elem).cells (f-b)
  pure (.slice (some (<-newRow elem (g++new++c))) b f)
def I7(size n:Nat)(base:Option Addr)(x:Value)(there:Bool):Sem Bool:=
 if(!there)=true then pure true else
 match x with
 |.slice (some b) _ _=>do pure (!(<-dx b (n*size))||base.any (·.block==b.block))
 |_=>pure false
section
variable {T:aa}{fB fA:Array Func}{F:ad->Bool}{K:Code->Bool}{ρ σ:Ren}
def VA.zeroCells{c:Array Value}(h:VA F ρ c c)(n:Nat):VA F ρ (dz c n) (dz c n):=by
 show cU _ _ _ _;unfold dz;rw[cQ];refine cU.map _ λi hi=>?_
 rcases Nat.eq_zero_or_pos c.size with b|b
 ·have:i∈c4 (n*c.size):=Array.mem_toList_iff.1 hi;simp[b]at this
 ·have hl:=Nat.mod_lt i b
  rcases cd h (i % c.size) with⟨a,_⟩|⟨v,v',a,d,hv⟩
  ·rw[c5 hl]at a;cases a
  ·rw[a]at d;cases d;rw[getElem!_pos c _ hl];rw[c5 hl]at a;cases a;exact hv
def qV(T:aa)(fB:Array Func){a:Type}:Sem a->Prop
 |.pure _=>True
 |.program k=>qV T fB (k ⟨T,fB⟩)
 |.shape _ k=>∀x,qV T fB (k x)
 |.frozen _ k=>∀x,qV T fB (k x)
 |_=>False
def qV.bind{c d:Type}{s:Sem c}{f:c->Sem d}(h:qV T fB s)(hf:∀a,qV T fB (f a)):qV T fB (s.bind f):=by
 induction s with
 |pure a=>exact hf a
 |program k b=>exact b _ h
 |shape r k b=>exact λx=>b x (h x)
 |frozen r k b=>exact λx=>b x (h x)
 |_=>exact h.elim
def qV.dead{c d:Type}{s:Sem c}{f:c->Sem d}(h:qV T fB s)(hf:∀a,bW T fB (f a)):bW T fB (s.bind f):=by
 induction s with
 |pure a=>exact hf a
 |program k b=>exact b _ h
 |shape r k b=>exact λx=>b x (h x)
 |frozen r k b=>exact λx=>b x (h x)
 |_=>exact h.elim
theorem look_holds(a:Addr)(n:Nat):qV T fB (dx a n):=λx=>by cases x<;>trivial
def Ab(size n:Nat)(b:Option Addr)(x:Value)(there:Bool):qV T fB (I7 size n b x there):=by
 unfold I7
 split
 ·trivial
 ·split
  ·exact qV.bind (look_holds _ _) λ_=>trivial
  ·trivial
def Gg(size l n:Nat)(b:Option Addr)(x:Value):qV T fB (dB size l n b x):=by
 cases b with
 |none=>exact Ab size n none x true
 |some p=>
  unfold dB;simp only;exact qV.bind (look_holds _ _) λy=>λz=>Ab size n (some p) x (y && !z)
def zA{Z:ab->Bool}(E:dM T F Z)(f:ρ.bw T.globals.size){elem:ab}(t:Z elem=true)(size l c:Nat){b b':Option Addr}(hs:VR F ρ (.slice b l c) (.slice b' l c)){x v:Value}(g:VR F ρ x v) :
 av T fB fA F K (RV F) ρ (jU elem size l c b (.slice b l c) x) (jU elem size l c b' (.slice b' l c) v):=by
 unfold jU;have u:∀a w,Value.slice b l c=.slice a 0 w->l=0:=λa w h=>by cases h;rfl
 refine af f (LG g) λσ d f n n' e=>?_;obtain⟨rfl,p⟩:=e;have g:=g.mono d;have hs:=hs.mono d;simp only;refine aN (λM=>?_) λ_=>?_
 ·by_cases A:c=0
  ·subst A;obtain rfl:n=0:=by omega
   obtain rfl:l=0:=by omega
   refine af f (Gb size g) λB d f new C o=>?_;obtain⟨rfl,rfl⟩:=o;have hs:=hs.mono d
   cases hs with
   |di=>exact ah (.di _ _)
   |slice _ _ s=>exact ah (.slice _ _ s)
   |dK D a=>exact ah (.dK D a)
  refine af f (kZ f size n g p) λB d f new C o=>?_;have hs:=hs.mono d
  cases hs with
  |dK D a=>exact absurd rfl A
  |di=>exact ah (.di _ _)
  |slice _ _ s=>exact af f (qD f (s.add _) o 0) λm d f _ _ _=>ah (.slice _ _ (s.mono d))
 ·refine af f (ee elem) λB d f i N e=>?_;subst e;have g:=g.mono d;have hs:=hs.mono d;refine aN (λ_=>?_) λ_=>?_
  ·exact af (RA:=λ_ _ _=>False) f (cX _) λ_ _ _ _ _ h=>h.elim
  refine af f (ee elem) λm d f j O e=>?_;subst e;have g:=g.mono d;have hs:=hs.mono d;refine aN (λ_=>?_) λ_=>?_
  ·refine af (RA:=λ_ _ _=>False) f ?_ λ_ _ _ _ _ h=>h.elim;refine aN (λh=>absurd h (by decide)) λ_=>?_;refine bW.rel ?_ _;refine qV.dead (Gg size l n b x) λy=>?_;cases y
   ·exact⟨rfl,rfl⟩
   ·rfl
  refine af f (lH _) λm d f cap H e=>?_;subst e;have g:=g.mono d;have hs:=hs.mono d;refine af f (ee elem) λm d f k k' e=>?_;subst e;have g:=g.mono d;have hs:=hs.mono d;refine af f (FQ _) λm d f _ _ _=>?_;have g:=g.mono d;have hs:=hs.mono d;refine af f (kZ f size l hs u) λm d f I P q=>?_;have g:=g.mono d;refine af f (kZ f size n g p) λm d f new C o=>?_;have q:=b9 d q;refine af f (gO E f t) λm d f z Q h=>?_;obtain⟨J,rfl⟩:=h;have q:=b9 d q;have o:=b9 d o;refine af f (tS f elem (ce (ce q o) (VA.zeroCells J.cells _))) λm d f r R L=>ah (.slice _ _ L)
def LH{Z:ab->Bool}(J:dM T F Z)(v:ρ.bw T.globals.size){ts:Array ab}(t:ab)(L:∀s,ts[0]?=some s->∀e,tY T s=some (.slice e)->Z e=true)(w:∀s,ts[1]?=some s->∀k,tY T s≠some (.int k))
 {n B:Array Value} (C:VA F ρ n B):av T fB fA F K (RV F) ρ (dC ts t n) (dC ts t B):=by
 unfold dC
 rcases cd C 0 with⟨u,E⟩|⟨s,M,u,E,hs⟩
 ·rw[u];cases ts[0]?<;>exact ak
 rcases cd C 1 with⟨k1,k2⟩|⟨x,N,k1,k2,y⟩
 ·rw[u,k1];cases ts[0]?<;>exact ak
 rw[u,E,k1,k2]
 cases O:ts[0]? with
 |none=>exact ak
 |some H=>
  simp only;refine af v (fG H) λσ a m d z e=>?_;obtain⟨rfl,j⟩:=e;have hs:=hs.mono a;have y:=y.mono a
  cases d with
  |slice elem=>
   have A:=L H O elem j;have fin:∀(f:Ren),f.bw T.globals.size->σ.le f->∀(size l c:Nat)(b b':Option Addr),s=.slice b l c->M=.slice b' l c->
    av T fB fA F K (RV F) f (jU elem size l c b (.slice b l c) x) (jU elem size l c b' (.slice b' l c) N):=by
    intro f v a size l c b b' e1 P;subst e1 P;exact zA J v A size l c (hs.mono a) (y.mono a)
   cases hs with
   |di l c=>
    simp only;refine af m (bN m elem) λf g h size I e=>?_;subst e
    cases e1:ts[1]? with
    |none=>exact fin f h g size l c none none rfl rfl
    |some i=>
     refine af h (fG i) λo p r d z e=>?_;obtain⟨rfl,j⟩:=e
     cases d with
     |int k=>exact absurd j (w i e1 k)
     |_=>exact fin o r (Ren.le_trans g p) size l c none none rfl rfl
   |slice l c Q=>
    simp only;refine af m (bN m elem) λf g h size I e=>?_;subst e
    cases e1:ts[1]? with
    |none=>exact fin f h g size l c _ _ rfl rfl
    |some i=>
     refine af h (fG i) λo p r d z e=>?_;obtain⟨rfl,j⟩:=e
     cases d with
     |int k=>exact absurd j (w i e1 k)
     |_=>exact fin o r (Ren.le_trans g p) size l c _ _ rfl rfl
   |dK D q=>
    simp only;refine af m (bN m elem) λf g h size I e=>?_;subst e
    cases e1:ts[1]? with
    |none=>exact fin f h g size 0 0 _ _ rfl rfl
    |some i=>
     refine af h (fG i) λo p r d z e=>?_;obtain⟨rfl,j⟩:=e
     cases d with
     |int k=>exact absurd j (w i e1 k)
     |_=>exact fin o r (Ren.le_trans g p) size 0 0 _ _ rfl rfl
   |_=>exact ak
  |_=>exact ak
end
end Go.bJ
namespace Go.bJ
section
variable {T:aa}{fB fA:Array Func}{F:ad->Bool}{K:Code->Bool}{ρ σ:Ren}
def xg{z:Array Value}(h:VA F ρ z z)(n:Nat):VA F ρ ((c4 n).map (z[· % z.size]!)) ((c4 n).map (z[· % z.size]!)):=by
 show cU _ _ _ _;rw[cQ];refine cU.map _ λi _=>?_;rw[getElem!_def]
 rcases cd h (i % z.size) with⟨a,_⟩|⟨v,v',a,b,hv⟩
 ·rw[a];exact .bool _
 ·rw[a]at b⊢;cases b;exact hv
def zB{Z:ab->Bool}(o:dM T F Z)(b:ρ.bw T.globals.size){t:ab}(p:∀e,tY T t=some (.slice e)->Z e=true)(len:Nat){ps f:Array (Nat×Value)}(h:kX F ρ ps.toList f.toList):av T fB fA F K (RV F) ρ (bM t len ps) (bM t len f):=by
 unfold bM;refine af b (fG t) λσ a b d w e=>?_;obtain⟨rfl,q⟩:=e;have h:=h.mono a
 cases d with
 |slice elem=>
  have k:=p elem q;refine af b (bN b elem) λm a b size x e=>?_;subst e;have h:=h.mono a;refine aN (λ_=>aM) λ_=>?_;have c:∀(g:Ren),m.le g->g.bw T.globals.size->∀zero j:Array Value,(VA F g zero j/\zero=j)->
   av T fB fA F K (RV F) g (match bR (λi=>some (i*size,size)) ((c4 (len*size)).map (zero[· % zero.size]!)) ps.toList with
    |some cells=>do pure (.slice (some (<-newRow elem cells)) len len)
    |_=>stuck "buildSlice: a part of the wrong size" : Sem Value)
    (match bR (λi=>some (i*size,size)) ((c4 (len*size)).map (j[· % j.size]!)) f.toList with
    |some cells=>do pure (.slice (some (<-newRow elem cells)) len len)
    |_=>stuck "buildSlice: a part of the wrong size" : Sem Value):=by
   rintro g a b zero j⟨hv,rfl⟩
   rcases wO (λi=>some (i*size,size)) (h.mono a) (xg hv (len*size)) with⟨l,n⟩|⟨r,y,l,n,s⟩
   ·rw[l];exact ak
   ·rw[l,n];exact af b (tS b elem s) λ_ _ _ _ _ u=>ah (.slice _ _ u)
  refine aN (λ_=>?_) λ_=>?_
  ·exact c m (Ren.le_refl _) b #[] #[] ⟨cc,rfl⟩
  ·refine af b (gO o b k) λg a b z A v=>?_;obtain⟨hv,rfl⟩:=v;exact c g a b _ _ ⟨hv.cells,rfl⟩
 |_=>exact ak
def X7(b:ρ.bw T.globals.size)(ts:Array ab)(t:ab){f h:Array Value}(m:VA F ρ f h):av T fB fA F K (RV F) ρ (dL ts t f) (dL ts t h):=by
 unfold dL
 rcases cd m 0 with⟨g,i⟩|⟨x,w,g,i,c⟩
 ·rw[g];cases ts[0]?<;>exact ak
 rw[g,i]
 cases ts[0]? with
 |none=>exact ak
 |some s=>
  simp only;refine af b (fG s) λσ a b d p e=>?_;obtain⟨rfl,q⟩:=e;have c:=c.mono a
  cases d with
  |array n e=>exact ah (.int _ _)
  |string=>cases c<;>first|exact ah (.int _ _)|exact ak
  |slice e=>cases c<;>first|exact ah (.int _ _)|exact ak
  |pointer e=>
   refine af b (fG e) λj a b d p e=>?_;obtain⟨rfl,q⟩:=e;cases d<;>first|exact ah (.int _ _)|exact ak
  |map k e=>
   cases c with
   |qQ=>exact ah (.int _ _)
   |map r=>
    refine af b (dA r) λj a b o y u=>?_
    cases u with
    |@map es l clock v=>exact ah (by
     have:es.size=l.size:=by simpa using bD.length v
     show VR F j (goInt es.size) (goInt l.size);rw[this]
     exact .int _ _)
    |_=>exact ak
   |_=>exact ak
  |chan _ _=>cases c<;>exact ak
  |_=>exact ak
def Ac{f:Value->Value->Sem Value}(hf:∀{ρ:Ren}{x a y y':Value},ρ.bw T.globals.size->VR F ρ x a->VR F ρ y y'->av T fB fA F K (RV F) ρ (f x y) (f a y')) :
 ∀{l l':List Value}{ρ:Ren}{x a:Value},ρ.bw T.globals.size->cU F ρ l l'->VR F ρ x a->av T fB fA F K (RV F) ρ (l.foldlM f x) (l'.foldlM f a):=by
 intro l
 induction l with
 |nil=>intro l' ρ x a b h c;cases h;exact ah c
 |cons y l e=>
  intro l' ρ x a b h c
  cases h with
  |cons hy t=>exact af b (hf b c hy) λσ d g z j i=>e g (t.mono d) i
def TC(a:ρ.bw T.globals.size){x c y y':Value}(d:VR F ρ x c)(hy:VR F ρ y y'):av T fB fA F K (RV F) ρ (dO x y) (dO c y'):=by
 cases d<;>cases hy<;>first
  |exact ah (.int _ _)
  |exact ak
  |exact aA
  |skip
 refine af a (oe .geq _ _) λσ f a v v' hv=>?_;exact af a (tU hv) λ_ _ _ b b' e=>ah (by subst e;exact .string _)
def TD(a:ρ.bw T.globals.size){x c y y':Value}(d:VR F ρ x c)(hy:VR F ρ y y'):av T fB fA F K (RV F) ρ (dP x y) (dP c y'):=by
 cases d<;>cases hy<;>first
  |exact ah (.int _ _)
  |exact ak
  |exact aA
  |skip
 refine af a (oe .leq _ _) λσ f a v v' hv=>?_;exact af a (tU hv) λ_ _ _ b b' e=>ah (by subst e;exact .string _)
def X8(d:ρ.bw T.globals.size)(ts:Array ab)(t:ab){a c:Array Value}(b:VA F ρ a c):av T fB fA F K (RV F) ρ (dQ ts t a) (dQ ts t c):=by
 unfold dQ;have b:cU F ρ a.toList c.toList:=b;generalize a.toList=l at b ⊢;generalize c.toList=f at b ⊢
 cases b with
 |nil=>exact ak
 |cons h t=>exact Ac (λd e hy=>TC d e hy) d t h
def X9(d:ρ.bw T.globals.size)(ts:Array ab)(t:ab){a c:Array Value}(b:VA F ρ a c):av T fB fA F K (RV F) ρ (dT ts t a) (dT ts t c):=by
 unfold dT;have b:cU F ρ a.toList c.toList:=b;generalize a.toList=l at b ⊢;generalize c.toList=f at b ⊢
 cases b with
 |nil=>exact ak
 |cons h t=>exact Ac (λd e hy=>TD d e hy) d t h
inductive gT(F:ad->Bool)(K:Code->Bool)(ρ:Ren):Next->Next->Prop
 |value {v v':Value} (h:VR F ρ v v'):gT F K ρ (.value v) (.value v')
 |skip:gT F K ρ .skip .skip
 |enter (f:ad) (hf:F f=true) {a a':Array Value} (h:VA F ρ a a'):gT F K ρ (.enter f a) (.enter f a')
 |round {l l':Nat} (hl:ρ l l') (f:ad) (hf:F f=true) {a a':Array Value} (h:VA F ρ a a') (assign body:Code) (ha:K assign=true) (hb:K body=true):gT F K ρ (.round l f a assign body) (.round l' f a' assign body)
def si(fB fA:Array Func)(F:ad->Bool):Prop:=
 (∀l,fB[cn+l]?=none)/\∀f,F f=true->(∃b,fB[f]?=some b/\b.body.isSome=true/\b.name≠ "runtime.NumGoroutine")/\∃a,fA[f]?=some a/\a.body.isSome=true/\a.name≠ "runtime.NumGoroutine"
def uf{T:aa}{fs:Array Func}{f:ad}{b:Func}(h:fs[f]?=some b)(hb:b.body.isSome=true)(a:b.name≠ "runtime.NumGoroutine")(args:Array Value):∃k,aI f args=program.bind k/\k ⟨T,fs⟩=pure (.enter f args):=by
 refine⟨_,rfl,?_⟩
 show(match fs[f]? with
  |none=>stuck "call: no such function"
  |some fn=>_)=_
 rw[h];have c:(b.name == "runtime.NumGoroutine")=false:=by simpa using a
 have d:b.body.isNone=false:=by cases e:b.body with|none=>rw[e]at hb;cases hb|some _=>rfl
 simp only[c,d,dt,if_false]
def C8(hF:si fB fA F){f:ad}(hf:F f=true){a a':Array Value}(h:VA F ρ a a'):av T fB fA F K (gT F K) ρ (aI f a) (aI f a'):=by
 obtain⟨⟨b,hb,k,e⟩,c,hc,d,g⟩:=hF.2 f hf;unfold aI;refine bI ?_;show(av T fB fA F K) (gT F K) ρ (match fB[f]? with|none=>stuck "call: no such function" | some fn=>_) (match fA[f]? with|none=>stuck "call: no such function" | some fn=>_);rw[hb,hc];have l:(b.name == "runtime.NumGoroutine")=false:=by simpa using e
 have m:b.body.isNone=false:=by cases i:b.body with|none=>rw[i]at k;cases k|some _=>rfl
 have c1:(c.name == "runtime.NumGoroutine")=false:=by simpa using g
 have n:c.body.isNone=false:=by cases j:c.body with|none=>rw[j]at d;cases d|some _=>rfl
 simp only[l,m,c1,n,dt,if_false];exact ah (.enter f hf h)
def jV(a:ρ.bw T.globals.size){l l':Nat}(h:ρ l l'):av T fB fA F K (CN F K) ρ (bT l) (bT l'):=by
 refine af a (dA h) λσ _ _ o c b=>?_
 cases b with
 |loop h=>exact ah h
 |_=>exact ak
def Ov(params:Array Tmp){a a' t c:Array Value}(b:VA F ρ a a')(d:VA F ρ t c) :
 VA F ρ ((params.zip a).foldl (λtmps(t,a)=>tmps.setIfInBounds t a) t) ((params.zip a').foldl (λtmps(t,a)=>tmps.setIfInBounds t a) c):=by
 rw[<-c6,<-c6,c7,c7];have b:cU F ρ a.toList a'.toList:=b;generalize a.toList=l at b;generalize a'.toList=e at b;generalize params.toList=ps
 induction ps generalizing l e t c with
 |nil=>exact d
 |cons p ps f=>
  cases b with
  |nil=>exact d
  |cons h g=>exact f (VA.set d p h) _ _ g
def Ow(e:ρ.bw T.globals.size){l l':Nat}(h:ρ l l'){a a':Array Value}(d:VA F ρ a a'):av T fB fA F K (gT F K) ρ (b2 l a) (b2 l' a'):=by
 refine af e (jV e h) λσ c e r f b=>?_;have d:=b9 c d;rw[ca d,b.params];refine aN (λ_=>bz) λ_=>?_;rw[b.fn,b.assign,b.body];exact ah (.round (c h) _ (b.fn▸b.mI) (Ov _ d b.tmps) _ _ (b.assign▸b.CP) (b.body▸b.N6))
def bK{s s':Sem Value}(a:ρ.bw T.globals.size)(h:av T fB fA F K (RV F) ρ s s'):av T fB fA F K (gT F K) ρ (do pure (.value (<-s)):Sem Next) (do pure (.value (<-s')):Sem Next):=
 af a h λ_ _ _ _ _ hv=>ah (.value hv)
def vX{s s':Sem Unit}(a:ρ.bw T.globals.size)(h:av T fB fA F K fF ρ s s'):av T fB fA F K (gT F K) ρ (do s;pure .skip:Sem Next) (do s';pure .skip:Sem Next):=
 af a h λ_ _ _ _ _ _=>ah .skip
def C9(hF:si fB fA F)(l:Nat)(a:Array Value)(s':Sem Next):av T fB fA F K (gT F K) ρ (aI (cn+l) a) s':=by
 refine .inr ?_;show bW T fB (match fB[cn+l]? with|none=>stuck "call: no such function" | some fn=>_);rw[hF.1 l];trivial
def Ad{a:Type}{Z:ab->Bool}(b:dM T F Z)(g:TypeInfo->Sem a)(hg:∀i,i.methods.find? (·.name == "")=none->bW T fB (g i)):bW T fB (da (aF 0) g):=by
 show bW T fB (da (match T.info? 0 with|some i=>pure i|none=>stuck "no such type") g)
 cases hi:T.info? 0 with
 |none=>trivial
 |some i=>exact hg i (b.2 i hi)
def Da{Z:ab->Bool}(a:dM T F Z)(v:Value):bW T fB (aJ (T.types.size+Made.depth) 0 v ""):=by
 show bW T fB (aJ ((T.types.size+99)+1) 0 v "");unfold aJ;refine Ad a _ λi hi=>?_;simp only[hi];trivial
def Gj{Z:ab->Bool}(a:dM T F Z)(v:Value):bW T fB (aL (T.types.size+Made.depth) 0 v ""):=by
 show bW T fB (aL ((T.types.size+99)+1) 0 v "");unfold aL;refine Ad a _ λi hi=>?_;simp only[hi];trivial
def jE{Z:ab->Bool}(i:dM T F Z)(hF:si fB fA F)(j:ρ.bw T.globals.size){f f':Value}(hf:VR F ρ f f'){a a':Array Value}(k:VA F ρ a a') :
 av T fB fA F K (gT F K) ρ (do let d<-dU f a;aP d.target d.args) (do let d<-dU f' a';aP d.target d.args):=by
 cases hf with
 |func h l m=>
  have b:=ce l k
  cases h with
  |func g hg=>exact C8 hF hg (ce b m)
  |yield hl=>exact Ow j hl b
  |spec hl=>exact C9 hF _ _ _
 |wG n f c=>
  refine bW.rel ?_ _;have e:(#[Value.iface 0 .nilIface]++a)[0]?=some (.iface 0 .nilIface):=by rw[Array.getElem?_append_left (by simp)];rfl
  unfold dU;simp only[pure_bind];unfold aP;simp only[e];show bW T fB (da (aJ (T.types.size+Made.depth) 0 .nilIface "") _);exact bW.bind (Da i _)
 |nilFunc=>exact nY
 |_=>exact ak
end
def Bh(F:ad->Bool):Value->Bool
 |.bool _ | .int .. | .string _ | .pointer none | .slice none _ _ | .map none | .nilFunc | .nilIface=>true
 |.func (.func f) a b=>F f&&a.toList.isEmpty&&b.toList.isEmpty
 |_=>false
def pM(F:ad->Bool):Nat->Value->Bool
 |0,v=>Bh F v
 |n+1,v=>match v with
  |.agg a=>a.toList.all (pM F n)
  |.tuple a=>a.toList.all (pM F n)
  |.iface _ v=>pM F n v
  |v=>Bh F v
def cF(F:ad->Bool):aS->Bool
 |.tmp _=>true
 |.const v=>pM F 6 v
 |.global _=>false
 |.func f=>F f
def Gl(T:aa)(F:ad->Bool)(Z:ab->Bool)(c:Call):Bool:=
 c.args.toList.all (cF F)&&match c.callee with
  |.value f=>cF F f
  |.invoke ..=>false
  |.builtin .append=>
   (match c.argTypes[0]? with|none=>true|some s=>match tY T s with|some (.slice e)=>Z e|_=>true) &&
   (match c.argTypes[1]? with|none=>true|some s=>match tY T s with|some (.int _)=>false|_=>true)
  |.builtin .len | .builtin .max | .builtin .min=>true
  |.builtin _=>false
def Db(T:aa)(Z:ab->Bool)(t:ab):Bool:=match tY T t with|some (.map k e)=>og T 8 k&&Z e|_=>true
def Ya:ad:=22
def jh(T:aa)(F:ad->Bool)(Z:ab->Bool):Op->Bool
 |.move x | .assign x | .box _ x | .load _ x | .nilCheck x | .unOp _ _ x | .fieldAddr _ x _ | .field _ x _ | .range _ x | .next x _ | .entry x | .extract x _=>cF F x
 |.pick a b c=>cF F a&&cF F b&&cF F c
 |.alloc t=>Z t
 |.build t ps=>Z t&&ps.toList.all λp=>cF F p.2
 |.buildSlice t _ ps=>(match tY T t with|some (.slice e)=>Z e|_=>true)&&ps.toList.all λp=>cF F p.2
 |.store _ a b | .indexAddr _ a b | .index _ a b=>cF F a&&cF F b
 |.binOp op t a b _=>(cF F a&&cF F b)&&(!(op matches .eql | .neq) || !d8 ⟨T,#[]⟩ (d9 ⟨T,#[]⟩) t)
 |.convert s d x=>tZ T s&&tZ T d&&cF F x
 |.makeFunc (.func f) xs ys=>F f&&xs.toList.all (cF F)&&ys.toList.all (cF F)
 |.makeMap _ none=>true
 |.slice _ x l h m=>cF F x&&l.all (cF F)&&h.all (cF F)&&m.all (cF F)
 |.lookup t a b _=>Db T Z t&&cF F a&&cF F b
 |.mapUpdate t a b c | .insert t a b c=>F Ya&&(Db T Z t&&cF F a&&cF F b&&cF F c)
 |.call c=>Gl T F Z c
 |_=>false
section
variable {T:aa}{fB fA:Array Func}{F:ad->Bool}{K:Code->Bool}{ρ σ:Ren}
def cU.self{l:List Value}(h:∀v∈l,VR F ρ v v):cU F ρ l l:=by
 induction l with
 |nil=>exact .nil
 |cons v l a=>exact .cons (h v (by simp)) (a λu b=>h u (by simp[b]))
def xh{v:Value}(h:Bh F v=true):VR F ρ v v:=by
 cases v with
 |bool b=>exact .bool b
 |int k n=>exact .int k n
 |string s=>exact .string s
 |pointer a=>cases a with
  |none=>exact .dS
  |some _=>cases h
 |slice a _ _=>cases a with
  |none=>exact .di _ _
  |some _=>cases h
 |map a=>cases a with
  |none=>exact .qQ
  |some _=>cases h
 |nilFunc=>exact .nilFunc
 |nilIface=>exact .nilIface
 |func fn a b=>
  cases fn with
  |func f=>
   simp only[Bh,dp,List.isEmpty_iff]at h;exact .func (.func f h.1.1) (by rw[h.1.2];exact .nil) (by rw[h.2];exact .nil)
  |_=>cases h
 |_=>cases h
def uY(n:Nat):∀{v:Value},pM F n v=true->VR F ρ v v:=by
 induction n with
 |zero=>intro v h;exact xh h
 |succ n b=>
  intro v h
  cases v with
  |agg a=>exact .agg (cU.self λv hv=>b (List.all_eq_true.1 h v hv))
  |tuple a=>exact .tuple (cU.self λv hv=>b (List.all_eq_true.1 h v hv))
  |iface t v=>exact .iface t (b h)
  |_=>exact xh h
def lN(F:ad->Bool)(ρ:Ren)(e e':aS->Value):Prop:=∀x,cF F x=true->VR F ρ (e x) (e' x)
def dD{fr fr':Frame}(h:VA F ρ fr.tmps fr'.tmps):lN F ρ fr.eval fr'.eval:=by
 intro x a
 cases x with
 |tmp t=>exact cf h t VR.undef
 |const v=>exact uY 6 a
 |global g=>cases a
 |func f=>exact .func (.func f a) .nil .nil
def lN.list{e e':aS->Value}(h:lN F ρ e e'){l:List aS}(hl:l.all (cF F)=true):cU F ρ (l.map e) (l.map e'):=
 cU.map l λx a=>h x (List.all_eq_true.1 hl x a)
def lN.arr{e e':aS->Value}(h:lN F ρ e e'){l:Array aS}(hl:l.toList.all (cF F)=true):VA F ρ (l.map e) (l.map e'):=by
 show cU _ _ _ _;rw[cQ,cQ];exact h.list hl
def lN.opt{e e':aS->Value}(h:lN F ρ e e'){o:Option aS}(a:o.all (cF F)=true):lJ F ρ (o.map e) (o.map e'):=by
 cases o with
 |none=>exact .none
 |some x=>exact .some (h x (by simpa using a))
def lN.parts{e e':aS->Value}(h:lN F ρ e e'){l:Array (Nat×aS)}(hl:(l.toList.all λp=>cF F p.2)=true):kX F ρ (l.map fun(i,x)=>(i,e x)).toList (l.map fun(i,x)=>(i,e' x)).toList:=by
 rw[cQ,cQ];generalize l.toList=m at hl
 induction m with
 |nil=>exact .nil
 |cons p m a=>
  simp only[cl,dp]at hl;exact .cons p.1 (h _ hl.1) (a hl.2)
def TE{Z:ab->Bool}(i:dM T F Z)(hF:si fB fA F)(a:ρ.bw T.globals.size){e e':aS->Value}(j:lN F ρ e e')(c:Call)(t:ab)(ok:Gl T F Z c=true) :
 av T fB fA F K (gT F K) ρ (do let d<-aT e c t;aP d.target d.args) (do let d<-aT e' c t;aP d.target d.args):=by
 obtain⟨callee,args,argTypes⟩:=c;simp only[Gl,dp]at ok;obtain⟨g,ok⟩:=ok;have g:=j.arr g
 cases callee with
 |value f=>exact jE i hF a (j f ok) g
 |invoke _ _=>cases ok
 |builtin b=>
  cases b with
  |append=>
   simp only[dp]at ok;refine bK a (LH i a t (λs hs m h=>?_) (λs hs k l=>?_) g)
   ·have:=ok.1;rw[hs]at this;simp only[h]at this;exact this
   ·have:=ok.2;rw[hs]at this;simp only[l]at this;cases this
  |len=>exact bK a (X7 a argTypes t g)
  |max=>exact bK a (X8 a argTypes t g)
  |min=>exact bK a (X9 a argTypes t g)
  |_=>cases ok
def Dc:Op->Bool
 |.mapUpdate .. | .insert ..=>true
 |_=>false
def ug{Z:ab->Bool}(q:dM T F Z)(hF:si fB fA F)(g:ρ.bw T.globals.size){e e':aS->Value}(j:lN F ρ e e')(o:Oper)(ok:jh T F Z o.op=true)(w:Dc o.op=false) :
 av T fB fA F K (gT F K) ρ (a5 e o) (a5 e' o):=by
 obtain⟨dst,op,type,pos,after,guard⟩:=o;simp only at ok w;unfold a5
 cases op with
 |move x=>exact ah (.value (j x ok))
 |assign x=>exact ah (.value (j x ok))
 |pick c a b=>
  simp only[jh,dp]at ok;refine af g (tU (j c ok.1.1)) λσ u g b b' e=>ah (.value ?_);subst e;cases b
  ·exact(j _ ok.2).mono u
  ·exact(j _ ok.1.2).mono u
 |alloc t=>exact bK g (Oc q g ok)
 |box t x=>exact bK g (XY g t (j x ok))
 |build t ps=>
  simp only[jh,dp]at ok;exact bK g (Oe q g ok.1 (j.parts ok.2))
 |buildSlice t n ps=>
  simp only[jh,dp]at ok;exact bK g (zB q g (λD A=>by have:=ok.1;simp only[A]at this;exact this) n (j.parts ok.2))
 |load t a=>exact bK g (Lx g t (j a ok))
 |store t a x=>
  simp only[jh,dp]at ok;exact vX g (FR g t (j a ok.1) (j x ok.2))
 |nilCheck x=>
  have B:=j x ok;simp only;generalize e x=v at B;generalize e' x=v' at B
  cases B with
  |func hf E C=>cases hf<;>exact ah (.value (.func (by constructor<;>assumption) E C))
  |wG n f c=>
   refine bW.rel ?_ _;show bW T fB (da (aL (T.types.size+Made.depth) 0 .nilIface "") _);exact bW.bind (Gj q _)
  |hole v' h=>
   cases v' with
   |pointer p=>cases p with
    |none=>cases h
    |some _=>exact ah (.value (.hole _ h))
   |func fn _ _=>cases fn with
    |method _=>cases h
    |_=>exact ah (.value (.hole _ h))
   |agg _=>cases h
   |nilIface=>cases h
   |nilFunc=>cases h
   |_=>exact ah (.value (.hole _ h))
  |_=>first|exact nY|exact ah (.value (by first|exact .wG _ _ _|exact .dK _ _|(constructor<;>assumption)))
 |binOp op t x y I=>
  simp only[jh,dp]at ok;refine bK g (F6 g op t x y (j x ok.1.1) (j y ok.1.2) λh=>?_);have C:=ok.2;have H:d8 ⟨T,#[]⟩ (d9 ⟨T,#[]⟩) t=false:=by
   cases op<;>first|(simpa using C;done)|cases h
  rw[kJ T fB #[]];exact H
 |unOp op t x=>exact bK g (On (j x ok))
 |convert s d x=>
  simp only[jh,dp]at ok;exact bK g (F8 g ok.1.1 ok.1.2 (j x ok.2))
 |makeFunc fn xs ys=>
  cases fn with
  |func f=>
   simp only[jh,dp]at ok;exact bK g (ah (.func (.func f ok.1.1) (j.arr ok.1.2) (j.arr ok.2)))
  |_=>cases ok
 |makeMap t r=>
  cases r with
  |none=>exact bK g (Ga g t)
  |some _=>cases ok
 |slice t x l h m=>
  simp only[jh,dp]at ok;exact bK g (FZ g t (j x ok.1.1.1) (j.opt ok.1.1.2) (j.opt ok.1.2) (j.opt ok.2))
 |fieldAddr t x i=>exact bK g (FV g t (j x ok) i)
 |field t x i=>exact bK g (Of g t (j x ok) i)
 |indexAddr t x y=>
  simp only[jh,dp]at ok;exact bK g (FW g t (j x ok.1) (j y ok.2))
 |index t x y=>
  simp only[jh,dp]at ok;exact bK g (Og g t (j x ok.1) (j y ok.2))
 |lookup t x y b=>
  simp only[jh,dp]at ok;refine bK g (LD (m:=8) q g t (λk D h=>?_) (j x ok.1.2) (j y ok.2) b);have:=ok.1.1;simpa[Db,h]using this
 |mapUpdate t x y z=>cases w
 |insert t x y z=>cases w
 |range t x=>exact bK g (Oq g t (j x ok))
 |next x b=>exact bK g (Tz g (j x ok) b type)
 |entry x=>exact bK g (Ot g (j x ok))
 |extract x i=>exact bK g (FX (j x ok) i)
 |call c=>exact TE q hF g j c type ok
 |_=>cases ok
def xj(e:aS->Value)(o:Oper)(h:Dc o.op=true):∃t x y z,(o.op=.mapUpdate t x y z\/o.op=.insert t x y z)/\a5 e o=da (bv t (e x) (e y) (e z)) λ_=>.pure .skip:=by
 obtain⟨dst,op,type,pos,after,guard⟩:=o;simp only at h
 cases op with
 |mapUpdate t x y z=>exact⟨_,_,_,_,.inl rfl,rfl⟩
 |insert t x y z=>exact⟨_,_,_,_,.inr rfl,rfl⟩
 |_=>cases h
def Dd{Z:ab->Bool}{o:Op}{t:ab}{x y z:aS}(h:o=.mapUpdate t x y z\/o=.insert t x y z)(ok:jh T F Z o=true) :
 (∀k e,tY T t=some (.map k e)->og T 8 k=true)/\cF F x=true/\cF F y=true/\cF F z=true:=by
 have a:(Db T Z t&&cF F x&&cF F y&&cF F z)=true:=by rcases h with rfl|rfl<;>exact(Bool.and_eq_true_iff.1 ok).2
 simp only[dp]at a;refine⟨λk b h=>?_,a.1.1.2,a.1.2,a.2⟩;have:=a.1.1.1;simp[Db,h]at this;exact this.1
def acm{Z:ab->Bool}{o:Op}(a:F Ya=false)(ok:jh T F Z o=true):Dc o=false:=by
 cases o with
 |mapUpdate t x y z=>simp[jh,a]at ok
 |insert t x y z=>simp[jh,a]at ok
 |_=>rfl
def De{Z:ab->Bool}(s:dM T F Z)(hF:si fB fA F)(i:ρ.bw T.globals.size){w w':World}(q:WR T.globals.size F K ρ w w')(r:w.tape=w'.tape)(hd:w.drawn=w'.drawn){e e':aS->Value}(f:lN F ρ e e')(o:Oper)(ok:jh T F Z o.op=true)(g:Array Event) :
 qp T.globals.size F K (gT F K) ρ w w' g ((a5 e' o).runT ⟨T,fA⟩ w' g) ((a5 e o).run ⟨T,fB⟩ w):=by
 by_cases j:Dc o.op=true
 ·obtain⟨t,x,y,z,b,u⟩:=xj e o j;obtain⟨A,B,y',C,c,D⟩:=xj e' o j;obtain⟨rfl,rfl,rfl,rfl⟩:t=A/\x=B/\y=y'/\z=C:=by
   rcases b with b|b<;>rcases c with c|c<;>(rw[b]at c;cases c)<;>exact⟨rfl,rfl,rfl,rfl⟩
  obtain⟨k1,k2,k3,E⟩:=Dd b ok;rw[u,D,de,df];have h:=Ty (fB:=fB) (fA:=fA) (K:=K) i q r hd t k1 (f x k2) (f y k3) (f z E) g;generalize(bv t (e x) (e y) (e z)).run ⟨T,fB⟩ w=res at h
  match res,h with
  |.ok a w2,⟨l,H,m,n,p,d,e,k,I⟩=>rw[e];exact⟨l,.skip,m,n,p,d,rfl,k,.skip⟩
  |.halt (.panic v) w2,⟨l,v',m,n,p,d,e,k,hv⟩=>rw[e];exact⟨l,v',m,n,p,d,rfl,k,hv⟩
  |.halt .blocked _,h=>exact h
  |.halt .waiting _,h=>exact h
  |.halt (.exit _) _,h=>exact h
  |.halt (.fatal _) _,h=>exact h
  |.halt (.throw _) _,h=>exact h
  |.halt .goexit _,h=>exact h
  |.halt (.unsupported _) _,h=>exact h
  |.halt (.stuck _) _,_=>trivial
 ·exact(av.run g (ug s hF i f o ok (by simpa using j)) i q r hd).zu
end
def codeOk(T:aa)(F:ad->Bool)(Z:ab->Bool):Code->Bool
 |.skip | .exit _ | .label _ | .goto _ | .ret=>true
 |.region _ ops _=>ops.toList.all λo=>jh T F Z o.op
 |.seq a b=>codeOk T F Z a&&codeOk T F Z b
 |.cond c a b=>cF F c&&codeOk T F Z a&&codeOk T F Z b
 |.block _ b | .loop b | .scope b=>codeOk T F Z b
 |.rangeFunc f _ a b=>cF F f&&codeOk T F Z a&&codeOk T F Z b
 |.refuse _=>false
structure Bi(T:aa)(fB fA:Array Func)(F:ad->Bool)(Z:ab->Bool)(f:ad):Prop where
 ex:∃fn c,fB[f]?=some fn/\fA[f]?=some fn/\fn.body=some c/\codeOk T F Z c=true
section
variable (T:aa)(F:ad->Bool)(Z:ab->Bool)
inductive nF(ρ:Ren):Item->Item->Prop
 |code (c:Code) (h:codeOk T F Z c=true):nF ρ (.code c) (.code c)
 |inBlock (id:Nat):nF ρ (.inBlock id) (.inBlock id)
 |inLoop (c:Code) (h:codeOk T F Z c=true):nF ρ (.inLoop c) (.inLoop c)
 |inScope (c:Code) (h:codeOk T F Z c=true):nF ρ (.inScope c) (.inScope c)
 |inRegion (ops:Array Oper) (todo:List Nat) (h:(ops.toList.all λo=>jh T F Z o.op)=true):nF ρ (.inRegion ops todo) (.inRegion ops todo)
 |inRangeFunc {l l':Nat} (h:ρ l l'):nF ρ (.inRangeFunc l) (.inRangeFunc l')
 |endRangeFunc {l l':Nat} (h:ρ l l'):nF ρ (.endRangeFunc l) (.endRangeFunc l')
 |beginRound:nF ρ .beginRound .beginRound
inductive cN(ρ:Ren):List Item->List Item->Prop
 |nil:cN ρ [] []
 |cons {i i':Item} {l l':List Item} (h:nF T F Z ρ i i') (t:cN ρ l l'):cN ρ (i::l) (i'::l')
inductive fS(ρ:Ren):List a6->List a6->Prop
 |nil:fS ρ [] []
 |cons {r r':Nat} {l l':List a6} (h:ρ r r') (t:fS ρ l l'):fS ρ ({ target:=.collected r,args:=#[] }::l) ({ target:=.collected r',args:=#[] }::l')
inductive ji(ρ:Ren):List a7->List a7->Prop
 |nil:ji ρ [] []
 |cons {v v':Value} {l l':List a7} (h:VR F ρ v v') (t:ji ρ l l'):ji ρ ({ v,recovered:=false }::l) ({ v:=v',recovered:=false }::l')
inductive qE(ρ:Ren):a8->a8->Prop
 |run:qE ρ .run .run
 |returning:qE ρ .returning .returning
 |panicking {c c':List a7} (h:ji F ρ c c'):qE ρ (.panicking c) (.panicking c')
inductive om(ρ:Ren):Option Nat->Option Nat->Prop
 |none:om ρ none none
 |some {l l':Nat} (h:ρ l l'):om ρ (some l) (some l')
structure aQ(fB fA:Array Func)(ρ:Ren)(fr fr':Frame):Prop where
 fn:fr'.fn=fr.fn
 same:fr.roundOf=none->Bi T fB fA F Z fr.fn
 mI:F fr.fn=true
 tmps:VA F ρ fr.tmps fr'.tmps
 todo:cN T F Z ρ fr.todo fr'.todo
 defers:fS ρ fr.defers fr'.defers
 mode:qE F ρ fr.mode fr'.mode
 kind:fr.kind=.normal
 bX:fr'.kind=.normal
 roundOf:om ρ fr.roundOf fr'.roundOf
 ret:fr.mode=.returning->fr.roundOf=none
inductive cj(fB fA:Array Func)(ρ:Ren):List Frame->List Frame->Prop
 |nil:cj fB fA ρ [] []
 |cons {f f':Frame} {l l':List Frame} (h:aQ T F Z fB fA ρ f f') (t:cj fB fA ρ l l'):cj fB fA ρ (f::l) (f'::l')
end
section
variable {T:aa}{fB fA:Array Func}{F:ad->Bool}{Z:ab->Bool}{ρ σ:Ren}
def nF.mono(h:ρ.le σ){i b:Item}(x:nF T F Z ρ i b):nF T F Z σ i b:=by
 cases x with
 |code c a=>exact .code c a
 |inBlock id=>exact .inBlock id
 |inLoop c a=>exact .inLoop c a
 |inScope c a=>exact .inScope c a
 |inRegion ops todo a=>exact .inRegion ops todo a
 |inRangeFunc a=>exact .inRangeFunc (h a)
 |endRangeFunc a=>exact .endRangeFunc (h a)
 |beginRound=>exact .beginRound
def cN.mono(h:ρ.le σ){l l':List Item}(x:cN T F Z ρ l l'):cN T F Z σ l l':=by
 induction x with
 |nil=>exact .nil
 |cons a _ b=>exact .cons (a.mono h) b
def cN.append{l l' m m':List Item}(x:cN T F Z ρ l l')(y:cN T F Z ρ m m'):cN T F Z ρ (l++m) (l'++m'):=by
 induction x with
 |nil=>exact y
 |cons a _ b=>exact .cons a b
def fS.mono(h:ρ.le σ){l l':List a6}(x:fS ρ l l'):fS σ l l':=by
 induction x with
 |nil=>exact .nil
 |cons a _ b=>exact .cons (h a) b
def fS.append{l l' m m':List a6}(x:fS ρ l l')(y:fS ρ m m'):fS ρ (l++m) (l'++m'):=by
 induction x with
 |nil=>exact y
 |cons a _ b=>exact .cons a b
def ji.mono(h:ρ.le σ){l l':List a7}(x:ji F ρ l l'):ji F σ l l':=by
 induction x with
 |nil=>exact .nil
 |cons a _ b=>exact .cons (a.mono h) b
def ji.append{l l' m m':List a7}(x:ji F ρ l l')(y:ji F ρ m m'):ji F ρ (l++m) (l'++m'):=by
 induction x with
 |nil=>exact y
 |cons a _ b=>exact .cons a b
def qE.mono(h:ρ.le σ){m m':a8}(x:qE F ρ m m'):qE F σ m m':=by
 cases x with
 |run=>exact .run
 |returning=>exact .returning
 |panicking a=>exact .panicking (a.mono h)
def om.mono(h:ρ.le σ){m m':Option Nat}(x:om ρ m m'):om σ m m':=by
 cases x with
 |none=>exact .none
 |some a=>exact .some (h a)
def aQ.mono(h:ρ.le σ){f f':Frame}(x:aQ T F Z fB fA ρ f f'):aQ T F Z fB fA σ f f':=
 ⟨x.fn,x.same,x.mI,cU.mono h x.tmps,x.todo.mono h,x.defers.mono h,x.mode.mono h,x.kind,x.bX,x.roundOf.mono h,x.ret⟩
def cj.mono(h:ρ.le σ){l l':List Frame}(x:cj T F Z fB fA ρ l l'):cj T F Z fB fA σ l l':=by
 induction x with
 |nil=>exact .nil
 |cons a _ b=>exact .cons (a.mono h) b
def aQ.oper?{f f':Frame}(x:aQ T F Z fB fA ρ f f'):f'.oper? = f.oper?:=by
 unfold eb;have a:=x.todo;generalize f.todo=l at a;generalize f'.todo=b at a
 cases a with
 |nil=>rfl
 |cons h t=>
  cases h with
  |inRegion ops todo _=>cases todo<;>rfl
  |_=>rfl
def aQ.finish{f f':Frame}(x:aQ T F Z fB fA ρ f f'){v v':Value}(hv:VR F ρ v v'):aQ T F Z fB fA ρ (f.finish v) (f'.finish v'):=by
 obtain⟨fn,tmps,todo,defers,mode,kind,w⟩:=f;obtain⟨y,n,z,A,B,bX,C⟩:=f';obtain⟨o,b,e,a,p,g,j,q,r,k,l⟩:=x;simp only at o b e a p g j q r k l;subst o q r
 cases p with
 |nil=>exact⟨rfl,b,e,a,.nil,g,j,rfl,rfl,k,l⟩
 |cons h t=>
  cases h with
  |inRegion ops u s=>
   cases u with
   |nil=>exact⟨rfl,b,e,a,.cons (.inRegion ops [] s) t,g,j,rfl,rfl,k,l⟩
   |cons i m=>
    refine⟨rfl,b,e,?_,.cons (.inRegion ops m s) t,g,j,rfl,rfl,k,l⟩;show VA F ρ (match(ops[i]?).bind (·.dst) with|some d=>tmps.setIfInBounds d v|none=>tmps) (match(ops[i]?).bind (·.dst) with|some d=>n.setIfInBounds d v'|none=>n)
    cases(ops[i]?).bind (·.dst) with
    |none=>exact a
    |some d=>exact VA.set a d hv
  |inRangeFunc hl=>exact⟨rfl,b,e,a,.cons (.endRangeFunc hl) t,g,j,rfl,rfl,k,l⟩
  |beginRound=>exact⟨rfl,b,e,a,t,g,j,rfl,rfl,k,l⟩
  |code c hc=>exact⟨rfl,b,e,a,.cons (.code c hc) t,g,j,rfl,rfl,k,l⟩
  |inBlock id=>exact⟨rfl,b,e,a,.cons (.inBlock id) t,g,j,rfl,rfl,k,l⟩
  |inLoop c hc=>exact⟨rfl,b,e,a,.cons (.inLoop c hc) t,g,j,rfl,rfl,k,l⟩
  |inScope c hc=>exact⟨rfl,b,e,a,.cons (.inScope c hc) t,g,j,rfl,rfl,k,l⟩
  |endRangeFunc hl=>exact⟨rfl,b,e,a,.cons (.endRangeFunc hl) t,g,j,rfl,rfl,k,l⟩
def aQ.raise{f f':Frame}(x:aQ T F Z fB fA ρ f f'){c c':List a7}(hc:ji F ρ c c'):aQ T F Z fB fA ρ (f.raise c) (f'.raise c'):=by
 obtain⟨fn,tmps,todo,defers,mode,kind,p⟩:=f;obtain⟨q,r,s,t,u,bX,v⟩:=f';obtain⟨a,b,d,g,i,j,n,k,l,m,o⟩:=x;simp only at a b d g i j n k l m o
 cases n with
 |run=>exact⟨a,b,d,g,i,j,.panicking hc,k,l,m,λe=>by cases e⟩
 |returning=>exact⟨a,b,d,g,i,j,.panicking hc,k,l,m,λe=>by cases e⟩
 |panicking h=>exact⟨a,b,d,g,i,j,.panicking (hc.append h),k,l,m,λe=>by cases e⟩
def aQ.lO{f f':Frame}(x:aQ T F Z fB fA ρ f f'){t a:List Item}(h:cN T F Z ρ t a):aQ T F Z fB fA ρ { f with todo:=t } { f' with todo:=a }:=
 ⟨x.fn,x.same,x.mI,x.tmps,h,x.defers,x.mode,x.kind,x.bX,x.roundOf,x.ret⟩
def xo(id:Nat){l l':List Item}(h:cN T F Z ρ l l'):(a9 id l=none/\a9 id l'=none)\/∃k k',a9 id l=some k/\a9 id l'=some k'/\cN T F Z ρ k k':=by
 induction h with
 |nil=>exact .inl ⟨rfl,rfl⟩
 |cons h t a=>
  cases h with
  |inBlock b=>
   simp only[a9]
   split
   ·exact .inr ⟨_,_,rfl,rfl,t⟩
   ·exact a
  |_=>exact a
def Bj(l:Nat):∀{c r:Code},codeOk T F Z c=true->ba c l=some r->codeOk T F Z r=true:=by
 intro c
 induction c with
 |seq a b d e=>
  intro r hc h;simp only[codeOk,dp]at hc;simp only[ba]at h
  split at h
  ·rename_i f g;cases h;simp only[codeOk,dp];exact⟨d hc.1 g,hc.2⟩
  ·exact e hc.2 h
 |label i=>
  intro r hc h;simp only[ba]at h
  split at h
  ·cases h;rfl
  ·cases h
 |_=>intro r hc h;simp[ba]at h
def xq(id:Nat){l l':List Item}(h:cN T F Z ρ l l'):(bb id l=none/\bb id l'=none)\/∃k k',bb id l=some k/\bb id l'=some k'/\cN T F Z ρ k k':=by
 induction h with
 |nil=>exact .inl ⟨rfl,rfl⟩
 |cons h t a=>
  cases h with
  |inScope c hc=>
   simp only[bb]
   split
   ·rename_i b d;exact .inr ⟨_,_,rfl,rfl,.cons (.code _ (Bj id hc d)) (.cons (.inScope c hc) t)⟩
   ·exact a
  |_=>exact a
def oo(ops:Array Oper){t c:Array Value}(h:VA F ρ t c)(j:Nat):bc ops t j=bc ops c j:=by
 unfold bc
 cases(ops[j]?).bind (·.dst) with
 |none=>rfl
 |some d=>
  rcases cd h d with⟨a,b⟩|⟨v,v',a,b,hv⟩
  ·simp[a,b]
  ·simp only[dl,a,b]
   cases hv with
   |hole v' h=>cases v'<;>first|rfl|cases h
   |_=>rfl
def fe{f:ad}(hs:Bi T fB fA F Z f)(hf:F f=true){a a':Array Value}(h:VA F ρ a a'):aQ T F Z fB fA ρ (ec ⟨T,fB⟩ f a .normal) (ec ⟨T,fA⟩ f a' .normal):=by
 obtain⟨fn,c,b,d,g,i⟩:=hs.ex;refine⟨rfl,λ_=>hs,hf,?_,?_,.nil,.run,rfl,rfl,.none,λe=>by cases e⟩
 ·show VA F ρ (a++c8 ((fB[f]?.map (·.ntmps)).getD 0-a.size) undef) (a'++c8 ((fA[f]?.map (·.ntmps)).getD 0-a'.size) undef);rw[b,d,ca h];exact ce h (VA.replicate .undef _)
 ·show cN T F Z ρ [.code ((fB[f]?.bind (·.body)).getD _)] [.code ((fA[f]?.bind (·.body)).getD _)];rw[b,d];simp only[dl,g,Option.getD_some];exact .cons (.code _ i) .nil
end
section
variable (T:aa)(fB fA:Array Func)(F X:ad->Bool)(Z:ab->Bool)(bot:Frame)
inductive Gm(ρ:Ren):Frame->Frame->Prop
 |alike {f f':Frame} (h:aQ T F Z fB fA ρ f f'):Gm ρ f f'
 |enters (x:ad) (hx:X x=true) (hf:F x=true) {a a':Array Value} (h:VA F ρ a a'):Gm ρ (ec ⟨T,fB⟩ x a .normal) (ec ⟨T,fA⟩ x a' .normal)
def dn(l:List Frame):Prop:=∀f,l.getLast? = some f->f.roundOf=none
structure GR(ρ:Ren)(g g':Goroutine):Prop where
 top:Gm T fB fA F X Z ρ g.frame g'.frame
 callers:∃l,g.callers=l++[bot]/\cj T F Z fB fA ρ l g'.callers/\dn (g.frame::l)/\(l=[]->aQ T F Z fB fA ρ g.frame g'.frame)
 st:g.status=.running
 st':g'.status=.running
 dy:g.dying=none
 Bl:g'.dying=none
 of:g.offers=none
 Bm:g'.offers=none
def ef(ρ:Ren)(w w':World):GStep->GStep->Prop
 |.go f w1 _,g=>∃a b c e h d,g=.go b c e/\cE T.globals.size F (codeOk T F Z) ρ w w' a (w1.re h d) c e/\GR T fB fA F X Z bot a f b
 |.ended ..,_=>True
 |_,_=>False
structure Fits:Prop where
 zero:dM T F Z
 fns:si fB fA F
 same:∀f,F f=true->X f=false->Bi T fB fA F Z f
structure Wd(ρ:Ren)(w w':World):Prop where
 inj:ρ.bw T.globals.size
 wr:WR T.globals.size F (codeOk T F Z) ρ w w'
 tape:w.tape=w'.tape
 drawn:w.drawn=w'.drawn
end
section
variable {T:aa}{fB fA:Array Func}{F X:ad->Bool}{Z:ab->Bool}{bot:Frame}{ρ σ:Ren}{w w':World}
def cE.wd{a:Ren}{w1 b:World}{es:Array Event}(h:cE T.globals.size F (codeOk T F Z) ρ w w' a w1 b es):Wd T F Z a w1 b:=⟨h.inj,h.wr,h.tape,h.drawn⟩
def Wd.refl(h:Wd T F Z ρ w w'):cE T.globals.size F (codeOk T F Z) ρ w w' ρ w w' #[]:=cE.refl h.inj h.wr h.tape h.drawn
def cE.less{a:Ren}{w1 b:World}{es c:Array Event}(h:cE T.globals.size F (codeOk T F Z) ρ w w' a w1 b es)(k:∀e∈c,e∈es):cE T.globals.size F (codeOk T F Z) ρ w w' a w1 b c:=
 { h with ev:=λe d=>h.ev e (k e d) }
def dn.push{f:Frame}{l:List Frame}(h:dn (f::l))(g:Frame):dn (g::f::l):=λx a=>h x (by simpa using a)
def dn.top{f g:Frame}{l:List Frame}(h:dn (f::l))(e:g.roundOf=f.roundOf):dn (g::l):=by
 cases l with
 |nil=>intro x b;simp at b;subst b;exact e.trans (h f rfl)
 |cons a l=>exact λx b=>h x (by simpa using b)
def dn.pop{f g:Frame}{l:List Frame}(h:dn (f::g::l)):dn (g::l):=λx a=>h x (by simpa using a)
def bZ(f:Frame)(v:Value):(f.finish v).roundOf=f.roundOf:=by
 unfold Frame.finish
 split<;>rfl
def eC(f:Frame)(c:List a7):(f.raise c).roundOf=f.roundOf:=by
 unfold ed
 split<;>rfl
def ef.comp{b:Ren}{w1 c:World}{new es a:Array Event}{s s':GStep}(f:cE T.globals.size F (codeOk T F Z) ρ w w' b w1 c new)(h:ef T fB fA F X Z bot b w1 c s s')(g:∀e∈a,e∈new) :
 ef T fB fA F X Z bot ρ w w' (ei es s) (ei a s'):=by
 cases s with
 |go p w2 q=>
  obtain⟨i,j,l,m,n,d,e,k,o⟩:=h;subst e;exact⟨i,j,l,a++m,n,d,rfl,(f.less g).trans k,o⟩
 |ended _ _ _=>trivial
 |_=>exact h.elim
def Bo{ops:Array Oper}(h:(ops.toList.all λo=>jh T F Z o.op)=true){i:Nat}{o:Oper}(a:ops[i]?=some o):jh T F Z o.op=true:=by
 rw[cg]at h;exact h o (Array.mem_toList_iff.2 (Array.mem_of_getElem? a))
def Ae(fit:Fits T fB fA F X Z)(N:Wd T F Z ρ w w'){fr fr':Frame}{cs cs':List Frame}(n:aQ T F Z fB fA ρ fr fr')(hcs:cj T F Z fB fA ρ cs cs')(hb:dn (fr::cs))
 {s s':Sem Next} (p:qp T.globals.size F (codeOk T F Z) (gT F (codeOk T F Z)) ρ w w' #[] (s'.runT ⟨T,fA⟩ w' #[]) (s.run ⟨T,fB⟩ w)) :
 ef T fB fA F X Z bot ρ w w' (ej ⟨T,fB⟩ true fr (cs++[bot]) none s w) (ej ⟨T,fA⟩ true fr' cs' none s' w'):=by
 have z:(s.runT ⟨T,fB⟩ w #[]).1=s.run ⟨T,fB⟩ w:=dj _ _ _ _;have B:(fr'.kind == .early)=false:=by rw[n.bX];rfl
 generalize H:s.runT ⟨T,fB⟩ w #[]=I at z;obtain⟨r,es⟩:=I;simp only at z;rw[<-z]at p;unfold ej;simp only[if_true,H]
 cases r with
 |ok a w1=>
  obtain⟨b,C,D,new,i,d,e1,c,J⟩:=p;rw[e1];simp only[B,dt,if_false];have o:=n.mono c.le;have q:=hcs.mono c.le;have x:∀O:Array Event,cE T.globals.size F (codeOk T F Z) ρ w w' b (w1.re i d) D (seen ⟨T,fA⟩ fr'.fn (#[]++new) ++ #[]):=λ_=>c.less λe A=>by
   have:=em (by simpa using A:e∈seen ⟨T,fA⟩ fr'.fn new);exact this
  cases J with
  |value hv=>exact⟨b,_,_,_,i,d,rfl,x #[],.alike (o.finish hv),⟨_,rfl,q,hb.top (bZ _ _),λ_=>o.finish hv⟩,rfl,rfl,rfl,rfl,rfl,rfl⟩
  |skip=>exact⟨b,_,_,_,i,d,rfl,x #[],.alike (o.finish .undef),⟨_,rfl,q,hb.top (bZ _ _),λ_=>o.finish .undef⟩,rfl,rfl,rfl,rfl,rfl,rfl⟩
  |@enter f hf a C y=>
   refine⟨b,_,_,_,i,d,rfl,x #[],?_,⟨fr::cs,rfl,.cons o q,hb.push _,(λe=>by cases e)⟩,rfl,rfl,rfl,rfl,rfl,rfl⟩;have top:∀k k':bd,k=.normal->k'=.normal->Gm T fB fA F X Z b (ec ⟨T,fB⟩ f a k) (ec ⟨T,fA⟩ f C k'):=by
    rintro k k' rfl rfl
    cases E:X f with
    |true=>exact .enters f E hf y
    |false=>exact .alike (fe (fit.same f hf E) hf y)
   refine top _ _ ?_ ?_
   ·have j:=n.todo;generalize fr.todo=l at j ⊢;generalize fr'.todo=K at j ⊢
    cases j with
    |nil=>rfl
    |cons h t=>cases h<;>rfl
   ·have j:=n.todo;generalize fr.todo=l at j ⊢;generalize fr'.todo=K at j ⊢
    cases j with
    |nil=>rfl
    |cons h t=>cases h<;>rfl
  |round hl f hf y assign body L M=>
   refine⟨b,_,_,_,i,d,rfl,x #[],.alike ?_,⟨fr::cs,rfl,.cons o q,hb.push _,(λe=>by cases e)⟩,rfl,rfl,rfl,rfl,rfl,rfl⟩;exact⟨rfl,(λe=>by cases e),hf,y,.cons (.code _ L) (.cons .beginRound (.cons (.code _ M) .nil)),.nil,.run,rfl,rfl,.some hl,(λe=>by cases e)⟩
 |halt h w1=>
  cases h with
  |panic v=>
   obtain⟨b,v',D,new,i,d,e1,c,hv⟩:=p;rw[e1];simp only[B,dt,if_false];refine⟨b,_,_,_,i,d,rfl,c.less λe A=>?_,.alike ((n.mono c.le).raise (.cons hv .nil)),⟨_,rfl,hcs.mono c.le,hb.top (eC _ _),λ_=>(n.mono c.le).raise (.cons hv .nil)⟩,rfl,rfl,rfl,rfl,rfl,rfl⟩;exact em (by simpa using A:e∈seen ⟨T,fA⟩ fr'.fn new)
  |stuck m=>trivial
  |unsupported u=>
   cases u with
   |initOrder g=>exact absurd p (by simp[qp,dw])
   |_=>trivial
  |_=>exact p.elim
def Af(fit:Fits T fB fA F X Z)(a:Wd T F Z ρ w w'){fr fr':Frame}{cs cs':List Frame}(b:aQ T F Z fB fA ρ fr fr')(hcs:cj T F Z fB fA ρ cs cs')(hb:dn (fr::cs))
 {s s':Sem Next} (hs:av T fB fA F (codeOk T F Z) (gT F (codeOk T F Z)) ρ s s') :
 ef T fB fA F X Z bot ρ w w' (ej ⟨T,fB⟩ true fr (cs++[bot]) none s w) (ej ⟨T,fA⟩ true fr' cs' none s' w'):=
 Ae fit a b hcs hb (av.run #[] hs a.inj a.wr a.tape a.drawn).zu
def lg(a:ρ.bw T.globals.size){l l':Nat}(h:ρ l l'):av T fB fA F (codeOk T F Z) fF ρ (b3 l) (b3 l'):=by
 refine af a (jV a h) λσ b a r d c=>?_;refine af a (dV (b h) (.loop { c with state:=rfl })) λe b a _ _ _=>?_;rw[<-c.state]
 cases r.state with
 |ready=>exact ah rfl
 |done=>exact cX _
 |busy=>exact cX _
 |exhausted=>exact cX _
def oq(a:ρ.bw T.globals.size){l l':Nat}(h:ρ l l')(j:Option Code)(d:∀c,j=some c->codeOk T F Z c=true):av T fB fA F (codeOk T F Z) (RV F) ρ (b4 l j) (b4 l' j):=by
 refine af a (jV a h) λσ b a r f e=>?_;refine af a (dV (b h) (.loop { e with state:=rfl,pending:=rfl,FN:=d })) λg b a _ _ _=>?_;exact ah (.bool _)
def qW(a:ρ.bw T.globals.size){l l':Nat}(h:ρ l l'):av T fB fA F (codeOk T F Z) (λ_ j e=>j=e/\∀c,j=some c->codeOk T F Z c=true) ρ (b5 l) (b5 l'):=by
 refine af a (jV a h) λσ b a r f d=>?_;rw[<-d.state];refine aN (λ_=>?_) λ_=>?_
 ·exact af (RA:=λ_ _ _=>False) a (cX _) λ_ _ _ _ _ h=>h.elim
 ·refine af a (dV (b h) (.loop { d with state:=rfl })) λg b a _ _ _=>?_;exact ah ⟨d.pending,d.FN⟩
def mO(f:ρ.bw T.globals.size)(fn:ad)(hf:F fn=true){t k:Array Value}(n:VA F ρ t k)(ps:Array Tmp)(a b:Code)(o:codeOk T F Z a=true)(hb:codeOk T F Z b=true){r j:Option Nat}(g:om ρ r j) :
 av T fB fA F (codeOk T F Z) (λσ x i=>σ x.1 i.1/\fS σ x.2 i.2) ρ (b6 fn t ps a b r) (b6 fn k ps a b j):=by
 unfold b6;have fin:∀(σ:Ren),σ.bw T.globals.size->ρ.le σ->∀(d l:Nat)(m m':List a6),σ d l->fS σ m m'->
  av T fB fA F (codeOk T F Z) (λσ x i=>σ x.1 i.1/\fS σ x.2 i.2) σ (do pure (<-aw (.loop { state:=.ready,pending:=none,fn,tmps:=t,params:=ps,assign:=a,body:=b,defers:=d }),m):Sem (Nat×List a6))
   (do pure (<-aw (.loop { state:=.ready,pending:=none,fn,tmps:=k,params:=ps,assign:=a,body:=b,defers:=l }),m'):Sem (Nat×List a6)):=by
  intro σ f c d l m m' hd p;refine af f (jO (.loop ⟨rfl,rfl,(λ_ e=>by cases e),rfl,hf,b9 c n,rfl,rfl,o,rfl,hb,hd⟩)) λs c f x i q=>ah ⟨q,p.mono c⟩
 cases g with
 |some h=>
  refine af f (jV f h) λσ c f r j g=>?_;exact fin σ f c _ _ _ _ g.defers .nil
 |none=>
  refine af f (jO .deferred) λσ c f r j g=>?_;exact fin σ f c _ _ _ _ g (.cons g .nil)
def jj(a:ρ.bw T.globals.size){r c:Nat}(h:ρ r c):av T fB fA F (codeOk T F Z) (λ_ l l'=>l=[]/\l'=[]) ρ (b8 r) (b8 c):=by
 refine af a (dA h) λσ b a o e d=>?_
 cases d with
 |deferred=>exact af a (dV (b h) .nW) λ_ _ _ _ _ _=>ah ⟨rfl,rfl⟩
 |_=>exact ak
def Br{tmps d:Array Value}:∀(l:List ResultVar){ρ:Ren},ρ.bw T.globals.size->VA F ρ tmps d->av T fB fA F (codeOk T F Z) (λσ x e=>cU F σ x e) ρ
 (l.mapM fun | .tmp t=>pure (tmps.getD t undef) | .cell a t=>do loadVar t (<-asAddr (tmps.getD a undef)))
 (l.mapM fun | .tmp t=>pure (d.getD t undef) | .cell a t=>do loadVar t (<-asAddr (d.getD a undef))):=by
 intro l
 induction l with
 |nil=>intro ρ b h;exact ah .nil
 |cons x l f=>
  intro ρ b h;rw[co,co];refine af (RA:=RV F) b ?_ λσ c b v v' hv=>?_
  ·cases x with
   |tmp t=>exact ah (cf h t .undef)
   |cell a t=>exact af b (z7 (cf h a .undef)) λσ c b a j g=>wN b t g
  ·refine af b (f b (b9 c h)) λk c b vs m i=>ah (.cons (hv.mono c) i)
def mP(b:ρ.bw T.globals.size)(fn:Func){tmps i:Array Value}(h:VA F ρ tmps i):av T fB fA F (codeOk T F Z) (RV F) ρ (bg fn tmps) (bg fn i):=by
 unfold bg;rw[c9,c9];refine af (RA:=λσ(x k:Array Value)=>VA F σ x k) b (af b (Br fn.results.toList b h) λσ f b vs a c=>ah c) λσ f b vs a c=>?_;refine ah ?_;have hs:=ca c;by_cases e:vs.size=1
 ·have g:a.size=1:=hs▸e;show VR F σ (if h:vs.size=1 then vs[0] else _) (if h:a.size=1 then a[0] else _);rw[dif_pos e,dif_pos g]
  rcases cd c 0 with⟨d,_⟩|⟨v,v',d,j,hv⟩
  ·rw[c5 (by omega)]at d;cases d
  ·rw[c5 (by omega)]at d j;cases d;cases j;exact hv
 ·have g:a.size≠1:=hs▸e;show VR F σ (if h:vs.size=1 then vs[0] else _) (if h:a.size=1 then a[0] else _);rw[dif_neg e,dif_neg g];exact .tuple c
def mQ(b:Wd T F Z ρ w w'){fr fr':Frame}{cs cs':List Frame}(a:aQ T F Z fB fA ρ fr fr')(hcs:cj T F Z fB fA ρ cs cs')(hb:dn (fr::cs)) :
 ef T fB fA F X Z bot ρ w w' (.go { frame:=fr,callers:=cs++[bot],status:=.running,dying:=none } w) (.go { frame:=fr',callers:=cs',status:=.running,dying:=none } w'):=
 ⟨ρ,_,_,_,w.tape,w.drawn,rfl,b.refl,.alike a,⟨cs,rfl,hcs,hb,λ_=>a⟩,rfl,rfl,rfl,rfl,rfl,rfl⟩
def sj(b:Wd T F Z ρ w w'){fr fr':Frame}{cs cs':List Frame}(a:aQ T F Z fB fA ρ fr fr')(hcs:cj T F Z fB fA ρ cs cs')(hb:dn (fr::cs))(c:cs≠[]){v v':Value}(hv:VR F ρ v v') :
 ef T fB fA F X Z bot ρ w w' (bi (ea T fB) true fr (cs++[bot]) none v w) (bi (ea T fA) true fr' cs' none v' w'):=by
 cases hcs with
 |nil=>exact absurd rfl c
 |@cons f d l e h t=>
  show(ef T fB fA F X Z bot) ρ w w' (bi (ea T fB) true fr (f::(l++[bot])) none v w) _;simp only[bi,a.kind,a.bX];exact mQ b (h.finish hv) t (hb.pop.top (bZ _ _))
def sk{i j:Type}{RA:Ren->i->j->Prop}(k:Wd T F Z ρ w w'){s:Sem i}{s':Sem j}(hs:av T fB fA F (codeOk T F Z) RA ρ s s'){f:Result i->GStep}{f':Result j->GStep}(fn p:ad)
 (q:∀(b:Ren)(a:i)(a':j)(w1 c:World)(new:Array Event),cE T.globals.size F (codeOk T F Z) ρ w w' b w1 c new->RA b a a'->ef T fB fA F X Z bot b w1 c (f (.ok a w1)) (f' (.ok a' c)))
 (t:∀(b:Ren)(v v':Value)(w1 c:World)(new:Array Event),cE T.globals.size F (codeOk T F Z) ρ w w' b w1 c new->VR F b v v'->ef T fB fA F X Z bot b w1 c (f (.halt (.panic v) w1)) (f' (.halt (.panic v') c)))
 (d:∀m w1,∃o w2 es,f (.halt (.stuck m) w1)=.ended o w2 es) (x:∀u w1,dw u=true->∃o w2 es,f (.halt (.unsupported u) w1)=.ended o w2 es) :
 ef T fB fA F X Z bot ρ w w' (ei (seen (ea T fB) fn (s.runT (ea T fB) w #[]).2) (f (s.runT (ea T fB) w #[]).1)) (ei (seen (ea T fA) p (s'.runT (ea T fA) w' #[]).2) (f' (s'.runT (ea T fA) w' #[]).1)):=by
 have g:=av.run #[] hs k.inj k.wr k.tape k.drawn;rw[dj];generalize s.run (ea T fB) w=r at g
 cases r with
 |ok a w1=>
  obtain⟨b,a',c,new,e1,d,l⟩:=g;rw[e1];exact ef.comp d (q b a a' w1 c new d l) λe n=>by simpa using em n
 |halt h w1=>
  cases h with
  |panic v=>
   obtain⟨b,v',c,new,e1,d,l⟩:=g;rw[e1];exact ef.comp d (t b v v' w1 c new d l) λe n=>by simpa using em n
  |stuck m=>
   obtain⟨o,w2,es,e⟩:=d m w1;rw[e];trivial
  |unsupported u=>
   obtain⟨o,w2,es,e⟩:=x u w1 g;rw[e];trivial
  |_=>exact g.elim
def mR(p:ar)(main:Bool)(fr:Frame)(callers:List Frame)(dying:Option Dying)(w:World)(jump:Option Code):GStep:=
 match fr.roundOf with
 |none=>if jump matches none|some .ret then .go { frame:={ fr with mode:=.returning },callers,status:=.running,dying } w else .ended (.stuck "exit, goto: no such block or label" (fr.pos p)) w
 |some l=>
  let(r,es):=(b4 l jump).runT p w #[]
  ei (seen p fr.fn es) <| match r with
  |.ok v w=>bi p main fr callers dying v w
  |.halt _ w=>.ended (.stuck "range over a function: no such loop" (fr.pos p)) w
def sn:Option Code->Bool
 |none|some .ret=>true
 |_=>false
def iW{p:ar}{main:Bool}{fr:Frame}{callers:List Frame}{dying:Option Dying}{w:World}{jump:Option Code}(h:fr.roundOf=none) :
 mR p main fr callers dying w jump=if sn jump then .go { frame:={ fr with mode:=.returning },callers,status:=.running,dying } w else .ended (.stuck "exit, goto: no such block or label" (fr.pos p)) w:=by
 unfold mR;have e:(jump matches none|some .ret)=sn jump:=by
  cases jump with
  |none=>rfl
  |some c=>cases c<;>rfl
 split
 ·rw[e]
 ·rename_i l hl;rw[h]at hl;cases hl
def iX{p:ar}{main:Bool}{fr:Frame}{callers:List Frame}{dying:Option Dying}{w:World}{jump:Option Code}{l:Nat}(h:fr.roundOf=some l) :
 mR p main fr callers dying w jump=ei (seen p fr.fn ((b4 l jump).runT p w #[]).2) (match((b4 l jump).runT p w #[]).1 with
 |.ok v w=>bi p main fr callers dying v w
 |.halt _ w=>.ended (.stuck "range over a function: no such loop" (fr.pos p)) w):=by
 unfold mR
 split
 ·rename_i hl;rw[h]at hl;cases hl
 ·rename_i a hl;rw[h]at hl;cases hl;rfl
def jP{r a:Option Nat}(h:om ρ r a):(r=none/\a=none)\/∃l l',r=some l/\a=some l'/\ρ l l':=by
 cases h with
 |none=>exact .inl ⟨rfl,rfl⟩
 |some h=>exact .inr ⟨_,_,rfl,rfl,h⟩
def aQ.returning{fr fr':Frame}(x:aQ T F Z fB fA ρ fr fr')(h:fr.roundOf=none):aQ T F Z fB fA ρ { fr with mode:=.returning } { fr' with mode:=.returning }:=
 ⟨x.fn,x.same,x.mI,x.tmps,x.todo,x.defers,.returning,x.kind,x.bX,x.roundOf,λ_=>h⟩
def LI(b:Wd T F Z ρ w w'){fr fr':Frame}{cs cs':List Frame}(d:aQ T F Z fB fA ρ fr fr')(hcs:cj T F Z fB fA ρ cs cs')(hb:dn (fr::cs))(j:Option Code)(h:∀c,j=some c->codeOk T F Z c=true) :
 ef T fB fA F X Z bot ρ w w' (mR (ea T fB) true fr (cs++[bot]) none w j) (mR (ea T fA) true fr' cs' none w' j):=by
 rcases jP d.roundOf with⟨e1,e⟩|⟨l,k,e1,e,hl⟩
 ·rw[iW e1,iW e]
  cases sn j with
  |false=>trivial
  |true=>exact mQ b (d.returning e1) hcs (hb.top rfl)
 ·rw[iX e1,iX e];have i:cs≠[]:=by
   rintro rfl;have:=hb fr rfl;rw[e1]at this;cases this
  exact sk b (oq b.inj hl j h) (f:=λr=>match r with | .ok v w=>bi (ea T fB) true fr (cs++[bot]) none v w | .halt _ w=>.ended (.stuck "range over a function: no such loop" (fr.pos (ea T fB))) w)
   (f':=λr=>match r with | .ok v w=>bi (ea T fA) true fr' cs' none v w | .halt _ w=>.ended (.stuck "range over a function: no such loop" (fr'.pos (ea T fA))) w) fr.fn fr'.fn
   (λm a n w1 o new g hv=>sj g.wd (d.mono g.le) (hcs.mono g.le) hb i hv) (λ_ _ _ _ _ _ _ _=>trivial) (λ_ _=>⟨_,_,_,rfl⟩) (λ_ _ _=>⟨_,_,_,rfl⟩)
def Ox(fit:Fits T fB fA F X Z)(a:Wd T F Z ρ w w'){fr fr':Frame}{cs cs':List Frame}(b:aQ T F Z fB fA ρ fr fr')(hcs:cj T F Z fB fA ρ cs cs')(hb:dn (fr::cs)){ops:Array Oper}{i:Nat}{rest:List Nat}{k:List Item}
 (f:fr.todo=.inRegion ops (i::rest)::k) (g:(ops.toList.all λo=>jh T F Z o.op)=true) :
 ef T fB fA F X Z bot ρ w w' (ek (ea T fB) true fr (cs++[bot]) none w) (ek (ea T fA) true fr' cs' none w'):=by
 unfold ek;rw[b.oper?];have e:fr.oper? = ops[i]?:=by unfold eb;rw[f]
 rw[e]
 cases h:ops[i]? with
 |none=>trivial
 |some o=>
  have ok:=Bo g h;simp only;have main:ef T fB fA F X Z bot ρ w w' (ej (ea T fB) true fr (cs++[bot]) none (a5 fr.eval o) w) (ej (ea T fA) true fr' cs' none (a5 fr'.eval o) w'):=
   Ae fit a b hcs hb (De fit.zero fit.fns a.inj a.wr a.tape a.drawn (dD b.tmps) o ok #[])
  have d:=b.roundOf;generalize e1:fr.roundOf=r at d;generalize l:fr'.roundOf=m at d
  cases d with
  |none=>exact main
  |some hl=>
   cases j:o.op with
   |defer c=>rw[j]at ok;cases ok
   |_=>exact main
def iR{a b:List Item}(h:cN T F Z ρ a b)(P:ar)(fn:ad)(t:Array Value)(d:List a6)(m:a8)(k:bd)(r:Option Nat):eg P { fn:=fn,tmps:=t,todo:=a,defers:=d,mode:=m,kind:=k,roundOf:=r }=false:=by
 unfold eg
 cases h with
 |nil=>cases P.funcs[fn]?<;>rfl
 |cons h t=>cases h<;>cases P.funcs[fn]?<;>rfl
def ot{b a:List Item}(h:cN T F Z ρ b a)(P:ar)(fn:ad)(t:Array Value)(d:List a6)(m:a8)(k:bd)(r:Option Nat):eg P { fn:=fn,tmps:=t,todo:=a,defers:=d,mode:=m,kind:=k,roundOf:=r }=false:=by
 unfold eg
 cases h with
 |nil=>cases P.funcs[fn]?<;>rfl
 |cons h t=>cases h<;>cases P.funcs[fn]?<;>rfl
def Gq(e:Wd T F Z ρ w w'){fr fr':Frame}{cs cs':List Frame}(o:aQ T F Z fB fA ρ fr fr')(hcs:cj T F Z fB fA ρ cs cs')(hb:dn (fr::cs))(B:fr.mode≠.run)(g:fr.defers=[]->cs≠[]) :
 ef T fB fA F X Z bot ρ w w' (bj (ea T fB) true fr (cs++[bot]) none w) (bj (ea T fA) true fr' cs' none w'):=by
 have hd:=o.defers;obtain⟨fn,tmps,todo,defers,mode,kind,i⟩:=fr;obtain⟨b,j,p,Y,L,k,m⟩:=fr';have M:=o;obtain⟨C,q,D,u,n,N,x,E,H,I,y⟩:=o;simp only at C q D u n N x E H I y B g hd;subst C
 cases hd with
 |@cons r r' ds z O t=>
  unfold bj;simp only;exact sk e (jj e.inj O)
   (f:=λr=>match r with
     |.ok calls w=>.go { frame:={ fn:=b,tmps,todo,defers:=calls++ds,mode,kind,roundOf:=i },callers:=cs++[bot],status:=.running,dying:=none } w
     |.halt _ w=>.ended (.stuck "the deferred calls of a range-over-func loop have been taken" _) w)
   (f':=λr=>match r with
     |.ok calls w=>.go { frame:={ fn:=b,tmps:=j,todo:=p,defers:=calls++z,mode:=L,kind:=k,roundOf:=m },callers:=cs',status:=.running,dying:=none } w
     |.halt _ w=>.ended (.stuck "the deferred calls of a range-over-func loop have been taken" _) w) b b
   (λP a Q w1 R new d S=>by
     obtain⟨rfl,rfl⟩:=S
     exact mQ d.wd ⟨rfl,q,D,cU.mono d.le u,n.mono d.le,t.mono d.le,x.mono d.le,E,H,I.mono d.le,y⟩ (hcs.mono d.le) (hb.top rfl))
   (λ_ _ _ _ _ _ _ _=>trivial) (λ_ _=>⟨_,_,_,rfl⟩) (λ_ _ _=>⟨_,_,_,rfl⟩)
 |nil=>
  have g:=g rfl
  cases x with
  |run=>exact absurd rfl B
  |@panicking c A hc=>
   cases hcs with
   |nil=>exact absurd rfl g
   |@cons f J l K h t=>
    show(ef T fB fA F X Z bot) ρ w w' (bj (ea T fB) true _ (f::(l++[bot])) none w) _;have e1:bj (ea T fB) true { fn:=b,tmps:=tmps,todo:=todo,defers:=[],mode:=.panicking c,kind:=kind,roundOf:=i } (f::(l++[bot])) none w=.go { frame:=f.raise c,callers:=l++[bot],status:=.running,dying:=none } w:=by
     unfold bj;simp only[iR n (ea T fB) b tmps [] (.panicking c) kind i,dt,if_false]
    have U:bj (ea T fA) true { fn:=b,tmps:=j,todo:=p,defers:=[],mode:=.panicking A,kind:=k,roundOf:=m } (J::K) none w'=.go { frame:=J.raise A,callers:=K,status:=.running,dying:=none } w':=by
     unfold bj;simp only[ot n (ea T fA) b j [] (.panicking A) k m,dt,if_false]
    rw[e1,U];exact mQ e (h.raise hc) t (hb.pop.top (eC _ _))
  |returning=>
   obtain⟨fx,c,V,W,g3,g4⟩:=(q (y rfl)).ex;unfold bj;simp only[V,W]
   exact sk e (mP e.inj fx u) (f:=λr=>match r with
    |.ok v w=>bi (ea T fB) true { fn:=b,tmps,todo,defers:=[],mode:=.returning,kind,roundOf:=i } (cs++[bot]) none v w
    |.halt (.stuck s) w=>.ended (.stuck s _) w
    |.halt _ w=>.ended (.stuck "return: the result variables cannot be read" _) w)
    (f':=λr=>match r with
     |.ok v w=>bi (ea T fA) true { fn:=b,tmps:=j,todo:=p,defers:=[],mode:=.returning,kind:=k,roundOf:=m } cs' none v w
     |.halt (.stuck s) w=>.ended (.stuck s _) w
     |.halt _ w=>.ended (.stuck "return: the result variables cannot be read" _) w) b b
    (λP a Q w1 R new d hv=>sj d.wd (M.mono d.le) (hcs.mono d.le) hb g hv) (λ_ _ _ _ _ _ _ _=>trivial) (λ_ _=>⟨_,_,_,rfl⟩) (λ_ _ _=>⟨_,_,_,rfl⟩)
def ou(c:Wd T F Z ρ w w')(q:Question):∃n f w1 d,(aH q).run (ea T fB) w=.ok n w1/\(aH q).run (ea T fA) w'=.ok n d/\cE T.globals.size F (codeOk T F Z) ρ w w' f w1 d #[]:=by
 have e:∀(P:ar)(w:World),(aH q).run P w=if q.forced then .ok 0 w else .ok (q.cut (w.tape w.drawn q)) { w with drawn:=w.drawn+1 }:=λP w=>rfl
 rw[e,e,c.tape,c.drawn]
 cases q.forced with
 |true=>exact⟨0,ρ,w,w',rfl,rfl,c.refl⟩
 |false=>
  have hb:=c.refl;refine⟨_,ρ,_,_,rfl,rfl,?_⟩;exact⟨hb.le,hb.inj,⟨c.wr.pK,c.wr.gN,c.wr.obj⟩,rfl,rfl,rfl,rfl,rfl,Nat.le_refl _,Nat.le_refl _,λ_ _ _=>rfl,λ_ a b=>absurd b (Nat.not_lt.2 a),λ_ _ h=>.inl h,by simp,λ_ _ _ _ h=>⟨h,rfl⟩⟩
def ef.Oy{a:Ren}{w1 b:World}{s s':GStep}(c:cE T.globals.size F (codeOk T F Z) ρ w w' a w1 b #[])(h:ef T fB fA F X Z bot a w1 b s s'):ef T fB fA F X Z bot ρ w w' s s':=by
 cases s with
 |go n w2 o=>
  obtain⟨f,g,i,j,l,d,e,k,m⟩:=h;exact⟨f,g,i,j,l,d,e,by simpa using c.trans k,m⟩
 |ended _ _ _=>trivial
 |_=>exact h.elim
def Oz(fit:Fits T fB fA F X Z)(p:Wd T F Z ρ w w'){fr fr':Frame}{cs cs':List Frame}(o:aQ T F Z fB fA ρ fr fr')(hcs:cj T F Z fB fA ρ cs cs')(hb:dn (fr::cs)) :
 ef T fB fA F X Z bot ρ w w' (el (ea T fB) true true fr (cs++[bot]) none w) (el (ea T fA) true true fr' cs' none w'):=by
 obtain⟨fn,tmps,todo,defers,mode,kind,x⟩:=fr;obtain⟨q,u,S,y,z,A,B⟩:=fr';have U:cN T F Z ρ todo S:=o.todo;have to:∀{N O:List Item},cN T F Z ρ N O->ef T fB fA F X Z bot ρ w w' (.go { frame:=⟨fn,tmps,N,defers,mode,kind,x⟩,callers:=cs++[bot],status:=.running,dying:=none } w) (.go { frame:=⟨q,u,O,y,z,A,B⟩,callers:=cs',status:=.running,dying:=none } w'):=
  λh=>mQ p (o.lO h) hcs (hb.top rfl)
 have lv:=λj V=>LI (bot:=bot) (X:=X) p o hcs hb j V;unfold el
 cases U with
 |nil=>exact lv none (λc e=>by cases e)
 |@cons i i' k k' h t=>
  cases h with
  |inBlock id=>exact to t
  |inLoop c hc=>exact to (.cons (.code c hc) (.cons (.inLoop c hc) t))
  |inScope c hc=>exact to t
  |inRangeFunc hl=>trivial
  |beginRound=>
   refine Af fit p o hcs hb (vX p.inj ?_)
   rcases jP o.roundOf with⟨C,D⟩|⟨l,E,C,D,hl⟩
   ·simp only at C D;subst C D;exact ak
   ·simp only at C D;subst C D;exact lg p.inj hl
  |@endRangeFunc l E hl=>
   exact sk p (qW p.inj hl)
    (f:=λr=>match r with
      |.ok jump w=>.go { frame:=⟨fn,tmps,(jump.map Item.code).toList++k,defers,mode,kind,x⟩,callers:=cs++[bot],status:=.running,dying:=none } w
      |.halt (.panic v) w=>.go { frame:=ed ⟨fn,tmps,.endRangeFunc l::k,defers,mode,kind,x⟩ [{ v,recovered:=false }],callers:=cs++[bot],status:=.running,dying:=none } w
      |.halt _ w=>.ended (.stuck "range over a function: no such loop" _) w)
    (f':=λr=>match r with
      |.ok jump w=>.go { frame:=⟨q,u,(jump.map Item.code).toList++k',y,z,A,B⟩,callers:=cs',status:=.running,dying:=none } w
      |.halt (.panic v) w=>.go { frame:=ed ⟨q,u,.endRangeFunc E::k',y,z,A,B⟩ [{ v,recovered:=false }],callers:=cs',status:=.running,dying:=none } w
      |.halt _ w=>.ended (.stuck "range over a function: no such loop" _) w) fn q
    (λH a P w1 J new g K=>by
      obtain⟨rfl,W⟩:=K;refine mQ g.wd ((o.mono g.le).lO (cN.append ?_ (t.mono g.le))) (hcs.mono g.le) (hb.top rfl)
      cases a with
      |none=>exact .nil
      |some c=>exact .cons (.code c (W c rfl)) .nil)
    (λH v v' w1 J new g hv=>mQ g.wd ((o.mono g.le).raise (.cons hv .nil)) (hcs.mono g.le) (hb.top (eC _ _)))
    (λ_ _=>⟨_,_,_,rfl⟩) (λ_ _ _=>⟨_,_,_,rfl⟩)
  |inRegion ops todo Y=>
   cases todo with
   |nil=>exact to t
   |cons i Q=>
    simp only;rw[show bc ops u=bc ops tmps from funext λj=>(oo ops o.tmps j).symm]
    cases((ops[i]?).map (Region.wanted · (bc ops tmps))).getD false with
    |true=>exact Ox fit p o hcs hb rfl Y
    |false=>exact mQ p (o.finish .undef) hcs (hb.top (bZ _ _))
  |code c hc=>
   cases c with
   |ret=>exact lv (some .ret) (λc e=>by cases e;rfl)
   |skip=>exact to t
   |label _=>exact to t
   |seq a b=>
    simp only[codeOk,dp]at hc;exact to (.cons (.code a hc.1) (.cons (.code b hc.2) t))
   |cond c a b=>
    simp only[codeOk,dp]at hc;have hv:=dD o.tmps c hc.1.1;simp only;generalize eh _ c=v at hv ⊢;generalize eh _ c=v' at hv ⊢
    cases hv with
    |bool b'=>
     cases b' with
     |true=>exact to (.cons (.code a hc.1.2) t)
     |false=>exact to (.cons (.code b hc.2) t)
    |_=>trivial
   |block id b=>exact to (.cons (.code b hc) (.cons (.inBlock id) t))
   |loop b=>exact to (.cons (.code b hc) (.cons (.inLoop b hc) t))
   |scope b=>exact to (.cons (.code b hc) (.cons (.inScope b hc) t))
   |exit id=>
    simp only
    rcases xo id t with⟨x1,x2⟩|⟨m,m',x1,x2,L⟩
    ·rw[x1,x2];exact lv (some (.exit id)) (λc e=>by cases e;rfl)
    ·rw[x1,x2];exact to L
   |goto id=>
    simp only
    rcases xq id t with⟨x1,x2⟩|⟨m,m',x1,x2,L⟩
    ·rw[x1,x2];exact lv (some (.goto id)) (λc e=>by cases e;rfl)
    ·rw[x1,x2];exact to L
   |refuse why=>cases hc
   |rangeFunc f params assign body=>
    simp only[codeOk,dp]at hc;simp only;have I:=o.fn;simp only at I;subst I;have hs:=mO (T:=T) (fB:=fB) (fA:=fA) (Z:=Z) p.inj q o.mI o.tmps params assign body hc.1.2 hc.2 o.roundOf;exact sk p hs
     (f:=λr=>match r with
       |.ok (l,mark) w=>
        let fr:Frame:=⟨q,tmps,.inRangeFunc l::k,mark++defers,mode,kind,x⟩
        let call:Call:={ callee:=.value f,args:=#[.const (.func (.yield l) #[] #[])],argTypes:=#[] }
        ej (ea T fB) true fr (cs++[bot]) none (do let d<-aT fr.eval call 0;aP d.target d.args) w
       |.halt _ w=>.ended (.stuck "range over a function: no such loop" _) w)
     (f':=λr=>match r with
       |.ok (l,mark) w=>
        let fr:Frame:=⟨q,u,.inRangeFunc l::k',mark++y,z,A,B⟩
        let call:Call:={ callee:=.value f,args:=#[.const (.func (.yield l) #[] #[])],argTypes:=#[] }
        ej (ea T fA) true fr cs' none (do let d<-aT fr.eval call 0;aP d.target d.args) w
       |.halt _ w=>.ended (.stuck "range over a function: no such loop" _) w) q q
     (λH a P w1 J new g K=>by
       obtain⟨l,mark⟩:=a;obtain⟨E,OA⟩:=P;obtain⟨hl,M⟩:=K;have s:=o.mono g.le;have R:aQ T F Z fB fA H ⟨q,tmps,.inRangeFunc l::k,mark++defers,mode,kind,x⟩ ⟨q,u,.inRangeFunc E::k',OA++y,z,A,B⟩:=
        ⟨s.fn,s.same,s.mI,s.tmps,.cons (.inRangeFunc hl) (t.mono g.le),fS.append M s.defers,s.mode,s.kind,s.bX,s.roundOf,s.ret⟩
       exact Af fit g.wd R (hcs.mono g.le) (hb.top rfl) (jE fit.zero fit.fns g.inj (dD R.tmps f hc.1.1) (by
        have hv:cU F H [.func (.yield l) #[] #[]] [.func (.yield E) #[] #[]]:=.cons (.func (.yield hl) .nil .nil) .nil
        simpa[eh]using hv)))
     (λ_ _ _ _ _ _ _ _=>trivial) (λ_ _=>⟨_,_,_,rfl⟩) (λ_ _ _=>⟨_,_,_,rfl⟩)
   |region id ops draw=>
    simp only
    cases draw with
    |false=>exact to (.cons (.inRegion ops _ hc) t)
    |true=>
     simp only[Bool.not_true,dt,if_false];obtain⟨n,H,w1,J,c1,c2,g⟩:=ou (fB:=fB) (fA:=fA) p (.order fn id);have I:=o.fn;simp only at I;subst I;rw[c1,c2];exact ef.Oy g (mQ g.wd ((o.mono g.le).lO (.cons (.inRegion ops _ hc) (t.mono g.le))) (hcs.mono g.le) (hb.top rfl))
def sr(fit:Fits T fB fA F X Z)(f:Wd T F Z ρ w w'){g g':Goroutine}(hg:GR T fB fA F X Z bot ρ g g')(b:aQ T F Z fB fA ρ g.frame g'.frame)
 (i:g.frame.mode≠.run->g.frame.defers=[]->g.callers≠[bot]):ef T fB fA F X Z bot ρ w w' (stepG (ea T fB) true g w) (stepG (ea T fA) true g' w'):=by
 obtain⟨_,⟨l,hl,hcs,hb,_⟩,st,a,j,k,of,m⟩:=hg;obtain⟨fr,cs,status,dying,offers⟩:=g;obtain⟨c,cs',q,r,s⟩:=g';simp only at st a j k of m hl hcs b hb i;subst st a j k of m hl;have d:=Oz (bot:=bot) fit f b hcs hb;have n:=λh=>Gq (bot:=bot) (X:=X) f b hcs hb h (λhd e=>by subst e;exact i h hd rfl);obtain⟨fn,tmps,todo,defers,mode,kind,t⟩:=fr;obtain⟨u,v,x,y,o,z,A⟩:=c;have p:qE F ρ mode o:=b.mode;unfold stepG
 cases p with
 |run=>exact d
 |returning=>exact n (by simp)
 |panicking _=>exact n (by simp)
end
end Go.bJ
