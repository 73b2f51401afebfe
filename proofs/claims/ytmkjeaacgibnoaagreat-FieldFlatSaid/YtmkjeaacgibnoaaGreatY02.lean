/- Part of the proof of FieldFlat and FieldMarshals. -/
import Derived.Test.YtmkjeaacgibnoaaGreatY01
import Derived.Conc.Events
set_option linter.all false
open Go renaming Tables->aa,FuncId->ab,TypeId->ac,eqGuard->ad,IntKind->ae,cellAtBytes->ag,movedNumber->ai,movedPointer->ao,behindNumber->ap,underlying->aq,TypeDesc->ar,convert->aw,MapEntry->aB,setObj->aF,loadCells->aH
open Go.Op renaming eqGuardIn->aI,intArith->aJ,intCmp->aL,intBits->aP,intDiv->aT,shift->a5,stringOp->a6,twoPlaces->a7,addrMod->a8,addrCmp->a9,addrSub->ba,equal->bb,maxDepth->bc,equalIn->bd,unary->bg
open Go.Program renaming eqGuardType->bi,depth->bj,cellsOf->bl,underlying->bm
open Go.Builtin renaming unsafeAdd_->bo,lenOf->bp,firstCells->bq
open Go.Sem renaming bind->br,program->bs,bind_assoc'->bt,setObj->bu
open Go.Unsupported renaming addressObserved->bv
open Go.Instr renaming checkKey->bx,sameNow->bA,findNow->bL,findAsking->bM,findKey->bR,lookup->bT,sameBits->bX,keyThatStays->b2,mapUpdate->b3,makeMap->b4,range->b5,entry->b6,next->b7
open Array renaming forIn_toList->b8,getElem?_toList->b9,toList_modify->ca,toList_push->cb,find?_toList->cc,all_toList->cd,toList_filter->ce,toList_append->cf,toList_map->cg
open List renaming filter_cons->ch,find?_cons->ci,all_cons->cl,zip_cons_cons->cm
open Bool renaming and_eq_true->co,noConfusion->cp
namespace Go.bJ
section
variable {T:aa}{fB fA:Array Func}{F:ab->Bool}{K:Code->Bool}{ρ σ:Ren}
def CX(a:ρ.bw T.globals.size)(d:Nat)(t:ac):av T fB fA F K fF ρ (aI d t .nilIface .nilIface) (aI d t .nilIface .nilIface):=by
 cases d with
 |zero=>exact aA
 |succ d=>
  unfold aI;refine af a (bk t) λσ b f ds c e=>?_;subst e;cases ds<;>exact ah rfl
def F1(d:ρ.bw T.globals.size)(op:BinOp)(t:ac)(x y:Operand){a a' b b':Value}(f:VR F ρ a a')(hb:VR F ρ b b')(g:a≠.tuple #[])(c:b≠.tuple #[])
 (hg:(op matches .eql | .neq)=true->bi ⟨T,fB⟩ (bj ⟨T,fB⟩) t=false):av T fB fA F K fF ρ (ad op t x y a b) (ad op t x y a' b'):=by
 unfold ad;refine aN (λ_=>ah rfl) λh=>?_;have i:bi ⟨T,fB⟩ (bj ⟨T,fB⟩) t=false:=hg (by cases op<;>first|rfl|exact absurd rfl h)
 cases f with
 |nilIface=>
  cases hb with
  |nilIface=>
   refine aN (λ_=>ah rfl) λ_=>?_;refine af d (CX d _ t) λ_ _ _ z k e=>?_;subst e;exact aN (λ_=>aA) λ_=>ah rfl
  |hole=>exact absurd rfl c
  |_=>exact ah rfl
 |agg l=>
  cases hb with
  |agg j=>
   refine bI (bI ?_);rw[kJ T fA fB];show(av T fB fA F K) fF ρ (if(!bi ⟨T,fB⟩ (bj ⟨T,fB⟩) t)=true then _ else _) (if(!bi ⟨T,fB⟩ (bj ⟨T,fB⟩) t)=true then _ else _);rw[i];exact ah rfl
  |hole=>exact absurd rfl c
  |_=>exact ah rfl
 |hole=>exact absurd rfl g
 |_=>cases hb with
  |hole=>exact absurd rfl c
  |_=>exact ah rfl
def uU(op:BinOp)(k:ae)(a b:Int):av T fB fA F K (RV F) ρ (aJ op k a b) (aJ op k a b):=by
 cases op<;>first|exact ah (.int _ _)|exact ak
def Lz(op:BinOp)(a b:Int):av T fB fA F K (RV F) ρ (aL op a b) (aL op a b):=by
 cases op<;>first|exact ah (.bool _)|exact ak
def wU(op:BinOp)(k:ae)(a b:Int):av T fB fA F K (RV F) ρ (aP op k a b) (aP op k a b):=by
 cases op<;>first|exact ah (.int _ _)|exact ak
def LA(op:BinOp)(k:ae)(a b:Int):av T fB fA F K (RV F) ρ (aT op k a b) (aT op k a b):=by
 unfold aT;refine aN (λ_=>cX _) λ_=>?_;cases op<;>first|exact ah (.int _ _)|exact ak
def CY(op:BinOp)(k j:ae)(a b:Int):av T fB fA F K (RV F) ρ (a5 op k a j b) (a5 op k a j b):=by
 unfold a5;refine aN (λ_=>cX _) λ_=>?_;cases op<;>first|exact ah (.int _ _)|exact ak
def oe(op:BinOp)(a b:ByteArray):av T fB fA F K (RV F) ρ (a6 op a b) (a6 op a b):=by
 unfold a6;cases op<;>first|exact aN (λ_=>aA) (λ_=>ah (.string _))|exact ah (.bool _)|exact ak
def RP:Ren->Value->Value->Prop:=λρ v v'=>∃a b,v=.pointer (some a)/\v'=.pointer (some b)/\AR ρ a b
def uV(j:ρ.bw T.globals.size){x f y y':Value}(g:VR F ρ x f)(hy:VR F ρ y y')(ts:Array ac)(t:ac):av T fB fA F K RP ρ (bo ts t #[x,y]) (bo ts t #[f,y']):=by
 unfold bo;have main:∀{p k:Option Addr},x=.pointer p->f=.pointer k->av T fB fA F K RP ρ (bo ts t #[x,y]) (bo ts t #[f,y']):=by
  rintro p k rfl rfl;unfold bo;refine af j (Oa j hy) λσ b h n n' e=>?_;subst e;refine aN (λ_=>?_) λ_=>?_
  ·cases g with
   |dS=>first|exact aA|exact aM
   |ptr d=>
    refine af h (z8 h (b d.1)) λl i _ z m e=>?_;obtain⟨rfl,rfl⟩:=e;exact ah ⟨_,_,rfl,rfl,(d.mono b).mono i⟩
  ·refine aN (λ_=>aM) λ_=>?_
   cases g with
   |dS=>first|exact aA|exact aM
   |@ptr a o d=>
    refine af h (jS (b d.1)) λl i _ z m e=>?_;subst e
    cases z with
    |none=>first|exact aA|exact aM
    |some c=>
     refine bI ?_;have ha':=(d.mono b).mono i;rw[rV T fA fB,<-ha'.2.1];show(av T fB fA F K) RP l (match ag ⟨T,fB⟩ (bj ⟨T,fB⟩) c.1 (c.2 / bl ⟨T,fB⟩ c.1) a.off n with|some off=>_|none=>_) (match ag ⟨T,fB⟩ (bj ⟨T,fB⟩) c.1 (c.2 / bl ⟨T,fB⟩ c.1) a.off n with|some off=>_|none=>_)
     cases ag ⟨T,fB⟩ (bj ⟨T,fB⟩) c.1 (c.2 / bl ⟨T,fB⟩ c.1) a.off n with
     |none=>exact aA
     |some off=>exact ah ⟨_,_,rfl,rfl,ha'.1,rfl,ha'.2.2⟩
 cases g with
 |dS=>exact main rfl rfl
 |ptr d=>exact main rfl rfl
 |_=>first|exact ak|exact bz
def CZ(b:ρ.bw T.globals.size){a a':Addr}(h:AR ρ a a')(l:Bool):av T fB fA F K (RV F) ρ (asNumber a l) (asNumber a' l):=
 af b (jO (.number l h)) λ_ _ _ _ _ c=>ah (.ptr ⟨c,rfl,rfl⟩)
def gQ(c:ρ.bw T.globals.size){x b y y':Value}(d:VR F ρ x b)(hy:VR F ρ y y')(ts:Array ac)(t:ac):av T fB fA F K (RV F) ρ (bo ts t #[x,y]) (bo ts t #[b,y']):=
 (uV c d hy ts t).mono λσ _ a f⟨_,_,e1,e,h⟩=>by rw[e1,e];exact .ptr h
def eZ(j:ρ.bw T.globals.size)(t:ac){x g y y':Value}(f:VR F ρ x g)(hy:VR F ρ y y'):av T fB fA F K (RV F) ρ (ai t x y) (ai t g y'):=by
 unfold ai;refine af j (bk t) λσ a b d s e=>?_;subst e;refine aN (λ_=>aM) λ_=>?_;have f:=f.mono a;have hy:=hy.mono a
 cases f with
 |ptr k=>
  refine af b (gC b k) λu l i z m c=>?_;obtain⟨z1,v⟩:=z;obtain⟨n,o⟩:=m;obtain⟨c,e⟩:=c;simp only at c e;subst e;refine af i (uV i (.ptr c) (hy.mono l) _ _) λw A p q B r=>?_;obtain⟨_,_,rfl,rfl,hb⟩:=r;exact CZ p hb _
 |dS=>exact gQ b .dS hy _ _
 |hole _ h=>exact ak
 |_=>exact gQ b (by first|exact .wG _ _ _|exact .dK _ _|(constructor<;>assumption)) hy _ _
def vF(a:ρ.bw T.globals.size)(t:ac){x c y y':Value}(f:VR F ρ x c)(hy:VR F ρ y y'):av T fB fA F K (RV F) ρ (ao t x y) (ao t c y'):=by
 unfold ao
 cases f with
 |ptr d=>
  refine af a (uS a d.1) λj e g z k i=>?_
  rcases i with⟨rfl,rfl⟩|⟨b,b',l,rfl,rfl,hb⟩
  ·exact gQ g (.ptr (d.mono e)) (hy.mono e) #[] t
  ·exact aA
 |dS=>exact gQ a .dS hy #[] t
 |hole _ h=>exact ak
 |_=>exact gQ a (by first|exact .wG _ _ _|exact .dK _ _|(constructor<;>assumption)) hy #[] t
def rY(c:ρ.bw T.globals.size){a a' b b':Addr}(d:AR ρ a a')(hb:AR ρ b b'):av T fB fA F K fF ρ (a7 a b) (a7 a' b'):=by
 unfold a7;refine bI ?_;have e1:(a.block != b.block)=(a'.block != b'.block):=by
  simp only[bne];congr 1;rw[Bool.eq_iff_iff,beq_iff_eq,beq_iff_eq];exact⟨λe=>c.fn d.1 (e▸hb.1),λe=>c.inj d.1 (e▸hb.1)⟩
 have g:decide (a.block>=T.globals.size)=decide (a'.block>=T.globals.size):=by
  rw[decide_eq_decide];have:=c.XS d.1;omega
 show(av T fB fA F K) fF ρ (if(_||decide (a.block>=T.globals.size))=true then _ else _) (if(_||decide (a'.block>=T.globals.size))=true then _ else _);rw[e1,g];refine aN (λ_=>aM) λ_=>?_;refine af c (iA c d) λj h f z i e=>?_;subst e;refine af f (iA f (hb.mono h)) λ_ _ _ z i e=>?_;subst e;exact ah rfl
def qT(f:ρ.bw T.globals.size)(k:ae){a a':Addr}(c:AR ρ a a')(n:Int):av T fB fA F K (RV F) ρ (a8 k a n) (a8 k a' n):=by
 unfold a8;refine af f (jS c.1) λσ b g z h e=>?_;subst e
 cases z with
 |none=>exact aA
 |some j=>
  refine af g (ee j.1) λm l d i o e=>?_;subst e;refine aN (λ_=>aM) λ_=>?_;refine af d (iA d ((c.mono b).mono l)) λ_ _ _ z h e=>?_;subst e;exact ah (.int _ _)
def mN(c:ρ.bw T.globals.size)(op:BinOp){a a' b b':Addr}(d:AR ρ a a')(hb:AR ρ b b'):av T fB fA F K (RV F) ρ (a9 op a b) (a9 op a' b'):=by
 unfold a9;refine af c (rY c d hb) λ_ _ _ z f e=>?_;subst e;obtain⟨x,y⟩:=z;cases op<;>first|exact ah (.bool _)|exact aA
def F2(c:ρ.bw T.globals.size)(k:ae){a a' b b':Addr}(d:AR ρ a a')(hb:AR ρ b b'):av T fB fA F K (RV F) ρ (ba k a b) (ba k a' b'):=by
 unfold ba;refine af c (rY c d hb) λ_ _ _ z f e=>?_;subst e;exact ah (.int _ _)
def wV{d e:Type}{R:Ren->d->e->Prop}(g:ρ.bw T.globals.size){a a' b b':Addr}(l:AR ρ a a')(hb:AR ρ b b'){f:Addr->Addr->Sem d}{c:Addr->Addr->Sem e}
 (h:∀(σ:Ren),ρ.le σ->σ.bw T.globals.size->∀a a' b b',AR σ a a'->AR σ b b'->av T fB fA F K R σ (f a b) (c a' b')) :
 av T fB fA F K R ρ (do f (<-ap a).1 (<-ap b).1) (do c (<-ap a').1 (<-ap b').1):=by
 refine af g (gC g l) λp i j z q m=>?_;refine af j (gC j (hb.mono i)) λn k o y y' hy=>?_;exact h n (Ren.le_trans i k) o _ _ _ _ (m.1.mono k) hy.1
set_option maxHeartbeats 1000000 in
def Oj(hI:ρ.bw T.globals.size)(op:BinOp)(t:ac){a a' b b':Value}(ha:VR F ρ a a')(hb:VR F ρ b b')(na:a≠.tuple #[])(nb:b≠.tuple #[]):av T fB fA F K (RV F) ρ (binOp op t a b) (binOp op t a' b'):=by
 have eqs:av T fB fA F K (RV F) ρ (do pure (.bool (<-bb t a b)):Sem Value) (do pure (.bool (<-bb t a' b')):Sem Value):=
  af hI (qS _ hI t ha hb) λ_ _ _ z z' e=>ah (by rw[e];exact .bool _)
 have neqs:av T fB fA F K (RV F) ρ (do pure (.bool (!(<-bb t a b))):Sem Value) (do pure (.bool (!(<-bb t a' b'))):Sem Value):=
  af hI (qS _ hI t ha hb) λ_ _ _ z z' e=>ah (by rw[e];exact .bool _)
 have plus:∀{x x' y y':Value},VR F ρ x x'->VR F ρ y y'->av T fB fA F K (RV F) ρ (do if(<-aq t) matches .unsafePointer then ao t x y else ai t x y:Sem Value) (do if(<-aq t) matches .unsafePointer then ao t x' y' else ai t x' y':Sem Value):=by
  intro x x' y y' hx hy;refine af hI (bk t) λσ hle bC d d' e=>?_;subst e;exact aN (λ_=>vF bC t (hx.mono hle) (hy.mono hle)) λ_=>eZ bC t (hx.mono hle) (hy.mono hle)
 by_cases h1:∃k i j l,a=.int k i/\b=.int j l
 ·obtain⟨k,i,j,l,rfl,rfl⟩:=h1;cases ha;cases hb
  cases op with
  |shl=>unfold binOp;exact CY _ _ _ _ _
  |shr=>unfold binOp;exact CY _ _ _ _ _
  |_=>
   unfold binOp;refine aN (λ_=>ak) λ_=>?_
   first|exact uU _ _ _ _|exact LA _ _ _ _|exact wU _ _ _ _|exact Lz _ _ _
 by_cases h2:∃s u,a=.string s/\b=.string u
 ·obtain⟨s,u,rfl,rfl⟩:=h2;cases ha;cases hb;cases op<;>(unfold binOp;exact oe _ _ _)
 by_cases he:op=.eql
 ·subst he;cases ha<;>cases hb<;>first|exact absurd rfl na|exact absurd rfl nb|exact eqs|exact absurd ⟨_,_,_,_,rfl,rfl⟩ h1|exact absurd ⟨_,_,rfl,rfl⟩ h2
 by_cases hn:op=.neq
 ·subst hn;cases ha<;>cases hb<;>first|exact absurd rfl na|exact absurd rfl nb|exact neqs|exact absurd ⟨_,_,_,_,rfl,rfl⟩ h1|exact absurd ⟨_,_,rfl,rfl⟩ h2
 generalize fR:binOp op t a' b'=s';unfold binOp
 split
 ·exact absurd ⟨_,_,_,_,rfl,rfl⟩ h1
 ·exact absurd ⟨_,_,_,_,rfl,rfl⟩ h1
 ·exact absurd ⟨_,_,_,_,rfl,rfl⟩ h1
 ·cases ha
 ·cases ha
 ·exact absurd ⟨_,_,rfl,rfl⟩ h2
 ·exact absurd rfl he
 ·exact absurd rfl hn
 ·cases hb;cases ha<;>(subst fR;first|exact plus .dS (.int _ _)|exact plus (.ptr (by assumption)) (.int _ _))
 ·cases ha;cases hb<;>(subst fR;first|exact eZ hI t .dS (.int _ _)|exact eZ hI t (.ptr (by assumption)) (.int _ _))
 ·cases hb;cases ha<;>(subst fR;first|exact eZ hI t .dS (.int _ _)|exact eZ hI t (.ptr (by assumption)) (.int _ _))
 ·cases ha;cases hb;subst fR;exact wV hI (by assumption) (by assumption) λσ _ bC a a' b b' ha hb=>F2 bC _ ha hb
 ·cases ha;cases hb;subst fR;exact wV hI (by assumption) (by assumption) λσ _ bC a a' b b' ha hb=>mN bC _ ha hb
 ·cases ha;cases hb;subst fR;exact wV hI (by assumption) (by assumption) λσ _ bC a a' b b' ha hb=>mN bC _ ha hb
 ·cases ha;cases hb;subst fR;exact wV hI (by assumption) (by assumption) λσ _ bC a a' b b' ha hb=>mN bC _ ha hb
 ·cases ha;cases hb;subst fR;exact wV hI (by assumption) (by assumption) λσ _ bC a a' b b' ha hb=>mN bC _ ha hb
 ·cases ha;cases hb;subst fR;exact af hI (gC hI (by assumption)) λ_ _ bC z z' hz=>qT bC _ hz.1 _
 ·cases ha;cases hb;subst fR;exact af hI (gC hI (by assumption)) λ_ _ bC z z' hz=>qT bC _ hz.1 _
 ·cases ha;cases hb;subst fR;exact af hI (gC hI (by assumption)) λ_ _ bC z z' hz=>qT bC _ hz.1 _
 ·exact aA
 ·exact aA
 ·exact ak
def wX{a:Type}(t:ac)(g:ar->Sem a):br (aq t) g=.program λp=>match p.underlying t with|some d=>g d|none=>stuck "no such type":=by
 show bs _=bs _;congr 1;funext p;show br (match p.underlying t with|some d=>pure d|none=>stuck "no such type") g=_;cases p.underlying t<;>rfl
def Ol(t:ac)(b:Value):bW T fB (bb t (.tuple #[]) b):=by
 unfold bb bc bd;show bW T fB (br (aq t) _);rw[wX];show bW T fB (match bm ⟨T,fB⟩ t with|some d=>_|none=>stuck "no such type")
 cases bm ⟨T,fB⟩ t with
 |none=>trivial
 |some d=>cases d<;>first
  |trivial
  |(cases b<;>first|trivial|rfl|(rename_i o;cases o<;>first|trivial|rfl)|(rename_i o _ _;cases o<;>first|trivial|rfl))
def Om(t:ac)(b:Value):bW T fB (bb t b (.tuple #[])):=by
 unfold bb bc bd;show bW T fB (br (aq t) _);rw[wX];show bW T fB (match bm ⟨T,fB⟩ t with|some d=>_|none=>stuck "no such type")
 cases bm ⟨T,fB⟩ t with
 |none=>trivial
 |some d=>cases d<;>first
  |trivial
  |(cases b<;>first|trivial|rfl|(rename_i o;cases o<;>first|trivial|rfl)|(rename_i o _ _;cases o<;>first|trivial|rfl))
def X3{a c:Type}{R:Ren->a->c->Prop}(t:ac)(b:Value)(f:Bool->Sem a)(s':Sem c):av T fB fA F K R ρ (bb t (.tuple #[]) b >>= f) s':=bW.rel (bW.bind (Ol t b)) s'
def X4{a c:Type}{R:Ren->a->c->Prop}(t:ac)(b:Value)(f:Bool->Sem a)(s':Sem c):av T fB fA F K R ρ (bb t b (.tuple #[]) >>= f) s':=bW.rel (bW.bind (Om t b)) s'
def F6(d:ρ.bw T.globals.size)(op:BinOp)(t:ac)(x y:Operand){a a' b b':Value}(g:VR F ρ a a')(hb:VR F ρ b b')
 (hg:(op matches .eql | .neq)=true->bi ⟨T,fB⟩ (bj ⟨T,fB⟩) t=false):av T fB fA F K (RV F) ρ (do ad op t x y a b;binOp op t a b) (do ad op t x y a' b';binOp op t a' b'):=by
 by_cases e:a=.tuple #[]
 ·subst e;generalize(do ad op t x y a' b';binOp op t a' b')=h;cases op<;>first
   |exact X3 t b _ _
   |(cases b<;>first|exact ak|exact(show dw bv=true from rfl)|(rename_i o;cases o<;>first|exact ak|exact(show dw bv=true from rfl)))
 by_cases f:b=.tuple #[]
 ·subst f;generalize(do ad op t x y a' b';binOp op t a' b')=h;cases op<;>first
   |(cases a<;>exact X4 t _ _ _)
   |(cases a<;>first|exact ak|exact(show dw bv=true from rfl)|(rename_i o;cases o<;>first|exact ak|exact(show dw bv=true from rfl)))
 exact af d (F1 d op t x y g hb e f hg) λσ c d _ _ _=>Oj d op t (g.mono c) (hb.mono c) e f
end
def tY(T:aa)(t:ac):Option ar:=bm ⟨T,#[]⟩ t
def tZ(T:aa)(t:ac):Bool:=match tY T t with|some (.int _)=>true|_=>false
def og(T:aa):Nat->ac->Bool
 |0,_=>false
 |m+1,t=>match tY T t with
  |some (.interface _)=>false
  |some (.array _ e)=>og T m e
  |some (.struct fs)=>fs.toList.all λf=>og T m f.type
  |_=>true
section
variable {T:aa}{fB fA:Array Func}{F:ab->Bool}{K:Code->Bool}{ρ σ:Ren}
def fG(t:ac):av T fB fA F K (λ_ a a'=>a=a'/\tY T t=some a) ρ (aq t) (aq t):=by
 unfold aq;refine bI ?_;show(av T fB fA F K) _ ρ (match tY T t with|some i=>pure i|none=>stuck "no such type") (match tY T t with|some i=>pure i|none=>stuck "no such type")
 cases h:tY T t with
 |none=>exact ak
 |some d=>exact ah ⟨rfl,rfl⟩
def On{op:UnOp}{x a:Value}(h:VR F ρ x a):av T fB fA F K (RV F) ρ (bg op x) (bg op a):=by
 unfold bg;cases op<;>cases h<;>first|exact ak|exact uU _ _ _ _|exact wU _ _ _ _|exact ah (.bool _)|exact aA
def F8(g:ρ.bw T.globals.size){s d:ac}(hs:tZ T s=true)(hd:tZ T d=true){x f:Value}(h:VR F ρ x f):av T fB fA F K (RV F) ρ (aw s d x) (aw s d f):=by
 unfold aw;refine af g (fG s) λσ c i a o e=>?_;obtain⟨rfl,l⟩:=e;refine af i (fG d) λp m q b b' e=>?_;obtain⟨rfl,n⟩:=e;have h:=(h.mono c).mono m;simp only[tZ,l]at hs;simp only[tZ,n]at hd
 cases a with
 |int j=>
  cases b with
  |int k=>cases h<;>first|exact ah (.int _ _)|exact aA
  |_=>exact absurd hd (by simp)
 |_=>exact absurd hs (by simp)
def uW(b:Bool):∀(n:Nat){ρ:Ren}(_:ρ.bw T.globals.size)(m:Nat)(t:ac)(_:og T m t=true){v v':Value}(_:VR F ρ v v'),av T fB fA F K fF ρ (bx b n t v) (bx b n t v'):=by
 intro n
 induction n with
 |zero=>intro ρ o m t a v v' hv;exact aA
 |succ n q=>
  intro ρ o m t a v v' hv
  cases m with
  |zero=>simp[og]at a
  |succ m=>
   unfold bx;refine af o (fG t) λσ j h d D e=>?_;obtain⟨rfl,x⟩:=e;have hv:=hv.mono j;simp only[og,x]at a
   cases d with
   |interface E=>exact absurd a (by simp)
   |array len elem=>
    simp only at a
    cases hv with
    |agg hc=>
     refine af h (oc len h _ λi y k c u=>?_) λ_ _ _ z A e=>?_
     ·refine af c (bN c elem) λB r g s H e=>?_;subst e;refine af g (kI g elem (VA.mono r (VA.mono k hc)) _) λI J w p C l=>?_;refine af w (q w m elem a l) λ_ _ _ _ _ _=>ah rfl
     ·exact ah rfl
    |_=>exact ak
   |struct fields=>
    simp only[List.all_eq_true]at a
    cases hv with
    |agg hc=>
     refine af h (RA:=fF) ?_ λ_ _ _ z A e=>ah rfl;rw[<-b8,<-b8];refine oa fields.toList h _ λf hf y k c u=>?_;refine aN (λ_=>?_) λ_=>ah rfl;refine af c (kI c f.type (VA.mono k hc) f.offset) λB r g p C l=>?_;exact af g (q g m f.type (a f hf) l) λ_ _ _ _ _ _=>ah rfl
    |_=>exact ak
   |_=>cases hv<;>exact ah rfl
inductive ua(F:ab->Bool)(ρ:Ren):Option (Nat×Value)->Option (Nat×Value)->Prop
 |none:ua F ρ none none
 |some (i:Nat) {v v':Value} (h:VR F ρ v v'):ua F ρ (some (i,v)) (some (i,v'))
def C3(d:ar){k k' e e':Value}(a:VR F ρ k k')(b:VR F ρ e e'):bA d k e=bA d k' e'\/(bA d k e=none/\(k=.tuple #[]\/e=.tuple #[])):=by
 cases a with
 |hole=>exact .inr ⟨by cases d<;>rfl,.inl rfl⟩
 |_=>cases b with
  |hole=>exact .inr ⟨by cases d<;>rfl,.inr rfl⟩
  |_=>left;cases d<;>rfl
def LC{t:ac}{d:ar}(hd:tY T t=some d){k e:Value}{b:Bool}(h:bA d k e=some b){a:Type}(f:Bool->Sem a)(hf:bW T fB (f b)):bW T fB (br (bb t k e) f):=by
 unfold bb bc bd;show bW T fB (br (br (aq t) _) f);rw[wX];show bW T fB (br (match tY T t with|some d=>_|none=>stuck "no such type") f);rw[hd];unfold bA at h
 split at h
 ·split at h
  ·injection h with h
   subst h;rename_i c;simp only[c,if_true];exact hf
  ·cases h
 ·injection h with h;subst h;exact hf
 ·injection h with h;subst h;exact hf
 ·cases h
def C4{t:ac}{d:ar}(hd:tY T t=some d){k k':Value}(j:VR F ρ k k'):∀{es a:List aB}(i:Nat),bD F ρ es a->
 (bL d k es i=none/\bL d k' a i=none)\/(∃r f,bL d k es i=some r/\bL d k' a i=some f/\ua F ρ r f)\/(bL d k es i=none/\bW T fB (bM t k es i)):=by
 intro es
 induction es with
 |nil=>intro a i h;cases h;exact .inr (.inl ⟨_,_,rfl,rfl,.none⟩)
 |cons e es l=>
  intro a i h
  cases h with
  |cons g m=>
   rcases C3 d j g.key with hs|⟨hs,c⟩
   ·simp only[bL,<-hs]
    cases hb:bA d k e.key with
    |none=>exact .inl ⟨rfl,rfl⟩
    |some b=>cases b with
     |true=>exact .inr (.inl ⟨_,_,rfl,rfl,.some i g.val⟩)
     |false=>
      rcases l (i+1) m with h|h|⟨n,o⟩
      ·exact .inl h
      ·exact .inr (.inl h)
      ·exact .inr (.inr ⟨n,LC hd hb _ o⟩)
   ·refine .inr (.inr ⟨by simp only[bL,hs],?_⟩);show bW T fB (br (bb t k e.key) _)
    rcases c with c|c
    ·rw[c];exact(Ol t _).bind
    ·rw[c];exact(Om t _).bind
def zy(t:ac):∀{es c:List aB}{ρ:Ren}(_:ρ.bw T.globals.size){k k':Value}(_:VR F ρ k k')(i:Nat),bD F ρ es c->av T fB fA F K (λσ r j=>ua F σ r j) ρ (bM t k es i) (bM t k' c i):=by
 intro es
 induction es with
 |nil=>intro c ρ d k k' f i h;cases h;exact ah .none
 |cons e es l=>
  intro c ρ d k k' f i h
  cases h with
  |cons g m=>
   refine af d (qS _ d t f g.key) λσ a n b b' e=>?_;subst e;exact aN (λ_=>ah (.some i (g.val.mono a))) λ_=>l n (f.mono a) (i+1) (m.mono a)
def wZ(j:ρ.bw T.globals.size)(t:ac){k k':Value}(f:VR F ρ k k'){es g:List aB}(h:bD F ρ es g):av T fB fA F K (λσ r i=>ua F σ r i) ρ (bR t k es) (bR t k' g):=by
 unfold bR;refine af j (fG t) λσ a l d n e=>?_;obtain⟨rfl,hd⟩:=e
 rcases C4 (fB:=fB) hd (f.mono a) 0 (h.mono a) with⟨b,c⟩|⟨r,i,b,c,m⟩|⟨b,c⟩
 ·rw[b,c];exact zy t l (f.mono a) 0 (h.mono a)
 ·rw[b,c];exact ah m
 ·rw[b];exact c.rel _
def bD.isEmpty{es a:Array aB}(h:bD F ρ es.toList a.toList):es.isEmpty=a.isEmpty:=by
 have:=h.length;simp only[Array.length_toList]at this;simp[Array.isEmpty,this]
def bD.get?{l l':List aB}(h:bD F ρ l l')(i:Nat):(l[i]?=none/\l'[i]?=none)\/∃e e',l[i]?=some e/\l'[i]?=some e'/\zo F ρ e e':=by
 induction h generalizing i with
 |nil=>exact .inl ⟨rfl,rfl⟩
 |cons a _ b=>
  cases i with
  |zero=>exact .inr ⟨_,_,rfl,rfl,a⟩
  |succ i=>simpa using b i
def bD.append{l l' m m':List aB}(x:bD F ρ l l')(y:bD F ρ m m'):bD F ρ (l++m) (l'++m'):=by
 induction x with
 |nil=>exact y
 |cons a _ b=>exact .cons a b
def bD.modify{l l':List aB}(x:bD F ρ l l')(i:Nat){f f':aB->aB}(hf:∀e e',zo F ρ e e'->zo F ρ (f e) (f' e')):bD F ρ (l.modify i f) (l'.modify i f'):=by
 induction x generalizing i with
 |nil=>cases i<;>exact .nil
 |cons a t b=>
  cases i with
  |zero=>exact .cons (hf _ _ a) t
  |succ i=>exact .cons a (b i)
def bD.filter{l l':List aB}(x:bD F ρ l l'){p:aB->Bool}(c:∀e e':aB,e.born=e'.born->p e=p e'):bD F ρ (l.filter p) (l'.filter p):=by
 induction x with
 |nil=>exact .nil
 |cons a t b=>
  rw[ch,ch,<-c _ _ a.born]
  split
  ·exact .cons a b
  ·exact b
def bD.find?{l l':List aB}(x:bD F ρ l l'){p:aB->Bool}(b:∀e e':aB,e.born=e'.born->p e=p e'):(l.find? p=none/\l'.find? p=none)\/∃e e',l.find? p=some e/\l'.find? p=some e'/\zo F ρ e e':=by
 induction x with
 |nil=>exact .inl ⟨rfl,rfl⟩
 |cons a t c=>
  rw[ci,ci,<-b _ _ a.born]
  split
  ·exact .inr ⟨_,_,rfl,rfl,a⟩
  ·exact c
def bD.all{l l':List aB}(x:bD F ρ l l'){p:aB->Bool}(b:∀e e':aB,e.born=e'.born->p e=p e'):l.all p=l'.all p:=by
 induction x with
 |nil=>rfl
 |cons a t c=>simp only[cl,b _ _ a.born,c]
def LD{Z:ac->Bool}(H:dM T F Z)(I:ρ.bw T.globals.size)(t:ac){m:Nat}(J:∀k e,tY T t=some (.map k e)->og T m k=true/\Z e=true){x y i l:Value}(s:VR F ρ x y)(hi:VR F ρ i l)(ok:Bool) :
 av T fB fA F K (RV F) ρ (bT t x i ok) (bT t y l ok):=by
 unfold bT;refine af I (fG t) λσ f A d R e=>?_;obtain⟨rfl,L⟩:=e;have s:=s.mono f;have hi:=hi.mono f
 cases d with
 |map key elem=>
  obtain⟨zz,M⟩:=J key elem L;have a:∀c:Ren,σ.le c->c.bw T.globals.size->∀es n:Array aB,bD F c es.toList n.toList->av T fB fA F K (RV F) c
   (do
     bx es.isEmpty 10000 key i
     let(v,u)<-match<-bR key i es.toList with
      |some (_,v)=>pure (v,true)
      |none=>pure (<-zeroValue elem,false)
     pure (if ok then .tuple #[v,.bool u] else v))
   (do
     bx n.isEmpty 10000 key l
     let(v,u)<-match<-bR key l n.toList with
      |some (_,v)=>pure (v,true)
      |none=>pure (<-zeroValue elem,false)
     pure (if ok then .tuple #[v,.bool u] else v)):=by
   intro c p q es n B;rw[bD.isEmpty B];refine af q (uW _ _ q m key zz (hi.mono p)) λS C D _ _ _=>?_;refine af D (wZ D key ((hi.mono p).mono C) (B.mono C)) λN U E r V w=>?_;have fin:∀(g:Ren)(v v':Value)(b:Bool),VR F g v v'->av T fB fA F K (RV F) g (pure (if ok then .tuple #[v,.bool b] else v):Sem Value) (pure (if ok then .tuple #[v',.bool b] else v'):Sem Value):=by
    intro g v v' b hv;refine ah ?_
    split
    ·exact .tuple (VA.two hv (.bool b))
    ·exact hv
   cases w with
   |none=>
    exact af E (gO H E M) λg _ _ z O P=>fin g z O false P.1
   |some j hv=>exact fin N _ _ true hv
  cases s with
  |qQ=>exact a σ (Ren.le_refl _) A #[] #[] .nil
  |map w=>
   refine af A (dA w) λc p q o W Q=>?_
   cases Q with
   |map clock h=>exact a c p q _ _ h
   |_=>exact bz
  |_=>exact bz
 |_=>exact ak
def Bf(g:ρ.bw T.globals.size):∀(n:Nat){a a' b b':Value},VR F ρ a a'->VR F ρ b b'->bX n a b=true->bX n a' b'=true:=by
 intro n;have ptr:∀{a a' b b':Addr},AR ρ a a'->AR ρ b b'->(some a==some b)=true->(some a'==some b')=true:=by
  intro a a' b b' c hb;rw[beq_iff_eq,beq_iff_eq,Option.some_inj,Option.some_inj];exact(AR.eq_iff g c hb).1
 induction n with
 |zero=>
  intro a a' b b' c hb
  cases c with
  |hole=>intro h;unfold bX at h;cases h
  |_=>cases hb with
   |hole=>intro h;unfold bX at h;cases h
   |_=>first|exact id|(unfold bX;first|exact id|exact ptr (by assumption) (by assumption))|(intro h;unfold bX at h;cases h)
 |succ n f=>
  intro a a' b b' c hb
  cases c with
  |hole=>intro h;unfold bX at h;cases h
  |iface t c=>
   cases hb with
   |iface u hb=>
    simp only[bX,co];exact fun⟨x,y⟩=>⟨x,f c hb y⟩
   |_=>intro h;unfold bX at h;cases h
  |agg c=>
   cases hb with
   |agg hb=>
    have all:∀{l d m m':List Value},cU F ρ l d->cU F ρ m m'->((l.zip m).all fun(x,y)=>bX n x y)=true->((d.zip m').all fun(x,y)=>bX n x y)=true:=by
     intro l
     induction l with
     |nil=>intro d m m' h _ _;cases h;rfl
     |cons x l e=>
      intro d m m' h k
      cases h with
      |cons i j=>
       cases k with
       |nil=>intro _;rfl
       |cons k1 k2=>
        simp only[cm,cl,co];exact fun⟨x,y⟩=>⟨f i k1 x,e j k2 y⟩
    simp only[bX,VA.size c,VA.size hb,co];exact fun⟨x,y⟩=>⟨x,all c hb y⟩
   |_=>intro h;unfold bX at h;cases h
  |_=>cases hb with
   |hole=>intro h;unfold bX at h;cases h
   |_=>first|exact id|(unfold bX;first|exact id|exact ptr (by assumption) (by assumption))|(intro h;unfold bX at h;cases h)
def C5(a b:ByteArray):(a==b)=true↔a=b:=by
 obtain⟨x⟩:=a;obtain⟨y⟩:=b;show(x==y)=true↔_;rw[beq_iff_eq];simp
def C6:∀(n:Nat){a b:Value},bX n a b=true->a=b:=by
 intro n
 induction n with
 |zero=>intro a b h;cases a<;>cases b<;>first|rfl|(unfold bX at h;exact cp h)|(unfold bX at h;simp only[co,beq_iff_eq,C5]at h;simp[h])
 |succ n d=>
  intro a b h;have all:∀{l m:List Value},l.length=m.length->((l.zip m).all fun(x,y)=>bX n x y)=true->l=m:=by
   intro l
   induction l with
   |nil=>intro m e _;cases m with
    |nil=>rfl
    |cons _ _=>cases e
   |cons x l c=>
    intro m e k
    cases m with
    |nil=>cases e
    |cons y m=>
     simp only[cm,cl,co]at k;rw[d k.1,c (by simpa using e) k.2]
  cases a<;>cases b<;>first
   |rfl
   |(unfold bX at h;exact cp h)
   |(unfold bX at h;simp only[co,beq_iff_eq]at h;rw[h.1,d h.2];done)
   |(unfold bX at h;simp only[co,beq_iff_eq]at h;exact congrArg Value.agg (Array.ext' (all (by simpa using h.1) h.2)))
   |(unfold bX at h;simp only[co,beq_iff_eq,C5]at h;simp[h];done)
def Aa{es c:Array aB}(h:bD F ρ es.toList c.toList)(i:Nat){k k':Value}(d:VR F ρ k k'):VR F ρ (((es[i]?).map (·.key)).getD k) (((c[i]?).map (·.key)).getD k'):=by
 rcases bD.get? h i with⟨a,b⟩|⟨e,g,a,b,f⟩
 ·simp only[b9]at a b;rw[a,b];exact d
 ·simp only[b9]at a b;rw[a,b];exact f.key
def lK(mapType:ac)(map key:Value):Sem (Nat×Array aB×Nat×Option (Nat×Value)):=do
 let .map keyType _<-aq mapType|stuck "MapUpdate: map type expected"
 match map with
 |.map none=>runtimePanic (.plain "assignment to entry in nil map")
 |.map (some r)=>
  let .map es clock<-getObj r|stuck "MapUpdate: map expected"
  bx false 10000 keyType key
  let f<-bR keyType key es.toList
  pure (r,es,clock,f)
 |_=>stuck "MapUpdate: map expected"
def rZ(key value:Value)(x:Nat×Array aB×Nat×Option (Nat×Value)):Sem Unit:=
 match x.2.2.2 with
 |some (i,_)=>do
  let key<-b2 (((x.2.1[i]?).map (·.key)).getD key) key
  aF x.1 (.map (x.2.1.modify i λe=>{ e with key,val:=value }) x.2.2.1)
 |none=>aF x.1 (.map (x.2.1.push { key,val:=value,born:=x.2.2.1 }) (x.2.2.1+1))
def jg(t:ac)(m k v:Value):b3 t m k v=br (lK t m k) (rZ k v):=by
 unfold b3 lK;show br _ _=br (br _ _) _;rw[bt];congr 1;funext d;cases d<;>try rfl
 cases m<;>try rfl
 rename_i r
 cases r with
 |none=>rfl
 |some r=>
  show br _ _=br (br _ _) _;rw[bt];congr 1;funext o;cases o<;>try rfl
  show br _ _=br (br _ _) _;rw[bt];congr 1;funext _;show br _ _=br (br _ _) _;rw[bt];congr 1
def acf(F:ab->Bool)(ρ:Ren)(x a:Nat×Array aB×Nat×Option (Nat×Value)):Prop:=ρ x.1 a.1/\bD F ρ x.2.1.toList a.2.1.toList/\x.2.2.1=a.2.2.1/\ua F ρ x.2.2.2 a.2.2.2
def uX(s:ρ.bw T.globals.size)(t:ac){m:Nat}(u:∀k e,tY T t=some (.map k e)->og T m k=true){x h i j:Value}(f:VR F ρ x h)(hi:VR F ρ i j) :
 av T fB fA F K (acf F) ρ (lK t x i) (lK t h j):=by
 unfold lK;refine af s (fG t) λσ b v d A e=>?_;obtain⟨rfl,w⟩:=e;have f:=f.mono b;have hi:=hi.mono b
 cases d with
 |map key elem=>
  have zz:=u key elem w
  cases f with
  |qQ=>exact zv _
  |map a=>
   refine af v (dA a) λB l n o C y=>?_;have a:=l a;have hi:=hi.mono l
   cases y with
   |map clock c=>
    refine af n (uW _ _ n m key zz hi) λD g p _ _ _=>?_;have a:=g a;have hi:=hi.mono g;have c:=c.mono g;refine af p (wZ p key hi c) λE q H r I z=>?_;exact ah ⟨q a,c.mono q,rfl,z⟩
   |_=>exact ak
  |_=>exact ak
 |_=>exact ak
def LF{c:Type}(P:Program)(r:Nat)(o:Obj)(a:c)(w:World)(b:Nat->Question->Nat)(d:Nat):(bu r o (.pure a)).run P (w.re b d)=((bu r o (.pure a)).run P w).re b d:=by
 show(match w.heap[r]? with|some (.cells ..)=>_|some _=>_|none=>_)=Result.re (match w.heap[r]? with|some (.cells ..)=>_|some _=>_|none=>_) b d
 cases w.heap[r]? with
 |none=>rfl
 |some o=>cases o<;>rfl
def Oo(d:ρ.bw T.globals.size){w w':World}(o:WR T.globals.size F K ρ w w')(p:w.tape=w'.tape)(hd:w.drawn=w'.drawn){i q v v':Value}(hi:VR F ρ i q)(hv:VR F ρ v v')
 {x t:Nat×Array aB×Nat×Option (Nat×Value)} (I:acf F ρ x t) (c:Array Event) :
 qp T.globals.size F K fF ρ w w' c ((rZ q v' t).runT ⟨T,fA⟩ w' c) ((rZ i v x).run ⟨T,fB⟩ w):=by
 obtain⟨r,es,clock,O⟩:=x;obtain⟨H,u,P,J⟩:=t;obtain⟨s,l,hc,m⟩:=I;simp only at s l hc m;subst hc;have put:∀(j:Nat){k k':Value},VR F ρ k k'->av T fB fA F K fF ρ (aF r (.map (es.modify j λe=>{ e with key:=k,val:=v }) clock)) (aF H (.map (u.modify j λe=>{ e with key:=k',val:=v' }) clock)):=by
  intro j k k' y;refine dV s (.map _ ?_);rw[ca,ca];exact bD.modify l j λe L z=>⟨y,hv,z.born⟩
 cases m with
 |none=>
  refine(av.run c ?_ d o p hd).zu;refine dV s (.map _ ?_);rw[cb,cb];exact bD.append l (.cons ⟨hi,hv,rfl⟩ .nil)
 |some j _=>
  have hold:=Aa l j hi;unfold rZ;simp only;generalize(((es[j]?).map (·.key)).getD i)=f at hold;generalize(((u[j]?).map (·.key)).getD q)=A at hold;unfold b2;by_cases B:bX 10000 f i=true
  ·rw[if_pos B,if_pos (Bf d _ hold hi B)];exact(av.run c (put j hi) d o p hd).zu
  ·rw[if_neg B];by_cases g:bX 10000 A q=true
   ·rw[if_pos g];obtain rfl:=C6 _ g;have one:∀n:Nat,qp T.globals.size F K fF ρ w w' c ((aF H (.map (u.modify j λe=>{ e with key:=A,val:=v' }) clock)).runT ⟨T,fA⟩ w' c)
     ((aF r (.map (es.modify j λe=>{ e with key:=if n=0 then i else f,val:=v }) clock)).run ⟨T,fB⟩ (w.re w.tape (w.drawn+1))):=by
     intro n;have h:=av.run c (put j (k:=if n=0 then i else f) (k':=A) (by split<;>assumption)) d o p hd;unfold aF;rw[LF];unfold aF at h;generalize(bu r _ (.pure ())).run ⟨T,fB⟩ w=res at h
     match res,h with
     |.ok a w2,⟨C,M,D,E,e,k,N⟩=>exact⟨C,M,D,E,w2.tape,w2.drawn,e,k,N⟩
     |.halt (.panic v) w2,⟨C,v',D,E,e,k,hv⟩=>exact⟨C,v',D,E,w2.tape,w2.drawn,e,k,hv⟩
     |.halt .blocked _,h=>exact h
     |.halt .waiting _,h=>exact h
     |.halt (.exit _) _,h=>exact h
     |.halt (.fatal _) _,h=>exact h
     |.halt (.throw _) _,h=>exact h
     |.halt .goexit _,h=>exact h
     |.halt (.unsupported _) _,h=>exact h
     |.halt (.stuck _) _,_=>trivial
    exact one (Question.cut (.extern "map.whichKeyStays" 2) (w.tape w.drawn (.extern "map.whichKeyStays" 2)))
   ·rw[if_neg g];refine(av.run c ?_ d o p hd).zu;refine av.bind d (RA:=RV F) ?_ λσ b _ k k' y=>?_
    ·refine af d (lH _) λσ b _ n n' e=>?_;subst e;refine ah ?_
     split
     ·exact hi.mono b
     ·exact hold.mono b
    ·refine dV (b s) (.map _ ?_);rw[ca,ca];exact bD.modify (l.mono b) j λe L z=>⟨y,hv.mono b,z.born⟩
def Ty(c:ρ.bw T.globals.size){w w':World}(n:WR T.globals.size F K ρ w w')(o:w.tape=w'.tape)(hd:w.drawn=w'.drawn)(t:ac){m:Nat}(p:∀k e,tY T t=some (.map k e)->og T m k=true){x d i f v v':Value}(q:VR F ρ x d)(hi:VR F ρ i f)(hv:VR F ρ v v')(b:Array Event) :
 qp T.globals.size F K fF ρ w w' b ((b3 t d f v').runT ⟨T,fA⟩ w' b) ((b3 t x i v).run ⟨T,fB⟩ w):=by
 rw[jg,jg,Sem.run_bind',Sem.runT_bind'];have h:=av.run b (uX (fB:=fB) (fA:=fA) (F:=F) (K:=K) c t p q hi) c n o hd;generalize(lK t x i).run ⟨T,fB⟩ w=res at h
 match res,h with
 |.ok a w2,⟨g,s,j,l,e,k,r⟩=>
  rw[e];exact qp.step k (Oo k.inj k.wr k.tape k.drawn (hi.mono k.le) (hv.mono k.le) r _)
 |.halt (.panic v) w2,⟨g,v',j,l,e,k,hv⟩=>
  rw[e];exact⟨g,v',j,l,w2.tape,w2.drawn,rfl,k,hv⟩
 |.halt .blocked _,h=>exact h
 |.halt .waiting _,h=>exact h
 |.halt (.exit _) _,h=>exact h
 |.halt (.fatal _) _,h=>exact h
 |.halt (.throw _) _,h=>exact h
 |.halt .goexit _,h=>exact h
 |.halt (.unsupported _) _,h=>exact h
 |.halt (.stuck _) _,_=>trivial
def Ga(a:ρ.bw T.globals.size)(t:ac):av T fB fA F K (RV F) ρ (b4 t none) (b4 t none):=
 af a (jO (.map 0 .nil)) λ_ _ _ _ _ b=>ah (.map b)
def Oq(g:ρ.bw T.globals.size)(t:ac){x l:Value}(b:VR F ρ x l):av T fB fA F K (RV F) ρ (b5 t x) (b5 t l):=by
 unfold b5;refine af g (bk t) λσ i j d p e=>?_;subst e;have b:=b.mono i;have fin:∀(a:Ren),a.bw T.globals.size->∀o c,OR F K a o c->av T fB fA F K (RV F) a (do pure (.pointer (some ⟨<-newObj o,0,none⟩)):Sem Value) (do pure (.pointer (some ⟨<-newObj c,0,none⟩)):Sem Value):=
  λa g o c k=>af g (jO k) λ_ _ _ _ _ f=>ah (.ptr ⟨f,rfl,rfl⟩)
 cases d with
 |string=>cases b<;>first|exact fin σ j _ _ (.stringIter _ _)|exact bz
 |map _ _=>
  cases b with
  |qQ=>exact fin σ j _ _ (.mJ _ _ _)
  |map f=>
   refine af j (dA f) λa m n o c k=>?_
   cases k with
   |map clock h=>exact fin a n _ _ (.mapIter _ _ _ (m f))
   |_=>exact bz
  |_=>exact bz
 |_=>exact bz
def Ot(m:ρ.bw T.globals.size){x g:Value}(q:VR F ρ x g):av T fB fA F K (RV F) ρ (b6 x) (b6 g):=by
 unfold b6
 cases q with
 |@ptr a s t=>
  obtain⟨r,off,sp⟩:=a;obtain⟨E,u,v⟩:=s;obtain⟨i,e1,j⟩:=t;simp only at i e1 j;subst e1 j
  cases off with
  |succ n=>exact ak
  |zero=>
   refine af m (dA i) λσ w y o H z=>?_
   cases z with
   |mapIter a b c A=>
    simp only
    cases b.back? with
    |none=>exact ak
    |some d=>
     refine af y (dA A) λI J L p M B=>?_
     cases B with
     |map clock C=>
      refine aN (λ_=>aM) λ_=>?_;rw[<-cc,<-cc]
      rcases bD.find? C (p:=λe=>e.born==d) (λe D h=>by rw[h]) with⟨f,k⟩|⟨e,D,f,k,l⟩
      ·rw[f];exact aA
      ·rw[f,k];exact ah (.tuple (VA.two l.key l.val))
     |_=>exact ak
   |_=>exact ak
 |_=>exact ak
inductive gS(F:ab->Bool)(ρ:Ren):List (Option aB)->List (Option aB)->Prop
 |nil:gS F ρ [] []
 |no {l l':List (Option aB)} (t:gS F ρ l l'):gS F ρ (none::l) (none::l')
 |yes {e e':aB} {l l':List (Option aB)} (h:zo F ρ e e') (t:gS F ρ l l'):gS F ρ (some e::l) (some e'::l')
def gS.of{l l':List aB}(h:bD F ρ l l'):gS F ρ (l.map some) (l'.map some):=by
 induction h with
 |nil=>exact .nil
 |cons a _ b=>exact .yes a b
def gS.append{l l' m m':List (Option aB)}(x:gS F ρ l l')(y:gS F ρ m m'):gS F ρ (l++m) (l'++m'):=by
 induction x with
 |nil=>exact y
 |no _ b=>exact .no b
 |yes a _ b=>exact .yes a b
def gS.length{l l':List (Option aB)}(x:gS F ρ l l'):l.length=l'.length:=by
 induction x with
 |nil=>rfl
 |no _ b=>simp[b]
 |yes a _ b=>simp[b]
def gS.get?{l l':List (Option aB)}(x:gS F ρ l l')(i:Nat):(l[i]?=none/\l'[i]?=none)\/(l[i]?=some none/\l'[i]?=some none)\/∃e e',l[i]?=some (some e)/\l'[i]?=some (some e')/\zo F ρ e e':=by
 induction x generalizing i with
 |nil=>exact .inl ⟨rfl,rfl⟩
 |no _ b=>
  cases i with
  |zero=>exact .inr (.inl ⟨rfl,rfl⟩)
  |succ i=>simpa using b i
 |yes a _ b=>
  cases i with
  |zero=>exact .inr (.inr ⟨_,_,rfl,rfl,a⟩)
  |succ i=>simpa using b i
def Tz(N:ρ.bw T.globals.size){x E:Value}(O:VR F ρ x E)(b:Bool)(t:ac):av T fB fA F K (RV F) ρ (b7 x b t) (b7 E b t):=by
 unfold b7
 cases O with
 |@ptr a P Q=>
  obtain⟨r,off,sp⟩:=a;obtain⟨Y,R,S⟩:=P;obtain⟨d,e1,H⟩:=Q;simp only at d e1 H;subst e1 H
  cases off with
  |succ n=>exact ak
  |zero=>
   refine af N (dA d) λσ y I o Z U=>?_;have d:=y d;have over:∀g:Ren,av T fB fA F K (RV F) g (pure (.tuple #[.bool false]):Sem Value) (pure (.tuple #[.bool false]):Sem Value):=λg=>ah (.tuple (VA.one (.bool _)))
   cases U with
   |stringIter s pos=>
    cases b with
    |true=>
     refine aN (λ_=>?_) λ_=>over _;refine af I (dV d (.stringIter _ _)) λ_ _ _ _ _ _=>?_;exact ah (.tuple (VA.three (.bool _) (.int _ _) (.int _ _)))
    |false=>exact ak
   |mJ a1 b1 c1=>
    cases b with
    |false=>exact over _
    |true=>exact ak
   |@mapIter m m' since seen last j=>
    cases b with
    |true=>exact ak
    |false=>
     refine af I (dA j) λg J V p p' W=>?_
     cases W with
     |@map es k clock z=>
      have j:=J j;have d:=J d;have e1:(!seen.isEmpty && !es.isEmpty&&es.all (·.born>=last))=(!seen.isEmpty && !k.isEmpty&&k.all (·.born>=last)):=by
       rw[bD.isEmpty z,<-cd,<-cd,bD.all z (p:=λe=>decide (e.born>=last)) (λe l h=>by rw[h])]
      simp only[e1];refine aN (λ_=>aM) λ_=>?_;have q:bD F g (es.filter λe=>!seen.contains e.born).toList (k.filter λe=>!seen.contains e.born).toList:=by
       rw[ce,ce];exact bD.filter z λe l h=>by rw[h]
      generalize(es.filter λe=>!seen.contains e.born)=left at q;generalize(k.filter λe=>!seen.contains e.born)=u at q;have hold:bD F g (left.filter (·.born<since)).toList (u.filter (·.born<since)).toList:=by
       rw[ce,ce];exact bD.filter q λe l h=>by rw[h]
      have A:bD F g (left.filter (·.born>=since)).toList (u.filter (·.born>=since)).toList:=by
       rw[ce,ce];exact bD.filter q λe l h=>by rw[h]
      generalize(left.filter (·.born<since))=c at hold;generalize(u.filter (·.born<since))=v at hold;generalize(left.filter (·.born>=since))=new at A;generalize(u.filter (·.born>=since))=L at A;have hc:gS F g ((if c.isEmpty then #[none] else #[])++(c++new).map some).toList ((if v.isEmpty then #[none] else #[])++(v++L).map some).toList:=by
       rw[cf,cf,cg,cg,cf,cf,bD.isEmpty hold];refine gS.append ?_ (gS.of (bD.append hold A))
       split
       ·exact .no .nil
       ·exact .nil
      generalize((if c.isEmpty then #[none] else #[])++(c++new).map some)=B at hc;generalize((if v.isEmpty then #[none] else #[])++(v++L).map some)=C at hc;have hs:B.size=C.size:=by simpa using hc.length
      simp only[hs];refine af V (lH _) λυ w X n n' e=>?_;subst e
      rcases gS.get? hc n with⟨f,i⟩|⟨f,i⟩|⟨e,l,f,i,D⟩
      ·simp only[b9]at f i;rw[f];exact ak
      ·simp only[b9]at f i;rw[f,i];exact over _
      ·simp only[b9]at f i;rw[f,i];simp only[<-D.born];refine af X (dV (w d) (.mapIter _ _ _ (w j))) λ_ M _ _ _ _=>?_;exact ah (.tuple (VA.three (.bool _) ((D.key.mono w).mono M) ((D.val.mono w).mono M)))
     |_=>exact ak
   |_=>cases b<;>exact ak
 |_=>exact ak
def LG{x b:Value}(d:VR F ρ x b):av T fB fA F K (λ_ n n'=>n=n'/\∀a c,x=.slice a 0 c->n=0) ρ (bp x) (bp b):=by
 cases d<;>first|exact ah ⟨rfl,λa c h=>by cases h;rfl⟩|exact ah ⟨rfl,λa c h=>by cases h⟩|exact ak
def Gb(size:Nat){x d:Value}(g:VR F ρ x d):av T fB fA F K (λ_ a a'=>a=#[]/\a'=#[]) ρ (bq size 0 x) (bq size 0 d):=by
 have f:∀a a':Addr,av T fB fA F K (λ_ a a'=>a=#[]/\a'=#[]) ρ (aH a (0*size)) (aH a' (0*size)):=by
  intro a a';rw[Nat.zero_mul];exact ah ⟨rfl,rfl⟩
 cases g with
 |slice l c j=>exact f _ _
 |dK D a=>exact f _ _
 |di l c=>exact ah ⟨rfl,rfl⟩
 |string s=>
  have e:(s.extract 0 0).data.map (λb=>Value.int .u8 b.toNat)=#[]:=by
   have h:(s.extract 0 0).size=0:=by simp
   have i:(s.extract 0 0).data.size=0:=h;rw[Array.eq_empty_of_size_eq_zero i];simp
  refine ah ?_;rw[e];exact⟨rfl,rfl⟩
 |_=>exact ak
def kZ(d:ρ.bw T.globals.size)(size n:Nat){x b:Value}(e:VR F ρ x b)(f:∀a c,x=.slice a 0 c->n=0):av T fB fA F K (RVA F) ρ (bq size n x) (bq size n b):=by
 cases e with
 |dK D a=>
  obtain rfl:=f _ _ rfl;show(av T fB fA F K) (RVA F) ρ (aH _ (0*size)) (aH _ (0*size));rw[Nat.zero_mul];exact ah VA.nil
 |slice l c g=>exact rU d g _
 |di l c=>exact ah VA.nil
 |string s=>
  refine ah ?_;show cU _ _ _ _;rw[cg];exact cU.map _ λ_ _=>.int _ _
 |_=>exact ak
end
end Go.bJ
