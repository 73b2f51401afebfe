/- Part of the proof of FieldVisits. -/
import Derived.Test.YtjofbkgobnbdoaaGreatT08
set_option linter.all false
open Go.Proofs.Tryz renaming progTables->aa,funcs->ab,func39->ac
open Array renaming getElem?_setIfInBounds_self_of_lt->ad
open Go.Frame renaming enter->ae
open List renaming range->ai,replicate->ao,range'->ap,map_toArray->aq,map_cons->ar,map_nil->aw,mem_cons->aB
open Go renaming Program->aF,FuncId->aH,Goroutine->aI,TypeId->aJ,TypeDesc->aL,TypeInfo->aP,zeroValue->aS,Operand->aT,execOp->a5,eqGuard->a6,loadVar->a7,loadCellsFrom->a8
open Go.bJ renaming Way->a9,codeOk->ba
open ByteArray renaming empty->bb
open Go.Ph renaming xH->bc,dY->bd
open Go.Instr renaming build->bg,fill->bi
open Go.Result renaming andThen->bj,ok->bm
open Option.some renaming inj->bo,injEq->bp
open Go.Value renaming agg->bq,int->br,string->bs
open Nat renaming lt_irrefl->bt,lt_or_ge->bv,zero_le->bw,add_zero->bx,zero_add->bA,zero_mul->bC,eq_zero_or_pos->bL,not_lt_zero->bM,mul_comm->bR
open Go.ConcN renaming upd_same->bT,upd_ne->bX
open Int renaming toNat_natCast->b6
open Go.World renaming cell?->b8
namespace Go.Proofs
open Go.bJ Go.Conc Go.Ph
set_option maxRecDepth 100000
def Eh:cY.funcs.size<=cn:=of_decide_eq_true (by kernel_rfl)
def aeA:Jg aa cY.funcs FF NN ZZ 156=true:=by kernel_rfl
def JN:Fits aa cY.funcs ab FF XX ZZ:=by
 refine BJ Jh (n:=156) (λf hf=>of_decide_eq_true (Bool.and_eq_true_iff.1 hf).1) (λf a=>?_) (λf a=>?_) acG Eh
 ·have b:39≠f:=λe=>by subst e;cases a
  show(Tryz.funcs.setIfInBounds 39 nS)[f]?=_;rw[Array.getElem?_setIfInBounds_ne b]
 ·obtain rfl:f=39:=by simpa[XX]using a
  have hl:39<Tryz.funcs.size:=(Array.getElem?_eq_some_iff.1 ac).1;refine⟨⟨nS,?_,rfl,by decide +kernel⟩,Tryz.f39,ac,rfl,by decide +kernel⟩;show(Tryz.funcs.setIfInBounds 39 nS)[39]?=_;rw[ad hl]
def bV:Fits aa cY.funcs cY.funcs FF NN ZZ:=
 BJ Jh (n:=156) (λf hf=>of_decide_eq_true (Bool.and_eq_true_iff.1 hf).1) (λf _=>rfl) (λf a=>by cases a) aeA Eh
def JO:cY.funcs[39]?=some nS:=by
 have hl:39<Tryz.funcs.size:=(Array.getElem?_eq_some_iff.1 ac).1;show(Tryz.funcs.setIfInBounds 39 nS)[39]?=_;rw[ad hl]
def ZU(a:Array Value):∃H r,(∀v,a[0]?=some v->H 0=v)/\(a=#[]->H 0=undef)/\ae cY 39 a .normal=⟨39,⟨(ai 98).map H++r⟩,[.code sU],[],.run,.normal,none⟩:=by
 obtain⟨L⟩:=a;obtain⟨H,r,e⟩:=Qc 98 (L++ao (98-L.length) undef) (by simp;omega);have d:(L++ao (98-L.length) undef)[0]?=some (H 0):=by
  rw[e,List.getElem?_append_left (by simp)];simp
 refine⟨H,r,λv hv=>?_,λf=>?_,?_⟩
 ·cases L with
  |nil=>simp at hv
  |cons x L=>
   have b:x=v:=by simpa using hv
   have c:x=H 0:=by simpa using d
   rw[<-c,b]
 ·have:L=[]:=by simpa using f
  subst this;simpa using d.symm
 ·have hf:cY.funcs[39]?=some nS:=JO;unfold ae;simp only[hf,Option.map_some,Option.getD_some,Option.bind_some];have b:nS.ntmps=98:=rfl;have c:nS.body=some sU:=rfl;rw[b,c];congr 1;apply Array.ext';simp only[Array.toList_append,Array.toList_replicate,List.size_toArray];exact e
open Go.ConcN (upd upd_ne upd_same)
noncomputable abbrev PC:aF:=⟨aa,cY.funcs⟩
section
variable {f:aH}{R:Value->World->Prop}{g0:aI}{w0 w w':World}{H:Nat->Value}{r:List Value}{cs:List Frame}{i d x y:Nat}{ρ:Ren}{ops:Array Oper}{m:Nat}{K:List Item}
structure Wi(f:aH)(R:Value->World->Prop)(g0:aI)(w0:World)(r:List Value)(cs:List Frame)(ops:Array Oper)(m:Nat)(K:List Item)(H:Nat->Value)(i:Nat)(w:World):Prop where
 hc:2<=cs.length
 way:a9 aa cY.funcs FF ZZ f R g0 w0 (SL 98 H r ops (ap i (m-i)) K 39 cs) w
def rng(h:i<m):ap i (m-i)=i::ap (i+1) (m-(i+1)):=by
 rw[show m-i=(m-(i+1))+1 by omega,List.range'_succ]
def Wi.at(h:Wi f R g0 w0 r cs ops m K H i w)(hi:i<m):a9 aa cY.funcs FF ZZ f R g0 w0 (SL 98 H r ops (i::ap (i+1) (m-(i+1))) K 39 cs) w:=by
 rw[<-rng hi];exact h.way
def Wi.next{op:Op}{v:Value}{w1:World}(hc:2<=cs.length)(a:ops[i]?=some (aD (some d) op none))(hd:d<98)(h:a9 aa cY.funcs FF ZZ f R g0 w0 (fin (SL 98 H r ops (i::ap (i+1) (m-(i+1))) K 39 cs) v) w1):Wi f R g0 w0 r cs ops m K (upd H d v) (i+1) w1:=by
 rw[ZT a rfl hd]at h;exact⟨hc,h⟩
def Wi.int(h:Wi f R g0 w0 r cs ops m K H i w)(hi:i<m)(a:ops[i]?=some (aD (some d) (.binOp .xor 3 (.tmp x) (.const (.int .i64 0)) 3) none))(hd:d<98)(c:x<98):∃n v,H x=.int .i64 n/\Wi f R g0 w0 r cs ops m K (upd H d v) (i+1) w:=by
 obtain⟨n,v,b,e⟩:=(h.at hi).int bV h.hc (jb a rfl rfl) rfl rfl;rw[bH c]at b;exact⟨n,v,b,.next h.hc a hd e⟩
def Wi.str(h:Wi f R g0 w0 r cs ops m K H i w)(hi:i<m)(a:ops[i]?=some (aD (some d) (.binOp .add 9 (.tmp x) (.const (.string bb)) 9) none))(hd:d<98)(c:x<98):∃n v,H x=.string n/\Wi f R g0 w0 r cs ops m K (upd H d v) (i+1) w:=by
 obtain⟨n,v,b,e⟩:=(h.at hi).str bV h.hc (jb a rfl rfl) rfl rfl;rw[bH c]at b;exact⟨n,v,b,.next h.hc a hd e⟩
def Wi.len{t g:aJ}(h:Wi f R g0 w0 r cs ops m K H i w)(hi:i<m)(a:ops[i]?=some (aD (some d) (.call { callee:=.builtin .len,args:=#[.tmp x],argTypes:=#[t] }) none))(j:PC.underlying t=some (.slice g))(hd:d<98)(k:x<98):∃b n c,H x=.slice b n c/\Wi f R g0 w0 r cs ops m K (upd H d (.int .i64 (n:Int))) (i+1) w:=by
 obtain⟨b,n,c,e,l⟩:=(h.at hi).len bV h.hc (jb a rfl rfl) rfl j;rw[bH k]at e;exact⟨b,n,c,e,.next h.hc a hd l⟩
def Wi.JM{t e:aJ}{b:Option Addr}{n c:Nat}(h:Wi f R g0 w0 r cs ops m K H i w)(hi:i<m)(a:ops[i]?=some (aD (some d) (.binOp .eql t (.tmp x) (.const (.slice none 0 0)) t) none))(g:PC.underlying t=some (.slice e))(hd:d<98)(j:x<98)(hv:H x=.slice b n c):Wi f R g0 w0 r cs ops m K (upd H d (.bool b.isNone)) (i+1) w:=
 .next h.hc a hd ((h.at hi).JM bV h.hc (jb a rfl rfl) rfl g ((bH j).trans hv) rfl)
def Wi.add{m1 n:Int}(h:Wi f R g0 w0 r cs ops m K H i w)(hi:i<m)(a:ops[i]?=some (aD (some d) (.binOp .add 3 (.tmp x) (.tmp y) 3) none))(hd:d<98)(b:x<98)(hy:y<98)(hv:H x=.int .i64 m1)(c:H y=.int .i64 n):Wi f R g0 w0 r cs ops m K (upd H d (.int .i64 (IntKind.i64.wrap (m1+n)))) (i+1) w:=
 .next h.hc a hd ((h.at hi).add bV h.hc (jb a rfl rfl) rfl ((bH b).trans hv) ((bH hy).trans c))
def Wi.field{t:aJ}{j:Nat}{fs:Array Field}{fd:Field}{a:aL}(h:Wi f R g0 w0 r cs ops m K H i w)(hi:i<m)(b:ops[i]?=some (aD (some d) (.field t (.tmp x) j) none))(g:PC.underlying t=some (.struct fs))(hf:fs[j]?=some fd)(k:PC.underlying fd.type=some a)(l:qy a=false)(hd:d<98)(n:x<98) :
 ∃c v,H x=.agg c/\c[fd.offset]?=some v/\Wi f R g0 w0 r cs ops m K (upd H d v) (i+1) w:=by
 obtain⟨c,v,e,o,p⟩:=(h.at hi).field bV h.hc (jb b rfl rfl) rfl g hf k l;rw[bH n]at e;exact⟨c,v,e,o,.next h.hc b hd p⟩
def Wi.Hu{t:aJ}{j:Nat}{fs:Array Field}{fd:Field}{b:aL}{a:aP}{c:Array Value}(h:Wi f R g0 w0 r cs ops m K H i w)(hi:i<m)(e:ops[i]?=some (aD (some d) (.field t (.tmp x) j) none))(g:PC.underlying t=some (.struct fs))(hf:fs[j]?=some fd)(k:PC.underlying fd.type=some b)(l:qy b=true)(n:PC.info? fd.type=some a)(hd:d<98)(o:x<98)(hv:H x=.agg c) :
 Wi f R g0 w0 r cs ops m K (upd H d (.agg (c.extract fd.offset (fd.offset+a.size)))) (i+1) w:=
 .next h.hc e hd ((h.at hi).Hu bV h.hc (jb e rfl rfl) rfl ((bH o).trans hv) g hf k l n)
def Wi.load{t:aJ}{k:aL}{b:aP}{a a':Addr}(h:Wi f R g0 w0 r cs ops m K H i w)(hi:i<m)(l:ops[i]?=some (aD (some d) (.load t (.tmp x)) none))(n:WR Tryz.progTables.globals.size FF (ba aa FF ZZ) ρ w w')(o:AR ρ a a')(p:PC.underlying t=some k)(g:qy k=true)(q:PC.info? t=some b)(hd:d<98)(s:x<98)(hv:H x=.pointer (some a)) :
 ∃u e:Nat->Value,(∀j,j<b.size->w.cell? (a.add j)=some (u j)/\w'.cell? (a'.add j)=some (e j)/\VR FF ρ (u j) (e j)/\(∃c t v,w'.heap[a'.block]?=some (.cells c t v)))/\Wi f R g0 w0 r cs ops m K (upd H d (.agg ((ai b.size).map u).toArray)) (i+1) w:=by
 obtain⟨u,e,z,A⟩:=(h.at hi).load bV h.hc (jb l rfl rfl) rfl ((bH s).trans hv) n o p g q;exact⟨u,e,z,.next h.hc l hd A⟩
def Wi.index{t b:aJ}{e:Nat}{a:Addr}{n c:Nat}{k:Int}(h:Wi f R g0 w0 r cs ops m K H i w)(hi:i<m)(g:ops[i]?=some (aD (some d) (.indexAddr t (.tmp x) (.const (.int .i64 k))) none))(j:PC.underlying t=some (.slice b))(hs:(PC.info? b).map (·.size)=some e)(l:0<=k)(o:k<n)(hd:d<98)(p:x<98)(hv:H x=.slice (some a) n c) :
 Wi f R g0 w0 r cs ops m K (upd H d (.pointer (some (a.add (k.toNat*e))))) (i+1) w:=
 .next h.hc g hd ((h.at hi).go bV h.hc (bc (jb g rfl rfl) rfl ((bH p).trans hv) rfl j hs l o))
def Wi.check{j dj:Nat}{b bad:Bool}{op:Op}(h:Wi f R g0 w0 r cs ops m K H i w)(hi:i<m)(a:ops[i]?=some (aD none (.field 3 (.const (.int .i64 0)) 0) (some (j,bad))))(c:ops[j]?=some (aD (some dj) op none))(hd:dj<98)(hb:H dj=.bool b):b = !bad/\Wi f R g0 w0 r cs ops m K H (i+1) w:=by
 have e:∃k,PC.underlying 3=some (.int k):=⟨_,ty3⟩
 obtain⟨g,l⟩:=Go.bJ.Way.check bV (h.at hi) h.hc a rfl rfl rfl e c rfl hd hb;exact⟨g,h.hc,l⟩
def run_build{t:aJ}{fs:Array Field}{z:Value}{a:Array (Nat×Nat)}(parts:Array (Nat×Value))(b:(aS t).run PC w=.ok z w)(e:PC.underlying t=some (.struct fs))(g:(fs.mapM λf=>(do pure (f.offset,<-sizeOf f.type):Sem (Nat×Nat))).run PC w=.ok a w) :
 (bg t parts).run PC w=match bi (a[·]?) z.cells parts.toList with|some c=>.ok (.agg c) w|none=>.halt (.stuck "build: no such field, or a part of the wrong size") w:=by
 unfold bg;simp only[Sem.run_bind,b,bj,run_underlying e,g];generalize bi _ z.cells parts.toList=q;cases q<;>simp
def xY{o:Oper}{ev:aT->Value}{t:aJ}{ps:Array (Nat×aT)}(a:o.op=.build t ps):a5 ev o=(do pure (.value (<-bg t (ps.map fun(i,x)=>(i,ev x)))):Sem Next):=by
 unfold a5;simp only[a]
def Wi.build{t:aJ}{ps:Array (Nat×aT)}{pv:Array (Nat×Value)}{v:Value}(h:Wi f R g0 w0 r cs ops m K H i w)(hi:i<m)(a:ops[i]?=some (aD (some d) (.build t ps) none))(hd:d<98)(b:ps.map (fun(j,x)=>(j,(SL 98 H r ops (i::ap (i+1) (m-(i+1))) K 39 cs).frame.eval x))=pv)(c:(bg t pv).run PC w=.ok v w):Wi f R g0 w0 r cs ops m K (upd H d v) (i+1) w:=by
 have e:=xY (o:=aD (some d) (.build t ps) none) (ev:=(SL 98 H r ops (i::ap (i+1) (m-(i+1))) K 39 cs).frame.eval) (t:=t) (ps:=ps) rfl;rw[b]at e;have hs:=dF (P:=PC) (mn:=true) (v:=v) (w':=w) (w:=w) (g:=SL 98 H r ops (i::ap (i+1) (m-(i+1))) K 39 cs) (jb a rfl rfl) (by rw[e];simp[c]);exact .next h.hc a hd ((h.at hi).go bV h.hc hs)
def Qe{t:aJ}{i:aP}{z:Value}(hi:PC.info? t=some i)(a:i.zero=some z)(w:World):(aS t).run PC w=.ok z w:=by
 simp[aS,typeInfo,hi,a]
def ZX{t:aJ}{z:Value}(h:(PC.info? t).map (·.zero)=some (some z))(w:World):(aS t).run PC w=.ok z w:=by
 cases hi:PC.info? t with
 |none=>rw[hi]at h;cases h
 |some i=>
  rw[hi]at h;exact Qe hi (bo h) w
noncomputable def Ei:Value:=.agg #[.int .i64 0,.int .i64 0,.slice none 0 0,.slice none 0 0,.slice none 0 0,.slice none 0 0]
def akt(w:World):(aS 74).run PC w=.ok Ei w:=ZX (by kernel_rfl) w
def aku(w:World):((fieldsOf 74).mapM λf=>(do pure (f.offset,<-sizeOf f.type):Sem (Nat×Nat))).run PC w=.ok #[(0,6)] w:=by kernel_rfl
def u121:PC.underlying 74=some (.struct (fieldsOf 74)):=by kernel_rfl
def Wi.six(h:Wi f R g0 w0 r cs ops m K H i w)(hi:i<m)(g:ops[i]?=some (aD (some d) (.build 74 #[(0,.tmp x)]) none))(hd:d<98)(n:x<98):(H x).cells.size=6/\∃v,Wi f R g0 w0 r cs ops m K (upd H d v) (i+1) w:=by
 have e:=xY (o:=aD (some d) (.build 74 #[(0,.tmp x)]) none) (ev:=(SL 98 H r ops (i::ap (i+1) (m-(i+1))) K 39 cs).frame.eval) (t:=74) (ps:=#[(0,.tmp x)]) rfl;have p:(#[(0,.tmp x)]:Array (Nat×aT)).map (fun(j,x)=>(j,(SL 98 H r ops (i::ap (i+1) (m-(i+1))) K 39 cs).frame.eval x))=#[(0,H x)]:=by simp[bH n]
 rw[p]at e;have b:=run_build (w:=w) #[(0,H x)] (akt w) u121 (aku w);by_cases hs:(H x).cells.size=6
 ·have a:∃c,bi (#[(0,6)][·]?) Ei.cells (#[(0,H x)]:Array (Nat×Value)).toList=some c:=by
   cases q:bi (#[(0,6)][·]?) Ei.cells (#[(0,H x)]:Array (Nat×Value)).toList with
   |some c=>exact⟨c,rfl⟩
   |none=>
    have s:Ei.cells.size=6:=rfl;simp[bi,hs,s]at q
  obtain⟨c,a⟩:=a;rw[a]at b;obtain⟨v,w1,k,l⟩:=(h.at hi).val bV h.hc (jb g rfl rfl) e (.inl ⟨_,_,b⟩);have u:bm (bq c) w=bm v w1:=b.symm.trans k;cases u;exact⟨hs,_,.next h.hc g hd l⟩
 ·have a:bi (#[(0,6)][·]?) Ei.cells (#[(0,H x)]:Array (Nat×Value)).toList=none:=by
   simp only[bi];simp[hs]
  rw[a]at b;obtain⟨v,w1,k,l⟩:=(h.at hi).val bV h.hc (jb g rfl rfl) e (.inr ⟨_,_,b,trivial⟩)
  grind
def Wi.move{v:Value}(h:Wi f R g0 w0 r cs ops m K H i w)(hi:i<m)(a:ops[i]?=some (aD (some d) (.move (.const v)) none))(hd:d<98):Wi f R g0 w0 r cs ops m K (upd H d v) (i+1) w:=by
 have e:a5 (SL 98 H r ops (i::ap (i+1) (m-(i+1))) K 39 cs).frame.eval (aD (some d) (.move (.const v)) none)=(pure (.value v):Sem Next):=rfl;have hs:=dF (P:=PC) (mn:=true) (v:=v) (w':=w) (w:=w) (g:=SL 98 H r ops (i::ap (i+1) (m-(i+1))) K 39 cs) (jb a rfl rfl) (by rw[e];rfl);exact .next h.hc a hd ((h.at hi).go bV h.hc hs)
def Wi.leq{a b:Int}{X Y:aT}(h:Wi f R g0 w0 r cs ops m K H i w)(hi:i<m)(c:ops[i]?=some (aD (some d) (.binOp .leq 3 X Y 3) none))(hd:d<98)(j:(SL 98 H r ops (i::ap (i+1) (m-(i+1))) K 39 cs).frame.eval X=.int .i64 a)(hy:(SL 98 H r ops (i::ap (i+1) (m-(i+1))) K 39 cs).frame.eval Y=.int .i64 b):Wi f R g0 w0 r cs ops m K (upd H d (.bool (decide (a<=b)))) (i+1) w:=by
 have e:=oZ (o:=aD (some d) (.binOp .leq 3 X Y 3) none) (ev:=(SL 98 H r ops (i::ap (i+1) (m-(i+1))) K 39 cs).frame.eval) (op:=.leq) (ty:=3) (x:=X) (y:=Y) (u:=3) rfl;rw[j,hy]at e;have g:((do a6 .leq 3 X Y (.int .i64 a) (.int .i64 b);binOp .leq 3 (.int .i64 a) (.int .i64 b)):Sem Value).run PC w=.ok (.bool (decide (a<=b))) w:=by simp[a6,binOp,Op.intCmp]
 obtain⟨v',w',k,l⟩:=(h.at hi).val bV h.hc (jb c rfl rfl) e (.inl ⟨_,_,g⟩);have n:=g.symm.trans k;cases n;exact .next h.hc c hd l
def Wi.lss{a b:Int}{X Y:aT}(h:Wi f R g0 w0 r cs ops m K H i w)(hi:i<m)(c:ops[i]?=some (aD (some d) (.binOp .lss 3 X Y 3) none))(hd:d<98)(j:(SL 98 H r ops (i::ap (i+1) (m-(i+1))) K 39 cs).frame.eval X=.int .i64 a)(hy:(SL 98 H r ops (i::ap (i+1) (m-(i+1))) K 39 cs).frame.eval Y=.int .i64 b):Wi f R g0 w0 r cs ops m K (upd H d (.bool (decide (a<b)))) (i+1) w:=by
 have e:=oZ (o:=aD (some d) (.binOp .lss 3 X Y 3) none) (ev:=(SL 98 H r ops (i::ap (i+1) (m-(i+1))) K 39 cs).frame.eval) (op:=.lss) (ty:=3) (x:=X) (y:=Y) (u:=3) rfl;rw[j,hy]at e;have g:((do a6 .lss 3 X Y (.int .i64 a) (.int .i64 b);binOp .lss 3 (.int .i64 a) (.int .i64 b)):Sem Value).run PC w=.ok (.bool (decide (a<b))) w:=by simp[a6,binOp,Op.intCmp]
 obtain⟨v',w',k,l⟩:=(h.at hi).val bV h.hc (jb c rfl rfl) e (.inl ⟨_,_,g⟩);have n:=g.symm.trans k;cases n;exact .next h.hc c hd l
def Wi.add1{n:Int}(h:Wi f R g0 w0 r cs ops m K H i w)(hi:i<m)(a:ops[i]?=some (aD (some d) (.binOp .add 3 (.tmp x) (.const (.int .i64 1)) 3) none))(hd:d<98)(b:x<98)(hv:H x=.int .i64 n):Wi f R g0 w0 r cs ops m K (upd H d (.int .i64 (IntKind.i64.wrap (n+1)))) (i+1) w:=
 .next h.hc a hd ((h.at hi).add bV h.hc (jb a rfl rfl) rfl ((bH b).trans hv) rfl)
def Wi.abr(h:Wi f R g0 w0 r cs ops m K H i w)(hi:i<m)(a:ops[i]?=some (aD (some d) (.move (.tmp x)) none))(hd:d<98)(b:x<98):Wi f R g0 w0 r cs ops m K (upd H d (H x)) (i+1) w:=by
 have e:a5 (SL 98 H r ops (i::ap (i+1) (m-(i+1))) K 39 cs).frame.eval (aD (some d) (.move (.tmp x)) none)=(pure (.value (H x)):Sem Next):=by
  show(pure (.value ((SL 98 H r ops (i::ap (i+1) (m-(i+1))) K 39 cs).frame.eval (.tmp x))):Sem Next)=_;rw[bH b]
 have hs:=dF (P:=PC) (mn:=true) (v:=H x) (w':=w) (w:=w) (g:=SL 98 H r ops (i::ap (i+1) (m-(i+1))) K 39 cs) (jb a rfl rfl) (by rw[e];rfl);exact .next h.hc a hd ((h.at hi).go bV h.hc hs)
def Wi.abO{t b:aJ}{e:Nat}{a:Addr}{n c:Nat}{k:Int}(h:Wi f R g0 w0 r cs ops m K H i w)(hi:i<m)(g:ops[i]?=some (aD (some d) (.indexAddr t (.tmp x) (.tmp y)) none))(j:PC.underlying t=some (.slice b))(hs:(PC.info? b).map (·.size)=some e)(l:0<=k)(o:k<n)(hd:d<98)(p:x<98)(hy:y<98)(hv:H x=.slice (some a) n c)(q:H y=.int .i64 k) :
 Wi f R g0 w0 r cs ops m K (upd H d (.pointer (some (a.add (k.toNat*e))))) (i+1) w:=
 .next h.hc g hd ((h.at hi).go bV h.hc (bc (jb g rfl rfl) rfl ((bH p).trans hv) ((bH hy).trans q) j hs l o))
end
section
variable {f:aH}{R:Value->World->Prop}{g0:aI}{w0 w w':World}{H:Nat->Value}{r:List Value}{cs:List Frame}{i d x y p:Nat}{ρ:Ren}{ops:Array Oper}{m:Nat}{K:List Item}
def xL{v':Value}{a:Addr}{n c:Nat}(h:VR FF ρ (.slice (some a) n c) v')(b:0<n):∃a',v'=.slice (some a') n c/\AR ρ a a':=by
 cases h with
 |dK=>exact absurd b (bt _)
 |slice _ _ e=>exact⟨_,rfl,e⟩
def Wi.ZY{t:aJ}{j:Nat}{fs:Array Field}{fd:Field}{a:aL}{c:Array Value}{v:Value}(h:Wi f R g0 w0 r cs ops m K H i w)(hi:i<m)(g:ops[i]?=some (aD (some d) (.field t (.tmp x) j) none))(hd:d<98)(k:x<98)(hv:H x=.agg c)(l:PC.underlying t=some (.struct fs))(hf:fs[j]?=some fd)(n:PC.underlying fd.type=some a)(o:qy a=false)(hc:c[fd.offset]?=some v) :
 Wi f R g0 w0 r cs ops m K (upd H d v) (i+1) w:=by
 obtain⟨s,v',b,e,q⟩:=h.field hi g l hf n o hd k;rw[hv]at b;cases b;rw[hc]at e;cases e;exact q
def Wi.Z4{t:aJ}{j:Nat}{fs:Array Field}{fd:Field}{b:aL}{a:aP}{c c':Array Value}(h:Wi f R g0 w0 r cs ops m K H i w)(hi:i<m)(e:ops[i]?=some (aD (some d) (.field t (.tmp x) j) none))(hd:d<98)(g:x<98)(hv:H x=.agg c)(k:PC.underlying t=some (.struct fs))(hf:fs[j]?=some fd)(l:PC.underlying fd.type=some b)(n:qy b=true)(o:PC.info? fd.type=some a)(hc:c.extract fd.offset (fd.offset+a.size)=c') :
 Wi f R g0 w0 r cs ops m K (upd H d (.agg c')) (i+1) w:=by
 have:=h.Hu hi e k hf l n o hd g hv;rwa[hc]at this
def Z5{v:Value}(h:v.cells.size=6):∃x0 x1 x2 x3 x4 a,v=.agg #[x0,x1,x2,x3,x4,a]:=by
 cases v with
 |agg c=>
  obtain⟨l⟩:=c;have hl:l.length=6:=h
  match l,hl with
  |[x0,x1,x2,x3,x4,a],_=>exact⟨x0,x1,x2,x3,x4,a,rfl⟩
 |_=>exact absurd h (by simp[Value.cells])
structure Fd(t j off:Nat)(ag:Bool)(sz:Nat):Prop where
 ex:∃fs fd de inf,PC.underlying t=some (.struct fs)/\fs[j]?=some fd/\PC.underlying fd.type=some de/\qy de=ag/\PC.info? fd.type=some inf/\fd.offset=off/\inf.size=sz
noncomputable def fdq(t j:Nat):Option (Nat×Bool×Nat):=match PC.underlying t with
 |some (.struct fs)=>match fs[j]? with
  |some fd=>match PC.underlying fd.type,PC.info? fd.type with
   |some b,some a=>some (fd.offset,qy b,a.size)
   |_,_=>none
  |none=>none
 |_=>none
def gH{t j off b:Nat}{c:Bool}(h:fdq t j=some (off,c,b)):Fd t j off c b:=by
 unfold fdq at h
 split at h
 ·rename_i fs e1
  split at h
  ·rename_i fd e
   split at h
   ·rename_i g a k l;simp only[bp,Prod.mk.injEq]at h;exact⟨fs,fd,g,a,e1,e,k,h.2.1,l,h.1,h.2.2⟩
   ·cases h
  ·cases h
 ·cases h
def Wi.fk{t j off a:Nat}{c:Array Value}{v:Value}(h:Wi f R g0 w0 r cs ops m K H i w)(q:Fd t j off false a)(hi:i<m)(b:ops[i]?=some (aD (some d) (.field t (.tmp x) j) none))(hd:d<98)(e:x<98)(hv:H x=.agg c)(hc:c[off]?=some v):Wi f R g0 w0 r cs ops m K (upd H d v) (i+1) w:=by
 obtain⟨fs,fd,s,g,e1,k,l,n,u,o,z⟩:=q.ex;exact h.ZY hi b hd e hv e1 k l n (by rw[o];exact hc)
def Wi.fs{t j off a:Nat}{c c':Array Value}(h:Wi f R g0 w0 r cs ops m K H i w)(q:Fd t j off true a)(hi:i<m)(b:ops[i]?=some (aD (some d) (.field t (.tmp x) j) none))(hd:d<98)(e:x<98)(hv:H x=.agg c)(hc:c.extract off (off+a)=c'):Wi f R g0 w0 r cs ops m K (upd H d (.agg c')) (i+1) w:=by
 obtain⟨fs,fd,v,g,e1,k,l,n,o,s,u⟩:=q.ex;exact h.Z4 hi b hd e hv e1 k l n o (by rw[s,u];exact hc)
def aeE:Fd 74 0 0 true 6:=gH (by kernel_rfl)
def Z6:Fd 27 0 0 false 1:=gH (by kernel_rfl)
def Z7:Fd 27 1 1 false 1:=gH (by kernel_rfl)
def Z8:Fd 27 2 2 false 1:=gH (by kernel_rfl)
def Z9:Fd 27 3 3 false 1:=gH (by kernel_rfl)
def aa0:Fd 27 4 4 false 1:=gH (by kernel_rfl)
def aa1:Fd 27 5 5 false 1:=gH (by kernel_rfl)
structure Sd(t sz:Nat):Prop where
 ex:∃de inf,PC.underlying t=some de/\qy de=true/\PC.info? t=some inf/\inf.size=sz
def JP{t g:Nat}(h:((PC.underlying t).map qy,(PC.info? t).map (·.size))=(some true,some g)):Sd t g:=by
 simp only[Prod.mk.injEq]at h;obtain⟨a,b⟩:=h
 cases e1:PC.underlying t with
 |none=>rw[e1]at a;cases a
 |some j=>
  cases c:PC.info? t with
  |none=>rw[c]at b;cases b
  |some e=>
   rw[e1]at a;rw[c]at b;exact⟨j,e,e1,bo a,c,bo b⟩
def akw:PC.underlying 22=some (.slice 36):=by kernel_rfl
def akx:PC.underlying 23=some (.slice 95):=by kernel_rfl
def aeH:PC.underlying 24=some (.slice 49):=by kernel_rfl
def UU:PC.underlying 47=some (.slice 3):=by kernel_rfl
def Xh:PC.underlying 25=some (.slice 51):=by kernel_rfl
def aeI:(PC.info? 49).map (·.size)=some 12:=by kernel_rfl
def aeM:(PC.info? 51).map (·.size)=some 3:=by kernel_rfl
def aa2:Fd 36 0 0 false 1:=gH (by kernel_rfl)
def aa3:Fd 36 1 1 false 1:=gH (by kernel_rfl)
def aa4:Fd 49 0 0 false 1:=gH (by kernel_rfl)
def aa5:Fd 49 1 1 true 2:=gH (by kernel_rfl)
def aa6:Fd 49 2 3 true 2:=gH (by kernel_rfl)
def aa7:Fd 49 3 5 false 1:=gH (by kernel_rfl)
def aa8:Fd 49 4 6 false 1:=gH (by kernel_rfl)
def aa9:Fd 49 5 7 true 2:=gH (by kernel_rfl)
def aaa:Fd 49 6 9 true 2:=gH (by kernel_rfl)
def aab:Fd 49 7 11 false 1:=gH (by kernel_rfl)
def aac:Fd 51 0 0 false 1:=gH (by kernel_rfl)
def aad:Fd 51 1 1 false 1:=gH (by kernel_rfl)
def aae:Fd 51 2 2 false 1:=gH (by kernel_rfl)
def akC:Sd 49 12:=JP (by kernel_rfl)
def akH:Sd 51 3:=JP (by kernel_rfl)
def Wi.span{t k off:Nat}{c:Array Value}{v0 v1:Value}(h:Wi f R g0 w0 r cs ops m K H i w)(q:Fd t k off true 2)(hi:i+5<m)(hd:d+4<98)(u:p<d)(hv:H p=.agg c)(hc:c.extract off (off+2)=#[v0,v1])
 (g:ops[i]?=some (aD (some d) (.field t (.tmp p) k) none))
 (l:ops[i+1]?=some (aD (some (d+1)) (.field 36 (.tmp d) 0) none))
 (n:ops[i+2]?=some (aD (some (d+2)) (.binOp .xor 3 (.tmp (d+1)) (.const (.int .i64 0)) 3) none))
 (o:ops[i+3]?=some (aD (some (d+3)) (.field 36 (.tmp d) 1) none))
 (s:ops[i+4]?=some (aD (some (d+4)) (.binOp .xor 3 (.tmp (d+3)) (.const (.int .i64 0)) 3) none)) :
 ∃n0 a b,v0=.int .i64 n0/\v1=.int .i64 a/\b (d+1)=.int .i64 n0/\b (d+3)=.int .i64 a/\(∀j,j<d->b j=H j)/\Wi f R g0 w0 r cs ops m K b (i+5) w:=by
 have W:=h.fs q (by omega) g (by omega) (by omega) hv hc;have W:=W.fk aa2 (v:=v0) (by omega) l (by omega) (by omega) (bT _ _ _) rfl;obtain⟨n0,u0,e,W⟩:=W.int (by omega) n (by omega) (by omega);rw[bT]at e;have W:=W.fk aa3 (v:=v1) (c:=#[v0,v1]) (by omega) o (by omega) (by omega) (by rw[bX _ _ (by omega),bX _ _ (by omega),bT]) rfl;obtain⟨a,u1,e1,W⟩:=W.int (by omega) s (by omega) (by omega);rw[bT]at e1;refine⟨n0,a,_,e,e1,?_,?_,λj z=>?_,W⟩
 ·rw[bX _ _ (by omega),bX _ _ (by omega),bX _ _ (by omega),bT,e]
 ·rw[bX _ _ (by omega),bT,e1]
 ·rw[bX _ _ (by omega),bX _ _ (by omega),bX _ _ (by omega),bX _ _ (by omega),bX _ _ (by omega)]
def Wi.num{t k off e:Nat}{c:Array Value}{v0:Value}(h:Wi f R g0 w0 r cs ops m K H i w)(q:Fd t k off false e)(hi:i+2<m)(hd:d+1<98)(n:p<d)(hv:H p=.agg c)(hc:c[off]?=some v0)
 (g:ops[i]?=some (aD (some d) (.field t (.tmp p) k) none))
 (l:ops[i+1]?=some (aD (some (d+1)) (.binOp .xor 3 (.tmp d) (.const (.int .i64 0)) 3) none)) :
 ∃n0 a,v0=.int .i64 n0/\a d=.int .i64 n0/\(∀j,j<d->a j=H j)/\Wi f R g0 w0 r cs ops m K a (i+2) w:=by
 have W:=h.fk q (v:=v0) (by omega) g (by omega) (by omega) hv hc;obtain⟨n0,u0,b,W⟩:=W.int (by omega) l (by omega) (by omega);rw[bT]at b;refine⟨n0,_,b,?_,λj o=>?_,W⟩
 ·rw[bX _ _ (by omega),bT,b]
 ·rw[bX _ _ (by omega),bX _ _ (by omega)]
def Wi.name{t k off e:Nat}{c:Array Value}{v0:Value}(h:Wi f R g0 w0 r cs ops m K H i w)(q:Fd t k off false e)(hi:i+2<m)(hd:d+1<98)(o:p<d)(hv:H p=.agg c)(hc:c[off]?=some v0)
 (g:ops[i]?=some (aD (some d) (.field t (.tmp p) k) none))
 (l:ops[i+1]?=some (aD (some (d+1)) (.binOp .add 9 (.tmp d) (.const (.string bb)) 9) none)) :
 ∃s a,v0=.string s/\(∀j,j<d->a j=H j)/\Wi f R g0 w0 r cs ops m K a (i+2) w:=by
 have W:=h.fk q (v:=v0) (by omega) g (by omega) (by omega) hv hc;obtain⟨n,u0,b,W⟩:=W.str (by omega) l (by omega) (by omega);rw[bT]at b;refine⟨n,_,b,λj u=>?_,W⟩;rw[bX _ _ (by omega),bX _ _ (by omega)]
end
section
variable {f:aH}{R:Value->World->Prop}{g0:aI}{w0 w w':World}{H:Nat->Value}{r:List Value}{cs:List Frame}{ρ:Ren}{K:List Item}
structure Hd0(H:Nat->Value)(l p:Int)(b2 b3:Option Addr)(b4:Addr)(b5:Option Addr)(n2 c2 n3 c3 np c4 n c5:Nat)(H':Nat->Value):Prop where
 arg:H 0=.agg #[.int .i64 l,.int .i64 p,.slice b2 n2 c2,.slice b3 n3 c3,.slice (some b4) np c4,.slice b5 n c5]
 agO:H' 9=.slice (some b4) np c4
 agP:H' 10=.slice b5 n c5
 MC:H' 15=.int .i64 (np:Int)
 hn:H' 16=.int .i64 (n:Int)
 i:H' 20=.int .i64 0
 j:H' 21=.int .i64 0
 lo:2<=np/\np<=5/\n<=3
def ajd(h:Wi f R g0 w0 r cs ac1 24 K H 0 w):∃l p j k g m o q s c3 np i n t E,Hd0 H l p j k g m o q s c3 np i n t E/\Wi f R g0 w0 r cs ac1 24 K E 24 w:=by
 obtain⟨hs,v,W⟩:=h.six (d:=3) (x:=0) (by omega) rfl (by omega) (by omega);obtain⟨x0,x1,x2,x3,x4,y,e⟩:=Z5 hs;have W:=W.fs aeE (d:=4) (x:=0) (c:=#[x0,x1,x2,x3,x4,y]) (c':=#[x0,x1,x2,x3,x4,y]) (by omega) rfl (by omega) (by omega) e (by simp);have W:=W.fk Z6 (d:=5) (x:=4) (v:=x0) (by omega) rfl (by omega) (by omega) rfl rfl;have W:=W.fk Z7 (d:=6) (x:=4) (v:=x1) (by omega) rfl (by omega) (by omega) rfl rfl;have W:=W.fk Z8 (d:=7) (x:=4) (v:=x2) (by omega) rfl (by omega) (by omega) rfl rfl;have W:=W.fk Z9 (d:=8) (x:=4) (v:=x3) (by omega) rfl (by omega) (by omega) rfl rfl;have W:=W.fk aa0 (d:=9) (x:=4) (v:=x4) (by omega) rfl (by omega) (by omega) rfl rfl;have W:=W.fk aa1 (d:=10) (x:=4) (v:=y) (by omega) rfl (by omega) (by omega) rfl rfl;obtain⟨l,v,A,W⟩:=W.int (d:=11) (x:=5) (by omega) rfl (by omega) (by omega);have A:x0=.int .i64 l:=A;obtain⟨p,u,e1,W⟩:=W.int (d:=12) (x:=6) (by omega) rfl (by omega) (by omega);have e1:x1=.int .i64 p:=e1;obtain⟨j,o,q,B,W⟩:=W.len (d:=13) (x:=7) (by omega) rfl akw (by omega) (by omega);have B:x2=.slice j o q:=B;obtain⟨k,s,c3,C,W⟩:=W.len (d:=14) (x:=8) (by omega) rfl akx (by omega) (by omega);have C:x3=.slice k s c3:=C;obtain⟨g,np,i,z,W⟩:=W.len (d:=15) (x:=9) (by omega) rfl aeH (by omega) (by omega);have z:x4=.slice g np i:=z;obtain⟨m,n,t,D,W⟩:=W.len (d:=16) (x:=10) (by omega) rfl Xh (by omega) (by omega);have D:y=.slice m n t:=D;have W:=W.leq (d:=17) (a:=2) (b:=(np:Int)) (by omega) rfl (by omega) rfl (bH (by omega))
 obtain⟨k1,W⟩:=W.check (b:=decide ((2:Int)<=np)) (by omega) rfl (rfl:ac1[14]?=some (aD (some 17) _ none)) (by omega) (bT _ _ _);have W:=W.leq (d:=18) (a:=(np:Int)) (b:=5) (by omega) rfl (by omega) (bH (by omega)) rfl;obtain⟨k2,W⟩:=W.check (b:=decide ((np:Int)<=5)) (by omega) rfl (rfl:ac1[16]?=some (aD (some 18) _ none)) (by omega) (bT _ _ _);have W:=W.leq (d:=19) (a:=(n:Int)) (b:=3) (by omega) rfl (by omega) (bH (by omega)) rfl;obtain⟨k3,W⟩:=W.check (b:=decide ((n:Int)<=3)) (by omega) rfl (rfl:ac1[18]?=some (aD (some 19) _ none)) (by omega) (bT _ _ _);have W:=W.JM (d:=3) (x:=9) (by omega) rfl aeH (by omega) (by omega) (show _=Value.slice g np i from z);obtain⟨F,W⟩:=W.check (b:=g.isNone) (by omega) rfl (rfl:ac1[20]?=some (aD (some 3) _ none)) (by omega) (bT _ _ _);have W:=W.move (d:=20) (by omega) rfl (by omega);have W:=W.move (d:=21) (by omega) rfl (by omega)
 cases g with
 |none=>cases F
 |some a4=>
 subst A e1 B C z D;simp only[Bool.not_false,decide_eq_true_eq]at k1 k2 k3;exact⟨l,p,j,k,a4,m,o,q,s,c3,np,i,n,t,_,⟨e,rfl,rfl,rfl,rfl,rfl,rfl,by omega⟩,W⟩
structure ye(ρ:Ren)(w w':World)(a a':Addr)(k:Nat)(u u':Nat->Value)(s:ByteArray)(n:Nat->Int)(lb:Option Addr)(ll lc:Nat):Prop where
 cell:∀j,j<12->w.cell? ((a.add (k*12)).add j)=some (u j)/\w'.cell? ((a'.add (k*12)).add j)=some (u' j)/\VR FF ρ (u j) (u' j)/\(∃c t fz,w'.heap[(a'.add (k*12)).block]?=some (.cells c t fz))
 name:u 0=.string s
 num:∀j,1<=j->j<=10->u j=.int .i64 (n j)
 lane:u 11=.slice lb ll lc
def ac4{k:Nat}(h:k<100):IntKind.i64.wrap ((k:Int)+1)=((k+1:Nat):Int):=by
 have e:((k:Int)+1) % 2 ^ 64=(k:Int)+1:=by omega
 unfold IntKind.wrap;simp only[IntKind.signed,IntKind.bits,e]
 split
 ·rename_i a;simp only[Bool.true_and,decide_eq_true_eq]at a;omega
 ·omega
def ann{a a':Addr}{np c k:Nat}(h:Wi f R g0 w0 r cs agN 32 K H 0 w)(N:WR Tryz.progTables.globals.size FF (ba aa FF ZZ) ρ w w')(O:H 9=.slice (some a) np c)(b:H 20=.int .i64 (k:Int))(hk:k<np)(P:k<5)(Q:AR ρ a a') :
 ∃u g s n lb i l m,ye ρ w w' a a' k u g s n lb i l/\m 20=.int .i64 ((k+1:Nat):Int)/\(∀j,j<23->j≠20->m j=H j)/\Wi f R g0 w0 r cs agN 32 K m 32 w:=by
 have W:=h.abO (d:=23) (x:=9) (y:=20) (k:=(k:Int)) (by omega) rfl aeH aeI (by omega) (by omega) (by omega) (by omega) (by omega) O b;have S:a.add ((k:Int).toNat*12)=a.add (k*12):=by simp
 rw[S]at W;obtain⟨de,T,t1,t2,U,V⟩:=akC.ex;obtain⟨u,g,q,W⟩:=W.load (d:=24) (x:=23) (by omega) rfl N (Q.add (k*12)) t1 t2 U (by omega) (by omega) (bT _ _ _);rw[V]at q W;have hc:((ai 12).map u).toArray=#[u 0,u 1,u 2,u 3,u 4,u 5,u 6,u 7,u 8,u 9,u 10,u 11]:=rfl;rw[hc]at W;obtain⟨s,X,Y,t,W⟩:=W.name aa4 (d:=25) (p:=24) (by omega) (by omega) (by omega) (bT _ _ _) rfl rfl rfl;have z:X 24=.agg #[u 0,u 1,u 2,u 3,u 4,u 5,u 6,u 7,u 8,u 9,u 10,u 11]:=by rw[t _ (by omega),bT]
 obtain⟨Z,n2,H2,a1,a2,a3,a4,A,W⟩:=W.span aa5 (d:=27) (p:=24) (by omega) (by omega) (by omega) z (by simp;exact⟨rfl,rfl⟩) rfl rfl rfl rfl rfl;have B:=(A 24 (by omega)).trans z;obtain⟨n3,n4,H3,b1,b2,b3,b4,C,W⟩:=W.span aa6 (d:=32) (p:=24) (by omega) (by omega) (by omega) B (by simp;exact⟨rfl,rfl⟩) rfl rfl rfl rfl rfl;have D:=(C 24 (by omega)).trans B;obtain⟨n7,n8,H4,c1,c2,c3,c4,E,W⟩:=W.span aa9 (d:=37) (p:=24) (by omega) (by omega) (by omega) D (by simp;exact⟨rfl,rfl⟩) rfl rfl rfl rfl rfl;have F:=(E 24 (by omega)).trans D;obtain⟨n9,o,H5,d1,d2,d3,d4,d5,W⟩:=W.span aaa (d:=42) (p:=24) (by omega) (by omega) (by omega) F (by simp;exact⟨rfl,rfl⟩) rfl rfl rfl rfl rfl;have I:=(d5 24 (by omega)).trans F;obtain⟨n5,H6,x1,x2,x3,W⟩:=W.num aa7 (d:=47) (p:=24) (v0:=u 5) (by omega) (by omega) (by omega) I rfl rfl rfl;have J:=(x3 24 (by omega)).trans I;obtain⟨n6,H7,y1,y2,y3,W⟩:=W.num aa8 (d:=49) (p:=24) (v0:=u 6) (by omega) (by omega) (by omega) J rfl rfl rfl;have p7:=(y3 24 (by omega)).trans J;have W:=W.fk aab (d:=51) (x:=24) (v:=u 11) (by omega) rfl (by omega) (by omega) p7 rfl;obtain⟨lb,i,l,L,W⟩:=W.len (d:=52) (x:=51) (by omega) rfl UU (by omega) (by omega);rw[bT]at L;have e:∀j,j<23->H7 j=H j:=λj M=>by
  rw[y3 _ (by omega),x3 _ (by omega),d5 _ (by omega),E _ (by omega),C _ (by omega),A _ (by omega),t _ (by omega),bX _ _ (by omega),bX _ _ (by omega)]
 have W:=W.add1 (d:=53) (x:=20) (n:=(k:Int)) (by omega) rfl (by omega) (by omega) (by rw[bX _ _ (by omega),bX _ _ (by omega),e 20 (by omega)];exact b);have W:=W.abr (d:=20) (x:=53) (by omega) rfl (by omega) (by omega);refine⟨u,g,s,λj=>match j with|1=>Z|2=>n2|3=>n3|4=>n4|5=>n5|6=>n6|7=>n7|8=>n8|9=>n9|_=>o,lb,i,l,_,⟨q,Y,λj h1 h2=>?_,L⟩,?_,λj M bu=>?_,W⟩
 ·obtain rfl|rfl|rfl|rfl|rfl|rfl|rfl|rfl|rfl|rfl:j=1\/j=2\/j=3\/j=4\/j=5\/j=6\/j=7\/j=8\/j=9\/j=10:=by omega
  ·exact a1
  ·exact a2
  ·exact b1
  ·exact b2
  ·exact x1
  ·exact y1
  ·exact c1
  ·exact c2
  ·exact d1
  ·exact d2
 ·rw[bT,bT,ac4 (by omega)]
 ·rw[bX _ _ bu,bX _ _ (by omega),bX _ _ (by omega),bX _ _ (by omega),e j M]
structure AA(ρ:Ren)(w w':World)(a a':Addr)(k np:Nat)(u u':Nat->Value)(s:ByteArray)(st:Nat)(dl:Int):Prop where
 cell:∀j,j<3->w.cell? ((a.add (k*3)).add j)=some (u j)/\w'.cell? ((a'.add (k*3)).add j)=some (u' j)/\VR FF ρ (u j) (u' j)/\(∃c t fz,w'.heap[(a'.add (k*3)).block]?=some (.cells c t fz))
 name:u 0=.string s
 start:u 1=.int .i64 (st:Int)
 lt:st<np
 aeN:u 2=.int .i64 dl
def ano{v':Value}{b:Option Addr}{np n c k:Nat}(h:Wi f R g0 w0 r cs ac2 16 K H 0 w)(F:WR Tryz.progTables.globals.size FF (ba aa FF ZZ) ρ w w')(A:H 10=.slice b n c)(q:H 15=.int .i64 (np:Int))(e:H 21=.int .i64 (k:Int))(Y:k<n)(I:k<3)(J:VR FF ρ (.slice b n c) v') :
 ∃a a' u t s st dl v,b=some a/\v'=.slice (some a') n c/\AR ρ a a'/\AA ρ w w' a a' k np u t s st dl/\v 21=.int .i64 ((k+1:Nat):Int)/\(∀j,j<23->j≠21->j≠11->v j=H j)/\Wi f R g0 w0 r cs ac2 16 K v 16 w:=by
 have W:=h.JM (d:=11) (x:=10) (by omega) rfl Xh (by omega) (by omega) A;obtain⟨k0,W⟩:=W.check (b:=b.isNone) (by omega) rfl (rfl:ac2[0]?=some (aD (some 11) _ none)) (by omega) (bT _ _ _)
 cases b with
 |none=>cases k0
 |some a=>
 obtain⟨a',L,B⟩:=xL J (by omega);have W:=W.abO (d:=55) (x:=10) (y:=21) (k:=(k:Int)) (a:=a) (n:=n) (c:=c) (by omega) rfl Xh aeM (by omega) (by omega) (by omega) (by omega) (by omega) (by rw[bX _ _ (by omega)];exact A) (by rw[bX _ _ (by omega)];exact e);have M:a.add ((k:Int).toNat*3)=a.add (k*3):=by simp
 rw[M]at W;obtain⟨Z,N,t1,t2,O,P⟩:=akH.ex;obtain⟨u,t,C,W⟩:=W.load (d:=56) (x:=55) (by omega) rfl F (B.add (k*3)) t1 t2 O (by omega) (by omega) (bT _ _ _);rw[P]at C W;have hc:((ai 3).map u).toArray=#[u 0,u 1,u 2]:=rfl;rw[hc]at W;obtain⟨s,Q,S,D,W⟩:=W.name aac (d:=57) (p:=56) (by omega) (by omega) (by omega) (bT _ _ _) rfl rfl rfl;have E:Q 56=.agg #[u 0,u 1,u 2]:=by rw[D _ (by omega),bT]
 obtain⟨g,T,a1,a2,a3,W⟩:=W.num aad (d:=59) (p:=56) (v0:=u 1) (by omega) (by omega) (by omega) E rfl rfl rfl;have i:∀j,j<23->j≠11->T j=H j:=λj o l=>by
  rw[a3 _ (by omega),D _ (by omega),bX _ _ (by omega),bX _ _ (by omega),bX _ _ l]
 have W:=W.leq (d:=61) (a:=0) (b:=g) (by omega) rfl (by omega) rfl ((bH (by omega)).trans a2);obtain⟨k1,W⟩:=W.check (b:=decide ((0:Int)<=g)) (by omega) rfl (rfl:ac2[8]?=some (aD (some 61) _ none)) (by omega) (bT _ _ _);have W:=W.lss (d:=62) (a:=g) (b:=(np:Int)) (by omega) rfl (by omega) ((bH (by omega)).trans (by rw[bX _ _ (by omega)];exact a2)) ((bH (by omega)).trans (by rw[bX _ _ (by omega),i 15 (by omega) (by omega)];exact q));obtain⟨k2,W⟩:=W.check (b:=decide (g<(np:Int))) (by omega) rfl (rfl:ac2[10]?=some (aD (some 62) _ none)) (by omega) (bT _ _ _);obtain⟨dl,U,V,b2,X,W⟩:=W.num aae (d:=63) (p:=56) (v0:=u 2) (by omega) (by omega) (by omega) (by rw[bX _ _ (by omega),bX _ _ (by omega),a3 _ (by omega)];exact E) rfl rfl rfl;have m:∀j,j<23->j≠11->U j=H j:=λj o l=>by
  rw[X _ (by omega),bX _ _ (by omega),bX _ _ (by omega),i j o l]
 have W:=W.add1 (d:=65) (x:=21) (n:=(k:Int)) (by omega) rfl (by omega) (by omega) (by rw[m 21 (by omega) (by omega)];exact e);have W:=W.abr (d:=21) (x:=65) (by omega) rfl (by omega) (by omega);simp only[Bool.not_false,decide_eq_true_eq]at k1 k2;refine⟨a,a',u,t,s,g.toNat,dl,_,rfl,L,B,⟨C,S,by rw[a1];congr 1;omega,by omega,V⟩,?_,λj o l z=>?_,W⟩
 ·rw[bT,bT,ac4 (by omega)]
 ·rw[bX _ _ l,bX _ _ (by omega),m j o z]
end
def St(H:Nat->Value)(r:List Value)(k:List Item)(cs:List Frame):aI:=fH ⟨39,⟨(ai 98).map H++r⟩,k,[],.run,.normal,none⟩ cs
section
variable {f:aH}{R:Value->World->Prop}{g0:aI}{w0 w w':World}{H:Nat->Value}{r:List Value}{cs:List Frame}{ρ:Ren}{K k:List Item}{ops:Array Oper}{m n x y t:Nat}
abbrev Wy(f:aH)(R:Value->World->Prop)(g0:aI)(w0:World)(g:aI)(w:World):Prop:=a9 aa cY.funcs FF ZZ f R g0 w0 g w
def ahi{j:Nat}(h:j<98):(St H r k cs).frame.eval (.tmp j)=H j:=by
 have:=bH (n:=98) (H:=H) (rest:=r) (ops:=#[]) (is:=[]) (k:=k) (fn:=39) (cs:=cs) h;exact this
def Wi.leave(h:Wi f R g0 w0 r cs ops m K H m w):Wy f R g0 w0 (St H r K cs) w:=by
 have e:ap m (m-m)=[]:=by rw[Nat.sub_self];rfl
 have a:=h.way;rw[e]at a;have e1:stepG PC true (SL 98 H r ops [] K 39 cs) w=.go (St H r K cs) w #[]:=rfl;exact a.go bV h.hc e1
def Wy.region{id:Nat}(hc:2<=cs.length)(h:Wy f R g0 w0 (St H r (.code (.region id ops false)::K) cs) w)(b:ops.size=m):Wi f R g0 w0 r cs ops m K H 0 w:=by
 have e1:stepG PC true (St H r (.code (.region id ops false)::K) cs) w=.go (SL 98 H r ops (ai ops.size) K 39 cs) w #[]:=rfl;have a:=h.go bV hc e1;rw[b,List.range_eq_range']at a;exact⟨hc,a⟩
def Wy.seq{a b:Code}(hc:2<=cs.length)(h:Wy f R g0 w0 (St H r (.code (.seq a b)::K) cs) w):Wy f R g0 w0 (St H r (.code a :: .code b::K) cs) w:=
 h.go bV hc (show stepG PC true (St H r (.code (.seq a b)::K) cs) w=.go (St H r (.code a :: .code b::K) cs) w #[] from rfl)
abbrev lb(n a:Nat)(test:Array Oper)(t:Nat)(body:Code):Code:=.seq (.region a test false) (.seq (.cond (.tmp t) .skip (.exit n)) body)
def Wy.loop{b:Code}(hc:2<=cs.length)(h:Wy f R g0 w0 (St H r (.code (.block n (.loop b))::K) cs) w):Wy f R g0 w0 (St H r (.code b :: .inLoop b :: .inBlock n::K) cs) w:=by
 have a:=h.go bV hc (show stepG PC true (St H r (.code (.block n (.loop b))::K) cs) w=.go (St H r (.code (.loop b) :: .inBlock n::K) cs) w #[] from rfl);exact a.go bV hc (show stepG PC true (St H r (.code (.loop b) :: .inBlock n::K) cs) w=.go (St H r (.code b :: .inLoop b :: .inBlock n::K) cs) w #[] from rfl)
def Wy.again{b:Code}(hc:2<=cs.length)(h:Wy f R g0 w0 (St H r (.inLoop b::K) cs) w):Wy f R g0 w0 (St H r (.code b :: .inLoop b::K) cs) w:=
 h.go bV hc (show stepG PC true (St H r (.inLoop b::K) cs) w=.go (St H r (.code b :: .inLoop b::K) cs) w #[] from rfl)
def Wy.skip(hc:2<=cs.length)(h:Wy f R g0 w0 (St H r (.code .skip::K) cs) w):Wy f R g0 w0 (St H r K cs) w:=
 h.go bV hc (show stepG PC true (St H r (.code .skip::K) cs) w=.go (St H r K cs) w #[] from rfl)
def Wy.cond{a b:Code}{c:Bool}(hc:2<=cs.length)(h:Wy f R g0 w0 (St H r (.code (.cond (.tmp t) a b)::K) cs) w)(d:t<98)(hb:H t=.bool c):Wy f R g0 w0 (St H r (.code (if c then a else b)::K) cs) w:=by
 have e:(St H r (.code (.cond (.tmp t) a b)::K) cs).frame.eval (.tmp t)=.bool c:=(ahi d).trans hb;have e1:stepG PC true (St H r (.code (.cond (.tmp t) a b)::K) cs) w=.go (St H r (.code (if c then a else b)::K) cs) w #[]:=by
  show(match(St H r (.code (.cond (.tmp t) a b)::K) cs).frame.eval (.tmp t) with
   |.bool b'=>GStep.go (St H r (.code (if b' then a else b)::K) cs) w #[]
   |_=>_)=_
  rw[e]
 exact h.go bV hc e1
def Wy.exit{a b:Code}(hc:2<=cs.length)(h:Wy f R g0 w0 (St H r (.code (.exit n) :: .code a :: .inLoop b :: .inBlock n::K) cs) w):Wy f R g0 w0 (St H r K cs) w:=by
 have e1:stepG PC true (St H r (.code (.exit n) :: .code a :: .inLoop b :: .inBlock n::K) cs) w=.go (St H r K cs) w #[]:=by
  have e:exitTo n (.code a :: .inLoop b :: .inBlock n::K)=some K:=by simp[exitTo]
  show(exitTo n (.code a :: .inLoop b :: .inBlock n::K)).elim _ _=_;rw[e];rfl
 exact h.go bV hc e1
def Wy.test{e:Nat}{body:Code}{a b:Int}(hc:2<=cs.length)(h:Wy f R g0 w0 (St H r (.code (lb n e #[aD (some t) (.binOp .lss 3 (.tmp x) (.tmp y) 3) none] t body)::K) cs) w)(c:t<98)(g:x<98)(hy:y<98)(ex:H x=.int .i64 a)(ey:H y=.int .i64 b) :
 Wy f R g0 w0 (St (upd H t (.bool (decide (a<b)))) r (.code (if decide (a<b) then .skip else .exit n) :: .code body::K) cs) w:=by
 have W:=Wy.region hc (h.seq hc) (m:=1) rfl;have W:=W.lss (d:=t) (a:=a) (b:=b) (X:=.tmp x) (Y:=.tmp y) (by omega) rfl c ((bH g).trans ex) ((bH hy).trans ey);have W:=(W.leave).seq hc;exact W.cond hc c (bT _ _ _)
def Wy.yes{c:Nat}{body:Code}{a b:Int}(hc:2<=cs.length)(h:Wy f R g0 w0 (St H r (.code (lb n c #[aD (some t) (.binOp .lss 3 (.tmp x) (.tmp y) 3) none] t body)::K) cs) w)(d:t<98)(e:x<98)(hy:y<98)(ex:H x=.int .i64 a)(ey:H y=.int .i64 b)(g:a<b) :
 Wy f R g0 w0 (St (upd H t (.bool true)) r (.code body::K) cs) w:=by
 have W:=h.test hc d e hy ex ey;rw[decide_eq_true g]at W;exact Wy.skip hc W
def Wy.no{c:Nat}{body b0:Code}{a b:Int}(hc:2<=cs.length)(h:Wy f R g0 w0 (St H r (.code (lb n c #[aD (some t) (.binOp .lss 3 (.tmp x) (.tmp y) 3) none] t body) :: .inLoop b0 :: .inBlock n::K) cs) w)(d:t<98)(e:x<98)(hy:y<98)(ex:H x=.int .i64 a)(ey:H y=.int .i64 b)(g:¬a<b) :
 Wy f R g0 w0 (St (upd H t (.bool false)) r K cs) w:=by
 have W:=h.test hc d e hy ex ey;rw[decide_eq_false g]at W;exact Wy.exit hc W
noncomputable abbrev ahG:Code:=lb 0 1 aik 22 (.region 2 agN false)
noncomputable abbrev ahH:Code:=lb 1 3 aiD 54 (.region 4 ac2 false)
def agQ(hc:2<=cs.length)(A:WR Tryz.progTables.globals.size FF (ba aa FF ZZ) ρ w w'){a a':Addr}{np c:Nat}(B:AR ρ a a')(F:np<=5):∀(q i:Nat),i+q=np->∀{H:Nat->Value},H 9=.slice (some a) np c->H 15=.int .i64 (np:Int)->H 20=.int .i64 (i:Int)->
 Wy f R g0 w0 (St H r (.code ahG :: .inLoop ahG :: .inBlock 0::K) cs) w->
 (∀k,i<=k->k<np->∃u l s n lb I J,ye ρ w w' a a' k u l s n lb I J)/\∃C,(∀j,j<22->j≠20->C j=H j)/\Wy f R g0 w0 (St C r K cs) w
 |0,i,L,H,o,b,d,h=>by
  have W:=Wy.no hc h (t:=22) (x:=20) (y:=15) (by omega) (by omega) (by omega) d b (by omega);exact⟨λk M D=>by omega,_,λj e _=>bX _ _ (by omega),W⟩
 |q+1,i,L,H,o,b,d,h=>by
  have W:=Wy.yes hc h (t:=22) (x:=20) (y:=15) (by omega) (by omega) (by omega) d b (by omega);have W:=Wy.region hc W (m:=32) rfl;obtain⟨u,l,s,n,N,O,P,Q,S,p,hold,W⟩:=ann W A (a:=a) (a':=a') (np:=np) (c:=c) (k:=i) (by rw[bX _ _ (by omega)];exact o) (by rw[bX _ _ (by omega)];exact d) (by omega) (by omega) B;have W:=Wy.again hc W.leave;have v:∀j,j<22->j≠20->Q j=H j:=λj e g=>by rw[hold j (by omega) g,bX _ _ (by omega)]
  obtain⟨T,U,z,W⟩:=agQ hc A B F q (i+1) (by omega) ((v 9 (by omega) (by omega)).trans o) ((v 15 (by omega) (by omega)).trans b) p W;refine⟨λk M D=>?_,U,λj e g=>(z j e g).trans (v j e g),W⟩
  rcases bv i k with E|E
  ·exact T k E D
  ·obtain rfl:k=i:=by omega
   exact⟨u,l,s,n,N,O,P,S⟩
def agS(hc:2<=cs.length)(E:WR Tryz.progTables.globals.size FF (ba aa FF ZZ) ρ w w'){v':Value}{b:Option Addr}{np n c:Nat}(F:VR FF ρ (.slice b n c) v')(o:n<=3):∀(q i:Nat),i+q=n->∀{H:Nat->Value},H 10=.slice b n c->H 15=.int .i64 (np:Int)->H 16=.int .i64 (n:Int)->H 21=.int .i64 (i:Int)->
 Wy f R g0 w0 (St H r (.code ahH :: .inLoop ahH :: .inBlock 1::K) cs) w->
 (∀k,i<=k->k<n->∃a a' u z s st dl,b=some a/\v'=.slice (some a') n c/\AR ρ a a'/\AA ρ w w' a a' k np u z s st dl)/\∃I,(∀j,j<20->j≠11->I j=H j)/\Wy f R g0 w0 (St I r K cs) w
 |0,i,L,H,g,l,d,e,h=>by
  have W:=Wy.no hc h (t:=54) (x:=21) (y:=16) (by omega) (by omega) (by omega) e d (by omega);exact⟨λk M J=>by omega,_,λj A _=>bX _ _ (by omega),W⟩
 |q+1,i,L,H,g,l,d,e,h=>by
  have W:=Wy.yes hc h (t:=54) (x:=21) (y:=16) (by omega) (by omega) (by omega) e d (by omega);have W:=Wy.region hc W (m:=16) rfl;obtain⟨a,a',u,z,s,st,dl,N,O,P,Q,S,B,hold,W⟩:=ano W E (v':=v') (b:=b) (np:=np) (n:=n) (c:=c) (k:=i) (by rw[bX _ _ (by omega)];exact g) (by rw[bX _ _ (by omega)];exact l) (by rw[bX _ _ (by omega)];exact e) (by omega) (by omega) F;have W:=Wy.again hc W.leave;have p:∀j,j<23->j≠21->j≠11->N j=H j:=λj A v C=>by rw[hold j (by omega) v C,bX _ _ (by omega)]
  obtain⟨T,U,D,W⟩:=agS hc E F o q (i+1) (by omega) ((p 10 (by omega) (by omega) (by omega)).trans g) ((p 15 (by omega) (by omega) (by omega)).trans l) ((p 16 (by omega) (by omega) (by omega)).trans d) B W;refine⟨λk M J=>?_,U,λj A v=>(D j A v).trans (p j (by omega) (by omega) v),W⟩
  rcases bv i k with o|o
  ·exact T k o J
  ·obtain rfl:k=i:=by omega
   exact⟨a,a',u,z,s,st,dl,O,P,Q,S⟩
def anr(hc:2<=cs.length)(O:WR Tryz.progTables.globals.size FF (ba aa FF ZZ) ρ w w'){v0:Value}(hv:VR FF ρ (H 0) v0)(h:Wy f R g0 w0 (St H r [.code sU] cs) w) :
 ∃l p q v d e z A B c3 np o n g,H 0=.agg #[.int .i64 l,.int .i64 p,.slice q z A,.slice v B c3,.slice (some d) np o,.slice e n g]/\(2<=np/\np<=5/\n<=3)/\
  ∃y0 y1 y2 y3 b F,v0=.agg #[y0,y1,y2,y3,.slice (some b) np o,F]/\VR FF ρ (.int .i64 l) y0/\VR FF ρ (.int .i64 p) y1/\VR FF ρ (.slice q z A) y2/\VR FF ρ (.slice v B c3) y3/\AR ρ d b/\VR FF ρ (.slice e n g) F/\
  (∀k,k<np->∃u I s n lb P Q,ye ρ w w' d b k u I s n lb P Q)/\(∀k,k<n->∃a a' u I s st dl,e=some a/\F=.slice (some a') n g/\AR ρ a a'/\AA ρ w w' a a' k np u I s st dl)/\
  ∃C,C 9=.slice (some d) np o/\C 10=.slice e n g/\C 15=.int .i64 (np:Int)/\C 16=.int .i64 (n:Int)/\Wy f R g0 w0 (St C r [.code ac3] cs) w:=by
 have W:=Wy.region hc (h.seq hc) (m:=24) rfl;obtain⟨l,p,q,v,d,e,z,A,B,c3,np,o,n,g,H1,hd,W⟩:=ajd W;rw[hd.arg]at hv;obtain⟨y,ey,hy⟩:=Y5 hv;obtain⟨S⟩:=y;have J:cU FF ρ [.int .i64 l,.int .i64 p,.slice q z A,.slice v B c3,.slice (some d) np o,.slice e n g] S:=hy
 cases J with|cons q0 T=>cases T with|cons q1 t1=>cases t1 with|cons q2 t2=>cases t2 with|cons q3 U=>cases U with|cons q4 V=>cases V with|cons q5 X=>
 cases X;have E:=hd.lo;obtain⟨b,Y,D⟩:=xL q4 (show 0<np from Nat.lt_of_lt_of_le (by decide) E.1);subst Y;have W:=Wy.loop hc (W.leave.seq hc);obtain⟨L,H2,hold,W⟩:=agQ hc O D E.2.1 np 0 (by omega) hd.agO hd.MC hd.i W;have W:=Wy.loop hc (W.seq hc);obtain⟨M,Z,c,W⟩:=agS hc O q5 E.2.2 n 0 (by omega) ((hold 10 (by omega) (by omega)).trans hd.agP) ((hold 15 (by omega) (by omega)).trans hd.MC) ((hold 16 (by omega) (by omega)).trans hd.hn) ((hold 21 (by omega) (by omega)).trans hd.j) W
 exact⟨l,p,q,v,d,e,z,A,B,c3,np,o,n,g,hd.arg,E,_,_,_,_,b,_,ey,q0,q1,q2,q3,D,q5,λk N=>L k (bw _) N,λk N=>M k (bw _) N,
  Z,(c 9 (by omega) (by omega)).trans ((hold 9 (by omega) (by omega)).trans hd.agO),(c 10 (by omega) (by omega)).trans ((hold 10 (by omega) (by omega)).trans hd.agP),(c 15 (by omega) (by omega)).trans ((hold 15 (by omega) (by omega)).trans hd.MC),(c 16 (by omega) (by omega)).trans ((hold 16 (by omega) (by omega)).trans hd.hn),W⟩
end
def ajv:∃i,PC.info? 118=some i/\i.zero=some (.agg dZ):=by
 have h:(PC.info? 118).map (·.zero)=some (some (.agg dZ)):=by kernel_rfl
 cases hi:PC.info? 118 with
 |none=>rw[hi]at h;cases h
 |some i=>rw[hi]at h;exact⟨i,rfl,bo h⟩
def ajw:PC.underlying 118=some (.array 3 116):=by kernel_rfl
def ajz:PC.underlying 116=some (.array 5 68):=by kernel_rfl
def ajW:(PC.info? 116).map (·.size)=some 25:=by kernel_rfl
def ahJ:(PC.info? 68).map (·.size)=some 5:=by kernel_rfl
def b35(a b:Int)(w:World):(bg 36 #[(0,.int .i64 a),(1,.int .i64 b)]).run PC w=.ok (.agg #[.int .i64 a,.int .i64 b]) w:=by kernel_rfl
def b61(p a b c d:Int)(w:World):(bg 68 #[(0,.int .i64 p),(1,.agg #[.int .i64 a,.int .i64 b]),(2,.agg #[.int .i64 c,.int .i64 d])]).run PC w=.ok (.agg #[.int .i64 p,.int .i64 a,.int .i64 b,.int .i64 c,.int .i64 d]) w:=by kernel_rfl
section
variable {f:aH}{R:Value->World->Prop}{g0:aI}{w0 w w':World}{H:Nat->Value}{r:List Value}{cs:List Frame}{ρ:Ren}{K:List Item}{ops:Array Oper}{m i d x y z:Nat}
def Wi.agT(h:Wi f R g0 w0 r cs ops m K H i w)(hi:i<m)(a:ops[i]?=some (aD (some d) (.alloc 118) none))(hd:d<98):Wi f R g0 w0 r cs ops m K (upd H d (.pointer (some ⟨w.heap.size,0,none⟩))) (i+1) (w.alloc (.cells dZ 118)):=by
 obtain⟨b,c,e⟩:=ajv;exact .next h.hc a hd ((h.at hi).go bV h.hc (jY (P:=PC) (jb a rfl rfl) rfl c e))
def Wi.qM{t o:Nat}{a:Addr}{u:Nat->Value}(h:Wi f R g0 w0 r cs ops m K H i w)(hi:i<m)(p:ops[i]?=some (aD (some d) (.load t (.tmp x)) none))(hd:d<98)(A:x<98)(q:Sd t o)(hv:H x=.pointer (some a))(hc:∀j,j<o->w.cell? (a.add j)=some (u j)) :
 Wi f R g0 w0 r cs ops m K (upd H d (.agg ((ai o).map u).toArray)) (i+1) w:=by
 obtain⟨L,g,t1,t2,B,C⟩:=q.ex;subst C;have e:a5 (SL 98 H r ops (i::ap (i+1) (m-(i+1))) K 39 cs).frame.eval (aD (some d) (.load t (.tmp x)) none)=(do pure (.value (<-a7 t a)):Sem Next):=Go.Ph.uu rfl ((bH A).trans hv);have key:∀n j(b:Array Value),(∀k,k<n->w.cell? (a.add (j+k))=some (u (j+k)))->(a8 a j n b).run PC w=.ok (b++((ai n).map λk=>u (j+k)).toArray) w:=by
  intro n
  induction n with
  |zero=>intro j b _;simp[a8]
  |succ n D=>
   intro j b l;have s:=l 0 (by omega);rw[bx]at s;simp only[a8,Sem.run_bind,run_load,s,bj];rw[D (j+1) (b.push (u j)) λk M=>by have:=l (k+1) (by omega);rwa[show j+(k+1)=j+1+k by omega]at this];simp[List.range_succ_eq_map,Function.comp_def,Nat.add_assoc,Nat.add_comm 1]
 have v:(a7 t a).run PC w=.ok (.agg ((ai g.size).map u).toArray) w:=by
  have E:(a7 t a).run PC w=((a8 a 0 g.size #[]).run PC w).andThen λc w=>.ok (.agg c) w:=by
   simp[a7,mh t1,t2,sizeOf,typeInfo,B,loadCells]
  rw[E,key g.size 0 #[] λk l=>by rw[bA];exact hc k l];simp[bj]
 obtain⟨v',w',F,I⟩:=(h.at hi).val bV h.hc (jb p rfl rfl) e (.inl ⟨_,_,v⟩);have J:=v.symm.trans F;cases J;exact .next h.hc p hd I
def Wi.agU{t b len c:Nat}{a:Addr}{k:Nat}(h:Wi f R g0 w0 r cs ops m K H i w)(hi:i<m)(e:ops[i]?=some (aD (some d) (.indexAddr t (.tmp x) (.tmp y)) none))(hd:d<98)(g:x<98)(hy:y<98)(j:PC.underlying t=some (.array len b))(hs:(PC.info? b).map (·.size)=some c)(hv:H x=.pointer (some a))(l:H y=.int .i64 (k:Int))(hl:k<len) :
 Wi f R g0 w0 r cs ops m K (upd H d (.pointer (some (a.add (k*c))))) (i+1) w:=by
 have:=(h.at hi).go bV h.hc (qK (P:=PC) (mn:=true) (w:=w) (i:=(k:Int)) (jb e rfl rfl) rfl ((bH g).trans hv) ((bH hy).trans l) j hs (by omega) (by omega));rw[b6]at this;exact .next h.hc e hd this
def Wi.ahk{b off:Nat}{cur c:Array Value}(h:Wi f R g0 w0 r cs ops m K H i w)(hi:i<m)(e:ops[i]?=some (aD none (.store 68 (.tmp x) (.tmp y)) none))(k:x<98)(hy:y<98)(hv:H x=.pointer (some ⟨b,off,none⟩))(l:H y=.agg c)(hb:w.heap[b]?=some (.cells cur 118))(g:c.size=5)(hl:off+5<=cur.size)(n:∀v∈c,v.oneCell'=true) :
 Wi f R g0 w0 r cs ops m K H (i+1) (w.setRow b (putRow cur off c)):=by
 have a:(bq c).cells=c:=rfl;obtain⟨es,st,_⟩:=rC (P:=PC) (mn:=true) (w:=w) (jb e rfl rfl) rfl ((bH k).trans hv) ((bH hy).trans l) hb (by rw[a,g];exact ahJ) (by rw[a,g];exact hl) (by rw[a];exact n);have j:=(h.at hi).go bV h.hc st;rw[UR e rfl,a]at j;exact⟨h.hc,j⟩
def Wi.aq8{a b:Int}(h:Wi f R g0 w0 r cs ops m K H i w)(hi:i<m)(c:ops[i]?=some (aD (some d) (.binOp .eql 3 (.tmp x) (.tmp y) 3) none))(hd:d<98)(e:x<98)(hy:y<98)(hv:H x=.int .i64 a)(g:H y=.int .i64 b):Wi f R g0 w0 r cs ops m K (upd H d (.bool (a==b))) (i+1) w:=
 .next h.hc c hd ((h.at hi).JL bV h.hc (jb c rfl rfl) rfl ((bH e).trans hv) ((bH hy).trans g))
def Wi.pick{v:Value}{b:Bool}(h:Wi f R g0 w0 r cs ops m K H i w)(hi:i<m)(a:ops[i]?=some (aD (some d) (.pick (.tmp x) (.const v) (.tmp y)) none))(hd:d<98)(c:x<98)(hy:y<98)(hb:H x=.bool b):Wi f R g0 w0 r cs ops m K (upd H d (if b then v else H y)) (i+1) w:=by
 have e:(a5 (SL 98 H r ops (i::ap (i+1) (m-(i+1))) K 39 cs).frame.eval (aD (some d) (.pick (.tmp x) (.const v) (.tmp y)) none)).run PC w=.ok (.value (if b then v else H y)) w:=by
  unfold a5;simp only[aD,bH c,bH hy,hb,agM];cases b<;>rfl
 have hs:=dF (P:=PC) (mn:=true) (v:=if b then v else H y) (w':=w) (w:=w) (g:=SL 98 H r ops (i::ap (i+1) (m-(i+1))) K 39 cs) (jb a rfl rfl) e;exact .next h.hc a hd ((h.at hi).go bV h.hc hs)
def Wy.ret{c:Frame}{l:List Frame}{v:Value}(hc:2<=(c::l).length)(h:Wy f R g0 w0 (St H r [.code .ret] (c::l)) w)(hv:H 2=v):Wy f R g0 w0 (fH (c.finish v) l) w:=by
 have e:stepG PC true (St H r [.code .ret] (c::l)) w=.go (fH ⟨39,⟨(ai 98).map H++r⟩,[.code .ret],[],.returning,.normal,none⟩ (c::l)) w #[]:=rfl;have g:=h.go bV hc e;have a:nS.results=#[.tmp 2]:=rfl;have o:(⟨(ai 98).map H++r⟩:Array Value).getD 2 undef=v:=by
  have:=bH (n:=98) (H:=H) (rest:=r) (ops:=#[]) (is:=[]) (k:=[]) (fn:=39) (cs:=[]) (j:=2) (by omega);exact(show(⟨(ai 98).map H++r⟩:Array Value).getD 2 undef=H 2 from this).trans hv
 have hf:PC.funcs[39]?=some nS:=JO;have b:=rB (P:=PC) (mn:=true) (w:=w) (fr:=⟨39,⟨(ai 98).map H++r⟩,[.code .ret],[],.returning,.normal,none⟩) (c:=c) (cs:=l) rfl rfl rfl hf (results_tmp a _ PC w) (events_results_tmp a _ _);rw[o]at b;exact g.go bV hc b
end
structure i_(w:World)(cs:Array Value)(w1:World):Prop where
 tb:w1.heap[w.heap.size]?=some (.cells cs 118)
 old:∀b,b<w.heap.size->w1.heap[b]?=w.heap[b]?
 size:w1.heap.size=w.heap.size+1
def i_.cell{w w1:World}{cs:Array Value}(h:i_ w cs w1){k o:Nat}(a:k<w.heap.size):w1.cell? ⟨k,o,none⟩=w.cell? ⟨k,o,none⟩:=by simp only[b8,h.old k a]
def i_.set{w w1:World}{cs:Array Value}(h:i_ w cs w1)(cs':Array Value):i_ w cs' (w1.setRow w.heap.size cs'):=
 ⟨setRow_heap _ _ _ _ _ _ h.tb,λb hb=>by rw[setRow_other _ _ _ _ (by omega)];exact h.old b hb,by simp[World.setRow,h.size]⟩
structure j_(T:h_)(w:World)(H:Nat->Value):Prop where
 h9:H 9=.slice (some ⟨T.k4,T.o4,none⟩) T.np T.c4
 tI:H 10=.slice T.b5 T.n T.c5
 h15:H 15=.int .i64 (T.np:Int)
 h16:H 16=.int .i64 (T.n:Int)
def j_.on{T:h_}{w:World}{H a:Nat->Value}(h:j_ T w H)(e:∀j,j<66->a j=H j):j_ T w a:=⟨(e 9 (by omega)).trans h.h9,(e 10 (by omega)).trans h.tI,(e 15 (by omega)).trans h.h15,(e 16 (by omega)).trans h.h16⟩
section
variable {f:aH}{R:Value->World->Prop}{g0:aI}{w0 w w1 w':World}{H:Nat->Value}{r:List Value}{cs:List Frame}{ρ:Ren}{K:List Item}{T:h_}{cur:Array Value}{G q:Nat}
structure Rd(T:h_)(w:World)(G q:Nat)(H:Nat->Value):Prop where
 sf:j_ T w H
 h66:H 66=.pointer (some ⟨w.heap.size,0,none⟩)
 h67:H 67=.int .i64 (G:Int)
 h71:H 71=.int .i64 ((j8 T.np (T.S G) q:Nat):Int)
 h72:H 72=.int .i64 (cmV T.pn T.np (T.S G) (T.dl G) q).1
 h73:H 73=.int .i64 (cmV T.pn T.np (T.S G) (T.dl G) q).2
 h74:H 74=.int .i64 (q:Int)
def ans(h:Wi f R g0 w0 r cs afE 26 K H 0 w1)(C:T.In w)(D:i_ w cur w1)(hd:Rd T w G q H)(N:G<T.n)(J:q<T.np)(E:b7 T.pn T.np T.S T.dl G q cur) :
 ∃F z w2,Rd T w G (q+1) F/\i_ w z w2/\b7 T.pn T.np T.S T.dl G (q+1) z/\Wi f R g0 w0 r cs afE 26 K F 26 w2:=by
 have L:=C.lo;have I:j8 T.np (T.S G) q<T.np:=abf (by omega);obtain⟨c1,A⟩:∃c,c=(cmV T.pn T.np (T.S G) (T.dl G) q).1:=⟨_,rfl⟩
 obtain⟨e,i⟩:∃c,c=(cmV T.pn T.np (T.S G) (T.dl G) q).2:=⟨_,rfl⟩
 obtain⟨p,l⟩:∃p,p=j8 T.np (T.S G) q:=⟨_,rfl⟩
 have g:=hd.h71;have m:=hd.h72;have s:=hd.h73;rw[<-A]at m;rw[<-i]at s;rw[<-l]at g I;have W:=h.abO (d:=76) (x:=9) (y:=71) (k:=(p:Int)) (a:=⟨T.k4,T.o4,none⟩) (n:=T.np) (c:=T.c4) (by omega) rfl aeH aeI (by omega) (by omega) (by omega) (by omega) (by omega) hd.sf.h9 g;have M:(⟨T.k4,T.o4,none⟩:Addr).add ((p:Int).toNat*12)=⟨T.k4,T.o4+p*12,none⟩:=by rw[bd,b6]
 rw[M]at W;have W:=W.qM (d:=77) (x:=76) (u:=T.G8 p) (by omega) rfl (by omega) (by omega) akC (bT _ _ _) (λj B=>by rw[bd,D.cell C.h4];exact C.c4 p I j B);have hc:((ai 12).map (T.G8 p)).toArray=#[.string (T.nm p),.int .i64 (T.pn p 1),.int .i64 (T.pn p 2),.int .i64 (T.pn p 3),.int .i64 (T.pn p 4),.int .i64 (T.pn p 5),.int .i64 (T.pn p 6),.int .i64 (T.pn p 7),.int .i64 (T.pn p 8),.int .i64 (T.pn p 9),.int .i64 (T.pn p 10),.slice (T.lb p) (T.ll p) (T.lc p)]:=rfl;rw[hc]at W;have W:=W.fs aa9 (d:=78) (x:=77) (c':=#[.int .i64 (T.pn p 7),.int .i64 (T.pn p 8)]) (by omega) rfl (by omega) (by omega) (bT _ _ _) (by simp);have W:=W.fk aa2 (d:=79) (x:=78) (v:=.int .i64 (T.pn p 7)) (by omega) rfl (by omega) (by omega) (bT _ _ _) rfl;have W:=W.fk aa3 (d:=80) (x:=78) (c:=#[.int .i64 (T.pn p 7),.int .i64 (T.pn p 8)]) (v:=.int .i64 (T.pn p 8)) (by omega) rfl (by omega) (by omega) rfl rfl;have W:=W.fs aaa (d:=81) (x:=77) (c:=#[.string (T.nm p),.int .i64 (T.pn p 1),.int .i64 (T.pn p 2),.int .i64 (T.pn p 3),.int .i64 (T.pn p 4),.int .i64 (T.pn p 5),.int .i64 (T.pn p 6),.int .i64 (T.pn p 7),.int .i64 (T.pn p 8),.int .i64 (T.pn p 9),.int .i64 (T.pn p 10),.slice (T.lb p) (T.ll p) (T.lc p)]) (c':=#[.int .i64 (T.pn p 9),.int .i64 (T.pn p 10)]) (by omega) rfl (by omega) (by omega) rfl (by simp);have W:=W.fk aa2 (d:=82) (x:=81) (v:=.int .i64 (T.pn p 9)) (by omega) rfl (by omega) (by omega) (bT _ _ _) rfl;have W:=W.fk aa3 (d:=83) (x:=81) (c:=#[.int .i64 (T.pn p 9),.int .i64 (T.pn p 10)]) (v:=.int .i64 (T.pn p 10)) (by omega) rfl (by omega) (by omega) rfl rfl
 have W:=W.add (d:=84) (x:=72) (y:=79) (m1:=c1) (n:=T.pn p 7) (by omega) rfl (by omega) (by omega) (by omega) m rfl;have W:=W.add (d:=85) (x:=73) (y:=80) (m1:=e) (n:=T.pn p 8) (by omega) rfl (by omega) (by omega) (by omega) s rfl
 have W:=W.build (d:=86) (t:=36) (ps:=#[(0,.tmp 72),(1,.tmp 73)]) (pv:=#[(0,.int .i64 c1),(1,.int .i64 e)]) (by omega) rfl (by omega) (by
  simp only[aq,ar,aw];rw[bH (by omega),bH (by omega)]
  exact(congrArg (λa=>#[((0:Nat),a),(1,_)]) m).trans (congrArg (λb=>#[((0:Nat),br .i64 c1),(1,b)]) s)) (b35 _ _ _)
 have W:=W.build (d:=87) (t:=36) (ps:=#[(0,.tmp 84),(1,.tmp 85)]) (pv:=#[(0,.int .i64 (IntKind.i64.wrap (c1+T.pn p 7))),(1,.int .i64 (IntKind.i64.wrap (e+T.pn p 8)))]) (by omega) rfl (by omega) (by
  simp only[aq,ar,aw];rw[bH (by omega),bH (by omega)]
  rfl) (b35 _ _ _)
 have W:=W.build (d:=88) (t:=68) (ps:=#[(0,.tmp 71),(1,.tmp 86),(2,.tmp 87)]) (pv:=#[(0,.int .i64 (p:Int)),(1,.agg #[.int .i64 c1,.int .i64 e]),(2,.agg #[.int .i64 (IntKind.i64.wrap (c1+T.pn p 7)),.int .i64 (IntKind.i64.wrap (e+T.pn p 8))])]) (by omega) rfl (by omega) (by
  simp only[aq,ar,aw];rw[bH (by omega),bH (by omega),bH (by omega)]
  exact congrArg (λa=>#[((0:Nat),a),(1,.agg #[.int .i64 c1,.int .i64 e]),(2,.agg #[.int .i64 (IntKind.i64.wrap (c1+T.pn p 7)),.int .i64 (IntKind.i64.wrap (e+T.pn p 8))])]) g) (b61 _ _ _ _ _ _)
 have W:=W.agU (d:=89) (x:=66) (y:=67) (k:=G) (a:=⟨w.heap.size,0,none⟩) (by omega) rfl (by omega) (by omega) (by omega) ajw ajW hd.h66 hd.h67 (by omega);have W:=W.agU (d:=90) (x:=89) (y:=71) (k:=p) (by omega) rfl (by omega) (by omega) (by omega) ajz ahJ (bT _ _ _) g (by omega);have hcs:=E.size
 have W:=W.ahk (x:=90) (y:=88) (b:=w.heap.size) (off:=G*25+p*5) (cur:=cur) (c:=#[.int .i64 (p:Int),.int .i64 c1,.int .i64 e,.int .i64 (IntKind.i64.wrap (c1+T.pn p 7)),.int .i64 (IntKind.i64.wrap (e+T.pn p 8))]) (by omega) rfl (by omega) (by omega) (by
  rw[bT,bd,bd,bA]) rfl D.tb rfl (by omega) (λv hv=>by
  simp only[List.mem_toArray,aB,List.not_mem_nil,or_false]at hv
  rcases hv with rfl|rfl|rfl|rfl|rfl<;>rfl)
 have W:=W.add (d:=91) (x:=84) (y:=82) (m1:=IntKind.i64.wrap (c1+T.pn p 7)) (n:=T.pn p 9) (by omega) rfl (by omega) (by omega) (by omega) rfl rfl;have W:=W.add (d:=92) (x:=85) (y:=83) (m1:=IntKind.i64.wrap (e+T.pn p 8)) (n:=T.pn p 10) (by omega) rfl (by omega) (by omega) (by omega) rfl rfl;have W:=W.abr (d:=72) (x:=91) (by omega) rfl (by omega) (by omega);have W:=W.abr (d:=73) (x:=92) (by omega) rfl (by omega) (by omega);have W:=W.add1 (d:=93) (x:=71) (n:=(p:Int)) (by omega) rfl (by omega) (by omega) g;have W:=W.aq8 (d:=94) (x:=93) (y:=15) (a:=IntKind.i64.wrap ((p:Int)+1)) (b:=(T.np:Int)) (by omega) rfl (by omega) (by omega) (by omega) (bT _ _ _) hd.sf.h15;have W:=W.pick (d:=95) (x:=94) (y:=93) (v:=.int .i64 0) (b:=IntKind.i64.wrap ((p:Int)+1)==(T.np:Int)) (by omega) rfl (by omega) (by omega) (by omega) (bT _ _ _);have W:=W.abr (d:=71) (x:=95) (by omega) rfl (by omega) (by omega);have W:=W.add1 (d:=96) (x:=74) (n:=(q:Int)) (by omega) rfl (by omega) (by omega) hd.h74;have W:=W.abr (d:=74) (x:=96) (by omega) rfl (by omega) (by omega);refine⟨_,_,_,⟨hd.sf.on λj B=>?_,?_,?_,?_,?_,?_,?_⟩,D.set _,E.next J L.2.1 ?_ (λj B=>?_) (λo O=>?_),W⟩
 ·repeat rw[bX _ _ (by omega)]
 ·exact hd.h66
 ·exact hd.h67
 ·have e1:IntKind.i64.wrap ((p:Int)+1)=((p+1:Nat):Int):=ac4 (by omega);show(if IntKind.i64.wrap ((p:Int)+1)==(T.np:Int) then br .i64 0 else .int .i64 (IntKind.i64.wrap ((p:Int)+1)))=_;rw[e1,abm (by omega),<-l]
  grind
 ·show br .i64 (IntKind.i64.wrap (IntKind.i64.wrap (c1+T.pn p 7)+T.pn p 9))=_;rw[cmV,<-A,<-l]
 ·show br .i64 (IntKind.i64.wrap (IntKind.i64.wrap (e+T.pn p 8)+T.pn p 10))=_;rw[cmV,<-i,<-l]
 ·rw[bT,bT,ac4 (by omega)]
 ·rw[vj (by show _+5<=_;omega)];exact hcs
 ·rw[<-l,Mo (by show _+5<=_;omega) B];obtain rfl|rfl|rfl|rfl|rfl:j=0\/j=1\/j=2\/j=3\/j=4:=by omega
  ·simp only[vsV,<-l];rfl
  ·simp only[vsV,<-A];rfl
  ·simp only[vsV,<-i];rfl
  ·simp only[vsV,<-A,<-l];rfl
  ·simp only[vsV,<-i,<-l];rfl
 grind[G4]
noncomputable abbrev ahK:Code:=lb 3 8 ahh 75 (.region 9 afE false)
def Rd.upd{j:Nat}{v:Value}(h:Rd T w G q H)(a:75<=j):Rd T w G q (upd H j v):=
 ⟨h.sf.on λk b=>bX _ _ (by omega),(bX _ _ (by omega)).trans h.h66,(bX _ _ (by omega)).trans h.h67,(bX _ _ (by omega)).trans h.h71,(bX _ _ (by omega)).trans h.h72,(bX _ _ (by omega)).trans h.h73,(bX _ _ (by omega)).trans h.h74⟩
def aeP(hc:2<=cs.length)(g:T.In w)(i:G<T.n):∀(k q:Nat),q+k=T.np->∀{H:Nat->Value}{w1:World}{cur:Array Value},i_ w cur w1->Rd T w G q H->b7 T.pn T.np T.S T.dl G q cur->
 Wy f R g0 w0 (St H r (.code ahK :: .inLoop ahK :: .inBlock 3::K) cs) w1->∃j a w2,i_ w a w2/\Rd T w G T.np j/\b7 T.pn T.np T.S T.dl G T.np a/\Wy f R g0 w0 (St j r K cs) w2
 |0,q,l,H,w1,cur,b,hd,c,h=>by
  obtain rfl:q=T.np:=by omega
  have W:=Wy.no hc h (t:=75) (x:=74) (y:=15) (by omega) (by omega) (by omega) hd.h74 hd.sf.h15 (by omega);exact⟨_,cur,w1,b,hd.upd (by omega),c,W⟩
 |k+1,q,l,H,w1,cur,b,hd,c,h=>by
  have W:=Wy.yes hc h (t:=75) (x:=74) (y:=15) (by omega) (by omega) (by omega) hd.h74 hd.sf.h15 (by omega);have W:=Wy.region hc W (m:=26) rfl;obtain⟨s,o,w2,d,p,e,W⟩:=ans W g b (hd.upd (by omega)) i (by omega) c;exact aeP hc g i k (q+1) (by omega) p d e (Wy.again hc W.leave)
structure k_(T:h_)(w:World)(G:Nat)(H:Nat->Value):Prop where
 sf:j_ T w H
 h66:H 66=.pointer (some ⟨w.heap.size,0,none⟩)
 h67:H 67=.int .i64 (G:Int)
noncomputable abbrev ahQ:Code:=lb 2 6 aiL 68 (.seq (.region 7 opsL false) (.seq (abJ 3 8 ahh 75 (.region 9 afE false)) (.region 10 aj7 false)))
def afk(hc:2<=cs.length)(e:T.In w):∀(k G:Nat),G+k=T.n->∀{H:Nat->Value}{w1:World}{cur:Array Value},i_ w cur w1->k_ T w G H->b7 T.pn T.np T.S T.dl G 0 cur->
 Wy f R g0 w0 (St H r (.code ahQ :: .inLoop ahQ :: .inBlock 2::K) cs) w1->∃A g w2,i_ w g w2/\A 66=.pointer (some ⟨w.heap.size,0,none⟩)/\b7 T.pn T.np T.S T.dl T.n 0 g/\Wy f R g0 w0 (St A r K cs) w2
 |0,G,C,H,w1,cur,i,hd,l,h=>by
  obtain rfl:G=T.n:=by omega
  have W:=Wy.no hc h (t:=68) (x:=67) (y:=16) (by omega) (by omega) (by omega) hd.h67 hd.sf.h16 (by omega);exact⟨_,cur,w1,i,(bX _ _ (by omega)).trans hd.h66,l,W⟩
 |k+1,G,C,H,w1,cur,i,hd,l,h=>by
  obtain⟨D,o⟩:=e.h5 (by omega);have E:=e.st G (by omega);have L:=e.lo.2.2;have W:=Wy.yes hc h (t:=68) (x:=67) (y:=16) (by omega) (by omega) (by omega) hd.h67 hd.sf.h16 (by omega);have W:=Wy.region hc (W.seq hc) (m:=6) rfl;have B:=hd.sf.tI;rw[D]at B;have W:=W.abO (d:=69) (x:=10) (y:=67) (k:=(G:Int)) (a:=⟨T.k5,T.o5,none⟩) (n:=T.n) (c:=T.c5) (by omega) rfl Xh aeM (by omega) (by omega) (by omega) (by omega) (by omega) ((bX _ _ (by omega)).trans B) ((bX _ _ (by omega)).trans hd.h67);have F:(⟨T.k5,T.o5,none⟩:Addr).add ((G:Int).toNat*3)=⟨T.k5,T.o5+G*3,none⟩:=by rw[bd,b6]
  rw[F]at W;have W:=W.qM (d:=70) (x:=69) (u:=T.PM G) (by omega) rfl (by omega) (by omega) akH (bT _ _ _) (λj p=>by rw[bd,i.cell o];exact e.c5 G (by omega) j p);have s:((ai 3).map (T.PM G)).toArray=#[.string (T.gn G),.int .i64 (T.S G:Int),.int .i64 (T.dl G)]:=rfl;rw[s]at W;have W:=W.fk aad (d:=71) (x:=70) (v:=.int .i64 (T.S G:Int)) (by omega) rfl (by omega) (by omega) (bT _ _ _) rfl;have W:=W.fk aae (d:=72) (x:=70) (c:=#[.string (T.gn G),.int .i64 (T.S G:Int),.int .i64 (T.dl G)]) (v:=.int .i64 (T.dl G)) (by omega) rfl (by omega) (by omega) rfl rfl;have W:=W.fk aae (d:=73) (x:=70) (c:=#[.string (T.gn G),.int .i64 (T.S G:Int),.int .i64 (T.dl G)]) (v:=.int .i64 (T.dl G)) (by omega) rfl (by omega) (by omega) rfl rfl;have W:=W.move (d:=74) (by omega) rfl (by omega);have W:=Wy.loop hc ((W.leave).seq hc)
  obtain⟨M,I,w2,J,b,z,W⟩:=aeP hc e (show G<T.n by omega) T.np 0 (by omega) i ⟨hd.sf.on λj p=>by repeat rw[bX _ _ (by omega)],by repeat (rw[bX _ _ (by omega)]);exact hd.h66,by repeat (rw[bX _ _ (by omega)]);exact hd.h67,by
   show br .i64 (T.S G:Int)=_
   rw[j8,bx,Nat.mod_eq_of_lt E],rfl,rfl,rfl⟩ l W
  have W:=Wy.region hc W (m:=2) rfl;have W:=W.add1 (d:=97) (x:=67) (n:=(G:Int)) (by omega) rfl (by omega) (by omega) b.h67;have W:=W.abr (d:=67) (x:=97) (by omega) rfl (by omega) (by omega);refine afk hc e k (G+1) (by omega) J ⟨b.sf.on λj p=>by repeat rw[bX _ _ (by omega)],by repeat (rw[bX _ _ (by omega)]);exact b.h66,?_⟩ z.done (Wy.again hc W.leave);rw[bT,bT,ac4 (by omega)]
def ad1{o:Nat}(h:o<75):dZ[o]?=some (.int .i64 0):=by
 unfold dZ
 grind
def akj{c:Frame}{l:List Frame}(hc:2<=(c::l).length)(e:T.In w)(hs:j_ T w H)(h:Wy f R g0 w0 (St H r [.code ac3] (c::l)) w) :
 ∃cur w2,i_ w cur w2/\b7 T.pn T.np T.S T.dl T.n 0 cur/\Wy f R g0 w0 (fH (c.finish (.pointer (some ⟨w.heap.size,0,none⟩))) l) w2:=by
 have W:=Wy.region hc (h.seq hc) (m:=2) rfl;have W:=W.agT (d:=66) (by omega) rfl (by omega);have W:=W.move (d:=67) (by omega) rfl (by omega);have W:=Wy.loop hc ((W.leave).seq hc)
 have g:i_ w dZ (w.alloc (.cells dZ 118)):=⟨World.alloc_heap_new _ _,λb hb=>by
  show(w.heap.push _)[b]?=_
  grind,by simp[World.size_alloc]⟩
 obtain⟨s,cur,w2,i,a,k,W⟩:=afk hc e T.n 0 (by omega) g ⟨hs.on λj t=>by repeat rw[bX _ _ (by omega)],by rw[bX _ _ (by omega),bT],bT _ _ _⟩ (b7.zero (by simp[dZ]) λo p=>ad1 p) W;have W:=Wy.region hc (W.seq hc) (m:=1) rfl;have W:=W.abr (d:=2) (x:=66) (by omega) rfl (by omega) (by omega);exact⟨cur,w2,i,k,Wy.ret hc W.leave ((bT _ _ _).trans a)⟩
end
def afl{a:Type}(d:a){p:Nat->a->Prop}{n:Nat}(h:∀i,i<n->∃x,p i x):∃f:Nat->a,∀i,i<n->p i (f i):=by
 classical
 refine⟨λi=>if hi:i<n then(h i hi).choose else d,λi hi=>?_⟩;simp only[hi,dif_pos];exact(h i hi).choose_spec
section
variable {f:aH}{R:Value->World->Prop}{g0:aI}{w0 w w':World}{H:Nat->Value}{r:List Value}{cs:List Frame}{ρ:Ren}
def oT{n:Int}{k:IntKind}{v':Value}(h:VR FF ρ (.int k n) v'):v'=.int k n:=by cases h;rfl
def Qg{s:ByteArray}{v':Value}(h:VR FF ρ (.string s) v'):v'=.string s:=by cases h;rfl
def afr{b:Option Addr}{n c:Nat}{v':Value}(h:VR FF ρ (.slice b n c) v'):∃b',v'=.slice b' n c/\∀x,x∈bl b' n c->∃a,ρ a x:=by
 cases h with
 |di=>exact⟨none,rfl,λx d=>by unfold bl at d;split at d<;>simp at d⟩
 |@slice a g _ _ i=>
  refine⟨some g,rfl,λx d=>?_⟩;unfold bl at d
  split at d
  ·simp at d
  ·have e:x=g.block:=by simpa using d
   exact⟨a.block,by rw[e];exact i.1⟩
 |dK=>exact⟨some _,rfl,λx d=>by unfold bl at d;simp at d⟩
def AB{a:Addr}{v:Value}(h:w.cell? a=some v):a.spot=none:=by
 unfold b8 at h
 split at h
 ·split at h
  ·cases h
  ·rename_i hs
   cases b:a.spot with
   |none=>rfl
   |some _=>rw[b]at hs;simp at hs
 ·cases h
def abw{a:Addr}{v:Value}(h:w.cell? a=some v):a.block<w.heap.size:=by
 unfold b8 at h
 split at h
 ·rename_i b;exact(Array.getElem?_eq_some_iff.1 b).1
 ·cases h
def Qh{a:Addr}(h:a.spot=none)(n j:Nat):(a.add n).add j=⟨a.block,a.off+n+j,none⟩:=by
 obtain⟨b,o,s⟩:=a;simp only at h;subst h;rw[bd,bd]
def abx{a:Addr}{n:Nat}{v:Value}(h:w.cell? ((a.add n).add 0)=some v)(b:n=0):a.spot=none:=by
 subst b;have e:(a.add 0).add 0=a:=by unfold Addr.add;simp
 rw[e]at h;exact AB h
def aby{a:Addr}{k:Nat}{u:Nat->Value}{s:ByteArray}{n:Nat->Int}{lb:Option Addr}{c d:Nat}(hs:a.spot=none)(hc:∀j,j<12->w.cell? ((a.add (k*12)).add j)=some (u j))(g:u 0=.string s)(b:∀j,1<=j->j<=10->u j=.int .i64 (n j))(hl:u 11=.slice lb c d){j:Nat}(h:j<12) :
 w.cell? ⟨a.block,a.off+k*12+j,none⟩=(#[bs s,.int .i64 (n 1),.int .i64 (n 2),.int .i64 (n 3),.int .i64 (n 4),.int .i64 (n 5),.int .i64 (n 6),.int .i64 (n 7),.int .i64 (n 8),.int .i64 (n 9),.int .i64 (n 10),.slice lb c d]:Array Value)[j]?:=by
 have e:=hc j h;rw[Qh hs]at e;rw[e];obtain rfl|rfl|rfl|rfl|rfl|rfl|rfl|rfl|rfl|rfl|rfl|rfl:j=0\/j=1\/j=2\/j=3\/j=4\/j=5\/j=6\/j=7\/j=8\/j=9\/j=10\/j=11:=by omega
 ·rw[g];rfl
 ·rw[b 1 (by omega) (by omega)];rfl
 ·rw[b 2 (by omega) (by omega)];rfl
 ·rw[b 3 (by omega) (by omega)];rfl
 ·rw[b 4 (by omega) (by omega)];rfl
 ·rw[b 5 (by omega) (by omega)];rfl
 ·rw[b 6 (by omega) (by omega)];rfl
 ·rw[b 7 (by omega) (by omega)];rfl
 ·rw[b 8 (by omega) (by omega)];rfl
 ·rw[b 9 (by omega) (by omega)];rfl
 ·rw[b 10 (by omega) (by omega)];rfl
 ·rw[hl];rfl
structure anu(ρ:Ren)(w w':World)(a a':Addr)(k:Nat)(x:ByteArray×(Nat->Int)×(Option Addr×Nat×Nat)×Option Addr):Prop where
 lone:∀j,j<12->w.cell? ⟨a.block,a.off+k*12+j,none⟩=(#[bs x.1,.int .i64 (x.2.1 1),.int .i64 (x.2.1 2),.int .i64 (x.2.1 3),.int .i64 (x.2.1 4),.int .i64 (x.2.1 5),.int .i64 (x.2.1 6),.int .i64 (x.2.1 7),.int .i64 (x.2.1 8),.int .i64 (x.2.1 9),.int .i64 (x.2.1 10),.slice x.2.2.1.1 x.2.2.1.2.1 x.2.2.1.2.2]:Array Value)[j]?
 comp:∀j,j<12->w'.cell? ⟨a'.block,a'.off+k*12+j,none⟩=(#[bs x.1,.int .i64 (x.2.1 1),.int .i64 (x.2.1 2),.int .i64 (x.2.1 3),.int .i64 (x.2.1 4),.int .i64 (x.2.1 5),.int .i64 (x.2.1 6),.int .i64 (x.2.1 7),.int .i64 (x.2.1 8),.int .i64 (x.2.1 9),.int .i64 (x.2.1 10),.slice x.2.2.2 x.2.2.1.2.1 x.2.2.1.2.2]:Array Value)[j]?
 lane:∀y,y∈bl x.2.2.2 x.2.2.1.2.1 x.2.2.1.2.2->∃b,ρ b y
def ye.both{a a':Addr}{k:Nat}{u g:Nat->Value}{s:ByteArray}{n:Nat->Int}{lb:Option Addr}{d e:Nat}(h:ye ρ w w' a a' k u g s n lb d e)(hs:a.spot=none)(i:a'.spot=none):∃x,anu ρ w w' a a' k x:=by
 have c:=(h.cell 11 (by omega)).2.2.1;rw[h.lane]at c;obtain⟨l,m,hl⟩:=afr c;refine⟨(s,n,(lb,d,e),l),λj b=>aby hs (λj b=>(h.cell j b).1) h.name h.num h.lane b,λj b=>aby i (λj b=>(h.cell j b).2.1) ?_ (λj o p=>?_) m b,hl⟩
 ·have:=(h.cell 0 (by omega)).2.2.1;rw[h.name]at this;exact Qg this
 ·have:=(h.cell j (by omega)).2.2.1;rw[h.num j o p]at this;exact oT this
structure akk(w w':World)(a a':Addr)(k np:Nat)(x:ByteArray×Nat×Int):Prop where
 lone:∀j,j<3->w.cell? ⟨a.block,a.off+k*3+j,none⟩=(#[bs x.1,.int .i64 (x.2.1:Int),.int .i64 x.2.2]:Array Value)[j]?
 comp:∀j,j<3->w'.cell? ⟨a'.block,a'.off+k*3+j,none⟩=(#[bs x.1,.int .i64 (x.2.1:Int),.int .i64 x.2.2]:Array Value)[j]?
 lt:x.2.1<np
def AA.both{a a':Addr}{k np:Nat}{u d:Nat->Value}{s:ByteArray}{st:Nat}{dl:Int}(h:AA ρ w w' a a' k np u d s st dl)(hs:a.spot=none)(e:a'.spot=none):akk w w' a a' k np (s,st,dl):=by
 have k0:=(h.cell 0 (by omega)).2.2.1;rw[h.name]at k0;have k1:=(h.cell 1 (by omega)).2.2.1;rw[h.start]at k1;have k2:=(h.cell 2 (by omega)).2.2.1;rw[h.aeN]at k2;refine⟨λj c=>?_,λj c=>?_,h.lt⟩
 ·have b:=(h.cell j c).1;rw[Qh hs]at b;rw[b];obtain rfl|rfl|rfl:j=0\/j=1\/j=2:=by omega
  ·rw[h.name];rfl
  ·rw[h.start];rfl
  ·rw[h.aeN];rfl
 ·have b:=(h.cell j c).2.1;rw[Qh e]at b;rw[b];obtain rfl|rfl|rfl:j=0\/j=1\/j=2:=by omega
  ·rw[Qg k0];rfl
  ·rw[oT k1];rfl
  ·rw[oT k2];rfl
end
def agV{x:Nat->Value}{a:Array Value}(h:a=#[x 0,x 1,x 2,x 3,x 4,x 5,x 6,x 7,x 8,x 9,x 10,x 11]){j:Nat}(b:j<12):a[j]?=some (x j):=by
 subst h;obtain rfl|rfl|rfl|rfl|rfl|rfl|rfl|rfl|rfl|rfl|rfl|rfl:j=0\/j=1\/j=2\/j=3\/j=4\/j=5\/j=6\/j=7\/j=8\/j=9\/j=10\/j=11:=by omega
 all_goals rfl
def akn{x:Nat->Value}{a:Array Value}(h:a=#[x 0,x 1,x 2]){j:Nat}(b:j<3):a[j]?=some (x j):=by
 subst h;obtain rfl|rfl|rfl:j=0\/j=1\/j=2:=by omega
 all_goals rfl
section
variable {f:aH}{R:Value->World->Prop}{g0:aI}{w0 w w':World}{H:Nat->Value}{r:List Value}{cs:List Frame}{ρ:Ren}
def anw(ρ:Ren)(w':World)(v0:Value)(T:h_):Prop:=∃c,v0=.agg c/\(T.n=0->∃d e,c[5]?=some (.slice d 0 e))/\
 (0<T.n->∃D gn,c=cA T.np D/\Cf T.np T.n D T.S T.dl gn w'/\D.pn=T.pn/\∀b,b∈dR T.np D->∃a,ρ a b)
def ako(hc:2<=cs.length)(hw:WR Tryz.progTables.globals.size FF (ba aa FF ZZ) ρ w w'){v0:Value}(hv:VR FF ρ (H 0) v0)(h:Wy f R g0 w0 (St H r [.code sU] cs) w) :
 ∃T v,T.In w/\j_ T w v/\anw ρ w' v0 T/\Wy f R g0 w0 (St v r [.code ac3] cs) w:=by
 obtain⟨l,p,b2,b3,o,b5,n2,c2,n3,c3,g,c4,n,Q,_,y,y0,y1,y2,y3,c,y5,ev,q0,q1,q2,q3,ha4,q5,z,A,v,e9,B,C,E,W⟩:=anr hc hw hv h;have U:o.spot=none/\c.spot=none/\o.block<w.heap.size:=by
  obtain⟨u,u',s,nn,lb,ll,lc,t⟩:=z 0 (by omega);obtain⟨k1,k2,_,_⟩:=t.cell 0 (by omega);have e1:(o.add (0*12)).add 0=o:=by rw[bC];unfold Addr.add;simp
  rw[e1]at k1;exact⟨AB k1,abx k2 (bC _),abw k1⟩
 obtain⟨U,F,I⟩:=U;obtain⟨X,V⟩:=afl (bb,λ_=>0,(none,0,0),none) (p:=λk x=>anu ρ w w' o c k x) (n:=g) λk d=>by
  obtain⟨u,u',s,nn,lb,ll,lc,t⟩:=z k d;exact t.both U F
 obtain⟨b2',J,k2⟩:=afr q2;obtain⟨b3',K,k3⟩:=afr q3;have f0:=oT q0;have f1:=oT q1;subst J K f0 f1;have e4':c=⟨c.block,c.off,none⟩:=by rw[<-F]
 have e4:o=⟨o.block,o.off,none⟩:=by rw[<-U]
 rcases bL n with L|L
 ·subst L;obtain⟨b5',e5,_⟩:=afr q5;subst e5;refine⟨{ l:=l,p:=p,b2:=b2,n2:=n2,c2:=c2,b3:=b3,n3:=n3,c3:=c3,k4:=o.block,o4:=o.off,np:=g,c4:=c4,b5:=b5,k5:=0,o5:=0,n:=0,c5:=Q,pn:=λi j=>(X i).2.1 j,S:=λ_=>0,dl:=λ_=>0,nm:=λi=>(X i).1,gn:=λ_=>bb,lb:=λi=>(X i).2.2.1.1,ll:=λi=>(X i).2.2.1.2.1,lc:=λi=>(X i).2.2.1.2.2 },v,⟨y,I,(λh=>absurd h (bt _)),(λk d=>absurd d (bM _)),(λi hi j q=>by rw[(V i hi).lone j q];exact agV (by rfl) q),(λk d=>absurd d (bM _))⟩,⟨by rw[e9,e4],B,C,E⟩,⟨_,ev,(λ_=>⟨_,_,rfl⟩),(λh=>absurd h (bt _))⟩,W⟩
 ·obtain⟨a,m,s5,s5',Z,ey,har,hg⟩:∃a m,a.spot=none/\m.spot=none/\b5=some a/\y5=.slice (some m) n Q/\AR ρ a m/\∀k,k<n->∃x,akk w w' a m k g x:=by
   obtain⟨a,m,u,u',s,st,dl,Z,ey,ha,t⟩:=A 0 L;obtain⟨k1,k2,_,_⟩:=t.cell 0 (by omega);have sp:=abx k1 (bC _);have M:=abx k2 (bC _);refine⟨a,m,sp,M,Z,ey,ha,λk d=>?_⟩;obtain⟨a1,a1',u,u',s,st,dl,N,O,ha1,t⟩:=A k d;rw[Z]at N;cases N;rw[ey]at O;cases O;exact⟨_,t.both sp M⟩
  obtain⟨Y,P⟩:=afl (bb,0,0) (p:=λk x=>akk w w' a m k g x) (n:=n) hg;have ea:a=⟨a.block,a.off,none⟩:=by rw[<-s5]
  have ea':m=⟨m.block,m.off,none⟩:=by rw[<-s5']
  have h5:a.block<w.heap.size:=by
   have:=(P 0 L).lone 0 (by omega);exact abw (a:=⟨a.block,_,none⟩) (this.trans rfl)
  refine⟨{ l:=l,p:=p,b2:=b2,n2:=n2,c2:=c2,b3:=b3,n3:=n3,c3:=c3,k4:=o.block,o4:=o.off,np:=g,c4:=c4,b5:=b5,k5:=a.block,o5:=a.off,n:=n,c5:=Q,pn:=λi j=>(X i).2.1 j,S:=λk=>(Y k).2.1,dl:=λk=>(Y k).2.2,nm:=λi=>(X i).1,gn:=λk=>(Y k).1,lb:=λi=>(X i).2.2.1.1,ll:=λi=>(X i).2.2.1.2.1,lc:=λi=>(X i).2.2.1.2.2 },v,
   ⟨y,I,λ_=>⟨by rw[Z,ea],h5⟩,λk d=>(P k d).lt,(λi hi j q=>by rw[(V i hi).lone j q];exact agV (by rfl) q),(λk d j q=>by rw[(P k d).lone j q];exact akn (by rfl) q)⟩,⟨by rw[e9,e4],B,C,E⟩,⟨_,ev,λh=>absurd h (Nat.ne_of_gt L),λ_=>?_⟩,W⟩
  let D:jB:={ l,p,so:=b2',sl:=n2,sc:=c2,qo:=b3',ql:=n3,qc:=c3,pb:=c.block,po:=c.off,cp:=c4,gb:=m.block,go:=m.off,ng:=n,cg:=Q,pe:=λi=>(X i).1,pn:=λi j=>(X i).2.1 j,pl:=λi=>if i<g then(X i).2.2.2 else none,pc:=λi=>if i<g then(X i).2.2.1.2.1 else 0,pd:=λi=>if i<g then(X i).2.2.1.2.2 else 0 }
  have Ht:∀b,b∈dR g D->∃x,ρ x b:=by
   intro b hb;unfold dR at hb;simp only[aB,List.mem_append,List.mem_flatMap,List.mem_range]at hb
   rcases hb with rfl|rfl|(hb|hb)|⟨i,hi,hb⟩
   ·exact⟨_,ha4.1⟩
   ·exact⟨_,har.1⟩
   ·exact k2 b hb
   ·exact k3 b hb
   ·have e1:D.pl i=if i<g then(X i).2.2.2 else none:=rfl
    have J:D.pc i=if i<g then(X i).2.2.1.2.1 else 0:=rfl
    have K:D.pd i=if i<g then(X i).2.2.1.2.2 else 0:=rfl
    rw[e1,J,K]at hb;by_cases h:i<g
    ·rw[if_pos h,if_pos h,if_pos h]at hb;exact(V i h).lane b hb
    ·rw[if_neg h,if_neg h,if_neg h]at hb;simp[bl]at hb
  refine⟨D,λk=>(Y k).1,?_,⟨λb hb=>?_,λi hi j q=>?_,λk d j q=>?_,rfl,λk d=>(P k d).lt,⟨Nat.le_trans (by decide) y.1,y.2.1⟩,y.2.2⟩,rfl,Ht⟩
  ·rw[ey,e4',ea'];rfl
  ·obtain⟨x,hx⟩:=Ht b hb;have hl:=(hw.lt hx).2;exact⟨hl,_,Array.getElem?_eq_getElem hl⟩
  ·have t:=(V i hi).comp j q;have e:pA D i=#[bs (X i).1,.int .i64 ((X i).2.1 1),.int .i64 ((X i).2.1 2),.int .i64 ((X i).2.1 3),.int .i64 ((X i).2.1 4),.int .i64 ((X i).2.1 5),.int .i64 ((X i).2.1 6),.int .i64 ((X i).2.1 7),.int .i64 ((X i).2.1 8),.int .i64 ((X i).2.1 9),.int .i64 ((X i).2.1 10),.slice (X i).2.2.2 (X i).2.2.1.2.1 (X i).2.2.1.2.2]:=by
    have e1:D.pl i=(X i).2.2.2:=if_pos hi;have J:D.pc i=(X i).2.2.1.2.1:=if_pos hi;have K:D.pd i=(X i).2.2.1.2.2:=if_pos hi;unfold pA;rw[e1,J,K]
   rw[e,<-t,bR 12 i]
  ·have t:=(P k d).comp j q;rw[bR 3 k];exact t
end
end Go.Proofs
namespace Go.Proofs
open Go.bJ Go.Conc Go.Ph
set_option maxRecDepth 100000
def al6{np s:Nat}(a:2<=np)(b:np<=5)(hs:s<np):FE np s:=by
 obtain rfl|rfl|rfl|rfl:np=2\/np=3\/np=4\/np=5:=by omega
 ·exact aqe hs
 ·exact aqf hs
 ·exact aqg hs
 ·exact aqh hs
def ac5(np s:Nat)(D:jB)(dl:Int):∀r,bS np s D dl r=cmV D.pn np s dl r
 |0=>rfl
 |r+1=>by
  rw[bS,ac5 np s D dl r,cmV];rfl
def al7(np s:Nat)(D:jB)(dl:Int)(r j:Nat)(a:j<5):(cG np s D r (bS np s D dl r))[j]?=some (.int .i64 (vsV D.pn np s dl r j)):=by
 rw[ac5];obtain rfl|rfl|rfl|rfl|rfl:j=0\/j=1\/j=2\/j=3\/j=4:=by omega
 all_goals rfl
def aga{n np:Nat}{D:jB}{S:Nat->Nat}{dl:Nat->Int}{w w1:World}(h:UQ n np D S dl w w1)(l:n<=3)(m:1<=np)(d:∀k,k<n->S k<np):∃cs:Array Value,w1.heap[w.heap.size+1]?=some (.cells cs 118)/\b7 D.pn np S dl n 0 cs:=by
 obtain⟨cs,hb,hcs⟩:=h.tb;have cell:∀o,w1.cell? ⟨w.heap.size+1,o,none⟩=cs[o]?:=λo=>by
  simp only[b8,hb];rfl
 refine⟨cs,hb,hcs,λk r j a b=>?_,λo e f=>?_⟩
 ·obtain⟨a,g⟩:k<n/\r<np:=by rcases a with h|h<;>omega
  have:=(h.rows k a).put r g j b;rw[<-cell,<-al7 np (S k) D (dl k) r j b];exact this
 ·rw[<-cell]
  rcases bv o (n*25) with c|c
  ·have a:o / 25<n:=by omega
   by_cases i:o % 25 / 5<np
   ·exfalso;refine f (o / 25) (P2 np (S (o / 25)) (o % 25 / 5)) (.inl ⟨a,X0 (by omega)⟩) ?_;unfold afF;rw[aeC i (d _ a)];omega
   ·exact(h.rows _ a).rest o ⟨by omega,by omega,by omega⟩ (.inr (by omega))
  ·exact h.rest o c e
def agW{D:jB}{S:Nat->Nat}{dl:Nat->Int}{w w1:World}(h:UQ 0 1 D S dl w w1)(b:Nat->Nat->Int)(np:Nat)(c:Nat->Nat)(a:Nat->Int):∃cs:Array Value,w1.heap[w.heap.size+1]?=some (.cells cs 118)/\b7 b np c a 0 0 cs:=by
 obtain⟨cs,hb,hcs⟩:=h.tb;have cell:∀o,w1.cell? ⟨w.heap.size+1,o,none⟩=cs[o]?:=λo=>by
  simp only[b8,hb];rfl
 exact⟨cs,hb,b7.zero hcs λo d=>by rw[<-cell];exact h.rest o (by omega) d⟩
def MX{ρ:Ren}{l:List Value}(h:∀v∈l,∃n,v=.int .i64 n):cU FF ρ l l:=by
 induction l with
 |nil=>exact .nil
 |cons v l a=>
  obtain⟨n,e⟩:=h v (by simp);subst e;exact .cons (.int _ _) (a λu b=>h u (by simp[b]))
def agX{b:Nat->Nat->Int}{np:Nat}{S:Nat->Nat}{dl:Nat->Int}{G R:Nat}{cs:Array Value}(h:b7 b np S dl G R cs):∀v∈cs.toList,∃n,v=.int .i64 n:=by
 intro v hv;obtain⟨o,a⟩:=List.mem_iff_getElem?.1 hv;have hl:=(List.getElem?_eq_some_iff.1 a).1;obtain⟨n,e⟩:=h.int (o:=o) (by have:=h.size;simpa[this]using hl);rw[Array.getElem?_toList,e]at a;exact⟨n,(bo a).symm⟩
def MY{P:aF}{n:Nat}{g a:aI}{w w2:World}(h:cy P n g w a w2)(b:g.callers.length≠a.callers.length):∃m,n=m+1:=by
 cases n with
 |zero=>cases h;exact absurd rfl b
 |succ m=>exact⟨m,rfl⟩
def MZ{a:Array Value}(h:undef=bq a):False:=by cases h
def U2(f:aH)(R:Value->World->Prop):BD aa cY.funcs ab FF XX ZZ (lQ PC f R):=by
 intro x z ρ a K c c' l l' w w' gs sl t q j hI E ha hc sB ht hi C F lS;obtain rfl:x=39:=by simpa[XX]using z
 obtain⟨H,r,e0,eN,eE⟩:=ZU a;have eE':ae (⟨aa,cY.funcs⟩:aF) 39 a .normal=⟨39,⟨(ai 98).map H++r⟩,[.code sU],[],.run,.normal,none⟩:=eE;have hcs:2<=(c::(l++[aX PC])).length:=by simp
 have akW:Wy f R (fH (ae PC 39 a .normal) (c::l++[aX PC])) w (fH (ae PC 39 a .normal) (c::l++[aX PC])) w:=⟨ht,hi,0,.zero _ _⟩
 have akX:Wy f R (fH (ae PC 39 a .normal) (c::l++[aX PC])) w (St H r [.code sU] (c::(l++[aX PC]))) w:=by
  have:St H r [.code sU] (c::(l++[aX PC]))=fH (ae PC 39 a .normal) (c::l++[aX PC]):=by
   unfold St;rw[<-eE'];rfl
  rw[this];exact akW
 have akZ:∃X:Value,VR FF ρ (H 0) X/\(∀y,X=.agg y->K[0]?=some X):=by
  rcases VA.get? ha 0 with⟨g1,g2⟩|⟨v,v',g1,g2,hv⟩
  ·have ea:a=#[]:=by
    obtain⟨L⟩:=a
    cases L with
    |nil=>rfl
    |cons _ _=>simp at g1
   rw[eN ea];exact⟨undef,.undef,λy hy=>(MZ hy).elim⟩
  ·exact⟨v',by rw[e0 v g1];exact hv,λ_ _=>g2⟩
 obtain⟨X,hv0,zE⟩:=akZ;obtain⟨T,H',Y,hS,⟨O,Z,hz,hp⟩,akY⟩:=ako hcs E hv0 akX;obtain⟨cur,w2,s,P,way⟩:=akj hcs Y hS akY;have M:∀{a b},ρ a b->a<w.heap.size/\b<w'.heap.size:=λh=>E.lt h;have Xf:∀l,j l->l.low w'.heap.size/\l.isMemory=true:=λl hl=>by
  refine⟨?_,F.mem l hl⟩
  cases l with
  |cell a=>exact(F.cell a hl).1
  |obj b=>exact(F.obj b hl).1
  |_=>trivial
 have Cu:=Y.lo;obtain⟨n,np,D,S,dl,N,u,w1,I,t1,q1,k1,k2,k3,Q,U,V,p,cs,htb,anz⟩:∃(n np:Nat)(D:jB)(S:Nat->Nat)(dl:Nat->Int)(N:Nat)(u:Array aI)(w1:World)(I:Option (Nat×Nat))(t1:Trace)(q1:Nat->Nat),runNT PP N (crowd gs w' sl) t=(.next (crowd u w1 I),t1)/\gs.size<=u.size/\
  u[0]?=some (G (c'.finish (.pointer (some ⟨w'.heap.size+1,0,none⟩))) l')/\Leavers PP t1 u q1/\Past (λl=>j l\/OZ (zL j w'.heap.size n) l) w1.heap.size t1/\(∀op∈t1,u.size<=op.g->op.act.touch? = none)/\UQ n np D S dl w' w1/\
  ∃cs:Array Value,w1.heap[w'.heap.size+1]?=some (.cells cs 118)/\b7 T.pn T.np T.S T.dl T.n 0 cs:=by
  rcases bL T.n with A|A
  ·obtain⟨sa,cg,h5⟩:=hz A;obtain⟨jf,jr,eA⟩:=US (ca:=O) (by rw[<-Z];exact zE _ Z);have J:gs[0]?=some (G (fE (CA.mk O jf jr)) (c'::l')):=by
    have:=C.main;rw[<-eA];exact this
   obtain⟨N,u,w1,I,t1,q1,k1,k2,k3,Q,U,V,p⟩:=ac0 (sl:=sl) h5 Xf J C.old C.GA C.num;have B:∃cs:Array Value,w1.heap[w'.heap.size+1]?=some (.cells cs 118)/\b7 T.pn T.np T.S T.dl T.n 0 cs:=by
    rw[A];exact agW p T.pn T.np T.S T.dl
   exact⟨_,_,_,_,_,N,u,w1,I,t1,q1,k1,k2,k3,Q,U,V,p,B⟩
  ·obtain⟨D,gn,eD,cf,epn,Ht⟩:=hp A;subst eD;obtain⟨jf,jr,eA⟩:=US (ca:=cA T.np D) (by rw[<-Z];exact zE _ Z);have hSb:∀b∈dR T.np D,∀K:Addr,K.block=b->¬j (.cell K):=λb hb K e hs=>by
    obtain⟨r,d⟩:=Ht b hb;exact(F.cell K hs).2 r (by rw[e];exact d)
   have J:gs[0]?=some (G (fE (CA.mk (cA T.np D) jf jr)) (c'::l')):=by
    have:=C.main;rw[<-eA];exact this
   obtain⟨N,u,w1,I,t1,q1,k1,k2,k3,Q,U,V,p⟩:=MU (sl:=sl) A cf (λk hk=>al6 Cu.1 Cu.2.1 (Y.st k hk)) Xf hSb J C.old C.GA C.num;have B:=aga p Cu.2.2 (by omega) Y.st;rw[epn]at B;exact⟨_,_,_,_,_,N,u,w1,I,t1,q1,k1,k2,k3,Q,U,V,p,B⟩
 obtain rfl:cs=cur:=anz.uniq P;have U3:∀b,¬ρ w.heap.size b:=λb h=>absurd (M h).1 (bt _);have JY:∀n,w'.heap.size<=n->∀a,¬ρ a n:=λn A a h=>by have:=(M h).2;omega
 have fW:=p.size;obtain⟨n,A⟩:=way.chain;obtain⟨m,rfl⟩:=MY A (by simp)
 refine⟨N,ρ.ext w.heap.size (w'.heap.size+1),.pointer (some ⟨w.heap.size,0,none⟩),.pointer (some ⟨w'.heap.size+1,0,none⟩),w2,w1,u,I,t1,q1,_,k1,⟨k3,Q,U,V⟩,⟨λx z=>?_,λb hb=>?_,λx z=>?_⟩,.ptr ⟨Ren.IW _ _ _,rfl,rfl⟩,hI.ext U3 (JY _ (by omega)) E.pK (by have:=E.gN;omega),⟨?_,by have:=E.gN;omega,λ{r r'}d=>?_⟩,
  ⟨Ren.kW _ _ _,λa b h=>?_,λa b h i hh=>⟨?_,by unfold b8;rw[p.kept b (M h).2]⟩⟩,⟨p.tape,p.os,p.output,by omega,λb hb _=>p.kept b hb⟩,⟨m,w.tape,w.drawn,A⟩,way.inv,?_⟩
 ·rcases z with z|⟨y,hy,hb⟩
  ·obtain⟨h1,W⟩:=F.cell x z;refine⟨by omega,λr d=>?_⟩
   rcases d with d|⟨_,e⟩
   ·exact W r d
   ·omega
  ·cases hy;have jH:x.block=w'.heap.size+3\/x.block=w'.heap.size+4:=hb;refine⟨by omega,λr d=>?_⟩
   rcases d with d|⟨_,e⟩
   ·exact JY _ (by omega) r d
   ·omega
 ·rcases hb with hb|⟨y,hy,_⟩
  ·obtain⟨h1,W⟩:=F.obj b hb;refine⟨by omega,λr d=>?_⟩
   rcases d with d|⟨_,e⟩
   ·exact W r d
   ·omega
  ·cases hy
 ·rcases z with z|⟨y,hy,_⟩
  ·exact F.mem x z
  ·subst hy;rfl
 ·have:=E.pK;rw[s.size];omega
 ·rcases d with d|⟨rfl,rfl⟩
  ·obtain⟨o,o',h1,W,h3⟩:=E.obj d;refine⟨o,o',?_,?_,h3.mono (Ren.kW _ _ _)⟩
   ·rw[s.old _ (M d).1];exact h1
   ·rw[p.kept _ (M d).2];exact W
  ·exact⟨_,_,s.tb,htb,.cells _ _ (MX (agX P))⟩
 ·rcases h with h|⟨rfl,rfl⟩
  ·exact .inl h
  ·exact .inr ⟨Nat.le_refl _,by omega⟩
 ·obtain⟨v,hv,hu⟩:=hh;exact⟨v,(s.cell (M h).1).symm.trans hv,hu⟩
 ·rw[s.size];omega
end Go.Proofs
