/- Part of the proof of FieldNarrow. -/
import Derived.Test.YtmpgbncpnljnoaaGreatU08
set_option linter.all false
open Go.Proofs.Tryz renaming progTables->aa,funcs->ab,func43->ac
open Go.Frame renaming enter->ad
open List renaming range->ae,replicate->ai,range'->ao,map_toArray->ap,map_cons->aq,map_nil->ar,mem_cons->aw
open Go renaming Program->aB,FuncId->aF,Goroutine->aH,TypeId->aI,TypeDesc->aJ,TypeInfo->aL,zeroValue->aP,Operand->aS,execOp->aT,eqGuard->a5,loadVar->a6,loadCellsFrom->a7
open Go.bJ renaming Way->a8,codeOk->a9
open ByteArray renaming empty->ba
open Go.Ph renaming xH->bb,dY->bc
open Go.Instr renaming build->bd,fill->bg
open Go.Result renaming andThen->bi,ok->bj
open Option.some renaming inj->bm,injEq->bo
open Go.Value renaming agg->bp,int->bq,string->br,slice->bs,bool->bt,pointer->bv
open Go.Op renaming intCmp->bw,binOp->bx,field->bA,indexAddr->bC,build->bL,move->bM
open Go.ConcN renaming upd_same->bR,upd_ne->bT
open Nat renaming zero_le->bX,add_zero->b6,zero_mul->b8,eq_zero_or_pos->b9,lt_irrefl->cb,not_lt_zero->cc
open Int renaming toNat_natCast->cd
open Go.World renaming cell?->ce
open Go.CallKind renaming normal->ch
open Go.Item renaming code->ci,inLoop->cl,inBlock->cm
open Go.Operand renaming tmp->co,const->cq
open Go.IntKind renaming i64->ct
open Go.TypeDesc renaming slice->cu,struct->cv,array->cx
open Go.Obj renaming cells->cB
open Go.Code renaming region->cC,seq->cQ,cond->c6,skip->c7,exit->c8,loop->c9
namespace Go.Proofs
open Go.bJ Go.Conc Go.Ph
set_option maxRecDepth 100000
def Eh:cY.funcs.size<=cn:=of_decide_eq_true (by kernel_rfl)
def aeA:Jg aa cY.funcs FF NN ZZ 149=true:=by kernel_rfl
def JN:Fits aa cY.funcs ab FF XX ZZ:=by
 refine BJ Jh (n:=149) (λf hf=>of_decide_eq_true (Bool.and_eq_true_iff.1 hf).1) (λf a=>?_) (λf a=>?_) acG Eh
 ·have b:43≠f:=λe=>by subst e;cases a
  show(Tryz.funcs.setIfInBounds 43 nS)[f]?=_
  grind
 ·obtain rfl:f=43:=by simpa[XX]using a
  have hl:43<Tryz.funcs.size:=(Array.getElem?_eq_some_iff.1 ac).1;refine⟨⟨nS,?_,rfl,by decide +kernel⟩,Tryz.f43,ac,rfl,by decide +kernel⟩;show(Tryz.funcs.setIfInBounds 43 nS)[43]?=_
  grind
def bV:Fits aa cY.funcs cY.funcs FF NN ZZ:=
 BJ Jh (n:=149) (λf hf=>of_decide_eq_true (Bool.and_eq_true_iff.1 hf).1) (λf _=>rfl) (λf a=>by cases a) aeA Eh
def JO:cY.funcs[43]?=some nS:=by
 have hl:43<Tryz.funcs.size:=(Array.getElem?_eq_some_iff.1 ac).1;show(Tryz.funcs.setIfInBounds 43 nS)[43]?=_
 grind
def ZU(a:Array Value):∃H r,(∀v,a[0]?=some v->H 0=v)/\(a=#[]->H 0=undef)/\ad cY 43 a ch=⟨43,⟨(ae 98).map H++r⟩,[ci sU],[],.run,ch,none⟩:=by
 obtain⟨L⟩:=a;obtain⟨H,r,e⟩:=Qc 98 (L++ai (98-L.length) undef) (by simp;omega);have b:(L++ai (98-L.length) undef)[0]?=some (H 0):=by
  grind
 refine⟨H,r,λv hv=>?_,λc=>?_,?_⟩
 ·cases L with
  |nil=>simp at hv
  |cons x L=>
   grind
 ·grind
 ·have hf:cY.funcs[43]?=some nS:=JO;unfold ad;simp only[hf,Option.map_some,Option.getD_some,Option.bind_some];have d:nS.ntmps=98:=rfl;have f:nS.body=some sU:=rfl
  simp_all
open Go.ConcN (upd upd_ne upd_same)
noncomputable abbrev PC:aB:=⟨aa,cY.funcs⟩
section
variable {f:aF}{R:Value->World->Prop}{g0:aH}{w0 w w':World}{H:Nat->Value}{r:List Value}{cs:List Frame}{i d x y:Nat}{ρ:Ren}{ops:Array Oper}{m:Nat}{K:List Item}
structure Wi(f:aF)(R:Value->World->Prop)(g0:aH)(w0:World)(r:List Value)(cs:List Frame)(ops:Array Oper)(m:Nat)(K:List Item)(H:Nat->Value)(i:Nat)(w:World):Prop where
 hc:2<=cs.length
 way:a8 aa cY.funcs FF ZZ f R g0 w0 (SL 98 H r ops (ao i (m-i)) K 43 cs) w
def rng(h:i<m):ao i (m-i)=i::ao (i+1) (m-(i+1)):=by
 rw[show m-i=(m-(i+1))+1 by omega,List.range'_succ]
def Wi.at(h:Wi f R g0 w0 r cs ops m K H i w)(hi:i<m):a8 aa cY.funcs FF ZZ f R g0 w0 (SL 98 H r ops (i::ao (i+1) (m-(i+1))) K 43 cs) w:=by
 rw[<-rng hi];exact h.way
def Wi.next{op:Op}{v:Value}{w1:World}(hc:2<=cs.length)(a:ops[i]?=some (aD (some d) op none))(hd:d<98)(h:a8 aa cY.funcs FF ZZ f R g0 w0 (fin (SL 98 H r ops (i::ao (i+1) (m-(i+1))) K 43 cs) v) w1):Wi f R g0 w0 r cs ops m K (upd H d v) (i+1) w1:=by
 rw[ZT a rfl hd]at h;exact⟨hc,h⟩
def Wi.int(h:Wi f R g0 w0 r cs ops m K H i w)(hi:i<m)(a:ops[i]?=some (aD (some d) (bx .xor 3 (co x) (cq (bq ct 0)) 3) none))(hd:d<98)(c:x<98):∃n v,H x=bq ct n/\Wi f R g0 w0 r cs ops m K (upd H d v) (i+1) w:=by
 obtain⟨n,v,b,e⟩:=(h.at hi).int bV h.hc (jb a rfl rfl) rfl rfl;rw[bH c]at b;exact⟨n,v,b,.next h.hc a hd e⟩
def Wi.str(h:Wi f R g0 w0 r cs ops m K H i w)(hi:i<m)(a:ops[i]?=some (aD (some d) (bx .add 9 (co x) (cq (br ba)) 9) none))(hd:d<98)(c:x<98):∃n v,H x=br n/\Wi f R g0 w0 r cs ops m K (upd H d v) (i+1) w:=by
 obtain⟨n,v,b,e⟩:=(h.at hi).str bV h.hc (jb a rfl rfl) rfl rfl;rw[bH c]at b;exact⟨n,v,b,.next h.hc a hd e⟩
def Wi.len{t g:aI}(h:Wi f R g0 w0 r cs ops m K H i w)(hi:i<m)(a:ops[i]?=some (aD (some d) (.call { callee:=.builtin .len,args:=#[co x],argTypes:=#[t] }) none))(j:PC.underlying t=some (cu g))(hd:d<98)(k:x<98):∃b n c,H x=bs b n c/\Wi f R g0 w0 r cs ops m K (upd H d (bq ct (n:Int))) (i+1) w:=by
 obtain⟨b,n,c,e,l⟩:=(h.at hi).len bV h.hc (jb a rfl rfl) rfl j;rw[bH k]at e;exact⟨b,n,c,e,.next h.hc a hd l⟩
def Wi.JM{t e:aI}{b:Option Addr}{n c:Nat}(h:Wi f R g0 w0 r cs ops m K H i w)(hi:i<m)(a:ops[i]?=some (aD (some d) (bx .eql t (co x) (cq (bs none 0 0)) t) none))(g:PC.underlying t=some (cu e))(hd:d<98)(j:x<98)(hv:H x=bs b n c):Wi f R g0 w0 r cs ops m K (upd H d (bt b.isNone)) (i+1) w:=
 .next h.hc a hd ((h.at hi).JM bV h.hc (jb a rfl rfl) rfl g ((bH j).trans hv) rfl)
def Wi.add{m1 n:Int}(h:Wi f R g0 w0 r cs ops m K H i w)(hi:i<m)(a:ops[i]?=some (aD (some d) (bx .add 3 (co x) (co y) 3) none))(hd:d<98)(b:x<98)(hy:y<98)(hv:H x=bq ct m1)(c:H y=bq ct n):Wi f R g0 w0 r cs ops m K (upd H d (bq ct (IntKind.i64.wrap (m1+n)))) (i+1) w:=
 .next h.hc a hd ((h.at hi).add bV h.hc (jb a rfl rfl) rfl ((bH b).trans hv) ((bH hy).trans c))
def Wi.field{t:aI}{j:Nat}{fs:Array Field}{fd:Field}{a:aJ}(h:Wi f R g0 w0 r cs ops m K H i w)(hi:i<m)(b:ops[i]?=some (aD (some d) (bA t (co x) j) none))(g:PC.underlying t=some (cv fs))(hf:fs[j]?=some fd)(k:PC.underlying fd.type=some a)(l:qy a=false)(hd:d<98)(n:x<98) :
 ∃c v,H x=bp c/\c[fd.offset]?=some v/\Wi f R g0 w0 r cs ops m K (upd H d v) (i+1) w:=by
 obtain⟨c,v,e,o,p⟩:=(h.at hi).field bV h.hc (jb b rfl rfl) rfl g hf k l;rw[bH n]at e;exact⟨c,v,e,o,.next h.hc b hd p⟩
def Wi.Hu{t:aI}{j:Nat}{fs:Array Field}{fd:Field}{b:aJ}{a:aL}{c:Array Value}(h:Wi f R g0 w0 r cs ops m K H i w)(hi:i<m)(e:ops[i]?=some (aD (some d) (bA t (co x) j) none))(g:PC.underlying t=some (cv fs))(hf:fs[j]?=some fd)(k:PC.underlying fd.type=some b)(l:qy b=true)(n:PC.info? fd.type=some a)(hd:d<98)(o:x<98)(hv:H x=bp c) :
 Wi f R g0 w0 r cs ops m K (upd H d (bp (c.extract fd.offset (fd.offset+a.size)))) (i+1) w:=
 .next h.hc e hd ((h.at hi).Hu bV h.hc (jb e rfl rfl) rfl ((bH o).trans hv) g hf k l n)
def Wi.load{t:aI}{k:aJ}{b:aL}{a a':Addr}(h:Wi f R g0 w0 r cs ops m K H i w)(hi:i<m)(l:ops[i]?=some (aD (some d) (.load t (co x)) none))(n:WR Tryz.progTables.globals.size FF (a9 aa FF ZZ) ρ w w')(o:AR ρ a a')(p:PC.underlying t=some k)(g:qy k=true)(q:PC.info? t=some b)(hd:d<98)(s:x<98)(hv:H x=bv (some a)) :
 ∃u e:Nat->Value,(∀j,j<b.size->w.cell? (a.add j)=some (u j)/\w'.cell? (a'.add j)=some (e j)/\VR FF ρ (u j) (e j)/\(∃c t v,w'.heap[a'.block]?=some (cB c t v)))/\Wi f R g0 w0 r cs ops m K (upd H d (bp ((ae b.size).map u).toArray)) (i+1) w:=by
 obtain⟨u,e,z,A⟩:=(h.at hi).load bV h.hc (jb l rfl rfl) rfl ((bH s).trans hv) n o p g q;exact⟨u,e,z,.next h.hc l hd A⟩
def Wi.index{t b:aI}{e:Nat}{a:Addr}{n c:Nat}{k:Int}(h:Wi f R g0 w0 r cs ops m K H i w)(hi:i<m)(g:ops[i]?=some (aD (some d) (bC t (co x) (cq (bq ct k))) none))(j:PC.underlying t=some (cu b))(hs:(PC.info? b).map (·.size)=some e)(l:0<=k)(o:k<n)(hd:d<98)(p:x<98)(hv:H x=bs (some a) n c) :
 Wi f R g0 w0 r cs ops m K (upd H d (bv (some (a.add (k.toNat*e))))) (i+1) w:=
 .next h.hc g hd ((h.at hi).go bV h.hc (bb (jb g rfl rfl) rfl ((bH p).trans hv) rfl j hs l o))
def Wi.check{j dj:Nat}{b bad:Bool}{op:Op}(h:Wi f R g0 w0 r cs ops m K H i w)(hi:i<m)(a:ops[i]?=some (aD none (bA 3 (cq (bq ct 0)) 0) (some (j,bad))))(c:ops[j]?=some (aD (some dj) op none))(hd:dj<98)(hb:H dj=bt b):b = !bad/\Wi f R g0 w0 r cs ops m K H (i+1) w:=by
 have e:∃k,PC.underlying 3=some (.int k):=⟨_,ty3⟩
 obtain⟨g,l⟩:=Go.bJ.Way.check bV (h.at hi) h.hc a rfl rfl rfl e c rfl hd hb;exact⟨g,h.hc,l⟩
def run_build{t:aI}{fs:Array Field}{z:Value}{a:Array (Nat×Nat)}(parts:Array (Nat×Value))(b:(aP t).run PC w=bj z w)(e:PC.underlying t=some (cv fs))(g:(fs.mapM λf=>(do pure (f.offset,<-sizeOf f.type):Sem (Nat×Nat))).run PC w=bj a w) :
 (bd t parts).run PC w=match bg (a[·]?) z.cells parts.toList with|some c=>bj (bp c) w|none=>.halt (.stuck "build: no such field, or a part of the wrong size") w:=by
 unfold bd;simp only[Sem.run_bind,b,bi,run_underlying e,g];generalize bg _ z.cells parts.toList=q;cases q<;>simp
def xY{o:Oper}{ev:aS->Value}{t:aI}{ps:Array (Nat×aS)}(a:o.op=bL t ps):aT ev o=(do pure (.value (<-bd t (ps.map fun(i,x)=>(i,ev x)))):Sem Next):=by
 unfold aT;simp only[a]
def Wi.build{t:aI}{ps:Array (Nat×aS)}{pv:Array (Nat×Value)}{v:Value}(h:Wi f R g0 w0 r cs ops m K H i w)(hi:i<m)(a:ops[i]?=some (aD (some d) (bL t ps) none))(hd:d<98)(b:ps.map (fun(j,x)=>(j,(SL 98 H r ops (i::ao (i+1) (m-(i+1))) K 43 cs).frame.eval x))=pv)(c:(bd t pv).run PC w=bj v w):Wi f R g0 w0 r cs ops m K (upd H d v) (i+1) w:=by
 have e:=xY (o:=aD (some d) (bL t ps) none) (ev:=(SL 98 H r ops (i::ao (i+1) (m-(i+1))) K 43 cs).frame.eval) (t:=t) (ps:=ps) rfl;rw[b]at e;have hs:=dF (P:=PC) (mn:=true) (v:=v) (w':=w) (w:=w) (g:=SL 98 H r ops (i::ao (i+1) (m-(i+1))) K 43 cs) (jb a rfl rfl) (by rw[e];simp[c]);exact .next h.hc a hd ((h.at hi).go bV h.hc hs)
def Qe{t:aI}{i:aL}{z:Value}(hi:PC.info? t=some i)(a:i.zero=some z)(w:World):(aP t).run PC w=bj z w:=by
 simp[aP,typeInfo,hi,a]
def ZX{t:aI}{z:Value}(h:(PC.info? t).map (·.zero)=some (some z))(w:World):(aP t).run PC w=bj z w:=by
 cases hi:PC.info? t with
 |none=>rw[hi]at h;cases h
 |some i=>
  rw[hi]at h;exact Qe hi (bm h) w
noncomputable def Ei:Value:=bp #[bq ct 0,bq ct 0,bs none 0 0,bs none 0 0,bs none 0 0,bs none 0 0]
def akt(w:World):(aP 77).run PC w=bj Ei w:=ZX (by kernel_rfl) w
def aku(w:World):((fieldsOf 77).mapM λf=>(do pure (f.offset,<-sizeOf f.type):Sem (Nat×Nat))).run PC w=bj #[(0,6)] w:=by kernel_rfl
def u121:PC.underlying 77=some (cv (fieldsOf 77)):=by kernel_rfl
def Wi.six(h:Wi f R g0 w0 r cs ops m K H i w)(hi:i<m)(g:ops[i]?=some (aD (some d) (bL 77 #[(0,co x)]) none))(hd:d<98)(n:x<98):(H x).cells.size=6/\∃v,Wi f R g0 w0 r cs ops m K (upd H d v) (i+1) w:=by
 have e:=xY (o:=aD (some d) (bL 77 #[(0,co x)]) none) (ev:=(SL 98 H r ops (i::ao (i+1) (m-(i+1))) K 43 cs).frame.eval) (t:=77) (ps:=#[(0,co x)]) rfl;have p:(#[(0,co x)]:Array (Nat×aS)).map (fun(j,x)=>(j,(SL 98 H r ops (i::ao (i+1) (m-(i+1))) K 43 cs).frame.eval x))=#[(0,H x)]:=by simp[bH n]
 rw[p]at e;have b:=run_build (w:=w) #[(0,H x)] (akt w) u121 (aku w);by_cases hs:(H x).cells.size=6
 ·have a:∃c,bg (#[(0,6)][·]?) Ei.cells (#[(0,H x)]:Array (Nat×Value)).toList=some c:=by
   cases q:bg (#[(0,6)][·]?) Ei.cells (#[(0,H x)]:Array (Nat×Value)).toList with
   |some c=>exact⟨c,rfl⟩
   |none=>
    have s:Ei.cells.size=6:=rfl;simp[bg,hs,s]at q
  obtain⟨c,a⟩:=a;rw[a]at b;obtain⟨v,w1,k,l⟩:=(h.at hi).val bV h.hc (jb g rfl rfl) e (.inl ⟨_,_,b⟩);have u:bj (bp c) w=bj v w1:=b.symm.trans k;cases u;exact⟨hs,_,.next h.hc g hd l⟩
 ·have a:bg (#[(0,6)][·]?) Ei.cells (#[(0,H x)]:Array (Nat×Value)).toList=none:=by
   simp only[bg];simp[hs]
  rw[a]at b;obtain⟨v,w1,k,l⟩:=(h.at hi).val bV h.hc (jb g rfl rfl) e (.inr ⟨_,_,b,trivial⟩)
  grind
def Wi.move{v:Value}(h:Wi f R g0 w0 r cs ops m K H i w)(hi:i<m)(a:ops[i]?=some (aD (some d) (bM (cq v)) none))(hd:d<98):Wi f R g0 w0 r cs ops m K (upd H d v) (i+1) w:=by
 have e:aT (SL 98 H r ops (i::ao (i+1) (m-(i+1))) K 43 cs).frame.eval (aD (some d) (bM (cq v)) none)=(pure (.value v):Sem Next):=rfl;have hs:=dF (P:=PC) (mn:=true) (v:=v) (w':=w) (w:=w) (g:=SL 98 H r ops (i::ao (i+1) (m-(i+1))) K 43 cs) (jb a rfl rfl) (by rw[e];rfl);exact .next h.hc a hd ((h.at hi).go bV h.hc hs)
def Wi.leq{a b:Int}{X Y:aS}(h:Wi f R g0 w0 r cs ops m K H i w)(hi:i<m)(c:ops[i]?=some (aD (some d) (bx .leq 3 X Y 3) none))(hd:d<98)(j:(SL 98 H r ops (i::ao (i+1) (m-(i+1))) K 43 cs).frame.eval X=bq ct a)(hy:(SL 98 H r ops (i::ao (i+1) (m-(i+1))) K 43 cs).frame.eval Y=bq ct b):Wi f R g0 w0 r cs ops m K (upd H d (bt (decide (a<=b)))) (i+1) w:=by
 have e:=oZ (o:=aD (some d) (bx .leq 3 X Y 3) none) (ev:=(SL 98 H r ops (i::ao (i+1) (m-(i+1))) K 43 cs).frame.eval) (op:=.leq) (ty:=3) (x:=X) (y:=Y) (u:=3) rfl;rw[j,hy]at e;have g:((do a5 .leq 3 X Y (bq ct a) (bq ct b);binOp .leq 3 (bq ct a) (bq ct b)):Sem Value).run PC w=bj (bt (decide (a<=b))) w:=by simp[a5,binOp,bw]
 obtain⟨v',w',k,l⟩:=(h.at hi).val bV h.hc (jb c rfl rfl) e (.inl ⟨_,_,g⟩);have n:=g.symm.trans k;cases n;exact .next h.hc c hd l
def Wi.lss{a b:Int}{X Y:aS}(h:Wi f R g0 w0 r cs ops m K H i w)(hi:i<m)(c:ops[i]?=some (aD (some d) (bx .lss 3 X Y 3) none))(hd:d<98)(j:(SL 98 H r ops (i::ao (i+1) (m-(i+1))) K 43 cs).frame.eval X=bq ct a)(hy:(SL 98 H r ops (i::ao (i+1) (m-(i+1))) K 43 cs).frame.eval Y=bq ct b):Wi f R g0 w0 r cs ops m K (upd H d (bt (decide (a<b)))) (i+1) w:=by
 have e:=oZ (o:=aD (some d) (bx .lss 3 X Y 3) none) (ev:=(SL 98 H r ops (i::ao (i+1) (m-(i+1))) K 43 cs).frame.eval) (op:=.lss) (ty:=3) (x:=X) (y:=Y) (u:=3) rfl;rw[j,hy]at e;have g:((do a5 .lss 3 X Y (bq ct a) (bq ct b);binOp .lss 3 (bq ct a) (bq ct b)):Sem Value).run PC w=bj (bt (decide (a<b))) w:=by simp[a5,binOp,bw]
 obtain⟨v',w',k,l⟩:=(h.at hi).val bV h.hc (jb c rfl rfl) e (.inl ⟨_,_,g⟩);have n:=g.symm.trans k;cases n;exact .next h.hc c hd l
def Wi.add1{n:Int}(h:Wi f R g0 w0 r cs ops m K H i w)(hi:i<m)(a:ops[i]?=some (aD (some d) (bx .add 3 (co x) (cq (bq ct 1)) 3) none))(hd:d<98)(b:x<98)(hv:H x=bq ct n):Wi f R g0 w0 r cs ops m K (upd H d (bq ct (IntKind.i64.wrap (n+1)))) (i+1) w:=
 .next h.hc a hd ((h.at hi).add bV h.hc (jb a rfl rfl) rfl ((bH b).trans hv) rfl)
def Wi.abw(h:Wi f R g0 w0 r cs ops m K H i w)(hi:i<m)(a:ops[i]?=some (aD (some d) (bM (co x)) none))(hd:d<98)(b:x<98):Wi f R g0 w0 r cs ops m K (upd H d (H x)) (i+1) w:=by
 have e:aT (SL 98 H r ops (i::ao (i+1) (m-(i+1))) K 43 cs).frame.eval (aD (some d) (bM (co x)) none)=(pure (.value (H x)):Sem Next):=by
  show(pure (.value ((SL 98 H r ops (i::ao (i+1) (m-(i+1))) K 43 cs).frame.eval (co x))):Sem Next)=_;rw[bH b]
 have hs:=dF (P:=PC) (mn:=true) (v:=H x) (w':=w) (w:=w) (g:=SL 98 H r ops (i::ao (i+1) (m-(i+1))) K 43 cs) (jb a rfl rfl) (by rw[e];rfl);exact .next h.hc a hd ((h.at hi).go bV h.hc hs)
def Wi.ac2{t b:aI}{e:Nat}{a:Addr}{n c:Nat}{k:Int}(h:Wi f R g0 w0 r cs ops m K H i w)(hi:i<m)(g:ops[i]?=some (aD (some d) (bC t (co x) (co y)) none))(j:PC.underlying t=some (cu b))(hs:(PC.info? b).map (·.size)=some e)(l:0<=k)(o:k<n)(hd:d<98)(p:x<98)(hy:y<98)(hv:H x=bs (some a) n c)(q:H y=bq ct k) :
 Wi f R g0 w0 r cs ops m K (upd H d (bv (some (a.add (k.toNat*e))))) (i+1) w:=
 .next h.hc g hd ((h.at hi).go bV h.hc (bb (jb g rfl rfl) rfl ((bH p).trans hv) ((bH hy).trans q) j hs l o))
end
section
variable {f:aF}{R:Value->World->Prop}{g0:aH}{w0 w w':World}{H:Nat->Value}{r:List Value}{cs:List Frame}{i d x y p:Nat}{ρ:Ren}{ops:Array Oper}{m:Nat}{K:List Item}
def xL{v':Value}{a:Addr}{n c:Nat}(h:VR FF ρ (bs (some a) n c) v')(e:0<n):∃a',v'=bs (some a') n c/\AR ρ a a':=by
 cases h with
 |dK=>grind
 |slice _ _ b=>exact⟨_,rfl,b⟩
def Wi.ZY{t:aI}{j:Nat}{fs:Array Field}{fd:Field}{a:aJ}{c:Array Value}{v:Value}(h:Wi f R g0 w0 r cs ops m K H i w)(hi:i<m)(b:ops[i]?=some (aD (some d) (bA t (co x) j) none))(hd:d<98)(e:x<98)(hv:H x=bp c)(g:PC.underlying t=some (cv fs))(hf:fs[j]?=some fd)(k:PC.underlying fd.type=some a)(l:qy a=false)(hc:c[fd.offset]?=some v) :
 Wi f R g0 w0 r cs ops m K (upd H d v) (i+1) w:=by
 obtain⟨n,v',o,q,s⟩:=h.field hi b g hf k l hd e
 grind
def Wi.Z4{t:aI}{j:Nat}{fs:Array Field}{fd:Field}{b:aJ}{a:aL}{c c':Array Value}(h:Wi f R g0 w0 r cs ops m K H i w)(hi:i<m)(e:ops[i]?=some (aD (some d) (bA t (co x) j) none))(hd:d<98)(g:x<98)(hv:H x=bp c)(k:PC.underlying t=some (cv fs))(hf:fs[j]?=some fd)(l:PC.underlying fd.type=some b)(n:qy b=true)(o:PC.info? fd.type=some a)(hc:c.extract fd.offset (fd.offset+a.size)=c') :
 Wi f R g0 w0 r cs ops m K (upd H d (bp c')) (i+1) w:=by
 have:=h.Hu hi e k hf l n o hd g hv;rwa[hc]at this
def Z5{v:Value}(h:v.cells.size=6):∃x0 x1 x2 x3 x4 a,v=bp #[x0,x1,x2,x3,x4,a]:=by
 cases v with
 |agg c=>
  obtain⟨l⟩:=c;have hl:l.length=6:=h
  match l,hl with
  |[x0,x1,x2,x3,x4,a],_=>grind
 |_=>exact absurd h (by simp[Value.cells])
structure Fd(t j off:Nat)(ag:Bool)(sz:Nat):Prop where
 ex:∃fs fd de inf,PC.underlying t=some (cv fs)/\fs[j]?=some fd/\PC.underlying fd.type=some de/\qy de=ag/\PC.info? fd.type=some inf/\fd.offset=off/\inf.size=sz
noncomputable def fdq(t j:Nat):Option (Nat×Bool×Nat):=match PC.underlying t with
 |some (cv fs)=>match fs[j]? with
  |some fd=>match PC.underlying fd.type,PC.info? fd.type with
   |some b,some a=>some (fd.offset,qy b,a.size)
   |_,_=>none
  |none=>none
 |_=>none
def gH{t j off b:Nat}{c:Bool}(h:fdq t j=some (off,c,b)):Fd t j off c b:=by
 unfold fdq at h
 split at h
 ·rename_i fs e1
  split at h
  ·rename_i fd e
   split at h
   ·rename_i g a k l;simp only[bo,Prod.mk.injEq]at h;exact⟨fs,fd,g,a,e1,e,k,h.2.1,l,h.1,h.2.2⟩
   ·cases h
  ·cases h
 ·cases h
def Wi.fk{t j off a:Nat}{c:Array Value}{v:Value}(h:Wi f R g0 w0 r cs ops m K H i w)(q:Fd t j off false a)(hi:i<m)(b:ops[i]?=some (aD (some d) (bA t (co x) j) none))(hd:d<98)(e:x<98)(hv:H x=bp c)(hc:c[off]?=some v):Wi f R g0 w0 r cs ops m K (upd H d v) (i+1) w:=by
 obtain⟨fs,fd,s,g,e1,k,l,n,u,o,z⟩:=q.ex;exact h.ZY hi b hd e hv e1 k l n (by rw[o];exact hc)
def Wi.fs{t j off a:Nat}{c c':Array Value}(h:Wi f R g0 w0 r cs ops m K H i w)(q:Fd t j off true a)(hi:i<m)(b:ops[i]?=some (aD (some d) (bA t (co x) j) none))(hd:d<98)(e:x<98)(hv:H x=bp c)(hc:c.extract off (off+a)=c'):Wi f R g0 w0 r cs ops m K (upd H d (bp c')) (i+1) w:=by
 obtain⟨fs,fd,v,g,e1,k,l,n,o,s,u⟩:=q.ex;exact h.Z4 hi b hd e hv e1 k l n o (by rw[s,u];exact hc)
def aeE:Fd 77 0 0 true 6:=gH (by kernel_rfl)
def Z6:Fd 27 0 0 false 1:=gH (by kernel_rfl)
def Z7:Fd 27 1 1 false 1:=gH (by kernel_rfl)
def Z8:Fd 27 2 2 false 1:=gH (by kernel_rfl)
def Z9:Fd 27 3 3 false 1:=gH (by kernel_rfl)
def aa0:Fd 27 4 4 false 1:=gH (by kernel_rfl)
def aa1:Fd 27 5 5 false 1:=gH (by kernel_rfl)
structure Sd(t sz:Nat):Prop where
 ex:∃de inf,PC.underlying t=some de/\qy de=true/\PC.info? t=some inf/\inf.size=sz
def JP{t g:Nat}(h:((PC.underlying t).map qy,(PC.info? t).map (·.size))=(some true,some g)):Sd t g:=by
 simp only[Prod.mk.injEq]at h;obtain⟨a,b⟩:=h
 cases e1:PC.underlying t with
 |none=>rw[e1]at a;cases a
 |some j=>
  cases c:PC.info? t with
  |none=>rw[c]at b;cases b
  |some e=>
   rw[e1]at a;rw[c]at b;exact⟨j,e,e1,bm a,c,bm b⟩
def akw:PC.underlying 22=some (cu 30):=by kernel_rfl
def akx:PC.underlying 23=some (cu 104):=by kernel_rfl
def aeH:PC.underlying 24=some (cu 85):=by kernel_rfl
def UU:PC.underlying 64=some (cu 3):=by kernel_rfl
def Xh:PC.underlying 25=some (cu 102):=by kernel_rfl
def aeI:(PC.info? 85).map (·.size)=some 12:=by kernel_rfl
def aeM:(PC.info? 102).map (·.size)=some 3:=by kernel_rfl
def aa2:Fd 30 0 0 false 1:=gH (by kernel_rfl)
def aa3:Fd 30 1 1 false 1:=gH (by kernel_rfl)
def aa4:Fd 85 0 0 false 1:=gH (by kernel_rfl)
def aa5:Fd 85 1 1 true 2:=gH (by kernel_rfl)
def aa6:Fd 85 2 3 true 2:=gH (by kernel_rfl)
def aa7:Fd 85 3 5 false 1:=gH (by kernel_rfl)
def aa8:Fd 85 4 6 false 1:=gH (by kernel_rfl)
def aa9:Fd 85 5 7 true 2:=gH (by kernel_rfl)
def aaa:Fd 85 6 9 true 2:=gH (by kernel_rfl)
def aab:Fd 85 7 11 false 1:=gH (by kernel_rfl)
def aac:Fd 102 0 0 false 1:=gH (by kernel_rfl)
def aad:Fd 102 1 1 false 1:=gH (by kernel_rfl)
def aae:Fd 102 2 2 false 1:=gH (by kernel_rfl)
def akC:Sd 85 12:=JP (by kernel_rfl)
def akH:Sd 102 3:=JP (by kernel_rfl)
def Wi.span{t k off:Nat}{c:Array Value}{v0 v1:Value}(h:Wi f R g0 w0 r cs ops m K H i w)(q:Fd t k off true 2)(hi:i+5<m)(hd:d+4<98)(u:p<d)(hv:H p=bp c)(hc:c.extract off (off+2)=#[v0,v1])
 (e:ops[i]?=some (aD (some d) (bA t (co p) k) none))
 (g:ops[i+1]?=some (aD (some (d+1)) (bA 30 (co d) 0) none))
 (l:ops[i+2]?=some (aD (some (d+2)) (bx .xor 3 (co (d+1)) (cq (bq ct 0)) 3) none))
 (n:ops[i+3]?=some (aD (some (d+3)) (bA 30 (co d) 1) none))
 (o:ops[i+4]?=some (aD (some (d+4)) (bx .xor 3 (co (d+3)) (cq (bq ct 0)) 3) none)) :
 ∃n0 b a,v0=bq ct n0/\v1=bq ct b/\a (d+1)=bq ct n0/\a (d+3)=bq ct b/\(∀j,j<d->a j=H j)/\Wi f R g0 w0 r cs ops m K a (i+5) w:=by
 have W:=h.fs q (by omega) e (by omega) (by omega) hv hc;have W:=W.fk aa2 (v:=v0) (by omega) g (by omega) (by omega) (bR _ _ _) rfl;obtain⟨n0,u0,s,W⟩:=W.int (by omega) l (by omega) (by omega);rw[bR]at s;have W:=W.fk aa3 (v:=v1) (c:=#[v0,v1]) (by omega) n (by omega) (by omega) (by rw[bT _ _ (by omega),bT _ _ (by omega),bR]) rfl;obtain⟨b,u1,e1,W⟩:=W.int (by omega) o (by omega) (by omega)
 grind[bR,bT]
def Wi.num{t k off b:Nat}{c:Array Value}{v0:Value}(h:Wi f R g0 w0 r cs ops m K H i w)(q:Fd t k off false b)(hi:i+2<m)(hd:d+1<98)(l:p<d)(hv:H p=bp c)(hc:c[off]?=some v0)
 (e:ops[i]?=some (aD (some d) (bA t (co p) k) none))
 (g:ops[i+1]?=some (aD (some (d+1)) (bx .xor 3 (co d) (cq (bq ct 0)) 3) none)) :
 ∃n0 a,v0=bq ct n0/\a d=bq ct n0/\(∀j,j<d->a j=H j)/\Wi f R g0 w0 r cs ops m K a (i+2) w:=by
 have W:=h.fk q (v:=v0) (by omega) e (by omega) (by omega) hv hc;obtain⟨n0,u0,n,W⟩:=W.int (by omega) g (by omega) (by omega)
 grind[bR,bT]
def Wi.name{t k off b:Nat}{c:Array Value}{v0:Value}(h:Wi f R g0 w0 r cs ops m K H i w)(q:Fd t k off false b)(hi:i+2<m)(hd:d+1<98)(l:p<d)(hv:H p=bp c)(hc:c[off]?=some v0)
 (e:ops[i]?=some (aD (some d) (bA t (co p) k) none))
 (g:ops[i+1]?=some (aD (some (d+1)) (bx .add 9 (co d) (cq (br ba)) 9) none)) :
 ∃s a,v0=br s/\(∀j,j<d->a j=H j)/\Wi f R g0 w0 r cs ops m K a (i+2) w:=by
 have W:=h.fk q (v:=v0) (by omega) e (by omega) (by omega) hv hc;obtain⟨n,u0,o,W⟩:=W.str (by omega) g (by omega) (by omega)
 grind[bR,bT]
end
section
variable {f:aF}{R:Value->World->Prop}{g0:aH}{w0 w w':World}{H:Nat->Value}{r:List Value}{cs:List Frame}{ρ:Ren}{K:List Item}
structure Hd0(H:Nat->Value)(l p:Int)(b2 b3:Option Addr)(b4:Addr)(b5:Option Addr)(n2 c2 n3 c3 np c4 n c5:Nat)(H':Nat->Value):Prop where
 arg:H 0=bp #[bq ct l,bq ct p,bs b2 n2 c2,bs b3 n3 c3,bs (some b4) np c4,bs b5 n c5]
 ah5:H' 9=bs (some b4) np c4
 ah6:H' 10=bs b5 n c5
 MC:H' 15=bq ct (np:Int)
 hn:H' 16=bq ct (n:Int)
 i:H' 20=bq ct 0
 j:H' 21=bq ct 0
 lo:2<=np/\np<=5/\n<=3
def alm(h:Wi f R g0 w0 r cs acd 24 K H 0 w):∃l p j k g m o q s c3 np i n t E,Hd0 H l p j k g m o q s c3 np i n t E/\Wi f R g0 w0 r cs acd 24 K E 24 w:=by
 obtain⟨hs,v,W⟩:=h.six (d:=3) (x:=0) (by omega) rfl (by omega) (by omega);obtain⟨x0,x1,x2,x3,x4,y,e⟩:=Z5 hs;have W:=W.fs aeE (d:=4) (x:=0) (c:=#[x0,x1,x2,x3,x4,y]) (c':=#[x0,x1,x2,x3,x4,y]) (by omega) rfl (by omega) (by omega) e (by simp);have W:=W.fk Z6 (d:=5) (x:=4) (v:=x0) (by omega) rfl (by omega) (by omega) rfl rfl;have W:=W.fk Z7 (d:=6) (x:=4) (v:=x1) (by omega) rfl (by omega) (by omega) rfl rfl;have W:=W.fk Z8 (d:=7) (x:=4) (v:=x2) (by omega) rfl (by omega) (by omega) rfl rfl;have W:=W.fk Z9 (d:=8) (x:=4) (v:=x3) (by omega) rfl (by omega) (by omega) rfl rfl;have W:=W.fk aa0 (d:=9) (x:=4) (v:=x4) (by omega) rfl (by omega) (by omega) rfl rfl;have W:=W.fk aa1 (d:=10) (x:=4) (v:=y) (by omega) rfl (by omega) (by omega) rfl rfl;obtain⟨l,v,A,W⟩:=W.int (d:=11) (x:=5) (by omega) rfl (by omega) (by omega);have A:x0=bq ct l:=A;obtain⟨p,u,e1,W⟩:=W.int (d:=12) (x:=6) (by omega) rfl (by omega) (by omega);have e1:x1=bq ct p:=e1;obtain⟨j,o,q,B,W⟩:=W.len (d:=13) (x:=7) (by omega) rfl akw (by omega) (by omega);have B:x2=bs j o q:=B;obtain⟨k,s,c3,C,W⟩:=W.len (d:=14) (x:=8) (by omega) rfl akx (by omega) (by omega);have C:x3=bs k s c3:=C;obtain⟨g,np,i,z,W⟩:=W.len (d:=15) (x:=9) (by omega) rfl aeH (by omega) (by omega);have z:x4=bs g np i:=z;obtain⟨m,n,t,D,W⟩:=W.len (d:=16) (x:=10) (by omega) rfl Xh (by omega) (by omega);have D:y=bs m n t:=D;have W:=W.leq (d:=17) (a:=2) (b:=(np:Int)) (by omega) rfl (by omega) rfl (bH (by omega))
 obtain⟨k1,W⟩:=W.check (b:=decide ((2:Int)<=np)) (by omega) rfl (rfl:acd[14]?=some (aD (some 17) _ none)) (by omega) (bR _ _ _);have W:=W.leq (d:=18) (a:=(np:Int)) (b:=5) (by omega) rfl (by omega) (bH (by omega)) rfl;obtain⟨k2,W⟩:=W.check (b:=decide ((np:Int)<=5)) (by omega) rfl (rfl:acd[16]?=some (aD (some 18) _ none)) (by omega) (bR _ _ _);have W:=W.leq (d:=19) (a:=(n:Int)) (b:=3) (by omega) rfl (by omega) (bH (by omega)) rfl;obtain⟨k3,W⟩:=W.check (b:=decide ((n:Int)<=3)) (by omega) rfl (rfl:acd[18]?=some (aD (some 19) _ none)) (by omega) (bR _ _ _);have W:=W.JM (d:=3) (x:=9) (by omega) rfl aeH (by omega) (by omega) (show _=Value.slice g np i from z);obtain⟨F,W⟩:=W.check (b:=g.isNone) (by omega) rfl (rfl:acd[20]?=some (aD (some 3) _ none)) (by omega) (bR _ _ _);have W:=W.move (d:=20) (by omega) rfl (by omega);have W:=W.move (d:=21) (by omega) rfl (by omega)
 cases g with
 |none=>cases F
 |some a4=>
 subst A e1 B C z D;simp only[Bool.not_false,decide_eq_true_eq]at k1 k2 k3;exact⟨l,p,j,k,a4,m,o,q,s,c3,np,i,n,t,_,⟨e,rfl,rfl,rfl,rfl,rfl,rfl,by omega⟩,W⟩
structure ye(ρ:Ren)(w w':World)(a a':Addr)(k:Nat)(u u':Nat->Value)(s:ByteArray)(n:Nat->Int)(lb:Option Addr)(ll lc:Nat):Prop where
 cell:∀j,j<12->w.cell? ((a.add (k*12)).add j)=some (u j)/\w'.cell? ((a'.add (k*12)).add j)=some (u' j)/\VR FF ρ (u j) (u' j)/\(∃c t fz,w'.heap[(a'.add (k*12)).block]?=some (cB c t fz))
 name:u 0=br s
 num:∀j,1<=j->j<=10->u j=bq ct (n j)
 lane:u 11=bs lb ll lc
def acj{k:Nat}(h:k<100):IntKind.i64.wrap ((k:Int)+1)=((k+1:Nat):Int):=by
 have e:((k:Int)+1) % 2 ^ 64=(k:Int)+1:=by omega
 unfold IntKind.wrap;simp only[IntKind.signed,IntKind.bits,e]
 grind
def anU{a a':Addr}{np c k:Nat}(h:Wi f R g0 w0 r cs ah4 32 K H 0 w)(L:WR Tryz.progTables.globals.size FF (a9 aa FF ZZ) ρ w w')(M:H 9=bs (some a) np c)(b:H 20=bq ct (k:Int))(hk:k<np)(N:k<5)(O:AR ρ a a') :
 ∃u e s n lb g i l,ye ρ w w' a a' k u e s n lb g i/\l 20=bq ct ((k+1:Nat):Int)/\(∀j,j<23->j≠20->l j=H j)/\Wi f R g0 w0 r cs ah4 32 K l 32 w:=by
 have W:=h.ac2 (d:=23) (x:=9) (y:=20) (k:=(k:Int)) (by omega) rfl aeH aeI (by omega) (by omega) (by omega) (by omega) (by omega) M b;have P:a.add ((k:Int).toNat*12)=a.add (k*12):=by simp
 rw[P]at W;obtain⟨de,Q,t1,t2,S,T⟩:=akC.ex;obtain⟨u,e,o,W⟩:=W.load (d:=24) (x:=23) (by omega) rfl L (O.add (k*12)) t1 t2 S (by omega) (by omega) (bR _ _ _);rw[T]at o W;have hc:((ae 12).map u).toArray=#[u 0,u 1,u 2,u 3,u 4,u 5,u 6,u 7,u 8,u 9,u 10,u 11]:=rfl;rw[hc]at W;obtain⟨s,U,V,q,W⟩:=W.name aa4 (d:=25) (p:=24) (by omega) (by omega) (by omega) (bR _ _ _) rfl rfl rfl;have t:U 24=bp #[u 0,u 1,u 2,u 3,u 4,u 5,u 6,u 7,u 8,u 9,u 10,u 11]:=by rw[q _ (by omega),bR]
 obtain⟨X,Y,H2,a1,a2,a3,a4,z,W⟩:=W.span aa5 (d:=27) (p:=24) (by omega) (by omega) (by omega) t (by simp;exact⟨rfl,rfl⟩) rfl rfl rfl rfl rfl;have A:=(z 24 (by omega)).trans t;obtain⟨Z,n4,H3,b1,b2,b3,b4,B,W⟩:=W.span aa6 (d:=32) (p:=24) (by omega) (by omega) (by omega) A (by simp;exact⟨rfl,rfl⟩) rfl rfl rfl rfl rfl;have C:=(B 24 (by omega)).trans A;obtain⟨n7,n8,H4,c1,c2,c3,c4,D,W⟩:=W.span aa9 (d:=37) (p:=24) (by omega) (by omega) (by omega) C (by simp;exact⟨rfl,rfl⟩) rfl rfl rfl rfl rfl;have E:=(D 24 (by omega)).trans C;obtain⟨n9,m,H5,d1,d2,d3,d4,d5,W⟩:=W.span aaa (d:=42) (p:=24) (by omega) (by omega) (by omega) E (by simp;exact⟨rfl,rfl⟩) rfl rfl rfl rfl rfl;have F:=(d5 24 (by omega)).trans E;obtain⟨n5,H6,x1,x2,x3,W⟩:=W.num aa7 (d:=47) (p:=24) (v0:=u 5) (by omega) (by omega) (by omega) F rfl rfl rfl;have I:=(x3 24 (by omega)).trans F;obtain⟨n6,H7,y1,y2,y3,W⟩:=W.num aa8 (d:=49) (p:=24) (v0:=u 6) (by omega) (by omega) (by omega) I rfl rfl rfl;have p7:=(y3 24 (by omega)).trans I;have W:=W.fk aab (d:=51) (x:=24) (v:=u 11) (by omega) rfl (by omega) (by omega) p7 rfl;obtain⟨lb,g,i,J,W⟩:=W.len (d:=52) (x:=51) (by omega) rfl UU (by omega) (by omega);rw[bR]at J;have old:∀j,j<23->H7 j=H j:=λj hj=>by
  rw[y3 _ (by omega),x3 _ (by omega),d5 _ (by omega),D _ (by omega),B _ (by omega),z _ (by omega),q _ (by omega),bT _ _ (by omega),bT _ _ (by omega)]
 have W:=W.add1 (d:=53) (x:=20) (n:=(k:Int)) (by omega) rfl (by omega) (by omega) (by grind[bT]);have W:=W.abw (d:=20) (x:=53) (by omega) rfl (by omega) (by omega);refine⟨u,e,s,λj=>match j with|1=>X|2=>Y|3=>Z|4=>n4|5=>n5|6=>n6|7=>n7|8=>n8|9=>n9|_=>m,lb,g,i,_,⟨o,V,λj h1 h2=>?_,J⟩,?_,λj hj bu=>?_,W⟩
 ·grind
 ·rw[bR,bR,acj (by omega)]
 grind[bT]
structure AA(ρ:Ren)(w w':World)(a a':Addr)(k np:Nat)(u u':Nat->Value)(s:ByteArray)(st:Nat)(dl:Int):Prop where
 cell:∀j,j<3->w.cell? ((a.add (k*3)).add j)=some (u j)/\w'.cell? ((a'.add (k*3)).add j)=some (u' j)/\VR FF ρ (u j) (u' j)/\(∃c t fz,w'.heap[(a'.add (k*3)).block]?=some (cB c t fz))
 name:u 0=br s
 start:u 1=bq ct (st:Int)
 lt:st<np
 aeN:u 2=bq ct dl
def anW{v':Value}{b:Option Addr}{np n c k:Nat}(h:Wi f R g0 w0 r cs ace 16 K H 0 w)(F:WR Tryz.progTables.globals.size FF (a9 aa FF ZZ) ρ w w')(A:H 10=bs b n c)(q:H 15=bq ct (np:Int))(e:H 21=bq ct (k:Int))(Y:k<n)(I:k<3)(J:VR FF ρ (bs b n c) v') :
 ∃a a' u t s st dl v,b=some a/\v'=bs (some a') n c/\AR ρ a a'/\AA ρ w w' a a' k np u t s st dl/\v 21=bq ct ((k+1:Nat):Int)/\(∀j,j<23->j≠21->j≠11->v j=H j)/\Wi f R g0 w0 r cs ace 16 K v 16 w:=by
 have W:=h.JM (d:=11) (x:=10) (by omega) rfl Xh (by omega) (by omega) A;obtain⟨k0,W⟩:=W.check (b:=b.isNone) (by omega) rfl (rfl:ace[0]?=some (aD (some 11) _ none)) (by omega) (bR _ _ _)
 cases b with
 |none=>cases k0
 |some a=>
 obtain⟨a',L,B⟩:=xL J (by omega);have W:=W.ac2 (d:=55) (x:=10) (y:=21) (k:=(k:Int)) (a:=a) (n:=n) (c:=c) (by omega) rfl Xh aeM (by omega) (by omega) (by omega) (by omega) (by omega) (by rw[bT _ _ (by omega)];exact A) (by rw[bT _ _ (by omega)];exact e);have M:a.add ((k:Int).toNat*3)=a.add (k*3):=by simp
 rw[M]at W;obtain⟨Z,N,t1,t2,O,P⟩:=akH.ex;obtain⟨u,t,C,W⟩:=W.load (d:=56) (x:=55) (by omega) rfl F (B.add (k*3)) t1 t2 O (by omega) (by omega) (bR _ _ _);rw[P]at C W;have hc:((ae 3).map u).toArray=#[u 0,u 1,u 2]:=rfl;rw[hc]at W;obtain⟨s,Q,S,D,W⟩:=W.name aac (d:=57) (p:=56) (by omega) (by omega) (by omega) (bR _ _ _) rfl rfl rfl;have E:Q 56=bp #[u 0,u 1,u 2]:=by rw[D _ (by omega),bR]
 obtain⟨g,T,a1,a2,a3,W⟩:=W.num aad (d:=59) (p:=56) (v0:=u 1) (by omega) (by omega) (by omega) E rfl rfl rfl;have i:∀j,j<23->j≠11->T j=H j:=λj o l=>by
  rw[a3 _ (by omega),D _ (by omega),bT _ _ (by omega),bT _ _ (by omega),bT _ _ l]
 have W:=W.leq (d:=61) (a:=0) (b:=g) (by omega) rfl (by omega) rfl ((bH (by omega)).trans a2);obtain⟨k1,W⟩:=W.check (b:=decide ((0:Int)<=g)) (by omega) rfl (rfl:ace[8]?=some (aD (some 61) _ none)) (by omega) (bR _ _ _);have W:=W.lss (d:=62) (a:=g) (b:=(np:Int)) (by omega) rfl (by omega) ((bH (by omega)).trans (by rw[bT _ _ (by omega)];exact a2)) ((bH (by omega)).trans (by rw[bT _ _ (by omega),i 15 (by omega) (by omega)];exact q));obtain⟨k2,W⟩:=W.check (b:=decide (g<(np:Int))) (by omega) rfl (rfl:ace[10]?=some (aD (some 62) _ none)) (by omega) (bR _ _ _);obtain⟨dl,U,V,b2,X,W⟩:=W.num aae (d:=63) (p:=56) (v0:=u 2) (by omega) (by omega) (by omega) (by rw[bT _ _ (by omega),bT _ _ (by omega),a3 _ (by omega)];exact E) rfl rfl rfl;have m:∀j,j<23->j≠11->U j=H j:=λj o l=>by
  rw[X _ (by omega),bT _ _ (by omega),bT _ _ (by omega),i j o l]
 have W:=W.add1 (d:=65) (x:=21) (n:=(k:Int)) (by omega) rfl (by omega) (by omega) (by rw[m 21 (by omega) (by omega)];exact e);have W:=W.abw (d:=21) (x:=65) (by omega) rfl (by omega) (by omega);simp only[Bool.not_false,decide_eq_true_eq]at k1 k2;refine⟨a,a',u,t,s,g.toNat,dl,_,rfl,L,B,⟨C,S,by rw[a1];congr 1;omega,by omega,V⟩,?_,λj o l z=>?_,W⟩
 ·rw[bR,bR,acj (by omega)]
 ·rw[bT _ _ l,bT _ _ (by omega),m j o z]
end
def St(H:Nat->Value)(r:List Value)(k:List Item)(cs:List Frame):aH:=fH ⟨43,⟨(ae 98).map H++r⟩,k,[],.run,ch,none⟩ cs
section
variable {f:aF}{R:Value->World->Prop}{g0:aH}{w0 w w':World}{H:Nat->Value}{r:List Value}{cs:List Frame}{ρ:Ren}{K k:List Item}{ops:Array Oper}{m n x y t:Nat}
abbrev Wy(f:aF)(R:Value->World->Prop)(g0:aH)(w0:World)(g:aH)(w:World):Prop:=a8 aa cY.funcs FF ZZ f R g0 w0 g w
def ahR{j:Nat}(h:j<98):(St H r k cs).frame.eval (co j)=H j:=by
 have:=bH (n:=98) (H:=H) (rest:=r) (ops:=#[]) (is:=[]) (k:=k) (fn:=43) (cs:=cs) h;exact this
def Wi.leave(h:Wi f R g0 w0 r cs ops m K H m w):Wy f R g0 w0 (St H r K cs) w:=by
 have e:ao m (m-m)=[]:=by rw[Nat.sub_self];rfl
 have a:=h.way;rw[e]at a;have e1:stepG PC true (SL 98 H r ops [] K 43 cs) w=.go (St H r K cs) w #[]:=rfl;exact a.go bV h.hc e1
def Wy.region{id:Nat}(hc:2<=cs.length)(h:Wy f R g0 w0 (St H r (ci (cC id ops false)::K) cs) w)(b:ops.size=m):Wi f R g0 w0 r cs ops m K H 0 w:=by
 have e1:stepG PC true (St H r (ci (cC id ops false)::K) cs) w=.go (SL 98 H r ops (ae ops.size) K 43 cs) w #[]:=rfl;have a:=h.go bV hc e1;rw[b,List.range_eq_range']at a;exact⟨hc,a⟩
def Wy.seq{a b:Code}(hc:2<=cs.length)(h:Wy f R g0 w0 (St H r (ci (cQ a b)::K) cs) w):Wy f R g0 w0 (St H r (ci a :: ci b::K) cs) w:=
 h.go bV hc (show stepG PC true (St H r (ci (cQ a b)::K) cs) w=.go (St H r (ci a :: ci b::K) cs) w #[] from rfl)
abbrev lb(n a:Nat)(test:Array Oper)(t:Nat)(body:Code):Code:=cQ (cC a test false) (cQ (c6 (co t) c7 (c8 n)) body)
def Wy.loop{b:Code}(hc:2<=cs.length)(h:Wy f R g0 w0 (St H r (ci (.block n (c9 b))::K) cs) w):Wy f R g0 w0 (St H r (ci b :: cl b :: cm n::K) cs) w:=by
 have a:=h.go bV hc (show stepG PC true (St H r (ci (.block n (c9 b))::K) cs) w=.go (St H r (ci (c9 b) :: cm n::K) cs) w #[] from rfl);exact a.go bV hc (show stepG PC true (St H r (ci (c9 b) :: cm n::K) cs) w=.go (St H r (ci b :: cl b :: cm n::K) cs) w #[] from rfl)
def Wy.again{b:Code}(hc:2<=cs.length)(h:Wy f R g0 w0 (St H r (cl b::K) cs) w):Wy f R g0 w0 (St H r (ci b :: cl b::K) cs) w:=
 h.go bV hc (show stepG PC true (St H r (cl b::K) cs) w=.go (St H r (ci b :: cl b::K) cs) w #[] from rfl)
def Wy.skip(hc:2<=cs.length)(h:Wy f R g0 w0 (St H r (ci c7::K) cs) w):Wy f R g0 w0 (St H r K cs) w:=
 h.go bV hc (show stepG PC true (St H r (ci c7::K) cs) w=.go (St H r K cs) w #[] from rfl)
def Wy.cond{a b:Code}{c:Bool}(hc:2<=cs.length)(h:Wy f R g0 w0 (St H r (ci (c6 (co t) a b)::K) cs) w)(d:t<98)(hb:H t=bt c):Wy f R g0 w0 (St H r (ci (if c then a else b)::K) cs) w:=by
 have e:(St H r (ci (c6 (co t) a b)::K) cs).frame.eval (co t)=bt c:=(ahR d).trans hb;have e1:stepG PC true (St H r (ci (c6 (co t) a b)::K) cs) w=.go (St H r (ci (if c then a else b)::K) cs) w #[]:=by
  show(match(St H r (ci (c6 (co t) a b)::K) cs).frame.eval (co t) with
   |bt b'=>GStep.go (St H r (ci (if b' then a else b)::K) cs) w #[]
   |_=>_)=_
  rw[e]
 exact h.go bV hc e1
def Wy.exit{a b:Code}(hc:2<=cs.length)(h:Wy f R g0 w0 (St H r (ci (c8 n) :: ci a :: cl b :: cm n::K) cs) w):Wy f R g0 w0 (St H r K cs) w:=by
 have e1:stepG PC true (St H r (ci (c8 n) :: ci a :: cl b :: cm n::K) cs) w=.go (St H r K cs) w #[]:=by
  have e:exitTo n (ci a :: cl b :: cm n::K)=some K:=by simp[exitTo]
  show(exitTo n (ci a :: cl b :: cm n::K)).elim _ _=_;rw[e];rfl
 exact h.go bV hc e1
def Wy.test{e:Nat}{body:Code}{a b:Int}(hc:2<=cs.length)(h:Wy f R g0 w0 (St H r (ci (lb n e #[aD (some t) (bx .lss 3 (co x) (co y) 3) none] t body)::K) cs) w)(c:t<98)(g:x<98)(hy:y<98)(ex:H x=bq ct a)(ey:H y=bq ct b) :
 Wy f R g0 w0 (St (upd H t (bt (decide (a<b)))) r (ci (if decide (a<b) then c7 else c8 n) :: ci body::K) cs) w:=by
 have W:=Wy.region hc (h.seq hc) (m:=1) rfl;have W:=W.lss (d:=t) (a:=a) (b:=b) (X:=co x) (Y:=co y) (by omega) rfl c ((bH g).trans ex) ((bH hy).trans ey);have W:=(W.leave).seq hc;exact W.cond hc c (bR _ _ _)
def Wy.yes{c:Nat}{body:Code}{a b:Int}(hc:2<=cs.length)(h:Wy f R g0 w0 (St H r (ci (lb n c #[aD (some t) (bx .lss 3 (co x) (co y) 3) none] t body)::K) cs) w)(d:t<98)(e:x<98)(hy:y<98)(ex:H x=bq ct a)(ey:H y=bq ct b)(g:a<b) :
 Wy f R g0 w0 (St (upd H t (bt true)) r (ci body::K) cs) w:=by
 have W:=h.test hc d e hy ex ey;rw[decide_eq_true g]at W;exact Wy.skip hc W
def Wy.no{c:Nat}{body b0:Code}{a b:Int}(hc:2<=cs.length)(h:Wy f R g0 w0 (St H r (ci (lb n c #[aD (some t) (bx .lss 3 (co x) (co y) 3) none] t body) :: cl b0 :: cm n::K) cs) w)(d:t<98)(e:x<98)(hy:y<98)(ex:H x=bq ct a)(ey:H y=bq ct b)(g:¬a<b) :
 Wy f R g0 w0 (St (upd H t (bt false)) r K cs) w:=by
 have W:=h.test hc d e hy ex ey;rw[decide_eq_false g]at W;exact Wy.exit hc W
noncomputable abbrev ajv:Code:=lb 0 1 alc 22 (cC 2 ah4 false)
noncomputable abbrev ajw:Code:=lb 1 3 ale 54 (cC 4 ace false)
def ah7(hc:2<=cs.length)(l:WR Tryz.progTables.globals.size FF (a9 aa FF ZZ) ρ w w'){a a':Addr}{np c:Nat}(o:AR ρ a a')(A:np<=5):∀(q i:Nat),i+q=np->∀{H:Nat->Value},H 9=bs (some a) np c->H 15=bq ct (np:Int)->H 20=bq ct (i:Int)->
 Wy f R g0 w0 (St H r (ci ajv :: cl ajv :: cm 0::K) cs) w->
 (∀k,i<=k->k<np->∃u p s n lb B C,ye ρ w w' a a' k u p s n lb B C)/\∃v,(∀j,j<22->j≠20->v j=H j)/\Wy f R g0 w0 (St v r K cs) w
 |0,i,D,H,e,b,d,h=>by
  have W:=Wy.no hc h (t:=22) (x:=20) (y:=15) (by omega) (by omega) (by omega) d b (by omega)
  grind[bT]
 |q+1,i,D,H,e,b,d,h=>by
  have W:=Wy.yes hc h (t:=22) (x:=20) (y:=15) (by omega) (by omega) (by omega) d b (by omega);have W:=Wy.region hc W (m:=32) rfl;obtain⟨u,p,s,n,J,L,M,E,N,g,hold,W⟩:=anU W l (a:=a) (a':=a') (np:=np) (c:=c) (k:=i) (by rw[bT _ _ (by omega)];exact e) (by rw[bT _ _ (by omega)];exact d) (by omega) (by omega) o;have W:=Wy.again hc W.leave;have z:∀j,j<22->j≠20->E j=H j:=λj O F=>by rw[hold j (by omega) F,bT _ _ (by omega)]
  obtain⟨P,Q,I,W⟩:=ah7 hc l o A q (i+1) (by omega) ((z 9 (by omega) (by omega)).trans e) ((z 15 (by omega) (by omega)).trans b) g W
  grind
def ah9(hc:2<=cs.length)(z:WR Tryz.progTables.globals.size FF (a9 aa FF ZZ) ρ w w'){v':Value}{b:Option Addr}{np n c:Nat}(A:VR FF ρ (bs b n c) v')(D:n<=3):∀(q i:Nat),i+q=n->∀{H:Nat->Value},H 10=bs b n c->H 15=bq ct (np:Int)->H 16=bq ct (n:Int)->H 21=bq ct (i:Int)->
 Wy f R g0 w0 (St H r (ci ajw :: cl ajw :: cm 1::K) cs) w->
 (∀k,i<=k->k<n->∃a a' u B s st dl,b=some a/\v'=bs (some a') n c/\AR ρ a a'/\AA ρ w w' a a' k np u B s st dl)/\∃C,(∀j,j<20->j≠11->C j=H j)/\Wy f R g0 w0 (St C r K cs) w
 |0,i,E,H,g,l,d,e,h=>by
  have W:=Wy.no hc h (t:=54) (x:=21) (y:=16) (by omega) (by omega) (by omega) e d (by omega)
  grind[bT]
 |q+1,i,E,H,g,l,d,e,h=>by
  have W:=Wy.yes hc h (t:=54) (x:=21) (y:=16) (by omega) (by omega) (by omega) e d (by omega);have W:=Wy.region hc W (m:=16) rfl;obtain⟨a,a',u,B,s,st,dl,F,L,M,N,O,o,hold,W⟩:=anW W z (v':=v') (b:=b) (np:=np) (n:=n) (c:=c) (k:=i) (by rw[bT _ _ (by omega)];exact g) (by rw[bT _ _ (by omega)];exact l) (by rw[bT _ _ (by omega)];exact e) (by omega) (by omega) A;have W:=Wy.again hc W.leave;have p:∀j,j<23->j≠21->j≠11->F j=H j:=λj P I v=>by rw[hold j (by omega) I v,bT _ _ (by omega)]
  obtain⟨Q,S,J,W⟩:=ah9 hc z A D q (i+1) (by omega) ((p 10 (by omega) (by omega) (by omega)).trans g) ((p 15 (by omega) (by omega) (by omega)).trans l) ((p 16 (by omega) (by omega) (by omega)).trans d) o W
  grind
def anZ(hc:2<=cs.length)(O:WR Tryz.progTables.globals.size FF (a9 aa FF ZZ) ρ w w'){v0:Value}(hv:VR FF ρ (H 0) v0)(h:Wy f R g0 w0 (St H r [ci sU] cs) w) :
 ∃l p q v d e z A B c3 np o n g,H 0=bp #[bq ct l,bq ct p,bs q z A,bs v B c3,bs (some d) np o,bs e n g]/\(2<=np/\np<=5/\n<=3)/\
  ∃y0 y1 y2 y3 b F,v0=bp #[y0,y1,y2,y3,bs (some b) np o,F]/\VR FF ρ (bq ct l) y0/\VR FF ρ (bq ct p) y1/\VR FF ρ (bs q z A) y2/\VR FF ρ (bs v B c3) y3/\AR ρ d b/\VR FF ρ (bs e n g) F/\
  (∀k,k<np->∃u I s n lb P Q,ye ρ w w' d b k u I s n lb P Q)/\(∀k,k<n->∃a a' u I s st dl,e=some a/\F=bs (some a') n g/\AR ρ a a'/\AA ρ w w' a a' k np u I s st dl)/\
  ∃C,C 9=bs (some d) np o/\C 10=bs e n g/\C 15=bq ct (np:Int)/\C 16=bq ct (n:Int)/\Wy f R g0 w0 (St C r [ci acg] cs) w:=by
 have W:=Wy.region hc (h.seq hc) (m:=24) rfl;obtain⟨l,p,q,v,d,e,z,A,B,c3,np,o,n,g,H1,hd,W⟩:=alm W;rw[hd.arg]at hv;obtain⟨y,ey,hy⟩:=Y5 hv;obtain⟨S⟩:=y;have J:cU FF ρ [bq ct l,bq ct p,bs q z A,bs v B c3,bs (some d) np o,bs e n g] S:=hy
 cases J with|cons q0 T=>cases T with|cons q1 t1=>cases t1 with|cons q2 t2=>cases t2 with|cons q3 U=>cases U with|cons q4 V=>cases V with|cons q5 X=>
 cases X;have E:=hd.lo;obtain⟨b,Y,D⟩:=xL q4 (show 0<np from Nat.lt_of_lt_of_le (by decide) E.1);subst Y;have W:=Wy.loop hc (W.leave.seq hc);obtain⟨L,H2,hold,W⟩:=ah7 hc O D E.2.1 np 0 (by omega) hd.ah5 hd.MC hd.i W;have W:=Wy.loop hc (W.seq hc);obtain⟨M,Z,c,W⟩:=ah9 hc O q5 E.2.2 n 0 (by omega) ((hold 10 (by omega) (by omega)).trans hd.ah6) ((hold 15 (by omega) (by omega)).trans hd.MC) ((hold 16 (by omega) (by omega)).trans hd.hn) ((hold 21 (by omega) (by omega)).trans hd.j) W
 exact⟨l,p,q,v,d,e,z,A,B,c3,np,o,n,g,hd.arg,E,_,_,_,_,b,_,ey,q0,q1,q2,q3,D,q5,λk N=>L k (bX _) N,λk N=>M k (bX _) N,
  Z,(c 9 (by omega) (by omega)).trans ((hold 9 (by omega) (by omega)).trans hd.ah5),(c 10 (by omega) (by omega)).trans ((hold 10 (by omega) (by omega)).trans hd.ah6),(c 15 (by omega) (by omega)).trans ((hold 15 (by omega) (by omega)).trans hd.MC),(c 16 (by omega) (by omega)).trans ((hold 16 (by omega) (by omega)).trans hd.hn),W⟩
end
def alq:∃i,PC.info? 131=some i/\i.zero=some (bp dZ):=by
 have h:(PC.info? 131).map (·.zero)=some (some (bp dZ)):=by kernel_rfl
 simp_all
def alr:PC.underlying 131=some (cx 3 129):=by kernel_rfl
def als:PC.underlying 129=some (cx 5 53):=by kernel_rfl
def alA:(PC.info? 129).map (·.size)=some 25:=by kernel_rfl
def ajW:(PC.info? 53).map (·.size)=some 5:=by kernel_rfl
def b35(a b:Int)(w:World):(bd 30 #[(0,bq ct a),(1,bq ct b)]).run PC w=bj (bp #[bq ct a,bq ct b]) w:=by kernel_rfl
def b61(p a b c d:Int)(w:World):(bd 53 #[(0,bq ct p),(1,bp #[bq ct a,bq ct b]),(2,bp #[bq ct c,bq ct d])]).run PC w=bj (bp #[bq ct p,bq ct a,bq ct b,bq ct c,bq ct d]) w:=by kernel_rfl
section
variable {f:aF}{R:Value->World->Prop}{g0:aH}{w0 w w':World}{H:Nat->Value}{r:List Value}{cs:List Frame}{ρ:Ren}{K:List Item}{ops:Array Oper}{m i d x y z:Nat}
def Wi.aha(h:Wi f R g0 w0 r cs ops m K H i w)(hi:i<m)(a:ops[i]?=some (aD (some d) (.alloc 131) none))(hd:d<98):Wi f R g0 w0 r cs ops m K (upd H d (bv (some ⟨w.heap.size,0,none⟩))) (i+1) (w.alloc (cB dZ 131)):=by
 obtain⟨b,c,e⟩:=alq;exact .next h.hc a hd ((h.at hi).go bV h.hc (jY (P:=PC) (jb a rfl rfl) rfl c e))
def Wi.qM{t l:Nat}{a:Addr}{u:Nat->Value}(h:Wi f R g0 w0 r cs ops m K H i w)(hi:i<m)(o:ops[i]?=some (aD (some d) (.load t (co x)) none))(hd:d<98)(v:x<98)(q:Sd t l)(hv:H x=bv (some a))(hc:∀j,j<l->w.cell? (a.add j)=some (u j)) :
 Wi f R g0 w0 r cs ops m K (upd H d (bp ((ae l).map u).toArray)) (i+1) w:=by
 obtain⟨J,g,t1,t2,A,B⟩:=q.ex;subst B;have e:aT (SL 98 H r ops (i::ao (i+1) (m-(i+1))) K 43 cs).frame.eval (aD (some d) (.load t (co x)) none)=(do pure (.value (<-a6 t a)):Sem Next):=Go.Ph.uu rfl ((bH v).trans hv);have key:∀n j(b:Array Value),(∀k,k<n->w.cell? (a.add (j+k))=some (u (j+k)))->(a7 a j n b).run PC w=bj (b++((ae n).map λk=>u (j+k)).toArray) w:=by
  intro n
  induction n with
  |zero=>intro j b _;simp[a7]
  |succ n C=>
   intro j b D;have p:=D 0 (by omega);rw[b6]at p;simp only[a7,Sem.run_bind,run_load,p,bi];rw[C (j+1) (b.push (u j)) λk L=>by grind];simp[List.range_succ_eq_map,Function.comp_def,Nat.add_assoc,Nat.add_comm 1]
 have s:(a6 t a).run PC w=bj (bp ((ae g.size).map u).toArray) w:=by
  have M:(a6 t a).run PC w=((a7 a 0 g.size #[]).run PC w).andThen λc w=>bj (bp c) w:=by
   simp[a6,mh t1,t2,sizeOf,typeInfo,A,loadCells]
  simp_all
 obtain⟨v',w',E,F⟩:=(h.at hi).val bV h.hc (jb o rfl rfl) e (.inl ⟨_,_,s⟩);have I:=s.symm.trans E;cases I;exact .next h.hc o hd F
def Wi.ahb{t b len c:Nat}{a:Addr}{k:Nat}(h:Wi f R g0 w0 r cs ops m K H i w)(hi:i<m)(e:ops[i]?=some (aD (some d) (bC t (co x) (co y)) none))(hd:d<98)(g:x<98)(hy:y<98)(j:PC.underlying t=some (cx len b))(hs:(PC.info? b).map (·.size)=some c)(hv:H x=bv (some a))(l:H y=bq ct (k:Int))(hl:k<len) :
 Wi f R g0 w0 r cs ops m K (upd H d (bv (some (a.add (k*c))))) (i+1) w:=by
 have:=(h.at hi).go bV h.hc (qK (P:=PC) (mn:=true) (w:=w) (i:=(k:Int)) (jb e rfl rfl) rfl ((bH g).trans hv) ((bH hy).trans l) j hs (by omega) (by omega));rw[cd]at this;exact .next h.hc e hd this
def Wi.ahT{b off:Nat}{cur c:Array Value}(h:Wi f R g0 w0 r cs ops m K H i w)(hi:i<m)(e:ops[i]?=some (aD none (.store 53 (co x) (co y)) none))(k:x<98)(hy:y<98)(hv:H x=bv (some ⟨b,off,none⟩))(l:H y=bp c)(hb:w.heap[b]?=some (cB cur 131))(g:c.size=5)(hl:off+5<=cur.size)(n:∀v∈c,v.oneCell'=true) :
 Wi f R g0 w0 r cs ops m K H (i+1) (w.setRow b (putRow cur off c)):=by
 have a:(bp c).cells=c:=rfl;obtain⟨es,st,_⟩:=rC (P:=PC) (mn:=true) (w:=w) (jb e rfl rfl) rfl ((bH k).trans hv) ((bH hy).trans l) hb (by rw[a,g];exact ajW) (by rw[a,g];exact hl) (by rw[a];exact n);have j:=(h.at hi).go bV h.hc st;rw[UR e rfl,a]at j;exact⟨h.hc,j⟩
def Wi.aqK{a b:Int}(h:Wi f R g0 w0 r cs ops m K H i w)(hi:i<m)(c:ops[i]?=some (aD (some d) (bx .eql 3 (co x) (co y) 3) none))(hd:d<98)(e:x<98)(hy:y<98)(hv:H x=bq ct a)(g:H y=bq ct b):Wi f R g0 w0 r cs ops m K (upd H d (bt (a==b))) (i+1) w:=
 .next h.hc c hd ((h.at hi).JL bV h.hc (jb c rfl rfl) rfl ((bH e).trans hv) ((bH hy).trans g))
def Wi.pick{v:Value}{b:Bool}(h:Wi f R g0 w0 r cs ops m K H i w)(hi:i<m)(a:ops[i]?=some (aD (some d) (.pick (co x) (cq v) (co y)) none))(hd:d<98)(c:x<98)(hy:y<98)(hb:H x=bt b):Wi f R g0 w0 r cs ops m K (upd H d (if b then v else H y)) (i+1) w:=by
 have e:(aT (SL 98 H r ops (i::ao (i+1) (m-(i+1))) K 43 cs).frame.eval (aD (some d) (.pick (co x) (cq v) (co y)) none)).run PC w=bj (.value (if b then v else H y)) w:=by
  unfold aT;simp only[aD,bH c,bH hy,hb,ah3];cases b<;>rfl
 have hs:=dF (P:=PC) (mn:=true) (v:=if b then v else H y) (w':=w) (w:=w) (g:=SL 98 H r ops (i::ao (i+1) (m-(i+1))) K 43 cs) (jb a rfl rfl) e;exact .next h.hc a hd ((h.at hi).go bV h.hc hs)
def Wy.ret{c:Frame}{l:List Frame}{v:Value}(hc:2<=(c::l).length)(h:Wy f R g0 w0 (St H r [ci .ret] (c::l)) w)(hv:H 2=v):Wy f R g0 w0 (fH (c.finish v) l) w:=by
 have e:stepG PC true (St H r [ci .ret] (c::l)) w=.go (fH ⟨43,⟨(ae 98).map H++r⟩,[ci .ret],[],.returning,ch,none⟩ (c::l)) w #[]:=rfl;have g:=h.go bV hc e;have a:nS.results=#[.tmp 2]:=rfl;have o:(⟨(ae 98).map H++r⟩:Array Value).getD 2 undef=v:=by
  have:=bH (n:=98) (H:=H) (rest:=r) (ops:=#[]) (is:=[]) (k:=[]) (fn:=43) (cs:=[]) (j:=2) (by omega);exact(show(⟨(ae 98).map H++r⟩:Array Value).getD 2 undef=H 2 from this).trans hv
 have hf:PC.funcs[43]?=some nS:=JO;have b:=rB (P:=PC) (mn:=true) (w:=w) (fr:=⟨43,⟨(ae 98).map H++r⟩,[ci .ret],[],.returning,ch,none⟩) (c:=c) (cs:=l) rfl rfl rfl hf (results_tmp a _ PC w) (events_results_tmp a _ _);rw[o]at b;exact g.go bV hc b
end
structure i_(w:World)(cs:Array Value)(w1:World):Prop where
 tb:w1.heap[w.heap.size]?=some (cB cs 131)
 old:∀b,b<w.heap.size->w1.heap[b]?=w.heap[b]?
 size:w1.heap.size=w.heap.size+1
def i_.cell{w w1:World}{cs:Array Value}(h:i_ w cs w1){k o:Nat}(a:k<w.heap.size):w1.cell? ⟨k,o,none⟩=w.cell? ⟨k,o,none⟩:=by simp only[ce,h.old k a]
theorem i_.set{w w1:World}{cs:Array Value}(h:i_ w cs w1)(cs':Array Value):i_ w cs' (w1.setRow w.heap.size cs'):=
 ⟨setRow_heap _ _ _ _ _ _ h.tb,λb hb=>by rw[setRow_other _ _ _ _ (by omega)];exact h.old b hb,by simp[World.setRow,h.size]⟩
structure j_(T:h_)(w:World)(H:Nat->Value):Prop where
 h9:H 9=bs (some ⟨T.k4,T.o4,none⟩) T.np T.c4
 tI:H 10=bs T.b5 T.n T.c5
 h15:H 15=bq ct (T.np:Int)
 h16:H 16=bq ct (T.n:Int)
def j_.on{T:h_}{w:World}{H a:Nat->Value}(h:j_ T w H)(e:∀j,j<66->a j=H j):j_ T w a:=⟨(e 9 (by omega)).trans h.h9,(e 10 (by omega)).trans h.tI,(e 15 (by omega)).trans h.h15,(e 16 (by omega)).trans h.h16⟩
section
variable {f:aF}{R:Value->World->Prop}{g0:aH}{w0 w w1 w':World}{H:Nat->Value}{r:List Value}{cs:List Frame}{ρ:Ren}{K:List Item}{T:h_}{cur:Array Value}{G q:Nat}
structure Rd(T:h_)(w:World)(G q:Nat)(H:Nat->Value):Prop where
 sf:j_ T w H
 h66:H 66=bv (some ⟨w.heap.size,0,none⟩)
 h67:H 67=bq ct (G:Int)
 h71:H 71=bq ct ((s8 T.np (T.S G) q:Nat):Int)
 h72:H 72=bq ct (cmV T.pn T.np (T.S G) (T.dl G) q).1
 h73:H 73=bq ct (cmV T.pn T.np (T.S G) (T.dl G) q).2
 h74:H 74=bq ct (q:Int)
def ao0(h:Wi f R g0 w0 r cs ag9 26 K H 0 w1)(C:T.In w)(D:i_ w cur w1)(hd:Rd T w G q H)(N:G<T.n)(J:q<T.np)(E:b7 T.pn T.np T.S T.dl G q cur) :
 ∃F z w2,Rd T w G (q+1) F/\i_ w z w2/\b7 T.pn T.np T.S T.dl G (q+1) z/\Wi f R g0 w0 r cs ag9 26 K F 26 w2:=by
 have L:=C.lo;have I:s8 T.np (T.S G) q<T.np:=abh (by omega);obtain⟨c1,A⟩:∃c,c=(cmV T.pn T.np (T.S G) (T.dl G) q).1:=⟨_,rfl⟩
 obtain⟨e,i⟩:∃c,c=(cmV T.pn T.np (T.S G) (T.dl G) q).2:=⟨_,rfl⟩
 obtain⟨p,l⟩:∃p,p=s8 T.np (T.S G) q:=⟨_,rfl⟩
 have g:=hd.h71;have m:=hd.h72;have s:=hd.h73;rw[<-A]at m;rw[<-i]at s;rw[<-l]at g I;have W:=h.ac2 (d:=76) (x:=9) (y:=71) (k:=(p:Int)) (a:=⟨T.k4,T.o4,none⟩) (n:=T.np) (c:=T.c4) (by omega) rfl aeH aeI (by omega) (by omega) (by omega) (by omega) (by omega) hd.sf.h9 g;have M:(⟨T.k4,T.o4,none⟩:Addr).add ((p:Int).toNat*12)=⟨T.k4,T.o4+p*12,none⟩:=by rw[bc,cd]
 rw[M]at W;have W:=W.qM (d:=77) (x:=76) (u:=T.G8 p) (by omega) rfl (by omega) (by omega) akC (bR _ _ _) (λj B=>by rw[bc,D.cell C.h4];exact C.c4 p I j B);have hc:((ae 12).map (T.G8 p)).toArray=#[br (T.nm p),bq ct (T.pn p 1),bq ct (T.pn p 2),bq ct (T.pn p 3),bq ct (T.pn p 4),bq ct (T.pn p 5),bq ct (T.pn p 6),bq ct (T.pn p 7),bq ct (T.pn p 8),bq ct (T.pn p 9),bq ct (T.pn p 10),bs (T.lb p) (T.ll p) (T.lc p)]:=rfl;rw[hc]at W;have W:=W.fs aa9 (d:=78) (x:=77) (c':=#[bq ct (T.pn p 7),bq ct (T.pn p 8)]) (by omega) rfl (by omega) (by omega) (bR _ _ _) (by simp);have W:=W.fk aa2 (d:=79) (x:=78) (v:=bq ct (T.pn p 7)) (by omega) rfl (by omega) (by omega) (bR _ _ _) rfl;have W:=W.fk aa3 (d:=80) (x:=78) (c:=#[bq ct (T.pn p 7),bq ct (T.pn p 8)]) (v:=bq ct (T.pn p 8)) (by omega) rfl (by omega) (by omega) rfl rfl;have W:=W.fs aaa (d:=81) (x:=77) (c:=#[br (T.nm p),bq ct (T.pn p 1),bq ct (T.pn p 2),bq ct (T.pn p 3),bq ct (T.pn p 4),bq ct (T.pn p 5),bq ct (T.pn p 6),bq ct (T.pn p 7),bq ct (T.pn p 8),bq ct (T.pn p 9),bq ct (T.pn p 10),bs (T.lb p) (T.ll p) (T.lc p)]) (c':=#[bq ct (T.pn p 9),bq ct (T.pn p 10)]) (by omega) rfl (by omega) (by omega) rfl (by simp)
 have W:=W.fk aa2 (d:=82) (x:=81) (v:=bq ct (T.pn p 9)) (by omega) rfl (by omega) (by omega) (bR _ _ _) rfl;have W:=W.fk aa3 (d:=83) (x:=81) (c:=#[bq ct (T.pn p 9),bq ct (T.pn p 10)]) (v:=bq ct (T.pn p 10)) (by omega) rfl (by omega) (by omega) rfl rfl;have W:=W.add (d:=84) (x:=72) (y:=79) (m1:=c1) (n:=T.pn p 7) (by omega) rfl (by omega) (by omega) (by omega) m rfl;have W:=W.add (d:=85) (x:=73) (y:=80) (m1:=e) (n:=T.pn p 8) (by omega) rfl (by omega) (by omega) (by omega) s rfl
 have W:=W.build (d:=86) (t:=30) (ps:=#[(0,co 72),(1,co 73)]) (pv:=#[(0,bq ct c1),(1,bq ct e)]) (by omega) rfl (by omega) (by
  simp only[ap,aq,ar];rw[bH (by omega),bH (by omega)]
  exact(congrArg (λa=>#[((0:Nat),a),(1,_)]) m).trans (congrArg (λb=>#[((0:Nat),bq ct c1),(1,b)]) s)) (b35 _ _ _)
 have W:=W.build (d:=87) (t:=30) (ps:=#[(0,co 84),(1,co 85)]) (pv:=#[(0,bq ct (IntKind.i64.wrap (c1+T.pn p 7))),(1,bq ct (IntKind.i64.wrap (e+T.pn p 8)))]) (by omega) rfl (by omega) (by
  simp only[ap,aq,ar];rw[bH (by omega),bH (by omega)]
  rfl) (b35 _ _ _)
 have W:=W.build (d:=88) (t:=53) (ps:=#[(0,co 71),(1,co 86),(2,co 87)]) (pv:=#[(0,bq ct (p:Int)),(1,bp #[bq ct c1,bq ct e]),(2,bp #[bq ct (IntKind.i64.wrap (c1+T.pn p 7)),bq ct (IntKind.i64.wrap (e+T.pn p 8))])]) (by omega) rfl (by omega) (by
  simp only[ap,aq,ar];rw[bH (by omega),bH (by omega),bH (by omega)]
  exact congrArg (λa=>#[((0:Nat),a),(1,bp #[bq ct c1,bq ct e]),(2,bp #[bq ct (IntKind.i64.wrap (c1+T.pn p 7)),bq ct (IntKind.i64.wrap (e+T.pn p 8))])]) g) (b61 _ _ _ _ _ _)
 have W:=W.ahb (d:=89) (x:=66) (y:=67) (k:=G) (a:=⟨w.heap.size,0,none⟩) (by omega) rfl (by omega) (by omega) (by omega) alr alA hd.h66 hd.h67 (by omega);have W:=W.ahb (d:=90) (x:=89) (y:=71) (k:=p) (by omega) rfl (by omega) (by omega) (by omega) als ajW (bR _ _ _) g (by omega);have hcs:=E.size
 have W:=W.ahT (x:=90) (y:=88) (b:=w.heap.size) (off:=G*25+p*5) (cur:=cur) (c:=#[bq ct (p:Int),bq ct c1,bq ct e,bq ct (IntKind.i64.wrap (c1+T.pn p 7)),bq ct (IntKind.i64.wrap (e+T.pn p 8))]) (by omega) rfl (by omega) (by omega) (by
  rw[bR,bc,bc,Nat.zero_add]) rfl D.tb rfl (by omega) (λv hv=>by
  simp only[List.mem_toArray,aw,List.not_mem_nil,or_false]at hv
  rcases hv with rfl|rfl|rfl|rfl|rfl<;>rfl)
 have W:=W.add (d:=91) (x:=84) (y:=82) (m1:=IntKind.i64.wrap (c1+T.pn p 7)) (n:=T.pn p 9) (by omega) rfl (by omega) (by omega) (by omega) rfl rfl;have W:=W.add (d:=92) (x:=85) (y:=83) (m1:=IntKind.i64.wrap (e+T.pn p 8)) (n:=T.pn p 10) (by omega) rfl (by omega) (by omega) (by omega) rfl rfl;have W:=W.abw (d:=72) (x:=91) (by omega) rfl (by omega) (by omega);have W:=W.abw (d:=73) (x:=92) (by omega) rfl (by omega) (by omega);have W:=W.add1 (d:=93) (x:=71) (n:=(p:Int)) (by omega) rfl (by omega) (by omega) g;have W:=W.aqK (d:=94) (x:=93) (y:=15) (a:=IntKind.i64.wrap ((p:Int)+1)) (b:=(T.np:Int)) (by omega) rfl (by omega) (by omega) (by omega) (bR _ _ _) hd.sf.h15;have W:=W.pick (d:=95) (x:=94) (y:=93) (v:=bq ct 0) (b:=IntKind.i64.wrap ((p:Int)+1)==(T.np:Int)) (by omega) rfl (by omega) (by omega) (by omega) (bR _ _ _);have W:=W.abw (d:=71) (x:=95) (by omega) rfl (by omega) (by omega);have W:=W.add1 (d:=96) (x:=74) (n:=(q:Int)) (by omega) rfl (by omega) (by omega) hd.h74;have W:=W.abw (d:=74) (x:=96) (by omega) rfl (by omega) (by omega);refine⟨_,_,_,⟨hd.sf.on λj B=>?_,?_,?_,?_,?_,?_,?_⟩,D.set _,E.next J L.2.1 ?_ (λj B=>?_) (λo O=>?_),W⟩
 ·repeat rw[bT _ _ (by omega)]
 ·exact hd.h66
 ·exact hd.h67
 ·have e1:IntKind.i64.wrap ((p:Int)+1)=((p+1:Nat):Int):=acj (by omega);show(if IntKind.i64.wrap ((p:Int)+1)==(T.np:Int) then bq ct 0 else bq ct (IntKind.i64.wrap ((p:Int)+1)))=_;rw[e1,abq (by omega),<-l]
  grind
 ·show bq ct (IntKind.i64.wrap (IntKind.i64.wrap (c1+T.pn p 7)+T.pn p 9))=_;rw[cmV,<-A,<-l]
 ·show bq ct (IntKind.i64.wrap (IntKind.i64.wrap (e+T.pn p 8)+T.pn p 10))=_;rw[cmV,<-i,<-l]
 ·rw[bR,bR,acj (by omega)]
 ·rw[vj (by show _+5<=_;omega)];exact hcs
 ·rw[<-l,Mo (by show _+5<=_;omega) B];obtain rfl|rfl|rfl|rfl|rfl:j=0\/j=1\/j=2\/j=3\/j=4:=by omega
  ·simp only[vsV,<-l];rfl
  ·simp only[vsV,<-A];rfl
  ·simp only[vsV,<-i];rfl
  ·simp only[vsV,<-A,<-l];rfl
  ·simp only[vsV,<-i,<-l];rfl
 grind[G4]
noncomputable abbrev akj:Code:=lb 3 8 ahQ 75 (cC 9 ag9 false)
def Rd.upd{j:Nat}{v:Value}(h:Rd T w G q H)(a:75<=j):Rd T w G q (upd H j v):=
 ⟨h.sf.on λk b=>bT _ _ (by omega),(bT _ _ (by omega)).trans h.h66,(bT _ _ (by omega)).trans h.h67,(bT _ _ (by omega)).trans h.h71,(bT _ _ (by omega)).trans h.h72,(bT _ _ (by omega)).trans h.h73,(bT _ _ (by omega)).trans h.h74⟩
def afD(hc:2<=cs.length)(g:T.In w)(i:G<T.n):∀(k q:Nat),q+k=T.np->∀{H:Nat->Value}{w1:World}{cur:Array Value},i_ w cur w1->Rd T w G q H->b7 T.pn T.np T.S T.dl G q cur->
 Wy f R g0 w0 (St H r (ci akj :: cl akj :: cm 3::K) cs) w1->∃j a w2,i_ w a w2/\Rd T w G T.np j/\b7 T.pn T.np T.S T.dl G T.np a/\Wy f R g0 w0 (St j r K cs) w2
 |0,q,l,H,w1,cur,b,hd,c,h=>by
  obtain rfl:q=T.np:=by omega
  have W:=Wy.no hc h (t:=75) (x:=74) (y:=15) (by omega) (by omega) (by omega) hd.h74 hd.sf.h15 (by omega);exact⟨_,cur,w1,b,hd.upd (by omega),c,W⟩
 |k+1,q,l,H,w1,cur,b,hd,c,h=>by
  have W:=Wy.yes hc h (t:=75) (x:=74) (y:=15) (by omega) (by omega) (by omega) hd.h74 hd.sf.h15 (by omega);have W:=Wy.region hc W (m:=26) rfl;obtain⟨s,o,w2,d,p,e,W⟩:=ao0 W g b (hd.upd (by omega)) i (by omega) c;exact afD hc g i k (q+1) (by omega) p d e (Wy.again hc W.leave)
structure k_(T:h_)(w:World)(G:Nat)(H:Nat->Value):Prop where
 sf:j_ T w H
 h66:H 66=bv (some ⟨w.heap.size,0,none⟩)
 h67:H 67=bq ct (G:Int)
noncomputable abbrev akn:Code:=lb 2 6 alg 68 (cQ (cC 7 opsL false) (cQ (abU 3 8 ahQ 75 (cC 9 ag9 false)) (cC 10 alh false)))
def afE(hc:2<=cs.length)(e:T.In w):∀(k G:Nat),G+k=T.n->∀{H:Nat->Value}{w1:World}{cur:Array Value},i_ w cur w1->k_ T w G H->b7 T.pn T.np T.S T.dl G 0 cur->
 Wy f R g0 w0 (St H r (ci akn :: cl akn :: cm 2::K) cs) w1->∃A g w2,i_ w g w2/\A 66=bv (some ⟨w.heap.size,0,none⟩)/\b7 T.pn T.np T.S T.dl T.n 0 g/\Wy f R g0 w0 (St A r K cs) w2
 |0,G,C,H,w1,cur,i,hd,l,h=>by
  obtain rfl:G=T.n:=by omega
  have W:=Wy.no hc h (t:=68) (x:=67) (y:=16) (by omega) (by omega) (by omega) hd.h67 hd.sf.h16 (by omega);exact⟨_,cur,w1,i,(bT _ _ (by omega)).trans hd.h66,l,W⟩
 |k+1,G,C,H,w1,cur,i,hd,l,h=>by
  obtain⟨D,o⟩:=e.h5 (by omega);have E:=e.st G (by omega);have L:=e.lo.2.2;have W:=Wy.yes hc h (t:=68) (x:=67) (y:=16) (by omega) (by omega) (by omega) hd.h67 hd.sf.h16 (by omega);have W:=Wy.region hc (W.seq hc) (m:=6) rfl;have B:=hd.sf.tI;rw[D]at B;have W:=W.ac2 (d:=69) (x:=10) (y:=67) (k:=(G:Int)) (a:=⟨T.k5,T.o5,none⟩) (n:=T.n) (c:=T.c5) (by omega) rfl Xh aeM (by omega) (by omega) (by omega) (by omega) (by omega) ((bT _ _ (by omega)).trans B) ((bT _ _ (by omega)).trans hd.h67);have F:(⟨T.k5,T.o5,none⟩:Addr).add ((G:Int).toNat*3)=⟨T.k5,T.o5+G*3,none⟩:=by rw[bc,cd]
  rw[F]at W;have W:=W.qM (d:=70) (x:=69) (u:=T.PM G) (by omega) rfl (by omega) (by omega) akH (bR _ _ _) (λj p=>by rw[bc,i.cell o];exact e.c5 G (by omega) j p);have s:((ae 3).map (T.PM G)).toArray=#[br (T.gn G),bq ct (T.S G:Int),bq ct (T.dl G)]:=rfl;rw[s]at W;have W:=W.fk aad (d:=71) (x:=70) (v:=bq ct (T.S G:Int)) (by omega) rfl (by omega) (by omega) (bR _ _ _) rfl;have W:=W.fk aae (d:=72) (x:=70) (c:=#[br (T.gn G),bq ct (T.S G:Int),bq ct (T.dl G)]) (v:=bq ct (T.dl G)) (by omega) rfl (by omega) (by omega) rfl rfl;have W:=W.fk aae (d:=73) (x:=70) (c:=#[br (T.gn G),bq ct (T.S G:Int),bq ct (T.dl G)]) (v:=bq ct (T.dl G)) (by omega) rfl (by omega) (by omega) rfl rfl;have W:=W.move (d:=74) (by omega) rfl (by omega);have W:=Wy.loop hc ((W.leave).seq hc)
  obtain⟨M,I,w2,J,b,z,W⟩:=afD hc e (show G<T.n by omega) T.np 0 (by omega) i ⟨hd.sf.on λj p=>by repeat rw[bT _ _ (by omega)],by repeat (rw[bT _ _ (by omega)]);exact hd.h66,by repeat (rw[bT _ _ (by omega)]);exact hd.h67,by
   show bq ct (T.S G:Int)=_
   rw[s8,b6,Nat.mod_eq_of_lt E],rfl,rfl,rfl⟩ l W
  have W:=Wy.region hc W (m:=2) rfl;have W:=W.add1 (d:=97) (x:=67) (n:=(G:Int)) (by omega) rfl (by omega) (by omega) b.h67;have W:=W.abw (d:=67) (x:=97) (by omega) rfl (by omega) (by omega);refine afE hc e k (G+1) (by omega) J ⟨b.sf.on λj p=>by repeat rw[bT _ _ (by omega)],by repeat (rw[bT _ _ (by omega)]);exact b.h66,?_⟩ z.done (Wy.again hc W.leave);rw[bR,bR,acj (by omega)]
def adS{o:Nat}(h:o<75):dZ[o]?=some (bq ct 0):=by
 unfold dZ
 grind
def alB{c:Frame}{l:List Frame}(hc:2<=(c::l).length)(e:T.In w)(hs:j_ T w H)(h:Wy f R g0 w0 (St H r [ci acg] (c::l)) w) :
 ∃cur w2,i_ w cur w2/\b7 T.pn T.np T.S T.dl T.n 0 cur/\Wy f R g0 w0 (fH (c.finish (bv (some ⟨w.heap.size,0,none⟩))) l) w2:=by
 have W:=Wy.region hc (h.seq hc) (m:=2) rfl;have W:=W.aha (d:=66) (by omega) rfl (by omega);have W:=W.move (d:=67) (by omega) rfl (by omega);have W:=Wy.loop hc ((W.leave).seq hc)
 have g:i_ w dZ (w.alloc (cB dZ 131)):=⟨World.alloc_heap_new _ _,λb hb=>by
  show(w.heap.push _)[b]?=_
  grind,by simp[World.size_alloc]⟩
 obtain⟨s,cur,w2,i,a,k,W⟩:=afE hc e T.n 0 (by omega) g ⟨hs.on λj t=>by repeat rw[bT _ _ (by omega)],by rw[bT _ _ (by omega),bR],bR _ _ _⟩ (b7.zero (by simp[dZ]) λo p=>adS p) W;have W:=Wy.region hc (W.seq hc) (m:=1) rfl;have W:=W.abw (d:=2) (x:=66) (by omega) rfl (by omega) (by omega);exact⟨cur,w2,i,k,Wy.ret hc W.leave ((bR _ _ _).trans a)⟩
end
def afF{a:Type}(d:a){p:Nat->a->Prop}{n:Nat}(h:∀i,i<n->∃x,p i x):∃f:Nat->a,∀i,i<n->p i (f i):=by
 classical
 refine⟨λi=>if hi:i<n then(h i hi).choose else d,λi hi=>?_⟩
 grind
section
variable {f:aF}{R:Value->World->Prop}{g0:aH}{w0 w w':World}{H:Nat->Value}{r:List Value}{cs:List Frame}{ρ:Ren}
def oT{n:Int}{k:IntKind}{v':Value}(h:VR FF ρ (bq k n) v'):v'=bq k n:=by cases h;rfl
def Qg{s:ByteArray}{v':Value}(h:VR FF ρ (br s) v'):v'=br s:=by cases h;rfl
def afH{b:Option Addr}{n c:Nat}{v':Value}(h:VR FF ρ (bs b n c) v'):∃b',v'=bs b' n c/\∀x,x∈bl b' n c->∃a,ρ a x:=by
 cases h with
 |di=>exact⟨none,rfl,λx d=>by unfold bl at d;split at d<;>simp at d⟩
 |@slice a g _ _ i=>
  refine⟨some g,rfl,λx d=>?_⟩;unfold bl at d
  split at d
  ·simp at d
  ·have e:x=g.block:=by simpa using d
   exact⟨a.block,by rw[e];exact i.1⟩
 |dK=>exact⟨some _,rfl,λx d=>by unfold bl at d;simp at d⟩
def AB{a:Addr}{v:Value}(h:w.cell? a=some v):a.spot=none:=by
 unfold ce at h
 split at h
 ·simp_all
 ·cases h
def abD{a:Addr}{v:Value}(h:w.cell? a=some v):a.block<w.heap.size:=by
 unfold ce at h
 grind
def Qh{a:Addr}(h:a.spot=none)(n j:Nat):(a.add n).add j=⟨a.block,a.off+n+j,none⟩:=by
 obtain⟨b,o,s⟩:=a
 grind[bc]
def abE{a:Addr}{n:Nat}{v:Value}(h:w.cell? ((a.add n).add 0)=some v)(b:n=0):a.spot=none:=by
 subst b;have e:(a.add 0).add 0=a:=by unfold Addr.add;simp
 rw[e]at h;exact AB h
def abG{a:Addr}{k:Nat}{u:Nat->Value}{s:ByteArray}{n:Nat->Int}{lb:Option Addr}{b c:Nat}(hs:a.spot=none)(hc:∀j,j<12->w.cell? ((a.add (k*12)).add j)=some (u j))(e:u 0=br s)(h:∀j,1<=j->j<=10->u j=bq ct (n j))(hl:u 11=bs lb b c){j:Nat}(g:j<12) :
 w.cell? ⟨a.block,a.off+k*12+j,none⟩=(#[br s,bq ct (n 1),bq ct (n 2),bq ct (n 3),bq ct (n 4),bq ct (n 5),bq ct (n 6),bq ct (n 7),bq ct (n 8),bq ct (n 9),bq ct (n 10),bs lb b c]:Array Value)[j]?:=by
 have d:=hc j g;rw[Qh hs]at d;rw[d];obtain rfl|rfl|rfl|rfl|rfl|rfl|rfl|rfl|rfl|rfl|rfl|rfl:j=0\/j=1\/j=2\/j=3\/j=4\/j=5\/j=6\/j=7\/j=8\/j=9\/j=10\/j=11:=by omega
 ·rw[e];rfl
 ·grind
 ·grind
 ·grind
 ·grind
 ·grind
 ·grind
 ·simp_all
 ·simp_all
 ·simp_all
 ·simp_all
 ·rw[hl];rfl
structure ao2(ρ:Ren)(w w':World)(a a':Addr)(k:Nat)(x:ByteArray×(Nat->Int)×(Option Addr×Nat×Nat)×Option Addr):Prop where
 lone:∀j,j<12->w.cell? ⟨a.block,a.off+k*12+j,none⟩=(#[br x.1,bq ct (x.2.1 1),bq ct (x.2.1 2),bq ct (x.2.1 3),bq ct (x.2.1 4),bq ct (x.2.1 5),bq ct (x.2.1 6),bq ct (x.2.1 7),bq ct (x.2.1 8),bq ct (x.2.1 9),bq ct (x.2.1 10),bs x.2.2.1.1 x.2.2.1.2.1 x.2.2.1.2.2]:Array Value)[j]?
 comp:∀j,j<12->w'.cell? ⟨a'.block,a'.off+k*12+j,none⟩=(#[br x.1,bq ct (x.2.1 1),bq ct (x.2.1 2),bq ct (x.2.1 3),bq ct (x.2.1 4),bq ct (x.2.1 5),bq ct (x.2.1 6),bq ct (x.2.1 7),bq ct (x.2.1 8),bq ct (x.2.1 9),bq ct (x.2.1 10),bs x.2.2.2 x.2.2.1.2.1 x.2.2.1.2.2]:Array Value)[j]?
 lane:∀y,y∈bl x.2.2.2 x.2.2.1.2.1 x.2.2.1.2.2->∃b,ρ b y
def ye.both{a a':Addr}{k:Nat}{u g:Nat->Value}{s:ByteArray}{n:Nat->Int}{lb:Option Addr}{d e:Nat}(h:ye ρ w w' a a' k u g s n lb d e)(hs:a.spot=none)(i:a'.spot=none):∃x,ao2 ρ w w' a a' k x:=by
 have c:=(h.cell 11 (by omega)).2.2.1;rw[h.lane]at c;obtain⟨l,m,hl⟩:=afH c;refine⟨(s,n,(lb,d,e),l),λj b=>abG hs (λj b=>(h.cell j b).1) h.name h.num h.lane b,λj b=>abG i (λj b=>(h.cell j b).2.1) ?_ (λj o p=>?_) m b,hl⟩
 ·have:=(h.cell 0 (by omega)).2.2.1;rw[h.name]at this;exact Qg this
 ·have:=(h.cell j (by omega)).2.2.1;rw[h.num j o p]at this;exact oT this
structure alD(w w':World)(a a':Addr)(k np:Nat)(x:ByteArray×Nat×Int):Prop where
 lone:∀j,j<3->w.cell? ⟨a.block,a.off+k*3+j,none⟩=(#[br x.1,bq ct (x.2.1:Int),bq ct x.2.2]:Array Value)[j]?
 comp:∀j,j<3->w'.cell? ⟨a'.block,a'.off+k*3+j,none⟩=(#[br x.1,bq ct (x.2.1:Int),bq ct x.2.2]:Array Value)[j]?
 lt:x.2.1<np
def AA.both{a a':Addr}{k np:Nat}{u d:Nat->Value}{s:ByteArray}{st:Nat}{dl:Int}(h:AA ρ w w' a a' k np u d s st dl)(hs:a.spot=none)(e:a'.spot=none):alD w w' a a' k np (s,st,dl):=by
 have k0:=(h.cell 0 (by omega)).2.2.1;rw[h.name]at k0;have k1:=(h.cell 1 (by omega)).2.2.1;rw[h.start]at k1;have k2:=(h.cell 2 (by omega)).2.2.1;rw[h.aeN]at k2;refine⟨λj c=>?_,λj c=>?_,h.lt⟩
 ·have b:=(h.cell j c).1;rw[Qh hs]at b;rw[b];obtain rfl|rfl|rfl:j=0\/j=1\/j=2:=by omega
  ·rw[h.name];rfl
  ·rw[h.start];rfl
  ·rw[h.aeN];rfl
 ·have b:=(h.cell j c).2.1;rw[Qh e]at b;rw[b];obtain rfl|rfl|rfl:j=0\/j=1\/j=2:=by omega
  ·rw[Qg k0];rfl
  ·rw[oT k1];rfl
  ·rw[oT k2];rfl
end
def ahc{x:Nat->Value}{a:Array Value}(h:a=#[x 0,x 1,x 2,x 3,x 4,x 5,x 6,x 7,x 8,x 9,x 10,x 11]){j:Nat}(b:j<12):a[j]?=some (x j):=by
 subst h;obtain rfl|rfl|rfl|rfl|rfl|rfl|rfl|rfl|rfl|rfl|rfl|rfl:j=0\/j=1\/j=2\/j=3\/j=4\/j=5\/j=6\/j=7\/j=8\/j=9\/j=10\/j=11:=by omega
 all_goals rfl
def alE{x:Nat->Value}{a:Array Value}(h:a=#[x 0,x 1,x 2]){j:Nat}(b:j<3):a[j]?=some (x j):=by
 grind
section
variable {f:aF}{R:Value->World->Prop}{g0:aH}{w0 w w':World}{H:Nat->Value}{r:List Value}{cs:List Frame}{ρ:Ren}
def ao3(ρ:Ren)(w':World)(v0:Value)(T:h_):Prop:=∃c,v0=bp c/\(T.n=0->∃d e,c[5]?=some (bs d 0 e))/\
 (0<T.n->∃D gn,c=cA T.np D/\Cf T.np T.n D T.S T.dl gn w'/\D.pn=T.pn/\∀b,b∈dR T.np D->∃a,ρ a b)
def alF(hc:2<=cs.length)(hw:WR Tryz.progTables.globals.size FF (a9 aa FF ZZ) ρ w w'){v0:Value}(hv:VR FF ρ (H 0) v0)(h:Wy f R g0 w0 (St H r [ci sU] cs) w) :
 ∃T v,T.In w/\j_ T w v/\ao3 ρ w' v0 T/\Wy f R g0 w0 (St v r [ci acg] cs) w:=by
 obtain⟨l,p,b2,b3,o,b5,n2,c2,n3,c3,g,c4,n,Q,_,y,y0,y1,y2,y3,c,y5,ev,q0,q1,q2,q3,ha4,q5,z,A,v,e9,B,C,E,W⟩:=anZ hc hw hv h;have U:o.spot=none/\c.spot=none/\o.block<w.heap.size:=by
  obtain⟨u,u',s,nn,lb,ll,lc,t⟩:=z 0 (by omega);obtain⟨k1,k2,_,_⟩:=t.cell 0 (by omega);have e1:(o.add (0*12)).add 0=o:=by rw[b8];unfold Addr.add;simp
  rw[e1]at k1;exact⟨AB k1,abE k2 (b8 _),abD k1⟩
 obtain⟨U,F,I⟩:=U;obtain⟨X,V⟩:=afF (ba,λ_=>0,(none,0,0),none) (p:=λk x=>ao2 ρ w w' o c k x) (n:=g) λk d=>by
  obtain⟨u,u',s,nn,lb,ll,lc,t⟩:=z k d;exact t.both U F
 obtain⟨b2',J,k2⟩:=afH q2;obtain⟨b3',K,k3⟩:=afH q3;have f0:=oT q0;have f1:=oT q1;subst J K f0 f1;have e4':c=⟨c.block,c.off,none⟩:=by rw[<-F]
 have e4:o=⟨o.block,o.off,none⟩:=by rw[<-U]
 rcases b9 n with L|L
 ·subst L;obtain⟨b5',e5,_⟩:=afH q5;subst e5;refine⟨{ l:=l,p:=p,b2:=b2,n2:=n2,c2:=c2,b3:=b3,n3:=n3,c3:=c3,k4:=o.block,o4:=o.off,np:=g,c4:=c4,b5:=b5,k5:=0,o5:=0,n:=0,c5:=Q,pn:=λi j=>(X i).2.1 j,S:=λ_=>0,dl:=λ_=>0,nm:=λi=>(X i).1,gn:=λ_=>ba,lb:=λi=>(X i).2.2.1.1,ll:=λi=>(X i).2.2.1.2.1,lc:=λi=>(X i).2.2.1.2.2 },v,⟨y,I,(λh=>absurd h (cb _)),(λk d=>absurd d (cc _)),(λi hi j q=>by rw[(V i hi).lone j q];exact ahc (by rfl) q),(λk d=>absurd d (cc _))⟩,⟨by rw[e9,e4],B,C,E⟩,⟨_,ev,(λ_=>⟨_,_,rfl⟩),(λh=>absurd h (cb _))⟩,W⟩
 ·obtain⟨a,m,s5,s5',Z,ey,har,hg⟩:∃a m,a.spot=none/\m.spot=none/\b5=some a/\y5=bs (some m) n Q/\AR ρ a m/\∀k,k<n->∃x,alD w w' a m k g x:=by
   obtain⟨a,m,u,u',s,st,dl,Z,ey,ha,t⟩:=A 0 L;obtain⟨k1,k2,_,_⟩:=t.cell 0 (by omega);have sp:=abE k1 (b8 _);have M:=abE k2 (b8 _);refine⟨a,m,sp,M,Z,ey,ha,λk d=>?_⟩;obtain⟨a1,a1',u,u',s,st,dl,N,O,ha1,t⟩:=A k d;rw[Z]at N;cases N;rw[ey]at O;cases O;exact⟨_,t.both sp M⟩
  obtain⟨Y,P⟩:=afF (ba,0,0) (p:=λk x=>alD w w' a m k g x) (n:=n) hg;have ea:a=⟨a.block,a.off,none⟩:=by rw[<-s5]
  have ea':m=⟨m.block,m.off,none⟩:=by rw[<-s5']
  have h5:a.block<w.heap.size:=by
   have:=(P 0 L).lone 0 (by omega);exact abD (a:=⟨a.block,_,none⟩) (this.trans rfl)
  refine⟨{ l:=l,p:=p,b2:=b2,n2:=n2,c2:=c2,b3:=b3,n3:=n3,c3:=c3,k4:=o.block,o4:=o.off,np:=g,c4:=c4,b5:=b5,k5:=a.block,o5:=a.off,n:=n,c5:=Q,pn:=λi j=>(X i).2.1 j,S:=λk=>(Y k).2.1,dl:=λk=>(Y k).2.2,nm:=λi=>(X i).1,gn:=λk=>(Y k).1,lb:=λi=>(X i).2.2.1.1,ll:=λi=>(X i).2.2.1.2.1,lc:=λi=>(X i).2.2.1.2.2 },v,
   ⟨y,I,λ_=>⟨by rw[Z,ea],h5⟩,λk d=>(P k d).lt,(λi hi j q=>by rw[(V i hi).lone j q];exact ahc (by rfl) q),(λk d j q=>by rw[(P k d).lone j q];exact alE (by rfl) q)⟩,⟨by rw[e9,e4],B,C,E⟩,⟨_,ev,λh=>absurd h (Nat.ne_of_gt L),λ_=>?_⟩,W⟩
  let D:jB:={ l,p,so:=b2',sl:=n2,sc:=c2,qo:=b3',ql:=n3,qc:=c3,pb:=c.block,po:=c.off,cp:=c4,gb:=m.block,go:=m.off,ng:=n,cg:=Q,pe:=λi=>(X i).1,pn:=λi j=>(X i).2.1 j,pl:=λi=>if i<g then(X i).2.2.2 else none,pc:=λi=>if i<g then(X i).2.2.1.2.1 else 0,pd:=λi=>if i<g then(X i).2.2.1.2.2 else 0 }
  have Ht:∀b,b∈dR g D->∃x,ρ x b:=by
   intro b hb;unfold dR at hb;simp only[aw,List.mem_append,List.mem_flatMap,List.mem_range]at hb
   rcases hb with rfl|rfl|(hb|hb)|⟨i,hi,hb⟩
   ·exact⟨_,ha4.1⟩
   ·exact⟨_,har.1⟩
   ·exact k2 b hb
   ·exact k3 b hb
   ·have e1:D.pl i=if i<g then(X i).2.2.2 else none:=rfl
    have J:D.pc i=if i<g then(X i).2.2.1.2.1 else 0:=rfl
    have K:D.pd i=if i<g then(X i).2.2.1.2.2 else 0:=rfl
    rw[e1,J,K]at hb;by_cases h:i<g
    ·rw[if_pos h,if_pos h,if_pos h]at hb;exact(V i h).lane b hb
    ·rw[if_neg h,if_neg h,if_neg h]at hb;simp[bl]at hb
  refine⟨D,λk=>(Y k).1,?_,⟨λb hb=>?_,λi hi j q=>?_,λk d j q=>?_,rfl,λk d=>(P k d).lt,⟨Nat.le_trans (by decide) y.1,y.2.1⟩,y.2.2⟩,rfl,Ht⟩
  ·rw[ey,e4',ea'];rfl
  ·obtain⟨x,hx⟩:=Ht b hb;have hl:=(hw.lt hx).2;exact⟨hl,_,Array.getElem?_eq_getElem hl⟩
  ·have t:=(V i hi).comp j q;have e:pA D i=#[br (X i).1,bq ct ((X i).2.1 1),bq ct ((X i).2.1 2),bq ct ((X i).2.1 3),bq ct ((X i).2.1 4),bq ct ((X i).2.1 5),bq ct ((X i).2.1 6),bq ct ((X i).2.1 7),bq ct ((X i).2.1 8),bq ct ((X i).2.1 9),bq ct ((X i).2.1 10),bs (X i).2.2.2 (X i).2.2.1.2.1 (X i).2.2.1.2.2]:=by
    have e1:D.pl i=(X i).2.2.2:=if_pos hi;have J:D.pc i=(X i).2.2.1.2.1:=if_pos hi;have K:D.pd i=(X i).2.2.1.2.2:=if_pos hi;unfold pA;rw[e1,J,K]
   grind
  ·have t:=(P k d).comp j q;rw[Nat.mul_comm 3 k];exact t
end
end Go.Proofs
namespace Go.Proofs
open Go.bJ Go.Conc Go.Ph
set_option maxRecDepth 100000
def alR{np s:Nat}(a:2<=np)(b:np<=5)(hs:s<np):FE np s:=by
 obtain rfl|rfl|rfl|rfl:np=2\/np=3\/np=4\/np=5:=by omega
 ·exact aqR hs
 ·exact aqS hs
 ·exact aqT hs
 ·exact aqU hs
def acn(np s:Nat)(D:jB)(dl:Int):∀r,bS np s D dl r=cmV D.pn np s dl r
 |0=>rfl
 |r+1=>by
  rw[bS,acn np s D dl r,cmV];rfl
def alS(np s:Nat)(D:jB)(dl:Int)(r j:Nat)(a:j<5):(cG np s D r (bS np s D dl r))[j]?=some (bq ct (vsV D.pn np s dl r j)):=by
 rw[acn];obtain rfl|rfl|rfl|rfl|rfl:j=0\/j=1\/j=2\/j=3\/j=4:=by omega
 all_goals rfl
def agE{n np:Nat}{D:jB}{S:Nat->Nat}{dl:Nat->Int}{w w1:World}(h:UQ n np D S dl w w1)(l:n<=3)(m:1<=np)(d:∀k,k<n->S k<np):∃cs:Array Value,w1.heap[w.heap.size+1]?=some (cB cs 131)/\b7 D.pn np S dl n 0 cs:=by
 obtain⟨cs,hb,hcs⟩:=h.tb;have cell:∀o,w1.cell? ⟨w.heap.size+1,o,none⟩=cs[o]?:=λo=>by
  simp only[ce,hb];rfl
 refine⟨cs,hb,hcs,λk r j a b=>?_,λo e f=>?_⟩
 ·obtain⟨a,g⟩:k<n/\r<np:=by rcases a with h|h<;>omega
  have:=(h.rows k a).put r g j b;rw[<-cell,<-alS np (S k) D (dl k) r j b];exact this
 ·rw[<-cell]
  rcases Nat.lt_or_ge o (n*25) with c|c
  ·have a:o / 25<n:=by omega
   by_cases i:o % 25 / 5<np
   ·exfalso;refine f (o / 25) (ac3 np (S (o / 25)) (o % 25 / 5)) (.inl ⟨a,Q2 (by omega)⟩) ?_;unfold aga;rw[afC i (d _ a)];omega
   ·exact(h.rows _ a).rest o ⟨by omega,by omega,by omega⟩ (.inr (by omega))
  ·exact h.rest o c e
def ahd{D:jB}{S:Nat->Nat}{dl:Nat->Int}{w w1:World}(h:UQ 0 1 D S dl w w1)(b:Nat->Nat->Int)(np:Nat)(c:Nat->Nat)(a:Nat->Int):∃cs:Array Value,w1.heap[w.heap.size+1]?=some (cB cs 131)/\b7 b np c a 0 0 cs:=by
 obtain⟨cs,hb,hcs⟩:=h.tb;have cell:∀o,w1.cell? ⟨w.heap.size+1,o,none⟩=cs[o]?:=λo=>by
  simp only[ce,hb];rfl
 exact⟨cs,hb,b7.zero hcs λo d=>by rw[<-cell];exact h.rest o (by omega) d⟩
def MX{ρ:Ren}{l:List Value}(h:∀v∈l,∃n,v=bq ct n):cU FF ρ l l:=by
 induction l with
 |nil=>exact .nil
 |cons v l a=>
  obtain⟨n,e⟩:=h v (by simp);subst e;exact .cons (.int _ _) (a λu b=>h u (by simp[b]))
def ahe{a:Nat->Nat->Int}{np:Nat}{S:Nat->Nat}{dl:Nat->Int}{G R:Nat}{cs:Array Value}(h:b7 a np S dl G R cs):∀v∈cs.toList,∃n,v=bq ct n:=by
 intro v hv;obtain⟨o,b⟩:=List.mem_iff_getElem?.1 hv;have hl:=(List.getElem?_eq_some_iff.1 b).1;obtain⟨n,e⟩:=h.int (o:=o) (by have:=h.size;simpa[this]using hl)
 grind
def MY{P:aB}{n:Nat}{g a:aH}{w w2:World}(h:cy P n g w a w2)(b:g.callers.length≠a.callers.length):∃m,n=m+1:=by
 cases n with
 |zero=>cases h;exact absurd rfl b
 |succ m=>exact⟨m,rfl⟩
def MZ{a:Array Value}(h:undef=bp a):False:=by cases h
def U2(f:aF)(R:Value->World->Prop):BD aa cY.funcs ab FF XX ZZ (lQ PC f R):=by
 intro x u ρ a I c V l W w w' gs X t q j hI C ha hc sB ht hi B E lS;obtain rfl:x=43:=by simpa[XX]using u
 obtain⟨H,r,e0,eN,eE⟩:=ZU a;have Y:ad (⟨aa,cY.funcs⟩:aB) 43 a ch=⟨43,⟨(ae 98).map H++r⟩,[ci sU],[],.run,ch,none⟩:=eE;have hcs:2<=(c::(l++[aX PC])).length:=by simp
 have Z:Wy f R (fH (ad PC 43 a ch) (c::l++[aX PC])) w (fH (ad PC 43 a ch) (c::l++[aX PC])) w:=⟨ht,hi,0,.zero _ _⟩
 have akX:Wy f R (fH (ad PC 43 a ch) (c::l++[aX PC])) w (St H r [ci sU] (c::(l++[aX PC]))) w:=by
  have:St H r [ci sU] (c::(l++[aX PC]))=fH (ad PC 43 a ch) (c::l++[aX PC]):=by
   unfold St;rw[<-Y];rfl
  rw[this];exact Z
 have akZ:∃P:Value,VR FF ρ (H 0) P/\(∀y,P=bp y->I[0]?=some P):=by
  rcases VA.get? ha 0 with⟨g1,g2⟩|⟨v,v',g1,g2,hv⟩
  ·have ea:a=#[]:=by
    grind
   rw[eN ea];exact⟨undef,.undef,λy hy=>(MZ hy).elim⟩
  grind
 obtain⟨P,hv0,zE⟩:=akZ;obtain⟨T,H',Q,hS,⟨K,U,hz,hp⟩,akY⟩:=alF hcs C hv0 akX;obtain⟨cur,w2,p,L,way⟩:=alB hcs Q hS akY;have J:∀{a b},ρ a b->a<w.heap.size/\b<w'.heap.size:=λh=>C.lt h;have Xf:∀l,j l->l.low w'.heap.size/\l.isMemory=true:=λl hl=>by
  refine⟨?_,E.mem l hl⟩
  cases l with
  |cell a=>exact(E.cell a hl).1
  |obj b=>exact(E.obj b hl).1
  |_=>trivial
 have Cu:=Q.lo;obtain⟨n,np,D,S,dl,N,z,w1,M,t1,q1,k1,k2,k3,k4,k5,k6,s,cs,htb,ao6⟩:∃(n np:Nat)(D:jB)(S:Nat->Nat)(dl:Nat->Int)(N:Nat)(z:Array aH)(w1:World)(M:Option (Nat×Nat))(t1:Trace)(q1:Nat->Nat),runNT PP N (crowd gs w' X) t=(.next (crowd z w1 M),t1)/\gs.size<=z.size/\
  z[0]?=some (G (V.finish (bv (some ⟨w'.heap.size+1,0,none⟩))) W)/\Leavers PP t1 z q1/\Past (λl=>j l\/OZ (zL j w'.heap.size n) l) w1.heap.size t1/\(∀op∈t1,z.size<=op.g->op.act.touch? = none)/\UQ n np D S dl w' w1/\
  ∃cs:Array Value,w1.heap[w'.heap.size+1]?=some (cB cs 131)/\b7 T.pn T.np T.S T.dl T.n 0 cs:=by
  rcases b9 T.n with A|A
  ·obtain⟨sa,cg,h5⟩:=hz A;obtain⟨jf,jr,eA⟩:=US (ca:=K) (by rw[<-U];exact zE _ U);have F:gs[0]?=some (G (fE (CA.mk K jf jr)) (V::W)):=by
    have:=B.main;rw[<-eA];exact this
   obtain⟨N,z,w1,M,t1,q1,k1,k2,k3,k4,k5,k6,s⟩:=ac9 (sl:=X) h5 Xf F B.old B.GA B.num;have aqX:∃cs:Array Value,w1.heap[w'.heap.size+1]?=some (cB cs 131)/\b7 T.pn T.np T.S T.dl T.n 0 cs:=by
    rw[A];exact ahd s T.pn T.np T.S T.dl
   grind
  ·obtain⟨D,gn,eD,cf,epn,Ht⟩:=hp A;subst eD;obtain⟨jf,jr,eA⟩:=US (ca:=cA T.np D) (by rw[<-U];exact zE _ U);have hSb:∀b∈dR T.np D,∀I:Addr,I.block=b->¬j (.cell I):=λb hb I e hs=>by
    obtain⟨r,d⟩:=Ht b hb;exact(E.cell I hs).2 r (by rw[e];exact d)
   have F:gs[0]?=some (G (fE (CA.mk (cA T.np D) jf jr)) (V::W)):=by
    have:=B.main;rw[<-eA];exact this
   obtain⟨N,z,w1,M,t1,q1,k1,k2,k3,k4,k5,k6,s⟩:=MU (sl:=X) A cf (λk hk=>alR Cu.1 Cu.2.1 (Q.st k hk)) Xf hSb F B.old B.GA B.num;have aqX:=agE s Cu.2.2 (by omega) Q.st
   grind
 obtain rfl:cs=cur:=ao6.uniq L;have U3:∀b,¬ρ w.heap.size b:=λb h=>absurd (J h).1 (cb _);have JY:∀n,w'.heap.size<=n->∀a,¬ρ a n:=λn A a h=>by have:=(J h).2;omega
 have fW:=s.size;obtain⟨n,A⟩:=way.chain;obtain⟨m,rfl⟩:=MY A (by simp)
 refine⟨N,ρ.ext w.heap.size (w'.heap.size+1),bv (some ⟨w.heap.size,0,none⟩),bv (some ⟨w'.heap.size+1,0,none⟩),w2,w1,z,M,t1,q1,_,k1,⟨k3,k4,k5,k6⟩,⟨λx u=>?_,λb hb=>?_,λx u=>?_⟩,.ptr ⟨Ren.IW _ _ _,rfl,rfl⟩,hI.ext U3 (JY _ (by omega)) C.pK (by have:=C.gN;omega),⟨?_,by have:=C.gN;omega,λ{r r'}d=>?_⟩,
  ⟨Ren.kW _ _ _,λa b h=>?_,λa b h i hh=>⟨?_,by unfold ce;rw[s.kept b (J h).2]⟩⟩,⟨s.tape,s.os,s.output,by omega,λb hb _=>s.kept b hb⟩,⟨m,w.tape,w.drawn,A⟩,way.inv,?_⟩
 ·rcases u with u|⟨y,hy,hb⟩
  ·obtain⟨h1,O⟩:=E.cell x u;refine⟨by omega,λr d=>?_⟩
   rcases d with d|⟨_,e⟩
   ·exact O r d
   ·omega
  ·cases hy;have jH:x.block=w'.heap.size+3\/x.block=w'.heap.size+4:=hb;refine⟨by omega,λr d=>?_⟩
   rcases d with d|⟨_,e⟩
   ·grind
   ·omega
 ·rcases hb with hb|⟨y,hy,_⟩
  ·obtain⟨h1,O⟩:=E.obj b hb;refine⟨by omega,λr d=>?_⟩
   rcases d with d|⟨_,e⟩
   ·exact O r d
   ·omega
  ·cases hy
 ·rcases u with u|⟨y,hy,_⟩
  ·exact E.mem x u
  ·subst hy;rfl
 ·have:=C.pK;rw[p.size];omega
 ·rcases d with d|⟨rfl,rfl⟩
  ·obtain⟨o,o',h1,O,h3⟩:=C.obj d;refine⟨o,o',?_,?_,h3.mono (Ren.kW _ _ _)⟩
   ·rw[p.old _ (J d).1];exact h1
   ·rw[s.kept _ (J d).2];exact O
  ·exact⟨_,_,p.tb,htb,.cells _ _ (MX (ahe L))⟩
 ·rcases h with h|⟨rfl,rfl⟩
  ·exact .inl h
  grind
 ·obtain⟨v,hv,hu⟩:=hh;exact⟨v,(p.cell (J h).1).symm.trans hv,hu⟩
 ·rw[p.size];omega
end Go.Proofs
