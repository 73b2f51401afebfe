/- Part of the proof of FieldRescue. -/
import Derived.Test.YtbdcjnlaemakmaaGreatV03
import Derived.BigQuiet
import Derived.Carry
import Derived.Deep.CutRange
import Derived.Deep.QuietTactic
import Derived.Deep.RegionHeld3
import Derived.Deep.RegionWith
import Derived.Laws.RangeAny
import Derived.Lib.Hide
import Derived.LoopIn
import Derived.LoopNIn
import Derived.Maps.OwnOps
import Derived.Orders
import Derived.OwnWalk
import Derived.OwnWalkIn
import Derived.RangeFuncBound
import Derived.RangeFuncCalls
import Derived.RangeFuncFrom
import Derived.RangeFuncLeaves
import Derived.RangeFuncNested
import Derived.Shelf.Abstract
import Derived.Shelf.RegionOpen
import Derived.Tactics
import Derived.Tactics2
import Derived.TacticsInMore
import Derived.WalkKit
import Derived.WalkLawsBesides
import Derived.WalkSpells
set_option linter.all false
open Go renaming Program->aa,TypeId->ab,underlying->ac,sizeOf->ad,typeInfo->ae,zeroValue->ag,FuncId->ai,callFunc->ao,MapEntry->ap,wpList->aq,wpList_plain->ar,execOp->aw,bodyPost_ret->aB,results->aF,callsIn_wide->aI,callsIn_of_wp_marks->aJ,wp_region_noPanic->aL,wpIn_rangeFunc_ownF->aP,cell_kept->aS,frozen_kept->aT,ownFrom_below->ba,grownBy_putObj'->bb,run_takeDeferred->bc,yielded->bd,execOp_congr->bg
open Go.Sem renaming run->bi
open Go.Proofs.Tryz renaming prog->bj,func10->bm,func13->bo,func48->bp,func11->br,func14->bs,func15->bt,func62->bv,func34->bw,func28->bx,func39->bA,func70->bC,func71->bL,func72->bM,func73->bR,func74->bT,func35->bX,func36->b1,func37->b7,func38->b8,func27->b9,func40->ca,func41->cb,func61->cc,func42->cd,func49->ce,func100->cf,func101->cg,func102->ch,func103->ci,func60->cl,func118->cm,func96->co,func97->cp,ntmps71->ct,ntmps103->cv,ntmps72->cB,ntmps74->cC,ntmps73->cQ,ntmps27->da,results27->db,ntmps13->dd,ntmps60->de,ntmps36->df,ntmps38->di,ntmps37->dj,ntmps11->dk,ntmps10->dl,func63->dp,results14->dq,results15->dt
open Go.RowKit.Below renaming refl->du,heap_alloc->dv,trans->dy
open Nat renaming le_refl->dC,zero_le->dK,not_lt_zero->dL,le_succ_of_le->dO,lt_trans->dQ,lt_of_lt_of_le->dS,add_zero->dT,le_succ->dU,reduceAdd->d8,reduceSub->d9,lt_or_ge->ea
open List renaming range->eb,all_eq_false->ec,all_eq_true->ed,map_cons->eg,range_succ->eh,map_append->ei,mem_range->ej,length_append->ek,append_assoc->el,size_toArray->em,length_cons->en,length_nil->ep,push_toArray->eq,append_toArray->et,nil_append->eu,cons_append->ev,foldl_append->eA,foldl_cons->eD,foldl_nil->eE,mem_cons_of_mem->eF,mem_cons_self->eI,mem_append_left->eM
open Go.Lib renaming hid->eN
open Go.Instr renaming checkKey->eP,findKey->eQ,sameNow->eS,findNow->eT,findAsking->eV,lookup->eW,mapUpdate->eX,index->e6
open Go.MapKept renaming run_getObj_map->e8
open Go.World renaming cell?_of_block->e9,cell?->fb,frozen?->fg,cell?_setCell_other->fi,cell?_setCell_same'->fl,frozen?_setCell->fm,size_alloc->fo
open Go.Result renaming andThen->fp,ok->ft
open Bool renaming and_eq_true->fz
open Go.Value renaming bool->fA,int->fB,agg->fJ,slice->fO,string->fP,map->fR,pointer->fV,tuple->fY,func->f6
open Int renaming mul_nonneg->f7,mul_add->f8,le_total->f9,neg_mul_neg->gb,mul_le_mul->gc,eq_ofNat_of_zero_le->gd
open Array renaming replicate_succ->ge,replicate_zero->gg,getElem?_eq_none->gj,getElem?_eq_getElem->gl,getD_eq_getD_getElem?->gp,all_eq_true'->gr
open Go.Addr renaming block->gt
open Go.KeepsOthers renaming setCell->gw
open Go.Region renaming binds->gy,wanted->gB
open Option renaming map_some->gD,getD_some->gE
open Go.Ending renaming returned->gG
open Go.IntKind renaming i64->gL
open Go.Obj renaming cells->gN
namespace Go
def nO(P:aa)(n:ab)(w:World):bi P (ac n) w=match P.underlying n with|some i=>ft i w|none=>.halt (.stuck "no such type") w:=by
 cases h:P.underlying n<;>simp[ac,h]
section
variable {P Q:aa}
def yf(h:P.toTables=Q.toTables)(n:ab):P.info? n=Q.info? n:=by
 grind
def Cb(h:P.toTables=Q.toTables)(n:ab):P.underlying n=Q.underlying n:=by
 simp only[Program.underlying,yf h]
def yg(h:P.toTables=Q.toTables)(n:ab)(w:World):bi P (ac n) w=bi Q (ac n) w:=by
 rw[nO,nO,Cb h]
def Hw(h:P.toTables=Q.toTables)(n:ab)(w:World):bi P (ad n) w=bi Q (ad n) w:=by
 have e:=yf h n
 cases a:Q.info? n with
 |none=>rw[a]at e;simp[ad,ae,a,e]
 |some i=>rw[a]at e;simp[ad,ae,a,e]
def Na(h:P.toTables=Q.toTables)(n:ab)(w:World):bi P (isAgg n) w=bi Q (isAgg n) w:=by
 have e:=Cb h n
 cases a:Q.underlying n with
 |none=>rw[a]at e;simp[isAgg,ac,a,e]
 |some d=>rw[a]at e;cases d<;>simp[isAgg,ac,a,e]
def QZ(h:P.toTables=Q.toTables)(n:ab)(w:World):bi P (ag n) w=bi Q (ag n) w:=by
 have e:=yf h n
 cases a:Q.info? n with
 |none=>rw[a]at e;simp[ag,ae,a,e]
 |some i=>
  rw[a]at e;cases b:i.zero<;>simp[ag,ae,a,e,b]
end
end Go
namespace Go.Proofs
open Go.RowKit
set_option maxRecDepth 100000
noncomputable def PL:aa:=⟨Tryz.progTables,cY.funcs⟩
def mo:PL.toTables=Tryz.prog.toTables:=rfl
def fx{n:Nat}{f:Func}(h:30≠n)(hf:Tryz.prog.funcs[n]?=some f):PL.funcs[n]?=some f:=by
 show(Tryz.funcs.setIfInBounds 30 nS)[n]?=_;rw[Array.getElem?_setIfInBounds_ne h];exact hf
@[simp] def PL.tables:PL.toTables=Tryz.prog.toTables:=rfl
@[simp] def PL.tY(n:ab):PL.underlying n=Tryz.prog.underlying n:=Cb mo n
@[simp] def PL.abF(n:ab)(w:World):bi PL (ad n) w=bi bj (ad n) w:=Hw mo n w
@[simp] def PL.runUnderlying(n:ab)(w:World):bi PL (ac n) w=bi bj (ac n) w:=yg mo n w
@[simp] def PL.afe(n:ab)(w:World):bi PL (isAgg n) w=bi bj (isAgg n) w:=Na mo n w
@[simp] def PL.U4(n:ab)(w:World):bi PL (ag n) w=bi bj (ag n) w:=QZ mo n w
end Go.Proofs
namespace Go
def JZ{P:aa}{n:ai}{fn:Func}(h:P.funcs[n]?=some fn)(a:(fn.name == "runtime.NumGoroutine")=false)(hb:fn.body.isNone=false)(args:Array Value)(w:World):bi P (ao n args) w=ft (.enter n args) w:=by
 have b:fn.name≠ "runtime.NumGoroutine":=by simpa using a
 have c:fn.body≠none:=λe=>by rw[e]at hb;cases hb
 simp[ao,h,b,c]
end Go
namespace Go.Proofs
set_option maxRecDepth 100000
abbrev ax(n:ai):Prop:=∀(args:Array Value)(w:World),bi PL (ao n args) w=ft (.enter n args) w
def pc{n:ai}{fn:Func}(h:Tryz.prog.funcs[n]?=some fn)(a:30≠n:=by decide)(b:(fn.name == "runtime.NumGoroutine")=false:=by decide +kernel)(hb:fn.body.isNone=false:=by rfl):ax n:=
 JZ (fx a h) b hb
def Cc:PL.funcs[30]?=some nS:=by
 have hl:30<Tryz.funcs.size:=(Array.getElem?_eq_some_iff.1 Tryz.func30).1;show(Tryz.funcs.setIfInBounds 30 nS)[30]?=_
 grind
@[simp] def PL.call98(args:Array Value)(w:World):bi PL (ao 30 args) w=ft (.enter 30 args) w:=JZ Cc (by decide +kernel) rfl args w
@[simp] def PL.call18:ax 10:=pc bm
@[simp] def PL.call19:ax 5:=pc Tryz.func5
@[simp] def PL.call20:ax 13:=pc bo
@[simp] def PL.call22:ax 48:=pc bp
@[simp] def PL.call23:ax 11:=pc br
@[simp] def PL.call24:ax 14:=pc bs
@[simp] def PL.call26:ax 15:=pc bt
@[simp] def PL.call28:ax 6:=pc Tryz.func6
@[simp] def PL.call30:ax 26:=pc Tryz.func26
@[simp] def PL.call31:ax 21:=pc Tryz.func21
@[simp] def PL.call33:ax 4:=pc Tryz.func4
@[simp] def PL.call34:ax 16:=pc Tryz.func16
@[simp] def PL.call36:ax 7:=pc Tryz.func7
@[simp] def PL.call37:ax 18:=pc Tryz.func18
@[simp] def PL.call38:ax 22:=pc Tryz.func22
@[simp] def PL.call39:ax 19:=pc Tryz.func19
@[simp] def PL.call43:ax 8:=pc Tryz.func8
@[simp] def PL.call44:ax 9:=pc Tryz.func9
@[simp] def PL.call45:ax 62:=pc bv
@[simp] def PL.call52:ax 20:=pc Tryz.func20
@[simp] def PL.call56:ax 24:=pc Tryz.func24
@[simp] def PL.call58:ax 23:=pc Tryz.func23
@[simp] def PL.call59:ax 17:=pc Tryz.func17
@[simp] def PL.call65:ax 25:=pc Tryz.func25
@[simp] def PL.call74:ax 34:=pc bw
@[simp] def PL.call77:ax 12:=pc Tryz.func12
@[simp] def PL.call78:ax 28:=pc bx
@[simp] def PL.call79:ax 39:=pc bA
@[simp] def PL.call81:ax 70:=pc bC
@[simp] def PL.call82:ax 71:=pc bL
@[simp] def PL.call83:ax 72:=pc bM
@[simp] def PL.call84:ax 73:=pc bR
@[simp] def PL.call85:ax 74:=pc bT
@[simp] def PL.call86:ax 35:=pc bX
@[simp] def PL.call87:ax 36:=pc b1
@[simp] def PL.call88:ax 37:=pc b7
@[simp] def PL.call89:ax 38:=pc b8
@[simp] def PL.call90:ax 27:=pc b9
@[simp] def PL.call91:ax 40:=pc ca
@[simp] def PL.call92:ax 41:=pc cb
@[simp] def PL.call94:ax 61:=pc cc
@[simp] def PL.call96:ax 42:=pc cd
@[simp] def PL.call97:ax 29:=pc Tryz.func29
@[simp] def PL.call99:ax 31:=pc Tryz.func31
@[simp] def PL.call100:ax 32:=pc Tryz.func32
@[simp] def PL.call101:ax 33:=pc Tryz.func33
@[simp] def PL.call105:ax 53:=pc Tryz.func53
@[simp] def PL.call108:ax 43:=pc Tryz.func43
@[simp] def PL.call109:ax 44:=pc Tryz.func44
@[simp] def PL.call110:ax 45:=pc Tryz.func45
@[simp] def PL.call111:ax 47:=pc Tryz.func47
@[simp] def PL.call112:ax 49:=pc ce
@[simp] def PL.call113:ax 50:=pc Tryz.func50
@[simp] def PL.call114:ax 52:=pc Tryz.func52
@[simp] def PL.call115:ax 51:=pc Tryz.func51
@[simp] def PL.call118:ax 46:=pc Tryz.func46
@[simp] def PL.call127:ax 100:=pc cf
@[simp] def PL.call128:ax 75:=pc Tryz.func75
@[simp] def PL.call131:ax 101:=pc cg
@[simp] def PL.call132:ax 102:=pc ch
@[simp] def PL.call133:ax 103:=pc ci
@[simp] def PL.call134:ax 60:=pc cl
@[simp] def PL.call142:ax 69:=pc Tryz.func69
@[simp] def PL.call143:ax 64:=pc Tryz.func64
@[simp] def PL.call145:ax 66:=pc Tryz.func66
@[simp] def PL.call146:ax 67:=pc Tryz.func67
@[simp] def PL.call151:ax 104:=pc Tryz.func104
@[simp] def PL.call152:ax 105:=pc Tryz.func105
@[simp] def PL.call153:ax 106:=pc Tryz.func106
@[simp] def PL.call154:ax 107:=pc Tryz.func107
@[simp] def PL.call157:ax 118:=pc cm
@[simp] def PL.call158:ax 96:=pc co
@[simp] def PL.call159:ax 97:=pc cp
@[simp] def PL.call180:ax 99:=pc Tryz.func99
@[simp] def PL.call181:ax 98:=pc Tryz.func98
@[simp] def PL.call191:ax 117:=pc Tryz.func117
@[simp] def PL.call199:ax 126:=pc Tryz.func126
open Go.RowKit
set_option maxHeartbeats 400000
def aO(v:Value)(w:World)(e:Ending)(w':World):Prop:=e=gG v/\Below w.heap.size w w'
def bO(n a b:Int):Bool:=decide (a<=n)&&decide (n<=b)
def bG(n a b:Int)(w:World) :
 Calls PL 28 #[fB gL n,fB gL a,fB gL b] w λe w'=>e=gG (fA (bO n a b))/\w'=w:=by
 go_enter (fx (by decide) bx),Tryz.ntmps28
 go_wp2
 all_goals (go_ret;simp[bO];try omega)
def o8(n:Int)(w:World):Calls PL 49 #[fB gL n] w λe w'=>e=gG (fA (bO n 0 12))/\w'=w:=by
 go_enter (fx (by decide) ce),Tryz.ntmps49
 go_wp2_with (go_at_call 28;refine(bG _ _ _ _).mono ?_;rintro e w'⟨rfl,rfl⟩)
 go_ret
 exact⟨rfl,rfl⟩
def eK(a b low c:Int):Bool:=decide (low<=a)&&decide (a<=b)&&decide (b<=c)
def nh(a b low c:Int)(w:World) :
 Calls PL 100 #[fJ #[fB gL a,fB gL b],fB gL low,fB gL c] w (aO (fA (eK a b low c)) w):=by
 go_enter (fx (by decide) cf),Tryz.ntmps100
 go_wp2
 all_goals (go_ret;refine⟨?_,(du _ _).alloc (dC _) _⟩;simp[eK];try omega)
def Ej(a b:Bool):Int:=if b then(if a then 0 else 2) else 1
def U5(a b:Bool)(w:World):Calls PL 42 #[fA a,fA b] w λe w'=>e=gG (fB gL (Ej a b))/\w'=w:=by
 cases a<;>cases b
 all_goals
  go_enter (fx (by decide) cd),Tryz.ntmps42
  go_wp2
  go_ret
  exact⟨rfl,rfl⟩
def fN{n a b:Int}(h:bO n a b=true)(w:World):Calls PL 28 #[fB gL n,fB gL a,fB gL b] w λe w'=>e=gG (fA true)/\w'=w:=by
 have:=bG n a b w;rwa[h]at this
def pZ{n a b:Int}(h:bO n a b=false)(w:World):Calls PL 28 #[fB gL n,fB gL a,fB gL b] w λe w'=>e=gG (fA false)/\w'=w:=by
 have:=bG n a b w;rwa[h]at this
def Ek{a b low c:Int}(h:eK a b low c=true)(w:World):Calls PL 100 #[fJ #[fB gL a,fB gL b],fB gL low,fB gL c] w (aO (fA true) w):=by
 have:=nh a b low c w;rwa[h]at this
def El{a b low c:Int}(h:eK a b low c=false)(w:World):Calls PL 100 #[fJ #[fB gL a,fB gL b],fB gL low,fB gL c] w (aO (fA false) w):=by
 have:=nh a b low c w;rwa[h]at this
def aV{b:Bool}(h:¬b=true):b=false:=by simpa using h
def pq(n:Nat)(x:Nat->Int×Int):Int:=if bO n 1 3 then(if(eb n).all λi=>eK (x i).1 (x i).2 0 90 then 0 else 1) else 2
def Nb(l p:Int)(b:Option Addr)(k o n c:Nat)(x:Nat->Int×Int)(z A v5:Value)(w:World)(E:n<=20)(s:k<w.heap.size)(hs:0<n->b=some ⟨k,o,none⟩)
 (t:∀i,i<n->w.cell? ⟨k,o+i*2,none⟩=some (fB gL (x i).1)) (u:∀i,i<n->w.cell? ⟨k,o+i*2+1,none⟩=some (fB gL (x i).2)) :
 Calls PL 71 #[fJ #[fB gL l,fB gL p,fO b n c,z,A,v5]] w (aO (fB gL (pq n x)) w):=by
 have B:=eN t;have C:=eN u;clear t u;by_cases hb:bO (↑n) 1 3=true
 ·have D:0<n:=by simp[bO]at hb;omega
  obtain rfl:=hs D;have d:=eN hb;clear hb hs
  go_enter (fx (by decide) bL),ct
  go_wp2_with (go_at_call 28;refine(fN d.out _).mono ?_;rintro e w'⟨rfl,rfl⟩)
  go_loopw [15] (λi wr=>∃m:Nat,m<=n/\i=fB gL m/\(∀j,j<m->eK (x j).1 (x j).2 0 90=true)/\Below w.heap.size w wr) (λi _=>n-(intOf i).toNat)
  case atStart=>exact⟨0,dK _,rfl,λj f=>absurd f (dL _),(du _ _).alloc (dC _) _⟩
  case round=>
   obtain⟨m,F,rfl,v,a⟩:=hrel;have y:=eN v;clear v;by_cases q:m<n
   ·have c0:=(a.cell (p:=⟨k,o+m*2,none⟩) s).trans (B.out m q);have c1:=(a.cell (p:=⟨k,o+m*2+1,none⟩) s).trans (C.out m q);by_cases hi:eK (x m).1 (x m).2 0 90=true
    ·have g:=eN hi;clear hi
     go_wp2_with (go_at_call 100;refine(Ek g.out _).mono ?_;rintro e w1⟨rfl,r⟩)
     go_roundw
     case rel=>exact⟨m+1,q,by go_num,λj f=>by
      rcases Nat.lt_succ_iff_lt_or_eq.1 f with h|h
      ·exact y.out j h
      ·rw[h];exact g.out,(a.alloc a.size _).trans (r.mono (by simpa using dO a.size))⟩
     case measure=>simp[intOf];omega
    ·have g:=eN (aV hi);clear hi
     go_wp2_with (go_at_call 100;refine(El g.out _).mono ?_;rintro e w1⟨rfl,r⟩)
     go_ret
     refine⟨?_,?_⟩
     ·have:((eb n).all λi=>eK (x i).1 (x i).2 0 90)=false:=by
       rw[ec];exact⟨m,List.mem_range.2 q,by simp[g.out]⟩
      simp[pq,d.out,this]
     ·exact(a.alloc a.size _).trans (r.mono (by simpa using dO a.size))
   ·go_wp2
    go_ret
    refine⟨?_,a⟩;have:((eb n).all λi=>eK (x i).1 (x i).2 0 90)=true:=by
     rw[ed];intro j f;exact y.out j (by have:=List.mem_range.1 f;omega)
    simp[pq,d.out,this]
 ·have d:=eN (aV hb);clear hb
  go_enter (fx (by decide) bL),ct
  go_wp2_with (go_at_call 28;refine(pZ d.out _).mono ?_;rintro e w'⟨rfl,rfl⟩)
  go_ret
  exact⟨by simp[pq,d.out],(du _ _).alloc (dC _) _⟩
end Go.Proofs
namespace Go
open Instr Go.RowKit
section
variable {P:aa}{w:World}
structure KeyLaw(P:aa)(tk:ab){α:Type}(enc:α->Value):Prop where
 check:∀b x w,(eP b 10000 tk (enc x)).run P w=ft () w
 find:∀(es:List ap)(ks:List α)(x:α)(w:World),es.map (·.key)=ks.map enc->∃r,(eQ tk (enc x) es).run P w=ft r w/\(x∈ks->∃i,∃e∈es,r=some (i,e.val))/\(x∉ks->r=none)
def vq{c:Type}{enc:c->Value}{d:TypeDesc}(h:∀x y,eS d (enc x) (enc y)=some true/\x=y\/eS d (enc x) (enc y)=some false/\x≠y)(x:c) :
 ∀(es:List ap)(a:List c)(i:Nat),es.map (·.key)=a.map enc->∃r,eT d (enc x) es i=some r/\(x∈a->∃j,∃e∈es,r=some (j,e.val))/\(x∉a->r=none):=by
 intro es
 induction es with
 |nil=>
  intro a i b
  cases a with
  |nil=>exact⟨none,rfl,λh=>absurd h (by simp),λ_=>rfl⟩
  |cons _ _=>simp at b
 |cons e es l=>
  intro a i b
  cases a with
  |nil=>simp at b
  |cons y a=>
   simp only[eg,List.cons.injEq]at b
   rcases h x y with⟨f,rfl⟩|⟨f,o⟩
   ·exact⟨some (i,e.val),by simp[eT,b.1,f],λ_=>⟨i,e,by simp,rfl⟩,λg=>absurd (by simp) g⟩
   ·obtain⟨r,m,p,n⟩:=l a (i+1) b.2;refine⟨r,by simp[eT,b.1,f,m],λk=>?_,λg=>n λk=>g (by simp[k])⟩
    grind
def yj{c:Type}{enc:c->Value}{tk:ab}[DecidableEq c](h:∀x y(w:World),(Op.equal tk (enc x) (enc y)).run P w=ft (decide (x=y)) w)(x:c) :
 ∀(es:List ap)(a:List c)(i:Nat)(w:World),es.map (·.key)=a.map enc->∃r,(eV tk (enc x) es i).run P w=ft r w/\(x∈a->∃j,∃e∈es,r=some (j,e.val))/\(x∉a->r=none):=by
 intro es
 induction es with
 |nil=>
  intro a i w b
  cases a with
  |nil=>exact⟨none,rfl,λh=>absurd h (by simp),λ_=>rfl⟩
  |cons _ _=>simp at b
 |cons e es k=>
  intro a i w b
  cases a with
  |nil=>simp at b
  |cons y a=>
   simp only[eg,List.cons.injEq]at b;by_cases f:x=y
   ·subst f;exact⟨some (i,e.val),by simp[eV,b.1,h],λ_=>⟨i,e,by simp,rfl⟩,λd=>absurd (by simp) d⟩
   ·obtain⟨r,l,n,m⟩:=k a (i+1) w b.2;refine⟨r,by simp[eV,b.1,h,f,l],λg=>?_,λd=>m λg=>d (by simp[g])⟩
    grind
def Hx{tk:ab}{k:IntKind}(a:P.underlying tk=some (.int k)):KeyLaw P tk (λn:Int=>fB k n) where
 check b x w:=by
  show(eP b (9999+1) tk _).run P w=_;generalize 9999=n;simp[eP,ac,a]
 find es c x w e:=by
  obtain⟨r,f,g,i⟩:=vq (enc:=λn:Int=>fB k n) (d:=.int k) (λx y=>by
   by_cases h:x=y
   ·exact .inl ⟨by simp[eS,h],h⟩
   ·exact .inr ⟨by simp[eS,h],h⟩) x es c 0 e
  exact⟨r,by simp[eQ,ac,a,f],g,i⟩
def bytes_beq(x y:ByteArray):(x==y)=decide (x=y):=by
 obtain⟨a⟩:=x;obtain⟨b⟩:=y;show(a==b)=_
 grind
instance:LawfulBEq ByteArray where
 rfl:=by intro a;rw[bytes_beq];simp
 eq_of_beq:=by intro a b h;rw[bytes_beq]at h;simpa using h
def zP{tk:ab}(a:P.underlying tk=some .string):KeyLaw P tk (λs:ByteArray=>fP s) where
 check b x w:=by
  show(eP b (9999+1) tk _).run P w=_;generalize 9999=n;simp[eP,ac,a]
 find es c x w e:=by
  obtain⟨r,f,g,i⟩:=vq (enc:=λn:ByteArray=>fP n) (d:=.string) (λx y=>by
   by_cases h:x=y
   ·exact .inl ⟨by simp[eS,bytes_beq,h],h⟩
   ·exact .inr ⟨by simp[eS,bytes_beq,h],h⟩) x es c 0 e
  exact⟨r,by simp[eQ,ac,a,f],g,i⟩
def aU(w:World){a:Type}(enc:a->Value)(b:Nat)(l:List a):Prop:=∃es clock,w.heap[b]?=some (.map es clock)/\es.toList.map (·.key)=l.map enc/\∀e∈es.toList,e.val=fA true
def aU.of_heap{a:Type}{enc:a->Value}{b:Nat}{l:List a}{w w':World}(h:aU w enc b l)(e:w'.heap[b]?=w.heap[b]?):aU w' enc b l:=by
 obtain⟨es,c,d,f⟩:=h;exact⟨es,c,e.trans d,f⟩
def aU.lookup{a:Type}{enc:a->Value}{b:Nat}{l:List a}{t tk g:ab}[DecidableEq a](h:aU w enc b l)(K:KeyLaw P tk enc)(j:P.underlying t=some (.map tk g))(m:(ag g).run P w=ft (fA false) w)(x:a) :
 (eW t (fR (some b)) (enc x) false).run P w=ft (fA (decide (x∈l))) w:=by
 obtain⟨es,c,k,n,o⟩:=h;obtain⟨r,f,p,q⟩:=K.find es.toList l x w n;by_cases d:x∈l
 ·obtain⟨i,e,s,rfl⟩:=p d;simp[eW,ac,j,e8 k,K.check,f,d,o e s]
 ·rw[q d]at f;simp[eW,ac,j,e8 k,K.check,f,d,m]
structure gv(w w':World)(b:Nat):Prop where
 os:w'.os=w.os
 tape:w'.tape=w.tape
 output:w'.output=w.output
 size:w'.heap.size=w.heap.size
 block:∀c,c≠b->w'.heap[c]?=w.heap[c]?
def gv.below{w w':World}{b B:Nat}(h:gv w w' b)(a:B<=b):Below B w w':=⟨h.os,h.tape,h.output,by rw[h.size];exact dC _,λk c=>h.block k (by omega)⟩
def gv.cell{w w':World}{b:Nat}(h:gv w w' b){a:Addr}(c:a.block≠b):w'.cell? a=w.cell? a:=e9 (w:=w) (h.block a.block c)
def aU.put{a:Type}{enc:a->Value}{b:Nat}{l:List a}{t tk i:ab}(h:aU w enc b l)(K:KeyLaw P tk enc)(j:P.underlying t=some (.map tk i)){x:a}(m:x∉l) :
 ∃w',(eX t (fR (some b)) (enc x) (fA true)).run P w=ft () w'/\aU w' enc b (l++[x])/\gv w w' b:=by
 obtain⟨es,c,d,f,o⟩:=h;obtain⟨r,g,p,n⟩:=K.find es.toList l x w f;rw[n m]at g;have hb:b<w.heap.size:=(Array.getElem?_eq_some_iff.1 d).1;refine⟨{ w with heap:=w.heap.setIfInBounds b (.map (es.push { key:=enc x,val:=fA true,born:=c }) (c+1)) },?_,⟨es.push { key:=enc x,val:=fA true,born:=c },c+1,by simp[hb],by simp[f],λe q=>?_⟩,rfl,rfl,rfl,by simp,λk s=>?_⟩
 ·simp[eX,ac,j,e8 d,K.check,g,MapKept.run_setObj_map _ d]
 ·grind
 grind
def aU.made{a:Type}{enc:a->Value}(w:World):aU (w.alloc (.map #[] 0)) enc w.heap.size ([]:List a):=⟨#[],0,by show(w.heap.push _)[w.heap.size]?=_;simp,rfl,λe b=>by simp at b⟩
def aR{P:aa}(w:World){ops:Array Oper}{rest:List Oper}{o:Oper}{a:Act}{Q:Exit->Act->World->Prop}{c:Type}[DecidableEq c]{enc:c->Value}
 (hg:o.guard=none) (m x:Operand) (t tk d:ab) (g:o.op=Op.lookup t m x false) (K:KeyLaw P tk enc) (i:P.underlying t=some (.map tk d)) (j:(ag d).run P w=ft (fA false) w)
 (b:Nat) (l:List c) (k:a.eval m=fR (some b)) (h:aU w enc b l) (y:c) (n:a.eval x=enc y) (v:Bool) (hv:v=true↔y∈l) (p:aq P ops Q rest (a.put o.dst (fA v)) w):aq P ops Q (o::rest) a w:=by
 refine ar hg λq hK'=>?_;have f:=h.lookup K i j y;have e:decide (y∈l)=v:=by
  grind
 rw[e]at f;unfold Oper.wp;simp[aw,g,k,n,f,fp];exact hK' _ _ p
def dH{P:aa}(w:World){ops:Array Oper}{rest:List Oper}{o:Oper}{a:Act}{Q:Exit->Act->World->Prop}{c:Type}{enc:c->Value}
 (hg:o.guard=none) (m x v:Operand) (t tk d:ab) (e:o.op=Op.mapUpdate t m x v) (K:KeyLaw P tk enc) (f:P.underlying t=some (.map tk d))
 (b:Nat) (l:List c) (g:a.eval m=fR (some b)) (h:aU w enc b l) (y:c) (i:a.eval x=enc y) (hv:a.eval v=fA true) (j:y∉l)
 (k:∀w',aU w' enc b (l++[y])->gv w w' b->aq P ops Q rest (a.put o.dst undef) w'):aq P ops Q (o::rest) a w:=by
 refine ar hg λr hK'=>?_;obtain⟨w',n,p,q⟩:=h.put K f j;unfold Oper.wp;simp[aw,e,g,i,hv,n,fp];exact hK' _ _ (k w' p q)
end
end Go
namespace Go.Proofs
open Go.Instr
set_option maxRecDepth 100000
def aaj:PL.underlying 3=some (.int gL):=by simp_all
def al1:PL.underlying 9=some .string:=by simp_all
def qz:KeyLaw PL 3 (λn:Int=>fB gL n):=Hx aaj
def aak:KeyLaw PL 9 (λs:ByteArray=>fP s):=zP al1
def jc(p:Int×Int):Value:=fJ #[fB gL p.1,fB gL p.2]
def mq(w:World):(ag 4).run PL w=ft (fA false) w:=by simp_all
def ju:PL.underlying 85=some (.map 3 4):=by simp_all
def Hy:PL.underlying 163=some (.map 9 4):=by simp_all
def Hz:PL.underlying 158=some (.map 160 4):=by simp_all
def Q0:PL.stoodInHeld 160=false:=by kernel_rfl
def Nc:(PL.fieldsOf 160).toList=[{ name:= "low",type:=3,offset:=0,embedded:=false,tag:= "",pkgPath:= "nock/field",byteOffset:=0 },{ name:= "high",type:=3,offset:=1,embedded:=false,tag:= "",pkgPath:= "nock/field",byteOffset:=8 }]:=by kernel_rfl
def Q1:PL.underlying 160=some (.struct (PL.fieldsOf 160)):=by kernel_rfl
def afg(x y:Int×Int)(w:World):(Op.equal 160 (jc x) (jc y)).run PL w=ft (decide (x=y)) w:=by
 obtain⟨a,b⟩:=x;obtain⟨c,d⟩:=y;have e:=run_equalIn_struct (P:=PL) w 9999 160 #[fB gL a,fB gL b] #[fB gL c,fB gL d] Q1 Q0;show(Op.equalIn (9999+1) 160 _ _).run PL w=_;rw[show jc (a,b)=fJ #[fB gL a,fB gL b] from rfl,show jc (c,d)=fJ #[fB gL c,fB gL d] from rfl,e,Nc];have f:∀(m n:Int)(w:World),(Op.equalIn 9999 3 (fB gL m) (fB gL n)).run PL w=ft (m==n) w:=λm n w=>run_equalIn_int w 9998 3 gL gL m n aaj;generalize 9999=N at f;by_cases g:a=c<;>by_cases h:b=d<;>simp[Op.eqFields,part,f,g,h]
def Q4(b:Bool)(x:Int×Int)(w:World):(eP b 10000 160 (jc x)).run PL w=ft () w:=by
 obtain⟨a,c⟩:=x;show(eP b (9999+1) 160 (fJ #[fB gL a,fB gL c])).run PL w=_;have d:∀(m:Int)(w:World),(eP b 9999 3 (fB gL m)).run PL w=ft () w:=λm w=>by
  show(eP b (9998+1) 3 _).run PL w=_;generalize 9998=n;simp[eP]
 generalize 9999=n at d;simp[eP,part,d]
def HH:KeyLaw PL 160 jc where
 check:=Q4
 find es a x w b:=by
  cases es with
  |nil=>
   cases a with
   |nil=>exact⟨none,by simp[eQ,eT],λh=>absurd h (by simp),λ_=>rfl⟩
   |cons _ _=>simp at b
  |cons e es=>
   cases a with
   |nil=>simp at b
   |cons y a=>
    obtain⟨r,f,c,d⟩:=yj (P:=PL) (tk:=160) (enc:=jc) afg x (e::es) (y::a) 0 w b;have g:eT (TypeDesc.struct (PL.fieldsOf 160)) (jc x) (e::es) 0=none:=by
     simp[eT,eS]
    have i:(ac 160).run PL w=ft (.struct (PL.fieldsOf 160)) w:=run_underlying Q1 w;refine⟨r,?_,c,d⟩;unfold eQ
    simp_all
end Go.Proofs
namespace Go.Proofs
open Go.RowKit
set_option maxRecDepth 100000
set_option maxHeartbeats 400000
def jd(l p:Int):Int:=if bO l 1 999&&bO p 1 6 then 0 else 1
def Em(l p:Int)(a b c v5:Value)(w:World) :
 Calls PL 70 #[fJ #[fB gL l,fB gL p,a,b,c,v5]] w (aO (fB gL (jd l p)) w):=by
 go_enter (fx (by decide) bC),Tryz.ntmps70
 go_wp2_with (go_at_call 28;refine(bG _ _ _ _).mono ?_;rintro e w'⟨rfl,rfl⟩)
 all_goals
  go_ret
  refine⟨?_,(du _ _).alloc (dC _) _⟩
  simp_all [jd]
def kQ(l p n:Int)(a b c v5:Value)(w:World)(d:1<=p)(f:p<=6) :
 Calls PL 101 #[fJ #[fB gL l,fB gL p,a,b,c,v5],fB gL n] w (aO (fA (bO n 0 (p-1))) w):=by
 go_enter (fx (by decide) cg),Tryz.ntmps101
 go_wp2_with (go_at_call 28;refine(bG _ _ _ _).mono ?_;rintro e w'⟨rfl,rfl⟩)
 go_ret
 exact⟨rfl,(du _ _).alloc (dC _) _⟩
def eB(a b:Int):Int×Int:=(min a b,max a b)
def yl(a b c:Int)(w:World):Calls PL 102 #[fJ #[fB gL a,fB gL b,fB gL c]] w (aO (jc (eB a b)) w):=by
 go_enter (fx (by decide) ch),Tryz.ntmps102
 go_wp2
 all_goals
  refine aB (v:=jc (eB a b)) ?_ rfl ⟨rfl,((du _ _).alloc (dC _) _).alloc (by simp) _⟩;have e:eB a b=(min a b,max a b):=rfl;simp[aF,Tryz.results102,go_sem,jc,e];omega
def jv(s:ByteArray)(k:Nat):Nat:=if h:k<s.size then(s[k]'h).toNat else 0
def wA(c:Int)(k:Nat):Bool:=bO c 97 122||(!decide (k=0)&&bO c 48 57)
def ku(s:ByteArray):Bool:=((eb s.size).all λi=>wA (jv s i) i)&&bO s.size 1 12
def U7(w:World)(s:ByteArray)(k:Nat)(h:k<s.size):∃c k':Nat,c<=2147483647/\k<k'/\wA c k=wA (jv s k) k/\(wA c k=true->k'=k+1)/\
 ∀ty,(Instr.next (fV (some ⟨w.heap.size,0,none⟩)) true ty).run PL (w.iter s k)=ft (fY #[fA true,fB gL k,fB .i32 c]) (w.iter s k'):=by
 have a:jv s k=(s[k]'h).toNat:=by simp[jv,h]
 by_cases d:(s[k]'h).toNat<128
 ·exact⟨_,k+1,by omega,by omega,by rw[a],λ_=>rfl,λty=>run_next_ascii w s k ty h d⟩
 ·have hd:=decode_high s k h (by omega);have g:∀n:Nat,128<=n->wA n k=false:=λn i=>by
   simp only[wA,bO];have e:¬((n:Int)<=122):=by omega
   have f:¬((n:Int)<=57):=by omega
   simp[e,f]
  refine⟨(Utf8.decode s k).1,k+(Utf8.decode s k).2,decode_le s k,by omega,?_,λb=>?_,λty=>run_next_any w s k ty h⟩
  ·rw[g _ hd.1,a,g _ (by omega)]
  ·rw[g _ hd.1]at b;cases b
def qd{s:ByteArray}{k:Nat}(a:k<s.size)(h:wA (jv s k) k=false):ku s=false:=by
 have:((eb s.size).all λi=>wA (jv s i) i)=false:=by
  rw[ec];exact⟨k,List.mem_range.2 a,by rw[h];simp⟩
 simp[ku,this]
def ym(s:ByteArray)(w:World)(hs:s.size<=100):Calls PL 118 #[fP s] w (aO (fA (ku s)) w):=by
 go_enter (fx (by decide) cm),Tryz.ntmps118
 go_wp2
 go_loopw [2] (λv wr=>∃k:Nat,k<=s.size/\v=fA false/\wr=w.iter s k/\∀j,j<k->wA (jv s j) j=true) (λ_ wr=>s.size-wr.iterPos w.heap.size)
 case atStart=>exact⟨0,dK _,rfl,rfl,λj a=>absurd a (dL _)⟩
 case round=>
  obtain⟨k,r,rfl,rfl,o⟩:=hrel;have l:=eN o;clear o;by_cases b:k<s.size
  ·obtain⟨c,k',hc,t,p,d,m⟩:=U7 w s k b;have f:=eN p;have q:=eN d;clear p d
   go_wp2_with (go_at_call 28;refine(bG _ _ _ _).mono ?_;rintro e w'⟨rfl,rfl⟩)
   ·have hb:bO (↑c) 97 122=true:=by assumption
    have hg:wA (↑c) k=true:=by simp[wA,hb]
    have zz:=q.out hg;clear m;subst zz
    exact⟨⟨k+1,b,rfl,rfl,λj a=>by
     rcases Nat.lt_succ_iff_lt_or_eq.1 a with h|h
     ·exact l.out j h
     ·rw[h,<-f.out];exact hg⟩,by simp;omega⟩
   ·have hb:¬bO (↑c) 97 122=true:=by assumption
    have g:k=0:=by assumption
    have hg:wA (↑c) k=false:=by simp[wA,hb,g]
    go_ret
    refine⟨?_,(du _ _).alloc (dC _) _⟩;rw[qd b (by rw[<-f.out];exact hg)];rfl
   ·have hb:¬bO (↑c) 97 122=true:=by assumption
    have g:¬k=0:=by assumption
    have n:((k:Int)==0)=true\/(!bO (↑c) 48 57)=true:=by assumption
    have hg:wA (↑c) k=false:=by
     rcases n with h|h
     ·simp at h;omega
     ·simp at h;simp[wA,hb,h]
    go_ret
    refine⟨?_,(du _ _).alloc (dC _) _⟩;rw[qd b (by rw[<-f.out];exact hg)];rfl
   ·have g:¬k=0:=by assumption
    have hand:((k:Int)==0)=false/\(!bO (↑c) 48 57)=false:=by assumption
    have hg:wA (↑c) k=true:=by
     have:=hand.2;simp at this;simp[wA,this,g]
    have zz:=q.out hg;clear m;subst zz
    exact⟨⟨k+1,b,rfl,rfl,λj a=>by
     rcases Nat.lt_succ_iff_lt_or_eq.1 a with h|h
     ·exact l.out j h
     ·rw[h,<-f.out];exact hg⟩,by simp;omega⟩
  ·have m:=λty=>run_next_end (P:=PL) w s k ty b;obtain rfl:k=s.size:=by omega
   go_wp2_with (go_at_call 28;refine(bG _ _ _ _).mono ?_;rintro e w'⟨rfl,rfl⟩)
   go_ret
   refine⟨?_,(du _ _).alloc (dC _) _⟩;have:((eb s.size).all λi=>wA (jv s i) i)=true:=by
    rw[ed];intro j a;exact l.out j (List.mem_range.1 a)
   simp[ku,this]
abbrev yo:ByteArray->Value:=λs=>fP s
abbrev agP:Int->Value:=λn=>fB gL n
structure nP(b:Nat)(w w':World):Prop where
 os:w'.os=w.os
 tape:w'.tape=w.tape
 output:w'.output=w.output
 size:w.heap.size<=w'.heap.size
 block:∀c,c<w.heap.size->c≠b->w'.heap[c]?=w.heap[c]?
def nP.below{b B:Nat}{w w':World}(h:nP b w w')(a:B<=b)(hs:B<=w.heap.size):Below B w w':=⟨h.os,h.tape,h.output,h.size,λk c=>h.block k (by omega) (by omega)⟩
def nP.En{b:Nat}{w w':World}(h:Below w.heap.size w w'):nP b w w':=⟨h.os,h.tape,h.output,h.size,λc hc _=>h.block c hc⟩
def nP.then{b:Nat}{w w1 w2:World}(h:Below w.heap.size w w1)(k:gv w1 w2 b):nP b w w2:=⟨k.os.trans h.os,k.tape.trans h.tape,k.output.trans h.output,by rw[k.size];exact h.size,λc hc hb=>(k.block c hb).trans (h.block c hc)⟩
def nP.cell{b:Nat}{w w':World}(h:nP b w w'){a:Addr}(c:a.block<w.heap.size)(hb:a.block≠b):w'.cell? a=w.cell? a:=e9 (w:=w) (h.block a.block c hb)
def nP.Xm{b c:Nat}{w w':World}(h:nP b w w'){a:Type}{enc:a->Value}{l:List a}(k:aU w enc c l)(hc:c≠b):aU w' enc c l:=by
 obtain⟨es,q,d,e⟩:=k;exact⟨es,q,(h.block c (Array.getElem?_eq_some_iff.1 d).1 hc).trans d,e⟩
def aG{c:Nat}{w w':World}(h:Below w.heap.size w w'){a:Type}{enc:a->Value}{l:List a}(k:aU w enc c l):aU w' enc c l:=by
 obtain⟨es,q,b,d⟩:=k;exact⟨es,q,(h.block c (Array.getElem?_eq_some_iff.1 b).1).trans b,d⟩
def aU.lt{c:Nat}{w:World}{a:Type}{enc:a->Value}{l:List a}(k:aU w enc c l):c<w.heap.size:=by
 obtain⟨es,q,b,d⟩:=k;exact(Array.getElem?_eq_some_iff.1 b).1
def iH(s:ByteArray)(l:List ByteArray):Int:=if ku s then(if s∈l then 5 else 0) else 4
def U8(b:Nat)(s:ByteArray)(l:List ByteArray)(w:World)(e:Ending)(w':World):Prop:=
 e=gG (fB gL (iH s l))/\nP b w w'/\aU w' yo b (if iH s l=0 then l++[s] else l)
def Eo{s:ByteArray}(h:ku s=true)(w:World)(hs:s.size<=100):Calls PL 118 #[fP s] w (aO (fA true) w):=by
 have:=ym s w hs;rwa[h]at this
def Q5{s:ByteArray}(h:ku s=false)(w:World)(hs:s.size<=100):Calls PL 118 #[fP s] w (aO (fA false) w):=by
 have:=ym s w hs;rwa[h]at this
def wB(b:Nat)(s:ByteArray)(l:List ByteArray)(w:World)(h:aU w yo b l)(hs:s.size<=100):Calls PL 103 #[fR (some b),fP s] w (U8 b s l w):=by
 by_cases f:ku s=true
 ·have c:=eN f;clear f;by_cases g:s∈l
  ·have d:=eN g;clear g
   go_enter (fx (by decide) ci),cv
   go_wp2_with (first|(go_at_call 118;refine(Eo c.out _ hs).mono ?_;rintro e w1⟨rfl,a⟩)|(at_lookup;refine aR (enc:=yo) _ rfl _ _ 163 9 4 rfl aak Hy (mq _) b l rfl (aG a h) s rfl true (by simpa using d.out) ?_))
   go_ret
   have e:iH s l=5:=by simp[iH,c.out,d.out]
   exact⟨by rw[e];rfl,.En a,by rw[e];exact aG a h⟩
  ·have d:=eN g;clear g
   go_enter (fx (by decide) ci),cv
   go_wp2_with (first|(go_at_call 118;refine(Eo c.out _ hs).mono ?_;rintro e w1⟨rfl,a⟩)|(at_lookup;refine aR (enc:=yo) _ rfl _ _ 163 9 4 rfl aak Hy (mq _) b l rfl (aG a h) s rfl false (by simpa using d.out) ?_)|(at_mapUpdate;refine dH (enc:=yo) _ rfl _ _ _ 163 9 4 rfl aak Hy b l rfl (aG a h) s rfl rfl d.out ?_;intro w2 i j))
   go_ret
   have e:iH s l=0:=by simp[iH,c.out,d.out]
   exact⟨by rw[e];rfl,.then a j,by rw[e];exact i⟩
 ·have c:=eN (aV f);clear f
  go_enter (fx (by decide) ci),cv
  go_wp2_with (go_at_call 118;refine(Q5 c.out _ hs).mono ?_;rintro e w1⟨rfl,a⟩)
  go_ret
  have e:iH s l=4:=by simp[iH,c.out]
  exact⟨by rw[e];rfl,.En a,by rw[e];exact aG a h⟩
set_option maxHeartbeats 1000000
def cW{W w1:World}(hb:Below W.heap.size W w1):(∀b o,b<W.heap.size->w1.cell? ⟨b,o,none⟩=W.cell? ⟨b,o,none⟩)/\(∀b o,b<W.heap.size->w1.frozen? ⟨b,o,none⟩=W.frozen? ⟨b,o,none⟩):=
 ⟨λb o h=>hb.cell (p:=⟨b,o,none⟩) h,λb o h=>hb.frozen (p:=⟨b,o,none⟩) h⟩
theorem au(w:World)(o:Obj):(w.alloc o).heap[w.heap.size]?=some o:=by
 show(w.heap.push _)[w.heap.size]?=_;simp
def bf{w:World}{k:Nat}{x0 x1 x2 x3 x4 a:Value}{t:ab}(h:w.heap[k]?=some (gN #[x0,x1,x2,x3,x4,a] t)) :
 w.cell? ⟨k,0,none⟩=some x0/\w.cell? ⟨k,1,none⟩=some x1/\w.cell? ⟨k,2,none⟩=some x2/\w.cell? ⟨k,3,none⟩=some x3/\w.cell? ⟨k,4,none⟩=some x4/\w.cell? ⟨k,5,none⟩=some a:=by
 simp[fb,h]
def ia:Nat->(Nat->Int)->Int
 |0,_=>0
 |n+1,f=>if ia n f=0 then f n else ia n f
def cz{n:Nat}{f:Nat->Int}(h:∀j,j<n->f j=0):ia n f=0:=by
 induction n with
 |zero=>rfl
 |succ n a=>simp only[ia];rw[a λj b=>h j (by omega),if_pos rfl,h n (by omega)]
def eG{n m:Nat}{f:Nat->Int}(h:∀j,j<m->f j=0)(b:m<n)(hf:f m≠0):ia n f=f m:=by
 induction n with
 |zero=>omega
 |succ n a=>
  simp only[ia];by_cases e:m=n
  ·subst e;rw[cz h,if_pos rfl]
  ·rw[a (by omega),if_neg hf]
def fQ(p:Int)(x:Nat->Int×Int×Int)(i:Nat):Int:=
 if bO (x i).1 0 (p-1)&&bO (x i).2.1 0 (p-1) then
  (if(x i).1=(x i).2.1 then 8 else if bO (x i).2.2 1 999 then(if eB (x i).1 (x i).2.1∈(eb i).map (λj=>eB (x j).1 (x j).2.1) then 5 else 0) else 1)
 else 6
def kz(p:Int)(n:Nat)(x:Nat->Int×Int×Int):Int:=if 9<n then 2 else ia n (fQ p x)
def Below.on{w W w1:World}(h:Below w.heap.size w W)(k:Below W.heap.size W w1):Below w.heap.size w w1:=h.trans (k.mono h.size)
def dh{p:Int}{n m:Nat}{x:Nat->Int×Int×Int}{v:Int}(hb:¬9<n)(a:∀j,j<m->fQ p x j=0)(b:m<n)(hf:fQ p x m=v)(hv:v≠0):kz p n x=v:=by
 rw[kz,if_neg hb,eG a b (by rw[hf];exact hv),hf]
def aC{k:IntKind}{a b:Int}(h:b=a):Ending.returned (fB k a)=gG (fB k b):=by rw[h]
def Nf(l p:Int)(b:Option Addr)(k o n c:Nat)(x:Nat->Int×Int×Int)(A B v5:Value)(w:World)(Z:n<=20)(H:1<=p)(I:p<=6)(C:k<w.heap.size)(hs:0<n->b=some ⟨k,o,none⟩)
 (J:∀i,i<n->w.cell? ⟨k,o+i*3,none⟩=some (fB gL (x i).1)) (K:∀i,i<n->w.cell? ⟨k,o+i*3+1,none⟩=some (fB gL (x i).2.1)) (L:∀i,i<n->w.cell? ⟨k,o+i*3+2,none⟩=some (fB gL (x i).2.2)) :
 Calls PL 72 #[fJ #[fB gL l,fB gL p,A,fO b n c,B,v5]] w (aO (fB gL (kz p n x)) w):=by
 have R:=eN J;have S:=eN K;have T:=eN L;have U:=eN hs;clear J K L hs;by_cases hb:9<n
 ·go_enter (fx (by decide) bM),cB
  go_wp2
  go_ret
  exact⟨by simp[kz,hb],(du _ _).alloc (dC _) _⟩
 ·have V:=@run_makeMap PL
  go_enter (fx (by decide) bM),cB
  go_wp2
  go_loopw [16] (λi wr=>∃m:Nat,m<=n/\i=fB gL m/\(∀j,j<m->fQ p x j=0)/\aU wr jc (w.heap.size+1) ((eb m).map (λj=>eB (x j).1 (x j).2.1))/\wr.heap[w.heap.size]?=some (gN #[fB gL l,fB gL p,A,fO b n c,B,v5] 78)/\Below w.heap.size w wr) (λi _=>n-(intOf i).toNat)
  case atStart=>
   refine⟨0,dK _,rfl,λj D=>absurd D (dL _),?_,?_,?_⟩
   ·have:=aU.made (enc:=jc) (w.alloc (gN #[fB gL l,fB gL p,A,fO b n c,B,v5] 78));simpa using this
   ·rw[dv _ _ _ (by simp),au]
   ·exact((du _ _).alloc (dC _) _).alloc (by simp) _
  case round=>
   obtain⟨m,hm,rfl,M,N,O,u⟩:=hrel;have r:=eN M;have P:=eN O;clear M O;by_cases d:m<n
   ·obtain rfl:=U.out (by omega);have c0:=(u.cell (p:=⟨k,o+m*3,none⟩) C).trans (R.out m d);have c1:=(u.cell (p:=⟨k,o+m*3+1,none⟩) C).trans (S.out m d);have c2:=(u.cell (p:=⟨k,o+m*3+2,none⟩) C).trans (T.out m d);have W:=aU.lt N;have y:w.heap.size<wr.heap.size:=by omega
    obtain⟨d0,d1,d2,d3,d4,d5⟩:=bf P.out;have g:aU (wr.alloc (gN #[fB gL (x m).1,fB gL (x m).2.1,fB gL (x m).2.2] 45)) jc (w.heap.size+1) ((eb m).map (λj=>eB (x j).1 (x j).2.1)):=aU.of_heap N (dv _ _ _ W);have q:Below w.heap.size w (wr.alloc (gN #[fB gL (x m).1,fB gL (x m).2.1,fB gL (x m).2.2] 45)):=u.alloc u.size _;have f:wr.heap.size<(wr.alloc (gN #[fB gL (x m).1,fB gL (x m).2.1,fB gL (x m).2.2] 45)).heap.size:=by simp
    have s:=eN ((dv wr (gN #[fB gL (x m).1,fB gL (x m).2.1,fB gL (x m).2.2] 45) _ y).trans P.out);by_cases z:eB (x m).1 (x m).2.1∈(eb m).map (λj=>eB (x j).1 (x j).2.1)
    ·have t:=eN z;clear z
     go_wp2_with (first|(go_at_call 101;refine(kQ _ _ _ _ _ _ _ _ H I).mono ?_;rintro e w1⟨rfl,a⟩;obtain⟨E,F⟩:=cW a;have g:=aG a g;have q:=Below.on q a;have s:=eN ((a.block _ (dQ y f)).trans s.out);have f:=dS f a.size)|(go_at_call 28;refine(bG _ _ _ _).mono ?_;rintro e w'⟨rfl,rfl⟩)|(go_at_call 102;refine(yl _ _ _ _).mono ?_;rintro e w1⟨rfl,a⟩;obtain⟨E,F⟩:=cW a;have g:=aG a g;have q:=Below.on q a;have s:=eN ((a.block _ (dQ y f)).trans s.out);have f:=dS f a.size)|(at_lookup;refine aR (enc:=jc) _ rfl _ _ 158 160 4 rfl HH Hz (mq _) (w.heap.size+1) _ rfl g (eB (x m).1 (x m).2.1) rfl true (by simpa using t.out) ?_))
     all_goals go_ret
     all_goals refine⟨?_,q⟩
     all_goals first
      |exact aC (dh (v:=6) hb r.out d (by simp_all [fQ]) (by decide))
      |exact aC (dh (v:=8) hb r.out d (by simp_all [fQ]) (by decide))
      |exact aC (dh (v:=1) hb r.out d (by simp_all [fQ]) (by decide))
      |exact aC (dh (v:=5) hb r.out d (by have:=t.out;simp_all [fQ]) (by decide))
    ·have t:=eN z;clear z
     go_wp2_with (first|(go_at_call 101;refine(kQ _ _ _ _ _ _ _ _ H I).mono ?_;rintro e w1⟨rfl,a⟩;obtain⟨E,F⟩:=cW a;have g:=aG a g;have q:=Below.on q a;have s:=eN ((a.block _ (dQ y f)).trans s.out);have f:=dS f a.size)|(go_at_call 28;refine(bG _ _ _ _).mono ?_;rintro e w'⟨rfl,rfl⟩)|(go_at_call 102;refine(yl _ _ _ _).mono ?_;rintro e w1⟨rfl,a⟩;obtain⟨E,F⟩:=cW a;have g:=aG a g;have q:=Below.on q a;have s:=eN ((a.block _ (dQ y f)).trans s.out);have f:=dS f a.size)|(at_lookup;refine aR (enc:=jc) _ rfl _ _ 158 160 4 rfl HH Hz (mq _) (w.heap.size+1) _ rfl g (eB (x m).1 (x m).2.1) rfl false (by simpa using t.out) ?_)|(at_mapUpdate;refine dH (enc:=jc) _ rfl _ _ _ 158 160 4 rfl HH Hz (w.heap.size+1) _ rfl g (eB (x m).1 (x m).2.1) rfl rfl t.out ?_;intro w2 X Q))
     case roundEnd=>
      have Y:fQ p x m=0:=by have:=t.out;simp_all [fQ]
      refine⟨⟨m+1,d,by go_num,λj D=>?_,?_,(Q.block _ (by omega)).trans s.out,dy q (Q.below (by omega))⟩,by simp[intOf];omega⟩
      ·rcases Nat.lt_succ_iff_lt_or_eq.1 D with h|h
       ·exact r.out j h
       ·rw[h];exact Y
      ·rw[eh,ei];exact X
     all_goals go_ret
     all_goals refine⟨?_,q⟩
     all_goals first
      |exact aC (dh (v:=6) hb r.out d (by simp_all [fQ]) (by decide))
      |exact aC (dh (v:=8) hb r.out d (by simp_all [fQ]) (by decide))
      |exact aC (dh (v:=1) hb r.out d (by simp_all [fQ]) (by decide))
      |exact aC (dh (v:=5) hb r.out d (by have:=t.out;simp_all [fQ]) (by decide))
   ·obtain rfl:m=n:=by omega
    go_wp2
    go_ret
    exact⟨by simp[kz,hb,cz r.out],u⟩
def J2{b:Nat}{W w1:World}(h:nP b W w1):(∀c o,c<W.heap.size->c≠b->w1.cell? ⟨c,o,none⟩=W.cell? ⟨c,o,none⟩)/\(∀c(o:Nat),c<W.heap.size->c≠b->w1.frozen? ⟨c,o,none⟩=W.frozen? ⟨c,o,none⟩):=
 ⟨λc o d e=>h.cell (a:=⟨c,o,none⟩) d e,λc o d e=>World.frozen?_of_block (w:=W) (h.block c d e)⟩
def iI(np:Nat)(x:Nat->ByteArray×Int×Int)(i:Nat):Int:=
 if iH (x i).1 ((eb i).map λj=>(x j).1)=0 then
  (if bO (x i).2.1 0 (np-1) then(if(x i).2.1∈(eb i).map (λj=>(x j).2.1) then 10 else if bO (x i).2.2 0 12 then 0 else 1) else 6)
 else iH (x i).1 ((eb i).map λj=>(x j).1)
def pE(np n:Nat)(x:Nat->ByteArray×Int×Int):Int:=if 3<n then 2 else ia n (iI np x)
def ic{np n m:Nat}{x:Nat->ByteArray×Int×Int}{v:Int}(hb:¬3<n)(a:∀j,j<m->iI np x j=0)(b:m<n)(hf:iI np x m=v)(hv:v≠0):pE np n x=v:=by
 rw[pE,if_neg hb,eG a b (by rw[hf];exact hv),hf]
def HQ(l p:Int)(b z:Option Addr)(k o n c np A:Nat)(x:Nat->ByteArray×Int×Int)(B C:Value)(w:World)(hn:n<=20)(MC:np<=20)(E:k<w.heap.size)(hs:0<n->b=some ⟨k,o,none⟩)(J:∀i,i<n->(x i).1.size<=100)
 (K:∀i,i<n->w.cell? ⟨k,o+i*3,none⟩=some (fP (x i).1)) (L:∀i,i<n->w.cell? ⟨k,o+i*3+1,none⟩=some (fB gL (x i).2.1)) (M:∀i,i<n->w.cell? ⟨k,o+i*3+2,none⟩=some (fB gL (x i).2.2)) :
 Calls PL 74 #[fJ #[fB gL l,fB gL p,B,C,fO z np A,fO b n c]] w (aO (fB gL (pE np n x)) w):=by
 have S:=eN K;have T:=eN L;have U:=eN M;have V:=eN hs;have W:=eN J;clear K L M hs J;by_cases hb:3<n
 ·go_enter (fx (by decide) bT),cC
  go_wp2
  go_ret
  exact⟨by simp[pE,hb],(du _ _).alloc (dC _) _⟩
 ·have X:=@run_makeMap PL
  go_enter (fx (by decide) bT),cC
  go_wp2
  go_loopw [19] (λi wr=>∃m:Nat,m<=n/\i=fB gL m/\(∀j,j<m->iI np x j=0)/\aU wr yo (w.heap.size+1) ((eb m).map (λj=>(x j).1))/\aU wr agP (w.heap.size+2) ((eb m).map (λj=>(x j).2.1))/\wr.heap[w.heap.size]?=some (gN #[fB gL l,fB gL p,B,C,fO z np A,fO b n c] 78)/\Below w.heap.size w wr) (λi _=>n-(intOf i).toNat)
  case atStart=>
   refine⟨0,dK _,rfl,λj F=>absurd F (dL _),?_,?_,?_,?_⟩
   ·have:=aU.made (enc:=yo) (w.alloc (gN #[fB gL l,fB gL p,B,C,fO z np A,fO b n c] 78));exact aU.of_heap (by simpa using this) (dv _ _ _ (by simp))
   ·have:=aU.made (enc:=agP) ((w.alloc (gN #[fB gL l,fB gL p,B,C,fO z np A,fO b n c] 78)).alloc (.map #[] 0));simpa using this
   ·rw[dv _ _ _ (by simp;omega),dv _ _ _ (by simp),au]
   ·exact(((du _ _).alloc (dC _) _).alloc (by simp) _).alloc (by simp;omega) _
  case round=>
   obtain⟨m,hm,rfl,N,Y,O,P,s⟩:=hrel;have g:=eN N;have Q:=eN P;clear N P;by_cases a:m<n
   ·obtain rfl:=V.out (by omega);have c0:=(s.cell (p:=⟨k,o+m*3,none⟩) E).trans (S.out m a);have c1:=(s.cell (p:=⟨k,o+m*3+1,none⟩) E).trans (T.out m a);have c2:=(s.cell (p:=⟨k,o+m*3+2,none⟩) E).trans (U.out m a);have Z:=aU.lt O;have H:w.heap.size<wr.heap.size:=by omega
    have bu:wr.heap.size≠w.heap.size+1:=by omega
    obtain⟨d0,d1,d2,d3,d4,d5⟩:=bf Q.out;have t:aU (wr.alloc (gN #[fP (x m).1,fB gL (x m).2.1,fB gL (x m).2.2] 94)) yo (w.heap.size+1) ((eb m).map (λj=>(x j).1)):=aU.of_heap Y (dv _ _ _ (by omega));have r:aU (wr.alloc (gN #[fP (x m).1,fB gL (x m).2.1,fB gL (x m).2.2] 94)) agP (w.heap.size+2) ((eb m).map (λj=>(x j).2.1)):=aU.of_heap O (dv _ _ _ Z);have q:Below w.heap.size w (wr.alloc (gN #[fP (x m).1,fB gL (x m).2.1,fB gL (x m).2.2] 94)):=s.alloc s.size _;have u:wr.heap.size<(wr.alloc (gN #[fP (x m).1,fB gL (x m).2.1,fB gL (x m).2.2] 94)).heap.size:=by simp
    have y:=eN ((dv wr (gN #[fP (x m).1,fB gL (x m).2.1,fB gL (x m).2.2] 94) _ H).trans Q.out);have R:=W.out m a;by_cases D:(x m).2.1∈(eb m).map (λj=>(x j).2.1)
    ·have d:=eN D;clear D
     go_wp2_with (first|(go_at_call 103;refine(wB (w.heap.size+1) _ _ _ t R).mono ?_;rintro e w1⟨rfl,f,t⟩;obtain⟨lp,lR⟩:=J2 f;have r:=f.Xm r (by omega);have q:=dy q (f.below (by omega) q.size);have y:=eN ((f.block _ (dQ H u) (by omega)).trans y.out);have u:=dS u f.size)|(go_at_call 28;refine(bG _ _ _ _).mono ?_;rintro e w'⟨rfl,rfl⟩)|(go_at_call 49;refine(o8 _ _).mono ?_;rintro e w'⟨rfl,rfl⟩)|(at_lookup;refine aR (enc:=agP) _ rfl _ _ 85 3 4 rfl qz ju (mq _) (w.heap.size+2) _ rfl r (x m).2.1 rfl true (by simpa using d.out) ?_))
     all_goals go_ret
     all_goals refine⟨?_,q⟩
     all_goals first
      |exact aC (ic (v:=iH (x m).1 ((eb m).map λj=>(x j).1)) hb g.out a (by have:=d.out;simp_all [iI]) (by simp_all))
      |exact aC (ic (v:=6) hb g.out a (by have:=d.out;simp_all [iI]) (by decide))
      |exact aC (ic (v:=10) hb g.out a (by have:=d.out;simp_all [iI]) (by decide))
      |exact aC (ic (v:=1) hb g.out a (by have:=d.out;simp_all [iI]) (by decide))
    ·have d:=eN D;clear D
     go_wp2_with (first|(go_at_call 103;refine(wB (w.heap.size+1) _ _ _ t R).mono ?_;rintro e w1⟨rfl,f,t⟩;obtain⟨lp,lR⟩:=J2 f;have r:=f.Xm r (by omega);have q:=dy q (f.below (by omega) q.size);have y:=eN ((f.block _ (dQ H u) (by omega)).trans y.out);have u:=dS u f.size)|(go_at_call 28;refine(bG _ _ _ _).mono ?_;rintro e w'⟨rfl,rfl⟩)|(go_at_call 49;refine(o8 _ _).mono ?_;rintro e w'⟨rfl,rfl⟩)|(at_lookup;refine aR (enc:=agP) _ rfl _ _ 85 3 4 rfl qz ju (mq _) (w.heap.size+2) _ rfl r (x m).2.1 rfl false (by simpa using d.out) ?_)|(at_mapUpdate;refine dH (enc:=agP) _ rfl _ _ _ 85 3 4 rfl qz ju (w.heap.size+2) _ rfl r (x m).2.1 rfl rfl d.out ?_;intro w2 yp I))
     case roundEnd=>
      have e1:iH (x m).1 ((eb m).map λj=>(x j).1)=0:=by simp_all
      have e0:iI np x m=0:=by have:=d.out;simp_all [iI]
      rw[if_pos e1]at t;refine⟨⟨m+1,a,by go_num,λj F=>?_,?_,?_,(I.block _ (by omega)).trans y.out,dy q (I.below (by omega))⟩,by simp[intOf];omega⟩
      ·rcases Nat.lt_succ_iff_lt_or_eq.1 F with h|h
       ·exact g.out j h
       ·rw[h];exact e0
      ·rw[eh,ei];exact aU.of_heap t (I.block _ (by omega))
      ·rw[eh,ei];exact yp
     all_goals go_ret
     all_goals refine⟨?_,q⟩
     all_goals first
      |exact aC (ic (v:=iH (x m).1 ((eb m).map λj=>(x j).1)) hb g.out a (by have:=d.out;simp_all [iI]) (by simp_all))
      |exact aC (ic (v:=6) hb g.out a (by have:=d.out;simp_all [iI]) (by decide))
      |exact aC (ic (v:=10) hb g.out a (by have:=d.out;simp_all [iI]) (by decide))
      |exact aC (ic (v:=1) hb g.out a (by have:=d.out;simp_all [iI]) (by decide))
   ·obtain rfl:m=n:=by omega
    go_wp2
    go_ret
    exact⟨by simp[pE,hb,cz g.out],s⟩
set_option maxHeartbeats 4000000
structure iJ where
 name:ByteArray
 n:Nat->Int
 lb:Option Addr
 ln:Nat
 lc:Nat
 lk:Nat
 lo:Nat
 lane:Nat->Int
def fy(a:Nat)(lane:Nat->Int)(j:Nat):Int:=if bO (lane j) 0 (a-1) then(if 0<j/\lane j<=lane (j-1) then 7 else 0) else 6
def gM(p:Int)(a b:Nat)(x:Nat->iJ)(i:Nat):Int:=
 if iH (x i).name ((eb i).map λj=>(x j).name)=0 then
  (if eK ((x i).n 1) ((x i).n 2) 1 90&&eK ((x i).n 3) ((x i).n 4) (-90) 90 then
    (if(x i).n 1<(x i).n 4\/(x i).n 1 < -(x i).n 3 then 10 else
      if bO ((x i).n 5) 0 (a-1)&&bO ((x i).n 6) 0 (p-1) then
       (if eK ((x i).n 7) ((x i).n 8) 1 60&&eK ((x i).n 9) ((x i).n 10) 0 60 then ia (x i).ln (fy b (x i).lane) else 1)
      else 6)
  else 1)
 else iH (x i).name ((eb i).map λj=>(x j).name)
def kA(p:Int)(a b n:Nat)(x:Nat->iJ):Int:=if bO n 2 5 then ia n (gM p a b x) else 2
def dI{p:Int}{a b n m:Nat}{x:Nat->iJ}{v:Int}(hb:bO n 2 5=true)(c:∀j,j<m->gM p a b x j=0)(d:m<n)(hf:gM p a b x m=v)(hv:v≠0):kA p a b n x=v:=by
 rw[kA,if_pos hb,eG c d (by rw[hf];exact hv),hf]
def afi{w:World}{k:Nat}{x0 x1 x2 x3 x4 b c d e f g a:Value}{t:ab}(h:w.heap[k]?=some (gN #[x0,x1,x2,x3,x4,b,c,d,e,f,g,a] t)):w.cell? ⟨k,11,none⟩=some a:=by
 simp[fb,h]
def Q7(l p:Int)(Z bq b:Option Addr)(M r n cs cq c k o:Nat)(x:Nat->iJ)(v5:Value)(w:World)(hn:n<=20)(Vb:M<=20)(Hr:r<=20)(J0:1<=p)(tL:p<=6)(F:k<w.heap.size)(hs:0<n->b=some ⟨k,o,none⟩)
 (uB:∀i,i<n->(x i).name.size<=100/\(x i).ln<=20) (h0:∀i,i<n->w.cell? ⟨k,o+i*12,none⟩=some (fP (x i).name)) (z:∀i,i<n->∀j,1<=j->j<=10->w.cell? ⟨k,o+i*12+j,none⟩=some (fB gL ((x i).n j)))
 (P:∀i,i<n->w.cell? ⟨k,o+i*12+11,none⟩=some (fO (x i).lb (x i).ln (x i).lc)) (hl:∀i,i<n->0<(x i).ln->(x i).lb=some ⟨(x i).lk,(x i).lo,none⟩/\(x i).lk<w.heap.size)
 (Q:∀i,i<n->∀j,j<(x i).ln->w.cell? ⟨(x i).lk,(x i).lo+j,none⟩=some (fB gL ((x i).lane j))) :
 Calls PL 73 #[fJ #[fB gL l,fB gL p,fO Z M cs,fO bq r cq,fO b n c,v5]] w (aO (fB gL (kA p M r n x)) w):=by
 have H0:=eN h0;have I:=eN z;have H11:=eN P;have HL:=eN hl;have HLC:=eN Q;have HS:=eN hs;have HN:=eN uB;clear h0 z P hl Q hs uB;by_cases hb:bO (↑n) 2 5=true
 ·have y:=eN hb;clear hb;have hmm:=@run_makeMap PL
  go_enter (fx (by decide) bR),cQ
  go_wp2_with (go_at_call 28;refine(fN y.out _).mono ?_;rintro e w'⟨rfl,rfl⟩)
  go_loopw [20] (λi wr=>∃m:Nat,m<=n/\i=fB gL m/\(∀j,j<m->gM p M r x j=0)/\aU wr yo (w.heap.size+1) ((eb m).map (λj=>(x j).name))/\wr.heap[w.heap.size]?=some (gN #[fB gL l,fB gL p,fO Z M cs,fO bq r cq,fO b n c,v5] 78)/\Below w.heap.size w wr) (λi _=>n-(intOf i).toNat)
  case atStart=>
   refine⟨0,dK _,rfl,λj z=>absurd z (dL _),?_,?_,?_⟩
   ·have:=aU.made (enc:=yo) (w.alloc (gN #[fB gL l,fB gL p,fO Z M cs,fO bq r cq,fO b n c,v5] 78));simpa using this
   ·rw[dv _ _ _ (by simp),au]
   ·exact((du _ _).alloc (dC _) _).alloc (by simp) _
  case round=>
   obtain⟨m,hm,rfl,ha,hN,sW,D⟩:=hrel;have B:=eN ha;have HX:=eN sW;clear ha sW;by_cases d:m<n
   ·obtain rfl:=HS.out (by omega);have c0:=(D.cell (p:=⟨k,o+m*12,none⟩) F).trans (H0.out m d);have c1:=(D.cell (p:=⟨k,o+m*12+1,none⟩) F).trans (I.out m d 1 (by omega) (by omega));have c2:=(D.cell (p:=⟨k,o+m*12+2,none⟩) F).trans (I.out m d 2 (by omega) (by omega));have c3:=(D.cell (p:=⟨k,o+m*12+3,none⟩) F).trans (I.out m d 3 (by omega) (by omega));have c4:=(D.cell (p:=⟨k,o+m*12+4,none⟩) F).trans (I.out m d 4 (by omega) (by omega));have c5:=(D.cell (p:=⟨k,o+m*12+5,none⟩) F).trans (I.out m d 5 (by omega) (by omega));have c6:=(D.cell (p:=⟨k,o+m*12+6,none⟩) F).trans (I.out m d 6 (by omega) (by omega));have c7:=(D.cell (p:=⟨k,o+m*12+7,none⟩) F).trans (I.out m d 7 (by omega) (by omega));have c8:=(D.cell (p:=⟨k,o+m*12+8,none⟩) F).trans (I.out m d 8 (by omega) (by omega));have c9:=(D.cell (p:=⟨k,o+m*12+9,none⟩) F).trans (I.out m d 9 (by omega) (by omega));have c10:=(D.cell (p:=⟨k,o+m*12+10,none⟩) F).trans (I.out m d 10 (by omega) (by omega));have c11:=(D.cell (p:=⟨k,o+m*12+11,none⟩) F).trans (H11.out m d);have fW:=aU.lt hN;have J:w.heap.size<wr.heap.size:=by omega
    have bu:wr.heap.size≠w.heap.size+1:=by omega
    obtain⟨d0,d1,d2,d3,d4,d5⟩:=bf HX.out;have s:aU (wr.alloc (gN #[fP (x m).name,fB gL ((x m).n 1),fB gL ((x m).n 2),fB gL ((x m).n 3),fB gL ((x m).n 4),fB gL ((x m).n 5),fB gL ((x m).n 6),fB gL ((x m).n 7),fB gL ((x m).n 8),fB gL ((x m).n 9),fB gL ((x m).n 10),fO (x m).lb (x m).ln (x m).lc] 42)) yo (w.heap.size+1) ((eb m).map (λj=>(x j).name)):=aU.of_heap hN (dv _ _ _ (by omega));have g:Below w.heap.size w (wr.alloc (gN #[fP (x m).name,fB gL ((x m).n 1),fB gL ((x m).n 2),fB gL ((x m).n 3),fB gL ((x m).n 4),fB gL ((x m).n 5),fB gL ((x m).n 6),fB gL ((x m).n 7),fB gL ((x m).n 8),fB gL ((x m).n 9),fB gL ((x m).n 10),fO (x m).lb (x m).ln (x m).lc] 42)):=D.alloc D.size _;have f:wr.heap.size<(wr.alloc (gN #[fP (x m).name,fB gL ((x m).n 1),fB gL ((x m).n 2),fB gL ((x m).n 3),fB gL ((x m).n 4),fB gL ((x m).n 5),fB gL ((x m).n 6),fB gL ((x m).n 7),fB gL ((x m).n 8),fB gL ((x m).n 9),fB gL ((x m).n 10),fO (x m).lb (x m).ln (x m).lc] 42)).heap.size:=by simp
    have C:w.heap.size<(wr.alloc (gN #[fP (x m).name,fB gL ((x m).n 1),fB gL ((x m).n 2),fB gL ((x m).n 3),fB gL ((x m).n 4),fB gL ((x m).n 5),fB gL ((x m).n 6),fB gL ((x m).n 7),fB gL ((x m).n 8),fB gL ((x m).n 9),fB gL ((x m).n 10),fO (x m).lb (x m).ln (x m).lc] 42)).heap.size:=by simp;omega
    have u:=eN ((dv wr (gN #[fP (x m).name,fB gL ((x m).n 1),fB gL ((x m).n 2),fB gL ((x m).n 3),fB gL ((x m).n 4),fB gL ((x m).n 5),fB gL ((x m).n 6),fB gL ((x m).n 7),fB gL ((x m).n 8),fB gL ((x m).n 9),fB gL ((x m).n 10),fO (x m).lb (x m).ln (x m).lc] 42) _ J).trans HX.out);have A:=eN (au wr (gN #[fP (x m).name,fB gL ((x m).n 1),fB gL ((x m).n 2),fB gL ((x m).n 3),fB gL ((x m).n 4),fB gL ((x m).n 5),fB gL ((x m).n 6),fB gL ((x m).n 7),fB gL ((x m).n 8),fB gL ((x m).n 9),fB gL ((x m).n 10),fO (x m).lb (x m).ln (x m).lc] 42));have Va:=(HN.out m d).1;have Tl:=(HN.out m d).2;by_cases R:eK ((x m).n 3) ((x m).n 4) (-90) 90=true
    ·have N:=eN R;have Q8 : -90<=(x m).n 3/\(x m).n 3<=90:=by
      simp only[eK,fz,decide_eq_true_eq]at R;omega
     obtain⟨Q8,hr4⟩:=Q8;clear R
     go_wp2_with (first|(go_at_call 103;refine(wB (w.heap.size+1) _ _ _ s Va).mono ?_;rintro e w1⟨rfl,E,s⟩;obtain⟨K,L⟩:=J2 E;have g:=dy g (E.below (by omega) g.size);have u:=eN ((E.block _ (dQ J f) (by omega)).trans u.out);have A:=eN ((E.block _ f (by omega)).trans A.out);have f:=dS f E.size;have C:=dS C E.size)|(go_at_call 100;((with_reducible refine(Ek N.out _).mono ?_);rintro e w1⟨rfl,a⟩;obtain⟨K,L⟩:=cW a;have s:=aG a s;have g:=Below.on g a;have u:=eN ((a.block _ (dQ J f)).trans u.out);have A:=eN ((a.block _ f).trans A.out);have f:=dS f a.size;have C:=dS C a.size))|(go_at_call 100;refine(nh _ _ _ _ _).mono ?_;rintro e w1⟨rfl,a⟩;obtain⟨K,L⟩:=cW a;have s:=aG a s;have g:=Below.on g a;have u:=eN ((a.block _ (dQ J f)).trans u.out);have A:=eN ((a.block _ f).trans A.out);have f:=dS f a.size;have C:=dS C a.size)|(go_at_call 28;refine(bG _ _ _ _).mono ?_;rintro e w'⟨rfl,rfl⟩)|(go_at_call 101;refine(kQ _ _ _ _ _ _ _ _ J0 tL).mono ?_;rintro e w1⟨rfl,a⟩;obtain⟨K,L⟩:=cW a;have s:=aG a s;have g:=Below.on g a;have u:=eN ((a.block _ (dQ J f)).trans u.out);have A:=eN ((a.block _ f).trans A.out);have f:=dS f a.size;have C:=dS C a.size))
     any_goals (
      go_ret
      refine⟨?_,g⟩;have hR:=N.out
      first
       |exact aC (dI (v:=iH (x m).name ((eb m).map λj=>(x j).name)) y.out B.out d (by simp_all [gM]) (by simp_all))
       |exact aC (dI (v:=1) y.out B.out d (by simp_all [gM]) (by decide))
       |exact aC (dI (v:=10) y.out B.out d (by simp_all [gM];try omega) (by decide))
       |exact aC (dI (v:=6) y.out B.out d (by simp_all [gM];try omega) (by decide))
       |exact aC (dI (v:=1) y.out B.out d (by simp_all [gM];try omega) (by decide)))
     have e1:iH (x m).name ((eb m).map λj=>(x j).name)=0:=by simp_all
     have S:gM p M r x m=ia (x m).ln (fy r (x m).lane):=by
      have hR:=N.out;simp only[gM];rw[if_pos e1,if_pos (by simp_all),if_neg (by simp_all;try omega),if_pos (by simp_all),if_pos (by simp_all)]
     rw[if_pos e1]at s;have T:=eN S;clear S e1;have J4:∀j,j<(x m).ln->w1.cell? ⟨(x m).lk,(x m).lo+j,none⟩=some (fB gL ((x m).lane j)):=λj z=>(g.cell (p:=⟨(x m).lk,(x m).lo+j,none⟩) (HL.out m d (by omega)).2).trans (HLC.out m d j z);have U:=eN J4;clear J4;obtain⟨X,e1,e2,e3,e4,e5⟩:=bf u.out;have e11:=afi A.out;clear K L;generalize fA (decide ((x m).n 1<(x m).n 4)||decide ((x m).n 1 < -(x m).n 3))=s42;generalize fA (decide ((x m).n 1<(x m).n 4))=s49;generalize fA (decide ((x m).n 1 < -(x m).n 3))=s58;generalize fA (bO ((x m).n 6) 0 (p-1))=s74;generalize fA (!eK ((x m).n 9) ((x m).n 10) 0 60)=s77;generalize fA (eK ((x m).n 9) ((x m).n 10) 0 60)=s85;generalize fB gL (iH (x m).name ((eb m).map λj=>(x j).name))=s6;by_cases hl0:0<(x m).ln
     ·have Y:=(HL.out m d hl0).1;rw[Y]at e11;rw[Y];have HLB:=eN Y;clear Y
      go_loop [91] (λi=>∃q:Nat,q<=(x m).ln/\i=fB gL q/\∀j,j<q->fy r (x m).lane j=0) (λi=>(x m).ln-(intOf i).toNat)
      case atStart=>exact⟨0,dK _,rfl,λj z=>absurd z (dL _)⟩
      case round=>
       obtain⟨q,hq,rfl,V⟩:=hrel;have H:=eN V;clear V;by_cases O:q<(x m).ln
       ·have g0:=U.out q O;by_cases hq0:0<q
        ·have g1:=U.out (q-1) (by omega)
         go_wp2_with (go_at_call 28;refine(bG _ _ _ _).mono ?_;rintro e w'⟨rfl,rfl⟩)
         ·go_ret
          have W:fy r (x m).lane q=6:=by
           have t:(!bO ((x m).lane q) 0 (↑r-1))=true:=by assumption
           simp only[fy];rw[if_neg (by simpa using t)]
          exact⟨aC (dI (v:=6) y.out B.out d (T.out.trans ((eG H.out O (by rw[W];decide)).trans W)) (by decide)),g⟩
         ·go_ret
          have e7:fy r (x m).lane q=7:=by
           have t:(!bO ((x m).lane q) 0 (↑r-1))=false:=by assumption
           have t2:(x m).lane q<=(x m).lane (q-1):=by assumption
           simp only[fy];rw[if_pos (by simpa using t),if_pos ⟨hq0,t2⟩]
          exact⟨aC (dI (v:=7) y.out B.out d (T.out.trans ((eG H.out O (by rw[e7];decide)).trans e7)) (by decide)),g⟩
         ·have X:fy r (x m).lane q=0:=by
           have t:(!bO ((x m).lane q) 0 (↑r-1))=false:=by assumption
           have t2:(x m).lane (q-1)<(x m).lane q:=by assumption
           simp only[fy];rw[if_pos (by simpa using t),if_neg (by omega)]
          refine⟨⟨q+1,O,by go_num,λj z=>?_⟩,by simp[intOf];omega⟩
          rcases Nat.lt_succ_iff_lt_or_eq.1 z with h|h
          ·exact H.out j h
          ·rw[h];exact X
        ·obtain rfl:q=0:=by omega
         rw[dT]at g0
         go_wp2_with (go_at_call 28;refine(bG _ _ _ _).mono ?_;rintro e w'⟨rfl,rfl⟩)
         ·go_ret
          have W:fy r (x m).lane 0=6:=by
           have t:(!bO ((x m).lane 0) 0 (↑r-1))=true:=by assumption
           simp only[fy];rw[if_neg (by simpa using t)]
          exact⟨aC (dI (v:=6) y.out B.out d (T.out.trans ((eG H.out O (by rw[W];decide)).trans W)) (by decide)),g⟩
         ·have X:fy r (x m).lane 0=0:=by
           have t:(!bO ((x m).lane 0) 0 (↑r-1))=false:=by assumption
           simp only[fy];rw[if_pos (by simpa using t),if_neg (by omega)]
          refine⟨⟨1,O,by go_num,λj z=>?_⟩,by simp[intOf];omega⟩;obtain rfl:j=0:=by omega
          exact X
       ·obtain rfl:q=(x m).ln:=by omega
        go_wp2
        refine⟨⟨m+1,d,by go_num,λj z=>?_,?_,u.out,g⟩,by simp[intOf];omega⟩
        ·rcases Nat.lt_succ_iff_lt_or_eq.1 z with h|h
         ·exact B.out j h
         ·rw[h,T.out];exact cz H.out
        ·rw[eh,ei];exact s
     ·go_loop [91] (λi=>i=fB gL 0) (λi=>1)
      case atStart=>rfl
      case round=>
       obtain rfl:=hrel;have hz:((x m).ln:Int)<=0:=by omega
       go_wp2
       refine⟨⟨m+1,d,by go_num,λj z=>?_,?_,u.out,g⟩,by simp[intOf];omega⟩
       ·rcases Nat.lt_succ_iff_lt_or_eq.1 z with h|h
        ·exact B.out j h
        ·rw[h,T.out];exact cz λj z=>absurd z (by omega)
       ·rw[eh,ei];exact s
    ·have N:=eN (aV R);clear R
     go_wp2_with (first|(go_at_call 103;refine(wB (w.heap.size+1) _ _ _ s Va).mono ?_;rintro e w1⟨rfl,E,s⟩;obtain⟨K,L⟩:=J2 E;have g:=dy g (E.below (by omega) g.size);have u:=eN ((E.block _ (dQ J f) (by omega)).trans u.out);have A:=eN ((E.block _ f (by omega)).trans A.out);have f:=dS f E.size;have C:=dS C E.size)|(go_at_call 100;((with_reducible refine(El N.out _).mono ?_);rintro e w1⟨rfl,a⟩;obtain⟨K,L⟩:=cW a;have s:=aG a s;have g:=Below.on g a;have u:=eN ((a.block _ (dQ J f)).trans u.out);have A:=eN ((a.block _ f).trans A.out);have f:=dS f a.size;have C:=dS C a.size))|(go_at_call 100;refine(nh _ _ _ _ _).mono ?_;rintro e w1⟨rfl,a⟩;obtain⟨K,L⟩:=cW a;have s:=aG a s;have g:=Below.on g a;have u:=eN ((a.block _ (dQ J f)).trans u.out);have A:=eN ((a.block _ f).trans A.out);have f:=dS f a.size;have C:=dS C a.size)|(go_at_call 28;refine(bG _ _ _ _).mono ?_;rintro e w'⟨rfl,rfl⟩)|(go_at_call 101;refine(kQ _ _ _ _ _ _ _ _ J0 tL).mono ?_;rintro e w1⟨rfl,a⟩;obtain⟨K,L⟩:=cW a;have s:=aG a s;have g:=Below.on g a;have u:=eN ((a.block _ (dQ J f)).trans u.out);have A:=eN ((a.block _ f).trans A.out);have f:=dS f a.size;have C:=dS C a.size))
     any_goals (
      go_ret
      refine⟨?_,g⟩;have hR:=N.out
      first
       |exact aC (dI (v:=iH (x m).name ((eb m).map λj=>(x j).name)) y.out B.out d (by simp_all [gM]) (by simp_all))
       |exact aC (dI (v:=1) y.out B.out d (by simp_all [gM]) (by decide))
       |exact aC (dI (v:=10) y.out B.out d (by simp_all [gM];try omega) (by decide))
       |exact aC (dI (v:=6) y.out B.out d (by simp_all [gM];try omega) (by decide))
       |exact aC (dI (v:=1) y.out B.out d (by simp_all [gM];try omega) (by decide)))
   ·obtain rfl:m=n:=by omega
    go_wp2
    go_ret
    exact⟨by simp[kA,y.out,cz B.out],D⟩
 ·have y:=eN (aV hb);clear hb
  go_enter (fx (by decide) bR),cQ
  go_wp2_with (go_at_call 28;refine(pZ y.out _).mono ?_;rintro e w'⟨rfl,rfl⟩)
  go_ret
  exact⟨by simp[kA,y.out],(du _ _).alloc (dC _) _⟩
structure CD where
 l:Int
 p:Int
 b2:Option Addr
 k2:Nat
 o2:Nat
 n2:Nat
 c2:Nat
 x2:Nat->Int×Int
 b3:Option Addr
 k3:Nat
 o3:Nat
 n3:Nat
 c3:Nat
 x3:Nat->Int×Int×Int
 b4:Option Addr
 k4:Nat
 o4:Nat
 n4:Nat
 c4:Nat
 x4:Nat->iJ
 b5:Option Addr
 k5:Nat
 o5:Nat
 n5:Nat
 c5:Nat
 x5:Nat->ByteArray×Int×Int
abbrev CD.val(C:CD):Array Value:=#[fB gL C.l,fB gL C.p,fO C.b2 C.n2 C.c2,fO C.b3 C.n3 C.c3,fO C.b4 C.n4 C.c4,fO C.b5 C.n5 C.c5]
structure CD.At(C:CD)(w:World):Prop where
 m2:C.n2<=20
 m3:C.n3<=20
 m4:C.n4<=20
 m5:C.n5<=20
 h2:C.k2<w.heap.size
 h3:C.k3<w.heap.size
 h4:C.k4<w.heap.size
 h5:C.k5<w.heap.size
 s2:0<C.n2->C.b2=some ⟨C.k2,C.o2,none⟩
 s3:0<C.n3->C.b3=some ⟨C.k3,C.o3,none⟩
 s4:0<C.n4->C.b4=some ⟨C.k4,C.o4,none⟩
 s5:0<C.n5->C.b5=some ⟨C.k5,C.o5,none⟩
 Ep:∀i,i<C.n2->w.cell? ⟨C.k2,C.o2+i*2,none⟩=some (fB gL (C.x2 i).1)
 Er:∀i,i<C.n2->w.cell? ⟨C.k2,C.o2+i*2+1,none⟩=some (fB gL (C.x2 i).2)
 Es:∀i,i<C.n3->w.cell? ⟨C.k3,C.o3+i*3,none⟩=some (fB gL (C.x3 i).1)
 Et:∀i,i<C.n3->w.cell? ⟨C.k3,C.o3+i*3+1,none⟩=some (fB gL (C.x3 i).2.1)
 Eu:∀i,i<C.n3->w.cell? ⟨C.k3,C.o3+i*3+2,none⟩=some (fB gL (C.x3 i).2.2)
 cu:∀i,i<C.n4->(C.x4 i).name.size<=100/\(C.x4 i).ln<=20
 AD:∀i,i<C.n4->w.cell? ⟨C.k4,C.o4+i*12,none⟩=some (fP (C.x4 i).name)
 dB:∀i,i<C.n4->∀j,1<=j->j<=10->w.cell? ⟨C.k4,C.o4+i*12+j,none⟩=some (fB gL ((C.x4 i).n j))
 nj:∀i,i<C.n4->w.cell? ⟨C.k4,C.o4+i*12+11,none⟩=some (fO (C.x4 i).lb (C.x4 i).ln (C.x4 i).lc)
 l4:∀i,i<C.n4->0<(C.x4 i).ln->(C.x4 i).lb=some ⟨(C.x4 i).lk,(C.x4 i).lo,none⟩/\(C.x4 i).lk<w.heap.size
 J5:∀i,i<C.n4->∀j,j<(C.x4 i).ln->w.cell? ⟨(C.x4 i).lk,(C.x4 i).lo+j,none⟩=some (fB gL ((C.x4 i).lane j))
 nm5:∀i,i<C.n5->(C.x5 i).1.size<=100
 FI:∀i,i<C.n5->w.cell? ⟨C.k5,C.o5+i*3,none⟩=some (fP (C.x5 i).1)
 HU:∀i,i<C.n5->w.cell? ⟨C.k5,C.o5+i*3+1,none⟩=some (fB gL (C.x5 i).2.1)
 J6:∀i,i<C.n5->w.cell? ⟨C.k5,C.o5+i*3+2,none⟩=some (fB gL (C.x5 i).2.2)
def CD.At.below{C:CD}{w w':World}(h:C.At w)(a:Below w.heap.size w w'):C.At w':=by
 have s:=a.size;have e:∀o,w'.cell? ⟨C.k2,o,none⟩=w.cell? ⟨C.k2,o,none⟩:=λo=>a.cell (p:=⟨C.k2,o,none⟩) h.h2;have b:∀o,w'.cell? ⟨C.k3,o,none⟩=w.cell? ⟨C.k3,o,none⟩:=λo=>a.cell (p:=⟨C.k3,o,none⟩) h.h3;have c:∀o,w'.cell? ⟨C.k4,o,none⟩=w.cell? ⟨C.k4,o,none⟩:=λo=>a.cell (p:=⟨C.k4,o,none⟩) h.h4;have d:∀o,w'.cell? ⟨C.k5,o,none⟩=w.cell? ⟨C.k5,o,none⟩:=λo=>a.cell (p:=⟨C.k5,o,none⟩) h.h5;have k:=h;obtain⟨m2,m3,m4,m5,h2,h3,h4,h5,s2,s3,s4,s5,Ep,Er,Es,Et,Eu,cu,AD,dB,nj,l4,J5,nm5,FI,HU,J6⟩:=h
 exact⟨m2,m3,m4,m5,by omega,by omega,by omega,by omega,s2,s3,s4,s5,λi hi=>(e _).trans (Ep i hi),λi hi=>(e _).trans (Er i hi),λi hi=>(b _).trans (Es i hi),λi hi=>(b _).trans (Et i hi),λi hi=>(b _).trans (Eu i hi),cu,
  λi hi=>(c _).trans (AD i hi),λi hi j f h2=>(c _).trans (dB i hi j f h2),λi hi=>(c _).trans (nj i hi),λi hi hl=>⟨(l4 i hi hl).1,dS (l4 i hi hl).2 s⟩,
  λi hi j g=>(a.cell (p:=⟨(C.x4 i).lk,(C.x4 i).lo+j,none⟩) (l4 i hi (by omega)).2).trans (J5 i hi j g),nm5,λi hi=>(d _).trans (FI i hi),λi hi=>(d _).trans (HU i hi),λi hi=>(d _).trans (J6 i hi)⟩
def CD.dP(C:CD):Nat->Int
 |0=>jd C.l C.p
 |1=>pq C.n2 C.x2
 |2=>kz C.p C.n3 C.x3
 |3=>kA C.p C.n2 C.n3 C.n4 C.x4
 |_=>pE C.n4 C.n5 C.x5
def CD.cx(C:CD):Int:=ia 5 C.dP
def cK{l p:Int}(h:jd l p=0):1<=p/\p<=6:=by
 unfold jd at h
 split at h
 ·rename_i a;simp[bO]at a;omega
 ·cases h
def afm(C:CD)(w:World):Calls PL 70 #[fJ C.val] w (aO (fB gL (C.dP 0)) w):=Em _ _ _ _ _ _ _
def afn(C:CD)(w:World)(h:C.At w):Calls PL 71 #[fJ C.val] w (aO (fB gL (C.dP 1)) w):=Nb _ _ _ _ _ _ _ _ _ _ _ _ h.m2 h.h2 h.s2 h.Ep h.Er
def afo(C:CD)(w:World)(h:C.At w)(a:C.dP 0=0):Calls PL 72 #[fJ C.val] w (aO (fB gL (C.dP 2)) w):=
 Nf _ _ _ _ _ _ _ _ _ _ _ _ h.m3 (cK a).1 (cK a).2 h.h3 h.s3 h.Es h.Et h.Eu
def afp(C:CD)(w:World)(h:C.At w)(a:C.dP 0=0):Calls PL 73 #[fJ C.val] w (aO (fB gL (C.dP 3)) w):=
 Q7 _ _ _ _ _ _ _ _ _ _ _ _ _ _ _ _ h.m4 h.m2 h.m3 (cK a).1 (cK a).2 h.h4 h.s4 h.cu h.AD h.dB h.nj h.l4 h.J5
def afq(C:CD)(w:World)(h:C.At w):Calls PL 74 #[fJ C.val] w (aO (fB gL (C.dP 4)) w):=
 HQ _ _ _ _ _ _ _ _ _ _ _ _ _ _ h.m5 h.m4 h.h5 h.s5 h.nm5 h.FI h.HU h.J6
def yq(x0 x1 x2 x3 x4:Value)(w:World):(e6 137 (fJ #[x0,x1,x2,x3,x4]) (fB gL 0)).run PL w=ft x0 w/\(e6 137 (fJ #[x0,x1,x2,x3,x4]) (fB gL 1)).run PL w=ft x1 w/\(e6 137 (fJ #[x0,x1,x2,x3,x4]) (fB gL 2)).run PL w=ft x2 w/\(e6 137 (fJ #[x0,x1,x2,x3,x4]) (fB gL 3)).run PL w=ft x3 w/\(e6 137 (fJ #[x0,x1,x2,x3,x4]) (fB gL 4)).run PL w=ft x4 w:=
 ⟨by kernel_rfl,by kernel_rfl,by kernel_rfl,by kernel_rfl,by kernel_rfl⟩
def iv:Nat->Value|0=>fB gL 0|1=>fB gL 1|2=>fB gL 2|3=>fB gL 3|4=>fB gL 4|_=>fB gL 5
def cR{C:CD}{m:Nat}(a:∀j,j<m->C.dP j=0)(b:m<5)(hf:C.dP m≠0):C.cx=C.dP m:=eG a b hf
def uC(C:CD)(w:World)(h:C.At w):Calls PL 48 #[fJ C.val] w (aO (fB gL C.cx) w):=by
 have H:=eN h;clear h;have o:=λw x0 x1 x2 x3 x4=>(yq x0 x1 x2 x3 x4 w).1;have p:=λw x0 x1 x2 x3 x4=>(yq x0 x1 x2 x3 x4 w).2.1;have q:=λw x0 x1 x2 x3 x4=>(yq x0 x1 x2 x3 x4 w).2.2.1;have r:=λw x0 x1 x2 x3 x4=>(yq x0 x1 x2 x3 x4 w).2.2.2.1;have s:=λw x0 x1 x2 x3 x4=>(yq x0 x1 x2 x3 x4 w).2.2.2.2
 go_enter (fx (by decide) bp),Tryz.ntmps48
 go_wp2
 go_loopw [20] (λi wr=>∃k:Nat,k<=5/\i=iv k/\(∀j,j<k->C.dP j=0)/\Below w.heap.size w wr) (λi _=>5-(intOf i).toNat)
 case atStart=>exact⟨0,by omega,rfl,λj d=>absurd d (dL _),((du _ _).alloc (dC _) _).alloc (by simp) _⟩
 case round=>
  obtain⟨k,t,hi,l,c⟩:=hrel;have b:=eN l;clear l;have n:=H.out.below c;have g:=eN n;clear n;obtain rfl|rfl|rfl|rfl|rfl|rfl:k=0\/k=1\/k=2\/k=3\/k=4\/k=5:=by omega
  ·obtain rfl:_=fB gL 0:=hi
   go_wp2_with (go_at_call 70;refine(afm C _).mono ?_;rintro e w1⟨rfl,a⟩)
   ·go_ret
    exact⟨aC (cR (m:=0) b.out (by omega) (by simp_all)),Below.on c a⟩
   ·have f:C.dP 0=0:=by simp_all
    exact⟨⟨1,by omega,rfl,λj d=>by
     rcases Nat.lt_succ_iff_lt_or_eq.1 d with h|h
     ·exact b.out j h
     ·rw[h];exact f,Below.on c a⟩,by simp[intOf]⟩
  ·obtain rfl:_=fB gL 1:=hi
   go_wp2_with (go_at_call 71;refine(afn C _ g.out).mono ?_;rintro e w1⟨rfl,a⟩)
   ·go_ret
    exact⟨aC (cR (m:=1) b.out (by omega) (by simp_all)),Below.on c a⟩
   ·have f:C.dP 1=0:=by simp_all
    exact⟨⟨2,by omega,rfl,λj d=>by
     rcases Nat.lt_succ_iff_lt_or_eq.1 d with h|h
     ·exact b.out j h
     ·rw[h];exact f,Below.on c a⟩,by simp[intOf]⟩
  ·obtain rfl:_=fB gL 2:=hi
   go_wp2_with (go_at_call 72;refine(afo C _ g.out (b.out 0 (by omega))).mono ?_;rintro e w1⟨rfl,a⟩)
   ·go_ret
    exact⟨aC (cR (m:=2) b.out (by omega) (by simp_all)),Below.on c a⟩
   ·have f:C.dP 2=0:=by simp_all
    exact⟨⟨3,by omega,rfl,λj d=>by
     rcases Nat.lt_succ_iff_lt_or_eq.1 d with h|h
     ·exact b.out j h
     ·rw[h];exact f,Below.on c a⟩,by simp[intOf]⟩
  ·obtain rfl:_=fB gL 3:=hi
   go_wp2_with (go_at_call 73;refine(afp C _ g.out (b.out 0 (by omega))).mono ?_;rintro e w1⟨rfl,a⟩)
   ·go_ret
    exact⟨aC (cR (m:=3) b.out (by omega) (by simp_all)),Below.on c a⟩
   ·have f:C.dP 3=0:=by simp_all
    exact⟨⟨4,by omega,rfl,λj d=>by
     rcases Nat.lt_succ_iff_lt_or_eq.1 d with h|h
     ·exact b.out j h
     ·rw[h];exact f,Below.on c a⟩,by simp[intOf]⟩
  ·obtain rfl:_=fB gL 4:=hi
   go_wp2_with (go_at_call 74;refine(afq C _ g.out).mono ?_;rintro e w1⟨rfl,a⟩)
   ·go_ret
    exact⟨aC (cR (m:=4) b.out (by omega) (by simp_all)),Below.on c a⟩
   ·have f:C.dP 4=0:=by simp_all
    exact⟨⟨5,by omega,rfl,λj d=>by
     rcases Nat.lt_succ_iff_lt_or_eq.1 d with h|h
     ·exact b.out j h
     ·rw[h];exact f,Below.on c a⟩,by simp[intOf]⟩
  ·obtain rfl:_=fB gL 5:=hi
   go_wp2
   go_ret
   exact⟨aC (cz b.out),c⟩
def CD.zero:Array Value:=#[fB gL 0,fB gL 0,fO none 0 0,fO none 0 0,fO none 0 0,fO none 0 0]
def CD.b6(C:CD)(b:Bool):Int:=if C.cx=0 then(if b then 0 else 6) else C.cx
def CD.sX(C:CD)(b:Bool):Value:=fY #[fJ (if C.b6 b=0 then C.val else CD.zero),fB gL (C.b6 b)]
def Below.zQ{B:Nat}{a w:World}(h:Below B a w){k:Nat}(b:B<=k)(u0 u1 u2 u3 u4 u5:Value):Below B a ((((((w.setCell ⟨k,0,none⟩ u0).setCell ⟨k,1,none⟩ u1).setCell ⟨k,2,none⟩ u2).setCell ⟨k,3,none⟩ u3).setCell ⟨k,4,none⟩ u4).setCell ⟨k,5,none⟩ u5):=
 (((((h.setCell (p:=⟨k,0,none⟩) b u0).setCell (p:=⟨k,1,none⟩) b u1).setCell (p:=⟨k,2,none⟩) b u2).setCell (p:=⟨k,3,none⟩) b u3).setCell (p:=⟨k,4,none⟩) b u4).setCell (p:=⟨k,5,none⟩) b u5
def Ra{C:CD}{b:Bool}(h:C.cx≠0):C.sX b=fY #[fJ #[fB gL 0,fB gL 0,fO none 0 0,fO none 0 0,fO none 0 0,fO none 0 0],fB gL C.cx]:=by
 simp[CD.sX,CD.b6,h,CD.zero]
def Vd{C:CD}(h:C.cx=0):C.sX false=fY #[fJ #[fB gL 0,fB gL 0,fO none 0 0,fO none 0 0,fO none 0 0,fO none 0 0],fB gL 6]:=by
 simp[CD.sX,CD.b6,h,CD.zero]
def Ve{C:CD}(h:C.cx=0):C.sX true=fY #[fJ C.val,fB gL 0]:=by
 simp[CD.sX,CD.b6,h]
def sY{C:CD}{w:World}(h:C.cx=0)(k:C.At w):Calls PL 48 #[fJ C.val] w (aO (fB gL 0) w):=by
 have:=uC C w k;rwa[h]at this
def Ev(C:CD)(b:Bool)(w:World)(h:C.At w):Calls PL 27 #[fJ C.val,fA b] w (aO (C.sX b) w):=by
 have g:=λw1 k=>h.below (w':=w1) k;have f:=eN g;clear g h;by_cases hc:C.cx=0
 ·have c:=eN hc;clear hc;cases b
  ·rw[Vd c.out]
   go_enter (fx (by decide) b9),da
   go_wp2_with (go_at_call 48;refine(sY c.out (f.out _ (((du _ _).alloc (dC _) _).alloc (by simp) _))).mono ?_;rintro e w1⟨rfl,a⟩;obtain⟨d,i⟩:=cW a;have j:w.heap.size+1<w1.heap.size:=by have:=a.size;simp at this;omega)
   refine aB (v:=fY #[fJ #[fB gL 0,fB gL 0,fO none 0 0,fO none 0 0,fO none 0 0,fO none 0 0],fB gL 6]) ?_ rfl ⟨rfl,(Below.zQ ((((du _ _).alloc (dC _) _).alloc (by simp) _).trans (a.mono (by simp;omega))) (dU _) _ _ _ _ _ _)⟩;simp[aF,db,go_sem,d]
  ·rw[Ve c.out]
   go_enter (fx (by decide) b9),da
   go_wp2_with (go_at_call 48;refine(sY c.out (f.out _ (((du _ _).alloc (dC _) _).alloc (by simp) _))).mono ?_;rintro e w1⟨rfl,a⟩;obtain⟨d,i⟩:=cW a;have j:w.heap.size+1<w1.heap.size:=by have:=a.size;simp at this;omega)
   refine aB (v:=fY #[fJ C.val,fB gL 0]) ?_ rfl ⟨rfl,(Below.zQ ((((du _ _).alloc (dC _) _).alloc (by simp) _).trans (a.mono (by simp;omega))) (dU _) _ _ _ _ _ _)⟩;simp[aF,db,go_sem,d]
 ·have c:=eN hc;have l:(C.cx != 0)=true:=by simpa using hc
  clear hc;rw[Ra c.out]
  go_enter (fx (by decide) b9),da
  go_wp2_with (go_at_call 48;refine(uC C _ (f.out _ (((du _ _).alloc (dC _) _).alloc (by simp) _))).mono ?_;rintro e w1⟨rfl,a⟩;obtain⟨d,i⟩:=cW a;have j:w.heap.size+1<w1.heap.size:=by have:=a.size;simp at this;omega)
  refine aB (v:=fY #[fJ #[fB gL 0,fB gL 0,fO none 0 0,fO none 0 0,fO none 0 0,fO none 0 0],fB gL C.cx]) ?_ rfl ⟨rfl,(Below.zQ ((((du _ _).alloc (dC _) _).alloc (by simp) _).trans (a.mono (by simp;omega))) (dU _) _ _ _ _ _ _)⟩;simp[aF,db,go_sem,d]
def AE(C:CD)(n:Int)(w:World)(h:C.n4<=20):Calls PL 40 #[fJ C.val,fB gL n] w (aO (fA (bO n 0 (C.n4-1))) w):=by
 go_enter (fx (by decide) ca),Tryz.ntmps40
 go_wp2_with (go_at_call 28;refine(bG _ _ _ _).mono ?_;rintro e w'⟨rfl,rfl⟩)
 go_ret
 exact⟨rfl,(du _ _).alloc (dC _) _⟩
def lvl(s r:Int):Nat->Int
 |0=>0
 |k+1=>if((k:Int)+1)*(k+1) > s*s-r*r then lvl s r k else k+1
def AF{a:Int}(c : -90<=a)(d:a<=90):0<=a*a/\a*a<=8100:=by
 have h:=f7 (a:=90-a) (b:=90+a) (by omega) (by omega);have e:(90-a)*(90+a)=8100-a*a:=by
  rw[Int.sub_mul,f8,f8,Int.mul_comm a 90];omega
 refine⟨?_,by omega⟩
 rcases f9 0 a with h|h
 ·exact f7 h h
 ·have:=f7 (a:=-a) (b:=-a) (by omega) (by omega);rwa[gb]at this
def AG(s:Nat)(r:Int)(w:World)(y:1<=s)(z:s<=90)(A : -s<=r)(g:r<=s):Calls PL 39 #[fB gL (s:Int),fB gL r] w λe w'=>e=gG (fB gL (lvl s r s))/\w'=w:=by
 go_enter (fx (by decide) bA),Tryz.ntmps39
 go_wp2
 go_loop [5] (λv=>∃k:Nat,k<=s/\v=fB gL k/\lvl s r s=lvl s r k) (λv=>(intOf v).toNat)
 case atStart=>exact⟨s,dC _,rfl,rfl⟩
 case round=>
  obtain⟨k,B,rfl,i⟩:=hrel;have f:=eN i;clear i;have l:=AF (a:=(k:Int)) (by omega) (by omega);have m:=AF (a:=(s:Int)) (by omega) (by omega);have n:=AF (a:=r) (by omega) (by omega);obtain⟨o,C⟩:=l;obtain⟨p,q⟩:=m;obtain⟨t,u⟩:=n;have hd:(∃k':Nat,k=k'+1)\/k=0:=by
   cases k with
   |zero=>exact .inr rfl
   |succ k'=>exact .inl ⟨k',rfl⟩
  go_wp2
  ·have j:(s:Int)*s-r*r<(k:Int)*k:=by assumption
   rcases hd with⟨k',rfl⟩|rfl
   ·refine⟨⟨k',by omega,by congr 1;omega,?_⟩,by simp[intOf]⟩;rw[f.out,lvl,if_pos (by simpa using j)]
   ·exfalso;have D:r*r<=(s:Int)*s:=by
     rcases f9 0 r with h|h
     ·exact gc g g h (by omega)
     ·have e:=gc (a:=-r) (b:=-r) (c:=s) (d:=s) (by omega) (by omega) (by omega) (by omega);rwa[gb]at e
    simp at j;omega
  ·have x:(k:Int)*k<=(s:Int)*s-r*r:=by assumption
   go_ret
   refine⟨?_,rfl⟩
   rcases hd with⟨k',rfl⟩|rfl
   ·rw[f.out,lvl,if_neg (by simp at x ⊢;omega)];rfl
   ·rw[f.out];rfl
def ie(s r:Int):Value:=if bO s 1 90&&bO r (-90) 90 then(if s<r\/s < -r then fY #[fB gL 0,fB gL 10] else fY #[fB gL (lvl s r s.toNat),fB gL 0]) else fY #[fB gL 0,fB gL 1]
def uD(s r:Int)(w:World):Calls PL 13 #[fB gL s,fB gL r] w λe w'=>e=gG (ie s r)/\w'=w:=by
 by_cases d:bO s 1 90=true
 ·have i:1<=s/\s<=90:=by simp[bO]at d;exact d
  obtain⟨j,o⟩:=i;have b:=eN d;clear d;by_cases f:bO r (-90) 90=true
  ·have k : -90<=r/\r<=90:=by simp[bO]at f;exact f
   obtain⟨l,m⟩:=k;have c:=eN f;clear f;obtain⟨n,rfl⟩:=gd (a:=s) (by omega);by_cases g:(n:Int)<r
   ·go_enter (fx (by decide) bo),dd
    go_wp2_with (first|(go_at_call 28;((with_reducible refine(fN b.out _).mono ?_);rintro e w'⟨rfl,rfl⟩))|(go_at_call 28;refine(fN c.out _).mono ?_;rintro e w'⟨rfl,rfl⟩))
    go_ret2
    exact⟨by simp[ie,b.out,c.out,g],rfl⟩
   ·by_cases h:(n:Int) < -r
    ·go_enter (fx (by decide) bo),dd
     go_wp2_with (first|(go_at_call 28;((with_reducible refine(fN b.out _).mono ?_);rintro e w'⟨rfl,rfl⟩))|(go_at_call 28;refine(fN c.out _).mono ?_;rintro e w'⟨rfl,rfl⟩))
     go_ret2
     exact⟨by simp[ie,b.out,c.out,h],rfl⟩
    ·go_enter (fx (by decide) bo),dd
     go_wp2_with (first|(go_at_call 28;((with_reducible refine(fN b.out _).mono ?_);rintro e w'⟨rfl,rfl⟩))|(go_at_call 28;refine(fN c.out _).mono ?_;rintro e w'⟨rfl,rfl⟩)|(go_at_call 39;refine(AG _ _ _ (by omega) (by omega) (by omega) (by omega)).mono ?_;rintro e w'⟨rfl,rfl⟩))
     go_ret2
     exact⟨by simp[ie,b.out,c.out,g,h],rfl⟩
  ·have c:=eN (aV f);clear f
   go_enter (fx (by decide) bo),dd
   go_wp2_with (first|(go_at_call 28;((with_reducible refine(fN b.out _).mono ?_);rintro e w'⟨rfl,rfl⟩))|(go_at_call 28;refine(pZ c.out _).mono ?_;rintro e w'⟨rfl,rfl⟩))
   go_ret2
   exact⟨by simp[ie,b.out,c.out],rfl⟩
 ·have b:=eN (aV d);clear d
  go_enter (fx (by decide) bo),dd
  go_wp2_with (go_at_call 28;refine(pZ b.out _).mono ?_;rintro e w'⟨rfl,rfl⟩)
  go_ret2
  exact⟨by simp[ie,b.out],rfl⟩
def rJ(n a b:Int)(w:World):Calls PL 34 #[fB gL n,fB gL a,fB gL b] w λe w'=>e=gG (fA (bO n a b))/\w'=w:=by
 go_enter (fx (by decide) bw),Tryz.ntmps34
 go_wp2
 all_goals (go_ret;simp[bO];try omega)
def yu(c:Nat)(w:World):Calls PL 96 #[fB .u8 c] w λe w'=>e=gG (fA (bO c 97 122))/\w'=w:=by
 go_enter (fx (by decide) co),Tryz.ntmps96
 go_wp2
 all_goals (go_ret;simp[bO];try omega)
def AH(c:Nat)(w:World):Calls PL 97 #[fB .u8 c] w λe w'=>e=gG (fA (bO c 48 57))/\w'=w:=by
 go_enter (fx (by decide) cp),Tryz.ntmps97
 go_wp2
 all_goals (go_ret;simp[bO];try omega)
def kB(a b low c:Int)(w:World):Calls PL 35 #[fJ #[fB gL a,fB gL b],fB gL low,fB gL c] w (aO (fA (eK a b low c)) w):=by
 go_enter (fx (by decide) bX),Tryz.ntmps35
 go_wp2_with (go_at_call 34;refine(rJ _ _ _ _).mono ?_;rintro e w'⟨rfl,rfl⟩)
 all_goals (go_ret;refine⟨?_,(du _ _).alloc (dC _) _⟩;simp_all [eK,bO];try omega)
def AI(a b:Int)(w:World)(c : -90<=a)(d:a<=90):Calls PL 61 #[fJ #[fB gL a,fB gL b]] w (aO (fB gL (max b (-a))) w):=by
 go_enter (fx (by decide) cc),Tryz.ntmps61
 go_wp2
 all_goals (go_ret;refine⟨aC (by omega),(du _ _).alloc (dC _) _⟩)
def Ew{c:Nat}(h:bO c 97 122=true)(w:World):Calls PL 96 #[fB .u8 c] w λe w'=>e=gG (fA true)/\w=w':=by
 have:=yu c w;rw[h]at this;exact this.mono λ_ _⟨a,b⟩=>⟨a,b.symm⟩
def yw{c:Nat}(h:bO c 97 122=false)(w:World):Calls PL 96 #[fB .u8 c] w λe w'=>e=gG (fA false)/\w=w':=by
 have:=yu c w;rw[h]at this;exact this.mono λ_ _⟨a,b⟩=>⟨a,b.symm⟩
def Vf{c:Nat}(h:bO c 48 57=true)(w:World):Calls PL 97 #[fB .u8 c] w λe w'=>e=gG (fA true)/\w=w':=by
 have:=AH c w;rw[h]at this;exact this.mono λ_ _⟨a,b⟩=>⟨a,b.symm⟩
def Vg{c:Nat}(h:bO c 48 57=false)(w:World):Calls PL 97 #[fB .u8 c] w λe w'=>e=gG (fA false)/\w=w':=by
 have:=AH c w;rw[h]at this;exact this.mono λ_ _⟨a,b⟩=>⟨a,b.symm⟩
def kH{n a b:Int}(h:bO n a b=true)(w:World):Calls PL 34 #[fB gL n,fB gL a,fB gL b] w λe w'=>e=gG (fA true)/\w=w':=by
 have:=rJ n a b w;rw[h]at this;exact this.mono λ_ _⟨a,b⟩=>⟨a,b.symm⟩
def vQ{n a b:Int}(h:bO n a b=false)(w:World):Calls PL 34 #[fB gL n,fB gL a,fB gL b] w λe w'=>e=gG (fA false)/\w=w':=by
 have:=rJ n a b w;rw[h]at this;exact this.mono λ_ _⟨a,b⟩=>⟨a,b.symm⟩
def AJ{s:ByteArray}{k:Nat}(h:k<s.size):jv s k=(s[k]'h).toNat:=by simp[jv,h]
def vv(s:ByteArray)(w:World)(hs:s.size<=100):Calls PL 60 #[fP s] w λe w'=>e=gG (fA (ku s))/\w=w':=by
 by_cases g:bO (↑s.size) 1 12=true
 ·have o:0<s.size:=by simp[bO]at g;omega
  have d:=eN g;clear g;by_cases n:bO ((s[0]'o).toNat:Int) 97 122=true
  ·have l:=eN n;clear n
   go_enter (fx (by decide) cl),de
   go_wp2_with (first|(go_at_call 34;refine(kH d.out _).mono ?_;rintro e w'⟨rfl,rfl⟩)|(go_at_call 96;refine(Ew l.out _).mono ?_;rintro e w'⟨rfl,rfl⟩))
   go_loop [3] (λv=>∃k:Nat,k<=s.size/\v=fB gL k/\∀j,j<k->wA (jv s j) j=true) (λv=>s.size-(intOf v).toNat)
   case atStart=>exact⟨0,dK _,rfl,λj b=>absurd b (dL _)⟩
   case round=>
    obtain⟨k,u,rfl,r⟩:=hrel;have p:=eN r;clear r;by_cases f:k<s.size
    ·have hb:=AJ f;have q:=eN hb;clear hb;by_cases hl:bO ((s[k]'f).toNat:Int) 97 122=true
     ·have c:=eN hl;clear hl
      go_wp2_with (go_at_call 96;refine(Ew c.out _).mono ?_;rintro e w'⟨rfl,rfl⟩)
      refine⟨⟨k+1,f,by go_num,λj b=>?_⟩,by simp[intOf];omega⟩
      rcases Nat.lt_succ_iff_lt_or_eq.1 b with h|h
      ·exact p.out j h
      ·rw[h,q.out];simp[wA,c.out]
     ·have c:=eN (aV hl);clear hl;have t:k≠0:=λe=>by
       subst e;have a:=c.out;rw[l.out]at a;cases a
      by_cases hd:bO ((s[k]'f).toNat:Int) 48 57=true
      ·have m:=eN hd;clear hd
       go_wp2_with (first|(go_at_call 96;refine(yw c.out _).mono ?_;rintro e w'⟨rfl,rfl⟩)|(go_at_call 97;refine(Vf m.out _).mono ?_;rintro e w'⟨rfl,rfl⟩))
       refine⟨⟨k+1,f,by go_num,λj b=>?_⟩,by simp[intOf];omega⟩
       rcases Nat.lt_succ_iff_lt_or_eq.1 b with h|h
       ·exact p.out j h
       ·rw[h,q.out];simp[wA,m.out,t]
      ·have m:=eN (aV hd);clear hd
       go_wp2_with (first|(go_at_call 96;refine(yw c.out _).mono ?_;rintro e w'⟨rfl,rfl⟩)|(go_at_call 97;refine(Vg m.out _).mono ?_;rintro e w'⟨rfl,rfl⟩))
       go_ret
       exact⟨by rw[qd f (by rw[q.out];simp[wA,c.out,m.out])];rfl,rfl⟩
    ·obtain rfl:k=s.size:=by omega
     go_wp2
     go_ret
     refine⟨?_,rfl⟩;have:((eb s.size).all λi=>wA (jv s i) i)=true:=by
      rw[ed];intro j b;exact p.out j (List.mem_range.1 b)
     simp[ku,this,d.out]
  ·have l:=eN (aV n);clear n
   go_enter (fx (by decide) cl),de
   go_wp2_with (first|(go_at_call 34;refine(kH d.out _).mono ?_;rintro e w'⟨rfl,rfl⟩)|(go_at_call 96;refine(yw l.out _).mono ?_;rintro e w'⟨rfl,rfl⟩))
   go_ret
   exact⟨by rw[qd o (by rw[AJ o];simp[wA,l.out])];rfl,rfl⟩
 ·have d:=eN (aV g);clear g
  go_enter (fx (by decide) cl),de
  go_wp2_with (go_at_call 34;refine(vQ d.out _).mono ?_;rintro e w'⟨rfl,rfl⟩)
  go_ret
  exact⟨by simp[ku,d.out],rfl⟩
def dr{B:Nat}{a w:World}(h:Below B a w)(n:Nat):Below B a (w.drewN n):=⟨h.os,h.tape,h.output,h.size,h.block⟩
def Vh(b:Option Addr)(k o n c m:Nat)(x:Nat->Int)(w:World)(D:n<=20)(E:m<=20)(t:0<n->k<w.heap.size)(hs:0<n->b=some ⟨k,o,none⟩)(u:∀i,i<n->w.cell? ⟨k,o+i,none⟩=some (fB gL (x i))) :
 Calls PL 62 #[fO b n c,fB gL (m:Int)] w (aO (fB gL (ia n (fy m x))) w):=by
 have v:=eN u;have B:=eN hs;clear u hs
 go_enter (fx (by decide) bv),Tryz.ntmps62
 go_wp2
 go_loopw [5] (λi wr=>∃q:Nat,q<=n/\i=fB gL q/\(∀j,j<q->fy m x j=0)/\Below w.heap.size w wr) (λi _=>n-(intOf i).toNat)
 case atStart=>exact⟨0,dK _,rfl,λj g=>absurd g (dL _),du _ _⟩
 case round=>
  obtain⟨q,F,rfl,y,d⟩:=hrel;have l:=eN y;clear y;by_cases f:q<n
  ·obtain rfl:=B.out (by omega);have C:=(d.cell (p:=⟨k,o+q,none⟩) (t (by omega))).trans (v.out q f);by_cases hi:bO (x q) 0 (m-1)=true
   ·have a:=eN hi;clear hi;by_cases r:0<q
    ·have H:=(d.cell (p:=⟨k,o+(q-1),none⟩) (t (by omega))).trans (v.out (q-1) (by omega));have I:(0:Int)<q:=by omega
     have J:(q:Int)<n:=by omega
     have K:(q:Int)-1<n:=by omega
     have L:(0:Int)<=(q:Int)-1:=by omega
     go_wp2_with (go_at_call 34;refine(kH a.out _).mono ?_;rintro e w'⟨rfl,rfl⟩)
     go_quiet (fail)
     go_wp2
     ·have z:fy m x q=7:=by
       have t2:x q<=x (q-1):=by assumption
       simp only[fy];rw[if_pos a.out,if_pos ⟨r,t2⟩]
      go_ret
      exact⟨aC ((eG l.out f (by rw[z];decide)).trans z),dr d _⟩
     ·have s:fy m x q=0:=by
       have t2:x (q-1)<x q:=by assumption
       simp only[fy];rw[if_pos a.out,if_neg (by omega)]
      refine⟨⟨q+1,f,by go_num,λj g=>?_,dr d _⟩,by simp[intOf];omega⟩
      rcases Nat.lt_succ_iff_lt_or_eq.1 g with h|h
      ·exact l.out j h
      ·rw[h];exact s
    ·obtain rfl:q=0:=by omega
     rw[dT]at C
     go_wp2_with (go_at_call 34;refine(kH a.out _).mono ?_;rintro e w'⟨rfl,rfl⟩)
     go_quiet (fail)
     go_wp2
     have s:fy m x 0=0:=by
      simp only[fy];rw[if_pos a.out,if_neg (by omega)]
     refine⟨⟨1,f,by go_num,λj g=>?_,dr d _⟩,by simp[intOf];omega⟩;obtain rfl:j=0:=by omega
     exact s
   ·have a:=eN (aV hi);clear hi
    go_wp2_with (go_at_call 34;refine(vQ a.out _).mono ?_;rintro e w'⟨rfl,rfl⟩)
    have A:fy m x q=6:=by simp only[fy];rw[a.out];rfl
    go_ret
    exact⟨aC ((eG l.out f (by rw[A];decide)).trans A),d⟩
  ·obtain rfl:q=n:=by omega
   go_wp2
   go_ret
   exact⟨aC (cz l.out),d⟩
def Ex{a b c d:Int}:eB a b=eB c d↔(a=c/\b=d)\/(a=d/\b=c):=by
 simp only[eB,Prod.mk.injEq];omega
def aao{w:World}{k:Nat}{x0 x1 x2:Value}{t:ab}(h:w.heap[k]?=some (gN #[x0,x1,x2] t)):w.cell? ⟨k,0,none⟩=some x0/\w.cell? ⟨k,1,none⟩=some x1/\w.cell? ⟨k,2,none⟩=some x2:=by
 simp[fb,h]
def getElem?_lt'{b:Type}{a:Array b}{i:Nat}{x:b}(h:a[i]?=some x):i<a.size:=(Array.getElem?_eq_some_iff.1 h).1
def Ic(l p:Int)(b:Option Addr)(k o n c:Nat)(x:Nat->Int×Int×Int)(J K v5:Value)(w:World)(hn:n<=20)(J0:1<=p)(tL:p<=6)(t:k<w.heap.size)(hs:0<n->b=some ⟨k,o,none⟩)
 (Q:∀i,i<n->w.cell? ⟨k,o+i*3,none⟩=some (fB gL (x i).1)) (C:∀i,i<n->w.cell? ⟨k,o+i*3+1,none⟩=some (fB gL (x i).2.1)) (D:∀i,i<n->w.cell? ⟨k,o+i*3+2,none⟩=some (fB gL (x i).2.2)) :
 Calls PL 36 #[fJ #[fB gL l,fB gL p,J,fO b n c,K,v5]] w (aO (fB gL (kz p n x)) w):=by
 have R:=eN Q;have S:=eN C;have T:=eN D;have HS:=eN hs;clear Q C D hs;by_cases hb:9<n
 ·go_enter (fx (by decide) b1),df
  go_wp2
  go_ret
  exact⟨by simp[kz,hb],(du _ _).alloc (dC _) _⟩
 ·go_enter (fx (by decide) b1),df
  go_wp2
  go_loopw [3] (λi wr=>∃m:Nat,m<=n/\i=fB gL m/\(∀j,j<m->fQ p x j=0)/\wr.heap[w.heap.size]?=some (gN #[fB gL l,fB gL p,J,fO b n c,K,v5] 27)/\Below w.heap.size w wr) (λi _=>n-(intOf i).toNat)
  case atStart=>exact⟨0,dK _,rfl,λj r=>absurd r (dL _),au _ _,(du _ _).alloc (dC _) _⟩
  case round=>
   obtain⟨m,U,rfl,V,W,u⟩:=hrel;have s:=eN V;have L:=eN W;clear V W;obtain⟨y,rfl⟩:∃y:World,y=wr:=⟨_,rfl⟩
   obtain⟨d0,d1,d2,d3,d4,d5⟩:=bf L.out;have mF:w.heap.size<y.heap.size:=getElem?_lt' L.out;by_cases f:m<n
   ·obtain rfl:=HS.out (by omega);have c0:=(u.cell (p:=⟨k,o+m*3,none⟩) t).trans (R.out m f);have c1:=(u.cell (p:=⟨k,o+m*3+1,none⟩) t).trans (S.out m f);have c2:=(u.cell (p:=⟨k,o+m*3+2,none⟩) t).trans (T.out m f);have B:Below w.heap.size w (y.alloc (gN #[fB gL (x m).1,fB gL (x m).2.1,fB gL (x m).2.2] 45)):=u.alloc u.size _;by_cases F:bO (x m).1 0 (p-1)=true
    ·have a:=eN F;clear F;by_cases H:bO (x m).2.1 0 (p-1)=true
     ·have d:=eN H;clear H;by_cases z:(x m).1=(x m).2.1
      ·have E:=eN z;have Xo:((x m).1==(x m).2.1)=true:=by simpa using z
       clear z
       go_wp2_with (first|(go_at_call 34;((with_reducible refine(kH a.out _).mono ?_);rintro e w'⟨rfl,rfl⟩))|(go_at_call 34;((with_reducible refine(kH d.out _).mono ?_);rintro e w'⟨rfl,rfl⟩)))
       go_ret
       exact⟨aC (dh (v:=8) hb s.out f (by simp[fQ,a.out,d.out,E.out]) (by decide)),B⟩
      ·have E:=eN z;have Xo:((x m).1==(x m).2.1)=false:=by simpa using z
       clear z;by_cases I:bO (x m).2.2 1 999=true
       ·have A:=eN I;clear I
        go_wp2_with (first|(go_at_call 34;((with_reducible refine(kH a.out _).mono ?_);rintro e w'⟨rfl,rfl⟩))|(go_at_call 34;((with_reducible refine(kH d.out _).mono ?_);rintro e w'⟨rfl,rfl⟩))|(go_at_call 34;((with_reducible refine(kH A.out _).mono ?_);rintro e w'⟨rfl,rfl⟩)))
        go_loopw [5] (λi M=>∃q:Nat,q<=m/\i=fB gL q/\(∀j,j<q->eB (x j).1 (x j).2.1≠eB (x m).1 (x m).2.1)/\M.heap[w.heap.size]?=some (gN #[fB gL l,fB gL p,J,fO (some ⟨k,o,none⟩) n c,K,v5] 27)/\M.heap[y.heap.size]?=some (gN #[fB gL (x m).1,fB gL (x m).2.1,fB gL (x m).2.2] 45)/\Below w.heap.size w M) (λi _=>m-(intOf i).toNat)
        case atStart=>exact⟨0,dK _,rfl,λj r=>absurd r (dL _),(dv _ _ _ mF).trans L.out,au _ _,B⟩
        case round=>
         obtain⟨q,hq,rfl,X,Y,Z,g⟩:=hrel;have HJ:=eN X;have N:=eN Y;have O:=eN Z;clear X Y Z;obtain⟨f0,f1,f2,f3,f4,f5⟩:=bf N.out;obtain⟨g0,g1,g2⟩:=aao O.out;have dx:y.heap.size<wr.heap.size:=getElem?_lt' O.out;have wD:w.heap.size<wr.heap.size:=by omega
         by_cases qN:q<m
         ·have k0:=(g.cell (p:=⟨k,o+q*3,none⟩) t).trans (R.out q (by omega));have k1:=(g.cell (p:=⟨k,o+q*3+1,none⟩) t).trans (S.out q (by omega));have k2:=(g.cell (p:=⟨k,o+q*3+2,none⟩) t).trans (T.out q (by omega));have i2:(q:Int)<n:=by omega
          go_wp2
          any_goals (
           go_ret
           have P:eB (x q).1 (x q).2.1=eB (x m).1 (x m).2.1:=Ex.2 (by simp_all);have nt:eB (x m).1 (x m).2.1∈(eb m).map (λj=>eB (x j).1 (x j).2.1):=List.mem_map.2 ⟨q,List.mem_range.2 qN,P⟩
           exact⟨aC (dh (v:=5) hb s.out f (by simp only[fQ];rw[a.out,d.out,A.out,if_neg E.out,if_pos nt];rfl) (by decide)),g.alloc g.size _⟩)
          all_goals (
           have P:eB (x q).1 (x q).2.1≠eB (x m).1 (x m).2.1:=λe=>by
            have e2:=Ex.1 e;have e3:=E.out
            simp_all
           refine⟨⟨q+1,qN,by go_num,λj r=>?_,(dv _ _ _ wD).trans N.out,(dv _ _ _ dx).trans O.out,g.alloc g.size _⟩,by simp[intOf];omega⟩
           rcases Nat.lt_succ_iff_lt_or_eq.1 r with h|h
           ·exact HJ.out j h
           ·rw[h];exact P)
         ·obtain rfl:q=m:=by omega
          go_wp2
          refine⟨⟨q+1,f,by go_num,λj r=>?_,N.out,g⟩,by simp[intOf];omega⟩
          rcases Nat.lt_succ_iff_lt_or_eq.1 r with h|h
          ·exact s.out j h
          ·have uB:eB (x q).1 (x q).2.1∉(eb q).map (λj=>eB (x j).1 (x j).2.1):=λU=>by
            obtain⟨j,C,D⟩:=List.mem_map.1 U;exact HJ.out j (List.mem_range.1 C) D
           rw[h];simp only[fQ];rw[a.out,d.out,A.out,if_neg E.out,if_neg uB];rfl
       ·have A:=eN (aV I);clear I
        go_wp2_with (first|(go_at_call 34;((with_reducible refine(kH a.out _).mono ?_);rintro e w'⟨rfl,rfl⟩))|(go_at_call 34;((with_reducible refine(kH d.out _).mono ?_);rintro e w'⟨rfl,rfl⟩))|(go_at_call 34;((with_reducible refine(vQ A.out _).mono ?_);rintro e w'⟨rfl,rfl⟩)))
        go_ret
        exact⟨aC (dh (v:=1) hb s.out f (by simp[fQ,a.out,d.out,E.out,A.out]) (by decide)),B⟩
     ·have d:=eN (aV H);clear H
      go_wp2_with (first|(go_at_call 34;((with_reducible refine(kH a.out _).mono ?_);rintro e w'⟨rfl,rfl⟩))|(go_at_call 34;((with_reducible refine(vQ d.out _).mono ?_);rintro e w'⟨rfl,rfl⟩)))
      go_ret
      exact⟨aC (dh (v:=6) hb s.out f (by simp[fQ,a.out,d.out]) (by decide)),B⟩
    ·have a:=eN (aV F);clear F
     go_wp2_with (first|(go_at_call 34;((with_reducible refine(vQ a.out _).mono ?_);rintro e w'⟨rfl,rfl⟩)))
     go_ret
     exact⟨aC (dh (v:=6) hb s.out f (by simp[fQ,a.out]) (by decide)),B⟩
   ·obtain rfl:m=n:=by omega
    go_wp2
    go_ret
    exact⟨aC (by rw[kz,if_neg hb];exact cz s.out),u⟩
def J9{s:ByteArray}(h:ku s=true)(w:World)(hs:s.size<=100):Calls PL 60 #[fP s] w λe w'=>e=gG (fA true)/\w=w':=by
 have:=vv s w hs;rwa[h]at this
def Ka{s:ByteArray}(h:ku s=false)(w:World)(hs:s.size<=100):Calls PL 60 #[fP s] w λe w'=>e=gG (fA false)/\w=w':=by
 have:=vv s w hs;rwa[h]at this
def sZ(a b:ByteArray):(a.toList==b.toList)=decide (a=b):=by rw[<-beq_toListBytes,bytes_beq]
def yx(C:CD)(m:Nat)(w:World)(h:C.At w)(b:m<C.n5):Calls PL 38 #[fJ C.val,fB gL (m:Int)] w (aO (fB gL (iI C.n4 C.x5 m)) w):=by
 have H:=eN h;have c0:=h.FI m b;have c1:=h.HU m b;have c2:=h.J6 m b;have Z:=h.s5 (by omega);have L:=h.h5;have M:=h.nm5 m b;have m5:=h.m5;have m4:=h.m4;clear h;obtain⟨l,p,N,k2,o2,O,P,x2,Q,k3,o3,R,S,x3,T,k4,o4,I,U,x4,b5,u,v,d,V,a⟩:=C;simp only at c0 c1 c2 Z L M m5 m4 b ⊢;subst Z;have hmi:(m:Int)<d:=by omega
 by_cases c:ku (a m).1=true
 ·have n:=eN c;clear c
  go_enter (fx (by decide) b8),di
  go_wp2_with (go_at_call 60;refine(J9 n.out _ M).mono ?_;rintro e w'⟨rfl,rfl⟩)
  go_loopw [6] (λi wr=>∃q:Nat,q<=m/\i=fB gL q/\(∀j,j<q->(a j).1≠(a m).1)/\wr.heap[w.heap.size]?=some (gN #[fB gL l,fB gL p,fO N O P,fO Q R S,fO T I U,fO (some ⟨u,v,none⟩) d V] 27)/\wr.heap[w.heap.size+1]?=some (gN #[fP (a m).1,fB gL (a m).2.1,fB gL (a m).2.2] 94)/\Below w.heap.size w wr) (λi _=>m-(intOf i).toNat)
  case atStart=>
   refine⟨0,dK _,rfl,λj f=>absurd f (dL _),(dv _ _ _ (by simp)).trans (au _ _),?_,((du _ _).alloc (dC _) _).alloc (by simp) _⟩;have:=au (w.alloc (gN #[fB gL l,fB gL p,fO N O P,fO Q R S,fO T I U,fO (some ⟨u,v,none⟩) d V] 27)) (gN #[fP (a m).1,fB gL (a m).2.1,fB gL (a m).2.2] 94);simpa using this
  case round=>
   obtain⟨q,hq,rfl,x,y,z,A⟩:=hrel;have HJ:=eN x;have o:=eN y;have s:=eN z;clear x y z;obtain⟨f0,f1,f2,f3,f4,f5⟩:=bf o.out;obtain⟨g0,g1,g2⟩:=aao s.out;by_cases qN:q<m
   ·have k0:=(A.cell (p:=⟨u,v+q*3,none⟩) L).trans (H.out.FI q (by show q<d;omega));simp only at k0;have i2:(q:Int)<d:=by omega
    go_wp2
    go_quiet (fail)
    go_wp2
    ·have g:(a q).1=(a m).1:=by
      have t:((a q).1.toList==(a m).1.toList)=true:=by assumption
      rw[sZ]at t;simpa using t
     have W:(a m).1∈(eb m).map (λj=>(a j).1):=List.mem_map.2 ⟨q,List.mem_range.2 qN,g⟩
     go_ret
     exact⟨aC (by simp[iI,iH,n.out,W]),dr A _⟩
    ·have g:(a q).1≠(a m).1:=by
      have t:((a q).1.toList==(a m).1.toList)=false:=by assumption
      rw[sZ]at t;simpa using t
     refine⟨⟨q+1,qN,by go_num,λj f=>?_,o.out,s.out,dr A _⟩,by simp[intOf];omega⟩
     rcases Nat.lt_succ_iff_lt_or_eq.1 f with h|h
     ·exact HJ.out j h
     ·rw[h];exact g
   ·obtain rfl:q=m:=by omega
    have DR:iH (a q).1 ((eb q).map λj=>(a j).1)=0:=by
     have c:(a q).1∉(eb q).map (λj=>(a j).1):=λb=>by
      obtain⟨j,X,Y⟩:=List.mem_map.1 b;exact HJ.out j (List.mem_range.1 X) Y
     simp only[iH];rw[if_pos n.out,if_neg c]
    have J:=eN DR;clear DR;by_cases K:bO (a q).2.1 0 (I-1)=true
    ·have k:=eN K;clear K;obtain⟨wo,rfl⟩:∃wo:World,wo=wr:=⟨_,rfl⟩
     go_wp2_with (first|(go_at_call 34;((with_reducible refine(kH k.out _).mono ?_);rintro e w'⟨rfl,rfl⟩)))
     go_loopw [7] (λi wr=>∃r:Nat,r<=q/\i=fB gL r/\(∀j,j<r->(a j).2.1≠(a q).2.1)/\wr.heap[w.heap.size]?=some (gN #[fB gL l,fB gL p,fO N O P,fO Q R S,fO T I U,fO (some ⟨u,v,none⟩) d V] 27)/\wr.heap[w.heap.size+1]?=some (gN #[fP (a q).1,fB gL (a q).2.1,fB gL (a q).2.2] 94)/\Below w.heap.size w wr) (λi _=>q-(intOf i).toNat)
     case atStart=>exact⟨0,dK _,rfl,λj f=>absurd f (dL _),o.out,s.out,A⟩
     case round=>
      obtain⟨r,hr,rfl,x,y,z,B⟩:=hrel;have HK:=eN x;have o:=eN y;have s:=eN z;clear x y z;obtain⟨f0,f1,f2,f3,f4,f5⟩:=bf o.out;obtain⟨g0,g1,g2⟩:=aao s.out;by_cases E:r<q
      ·have k1:=(B.cell (p:=⟨u,v+r*3+1,none⟩) L).trans (H.out.HU r (by show r<d;omega));simp only at k1;have i2:(r:Int)<d:=by omega
       go_wp2
       go_quiet (fail)
       go_wp2
       ·have g:(a r).2.1=(a q).2.1:=by
         have t:((a r).2.1==(a q).2.1)=true:=by assumption
         simpa using t
        have W:(a q).2.1∈(eb q).map (λj=>(a j).2.1):=List.mem_map.2 ⟨r,List.mem_range.2 E,g⟩
        go_ret
        exact⟨aC (by simp only[iI];rw[if_pos J.out,k.out,if_pos W];rfl),dr B _⟩
       ·have g:(a r).2.1≠(a q).2.1:=by
         have t:((a r).2.1==(a q).2.1)=false:=by assumption
         simpa using t
        refine⟨⟨r+1,E,by go_num,λj f=>?_,o.out,s.out,dr B _⟩,by simp[intOf];omega⟩
        rcases Nat.lt_succ_iff_lt_or_eq.1 f with h|h
        ·exact HK.out j h
        ·rw[h];exact g
      ·obtain rfl:r=q:=by omega
       have c:(a r).2.1∉(eb r).map (λj=>(a j).2.1):=λb=>by
        obtain⟨j,X,Y⟩:=List.mem_map.1 b;exact HK.out j (List.mem_range.1 X) Y
       have F:=eN c;clear c;by_cases hd:bO (a r).2.2 0 12=true
       ·have D:=eN hd;clear hd
        go_wp2_with (first|(go_at_call 34;((with_reducible refine(kH D.out _).mono ?_);rintro e w'⟨rfl,rfl⟩)))
        go_ret
        exact⟨aC (by simp only[iI];rw[if_pos J.out,k.out,if_neg F.out,D.out];rfl),B⟩
       ·have D:=eN (aV hd);clear hd
        go_wp2_with (first|(go_at_call 34;((with_reducible refine(vQ D.out _).mono ?_);rintro e w'⟨rfl,rfl⟩)))
        go_ret
        exact⟨aC (by simp only[iI];rw[if_pos J.out,k.out,if_neg F.out,D.out];rfl),B⟩
    ·have k:=eN (aV K);clear K
     go_wp2_with (first|(go_at_call 34;((with_reducible refine(vQ k.out _).mono ?_);rintro e w'⟨rfl,rfl⟩)))
     go_ret
     exact⟨aC (by simp only[iI];rw[if_pos J.out,k.out];rfl),A⟩
 ·have n:=eN (aV c);clear c
  go_enter (fx (by decide) b8),di
  go_wp2_with (go_at_call 60;refine(Ka n.out _ M).mono ?_;rintro e w'⟨rfl,rfl⟩)
  go_ret
  exact⟨aC (by simp[iI,iH,n.out]),((du _ _).alloc (dC _) _).alloc (by simp) _⟩
def Ey{a b low c:Int}(h:eK a b low c=true)(w:World):Calls PL 35 #[fJ #[fB gL a,fB gL b],fB gL low,fB gL c] w (aO (fA true) w):=by
 have:=kB a b low c w;rwa[h]at this
def Ez{a b low c:Int}(h:eK a b low c=false)(w:World):Calls PL 35 #[fJ #[fB gL a,fB gL b],fB gL low,fB gL c] w (aO (fA false) w):=by
 have:=kB a b low c w;rwa[h]at this
def Vi(n a b:Int)(w:World):Calls PL 34 #[fB gL n,fB gL a,fB gL b] w λe w'=>e=gG (fA (bO n a b))/\w=w':=(rJ n a b w).mono λ_ _⟨a,b⟩=>⟨a,b.symm⟩
def gx{w:World}{k:Nat}{x0 x1 x2 x3 x4 a b c d e f g:Value}{t:ab}(h:w.heap[k]?=some (gN #[x0,x1,x2,x3,x4,a,b,c,d,e,f,g] t)) :
 w.cell? ⟨k,0,none⟩=some x0/\w.cell? ⟨k,1,none⟩=some x1/\w.cell? ⟨k,2,none⟩=some x2/\w.cell? ⟨k,3,none⟩=some x3/\w.cell? ⟨k,4,none⟩=some x4/\w.cell? ⟨k,5,none⟩=some a/\w.cell? ⟨k,6,none⟩=some b/\w.cell? ⟨k,7,none⟩=some c/\w.cell? ⟨k,8,none⟩=some d/\w.cell? ⟨k,9,none⟩=some e/\w.cell? ⟨k,10,none⟩=some f/\w.cell? ⟨k,11,none⟩=some g:=by
 simp[fb,h]
def aap{w:World}{k:Nat}{x0 x1 x2 x3 x4 a b c d e f g:Value}{t:ab}(h:w.heap[k]?=some (gN #[x0,x1,x2,x3,x4,a,b,c,d,e,f,g] t)):w.cell? ⟨k,0,none⟩=some x0:=(gx h).1
def Xq{w W:World}{x0 x1 x2 x3 x4 a c d e f g i:Value}{B:Array Value}{t u:ab}(h:W.heap[w.heap.size+1]?=some (gN #[x0,x1,x2,x3,x4,a,c,d,e,f,g,i] t))(k:W.heap[w.heap.size]?=some (gN B u))(b:Below w.heap.size w W) :
 W.cell? ⟨w.heap.size+1,1,none⟩=some x1/\W.cell? ⟨w.heap.size+1,3,none⟩=some x3/\W.cell? ⟨w.heap.size+1,4,none⟩=some x4/\(W.heap[w.heap.size]?=some (gN B u)/\W.heap[w.heap.size+1]?=some (gN #[x0,x1,x2,x3,x4,a,c,d,e,f,g,i] t)/\Below w.heap.size w W):=
 ⟨(gx h).2.1,(gx h).2.2.2.1,(gx h).2.2.2.2.1,k,h,b⟩
def aaq{w W a:World}{x0 x1 x2 x3 x4 d e f g i j l:Value}{B:Array Value}{t u:ab}(m:W.cell? ⟨w.heap.size+1,1,none⟩=some x1)(n:W.cell? ⟨w.heap.size+1,3,none⟩=some x3)(o:W.cell? ⟨w.heap.size+1,4,none⟩=some x4)(k:W.heap[w.heap.size]?=some (gN B u))(h:W.heap[w.heap.size+1]?=some (gN #[x0,x1,x2,x3,x4,d,e,f,g,i,j,l] t))(b:Below w.heap.size w W)(c:Below W.heap.size W a) :
 a.cell? ⟨w.heap.size+1,1,none⟩=some x1/\a.cell? ⟨w.heap.size+1,3,none⟩=some x3/\a.cell? ⟨w.heap.size+1,4,none⟩=some x4/\(a.heap[w.heap.size]?=some (gN B u)/\a.heap[w.heap.size+1]?=some (gN #[x0,x1,x2,x3,x4,d,e,f,g,i,j,l] t)/\Below w.heap.size w a):=
 Xq ((c.block _ (getElem?_lt' h)).trans h) ((c.block _ (getElem?_lt' k)).trans k) (Below.on b c)
def ED(C:CD)(m:Nat)(w:World)(h:C.At w)(b:m<C.n4)(J0:1<=C.p)(u:C.p<=6):Calls PL 37 #[fJ C.val,fB gL (m:Int)] w (aO (fB gL (gM C.p C.n2 C.n3 C.x4 m)) w):=by
 have H:=eN h;have c0:=h.AD m b;have c1:=h.dB m b 1 (by omega) (by omega);have c2:=h.dB m b 2 (by omega) (by omega);have c3:=h.dB m b 3 (by omega) (by omega);have c4:=h.dB m b 4 (by omega) (by omega);have c5:=h.dB m b 5 (by omega) (by omega);have c6:=h.dB m b 6 (by omega) (by omega);have c7:=h.dB m b 7 (by omega) (by omega);have c8:=h.dB m b 8 (by omega) (by omega);have c9:=h.dB m b 9 (by omega) (by omega);have V:=h.dB m b 10 (by omega) (by omega);have X:=h.nj m b;have s4:=h.s4 (by omega);have h4:=h.h4;have Y:=(h.cu m b).1;have Tl:=(h.cu m b).2;have m4:=h.m4;have m2:=h.m2;have m3:=h.m3;clear h;obtain⟨l,p,J,k2,o2,v,K,x2,L,k3,o3,M,N,x3,b4,z,A,o,O,x4,P,k5,o5,Q,R,x5⟩:=C;simp only at c0 c1 c2 c3 c4 c5 c6 c7 c8 c9 V X s4 h4 Y Tl m4 m2 m3 b J0 u ⊢;subst s4;have hmi:(m:Int)<o:=by omega
 by_cases x:ku (x4 m).name=true
 ·have y:=eN x;clear x
  go_enter (fx (by decide) b7),dj
  go_wp2_with (go_at_call 60;refine(J9 y.out _ Y).mono ?_;rintro e w'⟨rfl,rfl⟩)
  go_loopw [6] (λi wr=>∃q:Nat,q<=m/\i=fB gL q/\(∀j,j<q->(x4 j).name≠(x4 m).name)/\wr.heap[w.heap.size]?=some (gN #[fB gL l,fB gL p,fO J v K,fO L M N,fO (some ⟨z,A,none⟩) o O,fO P Q R] 27)/\wr.heap[w.heap.size+1]?=some (gN #[fP (x4 m).name,fB gL ((x4 m).n 1),fB gL ((x4 m).n 2),fB gL ((x4 m).n 3),fB gL ((x4 m).n 4),fB gL ((x4 m).n 5),fB gL ((x4 m).n 6),fB gL ((x4 m).n 7),fB gL ((x4 m).n 8),fB gL ((x4 m).n 9),fB gL ((x4 m).n 10),fO (x4 m).lb (x4 m).ln (x4 m).lc] 42)/\Below w.heap.size w wr) (λi _=>m-(intOf i).toNat)
  case atStart=>
   refine⟨0,dK _,rfl,λj Z=>absurd Z (dL _),(dv _ _ _ (by simp)).trans (au _ _),?_,((du _ _).alloc (dC _) _).alloc (by simp) _⟩;have:=au (w.alloc (gN #[fB gL l,fB gL p,fO J v K,fO L M N,fO (some ⟨z,A,none⟩) o O,fO P Q R] 27)) (gN #[fP (x4 m).name,fB gL ((x4 m).n 1),fB gL ((x4 m).n 2),fB gL ((x4 m).n 3),fB gL ((x4 m).n 4),fB gL ((x4 m).n 5),fB gL ((x4 m).n 6),fB gL ((x4 m).n 7),fB gL ((x4 m).n 8),fB gL ((x4 m).n 9),fB gL ((x4 m).n 10),fO (x4 m).lb (x4 m).ln (x4 m).lc] 42);simpa using this
  case round=>
   obtain⟨q,hq,rfl,vw,jM,NU,S⟩:=hrel;have HJ:=eN vw;have Ce:=eN jM;have B:=eN NU;clear vw jM NU;obtain⟨f0,f1,f2,f3,f4,f5⟩:=bf Ce.out;have g0:=aap B.out;by_cases qN:q<m
   ·have k0:=(S.cell (p:=⟨z,A+q*12,none⟩) h4).trans (H.out.AD q (by show q<o;omega));simp only at k0;have i2:(q:Int)<o:=by omega
    go_wp2
    go_quiet (fail)
    go_wp2
    ·have he:(x4 q).name=(x4 m).name:=by
      have t:((x4 q).name.toList==(x4 m).name.toList)=true:=by assumption
      rw[sZ]at t;simpa using t
     have nt:(x4 m).name∈(eb m).map (λj=>(x4 j).name):=List.mem_map.2 ⟨q,List.mem_range.2 qN,he⟩
     go_ret
     exact⟨aC (by simp[gM,iH,y.out,nt]),dr S _⟩
    ·have he:(x4 q).name≠(x4 m).name:=by
      have t:((x4 q).name.toList==(x4 m).name.toList)=false:=by assumption
      rw[sZ]at t;simpa using t
     refine⟨⟨q+1,qN,by go_num,λj Z=>?_,Ce.out,B.out,dr S _⟩,by simp[intOf];omega⟩
     rcases Nat.lt_succ_iff_lt_or_eq.1 Z with h|h
     ·exact HJ.out j h
     ·rw[h];exact he
   ·obtain rfl:q=m:=by omega
    have DR:iH (x4 q).name ((eb q).map λj=>(x4 j).name)=0:=by
     have x:(x4 q).name∉(eb q).map (λj=>(x4 j).name):=λb=>by
      obtain⟨j,h1,h2⟩:=List.mem_map.1 b;exact HJ.out j (List.mem_range.1 h1) h2
     simp only[iH];rw[if_pos y.out,if_neg x]
    have Xp:=eN DR;clear DR;obtain⟨T,rfl⟩:∃T:World,T=wr:=⟨_,rfl⟩
    have c:=S;have g:=Ce;have k:=B;have d:w.heap.size+1<T.heap.size:=getElem?_lt' B.out;have f:w.heap.size<T.heap.size:=by omega
    obtain⟨a0,a1,a2,a3,a4,a5,a6,a7,a8,a9,zm,zM⟩:=gx B.out;have LB:=eN (λhl=>(H.out.l4 q b hl).1);have FH:0<(x4 q).ln->(x4 q).lk<w.heap.size:=λhl=>(H.out.l4 q b hl).2;by_cases D:eK ((x4 q).n 3) ((x4 q).n 4) (-90) 90=true
    ·have E:=eN D;have Q8 : -90<=(x4 q).n 3/\(x4 q).n 3<=90:=by
      simp only[eK,fz,decide_eq_true_eq]at D;omega
     obtain⟨Q8,hr4⟩:=Q8;clear D
     go_wp2_with (first|(go_at_call 35;((with_reducible refine(Ey E.out _).mono ?_);rintro e w1⟨rfl,a⟩;obtain⟨F,I⟩:=cW a;have c:=Below.on c a;have g:=eN ((a.block _ f).trans g.out);have k:=eN ((a.block _ d).trans k.out);have d:=dS d a.size;have f:=dS f a.size))|(go_at_call 35;refine(kB _ _ _ _ _).mono ?_;rintro e w1⟨rfl,a⟩;obtain⟨F,I⟩:=cW a;have c:=Below.on c a;have g:=eN ((a.block _ f).trans g.out);have k:=eN ((a.block _ d).trans k.out);have d:=dS d a.size;have f:=dS f a.size))
     ·have hS:=Xq (W:=w1.drew) k.out g.out c.drew;clear F I
      go_region_held3 (λW=>W.cell? ⟨w.heap.size+1,1,none⟩=some (fB gL ((x4 q).n 1))/\W.cell? ⟨w.heap.size+1,3,none⟩=some (fB gL ((x4 q).n 3))/\W.cell? ⟨w.heap.size+1,4,none⟩=some (fB gL ((x4 q).n 4))/\(W.heap[w.heap.size]?=some (gN #[fB gL l,fB gL p,fO J v K,fO L M N,fO (some ⟨z,A,none⟩) o O,fO P Q R] 27)/\W.heap[w.heap.size+1]?=some (gN #[fP (x4 q).name,fB gL ((x4 q).n 1),fB gL ((x4 q).n 2),fB gL ((x4 q).n 3),fB gL ((x4 q).n 4),fB gL ((x4 q).n 5),fB gL ((x4 q).n 6),fB gL ((x4 q).n 7),fB gL ((x4 q).n 8),fB gL ((x4 q).n 9),fB gL ((x4 q).n 10),fO (x4 q).lb (x4 q).ln (x4 q).lc] 42)/\Below w.heap.size w W)) (first|exact hS|(go_split_ands;refine aaq ‹_› ‹_› ‹_› ‹_› ‹_› ‹_› qA)|go_keep) ((go_at_call 61;refine(AI _ _ _ Q8 hr4).mono ?_;rintro e w2⟨rfl,qA⟩))
      have hS2:w2.cell? ⟨w.heap.size+1,1,none⟩=some (fB gL ((x4 q).n 1))/\w2.cell? ⟨w.heap.size+1,3,none⟩=some (fB gL ((x4 q).n 3))/\w2.cell? ⟨w.heap.size+1,4,none⟩=some (fB gL ((x4 q).n 4))/\(w2.heap[w.heap.size]?=some (gN #[fB gL l,fB gL p,fO J v K,fO L M N,fO (some ⟨z,A,none⟩) o O,fO P Q R] 27)/\w2.heap[w.heap.size+1]?=some (gN #[fP (x4 q).name,fB gL ((x4 q).n 1),fB gL ((x4 q).n 2),fB gL ((x4 q).n 3),fB gL ((x4 q).n 4),fB gL ((x4 q).n 5),fB gL ((x4 q).n 6),fB gL ((x4 q).n 7),fB gL ((x4 q).n 8),fB gL ((x4 q).n 9),fB gL ((x4 q).n 10),fO (x4 q).lb (x4 q).ln (x4 q).lc] 42)/\Below w.heap.size w w2):=by assumption
      obtain⟨_,_,_,NV,u,c⟩:=hS2;have g:=eN NV;have k:=eN u;have d:w.heap.size+1<w2.heap.size:=getElem?_lt' u;have f:w.heap.size<w2.heap.size:=by omega
      obtain⟨a0,a1,a2,a3,a4,a5,a6,a7,a8,a9,zm,zM⟩:=gx u;obtain⟨f0,f1,f2,f3,f4,f5⟩:=bf NV;clear NV u
      go_wp2_with (first|(go_at_call 34;refine(Vi _ _ _ _).mono ?_;rintro e w'⟨rfl,rfl⟩)|(go_at_call 35;refine(kB _ _ _ _ _).mono ?_;rintro e w1⟨rfl,a⟩;obtain⟨F,I⟩:=cW a;have c:=Below.on c a;have g:=eN ((a.block _ f).trans g.out);have k:=eN ((a.block _ d).trans k.out);have d:=dS d a.size;have f:=dS f a.size)|(go_at_call 62;refine(Vh _ (x4 q).lk (x4 q).lo _ _ _ (x4 q).lane _ Tl m3 (λhl=>dS (FH hl) c.size) LB.out (λi hi=>(c.cell (p:=⟨(x4 q).lk,(x4 q).lo+i,none⟩) (FH (by omega))).trans (H.out.J5 q b i hi))).mono ?_;rintro e w1⟨rfl,a⟩;have c:=Below.on c a))
      all_goals (
       go_ret
       have P1:eK ((x4 q).n 1) ((x4 q).n 2) 1 90=true:=by assumption
       refine⟨aC ?_,c⟩;simp only[gM];rw[if_pos Xp.out,P1,E.out]
       first
        |(have t:(x4 q).n 1<max ((x4 q).n 4) (-(x4 q).n 3):=by assumption
          rw[if_pos (by rfl),if_pos (by omega)];done)
        |(have t:max ((x4 q).n 4) (-(x4 q).n 3)<=(x4 q).n 1:=by assumption
          rw[if_pos (by rfl),if_neg (by omega)]
          first
           |(have t1:¬bO ((x4 q).n 5) 0 (↑v-1)=true:=by assumption
             rw[aV t1];rfl)
           |(have t1:bO ((x4 q).n 5) 0 (↑v-1)=true:=by assumption
             first
              |(have t2:(!bO ((x4 q).n 6) 0 (p-1))=true:=by assumption
                have r:bO ((x4 q).n 6) 0 (p-1)=false:=by simpa using t2
                rw[t1,r];rfl)
              |(have t2:(!bO ((x4 q).n 6) 0 (p-1))=false:=by assumption
                have r:bO ((x4 q).n 6) 0 (p-1)=true:=by simpa using t2
                rw[t1,r,if_pos (by rfl)]
                first
                 |(have U:¬eK ((x4 q).n 7) ((x4 q).n 8) 1 60=true:=by assumption
                   rw[aV U];rfl)
                 |(have U:eK ((x4 q).n 7) ((x4 q).n 8) 1 60=true:=by assumption
                   first
                    |(have t4:(!eK ((x4 q).n 9) ((x4 q).n 10) 0 60)=true:=by assumption
                      have s:eK ((x4 q).n 9) ((x4 q).n 10) 0 60=false:=by simpa using t4
                      rw[U,s];rfl)
                    |(have t4:(!eK ((x4 q).n 9) ((x4 q).n 10) 0 60)=false:=by assumption
                      have s:eK ((x4 q).n 9) ((x4 q).n 10) 0 60=true:=by simpa using t4
                      rw[U,s,if_pos (by rfl)])))))
       done)
     ·go_ret
      have t:¬eK ((x4 q).n 1) ((x4 q).n 2) 1 90=true:=by assumption
      exact⟨aC (by simp only[gM];rw[if_pos Xp.out,aV t];simp),c⟩
    ·have E:=eN (aV D);clear D
     go_wp2_with (first|(go_at_call 35;((with_reducible refine(Ez E.out _).mono ?_);rintro e w1⟨rfl,a⟩;obtain⟨F,I⟩:=cW a;have c:=Below.on c a;have g:=eN ((a.block _ f).trans g.out);have k:=eN ((a.block _ d).trans k.out);have d:=dS d a.size;have f:=dS f a.size))|(go_at_call 35;refine(kB _ _ _ _ _).mono ?_;rintro e w1⟨rfl,a⟩;obtain⟨F,I⟩:=cW a;have c:=Below.on c a;have g:=eN ((a.block _ f).trans g.out);have k:=eN ((a.block _ d).trans k.out);have d:=dS d a.size;have f:=dS f a.size))
     all_goals (
      go_ret
      exact⟨aC (by simp only[gM];rw[if_pos Xp.out,E.out];simp),c⟩)
 ·have y:=eN (aV x);clear x
  go_enter (fx (by decide) b7),dj
  go_wp2_with (go_at_call 60;refine(Ka y.out _ Y).mono ?_;rintro e w'⟨rfl,rfl⟩)
  go_ret
  exact⟨aC (by simp[gM,iH,y.out]),((du _ _).alloc (dC _) _).alloc (by simp) _⟩
def EE(C:CD)(w:World)(h:C.At w)(a:C.dP 0=0):Calls PL 36 #[fJ C.val] w (aO (fB gL (C.dP 2)) w):=
 Ic _ _ _ _ _ _ _ _ _ _ _ _ h.m3 (cK a).1 (cK a).2 h.h3 h.s3 h.Es h.Et h.Eu
def EF(C:CD)(w:World)(h:C.At w)(a:C.dP 0=0)(b:C.dP 2=0):Calls PL 36 #[fJ C.val] w (aO (fB gL 0) w):=by
 have:=EE C w h a;rwa[b]at this
def aar(C:CD)(m:Nat)(w:World)(h:C.At w)(a:m<C.n4)(b:1<=C.p)(c:C.p<=6)(d:gM C.p C.n2 C.n3 C.x4 m=0):Calls PL 37 #[fJ C.val,fB gL (m:Int)] w (aO (fB gL 0) w):=by
 have:=ED C m w h a b c;rwa[d]at this
def Rh(C:CD)(m:Nat)(w:World)(h:C.At w)(a:m<C.n5)(b:iI C.n4 C.x5 m=0):Calls PL 38 #[fJ C.val,fB gL (m:Int)] w (aO (fB gL 0) w):=by
 have:=yx C m w h a;rwa[b]at this
def rK(C:CD)(w:World)(h:C.At w):Calls PL 11 #[fJ C.val] w (aO (fB gL C.cx) w):=by
 have H:=eN h;have m2:=h.m2;have m4:=h.m4;have m5:=h.m5;have S:=h.h2;have S2:=eN h.s2;clear h;by_cases hl:bO C.l 1 999=true
 case neg=>
  have L:=eN (aV hl);clear hl
  go_enter (fx (by decide) br),dk
  go_wp2_with (first|(go_at_call 34;((with_reducible refine(vQ L.out _).mono ?_);rintro e w'⟨rfl,rfl⟩)))
  go_ret
  have v:C.dP 0=1:=by simp[CD.dP,jd,L.out]
  exact⟨aC ((cR (m:=0) (λj b=>absurd b (dL _)) (by omega) (by rw[v];decide)).trans v),(du _ _).alloc (dC _) _⟩
 case pos=>
 have L:=eN hl;clear hl;by_cases J:bO C.p 1 6=true
 case neg=>
  have P:=eN (aV J);clear J
  go_enter (fx (by decide) br),dk
  go_wp2_with (first|(go_at_call 34;((with_reducible refine(kH L.out _).mono ?_);rintro e w'⟨rfl,rfl⟩))|(go_at_call 34;((with_reducible refine(vQ P.out _).mono ?_);rintro e w'⟨rfl,rfl⟩)))
  go_ret
  have v:C.dP 0=1:=by simp[CD.dP,jd,L.out,P.out]
  exact⟨aC ((cR (m:=0) (λj b=>absurd b (dL _)) (by omega) (by rw[v];decide)).trans v),(du _ _).alloc (dC _) _⟩
 case pos=>
 have P:=eN J;clear J;have z0:C.dP 0=0:=by simp[CD.dP,jd,L.out,P.out]
 have n:=eN z0;clear z0;by_cases B:bO C.n2 1 3=true
 case neg=>
  have y:=eN (aV B);clear B
  go_enter (fx (by decide) br),dk
  go_wp2_with (first|(go_at_call 34;((with_reducible refine(kH L.out _).mono ?_);rintro e w'⟨rfl,rfl⟩))|(go_at_call 34;((with_reducible refine(kH P.out _).mono ?_);rintro e w'⟨rfl,rfl⟩))|(go_at_call 34;((with_reducible refine(vQ y.out _).mono ?_);rintro e w'⟨rfl,rfl⟩)))
  go_ret
  have v:C.dP 1=2:=by simp[CD.dP,pq,y.out]
  exact⟨aC ((cR (m:=1) (λj b=>by(obtain rfl:j=0:=by omega);exact n.out) (by omega) (by rw[v];decide)).trans v),(du _ _).alloc (dC _) _⟩
 case pos=>
 have y:=eN B;have vI:0<C.n2:=by simp[bO]at B;omega
 clear B
 go_enter (fx (by decide) br),dk
 go_wp2_with (first|(go_at_call 34;((with_reducible refine(kH L.out _).mono ?_);rintro e w'⟨rfl,rfl⟩))|(go_at_call 34;((with_reducible refine(kH P.out _).mono ?_);rintro e w'⟨rfl,rfl⟩))|(go_at_call 34;((with_reducible refine(kH y.out _).mono ?_);rintro e w'⟨rfl,rfl⟩)))
 have K:=S2.out vI;rw[K];have Kf:=eN K;clear K
 go_loopw [3] (λi wr=>∃q:Nat,q<=C.n2/\i=fB gL q/\(∀j,j<q->eK (C.x2 j).1 (C.x2 j).2 0 90=true)/\wr.heap[w.heap.size]?=some (gN C.val 27)/\Below w.heap.size w wr) (λi _=>C.n2-(intOf i).toNat)
 case atStart=>exact⟨0,dK _,rfl,λj b=>absurd b (dL _),au _ _,(du _ _).alloc (dC _) _⟩
 case round=>
  obtain⟨q,T,rfl,x,o,c⟩:=hrel;have U:=eN x;have d:=eN o;have f:w.heap.size<wr.heap.size:=getElem?_lt' o;clear x o;obtain⟨V,W,M,X,f4,Y⟩:=bf d.out;by_cases g:q<C.n2
  ·have k0:=(c.cell (p:=⟨C.k2,C.o2+q*2,none⟩) S).trans (H.out.Ep q g);have k1:=(c.cell (p:=⟨C.k2,C.o2+q*2+1,none⟩) S).trans (H.out.Er q g);have i2:(q:Int)<C.n2:=by omega
   rw[Kf.out]at M;by_cases hi:eK (C.x2 q).1 (C.x2 q).2 0 90=true
   ·have D:=eN hi;clear hi
    go_wp2_with (go_at_call 35;refine(Ey D.out _).mono ?_;rintro e w1⟨rfl,a⟩)
    refine⟨⟨q+1,g,by go_num,λj b=>?_,(a.block _ f).trans d.out,Below.on c a⟩,by simp[intOf];omega⟩
    rcases Nat.lt_succ_iff_lt_or_eq.1 b with h|h
    ·exact U.out j h
    ·rw[h];exact D.out
   ·have D:=eN (aV hi);clear hi
    go_wp2_with (go_at_call 35;refine(Ez D.out _).mono ?_;rintro e w1⟨rfl,a⟩)
    go_ret
    have e1:C.dP 1=1:=by
     have:((eb C.n2).all λi=>eK (C.x2 i).1 (C.x2 i).2 0 90)=false:=by
      rw[ec];exact⟨q,List.mem_range.2 g,by simp[D.out]⟩
     simp[CD.dP,pq,y.out,this]
    exact⟨aC ((cR (m:=1) (λj b=>by(obtain rfl:j=0:=by omega);exact n.out) (by omega) (by rw[e1];decide)).trans e1),Below.on c a⟩
  ·obtain rfl:q=C.n2:=by omega
   have z1:C.dP 1=0:=by
    have:((eb C.n2).all λi=>eK (C.x2 i).1 (C.x2 i).2 0 90)=true:=by
     rw[ed];intro j b;exact U.out j (List.mem_range.1 b)
    simp[CD.dP,pq,y.out,this]
   have z:=eN z1;clear z1;have k:=c;by_cases E:C.dP 2=0
   case neg=>
    have t:=eN E;have arE:(C.dP 2 != 0)=true:=by simpa using E
    clear E
    go_wp2_with (go_at_call 36;refine(EE C _ (H.out.below k) n.out).mono ?_;rintro e w1⟨rfl,a⟩;obtain⟨Z,lR⟩:=cW a;have k:=Below.on k a;have d:=eN ((a.block _ f).trans d.out);have f:=dS f a.size)
    go_ret
    exact⟨aC (cR (m:=2) (λj b=>by
     obtain rfl|rfl:j=0\/j=1:=by omega
     ·exact n.out
     ·exact z.out) (by omega) t.out),k⟩
   case pos=>
   have t:=eN E;clear E;by_cases u:bO C.n4 2 5=true
   case neg=>
    have A:=eN (aV u);clear u
    go_wp2_with (first|(go_at_call 36;refine(EF C _ (H.out.below k) n.out t.out).mono ?_;rintro e w1⟨rfl,a⟩;obtain⟨Z,lR⟩:=cW a;have k:=Below.on k a;have d:=eN ((a.block _ f).trans d.out);have f:=dS f a.size)|(go_at_call 34;((with_reducible refine(vQ A.out _).mono ?_);rintro e w'⟨rfl,rfl⟩)))
    go_ret
    have F:C.dP 3=2:=by simp[CD.dP,kA,A.out]
    exact⟨aC ((cR (m:=3) (λj b=>by
     obtain rfl|rfl|rfl:j=0\/j=1\/j=2:=by omega
     ·exact n.out
     ·exact z.out
     ·exact t.out) (by omega) (by rw[F];decide)).trans F),k⟩
   case pos=>
   have A:=eN u;clear u
   go_wp2_with (first|(go_at_call 36;refine(EF C _ (H.out.below k) n.out t.out).mono ?_;rintro e w1⟨rfl,a⟩;obtain⟨Z,lR⟩:=cW a;have k:=Below.on k a;have d:=eN ((a.block _ f).trans d.out);have f:=dS f a.size)|(go_at_call 34;((with_reducible refine(kH A.out _).mono ?_);rintro e w'⟨rfl,rfl⟩)))
   have Xi:=cK (l:=C.l) n.out;obtain⟨J0,tL⟩:=Xi;have HX1:=d;have arF:=k;obtain⟨wo,rfl⟩:∃wo:World,wo=w1:=⟨_,rfl⟩
   go_loopw [5] (λi wr=>∃q:Nat,q<=C.n4/\i=fB gL q/\(∀j,j<q->gM C.p C.n2 C.n3 C.x4 j=0)/\wr.heap[w.heap.size]?=some (gN C.val 27)/\Below w.heap.size w wr) (λi _=>C.n4-(intOf i).toNat)
   case atStart=>exact⟨0,dK _,rfl,λj b=>absurd b (dL _),d.out,k⟩
   case round=>
    obtain⟨q,T,rfl,x,o,c⟩:=hrel;have N:=eN x;have d:=eN o;have f:w.heap.size<wr.heap.size:=getElem?_lt' o;clear x o;obtain⟨V,W,M,X,f4,Y⟩:=bf d.out;by_cases g:q<C.n4
    ·by_cases r:gM C.p C.n2 C.n3 C.x4 q=0
     ·have s:=eN r;clear r
      go_wp2_with (go_at_call 37;refine(aar C q _ (H.out.below c) g J0 tL s.out).mono ?_;rintro e w1⟨rfl,a⟩)
      refine⟨⟨q+1,g,by go_num,λj b=>?_,(a.block _ f).trans d.out,Below.on c a⟩,by simp[intOf];omega⟩
      rcases Nat.lt_succ_iff_lt_or_eq.1 b with h|h
      ·exact N.out j h
      ·rw[h];exact s.out
     ·have s:=eN r;have Yt:(gM C.p C.n2 C.n3 C.x4 q != 0)=true:=by simpa using r
      clear r
      go_wp2_with (go_at_call 37;refine(ED C q _ (H.out.below c) g J0 tL).mono ?_;rintro e w1⟨rfl,a⟩)
      go_ret
      have F:C.dP 3=gM C.p C.n2 C.n3 C.x4 q:=dI A.out N.out g rfl s.out
      exact⟨aC ((cR (m:=3) (λj b=>by
      obtain rfl|rfl|rfl:j=0\/j=1\/j=2:=by omega
      ·exact n.out
      ·exact z.out
      ·exact t.out) (by omega) (by rw[F];exact s.out)).trans F),Below.on c a⟩
    ·obtain rfl:q=C.n4:=by omega
     have z3:C.dP 3=0:=by
      show kA _ _ _ _ _=0;rw[kA,if_pos A.out];exact cz N.out
     have O:=eN z3;clear z3;by_cases Q:3<C.n5
     ·go_wp2
      go_ret
      have I:C.dP 4=2:=by simp[CD.dP,pE,Q]
      exact⟨aC ((cR (m:=4) (λj b=>by
      obtain rfl|rfl|rfl|rfl:j=0\/j=1\/j=2\/j=3:=by omega
      ·exact n.out
      ·exact z.out
      ·exact t.out
      ·exact O.out) (by omega) (by rw[I];decide)).trans I),c⟩
     ·obtain⟨wp,rfl⟩:∃wp:World,wp=wr:=⟨_,rfl⟩
      go_wp2
      go_loopw [7] (λi wr=>∃q:Nat,q<=C.n5/\i=fB gL q/\(∀j,j<q->iI C.n4 C.x5 j=0)/\wr.heap[w.heap.size]?=some (gN C.val 27)/\Below w.heap.size w wr) (λi _=>C.n5-(intOf i).toNat)
      case atStart=>exact⟨0,dK _,rfl,λj b=>absurd b (dL _),d.out,c⟩
      case round=>
       obtain⟨q,T,rfl,x,o,c⟩:=hrel;have R:=eN x;have d:=eN o;have f:w.heap.size<wr.heap.size:=getElem?_lt' o;clear x o;obtain⟨V,W,M,X,f4,Y⟩:=bf d.out;by_cases g:q<C.n5
       ·by_cases r:iI C.n4 C.x5 q=0
        ·have s:=eN r;clear r
         go_wp2_with (go_at_call 38;refine(Rh C q _ (H.out.below c) g s.out).mono ?_;rintro e w1⟨rfl,a⟩)
         refine⟨⟨q+1,g,by go_num,λj b=>?_,(a.block _ f).trans d.out,Below.on c a⟩,by simp[intOf];omega⟩
         rcases Nat.lt_succ_iff_lt_or_eq.1 b with h|h
         ·exact R.out j h
         ·rw[h];exact s.out
        ·have s:=eN r;have Yt:(iI C.n4 C.x5 q != 0)=true:=by simpa using r
         clear r
         go_wp2_with (go_at_call 38;refine(yx C q _ (H.out.below c) g).mono ?_;rintro e w1⟨rfl,a⟩)
         go_ret
         have I:C.dP 4=iI C.n4 C.x5 q:=ic Q R.out g rfl s.out
         exact⟨aC ((cR (m:=4) (λj b=>by
      obtain rfl|rfl|rfl|rfl:j=0\/j=1\/j=2\/j=3:=by omega
      ·exact n.out
      ·exact z.out
      ·exact t.out
      ·exact O.out) (by omega) (by rw[I];exact s.out)).trans I),Below.on c a⟩
       ·obtain rfl:q=C.n5:=by omega
        go_wp2
        go_ret
        have z4:C.dP 4=0:=by
         show pE _ _ _=0;rw[pE,if_neg Q];exact cz R.out
        refine⟨aC (cz λj b=>?_),c⟩;obtain rfl|rfl|rfl|rfl|rfl:j=0\/j=1\/j=2\/j=3\/j=4:=by omega
        ·exact n.out
        ·exact z.out
        ·exact t.out
        ·exact O.out
        ·exact z4
structure CD.Mem(C:CD)(w:World):Prop where
 h2:C.k2<w.heap.size
 h3:C.k3<w.heap.size
 h4:C.k4<w.heap.size
 h5:C.k5<w.heap.size
 s2:0<C.n2->C.b2=some ⟨C.k2,C.o2,none⟩
 s3:0<C.n3->C.b3=some ⟨C.k3,C.o3,none⟩
 s4:0<C.n4->C.b4=some ⟨C.k4,C.o4,none⟩
 s5:0<C.n5->C.b5=some ⟨C.k5,C.o5,none⟩
 Ep:∀i,i<C.n2->w.cell? ⟨C.k2,C.o2+i*2,none⟩=some (fB gL (C.x2 i).1)
 Er:∀i,i<C.n2->w.cell? ⟨C.k2,C.o2+i*2+1,none⟩=some (fB gL (C.x2 i).2)
 Es:∀i,i<C.n3->w.cell? ⟨C.k3,C.o3+i*3,none⟩=some (fB gL (C.x3 i).1)
 Et:∀i,i<C.n3->w.cell? ⟨C.k3,C.o3+i*3+1,none⟩=some (fB gL (C.x3 i).2.1)
 Eu:∀i,i<C.n3->w.cell? ⟨C.k3,C.o3+i*3+2,none⟩=some (fB gL (C.x3 i).2.2)
 AD:∀i,i<C.n4->w.cell? ⟨C.k4,C.o4+i*12,none⟩=some (fP (C.x4 i).name)
 dB:∀i,i<C.n4->∀j,1<=j->j<=10->w.cell? ⟨C.k4,C.o4+i*12+j,none⟩=some (fB gL ((C.x4 i).n j))
 nj:∀i,i<C.n4->w.cell? ⟨C.k4,C.o4+i*12+11,none⟩=some (fO (C.x4 i).lb (C.x4 i).ln (C.x4 i).lc)
 l4:∀i,i<C.n4->0<(C.x4 i).ln->(C.x4 i).lb=some ⟨(C.x4 i).lk,(C.x4 i).lo,none⟩/\(C.x4 i).lk<w.heap.size
 J5:∀i,i<C.n4->∀j,j<(C.x4 i).ln->w.cell? ⟨(C.x4 i).lk,(C.x4 i).lo+j,none⟩=some (fB gL ((C.x4 i).lane j))
 FI:∀i,i<C.n5->w.cell? ⟨C.k5,C.o5+i*3,none⟩=some (fP (C.x5 i).1)
 HU:∀i,i<C.n5->w.cell? ⟨C.k5,C.o5+i*3+1,none⟩=some (fB gL (C.x5 i).2.1)
 J6:∀i,i<C.n5->w.cell? ⟨C.k5,C.o5+i*3+2,none⟩=some (fB gL (C.x5 i).2.2)
def CD.small(C:CD):Bool:=decide (C.n2<=20)&&decide (C.n3<=20)&&decide (C.n4<=20)&&decide (C.n5<=20)&&((eb C.n4).all λi=>decide ((C.x4 i).name.size<=100)&&decide ((C.x4 i).ln<=20))&&((eb C.n5).all λi=>decide ((C.x5 i).1.size<=100))
def CD.At.Ri{C:CD}{w:World}(h:C.Mem w)(hs:C.small=true):C.At w:=by
 simp only[CD.small,fz,decide_eq_true_eq,ed,ej]at hs;obtain⟨⟨⟨⟨⟨m2,m3⟩,m4⟩,m5⟩,n4⟩,n5⟩:=hs;obtain⟨h2,h3,h4,h5,s2,s3,s4,s5,Ep,Er,Es,Et,Eu,AD,dB,nj,l4,J5,FI,HU,J6⟩:=h;exact⟨m2,m3,m4,m5,h2,h3,h4,h5,s2,s3,s4,s5,Ep,Er,Es,Et,Eu,n4,AD,dB,nj,l4,J5,n5,FI,HU,J6⟩
def AK(C:CD)(w:World)(h:C.Mem w):Calls PL 10 #[fJ C.val] w (aO (fA (!C.small)) w):=by
 have H:=eN h;have r:=h.h4;have x:=h.h5;clear h;by_cases hc:C.n2<=20/\C.n3<=20/\C.n4<=20/\C.n5<=20
 case neg=>
  have a:C.small=false:=by
   cases c:C.small with
   |false=>rfl
   |true=>
    simp only[CD.small,fz,decide_eq_true_eq]at c;omega
  have SM:=eN a;clear a
  go_enter (fx (by decide) bm),dl
  go_wp2
  any_goals (
   go_ret
   exact⟨by rw[SM.out];rfl,(du _ _).alloc (dC _) _⟩)
 case pos=>
 obtain⟨m2,m3,m4,m5⟩:=hc
 go_enter (fx (by decide) bm),dl
 go_wp2
 have y:=eN H.out.s4;have z:=eN H.out.s5
 go_loopw [3] (λi wr=>∃q:Nat,q<=C.n4/\i=fB gL q/\(∀j,j<q->(C.x4 j).name.size<=100/\(C.x4 j).ln<=20)/\wr.heap[w.heap.size]?=some (gN C.val 27)/\Below w.heap.size w wr) (λi _=>C.n4-(intOf i).toNat)
 case atStart=>exact⟨0,dK _,rfl,λj e=>absurd e (dL _),au _ _,(du _ _).alloc (dC _) _⟩
 case round=>
  obtain⟨q,c,rfl,k,l,b⟩:=hrel;have s:=eN k;have f:=eN l;clear k l;obtain⟨A,B,D,E,f4,t⟩:=bf f.out;by_cases d:q<C.n4
  ·rw[y.out (by omega)]at f4;have k0:=(b.cell (p:=⟨C.k4,C.o4+q*12,none⟩) r).trans (H.out.AD q d);have k1:=(b.cell (p:=⟨C.k4,C.o4+q*12+11,none⟩) r).trans (H.out.nj q d);have F:(q:Int)<C.n4:=by omega
   by_cases g:(C.x4 q).name.size<=100/\(C.x4 q).ln<=20
   ·obtain⟨m,n⟩:=g
    go_wp2
    refine⟨⟨q+1,d,by go_num,λj e=>?_,f.out,b⟩,by simp[intOf];omega⟩
    rcases Nat.lt_succ_iff_lt_or_eq.1 e with h|h
    ·exact s.out j h
    ·rw[h];exact⟨m,n⟩
   ·have a:C.small=false:=by
     cases c:C.small with
     |false=>rfl
     |true=>
      simp only[CD.small,fz,decide_eq_true_eq,ed,ej]at c;exact absurd (c.1.2 q d) g
    have SM:=eN a;have o:100<(C.x4 q).name.size\/20<(C.x4 q).ln:=by omega
    clear a g;by_cases m:(C.x4 q).name.size<=100
    ·have n:20<(C.x4 q).ln:=by omega
     clear o
     go_wp2
     go_ret
     exact⟨by rw[SM.out];rfl,b⟩
    ·clear o
     go_wp2
     go_ret
     exact⟨by rw[SM.out];rfl,b⟩
  ·obtain rfl:q=C.n4:=by omega
   obtain⟨u,rfl⟩:∃u:World,u=wr:=⟨_,rfl⟩
   go_wp2
   go_loopw [4] (λi wr=>∃q:Nat,q<=C.n5/\i=fB gL q/\(∀j,j<q->(C.x5 j).1.size<=100)/\wr.heap[w.heap.size]?=some (gN C.val 27)/\Below w.heap.size w wr) (λi _=>C.n5-(intOf i).toNat)
   case atStart=>exact⟨0,dK _,rfl,λj e=>absurd e (dL _),f.out,b⟩
   case round=>
    obtain⟨q,c,rfl,k,l,b⟩:=hrel;have v:=eN k;have f:=eN l;clear k l;obtain⟨A,B,D,E,f4,t⟩:=bf f.out;by_cases d:q<C.n5
    ·rw[z.out (by omega)]at t;have k0:=(b.cell (p:=⟨C.k5,C.o5+q*3,none⟩) x).trans (H.out.FI q d);have F:(q:Int)<C.n5:=by omega
     by_cases g:(C.x5 q).1.size<=100
     ·go_wp2
      refine⟨⟨q+1,d,by go_num,λj e=>?_,f.out,b⟩,by simp[intOf];omega⟩
      rcases Nat.lt_succ_iff_lt_or_eq.1 e with h|h
      ·exact v.out j h
      ·rw[h];exact g
     ·have a:C.small=false:=by
       cases c:C.small with
       |false=>rfl
       |true=>
        simp only[CD.small,fz,decide_eq_true_eq,ed,ej]at c;exact absurd (c.2 q d) g
      have SM:=eN a;clear a
      go_wp2
      go_ret
      exact⟨by rw[SM.out];rfl,b⟩
    ·obtain rfl:q=C.n5:=by omega
     have a:C.small=true:=by
      simp only[CD.small,fz,decide_eq_true_eq,ed,ej];exact⟨⟨⟨⟨⟨m2,m3⟩,m4⟩,m5⟩,s.out⟩,v.out⟩
     have SM:=eN a;clear a
     go_wp2
     go_ret
     exact⟨by rw[SM.out];rfl,b⟩
open Go.Shelf
attribute [local go_sem] Oper.semAt_some
def lv(s r:Int):Int:=lvl s r s.toNat
def fD(s a:Int)(b:Nat):List Int:=(eb b).map λj=>lv s (a+(j:Nat))
def cJ(a b:Int)(c d:Nat):List Int:=(eb c).flatMap fun(k:Nat)=>fD (a+k) b d
def AP(s b:Int)(a:Nat):(fD s b a).length=a:=by simp[fD]
def AQ(c d:Int)(b:Nat):∀a:Nat,(cJ c d a b).length=a*b
 |0=>by simp[cJ]
 |a+1=>by
  have:=AQ c d b a;unfold cJ at this⊢;rw[eh,List.flatMap_append,ek,this];simp[AP,Nat.succ_mul]
def nA(s a:Int)(j:Nat):fD s a (j+1)=fD s a j++[lv s (a+(j:Nat))]:=by
 simp[fD,eh]
def kE(a b:Int)(c d:Nat):cJ a b (c+1) d=cJ a b c d++fD (a+(c:Nat)) b d:=by
 simp[cJ,eh]
def Nl(s a:Int)(b:Nat):∀j:Nat,j<=b->fD s a j <+: fD s a b:=by
 intro j c;unfold fD;exact(List.map_take ..▸List.take_range ..▸by rw[Nat.min_eq_left c]:(List.take j ((eb b).map λj=>lv s (a+(j:Nat))))=(eb j).map λj=>lv s (a+(j:Nat)))▸List.take_prefix _ _
def AU(a b:Int)(c:Nat)(k:Nat):∀d:Nat,cJ a b k c <+: cJ a b (k+d) c
 |0=>List.prefix_rfl
 |d+1=>by rw[<-Nat.add_assoc,kE];exact(AU a b c k d).trans (List.prefix_append _ _)
def Nm(a b:Int)(c d k j:Nat)(g:k<c)(h:j<d):cJ a b k d++fD (a+(k:Nat)) b j++[lv (a+(k:Nat)) (b+(j:Nat))] <+: cJ a b c d:=by
 rw[el,<-nA];obtain⟨t,e⟩:=Nl (a+(k:Nat)) b d (j+1) (by omega);obtain⟨u,f⟩:=AU a b d (k+1) (c-(k+1));rw[show k+1+(c-(k+1))=c by omega,kE,<-e]at f
 grind
def Rr(s r:Int)(w:World)(f:1<=s)(g:s<=90)(c : -s<=r)(d:r<=s):Calls PL 39 #[fB gL s,fB gL r] w λe w'=>e=gG (fB gL (lv s r))/\w=w':=by
 obtain⟨n,rfl⟩:=gd (a:=s) (by omega);exact(AG n r w (by omega) (by omega) c d).mono λ_ _⟨a,b⟩=>⟨a,b.symm⟩
def yC(B:Nat)(W a:World):Prop:=∀o:Nat,a.cell? ⟨B,o,none⟩=W.cell? ⟨B,o,none⟩
def Ii(n:Nat)(C:1<=n)(l g:Nat)(a b:Int)(d c:Nat)(D:1<=a)(E:a+d<=91)(F:1<=d)(H : -a<=b)(I:b+c<=a+1)(K:1<=c)(J r:List Int->World->Prop)
 (s:∀f x W,J f W->f.length<d*c->YieldAt Fence.wide (n-1) PL l #[fB gL x] W λe h=>
   (e=gG (fA true)/\J (f++[x]) h/\yC g W h)\/(e=gG (fA false)/\r (f++[x]) h))
 (W:World) (c1:W.cell? ⟨g,1,none⟩=some (fB gL a)) (t:W.cell? ⟨g,2,none⟩=some (fB gL (a+d-1))) (c3:W.cell? ⟨g,3,none⟩=some (fB gL b)) (u:W.cell? ⟨g,4,none⟩=some (fB gL (b+c-1))) (w:J [] W) :
 CallsIn Fence.wide n PL 63 #[f6 (.yield l) #[] #[],fV (some ⟨g,0,none⟩)] W λe h=>(∃v,e=gG v)/\
  ((∃ys,ys=cJ a b d c/\J ys h)\/(∃f,f <+: cJ a b d c/\r f h)):=by
 refine callsIn_of_wp (fx (by decide) dp) rfl trivial ?_ rfl;simp only[Tryz.ntmps63,em,en,ep,d8,d9,ge,gg,eq,et,eu,ev]
 gi_wp2
 gi_loopw [3] (λv wr=>∃k:Nat,k<=d/\v=fB gL (a+k)/\J (cJ a b k c) wr/\(wr.cell? ⟨g,1,none⟩=some (fB gL a)/\wr.cell? ⟨g,2,none⟩=some (fB gL (a+d-1))/\wr.cell? ⟨g,3,none⟩=some (fB gL b)/\wr.cell? ⟨g,4,none⟩=some (fB gL (b+c-1)))) (λv _=>(a+d-intOf v).toNat)
 case atStart=>exact⟨0,dK _,by simp,w,c1,t,c3,u⟩
 case round=>
  obtain⟨k,i,rfl,m,d1,d2,d3,d4⟩:=hrel;by_cases y:k<d
  ·have z:a+(k:Int)<=a+d-1:=by omega
   gi_wp2
   gi_loopw [4] (λv wr=>∃j:Nat,j<=c/\v=fB gL (b+j)/\J (cJ a b k c++fD (a+(k:Nat)) b j) wr/\(wr.cell? ⟨g,1,none⟩=some (fB gL a)/\wr.cell? ⟨g,2,none⟩=some (fB gL (a+d-1))/\wr.cell? ⟨g,3,none⟩=some (fB gL b)/\wr.cell? ⟨g,4,none⟩=some (fB gL (b+c-1)))) (λv _=>(b+c-intOf v).toNat)
   case atStart=>exact⟨0,dK _,by simp,by simpa[fD]using m,d1,d2,d3,d4⟩
   case round=>
    obtain⟨j,L,rfl,m,d1,d2,d3,d4⟩:=hrel;by_cases o:j<c
    ·have A:b+(j:Int)<=b+c-1:=by omega
     have hlen:(cJ a b k c++fD (a+(k:Nat)) b j).length<d*c:=by
      rw[ek,AQ,AP];have:=Nat.mul_le_mul_right c (show k+1<=d by omega)
      grind
     obtain⟨fn,tmps,assign,body,hy,B⟩:=s _ (lv (a+(k:Nat)) (b+(j:Nat))) wr m hlen
     gi_wp2_with (refine⟨trivial,?_⟩;refine(callsIn_wide.2 (Rr _ _ _ (by omega) (by omega) (by omega) (by omega))).mono ?_;rintro e w'⟨rfl,rfl⟩)
     refine B.mono ?_;rintro e h(⟨rfl,p,i⟩|⟨rfl,q⟩)
     ·gi_wp2
      refine⟨⟨j+1,by omega,by congr 1;push_cast;omega,by rw[nA,<-el];exact p,(i 1).trans d1,(i 2).trans d2,(i 3).trans d3,(i 4).trans d4⟩,?_⟩;simp only[intOf];omega
     ·gi_wp2
      refine aB (results_none rfl _ _ _) rfl ⟨⟨_,rfl⟩,.inr ⟨_,Nm a b d c k j y o,q⟩⟩
    ·have A:b+(c:Int)-1<b+j:=by omega
     obtain rfl:j=c:=by omega
     gi_wp2
     refine⟨⟨k+1,by omega,by congr 1;push_cast;omega,by rw[kE];exact m,d1,d2,d3,d4⟩,?_⟩;simp only[intOf];omega
  ·have z:a+(d:Int)-1<a+k:=by omega
   obtain rfl:k=d:=by omega
   gi_wp2
   go_end0
   grind
def Km{B:Nat}{X Y Z:World}(h:yC B X Y)(k:yC B Y Z):yC B X Z:=λo=>(k o).trans (h o)
def Ko{B s:Nat}(a:B<s)(W:World)(l:Nat)(o o':Obj)(hl:s<=l)(_:W.heap[l]?=some o)(_:o.isCells=false)(_:o.isWalk=false):yC B W (W.putObj l o'):=λq=>by
 have:(W.putObj l o').heap[B]?=W.heap[B]?:=by
  simp only[World.putObj]
  grind
 simp[fb,this]
def tg(n:Nat)(i:1<=n)(a:Nat)(b d:Int)(e f:Nat)(j:1<=b)(k:b+e<=91)(m:1<=e)(o : -b<=d)(q:d+f<=b+1)(r:1<=f)(w:World)(c:a<w.heap.size)
 (c1:w.cell? ⟨a,1,none⟩=some (fB gL b)) (s:w.cell? ⟨a,2,none⟩=some (fB gL (b+e-1))) (c3:w.cell? ⟨a,3,none⟩=some (fB gL d)) (t:w.cell? ⟨a,4,none⟩=some (fB gL (d+f-1))) :
 SeqStopsK Fence.wide n PL 63 #[fV (some ⟨a,0,none⟩)] (λx:Int=>#[fB gL x]) (yC a) (λys=>ys=cJ b d e f) (λh=>h <+: cJ b d e f) (e*f) w:=λl J u W g _ _ v y=>
 Ii n i l a b d e f j k m o q r J u v W ((g.cell (p:=⟨a,1,none⟩) c).trans c1) ((g.cell (p:=⟨a,2,none⟩) c).trans s) ((g.cell (p:=⟨a,3,none⟩) c).trans c3) ((g.cell (p:=⟨a,4,none⟩) c).trans t) y
def iJ.NY(q:iJ):List Int:=cJ (q.n 1) (q.n 3) (q.n 2-q.n 1+1).toNat (q.n 4-q.n 3+1).toNat
def iJ.low(q:iJ):Int:=q.NY.foldl min 90
def iJ.high(q:iJ):Int:=q.NY.foldl max 0
structure iJ.Ok(q:iJ):Prop where
 a1:1<=q.n 1
 a2:q.n 1<=q.n 2
 a3:q.n 2<=90
 a4 : -q.n 1<=q.n 3
 a5:q.n 3<=q.n 4
 a6:q.n 4<=q.n 1
def ck{n:Nat}{f:Nat->Int}(h:ia n f=0):∀j,j<n->f j=0:=by
 intro j
 induction j using Nat.strongRecOn with
 |_ j a=>
  intro b;by_cases hf:f j=0
  ·exact hf
  ·have:=eG (m:=j) (λi hi=>a i hi (by omega)) b hf;omega
def Kq{C:CD}(hc:C.cx=0){i:Nat}(hi:i<C.n4):(C.x4 i).Ok:=by
 have b:kA C.p C.n2 C.n3 C.n4 C.x4=0:=ck hc 3 (by omega);unfold kA at b
 split at b
 case isFalse=>cases b
 have a:=ck b i hi;unfold gM at a
 split at a
 case isFalse h=>exact absurd a h
 split at a
 case isFalse=>cases a
 rename_i c
 split at a
 ·cases a
 rename_i d;simp only[eK,fz,decide_eq_true_eq]at c;exact⟨by omega,by omega,by omega,by omega,by omega,by omega⟩
def Kr{C:CD}{b:Bool}{w:World}(h:C.b6 b≠0)(k:C.At w):Calls PL 27 #[fJ C.val,fA b] w (aO (fY #[fJ #[fB gL 0,fB gL 0,fO none 0 0,fO none 0 0,fO none 0 0,fO none 0 0],fB gL (C.b6 b)]) w):=by
 have:=Ev C b w k;rwa[CD.sX,if_neg h]at this
def kF{C:CD}{b:Bool}{w:World}(h:C.b6 b=0)(k:C.At w):Calls PL 27 #[fJ C.val,fA b] w (aO (fY #[fJ C.val,fB gL 0]) w):=by
 have:=Ev C b w k;rwa[CD.sX,if_pos h,h]at this
structure CD.Box(C:CD)(B:Nat)(W0:World):Prop where
 Tj:W0.heap[B]?=some (gN C.val 27)
def uJ{w:World}{k:Nat}{x0 x1:Value}{t:ab}(h:w.heap[k]?=some (gN #[x0,x1] t)):w.cell? ⟨k,0,none⟩=some x0/\w.cell? ⟨k,1,none⟩=some x1/\w.frozen? ⟨k,0,none⟩=false/\w.frozen? ⟨k,1,none⟩=false:=by
 simp[fb,fg,h]
def yD{W:World}{k:Nat}{x y u v:Value}(a0:W.cell? ⟨k,0,none⟩=some x)(a1:W.cell? ⟨k,1,none⟩=some y) :
 ((W.setCell ⟨k,0,none⟩ u).setCell ⟨k,1,none⟩ v).cell? ⟨k,0,none⟩=some u/\((W.setCell ⟨k,0,none⟩ u).setCell ⟨k,1,none⟩ v).cell? ⟨k,1,none⟩=some v/\
 (∀b o,b≠k->((W.setCell ⟨k,0,none⟩ u).setCell ⟨k,1,none⟩ v).cell? ⟨b,o,none⟩=W.cell? ⟨b,o,none⟩)/\(∀p,((W.setCell ⟨k,0,none⟩ u).setCell ⟨k,1,none⟩ v).frozen? p=W.frozen? p):=by
 refine⟨?_,?_,λb o hb=>?_,λp=>?_⟩
 ·exact(fi _ _ _ _ (by simp)).trans (fl _ _ _ (by rw[a0];rfl))
 ·exact fl _ _ _ (by rw[(fi _ _ _ _ (by simp)).trans a1];rfl)
 ·exact(fi _ _ _ _ (λh=>hb (congrArg gt h).symm)).trans (fi _ _ _ _ (λh=>hb (congrArg gt h).symm))
 ·rw[fm,fm]
def Rs{w W:World}{k B r:Nat}(e:B≠k)(b:r≠k)(c:w.heap.size<=k){m M u v d v':Int}{y0 y1:Value}(a0:W.cell? ⟨k,0,none⟩=some (fB gL m))(a1:W.cell? ⟨k,1,none⟩=some (fB gL M))(a2:W.frozen? ⟨k,0,none⟩=false)(a3:W.frozen? ⟨k,1,none⟩=false)
 (a4:W.cell? ⟨r,0,none⟩=some y0) (f:W.cell? ⟨r,1,none⟩=some y1) (g:W.frozen? ⟨r,0,none⟩=false) (h:W.frozen? ⟨r,1,none⟩=false) (i:Below w.heap.size w W) (j:u=d) (hv:v=v') :
 KeepsOthers W ((W.setCell ⟨k,0,none⟩ (fB gL u)).setCell ⟨k,1,none⟩ (fB gL v))/\yC B W ((W.setCell ⟨k,0,none⟩ (fB gL u)).setCell ⟨k,1,none⟩ (fB gL v))/\
 ((((W.setCell ⟨k,0,none⟩ (fB gL u)).setCell ⟨k,1,none⟩ (fB gL v)).cell? ⟨k,0,none⟩=some (fB gL d)/\((W.setCell ⟨k,0,none⟩ (fB gL u)).setCell ⟨k,1,none⟩ (fB gL v)).cell? ⟨k,1,none⟩=some (fB gL v')/\((W.setCell ⟨k,0,none⟩ (fB gL u)).setCell ⟨k,1,none⟩ (fB gL v)).frozen? ⟨k,0,none⟩=false/\((W.setCell ⟨k,0,none⟩ (fB gL u)).setCell ⟨k,1,none⟩ (fB gL v)).frozen? ⟨k,1,none⟩=false/\
 ((W.setCell ⟨k,0,none⟩ (fB gL u)).setCell ⟨k,1,none⟩ (fB gL v)).cell? ⟨r,0,none⟩=some y0/\((W.setCell ⟨k,0,none⟩ (fB gL u)).setCell ⟨k,1,none⟩ (fB gL v)).cell? ⟨r,1,none⟩=some y1/\((W.setCell ⟨k,0,none⟩ (fB gL u)).setCell ⟨k,1,none⟩ (fB gL v)).frozen? ⟨r,0,none⟩=false/\((W.setCell ⟨k,0,none⟩ (fB gL u)).setCell ⟨k,1,none⟩ (fB gL v)).frozen? ⟨r,1,none⟩=false)/\
 Below w.heap.size w ((W.setCell ⟨k,0,none⟩ (fB gL u)).setCell ⟨k,1,none⟩ (fB gL v))):=by
 subst j hv;obtain⟨c0,c1,a,c3⟩:=yD (u:=fB gL u) (v:=fB gL v) a0 a1;exact⟨(gw _ _ _).trans (gw _ _ _),λo=>a _ _ e,⟨c0,c1,(c3 _).trans a2,(c3 _).trans a3,(a _ _ b).trans a4,(a _ _ b).trans f,(c3 _).trans g,(c3 _).trans h⟩,(i.setCell (p:=⟨k,0,none⟩) c _).setCell (p:=⟨k,1,none⟩) c _⟩
abbrev iJ.val(q:iJ):Array Value:=#[fP q.name,fB gL (q.n 1),fB gL (q.n 2),fB gL (q.n 3),fB gL (q.n 4),fB gL (q.n 5),fB gL (q.n 6),fB gL (q.n 7),fB gL (q.n 8),fB gL (q.n 9),fB gL (q.n 10),fO q.lb q.ln q.lc]
def yF(q:iJ)(w:World):Calls PL 41 #[fJ q.val] w λe w'=>e=gG (f6 (.func 63) #[] #[fV (some ⟨w.heap.size,0,none⟩)])/\w'=w.alloc (gN q.val 42):=by
 go_enter (fx (by decide) cb),Tryz.ntmps41
 go_wp2
 go_ret
 exact⟨rfl,rfl⟩
def CD.kR(C:CD)(n:Int):Value:=if C.b6 (bO n 0 (C.n4-1))=0 then fY #[fJ #[fB gL (C.x4 n.toNat).low,fB gL (C.x4 n.toNat).high],fB gL 0] else fY #[fJ #[fB gL 0,fB gL 0],fB gL (C.b6 (bO n 0 (C.n4-1)))]
def nB(C:CD)(n:Int)(w:World)(h:C.At w):Calls PL 14 #[fJ C.val,fB gL n] w (aO (C.kR n) w):=by
 have H:=eN (λw1 o=>h.below (w':=w1) o);have m4:=h.m4;obtain⟨S,T,U,V,X,Y,Z,c3,b4,n4,c4,b5,n5,c5,hO⟩:∃(S T:Int)(U:Option Addr)(V X:Nat)(Y:Option Addr)(Z c3:Nat)(b4:Option Addr)(n4 c4:Nat)(b5:Option Addr)(n5 c5:Nat),∀W,C.At W->Calls PL 27 #[fJ C.val,fA (bO n 0 (C.n4-1))] W (aO (fY #[fJ #[fB gL S,fB gL T,fO U V X,fO Y Z c3,fO b4 n4 c4,fO b5 n5 c5],fB gL (C.b6 (bO n 0 (C.n4-1)))]) W):=by
  by_cases hf:C.b6 (bO n 0 (C.n4-1))=0
  ·exact⟨_,_,_,_,_,_,_,_,_,_,_,_,_,_,λW L=>by rw[hf];exact kF hf L⟩
  ·exact⟨_,_,_,_,_,_,_,_,_,_,_,_,_,_,λW L=>Kr hf L⟩
 have HO:=eN hO;have H1:=eN h;clear h hO;refine(aI (n:=9)).1 (aJ (fx (by decide) bs) rfl trivial ?_ rfl);simp only[Tryz.ntmps14,em,en,ep,d8,d9,ge,gg,eq,et,eu,ev];refine wpIn_wide.2 ?_
 go_wp2
 obtain⟨a,q⟩:∃a:World,a=(w.alloc (gN C.val 27)).alloc (gN #[fB gL 0,fB gL 0] 40):=⟨_,rfl⟩
 have y:Below w.heap.size w a:=by rw[q];exact((du _ _).alloc (dC _) _).alloc (by simp) _
 have z:Hid (C.Box w.heap.size a):=eN ⟨by rw[q];exact((((du (w.alloc (gN C.val 27)).heap.size _).alloc (dC _) _)).block _ (by simp)).trans (au w _)⟩;have M:Hid (a.heap[w.heap.size+1]?=some (gN #[fB gL 0,fB gL 0] 40)):=eN (by rw[q];have:=au (w.alloc (gN C.val 27)) (gN #[fB gL 0,fB gL 0] 40);rwa[fo]at this);rw[<-q];clear q;obtain⟨f0,f1,f2,f3,f4,f5⟩:=bf z.out.Tj;have E:w.heap.size<a.heap.size:=getElem?_lt' z.out.Tj;have XZ:w.heap.size<a.heap.size+1:=by omega
 go_cut [6,7] from 10 to 17 (fun(v6:Value)(v7:Value)(wx:World)=>v7=fB gL (C.b6 (bO n 0 (C.n4-1)))/\Below a.heap.size a wx)
 case first=>
  refine aL ?_
  go_region_with (first|(go_at_call 40;refine(AE C n _ m4).mono ?_;rintro e w1⟨rfl,F⟩;obtain⟨lp,lR⟩:=cW F;(first|(with_reducible have d:=Below.on ((du a.heap.size a).drew) F)|(have d:=Below.on ((du a.heap.size a).drew.alloc (du a.heap.size a).drew.size _) F;have aH:a.heap.size<w1.heap.size:=by have:=F.size;simp at this;omega));have dx:=d.size;obtain⟨g0,g1,g2,g3,N,g5⟩:=bf ((d.block _ E).trans z.out.Tj);have hzw:w.heap.size<w1.heap.size:=dS E dx)|(go_at_call 27;refine(HO.out _ (H.out _ (Below.on y ?hb))).mono ?_;(with_reducible case hb=>first|exact d|exact d.alloc d.size _);rintro e w2⟨rfl,O⟩;obtain⟨hc2,hf2⟩:=cW O;(with_reducible first|have t:=Below.on d O|have t:=Below.on (d.alloc d.size _) O)))
  all_goals (refine NoPanic.normal ?_;go_wp2_with fail;go_meet;case rel=>refine⟨rfl,?_⟩;with_reducible first|exact Below.zQ t (dC _) _ _ _ _ _ _|exact Below.zQ t dx _ _ _ _ _ _|exact t.alloc t.size _)
 case rest=>
  obtain⟨rfl,f⟩:=hcut;have b:w.heap.size+1<a.heap.size:=getElem?_lt' M.out;obtain⟨I,J,q0,q1⟩:=uJ ((f.block _ b).trans M.out);by_cases hf:C.b6 (bO n 0 (C.n4-1))=0
  ·have hA:=H.out wc (Below.on y f);have P:C.cx=0/\bO n 0 (C.n4-1)=true:=by
    unfold CD.b6 at hf
    split at hf
    ·split at hf
     ·exact⟨by assumption,by assumption⟩
     ·cases hf
    ·exact absurd hf (by assumption)
   obtain⟨hk,hb⟩:=P;have jH:0<=n/\n<=(C.n4:Int)-1:=by simpa[bO]using hb
   obtain⟨i,rfl⟩:=gd jH.1;have hi:i<C.n4:=by omega
   have mS:(i:Int)<C.n4:=by omega
   have OK:=eN (Kq hk hi);obtain⟨g0,g1,g2,g3,N,g5⟩:=bf ((f.block _ E).trans z.out.Tj);rw[hA.s4 (by omega)]at N;have k0:=hA.AD i hi;have k1:=hA.dB i hi 1 (by omega) (by omega);have k2:=hA.dB i hi 2 (by omega) (by omega);have k3:=hA.dB i hi 3 (by omega) (by omega);have k4:=hA.dB i hi 4 (by omega) (by omega);have k5:=hA.dB i hi 5 (by omega) (by omega);have k6:=hA.dB i hi 6 (by omega) (by omega);have k7:=hA.dB i hi 7 (by omega) (by omega);have k8:=hA.dB i hi 8 (by omega) (by omega);have k9:=hA.dB i hi 9 (by omega) (by omega);have CG:=hA.dB i hi 10 (by omega) (by omega);have CH:=hA.nj i hi;have ER:=hA.h4;have wD:w.heap.size<wc.heap.size:=dS E f.size;rw[hf];clear hA hk hb jH f0 f1 f2 f3 f4 f5
   go_wp2_with (go_at_call 41;refine(yF (C.x4 i) _).mono ?_;rintro e w'⟨rfl,rfl⟩)
   obtain⟨j,m⟩:∃j:World,j=(wc.alloc (gN #[fB gL 90,fB gL 0] 40)).alloc (gN (C.x4 i).val 42):=⟨_,rfl⟩
   have vL:j.heap.size=wc.heap.size+2:=by rw[m];simp
   have d:Below wc.heap.size wc j:=by rw[m];exact((du _ _).alloc (dC _) _).alloc (by simp) _
   have hp:j.heap[wc.heap.size+1]?=some (gN (C.x4 i).val 42):=by
    have:=au (wc.alloc (gN #[fB gL 90,fB gL 0] 40)) (gN (C.x4 i).val 42);rw[fo]at this;rw[m];exact this
   have hq:j.heap[wc.heap.size]?=some (gN #[fB gL 90,fB gL 0] 40):=by
    rw[m];exact((((du (wc.alloc (gN #[fB gL 90,fB gL 0] 40)).heap.size _).alloc (dC _) _)).block _ (by simp)).trans (au wc _)
   have Yc:=(d.block _ (dS b f.size)).trans ((f.block _ b).trans M.out);have hrw:w.heap.size+1<wc.heap.size:=dS b f.size;have k:Below w.heap.size w j:=Below.on (Below.on y f) d;rw[<-m];clear m k0 k1 k2 k3 k4 k5 k6 k7 k8 k9 CG CH g0 g1 g2 g3 N g5 I J q0 q1;obtain⟨p0,p1,p2,p3,p4,p5,p6,p7,p8,p9,Cz,Fy⟩:=gx hp;obtain⟨I,J,q0,q1⟩:=uJ Yc;obtain⟨t0,t1,u0,u1⟩:=uJ hq;obtain⟨o1,o2,o3,o4,o5,o6⟩:=OK.out;refine(wpIn_wide (n:=9)).1 ?_;refine aP rfl (by omega) (gf:=63) (lb:=#[fV (some ⟨wc.heap.size+1,0,none⟩)]) rfl trivial (enters_of (fx (by decide) dp) (by kernel_rfl) rfl)
    (tg 8 (by omega) (wc.heap.size+1) ((C.x4 i).n 1) ((C.x4 i).n 3) ((C.x4 i).n 2-(C.x4 i).n 1+1).toNat ((C.x4 i).n 4-(C.x4 i).n 3+1).toNat o1 (by omega) (by omega) o4 (by omega) (by omega) j (by omega) p1 (by rw[p2];congr 2;omega) p3 (by rw[p4];congr 2;omega))
    Km (Ko (by omega)) (du _ _) (λ_=>rfl)
    (λg W=>(W.cell? ⟨wc.heap.size,0,none⟩=some (fB gL (g.foldl min 90))/\W.cell? ⟨wc.heap.size,1,none⟩=some (fB gL (g.foldl max 0))/\W.frozen? ⟨wc.heap.size,0,none⟩=false/\W.frozen? ⟨wc.heap.size,1,none⟩=false/\W.cell? ⟨w.heap.size+1,0,none⟩=some (fB gL 0)/\W.cell? ⟨w.heap.size+1,1,none⟩=some (fB gL 0)/\W.frozen? ⟨w.heap.size+1,0,none⟩=false/\W.frozen? ⟨w.heap.size+1,1,none⟩=false)/\Below w.heap.size w W)
    (λ_ _ _=>False)
    (OwnFrom.and (Own.from (λs A B row hs hg b=>⟨aS hs.1 hg b,aS hs.2.1 hg b,(aT hs.1 hg b).trans hs.2.2.1,(aT hs.2.1 hg b).trans hs.2.2.2.1,aS hs.2.2.2.2.1 hg b,aS hs.2.2.2.2.2.1 hg b,(aT hs.2.2.2.2.1 hg b).trans hs.2.2.2.2.2.2.1,(aT hs.2.2.2.2.2.1 hg b).trans hs.2.2.2.2.2.2.2⟩) _) (ba (dC _) (by have:=k.size;omega)))
    (λ_ _ _ _ _ hs _ _=>hs)
    ⟨⟨t0,t1,u0,u1,I,J,q0,q1⟩,k⟩
    (λx=>{ tmps:=#[fJ C.val,fB gL i,fV (some ⟨w.heap.size,0,none⟩),undef,fV (some ⟨w.heap.size+1,0,none⟩),fB gL 0,u6,fB gL 0,fV (some ⟨wc.heap.size,0,none⟩),fB gL x,u10,u11,u12,u13,u14,u15,u16,u17,fB gL 0,fA false,undef,undef,fJ #[fB gL 90,fB gL 0],fV (some ⟨w.heap.size,4,none⟩),fO (some ⟨C.k4,C.o4,none⟩) C.n4 C.c4,fB gL i,fV (some ⟨C.k4,C.o4+i*12,none⟩),fJ (C.x4 i).val,f6 (.func 63) #[] #[fV (some ⟨wc.heap.size+1,0,none⟩)],fB gL x,undef,undef,undef,undef,undef,undef,undef,undef,undef,undef,undef],defers:=[] }) ?assign ?body ?done ?stop
   case assign=>
    intro l x W K Q
    gi_wp2
    exact Q
   case body=>
    rintro l g x W⟨⟨a0,a1,a2,a3,a4,R,a6,a7⟩,o⟩_
    gi_wp2
    all_goals (
     refine Rs (by omega) (by omega) (by omega) a0 a1 a2 a3 a4 R a6 a7 o ?_ ?_
     ·rw[eA];simp only[eD,eE];omega
     ·rw[eA];simp only[eD,eE];omega)
   case done=>
    rintro D ys W hD rfl⟨⟨a0,a1,a2,a3,a4,R,a6,a7⟩,o⟩Q;replace a0:W.cell? ⟨wc.heap.size,0,none⟩=some (fB gL (C.x4 i).low):=a0;replace a1:W.cell? ⟨wc.heap.size,1,none⟩=some (fB gL (C.x4 i).high):=a1
    go_wp2
    have hK':=((gw W ⟨w.heap.size+1,0,none⟩ (fB gL (C.x4 i).low)).trans (gw _ ⟨w.heap.size+1,1,none⟩ (fB gL (C.x4 i).high))).same D _ Q rfl;obtain⟨d0,d1,_,_⟩:=yD (u:=fB gL (C.x4 i).low) (v:=fB gL (C.x4 i).high) a4 R;have e0:=aS d0 (bb _ D (.deferred none)) (λr e=>by cases e;exact⟨_,hK',rfl⟩);have e1:=aS d1 (bb _ D (.deferred none)) (λr e=>by cases e;exact⟨_,hK',rfl⟩);refine⟨by simp,.inl ⟨_,_,rfl,bc hK',?_⟩⟩;refine⟨C.kR i,?_,rfl,(((o.setCell (p:=⟨w.heap.size+1,0,none⟩) (dU _) _).setCell (p:=⟨w.heap.size+1,1,none⟩) (dU _) _)).trans (belowK_b (w:=w) (dC _) _ D _ _ (by have:=k.size;omega) hK' rfl rfl)⟩;rw[CD.kR,if_pos hf];simp[aF,dq,go_sem,e0,e1]
   case stop=>
    rintro D c g W _ _ h _;exact h.elim
  ·have hn:(C.b6 (bO n 0 (C.n4-1)) != 0)=true:=by simpa using hf
   have HF:=eN hf;clear hf f0 f1 f2 f3 f4 f5
   go_wp2
   refine⟨C.kR n,?_,rfl,?_⟩
   ·rw[CD.kR,if_neg HF.out];simp[aF,dq,go_sem,I,J]
   ·exact((Below.on y f).setCell (p:=⟨w.heap.size+1,0,none⟩) (dU _) _).setCell (p:=⟨w.heap.size+1,1,none⟩) (dU _) _
def Rt{C:CD}(hc:C.cx=0){i:Nat}(hi:i<C.n4):0<=(C.x4 i).n 5/\(C.x4 i).n 5<C.n2:=by
 have b:kA C.p C.n2 C.n3 C.n4 C.x4=0:=ck hc 3 (by omega);unfold kA at b
 split at b
 case isFalse=>cases b
 have a:=ck b i hi;unfold gM at a
 split at a
 case isFalse h=>exact absurd a h
 split at a
 case isFalse=>cases a
 split at a
 ·cases a
 split at a
 case isFalse=>cases a
 rename_i c;simp only[bO,fz,decide_eq_true_eq]at c;omega
def ij(n a b:Int)(w:World):Calls PL 28 #[fB gL n,fB gL a,fB gL b] w λe w'=>e=gG (fA (bO n a b))/\w=w':=(bG n a b w).mono λ_ _⟨a,b⟩=>⟨a,b.symm⟩
def rM{n a b:Int}(h:bO n a b=true)(w:World):Calls PL 28 #[fB gL n,fB gL a,fB gL b] w λe w'=>e=gG (fA true)/\w=w':=by
 have:=ij n a b w;rwa[h]at this
def yG{n a b:Int}(h:bO n a b=false)(w:World):Calls PL 28 #[fB gL n,fB gL a,fB gL b] w λe w'=>e=gG (fA false)/\w=w':=by
 have:=ij n a b w;rwa[h]at this
def yH(a b:Bool)(w:World):Calls PL 42 #[fA a,fA b] w λe w'=>e=gG (fB gL (Ej a b))/\w=w':=(U5 a b w).mono λ_ _⟨a,b⟩=>⟨a,b.symm⟩
def aaA{w:World}{k:Nat}{x:Value}{t:ab}(h:w.heap[k]?=some (gN #[x] t)):w.cell? ⟨k,0,none⟩=some x/\w.frozen? ⟨k,0,none⟩=false:=by
 simp[fb,fg,h]
def CD.sz(C:CD)(i:Nat):Int×Int:=C.x2 ((C.x4 i).n 5).toNat
def CD.zR(C:CD)(i:Nat)(x:Int):Bool:=bO x (C.sz i).1 (C.sz i).2
def CD.Cm(C:CD)(i:Nat):Int:=Ej ((C.x4 i).NY.any (C.zR i)) ((C.x4 i).NY.any λx=>!C.zR i x)
def CD.iq(C:CD)(n:Int):Value:=if C.b6 (bO n 0 (C.n4-1))=0 then fY #[fB gL (C.Cm n.toNat),fB gL 0] else fY #[fB gL 0,fB gL (C.b6 (bO n 0 (C.n4-1)))]
def pH(C:CD)(n:Int)(w:World)(h:C.At w):Calls PL 15 #[fJ C.val,fB gL n] w (aO (C.iq n) w):=by
 have H:=eN (λw1 y=>h.below (w':=w1) y);have m4:=h.m4;obtain⟨i0,i1,b2,n2,c2,b3,n3,c3,b4,n4,c4,b5,n5,c5,hO⟩:∃(i0 i1:Int)(b2:Option Addr)(n2 c2:Nat)(b3:Option Addr)(n3 c3:Nat)(b4:Option Addr)(n4 c4:Nat)(b5:Option Addr)(n5 c5:Nat),∀W,C.At W->Calls PL 27 #[fJ C.val,fA (bO n 0 (C.n4-1))] W (aO (fY #[fJ #[fB gL i0,fB gL i1,fO b2 n2 c2,fO b3 n3 c3,fO b4 n4 c4,fO b5 n5 c5],fB gL (C.b6 (bO n 0 (C.n4-1)))]) W):=by
  by_cases hf:C.b6 (bO n 0 (C.n4-1))=0
  ·exact⟨_,_,_,_,_,_,_,_,_,_,_,_,_,_,λW Y=>by rw[hf];exact kF hf Y⟩
  ·exact⟨_,_,_,_,_,_,_,_,_,_,_,_,_,_,λW Y=>Kr hf Y⟩
 have HO:=eN hO;have H1:=eN h;clear h hO;refine(aI (n:=9)).1 (aJ (fx (by decide) bt) rfl trivial ?_ rfl);simp only[Tryz.ntmps15,em,en,ep,d8,d9,ge,gg,eq,et,eu,ev];refine wpIn_wide.2 ?_
 go_wp2
 obtain⟨d,R⟩:∃d:World,d=w.alloc (gN C.val 27):=⟨_,rfl⟩
 have J:Below w.heap.size w d:=by rw[R];exact(du _ _).alloc (dC _) _
 have S:Hid (C.Box w.heap.size d):=eN ⟨by rw[R];exact au w _⟩;rw[<-R];clear R;obtain⟨f0,f1,f2,f3,f4,f5⟩:=bf S.out.Tj;have T:w.heap.size<d.heap.size:=getElem?_lt' S.out.Tj;have XZ:w.heap.size<d.heap.size+1:=by omega
 go_cut [6,7] from 12 to 19 (fun(v6:Value)(v7:Value)(Z:World)=>v7=fB gL (C.b6 (bO n 0 (C.n4-1)))/\Below d.heap.size d Z)
 case first=>
  refine aL ?_
  go_region_with (first|(go_at_call 40;refine(AE C n _ m4).mono ?_;rintro e w1⟨rfl,U⟩;obtain⟨lp,lR⟩:=cW U;(first|(with_reducible have j:=Below.on ((du d.heap.size d).drew) U)|(have j:=Below.on ((du d.heap.size d).drew.alloc (du d.heap.size d).drew.size _) U;have aH:d.heap.size<w1.heap.size:=by have:=U.size;simp at this;omega));have dx:=j.size;obtain⟨g0,g1,g2,g3,L,g5⟩:=bf ((j.block _ T).trans S.out.Tj);have hzw:w.heap.size<w1.heap.size:=dS T dx)|(go_at_call 27;refine(HO.out _ (H.out _ (Below.on J ?hb))).mono ?_;(with_reducible case hb=>first|exact j|exact j.alloc j.size _);rintro e w2⟨rfl,qA⟩;obtain⟨hc2,hf2⟩:=cW qA;(with_reducible first|have b:=Below.on j qA|have b:=Below.on (j.alloc j.size _) qA)))
  all_goals (refine NoPanic.normal ?_;go_wp2_with fail;go_meet;case rel=>refine⟨rfl,?_⟩;with_reducible first|exact Below.zQ b (dC _) _ _ _ _ _ _|exact Below.zQ b dx _ _ _ _ _ _|exact b.alloc b.size _)
 case rest=>
  obtain⟨rfl,z⟩:=hcut;by_cases hf:C.b6 (bO n 0 (C.n4-1))=0
  ·have hA:=H.out wc (Below.on J z);have hck:C.cx=0/\bO n 0 (C.n4-1)=true:=by
    unfold CD.b6 at hf
    split at hf
    ·split at hf
     ·exact⟨by assumption,by assumption⟩
     ·cases hf
    ·exact absurd hf (by assumption)
   obtain⟨hk,hb⟩:=hck;have jH:0<=n/\n<=(C.n4:Int)-1:=by simpa[bO]using hb
   obtain⟨i,rfl⟩:=gd jH.1;have hi:i<C.n4:=by omega
   have mS:(i:Int)<C.n4:=by omega
   have OK:=eN (Kq hk hi);obtain⟨z1,z2⟩:=Rt hk hi;have r:((C.x4 i).n 5).toNat<C.n2:=by omega
   obtain⟨g0,g1,g2,g3,L,g5⟩:=bf ((z.block _ T).trans S.out.Tj);rw[hA.s4 (by omega)]at L;rw[hA.s2 (by omega)]at g2;have k0:=hA.AD i hi;have k1:=hA.dB i hi 1 (by omega) (by omega);have k2:=hA.dB i hi 2 (by omega) (by omega);have k3:=hA.dB i hi 3 (by omega) (by omega);have k4:=hA.dB i hi 4 (by omega) (by omega);have k5:=hA.dB i hi 5 (by omega) (by omega);have k6:=hA.dB i hi 6 (by omega) (by omega);have k7:=hA.dB i hi 7 (by omega) (by omega);have k8:=hA.dB i hi 8 (by omega) (by omega);have k9:=hA.dB i hi 9 (by omega) (by omega);have CG:=hA.dB i hi 10 (by omega) (by omega);have CH:=hA.nj i hi;have y0:=hA.Ep _ r;have y1:=hA.Er _ r;have g:=hA.h4;have ND:=hA.h2;have wD:w.heap.size<wc.heap.size:=dS T z.size;rw[hf];clear hA hk hb jH f0 f1 f2 f3 f4 f5 r
   go_upto_region 4 with fail
   go_cut [8] from 23 to 32 (fun(v8:Value)(Z:World)=>v8=fV (some ⟨wc.heap.size,0,none⟩)/\Z=wc.drew.alloc (gN #[fB gL (C.x2 ((C.x4 i).n 5).toNat).1,fB gL (C.x2 ((C.x4 i).n 5).toNat).2] 40))
   case first=>
    refine aL ?_
    go_region
    all_goals (refine NoPanic.normal ?_;go_wp2_with fail;go_meet;case rel=>exact⟨rfl,rfl⟩)
   case rest=>
    obtain⟨rfl,rfl⟩:=hcut;obtain⟨a,M⟩:∃a:World,a=wc.drew.alloc (gN #[fB gL (C.x2 ((C.x4 i).n 5).toNat).1,fB gL (C.x2 ((C.x4 i).n 5).toNat).2] 40):=⟨_,rfl⟩
    have b:Below wc.heap.size wc a:=by rw[M];exact(du wc.heap.size wc).drew.alloc (du wc.heap.size wc).drew.size _
    have N:a.heap[wc.heap.size]?=some (gN #[fB gL (C.x2 ((C.x4 i).n 5).toNat).1,fB gL (C.x2 ((C.x4 i).n 5).toNat).2] 40):=by
     have:=au wc.drew (gN #[fB gL (C.x2 ((C.x4 i).n 5).toNat).1,fB gL (C.x2 ((C.x4 i).n 5).toNat).2] 40);rw[M];exact this
    have E:a.heap.size=wc.heap.size+1:=by rw[M,fo];rfl
    rw[<-M];clear M;replace L:=(b.cell (p:=⟨w.heap.size,4,none⟩) wD).trans L;replace k0:=(b.cell (p:=⟨C.k4,C.o4+i*12,none⟩) g).trans k0;replace k1:=(b.cell (p:=⟨C.k4,C.o4+i*12+1,none⟩) g).trans k1;replace k2:=(b.cell (p:=⟨C.k4,C.o4+i*12+2,none⟩) g).trans k2;replace k3:=(b.cell (p:=⟨C.k4,C.o4+i*12+3,none⟩) g).trans k3;replace k4:=(b.cell (p:=⟨C.k4,C.o4+i*12+4,none⟩) g).trans k4;replace k5:=(b.cell (p:=⟨C.k4,C.o4+i*12+5,none⟩) g).trans k5;replace k6:=(b.cell (p:=⟨C.k4,C.o4+i*12+6,none⟩) g).trans k6;replace k7:=(b.cell (p:=⟨C.k4,C.o4+i*12+7,none⟩) g).trans k7;replace k8:=(b.cell (p:=⟨C.k4,C.o4+i*12+8,none⟩) g).trans k8;replace k9:=(b.cell (p:=⟨C.k4,C.o4+i*12+9,none⟩) g).trans k9;replace CG:=(b.cell (p:=⟨C.k4,C.o4+i*12+10,none⟩) g).trans CG;replace CH:=(b.cell (p:=⟨C.k4,C.o4+i*12+11,none⟩) g).trans CH;replace g:C.k4<a.heap.size:=by omega
    replace wD:w.heap.size<a.heap.size:=by omega
    clear g0 g1 g2 g3 g5 y0 y1;have k:=eN E;have HQ2:=eN N;clear E N
    go_wp2_with (go_at_call 41;refine(yF (C.x4 i) _).mono ?_;rintro e w'⟨rfl,rfl⟩)
    obtain⟨m,t⟩:∃m:World,m=((a.alloc (gN #[fA false] 4)).alloc (gN #[fA false] 4)).alloc (gN (C.x4 i).val 42):=⟨_,rfl⟩
    have V:m.heap.size=a.heap.size+3:=by rw[t];simp
    have j:Below a.heap.size a m:=by rw[t];exact(((du _ _).alloc (dC _) _).alloc (by simp) _).alloc (by simp;omega) _
    have hp:m.heap[a.heap.size+1+1]?=some (gN (C.x4 i).val 42):=by
     have:=au ((a.alloc (gN #[fA false] 4)).alloc (gN #[fA false] 4)) (gN (C.x4 i).val 42);rw[fo,fo]at this;rw[t];exact this
    have YH:m.heap[a.heap.size]?=some (gN #[fA false] 4):=by
     rw[t];exact((((du (a.alloc (gN #[fA false] 4)).heap.size _).alloc (dC _) _).alloc (by simp) _).block _ (by simp)).trans (au a _)
    have ht1:m.heap[a.heap.size+1]?=some (gN #[fA false] 4):=by
     have h1:=au (a.alloc (gN #[fA false] 4)) (gN #[fA false] 4);rw[fo]at h1;rw[t];exact(((du ((a.alloc (gN #[fA false] 4)).alloc (gN #[fA false] 4)).heap.size _).alloc (dC _) _).block _ (by simp)).trans h1
    have E:=k.out;have hqq:=(j.block _ (by omega)).trans HQ2.out;have u:Below w.heap.size w m:=Below.on (Below.on (Below.on J z) b) j;have O:w.heap.size<=a.heap.size:=(Below.on (Below.on J z) b).size;rw[<-t];clear t k0 k1 k2 k3 k4 k5 k6 k7 k8 k9 CG CH L;obtain⟨p0,p1,p2,p3,p4,p5,p6,p7,p8,p9,Cz,Fy⟩:=gx hp;obtain⟨t0,t1,u0,u1⟩:=uJ hqq;obtain⟨v0,x0⟩:=aaA YH;obtain⟨v1,x1⟩:=aaA ht1;obtain⟨o1,o2,o3,o4,o5,o6⟩:=OK.out;have HS1:=eN V;refine(wpIn_wide (n:=9)).1 ?_;refine aP rfl (by omega) (gf:=63) (lb:=#[fV (some ⟨a.heap.size+1+1,0,none⟩)]) rfl trivial (enters_of (fx (by decide) dp) (by kernel_rfl) rfl)
     (tg 8 (by omega) (a.heap.size+1+1) ((C.x4 i).n 1) ((C.x4 i).n 3) ((C.x4 i).n 2-(C.x4 i).n 1+1).toNat ((C.x4 i).n 4-(C.x4 i).n 3+1).toNat o1 (by omega) (by omega) o4 (by omega) (by omega) m (by omega) p1 (by rw[p2];congr 2;omega) p3 (by rw[p4];congr 2;omega))
     Km (Ko (by omega)) (du _ _) (λ_=>rfl)
     (λq W=>(W.cell? ⟨wc.heap.size,0,none⟩=some (fB gL (C.sz i).1)/\W.cell? ⟨wc.heap.size,1,none⟩=some (fB gL (C.sz i).2)/\W.cell? ⟨a.heap.size,0,none⟩=some (fA (q.any (C.zR i)))/\W.cell? ⟨a.heap.size+1,0,none⟩=some (fA (q.any λx=>!C.zR i x))/\W.frozen? ⟨a.heap.size,0,none⟩=false/\W.frozen? ⟨a.heap.size+1,0,none⟩=false)/\Below w.heap.size w W)
     (λ_ _ _=>False)
     (OwnFrom.and (Own.from (λs A B row hs hg F=>⟨aS hs.1 hg F,aS hs.2.1 hg F,aS hs.2.2.1 hg F,aS hs.2.2.2.1 hg F,(aT hs.2.2.1 hg F).trans hs.2.2.2.2.1,(aT hs.2.2.2.1 hg F).trans hs.2.2.2.2.2⟩) _) (ba (dC _) (by have:=u.size;omega)))
     (λ_ _ _ _ _ hs _ _=>hs)
     ⟨⟨t0,t1,v0,v1,x0,x1⟩,u⟩
     (λx=>{ tmps:=#[fJ C.val,fB gL i,fV (some ⟨w.heap.size,0,none⟩),undef,fB gL 0,fB gL 0,u6,fB gL 0,fV (some ⟨wc.heap.size,0,none⟩),fV (some ⟨a.heap.size,0,none⟩),fV (some ⟨a.heap.size+1,0,none⟩),fB gL x,u12,u13,u14,u15,u16,u17,u18,u19,fB gL 0,fA false,undef,u23,u24,u25,u26,u27,u28,u29,u30,u31,u32,fV (some ⟨w.heap.size,4,none⟩),fO (some ⟨C.k4,C.o4,none⟩) C.n4 C.c4,fB gL i,fV (some ⟨C.k4,C.o4+i*12,none⟩),fJ (C.x4 i).val,f6 (.func 63) #[] #[fV (some ⟨a.heap.size+1+1,0,none⟩)],fB gL x,undef,undef,undef,undef,undef,undef,undef,undef,undef],defers:=[] }) ?assign ?body ?done ?stop
    case assign=>
     intro l x W K X;clear E V
     gi_wp2
     exact X
    case body=>
     rintro l q x W⟨⟨a0,a1,a2,a3,a4,a5⟩,y⟩_;clear E V;have bu:a.heap.size≠wc.heap.size:=by have:=k.out;omega
     by_cases I:C.zR i x=true
     ·have P:=eN I;have Q:bO x (C.sz i).1 (C.sz i).2=true:=I;have v:=eN Q;clear I Q
      gi_wp2_with (refine⟨trivial,?_⟩;gi_at_call 28;refine(CallsIn.inRound l (callsIn_wide.2 (rM v.out _))).mono ?_;rintro e w'⟨rfl,rfl⟩)
      refine⟨gw _ _ _,λo=>fi _ _ _ _ (λh=>by have f:=congrArg gt h;have:=k.out;simp only at f;omega),⟨(fi _ _ _ _ (λh=>by have f:=congrArg gt h;have:=k.out;simp only at f;omega)).trans a0,(fi _ _ _ _ (λh=>by have f:=congrArg gt h;have:=k.out;simp only at f;omega)).trans a1,?_,(fi _ _ _ _ (λh=>by have f:=congrArg gt h;have:=k.out;simp only at f;omega)).trans (by rw[a3];simp[P.out]),by rw[fm];exact a4,by rw[fm];exact a5⟩,y.setCell (p:=⟨a.heap.size,0,none⟩) O _⟩;rw[fl _ _ _ (by rw[a2];rfl)];simp[P.out]
     ·have P:=eN (aV I);have Q:bO x (C.sz i).1 (C.sz i).2=false:=aV I;have v:=eN Q;clear I Q
      gi_wp2_with (refine⟨trivial,?_⟩;gi_at_call 28;refine(CallsIn.inRound l (callsIn_wide.2 (yG v.out _))).mono ?_;rintro e w'⟨rfl,rfl⟩)
      refine⟨gw _ _ _,λo=>fi _ _ _ _ (λh=>by have f:=congrArg gt h;have:=k.out;simp only at f;omega),⟨(fi _ _ _ _ (λh=>by have f:=congrArg gt h;have:=k.out;simp only at f;omega)).trans a0,(fi _ _ _ _ (λh=>by have f:=congrArg gt h;have:=k.out;simp only at f;omega)).trans a1,(fi _ _ _ _ (λh=>by have f:=congrArg gt h;have:=k.out;simp only at f;omega)).trans (by rw[a2];simp[P.out]),?_,by rw[fm];exact a4,by rw[fm];exact a5⟩,y.setCell (p:=⟨a.heap.size+1,0,none⟩) (dO O) _⟩;rw[fl _ _ _ (by rw[a3];rfl)];simp[P.out]
    case done=>
     rintro D ys W hD rfl⟨⟨a0,a1,a2,a3,a4,a5⟩,y⟩X;replace a2:W.cell? ⟨a.heap.size,0,none⟩=some (fA ((C.x4 i).NY.any (C.zR i))):=a2;replace a3:W.cell? ⟨a.heap.size+1,0,none⟩=some (fA ((C.x4 i).NY.any λx=>!C.zR i x)):=a3;clear E V
     go_wp2_with (go_at_call 42;refine(yH _ _ _).mono ?_;rintro e w'⟨rfl,rfl⟩)
     refine⟨by simp,.inl ⟨_,_,rfl,bc X,?_⟩⟩;refine⟨C.iq i,?_,rfl,y.trans (belowK_b (w:=w) (dC _) _ D _ _ (by have:=u.size;omega) X rfl rfl)⟩;rw[CD.iq,if_pos hf];simp[aF,dt,go_sem,CD.Cm]
    case stop=>
     rintro D c q W _ _ h _;exact h.elim
  ·have hn:(C.b6 (bO n 0 (C.n4-1)) != 0)=true:=by simpa using hf
   have HF:=eN hf;clear hf f0 f1 f2 f3 f4 f5
   go_wp2
   refine⟨C.iq n,?_,rfl,?_⟩
   ·rw[CD.iq,if_neg HF.out];simp[aF,dt,go_sem]
   ·exact Below.on J z
end Go.Proofs
namespace Go.Proofs
set_option maxHeartbeats 1000000
end Go.Proofs
namespace Go
section
variable {P:aa}{ops:Array Oper}
def Region.fZ(ops:Array Oper)(i:Nat):Option Tmp:=(ops[i]?).bind (·.dst)
def cS(ops:Array Oper)(vs:Nat->Value):List Nat->Act->Act
 |[],a=>a
 |i::l,a=>cS ops vs l (a.put (Region.fZ ops i) (vs i))
def EK(a:Act)(d:Option Tmp)(v:Value):(a.put d v).tmps.size=a.tmps.size:=by
 cases d<;>simp[Act.put]
def put_defers(a:Act)(d:Option Tmp)(v:Value):(a.put d v).defers=a.defers:=by
 cases d<;>rfl
def Cg(a:Act)(d:Option Tmp)(v:Value)(t:Nat):(a.put d v).tmps[t]?=if d=some t/\t<a.tmps.size then some v else a.tmps[t]?:=by
 cases d with
 |none=>simp[Act.put]
 |some d=>
  simp only[Act.put,Array.getElem?_setIfInBounds,Option.some.injEq]
  grind
def uF(vs:Nat->Value):∀(l:List Nat)(a:Act),(cS ops vs l a).tmps.size=a.tmps.size
 |[],_=>rfl
 |i::l,a=>by rw[cS,uF vs l,EK]
def pG(vs:Nat->Value):∀(l:List Nat)(a:Act),(cS ops vs l a).defers=a.defers
 |[],_=>rfl
 |i::l,a=>by rw[cS,pG vs l,put_defers]
def gI(vs:Nat->Value)(t:Nat):∀(l:List Nat)(a:Act),(∀j∈l,Region.fZ ops j≠some t)->(cS ops vs l a).tmps[t]?=a.tmps[t]?
 |[],_,_=>rfl
 |i::l,a,h=>by rw[cS,gI vs t l _ λj b=>h j (eF _ b),Cg,if_neg λe=>h i (eI ..) e.1]
def gJ(vs:Nat->Value)(t j:Nat)(hd:∀k,Region.fZ ops k=some t->k=j)(b:Region.fZ ops j=some t):∀(l:List Nat)(a:Act),j∈l->(cS ops vs l a).tmps[t]?=if t<a.tmps.size then some (vs j) else none
 |i::l,a,h=>by
  rw[cS];by_cases hl:j∈l
  ·rw[gJ vs t j hd b l _ hl,EK]
  ·obtain rfl:i=j:=by grind
   rw[gI vs t l _ λk c e=>hl (hd k e▸c),Cg,b]
   grind
def Oper.dz(o:Oper):Array Edge:=o.after.filter (gy .any)
theorem cH{o:Oper}{e:Edge}:e∈o.dz↔e∈o.after/\gy .any e=true:=by simp[Oper.dz]
def qf(P:aa)(K:Value->World->Prop):Result Next->Prop
 |ft (.value v) w=>K v w
 |ft .skip w=>K undef w
 |ft (.enter f args) w=>Calls P f args w λe w'=>∃v,e=gG v/\K v w'
 |_=>False
@[go_sem] def Tm(K:Value->World->Prop)(v:Value)(w:World):qf P K (ft (.value v) w)=K v w:=rfl
@[go_sem] def Vt(K:Value->World->Prop)(w:World):qf P K (ft .skip w)=K undef w:=rfl
@[go_sem] def Tn(K:Value->World->Prop)(f:ai)(args:Array Value)(w:World):qf P K (ft (.enter f args) w)=Calls P f args w λe w'=>∃v,e=gG v/\K v w':=rfl
@[go_sem] def fC(P:aa)(ops:Array Oper)(K:Value->World->Prop)(o:Oper)(b:Act)(w:World):Prop:=
 if gB o (bd ops b.tmps) then qf P K ((aw b.eval o).run P w) else K undef w
def Region.Ig(ops:Array Oper):Bool:=
 (eb ops.size).all λi=>match ops[i]? with
  |none=>true
  |some o=>(match o.op with | .select ..=>false|_=>true)&&(o.dz.toList.all λe=>decide (e.on<i)&&gy .any e) &&
   (eb ops.size).all λj=>match Region.fZ ops j with
    |none=>true
    |some d=>(j==i||o.dst != some d)&&(!(o.looksAt ops).contains d||o.dz.toList.any λe=>e.on==j)
structure tf(ops:Array Oper):Prop where
 sel:∀(i:Nat)(o:Oper),ops[i]?=some o->∀cs b,o.op≠Op.select cs b
 edge:∀(i:Nat)(o:Oper),ops[i]?=some o->∀e∈o.dz,e.on<i/\gy .any e=true
 one:∀i j t,Region.fZ ops i=some t->Region.fZ ops j=some t->i=j
 look:∀(i:Nat)(o:Oper),ops[i]?=some o->∀j t,Region.fZ ops j=some t->t∈o.looksAt ops->∃e∈o.dz,e.on=j
def yz{i t:Nat}(h:Region.fZ ops i=some t):i<ops.size:=by
 rcases ea i ops.size with b|b
 ·exact b
 ·simp[Region.fZ,gj b]at h
def Ro(h:Region.Ig ops=true):tf ops:=by
 have key:∀(i:Nat)(o:Oper),ops[i]?=some o->(match o.op with | .select ..=>false|_=>true)=true/\(∀e∈o.dz,e.on<i/\gy .any e=true)/\∀j,j<ops.size->∀d,Region.fZ ops j=some d->(j=i\/o.dst≠some d)/\(d∈o.looksAt ops->∃e∈o.dz,e.on=j):=by
  intro i o c;have hi:i<ops.size:=(Array.getElem?_eq_some_iff.1 c).1;simp only[Region.Ig,ed,ej]at h
  grind
 refine⟨λi o c cs b e=>?_,λi o c=>(key i o c).2.1,λi j t hi f=>?_,λi o c j t f hl=>((key i o c).2.2 j (yz f) t f).2 hl⟩
 ·grind
 ·have g:=yz hi;have c:ops[i]?=some ops[i]:=gl g;have hd:ops[i].dst=some t:=by simpa[Region.fZ,c]using hi
  rcases((key i _ c).2.2 j (yz f) t f).1 with e|e
  ·exact e.symm
  ·exact absurd hd e
section
variable {C:World->Prop}{Le:World->World->Prop}{Φ:Nat->(Nat->Value)->World->Prop}{a:Act}{Q:Exit->Act->World->Prop}
def upd(vs:Nat->Value)(i:Nat)(v:Value):Nat->Value:=λj=>if j=i then v else vs j
def cO(ops:Array Oper)(listed:Array Bool):List Nat:=(eb ops.size).filter λi=>listed.getD i true
def AL{o:Oper}{i:Nat}(c:tf ops)(f:ops[i]?=some o){l:List Nat}(hl:∀e∈o.dz,e.on∈l)(vs:Nat->Value)(t:Nat)(m:t∈o.looksAt ops) :
 (cS ops vs l a).tmps[t]?=(cS ops vs (eb i) a).tmps[t]?:=by
 by_cases h:∃j,Region.fZ ops j=some t
 ·obtain⟨j,b⟩:=h;obtain⟨e,g,rfl⟩:=c.look i o f j t b m;rw[gJ vs t e.on (λk d=>c.one _ _ _ d b) b l a (hl e g),gJ vs t e.on (λk d=>c.one _ _ _ d b) b _ a (List.mem_range.2 (c.edge i o f e g).1)]
 ·rw[gI vs t l a λj _ e=>h ⟨j,e⟩,gI vs t _ a λj _ e=>h ⟨j,e⟩]
def Nj{o:Oper}{i:Nat}(b:tf ops)(c:ops[i]?=some o){l:List Nat}(hl:∀e∈o.dz,e.on∈l)(vs:Nat->Value) :
 aw (cS ops vs l a).eval o=aw (cS ops vs (eb i) a).eval o:=by
 refine bg o (b.sel i o c) λx d=>?_
 cases x with
 |tmp t=>
  have f:t∈o.looksAt ops:=eM _ (List.mem_filterMap.2 ⟨.tmp t,by simpa using d,rfl⟩);simp only[Act.eval,gp,AL b c hl vs t f]
 |_=>rfl
def EL{o:Oper}{i:Nat}(b:tf ops)(c:ops[i]?=some o){l:List Nat}(hl:∀e∈o.dz,e.on∈l)(vs:Nat->Value) :
 gB o (bd ops (cS ops vs l a).tmps)=gB o (bd ops (cS ops vs (eb i) a).tmps):=by
 unfold gB
 cases hg:o.guard with
 |none=>rfl
 |some d=>
  obtain⟨g,want⟩:=d;have hy:bd ops (cS ops vs l a).tmps g=bd ops (cS ops vs (eb i) a).tmps g:=by
   unfold bd
   cases f:(ops[g]?).bind (·.dst) with
   |none=>rfl
   |some t=>
    have:=AL (a:=a) b c hl vs t (by simp[Oper.looksAt,hg,f])
    grind
  simp only[hy]
def Rp(g:tf ops){i:Nat}{o:Oper}(q:ops[i]?=some o){listed:Array Bool}(hs:listed.size=ops.size)(s:listed.getD i true=false)(vs:Nat->Value)(v:Value) :
 (cS ops vs (cO ops listed) a).put o.dst v=cS ops (upd vs i v) (cO ops (listed.setIfInBounds i true)) a:=by
 have hi:i<ops.size:=(Array.getElem?_eq_some_iff.1 q).1;have l:Region.fZ ops i=o.dst:=by simp[Region.fZ,q]
 have r:∀j,j∈cO ops (listed.setIfInBounds i true)↔j=i\/j∈cO ops listed:=by
  intro j;simp only[cO,List.mem_filter,ej];by_cases e:i=j
  ·subst e;simp[hi,hs]
  ·have:(listed.setIfInBounds i true).getD j true=listed.getD j true:=by simp_all
   grind
 have u:i∉cO ops listed:=λh=>by
  have:=(List.mem_filter.1 h).2;rw[s]at this;cases this
 obtain⟨x,m⟩:∃x,x=(cS ops vs (cO ops listed) a).put o.dst v:=⟨_,rfl⟩
 obtain⟨y,hy⟩:∃y,y=cS ops (upd vs i v) (cO ops (listed.setIfInBounds i true)) a:=⟨_,rfl⟩
 have z:x.defers=y.defers:=by rw[m,hy,put_defers,pG,pG]
 have A:x.tmps=y.tmps:=by
  apply Array.ext_getElem?;intro t;rw[m,hy,Cg,uF];by_cases n:o.dst=some t
  ·have d:Region.fZ ops i=some t:=l.trans n;rw[gJ _ t i (λk f=>g.one _ _ _ f d) d _ a ((r i).2 (.inl rfl)),upd,if_pos rfl];by_cases p:t<a.tmps.size
   ·simp[n,p]
   ·rw[if_neg λe=>p e.2,if_neg p,gj (by rw[uF];omega)]
  ·rw[if_neg λe=>n e.1];by_cases h:∃j,Region.fZ ops j=some t/\j∈cO ops listed
   ·obtain⟨j,b,c⟩:=h;have w:j≠i:=λe=>u (e▸c);rw[gJ _ t j (λk f=>g.one _ _ _ f b) b _ a c,gJ _ t j (λk f=>g.one _ _ _ f b) b _ a ((r j).2 (.inr c)),upd,if_neg w]
   ·rw[gI _ t _ a λj b e=>h ⟨j,e,b⟩,gI _ t _ a λj b e=>?_]
    grind
 rw[<-m,<-hy];obtain⟨B,D⟩:=x
 simp_all
section
variable (P:aa)(ops:Array Oper)(C:World->Prop)(Le:World->World->Prop)(E:Nat->Bool)(Φ:Nat->(Nat->Value)->World->Prop)(Q:Exit->Act->World->Prop)
def cL:Nat->List Oper->((Nat->Value)->Act)->Prop
 |i,[],b=>∀vs W,C W->(∀j,j<i->E j=false->Φ j vs W)->Q .normal (b vs) W
 |i,o::l,b=>@Bool.rec (λ_=>Prop)
  ((∀vs W,C W->(∀e∈o.dz,E e.on=false->Φ e.on vs W)->fC P ops (λu c=>C c/\Le W c/\Φ i (upd vs i u) c) o (b vs) W)/\cL (i+1) l λvs=>(b vs).put o.dst (vs i))
  (∃v,(∀vs W,C W->(∀e∈o.dz,E e.on=false->Φ e.on vs W)->fC P ops (λu c=>u=v/\C c/\Le W c) o (b vs) W)/\cL (i+1) l λvs=>(b vs).put o.dst v) (E i)
end
def cP{E:Nat->Bool}{i:Nat}{b:(Nat->Value)->Act}(h:∀vs W,C W->(∀j,j<i->E j=false->Φ j vs W)->Q .normal (b vs) W):cL P ops C Le E Φ Q i [] b:=h
def EM{E:Nat->Bool}{i:Nat}{o:Oper}{l:List Oper}{b:(Nat->Value)->Act}(v:Value)(hE:E i=true)
 (h:∀vs W,C W->(∀e∈o.dz,E e.on=false->Φ e.on vs W)->fC P ops (λu c=>u=v/\C c/\Le W c) o (b vs) W) (d:cL P ops C Le E Φ Q (i+1) l λvs=>(b vs).put o.dst v):cL P ops C Le E Φ Q i (o::l) b:=by
 rw[cL,hE];exact⟨v,h,d⟩
def EN{E:Nat->Bool}{i:Nat}{o:Oper}{l:List Oper}{b:(Nat->Value)->Act}(hE:E i=false)
 (h:∀vs W,C W->(∀e∈o.dz,E e.on=false->Φ e.on vs W)->fC P ops (λu c=>C c/\Le W c/\Φ i (upd vs i u) c) o (b vs) W) (d:cL P ops C Le E Φ Q (i+1) l λvs=>(b vs).put o.dst (vs i)):cL P ops C Le E Φ Q i (o::l) b:=by
 rw[cL,hE];exact⟨h,d⟩
def aY{E:Nat->Bool}{i:Nat}{o:Oper}{l:List Oper}{b b':(Nat->Value)->Act}(v:Value)(hE:E i=true)
 (h:∀vs W,C W->(∀e∈o.dz,E e.on=false->Φ e.on vs W)->fC P ops (λu c=>u=v/\C c/\Le W c) o (b vs) W) (hb:∀vs,(b vs).put o.dst v=b' vs) (d:cL P ops C Le E Φ Q (i+1) l b'):cL P ops C Le E Φ Q i (o::l) b:=
 EM v hE h ((funext hb:(λvs=>(b vs).put o.dst v)=b')▸d)
def eH{E:Nat->Bool}{i:Nat}{o:Oper}{l:List Oper}{b b':(Nat->Value)->Act}(hE:E i=false)
 (h:∀vs W,C W->(∀e∈o.dz,E e.on=false->Φ e.on vs W)->fC P ops (λu c=>C c/\Le W c/\Φ i (upd vs i u) c) o (b vs) W) (hb:∀vs,(b vs).put o.dst (vs i)=b' vs) (d:cL P ops C Le E Φ Q (i+1) l b'):cL P ops C Le E Φ Q i (o::l) b:=
 EN hE h ((funext hb:(λvs=>(b vs).put o.dst (vs i))=b')▸d)
def P0{p:Prop}(h:p:=by intro vs;simp only[Act.put,List.setIfInBounds_toArray,List.set_cons_zero,List.set_cons_succ];rfl):p:=h
def uG(vs:Nat->Value)(i:Nat):∀(l:List Nat)(a:Act),cS ops vs (l++[i]) a=(cS ops vs l a).put (Region.fZ ops i) (vs i)
 |[],_=>rfl
 |j::l,a=>by simp only[ev,cS];exact uG vs i l _
def yA{vs b:Nat->Value}:∀(l:List Nat)(a:Act),(∀j∈l,vs j=b j)->cS ops vs l a=cS ops b l a
 |[],_,_=>rfl
 |j::l,a,h=>by simp only[cS];rw[h j (eI ..)];exact yA l _ λk c=>h k (eF _ c)
def vR(E:Nat->Bool)(V vs:Nat->Value):Nat->Value:=λj=>if E j then V j else vs j
def Ch{K d:Value->World->Prop}(h:∀v W,K v W->d v W):∀{r:Result Next},qf P K r->qf P d r:=by
 intro r H
 match r,H with
 |ft (.value v) b,H=>exact h v b H
 |ft .skip b,H=>exact h undef b H
 |ft (.enter f args) b,H=>exact Calls.mono H λe c⟨v,g,i⟩=>⟨v,g,h v c i⟩
def nu{K c:Value->World->Prop}(h:∀v W,K v W->c v W){o:Oper}{b:Act}{W:World}(H:fC P ops K o b W):fC P ops c o b W:=by
 unfold fC at *
 split
 ·rename_i d;rw[if_pos d]at H;exact Ch h H
 grind
def EO{o:Oper}{i:Nat}(c:tf ops)(g:ops[i]?=some o){vs d:Nat->Value}(hv:∀e∈o.dz,vs e.on=d e.on)(t:Nat)(n:t∈o.looksAt ops) :
 (cS ops vs (eb i) a).tmps[t]?=(cS ops d (eb i) a).tmps[t]?:=by
 by_cases h:∃j,Region.fZ ops j=some t
 ·obtain⟨j,b⟩:=h;obtain⟨e,l,rfl⟩:=c.look i o g j t b n;have m:=List.mem_range.2 (c.edge i o g e l).1;rw[gJ vs t e.on (λk f=>c.one _ _ _ f b) b _ a m,gJ d t e.on (λk f=>c.one _ _ _ f b) b _ a m,hv e l]
 ·rw[gI vs t _ a λj _ e=>h ⟨j,e⟩,gI d t _ a λj _ e=>h ⟨j,e⟩]
def Nk{o:Oper}{i:Nat}(c:tf ops)(d:ops[i]?=some o){vs b:Nat->Value}(hv:∀e∈o.dz,vs e.on=b e.on){K:Value->World->Prop}{W:World}
 (H:fC P ops K o (cS ops vs (eb i) a) W):fC P ops K o (cS ops b (eb i) a) W:=by
 have e1:aw (cS ops b (eb i) a).eval o=aw (cS ops vs (eb i) a).eval o:=by
  refine bg o (c.sel i o d) λx h=>?_
  cases x with
  |tmp t=>
   have f:t∈o.looksAt ops:=eM _ (List.mem_filterMap.2 ⟨.tmp t,by simpa using h,rfl⟩);simp only[Act.eval,gp,EO (a:=a) c d hv t f]
  |_=>rfl
 have j:gB o (bd ops (cS ops b (eb i) a).tmps)=gB o (bd ops (cS ops vs (eb i) a).tmps):=by
  unfold gB
  cases hg:o.guard with
  |none=>rfl
  |some k=>
   obtain⟨g,want⟩:=k;have hy:bd ops (cS ops b (eb i) a).tmps g=bd ops (cS ops vs (eb i) a).tmps g:=by
    unfold bd
    cases f:(ops[g]?).bind (·.dst) with
    |none=>rfl
    |some t=>
     have:=EO (a:=a) c d hv t (by simp[Oper.looksAt,hg,f])
     grind
   simp only[hy]
 unfold fC at H ⊢;rw[e1,j];exact H
end
end
section
variable {P:aa}{ops:Array Oper}{C:World->Prop}{Le:World->World->Prop}{Φ:Nat->(Nat->Value)->World->Prop}{a:Act}{Q:Exit->Act->World->Prop}
def Region.Ih(ops:Array Oper)(i:Nat):List Nat:=match ops[i]? with
 |none=>[]
 |some o=>o.dz.toList.map Edge.on
def Region.Ci(ops:Array Oper):Nat->List Nat->List Nat
 |0,s=>s
 |f+1,s=>Region.Ci ops f (s++s.flatMap (Region.Ih ops)).eraseDups
def AM(p:Nat->Prop)(b:∀i,p i->∀j∈Region.Ih ops i,p j):∀(f:Nat)(s:List Nat),(∀i∈s,p i)->∀i∈Region.Ci ops f s,p i
 |0,_,h=>h
 |f+1,s,h=>AM p b f _ λi hi=>by
  grind [List.mem_eraseDups]
structure Late(ops:Array Oper)(k:Nat):Prop where
 all:∀(i:Nat)(o:Oper),ops[i]?=some o->k<=i->∀j,j<k->j∈Region.Ci ops 4 (Region.Ih ops i)
 one:∀(i:Nat)(o:Oper),ops[i]?=some o->k<i->∃e∈o.dz,e.on+1=i
def Region.Kk(ops:Array Oper)(k:Nat):Bool:=decide (k<=ops.size)&&(eb ops.size).all λi=>match ops[i]? with
 |none=>true
 |some o=>decide (i<k)||(((eb k).all λj=>(Region.Ci ops 4 (Region.Ih ops i)).contains j)&&(i==k||o.dz.toList.any λe=>e.on+1==i))
def Kl{k:Nat}(h:Region.Kk ops k=true):k<=ops.size/\Late ops k:=by
 simp only[Region.Kk,fz,decide_eq_true_eq,ed,ej]at h;obtain⟨c,h⟩:=h;refine⟨c,λi o b hi j d=>?_,λi o b hi=>?_⟩
 ·have:=h i (Array.getElem?_eq_some_iff.1 b).1;rw[b]at this;simp only[Bool.or_eq_true,decide_eq_true_eq,fz,ed,ej,List.any_eq_true,beq_iff_eq]at this
  grind
 grind
def yB(p:tf ops){k:Nat}(q:Late ops k):∀(fuel m:Nat)(listed:Array Bool)(b:Act)(W:World),listed.size=ops.size->k<=m->m+fuel=ops.size->(∀j,j<ops.size->listed.getD j true=decide (j<m))->
 aq P ops Q (ops.toList.drop m) b W->wpAny P .any ops Q fuel listed b W
 |0,m,listed,b,W,hs,t,u,hl,h=>by
  have e:ops.toList.drop m=[]:=List.drop_eq_nil_of_le (by simp;omega);rw[e]at h;refine⟨List.filter_eq_nil_iff.2 λi hi=>?_,h⟩
  grind
 |fuel+1,m,listed,b,W,hs,t,u,hl,h=>by
  have f:m<ops.size:=by omega
  have l:ops[m]?=some ops[m]:=gl f;have hd:ops.toList.drop m=ops[m]::ops.toList.drop (m+1):=by
   rw[List.drop_eq_getElem_cons (by simpa using f)];simp
  have r:m∈Region.ready .any ops listed:=by
   refine List.mem_filter.2 ⟨List.mem_range.2 f,?_⟩;rw[hl m f];simp only[Nat.lt_irrefl,decide_false,Bool.not_false,Bool.true_and,l,gD,gE,gr];intro e s
   cases hb:gy .any e with
   |false=>rfl
   |true=>
    have v:=(p.edge m _ l e (cH.2 ⟨s,hb⟩)).1
    grind
  refine⟨λw=>(by rw[w]at r;cases r),λi hi=>?_⟩;have n:i=m:=by
   obtain⟨x,o⟩:=List.mem_filter.1 hi;have c:=List.mem_range.1 x;have d:ops[i]?=some ops[i]:=gl c;rw[d,hl i c]at o;simp only[fz,Bool.not_eq_true',decide_eq_false_iff_not,gD,gE,gr]at o;obtain⟨D,E⟩:=o
   rcases ea m i with v|F
   ·obtain⟨e,s,y⟩:=q.one i _ d (by omega)
    grind[cH]
   ·omega
  subst n;rw[hd]at h;unfold wpOp;simp only[l];have next:∀b' g,aq P ops Q (ops.toList.drop (i+1)) b' g->wpAny P .any ops Q fuel (listed.setIfInBounds i true) b' g:=λb' g z=>by
   refine yB p q fuel (i+1) _ b' g (by simpa using hs) (by omega) (by omega) (λj A=>?_) z;by_cases e:i=j
   ·subst e;simp[hs,A]
   ·have:(listed.setIfInBounds i true).getD j true=listed.getD j true:=by simp_all
    grind
  rw[aq]at h
  split
  ·rename_i B;rw[if_pos B]at h;exact h.imp (Oper.wp_mono next) id
  grind
end
end Go
