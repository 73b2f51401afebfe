/- Part of the proof of FieldNarrow. -/
import Derived.Test.YtmpgbncpnljnoaaGreatU03
import Derived.BigQuiet
import Derived.Carry
import Derived.Deep.QuietTactic
import Derived.Deep.RegionHeld3
import Derived.Laws.RangeAny
import Derived.Lib.Hide
import Derived.LoopIn
import Derived.LoopNIn
import Derived.Maps.OwnOps
import Derived.Orders
import Derived.OwnWalk
import Derived.OwnWalkIn
import Derived.RangeFuncBound
import Derived.RangeFuncCalls
import Derived.RangeFuncLeaves
import Derived.RangeFuncNested
import Derived.Shelf.Abstract
import Derived.Shelf.RegionOpen
import Derived.Tactics
import Derived.Tactics2
import Derived.TacticsInMore
import Derived.WalkKit
import Derived.WalkLawsBesides
import Derived.WalkSpells
set_option linter.all false
open Go renaming Program->aa,TypeId->ab,underlying->ac,sizeOf->ad,typeInfo->ae,zeroValue->ag,FuncId->ai,callFunc->ao,MapEntry->ap,wpList->aq,wpList_plain->ar,execOp->aw,bodyPost_ret->aF,results->aI,yielded->aJ,execOp_congr->aL
open Go.Sem renaming run->aP
open Array renaming getElem?_setIfInBounds_ne->aS,getElem?_eq_none->aT,getElem?_eq_getElem->ba,getD_eq_getD_getElem?->bb,all_eq_true'->bc,replicate->bd
open Go.Proofs.Tryz renaming prog->bg,func15->bi,func17->bm,func52->bo,func7->bp,func65->br,func34->bs,func49->bt,func50->bv,func79->bw,func80->bx,func81->bA,func82->bC,func83->bL,func35->bM,func36->bR,func37->bT,func38->bX,func30->b1,func31->b8,func64->b9,func48->ca,func53->cb,func32->cc,func108->cd,func109->ce,func110->cf,func63->cg,func121->ch,func84->ci,func85->cl,ntmps80->cm,ntmps110->co,ntmps81->cp,ntmps83->ct,ntmps82->cv,ntmps30->cB,results30->cC,ntmps17->cQ,ntmps63->da,ntmps36->db,ntmps38->dd,ntmps37->de,ntmps7->df,ntmps15->di
open Go.RowKit.Below renaming refl->dj,heap_alloc->dk,trans->dl
open Nat renaming le_refl->dp,zero_le->dq,not_lt_zero->dt,le_succ_of_le->du,lt_trans->dv,lt_of_lt_of_le->dy,add_zero->dC,le_succ->dK,lt_or_ge->dL
open List renaming range->dO,all_eq_false->dQ,all_eq_true->dS,map_cons->dT,range_succ->dU,map_append->d8,mem_range->d9,mem_cons_of_mem->ea,mem_cons_self->eb,mem_append_left->ec,cons_append->ed,range_add->eg,countP_congr->eh,countP_cons->ei,length_nil->ej,length_append->ek,append_assoc->el
open Go.Lib renaming hid->em
open Go.Instr renaming checkKey->en,findKey->ep,sameNow->eq,findNow->et,findAsking->eu,lookup->ev,mapUpdate->eA,index->eD
open Go.MapKept renaming run_getObj_map->eE
open Go.World renaming cell?_of_block->eF,cell?->eI
open Go.Result renaming andThen->eM,ok->eN
open Bool renaming and_eq_true->eP,rec->eQ,not_false->eS,true_and->eT,not_eq_true'->eV
open Go.Value renaming bool->eW,int->e6,agg->e8,slice->e9,string->fb,map->fc,pointer->fg,tuple->fi
open Int renaming mul_nonneg->fl,mul_add->fm,le_total->fo,neg_mul_neg->fp,mul_le_mul->ft,eq_ofNat_of_zero_le->fz
open Go.Region renaming binds->fA,wanted->fB,ready->fJ
open Option renaming map_some->fO,getD_some->fP
open Go.Code renaming region->fR
open Go.Next renaming enter->fV,value->fY,skip->f6
open Go.Ending renaming returned->f7
open Go.IntKind renaming i64->f8
open Go.Obj renaming cells->f9
open Go.Exit renaming normal->gb
open Go.Departure renaming mixedOrders->gc
namespace Go
def nO(P:aa)(n:ab)(w:World):aP P (ac n) w=match P.underlying n with|some i=>eN i w|none=>.halt (.stuck "no such type") w:=by
 cases h:P.underlying n<;>simp[ac,h]
section
variable {P Q:aa}
def yf(h:P.toTables=Q.toTables)(n:ab):P.info? n=Q.info? n:=by
 grind
def Cb(h:P.toTables=Q.toTables)(n:ab):P.underlying n=Q.underlying n:=by
 simp only[Program.underlying,yf h]
def yg(h:P.toTables=Q.toTables)(n:ab)(w:World):aP P (ac n) w=aP Q (ac n) w:=by
 rw[nO,nO,Cb h]
def Hw(h:P.toTables=Q.toTables)(n:ab)(w:World):aP P (ad n) w=aP Q (ad n) w:=by
 have e:=yf h n
 cases a:Q.info? n with
 |none=>rw[a]at e;simp[ad,ae,a,e]
 |some i=>rw[a]at e;simp[ad,ae,a,e]
def Na(h:P.toTables=Q.toTables)(n:ab)(w:World):aP P (isAgg n) w=aP Q (isAgg n) w:=by
 have e:=Cb h n
 cases a:Q.underlying n with
 |none=>rw[a]at e;simp[isAgg,ac,a,e]
 |some d=>rw[a]at e;cases d<;>simp[isAgg,ac,a,e]
def QZ(h:P.toTables=Q.toTables)(n:ab)(w:World):aP P (ag n) w=aP Q (ag n) w:=by
 have e:=yf h n
 cases a:Q.info? n with
 |none=>rw[a]at e;simp[ag,ae,a,e]
 |some i=>
  rw[a]at e;cases b:i.zero<;>simp[ag,ae,a,e,b]
end
end Go
namespace Go.Proofs
open Go.RowKit
set_option maxRecDepth 100000
noncomputable def PL:aa:=⟨Tryz.progTables,cY.funcs⟩
def mo:PL.toTables=Tryz.prog.toTables:=rfl
def fx{n:Nat}{f:Func}(h:43≠n)(hf:Tryz.prog.funcs[n]?=some f):PL.funcs[n]?=some f:=by
 show(Tryz.funcs.setIfInBounds 43 nS)[n]?=_;rw[aS h];exact hf
@[simp] def PL.tables:PL.toTables=Tryz.prog.toTables:=rfl
@[simp] def PL.tY(n:ab):PL.underlying n=Tryz.prog.underlying n:=Cb mo n
@[simp] def PL.abF(n:ab)(w:World):aP PL (ad n) w=aP bg (ad n) w:=Hw mo n w
@[simp] def PL.runUnderlying(n:ab)(w:World):aP PL (ac n) w=aP bg (ac n) w:=yg mo n w
@[simp] def PL.afe(n:ab)(w:World):aP PL (isAgg n) w=aP bg (isAgg n) w:=Na mo n w
@[simp] def PL.U4(n:ab)(w:World):aP PL (ag n) w=aP bg (ag n) w:=QZ mo n w
end Go.Proofs
namespace Go
def JZ{P:aa}{n:ai}{fn:Func}(h:P.funcs[n]?=some fn)(a:(fn.name == "runtime.NumGoroutine")=false)(hb:fn.body.isNone=false)(args:Array Value)(w:World):aP P (ao n args) w=eN (fV n args) w:=by
 have b:fn.name≠ "runtime.NumGoroutine":=by simpa using a
 have c:fn.body≠none:=λe=>by rw[e]at hb;cases hb
 simp[ao,h,b,c]
end Go
namespace Go.Proofs
set_option maxRecDepth 100000
abbrev ax(n:ai):Prop:=∀(args:Array Value)(w:World),aP PL (ao n args) w=eN (fV n args) w
def pc{n:ai}{fn:Func}(h:Tryz.prog.funcs[n]?=some fn)(a:43≠n:=by decide)(b:(fn.name == "runtime.NumGoroutine")=false:=by decide +kernel)(hb:fn.body.isNone=false:=by rfl):ax n:=
 JZ (fx a h) b hb
def Cc:PL.funcs[43]?=some nS:=by
 have hl:43<Tryz.funcs.size:=(Array.getElem?_eq_some_iff.1 Tryz.func43).1;show(Tryz.funcs.setIfInBounds 43 nS)[43]?=_
 grind
@[simp] def PL.call98(args:Array Value)(w:World):aP PL (ao 43 args) w=eN (fV 43 args) w:=JZ Cc (by decide +kernel) rfl args w
@[simp] def PL.call18:ax 15:=pc bi
@[simp] def PL.call19:ax 5:=pc Tryz.func5
@[simp] def PL.call20:ax 17:=pc bm
@[simp] def PL.call22:ax 52:=pc bo
@[simp] def PL.call23:ax 7:=pc bp
@[simp] def PL.call24:ax 18:=pc Tryz.func18
@[simp] def PL.call26:ax 19:=pc Tryz.func19
@[simp] def PL.call28:ax 23:=pc Tryz.func23
@[simp] def PL.call30:ax 29:=pc Tryz.func29
@[simp] def PL.call31:ax 24:=pc Tryz.func24
@[simp] def PL.call33:ax 4:=pc Tryz.func4
@[simp] def PL.call34:ax 8:=pc Tryz.func8
@[simp] def PL.call36:ax 9:=pc Tryz.func9
@[simp] def PL.call37:ax 10:=pc Tryz.func10
@[simp] def PL.call38:ax 25:=pc Tryz.func25
@[simp] def PL.call39:ax 21:=pc Tryz.func21
@[simp] def PL.call45:ax 65:=pc br
@[simp] def PL.call49:ax 11:=pc Tryz.func11
@[simp] def PL.call52:ax 22:=pc Tryz.func22
@[simp] def PL.call56:ax 27:=pc Tryz.func27
@[simp] def PL.call58:ax 26:=pc Tryz.func26
@[simp] def PL.call59:ax 20:=pc Tryz.func20
@[simp] def PL.call61:ax 12:=pc Tryz.func12
@[simp] def PL.call65:ax 28:=pc Tryz.func28
@[simp] def PL.call70:ax 6:=pc Tryz.func6
@[simp] def PL.call72:ax 13:=pc Tryz.func13
@[simp] def PL.call73:ax 14:=pc Tryz.func14
@[simp] def PL.call74:ax 34:=pc bs
@[simp] def PL.call77:ax 16:=pc Tryz.func16
@[simp] def PL.call78:ax 49:=pc bt
@[simp] def PL.call79:ax 50:=pc bv
@[simp] def PL.call81:ax 79:=pc bw
@[simp] def PL.call82:ax 80:=pc bx
@[simp] def PL.call83:ax 81:=pc bA
@[simp] def PL.call84:ax 82:=pc bC
@[simp] def PL.call85:ax 83:=pc bL
@[simp] def PL.call86:ax 35:=pc bM
@[simp] def PL.call87:ax 36:=pc bR
@[simp] def PL.call88:ax 37:=pc bT
@[simp] def PL.call89:ax 38:=pc bX
@[simp] def PL.call90:ax 30:=pc b1
@[simp] def PL.call91:ax 31:=pc b8
@[simp] def PL.call92:ax 51:=pc Tryz.func51
@[simp] def PL.call94:ax 64:=pc b9
@[simp] def PL.call96:ax 48:=pc ca
@[simp] def PL.call97:ax 42:=pc Tryz.func42
@[simp] def PL.call99:ax 44:=pc Tryz.func44
@[simp] def PL.call101:ax 56:=pc Tryz.func56
@[simp] def PL.call105:ax 58:=pc Tryz.func58
@[simp] def PL.call108:ax 39:=pc Tryz.func39
@[simp] def PL.call109:ax 40:=pc Tryz.func40
@[simp] def PL.call110:ax 41:=pc Tryz.func41
@[simp] def PL.call111:ax 45:=pc Tryz.func45
@[simp] def PL.call112:ax 53:=pc cb
@[simp] def PL.call113:ax 54:=pc Tryz.func54
@[simp] def PL.call114:ax 46:=pc Tryz.func46
@[simp] def PL.call115:ax 55:=pc Tryz.func55
@[simp] def PL.call118:ax 47:=pc Tryz.func47
@[simp] def PL.call127:ax 32:=pc cc
@[simp] def PL.call128:ax 33:=pc Tryz.func33
@[simp] def PL.call131:ax 108:=pc cd
@[simp] def PL.call132:ax 109:=pc ce
@[simp] def PL.call133:ax 110:=pc cf
@[simp] def PL.call134:ax 63:=pc cg
@[simp] def PL.call142:ax 77:=pc Tryz.func77
@[simp] def PL.call143:ax 66:=pc Tryz.func66
@[simp] def PL.call145:ax 68:=pc Tryz.func68
@[simp] def PL.call146:ax 75:=pc Tryz.func75
@[simp] def PL.call151:ax 59:=pc Tryz.func59
@[simp] def PL.call152:ax 60:=pc Tryz.func60
@[simp] def PL.call153:ax 61:=pc Tryz.func61
@[simp] def PL.call154:ax 62:=pc Tryz.func62
@[simp] def PL.call157:ax 121:=pc ch
@[simp] def PL.call158:ax 84:=pc ci
@[simp] def PL.call159:ax 85:=pc cl
@[simp] def PL.call180:ax 107:=pc Tryz.func107
@[simp] def PL.call181:ax 106:=pc Tryz.func106
@[simp] def PL.call191:ax 120:=pc Tryz.func120
@[simp] def PL.call199:ax 129:=pc Tryz.func129
open Go.RowKit
set_option maxHeartbeats 400000
def aO(v:Value)(w:World)(e:Ending)(w':World):Prop:=e=f7 v/\Below w.heap.size w w'
def bO(n a b:Int):Bool:=decide (a<=n)&&decide (n<=b)
def bG(n a b:Int)(w:World) :
 Calls PL 49 #[e6 f8 n,e6 f8 a,e6 f8 b] w λe w'=>e=f7 (eW (bO n a b))/\w'=w:=by
 go_enter (fx (by decide) bt),Tryz.ntmps49
 go_wp2
 all_goals (go_ret;simp[bO];try omega)
def o8(n:Int)(w:World):Calls PL 53 #[e6 f8 n] w λe w'=>e=f7 (eW (bO n 0 12))/\w'=w:=by
 go_enter (fx (by decide) cb),Tryz.ntmps53
 go_wp2_with (go_at_call 49;refine(bG _ _ _ _).mono ?_;rintro e w'⟨rfl,rfl⟩)
 go_ret
 exact⟨rfl,rfl⟩
def eK(a b low c:Int):Bool:=decide (low<=a)&&decide (a<=b)&&decide (b<=c)
def nh(a b low c:Int)(w:World) :
 Calls PL 32 #[e8 #[e6 f8 a,e6 f8 b],e6 f8 low,e6 f8 c] w (aO (eW (eK a b low c)) w):=by
 go_enter (fx (by decide) cc),Tryz.ntmps32
 go_wp2
 all_goals (go_ret;refine⟨?_,(dj _ _).alloc (dp _) _⟩;simp[eK];try omega)
def Ej(a b:Bool):Int:=if b then(if a then 0 else 2) else 1
def U5(a b:Bool)(w:World):Calls PL 48 #[eW a,eW b] w λe w'=>e=f7 (e6 f8 (Ej a b))/\w'=w:=by
 cases a<;>cases b
 all_goals
  go_enter (fx (by decide) ca),Tryz.ntmps48
  go_wp2
  go_ret
  exact⟨rfl,rfl⟩
def fN{n a b:Int}(h:bO n a b=true)(w:World):Calls PL 49 #[e6 f8 n,e6 f8 a,e6 f8 b] w λe w'=>e=f7 (eW true)/\w'=w:=by
 have:=bG n a b w;rwa[h]at this
def pZ{n a b:Int}(h:bO n a b=false)(w:World):Calls PL 49 #[e6 f8 n,e6 f8 a,e6 f8 b] w λe w'=>e=f7 (eW false)/\w'=w:=by
 have:=bG n a b w;rwa[h]at this
def Ek{a b low c:Int}(h:eK a b low c=true)(w:World):Calls PL 32 #[e8 #[e6 f8 a,e6 f8 b],e6 f8 low,e6 f8 c] w (aO (eW true) w):=by
 have:=nh a b low c w;rwa[h]at this
def El{a b low c:Int}(h:eK a b low c=false)(w:World):Calls PL 32 #[e8 #[e6 f8 a,e6 f8 b],e6 f8 low,e6 f8 c] w (aO (eW false) w):=by
 have:=nh a b low c w;rwa[h]at this
def aV{b:Bool}(h:¬b=true):b=false:=by simpa using h
def pq(n:Nat)(x:Nat->Int×Int):Int:=if bO n 1 3 then(if(dO n).all λi=>eK (x i).1 (x i).2 0 90 then 0 else 1) else 2
def Nb(l p:Int)(b:Option Addr)(k o n c:Nat)(x:Nat->Int×Int)(z A v5:Value)(w:World)(E:n<=20)(s:k<w.heap.size)(hs:0<n->b=some ⟨k,o,none⟩)
 (t:∀i,i<n->w.cell? ⟨k,o+i*2,none⟩=some (e6 f8 (x i).1)) (u:∀i,i<n->w.cell? ⟨k,o+i*2+1,none⟩=some (e6 f8 (x i).2)) :
 Calls PL 80 #[e8 #[e6 f8 l,e6 f8 p,e9 b n c,z,A,v5]] w (aO (e6 f8 (pq n x)) w):=by
 have B:=em t;have C:=em u;clear t u;by_cases hb:bO (↑n) 1 3=true
 ·have D:0<n:=by simp[bO]at hb;omega
  obtain rfl:=hs D;have d:=em hb;clear hb hs
  go_enter (fx (by decide) bx),cm
  go_wp2_with (go_at_call 49;refine(fN d.out _).mono ?_;rintro e w'⟨rfl,rfl⟩)
  go_loopw [15] (λi wr=>∃m:Nat,m<=n/\i=e6 f8 m/\(∀j,j<m->eK (x j).1 (x j).2 0 90=true)/\Below w.heap.size w wr) (λi _=>n-(intOf i).toNat)
  case atStart=>exact⟨0,dq _,rfl,λj f=>absurd f (dt _),(dj _ _).alloc (dp _) _⟩
  case round=>
   obtain⟨m,F,rfl,v,a⟩:=hrel;have y:=em v;clear v;by_cases q:m<n
   ·have c0:=(a.cell (p:=⟨k,o+m*2,none⟩) s).trans (B.out m q);have c1:=(a.cell (p:=⟨k,o+m*2+1,none⟩) s).trans (C.out m q);by_cases hi:eK (x m).1 (x m).2 0 90=true
    ·have g:=em hi;clear hi
     go_wp2_with (go_at_call 32;refine(Ek g.out _).mono ?_;rintro e w1⟨rfl,r⟩)
     go_roundw
     case rel=>exact⟨m+1,q,by go_num,λj f=>by
      rcases Nat.lt_succ_iff_lt_or_eq.1 f with h|h
      ·exact y.out j h
      ·rw[h];exact g.out,(a.alloc a.size _).trans (r.mono (by simpa using du a.size))⟩
     case measure=>simp[intOf];omega
    ·have g:=em (aV hi);clear hi
     go_wp2_with (go_at_call 32;refine(El g.out _).mono ?_;rintro e w1⟨rfl,r⟩)
     go_ret
     refine⟨?_,?_⟩
     ·have:((dO n).all λi=>eK (x i).1 (x i).2 0 90)=false:=by
       rw[dQ];exact⟨m,List.mem_range.2 q,by simp[g.out]⟩
      simp[pq,d.out,this]
     ·exact(a.alloc a.size _).trans (r.mono (by simpa using du a.size))
   ·go_wp2
    go_ret
    refine⟨?_,a⟩;have:((dO n).all λi=>eK (x i).1 (x i).2 0 90)=true:=by
     rw[dS];intro j f;exact y.out j (by have:=List.mem_range.1 f;omega)
    simp[pq,d.out,this]
 ·have d:=em (aV hb);clear hb
  go_enter (fx (by decide) bx),cm
  go_wp2_with (go_at_call 49;refine(pZ d.out _).mono ?_;rintro e w'⟨rfl,rfl⟩)
  go_ret
  exact⟨by simp[pq,d.out],(dj _ _).alloc (dp _) _⟩
end Go.Proofs
namespace Go
open Instr Go.RowKit
section
variable {P:aa}{w:World}
structure KeyLaw(P:aa)(tk:ab){α:Type}(enc:α->Value):Prop where
 check:∀b x w,(en b 10000 tk (enc x)).run P w=eN () w
 find:∀(es:List ap)(ks:List α)(x:α)(w:World),es.map (·.key)=ks.map enc->∃r,(ep tk (enc x) es).run P w=eN r w/\(x∈ks->∃i,∃e∈es,r=some (i,e.val))/\(x∉ks->r=none)
def vq{c:Type}{enc:c->Value}{d:TypeDesc}(h:∀x y,eq d (enc x) (enc y)=some true/\x=y\/eq d (enc x) (enc y)=some false/\x≠y)(x:c) :
 ∀(es:List ap)(a:List c)(i:Nat),es.map (·.key)=a.map enc->∃r,et d (enc x) es i=some r/\(x∈a->∃j,∃e∈es,r=some (j,e.val))/\(x∉a->r=none):=by
 intro es
 induction es with
 |nil=>
  intro a i b
  cases a with
  |nil=>exact⟨none,rfl,λh=>absurd h (by simp),λ_=>rfl⟩
  |cons _ _=>simp at b
 |cons e es l=>
  intro a i b
  cases a with
  |nil=>simp at b
  |cons y a=>
   simp only[dT,List.cons.injEq]at b
   rcases h x y with⟨f,rfl⟩|⟨f,o⟩
   ·exact⟨some (i,e.val),by simp[et,b.1,f],λ_=>⟨i,e,by simp,rfl⟩,λg=>absurd (by simp) g⟩
   ·obtain⟨r,m,p,n⟩:=l a (i+1) b.2;refine⟨r,by simp[et,b.1,f,m],λk=>?_,λg=>n λk=>g (by simp[k])⟩
    grind
def yj{c:Type}{enc:c->Value}{tk:ab}[DecidableEq c](h:∀x y(w:World),(Op.equal tk (enc x) (enc y)).run P w=eN (decide (x=y)) w)(x:c) :
 ∀(es:List ap)(a:List c)(i:Nat)(w:World),es.map (·.key)=a.map enc->∃r,(eu tk (enc x) es i).run P w=eN r w/\(x∈a->∃j,∃e∈es,r=some (j,e.val))/\(x∉a->r=none):=by
 intro es
 induction es with
 |nil=>
  intro a i w b
  cases a with
  |nil=>exact⟨none,rfl,λh=>absurd h (by simp),λ_=>rfl⟩
  |cons _ _=>simp at b
 |cons e es k=>
  intro a i w b
  cases a with
  |nil=>simp at b
  |cons y a=>
   simp only[dT,List.cons.injEq]at b;by_cases f:x=y
   ·subst f;exact⟨some (i,e.val),by simp[eu,b.1,h],λ_=>⟨i,e,by simp,rfl⟩,λd=>absurd (by simp) d⟩
   ·obtain⟨r,l,n,m⟩:=k a (i+1) w b.2;refine⟨r,by simp[eu,b.1,h,f,l],λg=>?_,λd=>m λg=>d (by simp[g])⟩
    grind
def Hx{tk:ab}{k:IntKind}(a:P.underlying tk=some (.int k)):KeyLaw P tk (λn:Int=>e6 k n) where
 check b x w:=by
  show(en b (9999+1) tk _).run P w=_;generalize 9999=n;simp[en,ac,a]
 find es c x w e:=by
  obtain⟨r,f,g,i⟩:=vq (enc:=λn:Int=>e6 k n) (d:=.int k) (λx y=>by
   by_cases h:x=y
   ·exact .inl ⟨by simp[eq,h],h⟩
   ·exact .inr ⟨by simp[eq,h],h⟩) x es c 0 e
  exact⟨r,by simp[ep,ac,a,f],g,i⟩
def bytes_beq(x y:ByteArray):(x==y)=decide (x=y):=by
 obtain⟨a⟩:=x;obtain⟨b⟩:=y;show(a==b)=_
 grind
instance:LawfulBEq ByteArray where
 rfl:=by intro a;rw[bytes_beq];simp
 eq_of_beq:=by intro a b h;rw[bytes_beq]at h;simpa using h
def zP{tk:ab}(a:P.underlying tk=some .string):KeyLaw P tk (λs:ByteArray=>fb s) where
 check b x w:=by
  show(en b (9999+1) tk _).run P w=_;generalize 9999=n;simp[en,ac,a]
 find es c x w e:=by
  obtain⟨r,f,g,i⟩:=vq (enc:=λn:ByteArray=>fb n) (d:=.string) (λx y=>by
   by_cases h:x=y
   ·exact .inl ⟨by simp[eq,bytes_beq,h],h⟩
   ·exact .inr ⟨by simp[eq,bytes_beq,h],h⟩) x es c 0 e
  exact⟨r,by simp[ep,ac,a,f],g,i⟩
def aU(w:World){a:Type}(enc:a->Value)(b:Nat)(l:List a):Prop:=∃es clock,w.heap[b]?=some (.map es clock)/\es.toList.map (·.key)=l.map enc/\∀e∈es.toList,e.val=eW true
def aU.of_heap{a:Type}{enc:a->Value}{b:Nat}{l:List a}{w w':World}(h:aU w enc b l)(e:w'.heap[b]?=w.heap[b]?):aU w' enc b l:=by
 obtain⟨es,c,d,f⟩:=h;exact⟨es,c,e.trans d,f⟩
def aU.lookup{a:Type}{enc:a->Value}{b:Nat}{l:List a}{t tk g:ab}[DecidableEq a](h:aU w enc b l)(K:KeyLaw P tk enc)(j:P.underlying t=some (.map tk g))(m:(ag g).run P w=eN (eW false) w)(x:a) :
 (ev t (fc (some b)) (enc x) false).run P w=eN (eW (decide (x∈l))) w:=by
 obtain⟨es,c,k,n,o⟩:=h;obtain⟨r,f,p,q⟩:=K.find es.toList l x w n;by_cases d:x∈l
 ·obtain⟨i,e,s,rfl⟩:=p d;simp[ev,ac,j,eE k,K.check,f,d,o e s]
 ·rw[q d]at f;simp[ev,ac,j,eE k,K.check,f,d,m]
structure gv(w w':World)(b:Nat):Prop where
 os:w'.os=w.os
 tape:w'.tape=w.tape
 output:w'.output=w.output
 size:w'.heap.size=w.heap.size
 block:∀c,c≠b->w'.heap[c]?=w.heap[c]?
def gv.below{w w':World}{b B:Nat}(h:gv w w' b)(a:B<=b):Below B w w':=⟨h.os,h.tape,h.output,by rw[h.size];exact dp _,λk c=>h.block k (by omega)⟩
def gv.cell{w w':World}{b:Nat}(h:gv w w' b){a:Addr}(c:a.block≠b):w'.cell? a=w.cell? a:=eF (w:=w) (h.block a.block c)
def aU.put{a:Type}{enc:a->Value}{b:Nat}{l:List a}{t tk i:ab}(h:aU w enc b l)(K:KeyLaw P tk enc)(j:P.underlying t=some (.map tk i)){x:a}(m:x∉l) :
 ∃w',(eA t (fc (some b)) (enc x) (eW true)).run P w=eN () w'/\aU w' enc b (l++[x])/\gv w w' b:=by
 obtain⟨es,c,d,f,o⟩:=h;obtain⟨r,g,p,n⟩:=K.find es.toList l x w f;rw[n m]at g;have hb:b<w.heap.size:=(Array.getElem?_eq_some_iff.1 d).1;refine⟨{ w with heap:=w.heap.setIfInBounds b (.map (es.push { key:=enc x,val:=eW true,born:=c }) (c+1)) },?_,⟨es.push { key:=enc x,val:=eW true,born:=c },c+1,by simp[hb],by simp[f],λe q=>?_⟩,rfl,rfl,rfl,by simp,λk s=>?_⟩
 ·simp[eA,ac,j,eE d,K.check,g,MapKept.run_setObj_map _ d]
 ·grind
 grind
def aU.made{a:Type}{enc:a->Value}(w:World):aU (w.alloc (.map #[] 0)) enc w.heap.size ([]:List a):=⟨#[],0,by show(w.heap.push _)[w.heap.size]?=_;simp,rfl,λe b=>by simp at b⟩
def aR{P:aa}(w:World){ops:Array Oper}{rest:List Oper}{o:Oper}{a:Act}{Q:Exit->Act->World->Prop}{c:Type}[DecidableEq c]{enc:c->Value}
 (hg:o.guard=none) (m x:Operand) (t tk d:ab) (g:o.op=Op.lookup t m x false) (K:KeyLaw P tk enc) (i:P.underlying t=some (.map tk d)) (j:(ag d).run P w=eN (eW false) w)
 (b:Nat) (l:List c) (k:a.eval m=fc (some b)) (h:aU w enc b l) (y:c) (n:a.eval x=enc y) (v:Bool) (hv:v=true↔y∈l) (p:aq P ops Q rest (a.put o.dst (eW v)) w):aq P ops Q (o::rest) a w:=by
 refine ar hg λq hK'=>?_;have f:=h.lookup K i j y;have e:decide (y∈l)=v:=by
  grind
 rw[e]at f;unfold Oper.wp;simp[aw,g,k,n,f,eM];exact hK' _ _ p
def dH{P:aa}(w:World){ops:Array Oper}{rest:List Oper}{o:Oper}{a:Act}{Q:Exit->Act->World->Prop}{c:Type}{enc:c->Value}
 (hg:o.guard=none) (m x v:Operand) (t tk d:ab) (e:o.op=Op.mapUpdate t m x v) (K:KeyLaw P tk enc) (f:P.underlying t=some (.map tk d))
 (b:Nat) (l:List c) (g:a.eval m=fc (some b)) (h:aU w enc b l) (y:c) (i:a.eval x=enc y) (hv:a.eval v=eW true) (j:y∉l)
 (k:∀w',aU w' enc b (l++[y])->gv w w' b->aq P ops Q rest (a.put o.dst undef) w'):aq P ops Q (o::rest) a w:=by
 refine ar hg λr hK'=>?_;obtain⟨w',n,p,q⟩:=h.put K f j;unfold Oper.wp;simp[aw,e,g,i,hv,n,eM];exact hK' _ _ (k w' p q)
end
end Go
namespace Go.Proofs
open Go.Instr
set_option maxRecDepth 100000
def aaj:PL.underlying 3=some (.int f8):=by simp_all
def al1:PL.underlying 9=some .string:=by simp_all
def qz:KeyLaw PL 3 (λn:Int=>e6 f8 n):=Hx aaj
def aak:KeyLaw PL 9 (λs:ByteArray=>fb s):=zP al1
def jc(p:Int×Int):Value:=e8 #[e6 f8 p.1,e6 f8 p.2]
def mq(w:World):(ag 4).run PL w=eN (eW false) w:=by simp_all
def ju:PL.underlying 111=some (.map 3 4):=by simp_all
def Hy:PL.underlying 175=some (.map 9 4):=by simp_all
def Hz:PL.underlying 170=some (.map 172 4):=by simp_all
def Q0:PL.stoodInHeld 172=false:=by kernel_rfl
def Nc:(PL.fieldsOf 172).toList=[{ name:= "low",type:=3,offset:=0,embedded:=false,tag:= "",pkgPath:= "nock/field",byteOffset:=0 },{ name:= "high",type:=3,offset:=1,embedded:=false,tag:= "",pkgPath:= "nock/field",byteOffset:=8 }]:=by kernel_rfl
def Q1:PL.underlying 172=some (.struct (PL.fieldsOf 172)):=by kernel_rfl
def afg(x y:Int×Int)(w:World):(Op.equal 172 (jc x) (jc y)).run PL w=eN (decide (x=y)) w:=by
 obtain⟨a,b⟩:=x;obtain⟨c,d⟩:=y;have e:=run_equalIn_struct (P:=PL) w 9999 172 #[e6 f8 a,e6 f8 b] #[e6 f8 c,e6 f8 d] Q1 Q0;show(Op.equalIn (9999+1) 172 _ _).run PL w=_;rw[show jc (a,b)=e8 #[e6 f8 a,e6 f8 b] from rfl,show jc (c,d)=e8 #[e6 f8 c,e6 f8 d] from rfl,e,Nc];have f:∀(m n:Int)(w:World),(Op.equalIn 9999 3 (e6 f8 m) (e6 f8 n)).run PL w=eN (m==n) w:=λm n w=>run_equalIn_int w 9998 3 f8 f8 m n aaj;generalize 9999=N at f;by_cases g:a=c<;>by_cases h:b=d<;>simp[Op.eqFields,part,f,g,h]
def Q4(b:Bool)(x:Int×Int)(w:World):(en b 10000 172 (jc x)).run PL w=eN () w:=by
 obtain⟨a,c⟩:=x;show(en b (9999+1) 172 (e8 #[e6 f8 a,e6 f8 c])).run PL w=_;have d:∀(m:Int)(w:World),(en b 9999 3 (e6 f8 m)).run PL w=eN () w:=λm w=>by
  show(en b (9998+1) 3 _).run PL w=_;generalize 9998=n;simp[en]
 generalize 9999=n at d;simp[en,part,d]
def HH:KeyLaw PL 172 jc where
 check:=Q4
 find es a x w b:=by
  cases es with
  |nil=>
   cases a with
   |nil=>exact⟨none,by simp[ep,et],λh=>absurd h (by simp),λ_=>rfl⟩
   |cons _ _=>simp at b
  |cons e es=>
   cases a with
   |nil=>simp at b
   |cons y a=>
    obtain⟨r,f,c,d⟩:=yj (P:=PL) (tk:=172) (enc:=jc) afg x (e::es) (y::a) 0 w b;have g:et (TypeDesc.struct (PL.fieldsOf 172)) (jc x) (e::es) 0=none:=by
     simp[et,eq]
    have i:(ac 172).run PL w=eN (.struct (PL.fieldsOf 172)) w:=run_underlying Q1 w;refine⟨r,?_,c,d⟩;unfold ep
    simp_all
end Go.Proofs
namespace Go.Proofs
open Go.RowKit
set_option maxRecDepth 100000
set_option maxHeartbeats 400000
def jd(l p:Int):Int:=if bO l 1 999&&bO p 1 6 then 0 else 1
def Em(l p:Int)(a b c v5:Value)(w:World) :
 Calls PL 79 #[e8 #[e6 f8 l,e6 f8 p,a,b,c,v5]] w (aO (e6 f8 (jd l p)) w):=by
 go_enter (fx (by decide) bw),Tryz.ntmps79
 go_wp2_with (go_at_call 49;refine(bG _ _ _ _).mono ?_;rintro e w'⟨rfl,rfl⟩)
 all_goals
  go_ret
  refine⟨?_,(dj _ _).alloc (dp _) _⟩
  simp_all [jd]
def kQ(l p n:Int)(a b c v5:Value)(w:World)(d:1<=p)(f:p<=6) :
 Calls PL 108 #[e8 #[e6 f8 l,e6 f8 p,a,b,c,v5],e6 f8 n] w (aO (eW (bO n 0 (p-1))) w):=by
 go_enter (fx (by decide) cd),Tryz.ntmps108
 go_wp2_with (go_at_call 49;refine(bG _ _ _ _).mono ?_;rintro e w'⟨rfl,rfl⟩)
 go_ret
 exact⟨rfl,(dj _ _).alloc (dp _) _⟩
def eB(a b:Int):Int×Int:=(min a b,max a b)
def yl(a b c:Int)(w:World):Calls PL 109 #[e8 #[e6 f8 a,e6 f8 b,e6 f8 c]] w (aO (jc (eB a b)) w):=by
 go_enter (fx (by decide) ce),Tryz.ntmps109
 go_wp2
 all_goals
  refine aF (v:=jc (eB a b)) ?_ rfl ⟨rfl,((dj _ _).alloc (dp _) _).alloc (by simp) _⟩;have e:eB a b=(min a b,max a b):=rfl;simp[aI,Tryz.results109,go_sem,jc,e];omega
def jv(s:ByteArray)(k:Nat):Nat:=if h:k<s.size then(s[k]'h).toNat else 0
def wA(c:Int)(k:Nat):Bool:=bO c 97 122||(!decide (k=0)&&bO c 48 57)
def ku(s:ByteArray):Bool:=((dO s.size).all λi=>wA (jv s i) i)&&bO s.size 1 12
def U7(w:World)(s:ByteArray)(k:Nat)(h:k<s.size):∃c k':Nat,c<=2147483647/\k<k'/\wA c k=wA (jv s k) k/\(wA c k=true->k'=k+1)/\
 ∀ty,(Instr.next (fg (some ⟨w.heap.size,0,none⟩)) true ty).run PL (w.iter s k)=eN (fi #[eW true,e6 f8 k,e6 .i32 c]) (w.iter s k'):=by
 have a:jv s k=(s[k]'h).toNat:=by simp[jv,h]
 by_cases d:(s[k]'h).toNat<128
 ·exact⟨_,k+1,by omega,by omega,by rw[a],λ_=>rfl,λty=>run_next_ascii w s k ty h d⟩
 ·have hd:=decode_high s k h (by omega);have g:∀n:Nat,128<=n->wA n k=false:=λn i=>by
   simp only[wA,bO];have e:¬((n:Int)<=122):=by omega
   have f:¬((n:Int)<=57):=by omega
   simp[e,f]
  refine⟨(Utf8.decode s k).1,k+(Utf8.decode s k).2,decode_le s k,by omega,?_,λb=>?_,λty=>run_next_any w s k ty h⟩
  ·rw[g _ hd.1,a,g _ (by omega)]
  ·rw[g _ hd.1]at b;cases b
def qd{s:ByteArray}{k:Nat}(a:k<s.size)(h:wA (jv s k) k=false):ku s=false:=by
 have:((dO s.size).all λi=>wA (jv s i) i)=false:=by
  rw[dQ];exact⟨k,List.mem_range.2 a,by rw[h];simp⟩
 simp[ku,this]
def ym(s:ByteArray)(w:World)(hs:s.size<=100):Calls PL 121 #[fb s] w (aO (eW (ku s)) w):=by
 go_enter (fx (by decide) ch),Tryz.ntmps121
 go_wp2
 go_loopw [2] (λv wr=>∃k:Nat,k<=s.size/\v=eW false/\wr=w.iter s k/\∀j,j<k->wA (jv s j) j=true) (λ_ wr=>s.size-wr.iterPos w.heap.size)
 case atStart=>exact⟨0,dq _,rfl,rfl,λj a=>absurd a (dt _)⟩
 case round=>
  obtain⟨k,r,rfl,rfl,o⟩:=hrel;have l:=em o;clear o;by_cases b:k<s.size
  ·obtain⟨c,k',hc,t,p,d,m⟩:=U7 w s k b;have f:=em p;have q:=em d;clear p d
   go_wp2_with (go_at_call 49;refine(bG _ _ _ _).mono ?_;rintro e w'⟨rfl,rfl⟩)
   ·have hb:bO (↑c) 97 122=true:=by assumption
    have hg:wA (↑c) k=true:=by simp[wA,hb]
    have zz:=q.out hg;clear m;subst zz
    exact⟨⟨k+1,b,rfl,rfl,λj a=>by
     rcases Nat.lt_succ_iff_lt_or_eq.1 a with h|h
     ·exact l.out j h
     ·rw[h,<-f.out];exact hg⟩,by simp;omega⟩
   ·have hb:¬bO (↑c) 97 122=true:=by assumption
    have g:k=0:=by assumption
    have hg:wA (↑c) k=false:=by simp[wA,hb,g]
    go_ret
    refine⟨?_,(dj _ _).alloc (dp _) _⟩;rw[qd b (by rw[<-f.out];exact hg)];rfl
   ·have hb:¬bO (↑c) 97 122=true:=by assumption
    have g:¬k=0:=by assumption
    have n:((k:Int)==0)=true\/(!bO (↑c) 48 57)=true:=by assumption
    have hg:wA (↑c) k=false:=by
     rcases n with h|h
     ·simp at h;omega
     ·simp at h;simp[wA,hb,h]
    go_ret
    refine⟨?_,(dj _ _).alloc (dp _) _⟩;rw[qd b (by rw[<-f.out];exact hg)];rfl
   ·have g:¬k=0:=by assumption
    have hand:((k:Int)==0)=false/\(!bO (↑c) 48 57)=false:=by assumption
    have hg:wA (↑c) k=true:=by
     have:=hand.2;simp at this;simp[wA,this,g]
    have zz:=q.out hg;clear m;subst zz
    exact⟨⟨k+1,b,rfl,rfl,λj a=>by
     rcases Nat.lt_succ_iff_lt_or_eq.1 a with h|h
     ·exact l.out j h
     ·rw[h,<-f.out];exact hg⟩,by simp;omega⟩
  ·have m:=λty=>run_next_end (P:=PL) w s k ty b;obtain rfl:k=s.size:=by omega
   go_wp2_with (go_at_call 49;refine(bG _ _ _ _).mono ?_;rintro e w'⟨rfl,rfl⟩)
   go_ret
   refine⟨?_,(dj _ _).alloc (dp _) _⟩;have:((dO s.size).all λi=>wA (jv s i) i)=true:=by
    rw[dS];intro j a;exact l.out j (List.mem_range.1 a)
   simp[ku,this]
abbrev yo:ByteArray->Value:=λs=>fb s
abbrev agF:Int->Value:=λn=>e6 f8 n
structure nP(b:Nat)(w w':World):Prop where
 os:w'.os=w.os
 tape:w'.tape=w.tape
 output:w'.output=w.output
 size:w.heap.size<=w'.heap.size
 block:∀c,c<w.heap.size->c≠b->w'.heap[c]?=w.heap[c]?
def nP.below{b B:Nat}{w w':World}(h:nP b w w')(a:B<=b)(hs:B<=w.heap.size):Below B w w':=⟨h.os,h.tape,h.output,h.size,λk c=>h.block k (by omega) (by omega)⟩
def nP.En{b:Nat}{w w':World}(h:Below w.heap.size w w'):nP b w w':=⟨h.os,h.tape,h.output,h.size,λc hc _=>h.block c hc⟩
def nP.then{b:Nat}{w w1 w2:World}(h:Below w.heap.size w w1)(k:gv w1 w2 b):nP b w w2:=⟨k.os.trans h.os,k.tape.trans h.tape,k.output.trans h.output,by rw[k.size];exact h.size,λc hc hb=>(k.block c hb).trans (h.block c hc)⟩
def nP.cell{b:Nat}{w w':World}(h:nP b w w'){a:Addr}(c:a.block<w.heap.size)(hb:a.block≠b):w'.cell? a=w.cell? a:=eF (w:=w) (h.block a.block c hb)
def nP.Xm{b c:Nat}{w w':World}(h:nP b w w'){a:Type}{enc:a->Value}{l:List a}(k:aU w enc c l)(hc:c≠b):aU w' enc c l:=by
 obtain⟨es,q,d,e⟩:=k;exact⟨es,q,(h.block c (Array.getElem?_eq_some_iff.1 d).1 hc).trans d,e⟩
def aG{c:Nat}{w w':World}(h:Below w.heap.size w w'){a:Type}{enc:a->Value}{l:List a}(k:aU w enc c l):aU w' enc c l:=by
 obtain⟨es,q,b,d⟩:=k;exact⟨es,q,(h.block c (Array.getElem?_eq_some_iff.1 b).1).trans b,d⟩
def aU.lt{c:Nat}{w:World}{a:Type}{enc:a->Value}{l:List a}(k:aU w enc c l):c<w.heap.size:=by
 obtain⟨es,q,b,d⟩:=k;exact(Array.getElem?_eq_some_iff.1 b).1
def iH(s:ByteArray)(l:List ByteArray):Int:=if ku s then(if s∈l then 5 else 0) else 4
def U8(b:Nat)(s:ByteArray)(l:List ByteArray)(w:World)(e:Ending)(w':World):Prop:=
 e=f7 (e6 f8 (iH s l))/\nP b w w'/\aU w' yo b (if iH s l=0 then l++[s] else l)
def Eo{s:ByteArray}(h:ku s=true)(w:World)(hs:s.size<=100):Calls PL 121 #[fb s] w (aO (eW true) w):=by
 have:=ym s w hs;rwa[h]at this
def Q5{s:ByteArray}(h:ku s=false)(w:World)(hs:s.size<=100):Calls PL 121 #[fb s] w (aO (eW false) w):=by
 have:=ym s w hs;rwa[h]at this
def wB(b:Nat)(s:ByteArray)(l:List ByteArray)(w:World)(h:aU w yo b l)(hs:s.size<=100):Calls PL 110 #[fc (some b),fb s] w (U8 b s l w):=by
 by_cases f:ku s=true
 ·have c:=em f;clear f;by_cases g:s∈l
  ·have d:=em g;clear g
   go_enter (fx (by decide) cf),co
   go_wp2_with (first|(go_at_call 121;refine(Eo c.out _ hs).mono ?_;rintro e w1⟨rfl,a⟩)|(at_lookup;refine aR (enc:=yo) _ rfl _ _ 175 9 4 rfl aak Hy (mq _) b l rfl (aG a h) s rfl true (by simpa using d.out) ?_))
   go_ret
   have e:iH s l=5:=by simp[iH,c.out,d.out]
   exact⟨by rw[e];rfl,.En a,by rw[e];exact aG a h⟩
  ·have d:=em g;clear g
   go_enter (fx (by decide) cf),co
   go_wp2_with (first|(go_at_call 121;refine(Eo c.out _ hs).mono ?_;rintro e w1⟨rfl,a⟩)|(at_lookup;refine aR (enc:=yo) _ rfl _ _ 175 9 4 rfl aak Hy (mq _) b l rfl (aG a h) s rfl false (by simpa using d.out) ?_)|(at_mapUpdate;refine dH (enc:=yo) _ rfl _ _ _ 175 9 4 rfl aak Hy b l rfl (aG a h) s rfl rfl d.out ?_;intro w2 i j))
   go_ret
   have e:iH s l=0:=by simp[iH,c.out,d.out]
   exact⟨by rw[e];rfl,.then a j,by rw[e];exact i⟩
 ·have c:=em (aV f);clear f
  go_enter (fx (by decide) cf),co
  go_wp2_with (go_at_call 121;refine(Q5 c.out _ hs).mono ?_;rintro e w1⟨rfl,a⟩)
  go_ret
  have e:iH s l=4:=by simp[iH,c.out]
  exact⟨by rw[e];rfl,.En a,by rw[e];exact aG a h⟩
set_option maxHeartbeats 1000000
def cW{W w1:World}(hb:Below W.heap.size W w1):(∀b o,b<W.heap.size->w1.cell? ⟨b,o,none⟩=W.cell? ⟨b,o,none⟩)/\(∀b o,b<W.heap.size->w1.frozen? ⟨b,o,none⟩=W.frozen? ⟨b,o,none⟩):=
 ⟨λb o h=>hb.cell (p:=⟨b,o,none⟩) h,λb o h=>hb.frozen (p:=⟨b,o,none⟩) h⟩
theorem au(w:World)(o:Obj):(w.alloc o).heap[w.heap.size]?=some o:=by
 show(w.heap.push _)[w.heap.size]?=_;simp
def bf{w:World}{k:Nat}{x0 x1 x2 x3 x4 a:Value}{t:ab}(h:w.heap[k]?=some (f9 #[x0,x1,x2,x3,x4,a] t)) :
 w.cell? ⟨k,0,none⟩=some x0/\w.cell? ⟨k,1,none⟩=some x1/\w.cell? ⟨k,2,none⟩=some x2/\w.cell? ⟨k,3,none⟩=some x3/\w.cell? ⟨k,4,none⟩=some x4/\w.cell? ⟨k,5,none⟩=some a:=by
 simp[eI,h]
def ia:Nat->(Nat->Int)->Int
 |0,_=>0
 |n+1,f=>if ia n f=0 then f n else ia n f
def cz{n:Nat}{f:Nat->Int}(h:∀j,j<n->f j=0):ia n f=0:=by
 induction n with
 |zero=>rfl
 |succ n a=>simp only[ia];rw[a λj b=>h j (by omega),if_pos rfl,h n (by omega)]
def eG{n m:Nat}{f:Nat->Int}(h:∀j,j<m->f j=0)(b:m<n)(hf:f m≠0):ia n f=f m:=by
 induction n with
 |zero=>omega
 |succ n a=>
  simp only[ia];by_cases e:m=n
  ·subst e;rw[cz h,if_pos rfl]
  ·rw[a (by omega),if_neg hf]
def fQ(p:Int)(x:Nat->Int×Int×Int)(i:Nat):Int:=
 if bO (x i).1 0 (p-1)&&bO (x i).2.1 0 (p-1) then
  (if(x i).1=(x i).2.1 then 8 else if bO (x i).2.2 1 999 then(if eB (x i).1 (x i).2.1∈(dO i).map (λj=>eB (x j).1 (x j).2.1) then 5 else 0) else 1)
 else 6
def kz(p:Int)(n:Nat)(x:Nat->Int×Int×Int):Int:=if 9<n then 2 else ia n (fQ p x)
def Below.on{w W w1:World}(h:Below w.heap.size w W)(k:Below W.heap.size W w1):Below w.heap.size w w1:=h.trans (k.mono h.size)
def dh{p:Int}{n m:Nat}{x:Nat->Int×Int×Int}{v:Int}(hb:¬9<n)(a:∀j,j<m->fQ p x j=0)(b:m<n)(hf:fQ p x m=v)(hv:v≠0):kz p n x=v:=by
 rw[kz,if_neg hb,eG a b (by rw[hf];exact hv),hf]
def aC{k:IntKind}{a b:Int}(h:b=a):Ending.returned (e6 k a)=f7 (e6 k b):=by rw[h]
def Nf(l p:Int)(b:Option Addr)(k o n c:Nat)(x:Nat->Int×Int×Int)(A B v5:Value)(w:World)(Z:n<=20)(H:1<=p)(I:p<=6)(C:k<w.heap.size)(hs:0<n->b=some ⟨k,o,none⟩)
 (J:∀i,i<n->w.cell? ⟨k,o+i*3,none⟩=some (e6 f8 (x i).1)) (K:∀i,i<n->w.cell? ⟨k,o+i*3+1,none⟩=some (e6 f8 (x i).2.1)) (L:∀i,i<n->w.cell? ⟨k,o+i*3+2,none⟩=some (e6 f8 (x i).2.2)) :
 Calls PL 81 #[e8 #[e6 f8 l,e6 f8 p,A,e9 b n c,B,v5]] w (aO (e6 f8 (kz p n x)) w):=by
 have R:=em J;have S:=em K;have T:=em L;have U:=em hs;clear J K L hs;by_cases hb:9<n
 ·go_enter (fx (by decide) bA),cp
  go_wp2
  go_ret
  exact⟨by simp[kz,hb],(dj _ _).alloc (dp _) _⟩
 ·have V:=@run_makeMap PL
  go_enter (fx (by decide) bA),cp
  go_wp2
  go_loopw [16] (λi wr=>∃m:Nat,m<=n/\i=e6 f8 m/\(∀j,j<m->fQ p x j=0)/\aU wr jc (w.heap.size+1) ((dO m).map (λj=>eB (x j).1 (x j).2.1))/\wr.heap[w.heap.size]?=some (f9 #[e6 f8 l,e6 f8 p,A,e9 b n c,B,v5] 77)/\Below w.heap.size w wr) (λi _=>n-(intOf i).toNat)
  case atStart=>
   refine⟨0,dq _,rfl,λj D=>absurd D (dt _),?_,?_,?_⟩
   ·have:=aU.made (enc:=jc) (w.alloc (f9 #[e6 f8 l,e6 f8 p,A,e9 b n c,B,v5] 77));simpa using this
   ·rw[dk _ _ _ (by simp),au]
   ·exact((dj _ _).alloc (dp _) _).alloc (by simp) _
  case round=>
   obtain⟨m,hm,rfl,M,N,O,u⟩:=hrel;have r:=em M;have P:=em O;clear M O;by_cases d:m<n
   ·obtain rfl:=U.out (by omega);have c0:=(u.cell (p:=⟨k,o+m*3,none⟩) C).trans (R.out m d);have c1:=(u.cell (p:=⟨k,o+m*3+1,none⟩) C).trans (S.out m d);have c2:=(u.cell (p:=⟨k,o+m*3+2,none⟩) C).trans (T.out m d);have W:=aU.lt N;have y:w.heap.size<wr.heap.size:=by omega
    obtain⟨d0,d1,d2,d3,d4,d5⟩:=bf P.out;have g:aU (wr.alloc (f9 #[e6 f8 (x m).1,e6 f8 (x m).2.1,e6 f8 (x m).2.2] 104)) jc (w.heap.size+1) ((dO m).map (λj=>eB (x j).1 (x j).2.1)):=aU.of_heap N (dk _ _ _ W);have q:Below w.heap.size w (wr.alloc (f9 #[e6 f8 (x m).1,e6 f8 (x m).2.1,e6 f8 (x m).2.2] 104)):=u.alloc u.size _;have f:wr.heap.size<(wr.alloc (f9 #[e6 f8 (x m).1,e6 f8 (x m).2.1,e6 f8 (x m).2.2] 104)).heap.size:=by simp
    have s:=em ((dk wr (f9 #[e6 f8 (x m).1,e6 f8 (x m).2.1,e6 f8 (x m).2.2] 104) _ y).trans P.out);by_cases z:eB (x m).1 (x m).2.1∈(dO m).map (λj=>eB (x j).1 (x j).2.1)
    ·have t:=em z;clear z
     go_wp2_with (first|(go_at_call 108;refine(kQ _ _ _ _ _ _ _ _ H I).mono ?_;rintro e w1⟨rfl,a⟩;obtain⟨E,F⟩:=cW a;have g:=aG a g;have q:=Below.on q a;have s:=em ((a.block _ (dv y f)).trans s.out);have f:=dy f a.size)|(go_at_call 49;refine(bG _ _ _ _).mono ?_;rintro e w'⟨rfl,rfl⟩)|(go_at_call 109;refine(yl _ _ _ _).mono ?_;rintro e w1⟨rfl,a⟩;obtain⟨E,F⟩:=cW a;have g:=aG a g;have q:=Below.on q a;have s:=em ((a.block _ (dv y f)).trans s.out);have f:=dy f a.size)|(at_lookup;refine aR (enc:=jc) _ rfl _ _ 170 172 4 rfl HH Hz (mq _) (w.heap.size+1) _ rfl g (eB (x m).1 (x m).2.1) rfl true (by simpa using t.out) ?_))
     all_goals go_ret
     all_goals refine⟨?_,q⟩
     all_goals first
      |exact aC (dh (v:=6) hb r.out d (by simp_all [fQ]) (by decide))
      |exact aC (dh (v:=8) hb r.out d (by simp_all [fQ]) (by decide))
      |exact aC (dh (v:=1) hb r.out d (by simp_all [fQ]) (by decide))
      |exact aC (dh (v:=5) hb r.out d (by have:=t.out;simp_all [fQ]) (by decide))
    ·have t:=em z;clear z
     go_wp2_with (first|(go_at_call 108;refine(kQ _ _ _ _ _ _ _ _ H I).mono ?_;rintro e w1⟨rfl,a⟩;obtain⟨E,F⟩:=cW a;have g:=aG a g;have q:=Below.on q a;have s:=em ((a.block _ (dv y f)).trans s.out);have f:=dy f a.size)|(go_at_call 49;refine(bG _ _ _ _).mono ?_;rintro e w'⟨rfl,rfl⟩)|(go_at_call 109;refine(yl _ _ _ _).mono ?_;rintro e w1⟨rfl,a⟩;obtain⟨E,F⟩:=cW a;have g:=aG a g;have q:=Below.on q a;have s:=em ((a.block _ (dv y f)).trans s.out);have f:=dy f a.size)|(at_lookup;refine aR (enc:=jc) _ rfl _ _ 170 172 4 rfl HH Hz (mq _) (w.heap.size+1) _ rfl g (eB (x m).1 (x m).2.1) rfl false (by simpa using t.out) ?_)|(at_mapUpdate;refine dH (enc:=jc) _ rfl _ _ _ 170 172 4 rfl HH Hz (w.heap.size+1) _ rfl g (eB (x m).1 (x m).2.1) rfl rfl t.out ?_;intro w2 X Q))
     case roundEnd=>
      have Y:fQ p x m=0:=by have:=t.out;simp_all [fQ]
      refine⟨⟨m+1,d,by go_num,λj D=>?_,?_,(Q.block _ (by omega)).trans s.out,dl q (Q.below (by omega))⟩,by simp[intOf];omega⟩
      ·rcases Nat.lt_succ_iff_lt_or_eq.1 D with h|h
       ·exact r.out j h
       ·rw[h];exact Y
      ·rw[dU,d8];exact X
     all_goals go_ret
     all_goals refine⟨?_,q⟩
     all_goals first
      |exact aC (dh (v:=6) hb r.out d (by simp_all [fQ]) (by decide))
      |exact aC (dh (v:=8) hb r.out d (by simp_all [fQ]) (by decide))
      |exact aC (dh (v:=1) hb r.out d (by simp_all [fQ]) (by decide))
      |exact aC (dh (v:=5) hb r.out d (by have:=t.out;simp_all [fQ]) (by decide))
   ·obtain rfl:m=n:=by omega
    go_wp2
    go_ret
    exact⟨by simp[kz,hb,cz r.out],u⟩
def J2{b:Nat}{W w1:World}(h:nP b W w1):(∀c o,c<W.heap.size->c≠b->w1.cell? ⟨c,o,none⟩=W.cell? ⟨c,o,none⟩)/\(∀c(o:Nat),c<W.heap.size->c≠b->w1.frozen? ⟨c,o,none⟩=W.frozen? ⟨c,o,none⟩):=
 ⟨λc o d e=>h.cell (a:=⟨c,o,none⟩) d e,λc o d e=>World.frozen?_of_block (w:=W) (h.block c d e)⟩
def iI(np:Nat)(x:Nat->ByteArray×Int×Int)(i:Nat):Int:=
 if iH (x i).1 ((dO i).map λj=>(x j).1)=0 then
  (if bO (x i).2.1 0 (np-1) then(if(x i).2.1∈(dO i).map (λj=>(x j).2.1) then 10 else if bO (x i).2.2 0 12 then 0 else 1) else 6)
 else iH (x i).1 ((dO i).map λj=>(x j).1)
def pE(np n:Nat)(x:Nat->ByteArray×Int×Int):Int:=if 3<n then 2 else ia n (iI np x)
def ic{np n m:Nat}{x:Nat->ByteArray×Int×Int}{v:Int}(hb:¬3<n)(a:∀j,j<m->iI np x j=0)(b:m<n)(hf:iI np x m=v)(hv:v≠0):pE np n x=v:=by
 rw[pE,if_neg hb,eG a b (by rw[hf];exact hv),hf]
def HQ(l p:Int)(b z:Option Addr)(k o n c np A:Nat)(x:Nat->ByteArray×Int×Int)(B C:Value)(w:World)(hn:n<=20)(MC:np<=20)(E:k<w.heap.size)(hs:0<n->b=some ⟨k,o,none⟩)(J:∀i,i<n->(x i).1.size<=100)
 (K:∀i,i<n->w.cell? ⟨k,o+i*3,none⟩=some (fb (x i).1)) (L:∀i,i<n->w.cell? ⟨k,o+i*3+1,none⟩=some (e6 f8 (x i).2.1)) (M:∀i,i<n->w.cell? ⟨k,o+i*3+2,none⟩=some (e6 f8 (x i).2.2)) :
 Calls PL 83 #[e8 #[e6 f8 l,e6 f8 p,B,C,e9 z np A,e9 b n c]] w (aO (e6 f8 (pE np n x)) w):=by
 have S:=em K;have T:=em L;have U:=em M;have V:=em hs;have W:=em J;clear K L M hs J;by_cases hb:3<n
 ·go_enter (fx (by decide) bL),ct
  go_wp2
  go_ret
  exact⟨by simp[pE,hb],(dj _ _).alloc (dp _) _⟩
 ·have X:=@run_makeMap PL
  go_enter (fx (by decide) bL),ct
  go_wp2
  go_loopw [19] (λi wr=>∃m:Nat,m<=n/\i=e6 f8 m/\(∀j,j<m->iI np x j=0)/\aU wr yo (w.heap.size+1) ((dO m).map (λj=>(x j).1))/\aU wr agF (w.heap.size+2) ((dO m).map (λj=>(x j).2.1))/\wr.heap[w.heap.size]?=some (f9 #[e6 f8 l,e6 f8 p,B,C,e9 z np A,e9 b n c] 77)/\Below w.heap.size w wr) (λi _=>n-(intOf i).toNat)
  case atStart=>
   refine⟨0,dq _,rfl,λj F=>absurd F (dt _),?_,?_,?_,?_⟩
   ·have:=aU.made (enc:=yo) (w.alloc (f9 #[e6 f8 l,e6 f8 p,B,C,e9 z np A,e9 b n c] 77));exact aU.of_heap (by simpa using this) (dk _ _ _ (by simp))
   ·have:=aU.made (enc:=agF) ((w.alloc (f9 #[e6 f8 l,e6 f8 p,B,C,e9 z np A,e9 b n c] 77)).alloc (.map #[] 0));simpa using this
   ·rw[dk _ _ _ (by simp;omega),dk _ _ _ (by simp),au]
   ·exact(((dj _ _).alloc (dp _) _).alloc (by simp) _).alloc (by simp;omega) _
  case round=>
   obtain⟨m,hm,rfl,N,Y,O,P,s⟩:=hrel;have g:=em N;have Q:=em P;clear N P;by_cases a:m<n
   ·obtain rfl:=V.out (by omega);have c0:=(s.cell (p:=⟨k,o+m*3,none⟩) E).trans (S.out m a);have c1:=(s.cell (p:=⟨k,o+m*3+1,none⟩) E).trans (T.out m a);have c2:=(s.cell (p:=⟨k,o+m*3+2,none⟩) E).trans (U.out m a);have Z:=aU.lt O;have H:w.heap.size<wr.heap.size:=by omega
    have bu:wr.heap.size≠w.heap.size+1:=by omega
    obtain⟨d0,d1,d2,d3,d4,d5⟩:=bf Q.out;have t:aU (wr.alloc (f9 #[fb (x m).1,e6 f8 (x m).2.1,e6 f8 (x m).2.2] 102)) yo (w.heap.size+1) ((dO m).map (λj=>(x j).1)):=aU.of_heap Y (dk _ _ _ (by omega));have r:aU (wr.alloc (f9 #[fb (x m).1,e6 f8 (x m).2.1,e6 f8 (x m).2.2] 102)) agF (w.heap.size+2) ((dO m).map (λj=>(x j).2.1)):=aU.of_heap O (dk _ _ _ Z);have q:Below w.heap.size w (wr.alloc (f9 #[fb (x m).1,e6 f8 (x m).2.1,e6 f8 (x m).2.2] 102)):=s.alloc s.size _;have u:wr.heap.size<(wr.alloc (f9 #[fb (x m).1,e6 f8 (x m).2.1,e6 f8 (x m).2.2] 102)).heap.size:=by simp
    have y:=em ((dk wr (f9 #[fb (x m).1,e6 f8 (x m).2.1,e6 f8 (x m).2.2] 102) _ H).trans Q.out);have R:=W.out m a;by_cases D:(x m).2.1∈(dO m).map (λj=>(x j).2.1)
    ·have d:=em D;clear D
     go_wp2_with (first|(go_at_call 110;refine(wB (w.heap.size+1) _ _ _ t R).mono ?_;rintro e w1⟨rfl,f,t⟩;obtain⟨lp,lR⟩:=J2 f;have r:=f.Xm r (by omega);have q:=dl q (f.below (by omega) q.size);have y:=em ((f.block _ (dv H u) (by omega)).trans y.out);have u:=dy u f.size)|(go_at_call 49;refine(bG _ _ _ _).mono ?_;rintro e w'⟨rfl,rfl⟩)|(go_at_call 53;refine(o8 _ _).mono ?_;rintro e w'⟨rfl,rfl⟩)|(at_lookup;refine aR (enc:=agF) _ rfl _ _ 111 3 4 rfl qz ju (mq _) (w.heap.size+2) _ rfl r (x m).2.1 rfl true (by simpa using d.out) ?_))
     all_goals go_ret
     all_goals refine⟨?_,q⟩
     all_goals first
      |exact aC (ic (v:=iH (x m).1 ((dO m).map λj=>(x j).1)) hb g.out a (by have:=d.out;simp_all [iI]) (by simp_all))
      |exact aC (ic (v:=6) hb g.out a (by have:=d.out;simp_all [iI]) (by decide))
      |exact aC (ic (v:=10) hb g.out a (by have:=d.out;simp_all [iI]) (by decide))
      |exact aC (ic (v:=1) hb g.out a (by have:=d.out;simp_all [iI]) (by decide))
    ·have d:=em D;clear D
     go_wp2_with (first|(go_at_call 110;refine(wB (w.heap.size+1) _ _ _ t R).mono ?_;rintro e w1⟨rfl,f,t⟩;obtain⟨lp,lR⟩:=J2 f;have r:=f.Xm r (by omega);have q:=dl q (f.below (by omega) q.size);have y:=em ((f.block _ (dv H u) (by omega)).trans y.out);have u:=dy u f.size)|(go_at_call 49;refine(bG _ _ _ _).mono ?_;rintro e w'⟨rfl,rfl⟩)|(go_at_call 53;refine(o8 _ _).mono ?_;rintro e w'⟨rfl,rfl⟩)|(at_lookup;refine aR (enc:=agF) _ rfl _ _ 111 3 4 rfl qz ju (mq _) (w.heap.size+2) _ rfl r (x m).2.1 rfl false (by simpa using d.out) ?_)|(at_mapUpdate;refine dH (enc:=agF) _ rfl _ _ _ 111 3 4 rfl qz ju (w.heap.size+2) _ rfl r (x m).2.1 rfl rfl d.out ?_;intro w2 yp I))
     case roundEnd=>
      have e1:iH (x m).1 ((dO m).map λj=>(x j).1)=0:=by simp_all
      have e0:iI np x m=0:=by have:=d.out;simp_all [iI]
      rw[if_pos e1]at t;refine⟨⟨m+1,a,by go_num,λj F=>?_,?_,?_,(I.block _ (by omega)).trans y.out,dl q (I.below (by omega))⟩,by simp[intOf];omega⟩
      ·rcases Nat.lt_succ_iff_lt_or_eq.1 F with h|h
       ·exact g.out j h
       ·rw[h];exact e0
      ·rw[dU,d8];exact aU.of_heap t (I.block _ (by omega))
      ·rw[dU,d8];exact yp
     all_goals go_ret
     all_goals refine⟨?_,q⟩
     all_goals first
      |exact aC (ic (v:=iH (x m).1 ((dO m).map λj=>(x j).1)) hb g.out a (by have:=d.out;simp_all [iI]) (by simp_all))
      |exact aC (ic (v:=6) hb g.out a (by have:=d.out;simp_all [iI]) (by decide))
      |exact aC (ic (v:=10) hb g.out a (by have:=d.out;simp_all [iI]) (by decide))
      |exact aC (ic (v:=1) hb g.out a (by have:=d.out;simp_all [iI]) (by decide))
   ·obtain rfl:m=n:=by omega
    go_wp2
    go_ret
    exact⟨by simp[pE,hb,cz g.out],s⟩
set_option maxHeartbeats 4000000
structure iJ where
 name:ByteArray
 n:Nat->Int
 lb:Option Addr
 ln:Nat
 lc:Nat
 lk:Nat
 lo:Nat
 lane:Nat->Int
def fy(a:Nat)(lane:Nat->Int)(j:Nat):Int:=if bO (lane j) 0 (a-1) then(if 0<j/\lane j<=lane (j-1) then 7 else 0) else 6
def gM(p:Int)(a b:Nat)(x:Nat->iJ)(i:Nat):Int:=
 if iH (x i).name ((dO i).map λj=>(x j).name)=0 then
  (if eK ((x i).n 1) ((x i).n 2) 1 90&&eK ((x i).n 3) ((x i).n 4) (-90) 90 then
    (if(x i).n 1<(x i).n 4\/(x i).n 1 < -(x i).n 3 then 10 else
      if bO ((x i).n 5) 0 (a-1)&&bO ((x i).n 6) 0 (p-1) then
       (if eK ((x i).n 7) ((x i).n 8) 1 60&&eK ((x i).n 9) ((x i).n 10) 0 60 then ia (x i).ln (fy b (x i).lane) else 1)
      else 6)
  else 1)
 else iH (x i).name ((dO i).map λj=>(x j).name)
def kA(p:Int)(a b n:Nat)(x:Nat->iJ):Int:=if bO n 2 5 then ia n (gM p a b x) else 2
def dI{p:Int}{a b n m:Nat}{x:Nat->iJ}{v:Int}(hb:bO n 2 5=true)(c:∀j,j<m->gM p a b x j=0)(d:m<n)(hf:gM p a b x m=v)(hv:v≠0):kA p a b n x=v:=by
 rw[kA,if_pos hb,eG c d (by rw[hf];exact hv),hf]
def afi{w:World}{k:Nat}{x0 x1 x2 x3 x4 b c d e f g a:Value}{t:ab}(h:w.heap[k]?=some (f9 #[x0,x1,x2,x3,x4,b,c,d,e,f,g,a] t)):w.cell? ⟨k,11,none⟩=some a:=by
 simp[eI,h]
def Q7(l p:Int)(Z bq b:Option Addr)(M r n cs cq c k o:Nat)(x:Nat->iJ)(v5:Value)(w:World)(hn:n<=20)(Vb:M<=20)(Hr:r<=20)(J0:1<=p)(tL:p<=6)(F:k<w.heap.size)(hs:0<n->b=some ⟨k,o,none⟩)
 (uB:∀i,i<n->(x i).name.size<=100/\(x i).ln<=20) (h0:∀i,i<n->w.cell? ⟨k,o+i*12,none⟩=some (fb (x i).name)) (z:∀i,i<n->∀j,1<=j->j<=10->w.cell? ⟨k,o+i*12+j,none⟩=some (e6 f8 ((x i).n j)))
 (P:∀i,i<n->w.cell? ⟨k,o+i*12+11,none⟩=some (e9 (x i).lb (x i).ln (x i).lc)) (hl:∀i,i<n->0<(x i).ln->(x i).lb=some ⟨(x i).lk,(x i).lo,none⟩/\(x i).lk<w.heap.size)
 (Q:∀i,i<n->∀j,j<(x i).ln->w.cell? ⟨(x i).lk,(x i).lo+j,none⟩=some (e6 f8 ((x i).lane j))) :
 Calls PL 82 #[e8 #[e6 f8 l,e6 f8 p,e9 Z M cs,e9 bq r cq,e9 b n c,v5]] w (aO (e6 f8 (kA p M r n x)) w):=by
 have H0:=em h0;have I:=em z;have H11:=em P;have HL:=em hl;have HLC:=em Q;have HS:=em hs;have HN:=em uB;clear h0 z P hl Q hs uB;by_cases hb:bO (↑n) 2 5=true
 ·have y:=em hb;clear hb;have hmm:=@run_makeMap PL
  go_enter (fx (by decide) bC),cv
  go_wp2_with (go_at_call 49;refine(fN y.out _).mono ?_;rintro e w'⟨rfl,rfl⟩)
  go_loopw [20] (λi wr=>∃m:Nat,m<=n/\i=e6 f8 m/\(∀j,j<m->gM p M r x j=0)/\aU wr yo (w.heap.size+1) ((dO m).map (λj=>(x j).name))/\wr.heap[w.heap.size]?=some (f9 #[e6 f8 l,e6 f8 p,e9 Z M cs,e9 bq r cq,e9 b n c,v5] 77)/\Below w.heap.size w wr) (λi _=>n-(intOf i).toNat)
  case atStart=>
   refine⟨0,dq _,rfl,λj z=>absurd z (dt _),?_,?_,?_⟩
   ·have:=aU.made (enc:=yo) (w.alloc (f9 #[e6 f8 l,e6 f8 p,e9 Z M cs,e9 bq r cq,e9 b n c,v5] 77));simpa using this
   ·rw[dk _ _ _ (by simp),au]
   ·exact((dj _ _).alloc (dp _) _).alloc (by simp) _
  case round=>
   obtain⟨m,hm,rfl,ha,hN,sW,D⟩:=hrel;have B:=em ha;have HX:=em sW;clear ha sW;by_cases d:m<n
   ·obtain rfl:=HS.out (by omega);have c0:=(D.cell (p:=⟨k,o+m*12,none⟩) F).trans (H0.out m d);have c1:=(D.cell (p:=⟨k,o+m*12+1,none⟩) F).trans (I.out m d 1 (by omega) (by omega));have c2:=(D.cell (p:=⟨k,o+m*12+2,none⟩) F).trans (I.out m d 2 (by omega) (by omega));have c3:=(D.cell (p:=⟨k,o+m*12+3,none⟩) F).trans (I.out m d 3 (by omega) (by omega));have c4:=(D.cell (p:=⟨k,o+m*12+4,none⟩) F).trans (I.out m d 4 (by omega) (by omega));have c5:=(D.cell (p:=⟨k,o+m*12+5,none⟩) F).trans (I.out m d 5 (by omega) (by omega));have c6:=(D.cell (p:=⟨k,o+m*12+6,none⟩) F).trans (I.out m d 6 (by omega) (by omega));have c7:=(D.cell (p:=⟨k,o+m*12+7,none⟩) F).trans (I.out m d 7 (by omega) (by omega));have c8:=(D.cell (p:=⟨k,o+m*12+8,none⟩) F).trans (I.out m d 8 (by omega) (by omega));have c9:=(D.cell (p:=⟨k,o+m*12+9,none⟩) F).trans (I.out m d 9 (by omega) (by omega));have c10:=(D.cell (p:=⟨k,o+m*12+10,none⟩) F).trans (I.out m d 10 (by omega) (by omega));have c11:=(D.cell (p:=⟨k,o+m*12+11,none⟩) F).trans (H11.out m d);have fW:=aU.lt hN;have J:w.heap.size<wr.heap.size:=by omega
    have bu:wr.heap.size≠w.heap.size+1:=by omega
    obtain⟨d0,d1,d2,d3,d4,d5⟩:=bf HX.out;have s:aU (wr.alloc (f9 #[fb (x m).name,e6 f8 ((x m).n 1),e6 f8 ((x m).n 2),e6 f8 ((x m).n 3),e6 f8 ((x m).n 4),e6 f8 ((x m).n 5),e6 f8 ((x m).n 6),e6 f8 ((x m).n 7),e6 f8 ((x m).n 8),e6 f8 ((x m).n 9),e6 f8 ((x m).n 10),e9 (x m).lb (x m).ln (x m).lc] 85)) yo (w.heap.size+1) ((dO m).map (λj=>(x j).name)):=aU.of_heap hN (dk _ _ _ (by omega));have g:Below w.heap.size w (wr.alloc (f9 #[fb (x m).name,e6 f8 ((x m).n 1),e6 f8 ((x m).n 2),e6 f8 ((x m).n 3),e6 f8 ((x m).n 4),e6 f8 ((x m).n 5),e6 f8 ((x m).n 6),e6 f8 ((x m).n 7),e6 f8 ((x m).n 8),e6 f8 ((x m).n 9),e6 f8 ((x m).n 10),e9 (x m).lb (x m).ln (x m).lc] 85)):=D.alloc D.size _;have f:wr.heap.size<(wr.alloc (f9 #[fb (x m).name,e6 f8 ((x m).n 1),e6 f8 ((x m).n 2),e6 f8 ((x m).n 3),e6 f8 ((x m).n 4),e6 f8 ((x m).n 5),e6 f8 ((x m).n 6),e6 f8 ((x m).n 7),e6 f8 ((x m).n 8),e6 f8 ((x m).n 9),e6 f8 ((x m).n 10),e9 (x m).lb (x m).ln (x m).lc] 85)).heap.size:=by simp
    have C:w.heap.size<(wr.alloc (f9 #[fb (x m).name,e6 f8 ((x m).n 1),e6 f8 ((x m).n 2),e6 f8 ((x m).n 3),e6 f8 ((x m).n 4),e6 f8 ((x m).n 5),e6 f8 ((x m).n 6),e6 f8 ((x m).n 7),e6 f8 ((x m).n 8),e6 f8 ((x m).n 9),e6 f8 ((x m).n 10),e9 (x m).lb (x m).ln (x m).lc] 85)).heap.size:=by simp;omega
    have u:=em ((dk wr (f9 #[fb (x m).name,e6 f8 ((x m).n 1),e6 f8 ((x m).n 2),e6 f8 ((x m).n 3),e6 f8 ((x m).n 4),e6 f8 ((x m).n 5),e6 f8 ((x m).n 6),e6 f8 ((x m).n 7),e6 f8 ((x m).n 8),e6 f8 ((x m).n 9),e6 f8 ((x m).n 10),e9 (x m).lb (x m).ln (x m).lc] 85) _ J).trans HX.out);have A:=em (au wr (f9 #[fb (x m).name,e6 f8 ((x m).n 1),e6 f8 ((x m).n 2),e6 f8 ((x m).n 3),e6 f8 ((x m).n 4),e6 f8 ((x m).n 5),e6 f8 ((x m).n 6),e6 f8 ((x m).n 7),e6 f8 ((x m).n 8),e6 f8 ((x m).n 9),e6 f8 ((x m).n 10),e9 (x m).lb (x m).ln (x m).lc] 85));have Va:=(HN.out m d).1;have Tl:=(HN.out m d).2;by_cases R:eK ((x m).n 3) ((x m).n 4) (-90) 90=true
    ·have N:=em R;have Q8 : -90<=(x m).n 3/\(x m).n 3<=90:=by
      simp only[eK,eP,decide_eq_true_eq]at R;omega
     obtain⟨Q8,hr4⟩:=Q8;clear R
     go_wp2_with (first|(go_at_call 110;refine(wB (w.heap.size+1) _ _ _ s Va).mono ?_;rintro e w1⟨rfl,E,s⟩;obtain⟨K,L⟩:=J2 E;have g:=dl g (E.below (by omega) g.size);have u:=em ((E.block _ (dv J f) (by omega)).trans u.out);have A:=em ((E.block _ f (by omega)).trans A.out);have f:=dy f E.size;have C:=dy C E.size)|(go_at_call 32;((with_reducible refine(Ek N.out _).mono ?_);rintro e w1⟨rfl,a⟩;obtain⟨K,L⟩:=cW a;have s:=aG a s;have g:=Below.on g a;have u:=em ((a.block _ (dv J f)).trans u.out);have A:=em ((a.block _ f).trans A.out);have f:=dy f a.size;have C:=dy C a.size))|(go_at_call 32;refine(nh _ _ _ _ _).mono ?_;rintro e w1⟨rfl,a⟩;obtain⟨K,L⟩:=cW a;have s:=aG a s;have g:=Below.on g a;have u:=em ((a.block _ (dv J f)).trans u.out);have A:=em ((a.block _ f).trans A.out);have f:=dy f a.size;have C:=dy C a.size)|(go_at_call 49;refine(bG _ _ _ _).mono ?_;rintro e w'⟨rfl,rfl⟩)|(go_at_call 108;refine(kQ _ _ _ _ _ _ _ _ J0 tL).mono ?_;rintro e w1⟨rfl,a⟩;obtain⟨K,L⟩:=cW a;have s:=aG a s;have g:=Below.on g a;have u:=em ((a.block _ (dv J f)).trans u.out);have A:=em ((a.block _ f).trans A.out);have f:=dy f a.size;have C:=dy C a.size))
     any_goals (
      go_ret
      refine⟨?_,g⟩;have hR:=N.out
      first
       |exact aC (dI (v:=iH (x m).name ((dO m).map λj=>(x j).name)) y.out B.out d (by simp_all [gM]) (by simp_all))
       |exact aC (dI (v:=1) y.out B.out d (by simp_all [gM]) (by decide))
       |exact aC (dI (v:=10) y.out B.out d (by simp_all [gM];try omega) (by decide))
       |exact aC (dI (v:=6) y.out B.out d (by simp_all [gM];try omega) (by decide))
       |exact aC (dI (v:=1) y.out B.out d (by simp_all [gM];try omega) (by decide)))
     have e1:iH (x m).name ((dO m).map λj=>(x j).name)=0:=by simp_all
     have S:gM p M r x m=ia (x m).ln (fy r (x m).lane):=by
      have hR:=N.out;simp only[gM];rw[if_pos e1,if_pos (by simp_all),if_neg (by simp_all;try omega),if_pos (by simp_all),if_pos (by simp_all)]
     rw[if_pos e1]at s;have T:=em S;clear S e1;have J4:∀j,j<(x m).ln->w1.cell? ⟨(x m).lk,(x m).lo+j,none⟩=some (e6 f8 ((x m).lane j)):=λj z=>(g.cell (p:=⟨(x m).lk,(x m).lo+j,none⟩) (HL.out m d (by omega)).2).trans (HLC.out m d j z);have U:=em J4;clear J4;obtain⟨X,e1,e2,e3,e4,e5⟩:=bf u.out;have e11:=afi A.out;clear K L;generalize eW (decide ((x m).n 1<(x m).n 4)||decide ((x m).n 1 < -(x m).n 3))=s42;generalize eW (decide ((x m).n 1<(x m).n 4))=s49;generalize eW (decide ((x m).n 1 < -(x m).n 3))=s58;generalize eW (bO ((x m).n 6) 0 (p-1))=s74;generalize eW (!eK ((x m).n 9) ((x m).n 10) 0 60)=s77;generalize eW (eK ((x m).n 9) ((x m).n 10) 0 60)=s85;generalize e6 f8 (iH (x m).name ((dO m).map λj=>(x j).name))=s6;by_cases hl0:0<(x m).ln
     ·have Y:=(HL.out m d hl0).1;rw[Y]at e11;rw[Y];have HLB:=em Y;clear Y
      go_loop [91] (λi=>∃q:Nat,q<=(x m).ln/\i=e6 f8 q/\∀j,j<q->fy r (x m).lane j=0) (λi=>(x m).ln-(intOf i).toNat)
      case atStart=>exact⟨0,dq _,rfl,λj z=>absurd z (dt _)⟩
      case round=>
       obtain⟨q,hq,rfl,V⟩:=hrel;have H:=em V;clear V;by_cases O:q<(x m).ln
       ·have g0:=U.out q O;by_cases hq0:0<q
        ·have g1:=U.out (q-1) (by omega)
         go_wp2_with (go_at_call 49;refine(bG _ _ _ _).mono ?_;rintro e w'⟨rfl,rfl⟩)
         ·go_ret
          have W:fy r (x m).lane q=6:=by
           have t:(!bO ((x m).lane q) 0 (↑r-1))=true:=by assumption
           simp only[fy];rw[if_neg (by simpa using t)]
          exact⟨aC (dI (v:=6) y.out B.out d (T.out.trans ((eG H.out O (by rw[W];decide)).trans W)) (by decide)),g⟩
         ·go_ret
          have e7:fy r (x m).lane q=7:=by
           have t:(!bO ((x m).lane q) 0 (↑r-1))=false:=by assumption
           have t2:(x m).lane q<=(x m).lane (q-1):=by assumption
           simp only[fy];rw[if_pos (by simpa using t),if_pos ⟨hq0,t2⟩]
          exact⟨aC (dI (v:=7) y.out B.out d (T.out.trans ((eG H.out O (by rw[e7];decide)).trans e7)) (by decide)),g⟩
         ·have X:fy r (x m).lane q=0:=by
           have t:(!bO ((x m).lane q) 0 (↑r-1))=false:=by assumption
           have t2:(x m).lane (q-1)<(x m).lane q:=by assumption
           simp only[fy];rw[if_pos (by simpa using t),if_neg (by omega)]
          refine⟨⟨q+1,O,by go_num,λj z=>?_⟩,by simp[intOf];omega⟩
          rcases Nat.lt_succ_iff_lt_or_eq.1 z with h|h
          ·exact H.out j h
          ·rw[h];exact X
        ·obtain rfl:q=0:=by omega
         rw[dC]at g0
         go_wp2_with (go_at_call 49;refine(bG _ _ _ _).mono ?_;rintro e w'⟨rfl,rfl⟩)
         ·go_ret
          have W:fy r (x m).lane 0=6:=by
           have t:(!bO ((x m).lane 0) 0 (↑r-1))=true:=by assumption
           simp only[fy];rw[if_neg (by simpa using t)]
          exact⟨aC (dI (v:=6) y.out B.out d (T.out.trans ((eG H.out O (by rw[W];decide)).trans W)) (by decide)),g⟩
         ·have X:fy r (x m).lane 0=0:=by
           have t:(!bO ((x m).lane 0) 0 (↑r-1))=false:=by assumption
           simp only[fy];rw[if_pos (by simpa using t),if_neg (by omega)]
          refine⟨⟨1,O,by go_num,λj z=>?_⟩,by simp[intOf];omega⟩;obtain rfl:j=0:=by omega
          exact X
       ·obtain rfl:q=(x m).ln:=by omega
        go_wp2
        refine⟨⟨m+1,d,by go_num,λj z=>?_,?_,u.out,g⟩,by simp[intOf];omega⟩
        ·rcases Nat.lt_succ_iff_lt_or_eq.1 z with h|h
         ·exact B.out j h
         ·rw[h,T.out];exact cz H.out
        ·rw[dU,d8];exact s
     ·go_loop [91] (λi=>i=e6 f8 0) (λi=>1)
      case atStart=>rfl
      case round=>
       obtain rfl:=hrel;have hz:((x m).ln:Int)<=0:=by omega
       go_wp2
       refine⟨⟨m+1,d,by go_num,λj z=>?_,?_,u.out,g⟩,by simp[intOf];omega⟩
       ·rcases Nat.lt_succ_iff_lt_or_eq.1 z with h|h
        ·exact B.out j h
        ·rw[h,T.out];exact cz λj z=>absurd z (by omega)
       ·rw[dU,d8];exact s
    ·have N:=em (aV R);clear R
     go_wp2_with (first|(go_at_call 110;refine(wB (w.heap.size+1) _ _ _ s Va).mono ?_;rintro e w1⟨rfl,E,s⟩;obtain⟨K,L⟩:=J2 E;have g:=dl g (E.below (by omega) g.size);have u:=em ((E.block _ (dv J f) (by omega)).trans u.out);have A:=em ((E.block _ f (by omega)).trans A.out);have f:=dy f E.size;have C:=dy C E.size)|(go_at_call 32;((with_reducible refine(El N.out _).mono ?_);rintro e w1⟨rfl,a⟩;obtain⟨K,L⟩:=cW a;have s:=aG a s;have g:=Below.on g a;have u:=em ((a.block _ (dv J f)).trans u.out);have A:=em ((a.block _ f).trans A.out);have f:=dy f a.size;have C:=dy C a.size))|(go_at_call 32;refine(nh _ _ _ _ _).mono ?_;rintro e w1⟨rfl,a⟩;obtain⟨K,L⟩:=cW a;have s:=aG a s;have g:=Below.on g a;have u:=em ((a.block _ (dv J f)).trans u.out);have A:=em ((a.block _ f).trans A.out);have f:=dy f a.size;have C:=dy C a.size)|(go_at_call 49;refine(bG _ _ _ _).mono ?_;rintro e w'⟨rfl,rfl⟩)|(go_at_call 108;refine(kQ _ _ _ _ _ _ _ _ J0 tL).mono ?_;rintro e w1⟨rfl,a⟩;obtain⟨K,L⟩:=cW a;have s:=aG a s;have g:=Below.on g a;have u:=em ((a.block _ (dv J f)).trans u.out);have A:=em ((a.block _ f).trans A.out);have f:=dy f a.size;have C:=dy C a.size))
     any_goals (
      go_ret
      refine⟨?_,g⟩;have hR:=N.out
      first
       |exact aC (dI (v:=iH (x m).name ((dO m).map λj=>(x j).name)) y.out B.out d (by simp_all [gM]) (by simp_all))
       |exact aC (dI (v:=1) y.out B.out d (by simp_all [gM]) (by decide))
       |exact aC (dI (v:=10) y.out B.out d (by simp_all [gM];try omega) (by decide))
       |exact aC (dI (v:=6) y.out B.out d (by simp_all [gM];try omega) (by decide))
       |exact aC (dI (v:=1) y.out B.out d (by simp_all [gM];try omega) (by decide)))
   ·obtain rfl:m=n:=by omega
    go_wp2
    go_ret
    exact⟨by simp[kA,y.out,cz B.out],D⟩
 ·have y:=em (aV hb);clear hb
  go_enter (fx (by decide) bC),cv
  go_wp2_with (go_at_call 49;refine(pZ y.out _).mono ?_;rintro e w'⟨rfl,rfl⟩)
  go_ret
  exact⟨by simp[kA,y.out],(dj _ _).alloc (dp _) _⟩
structure CD where
 l:Int
 p:Int
 b2:Option Addr
 k2:Nat
 o2:Nat
 n2:Nat
 c2:Nat
 x2:Nat->Int×Int
 b3:Option Addr
 k3:Nat
 o3:Nat
 n3:Nat
 c3:Nat
 x3:Nat->Int×Int×Int
 b4:Option Addr
 k4:Nat
 o4:Nat
 n4:Nat
 c4:Nat
 x4:Nat->iJ
 b5:Option Addr
 k5:Nat
 o5:Nat
 n5:Nat
 c5:Nat
 x5:Nat->ByteArray×Int×Int
abbrev CD.val(C:CD):Array Value:=#[e6 f8 C.l,e6 f8 C.p,e9 C.b2 C.n2 C.c2,e9 C.b3 C.n3 C.c3,e9 C.b4 C.n4 C.c4,e9 C.b5 C.n5 C.c5]
structure CD.At(C:CD)(w:World):Prop where
 m2:C.n2<=20
 m3:C.n3<=20
 m4:C.n4<=20
 m5:C.n5<=20
 h2:C.k2<w.heap.size
 h3:C.k3<w.heap.size
 h4:C.k4<w.heap.size
 h5:C.k5<w.heap.size
 s2:0<C.n2->C.b2=some ⟨C.k2,C.o2,none⟩
 s3:0<C.n3->C.b3=some ⟨C.k3,C.o3,none⟩
 s4:0<C.n4->C.b4=some ⟨C.k4,C.o4,none⟩
 s5:0<C.n5->C.b5=some ⟨C.k5,C.o5,none⟩
 Ep:∀i,i<C.n2->w.cell? ⟨C.k2,C.o2+i*2,none⟩=some (e6 f8 (C.x2 i).1)
 Er:∀i,i<C.n2->w.cell? ⟨C.k2,C.o2+i*2+1,none⟩=some (e6 f8 (C.x2 i).2)
 Es:∀i,i<C.n3->w.cell? ⟨C.k3,C.o3+i*3,none⟩=some (e6 f8 (C.x3 i).1)
 Et:∀i,i<C.n3->w.cell? ⟨C.k3,C.o3+i*3+1,none⟩=some (e6 f8 (C.x3 i).2.1)
 Eu:∀i,i<C.n3->w.cell? ⟨C.k3,C.o3+i*3+2,none⟩=some (e6 f8 (C.x3 i).2.2)
 cu:∀i,i<C.n4->(C.x4 i).name.size<=100/\(C.x4 i).ln<=20
 AD:∀i,i<C.n4->w.cell? ⟨C.k4,C.o4+i*12,none⟩=some (fb (C.x4 i).name)
 dB:∀i,i<C.n4->∀j,1<=j->j<=10->w.cell? ⟨C.k4,C.o4+i*12+j,none⟩=some (e6 f8 ((C.x4 i).n j))
 nj:∀i,i<C.n4->w.cell? ⟨C.k4,C.o4+i*12+11,none⟩=some (e9 (C.x4 i).lb (C.x4 i).ln (C.x4 i).lc)
 l4:∀i,i<C.n4->0<(C.x4 i).ln->(C.x4 i).lb=some ⟨(C.x4 i).lk,(C.x4 i).lo,none⟩/\(C.x4 i).lk<w.heap.size
 J5:∀i,i<C.n4->∀j,j<(C.x4 i).ln->w.cell? ⟨(C.x4 i).lk,(C.x4 i).lo+j,none⟩=some (e6 f8 ((C.x4 i).lane j))
 nm5:∀i,i<C.n5->(C.x5 i).1.size<=100
 FI:∀i,i<C.n5->w.cell? ⟨C.k5,C.o5+i*3,none⟩=some (fb (C.x5 i).1)
 HU:∀i,i<C.n5->w.cell? ⟨C.k5,C.o5+i*3+1,none⟩=some (e6 f8 (C.x5 i).2.1)
 J6:∀i,i<C.n5->w.cell? ⟨C.k5,C.o5+i*3+2,none⟩=some (e6 f8 (C.x5 i).2.2)
def CD.At.below{C:CD}{w w':World}(h:C.At w)(a:Below w.heap.size w w'):C.At w':=by
 have s:=a.size;have e:∀o,w'.cell? ⟨C.k2,o,none⟩=w.cell? ⟨C.k2,o,none⟩:=λo=>a.cell (p:=⟨C.k2,o,none⟩) h.h2;have b:∀o,w'.cell? ⟨C.k3,o,none⟩=w.cell? ⟨C.k3,o,none⟩:=λo=>a.cell (p:=⟨C.k3,o,none⟩) h.h3;have c:∀o,w'.cell? ⟨C.k4,o,none⟩=w.cell? ⟨C.k4,o,none⟩:=λo=>a.cell (p:=⟨C.k4,o,none⟩) h.h4;have d:∀o,w'.cell? ⟨C.k5,o,none⟩=w.cell? ⟨C.k5,o,none⟩:=λo=>a.cell (p:=⟨C.k5,o,none⟩) h.h5;have k:=h;obtain⟨m2,m3,m4,m5,h2,h3,h4,h5,s2,s3,s4,s5,Ep,Er,Es,Et,Eu,cu,AD,dB,nj,l4,J5,nm5,FI,HU,J6⟩:=h
 exact⟨m2,m3,m4,m5,by omega,by omega,by omega,by omega,s2,s3,s4,s5,λi hi=>(e _).trans (Ep i hi),λi hi=>(e _).trans (Er i hi),λi hi=>(b _).trans (Es i hi),λi hi=>(b _).trans (Et i hi),λi hi=>(b _).trans (Eu i hi),cu,
  λi hi=>(c _).trans (AD i hi),λi hi j f h2=>(c _).trans (dB i hi j f h2),λi hi=>(c _).trans (nj i hi),λi hi hl=>⟨(l4 i hi hl).1,dy (l4 i hi hl).2 s⟩,
  λi hi j g=>(a.cell (p:=⟨(C.x4 i).lk,(C.x4 i).lo+j,none⟩) (l4 i hi (by omega)).2).trans (J5 i hi j g),nm5,λi hi=>(d _).trans (FI i hi),λi hi=>(d _).trans (HU i hi),λi hi=>(d _).trans (J6 i hi)⟩
def CD.dP(C:CD):Nat->Int
 |0=>jd C.l C.p
 |1=>pq C.n2 C.x2
 |2=>kz C.p C.n3 C.x3
 |3=>kA C.p C.n2 C.n3 C.n4 C.x4
 |_=>pE C.n4 C.n5 C.x5
def CD.cx(C:CD):Int:=ia 5 C.dP
def cK{l p:Int}(h:jd l p=0):1<=p/\p<=6:=by
 unfold jd at h
 split at h
 ·rename_i a;simp[bO]at a;omega
 ·cases h
def afm(C:CD)(w:World):Calls PL 79 #[e8 C.val] w (aO (e6 f8 (C.dP 0)) w):=Em _ _ _ _ _ _ _
def afn(C:CD)(w:World)(h:C.At w):Calls PL 80 #[e8 C.val] w (aO (e6 f8 (C.dP 1)) w):=Nb _ _ _ _ _ _ _ _ _ _ _ _ h.m2 h.h2 h.s2 h.Ep h.Er
def afo(C:CD)(w:World)(h:C.At w)(a:C.dP 0=0):Calls PL 81 #[e8 C.val] w (aO (e6 f8 (C.dP 2)) w):=
 Nf _ _ _ _ _ _ _ _ _ _ _ _ h.m3 (cK a).1 (cK a).2 h.h3 h.s3 h.Es h.Et h.Eu
def afp(C:CD)(w:World)(h:C.At w)(a:C.dP 0=0):Calls PL 82 #[e8 C.val] w (aO (e6 f8 (C.dP 3)) w):=
 Q7 _ _ _ _ _ _ _ _ _ _ _ _ _ _ _ _ h.m4 h.m2 h.m3 (cK a).1 (cK a).2 h.h4 h.s4 h.cu h.AD h.dB h.nj h.l4 h.J5
def afq(C:CD)(w:World)(h:C.At w):Calls PL 83 #[e8 C.val] w (aO (e6 f8 (C.dP 4)) w):=
 HQ _ _ _ _ _ _ _ _ _ _ _ _ _ _ h.m5 h.m4 h.h5 h.s5 h.nm5 h.FI h.HU h.J6
def yq(x0 x1 x2 x3 x4:Value)(w:World):(eD 150 (e8 #[x0,x1,x2,x3,x4]) (e6 f8 0)).run PL w=eN x0 w/\(eD 150 (e8 #[x0,x1,x2,x3,x4]) (e6 f8 1)).run PL w=eN x1 w/\(eD 150 (e8 #[x0,x1,x2,x3,x4]) (e6 f8 2)).run PL w=eN x2 w/\(eD 150 (e8 #[x0,x1,x2,x3,x4]) (e6 f8 3)).run PL w=eN x3 w/\(eD 150 (e8 #[x0,x1,x2,x3,x4]) (e6 f8 4)).run PL w=eN x4 w:=
 ⟨by kernel_rfl,by kernel_rfl,by kernel_rfl,by kernel_rfl,by kernel_rfl⟩
def iv:Nat->Value|0=>e6 f8 0|1=>e6 f8 1|2=>e6 f8 2|3=>e6 f8 3|4=>e6 f8 4|_=>e6 f8 5
def cR{C:CD}{m:Nat}(a:∀j,j<m->C.dP j=0)(b:m<5)(hf:C.dP m≠0):C.cx=C.dP m:=eG a b hf
def uC(C:CD)(w:World)(h:C.At w):Calls PL 52 #[e8 C.val] w (aO (e6 f8 C.cx) w):=by
 have H:=em h;clear h;have o:=λw x0 x1 x2 x3 x4=>(yq x0 x1 x2 x3 x4 w).1;have p:=λw x0 x1 x2 x3 x4=>(yq x0 x1 x2 x3 x4 w).2.1;have q:=λw x0 x1 x2 x3 x4=>(yq x0 x1 x2 x3 x4 w).2.2.1;have r:=λw x0 x1 x2 x3 x4=>(yq x0 x1 x2 x3 x4 w).2.2.2.1;have s:=λw x0 x1 x2 x3 x4=>(yq x0 x1 x2 x3 x4 w).2.2.2.2
 go_enter (fx (by decide) bo),Tryz.ntmps52
 go_wp2
 go_loopw [20] (λi wr=>∃k:Nat,k<=5/\i=iv k/\(∀j,j<k->C.dP j=0)/\Below w.heap.size w wr) (λi _=>5-(intOf i).toNat)
 case atStart=>exact⟨0,by omega,rfl,λj d=>absurd d (dt _),((dj _ _).alloc (dp _) _).alloc (by simp) _⟩
 case round=>
  obtain⟨k,t,hi,l,c⟩:=hrel;have b:=em l;clear l;have n:=H.out.below c;have g:=em n;clear n;obtain rfl|rfl|rfl|rfl|rfl|rfl:k=0\/k=1\/k=2\/k=3\/k=4\/k=5:=by omega
  ·obtain rfl:_=e6 f8 0:=hi
   go_wp2_with (go_at_call 79;refine(afm C _).mono ?_;rintro e w1⟨rfl,a⟩)
   ·go_ret
    exact⟨aC (cR (m:=0) b.out (by omega) (by simp_all)),Below.on c a⟩
   ·have f:C.dP 0=0:=by simp_all
    exact⟨⟨1,by omega,rfl,λj d=>by
     rcases Nat.lt_succ_iff_lt_or_eq.1 d with h|h
     ·exact b.out j h
     ·rw[h];exact f,Below.on c a⟩,by simp[intOf]⟩
  ·obtain rfl:_=e6 f8 1:=hi
   go_wp2_with (go_at_call 80;refine(afn C _ g.out).mono ?_;rintro e w1⟨rfl,a⟩)
   ·go_ret
    exact⟨aC (cR (m:=1) b.out (by omega) (by simp_all)),Below.on c a⟩
   ·have f:C.dP 1=0:=by simp_all
    exact⟨⟨2,by omega,rfl,λj d=>by
     rcases Nat.lt_succ_iff_lt_or_eq.1 d with h|h
     ·exact b.out j h
     ·rw[h];exact f,Below.on c a⟩,by simp[intOf]⟩
  ·obtain rfl:_=e6 f8 2:=hi
   go_wp2_with (go_at_call 81;refine(afo C _ g.out (b.out 0 (by omega))).mono ?_;rintro e w1⟨rfl,a⟩)
   ·go_ret
    exact⟨aC (cR (m:=2) b.out (by omega) (by simp_all)),Below.on c a⟩
   ·have f:C.dP 2=0:=by simp_all
    exact⟨⟨3,by omega,rfl,λj d=>by
     rcases Nat.lt_succ_iff_lt_or_eq.1 d with h|h
     ·exact b.out j h
     ·rw[h];exact f,Below.on c a⟩,by simp[intOf]⟩
  ·obtain rfl:_=e6 f8 3:=hi
   go_wp2_with (go_at_call 82;refine(afp C _ g.out (b.out 0 (by omega))).mono ?_;rintro e w1⟨rfl,a⟩)
   ·go_ret
    exact⟨aC (cR (m:=3) b.out (by omega) (by simp_all)),Below.on c a⟩
   ·have f:C.dP 3=0:=by simp_all
    exact⟨⟨4,by omega,rfl,λj d=>by
     rcases Nat.lt_succ_iff_lt_or_eq.1 d with h|h
     ·exact b.out j h
     ·rw[h];exact f,Below.on c a⟩,by simp[intOf]⟩
  ·obtain rfl:_=e6 f8 4:=hi
   go_wp2_with (go_at_call 83;refine(afq C _ g.out).mono ?_;rintro e w1⟨rfl,a⟩)
   ·go_ret
    exact⟨aC (cR (m:=4) b.out (by omega) (by simp_all)),Below.on c a⟩
   ·have f:C.dP 4=0:=by simp_all
    exact⟨⟨5,by omega,rfl,λj d=>by
     rcases Nat.lt_succ_iff_lt_or_eq.1 d with h|h
     ·exact b.out j h
     ·rw[h];exact f,Below.on c a⟩,by simp[intOf]⟩
  ·obtain rfl:_=e6 f8 5:=hi
   go_wp2
   go_ret
   exact⟨aC (cz b.out),c⟩
def CD.zero:Array Value:=#[e6 f8 0,e6 f8 0,e9 none 0 0,e9 none 0 0,e9 none 0 0,e9 none 0 0]
def CD.b6(C:CD)(b:Bool):Int:=if C.cx=0 then(if b then 0 else 6) else C.cx
def CD.sX(C:CD)(b:Bool):Value:=fi #[e8 (if C.b6 b=0 then C.val else CD.zero),e6 f8 (C.b6 b)]
def Below.zQ{B:Nat}{a w:World}(h:Below B a w){k:Nat}(b:B<=k)(u0 u1 u2 u3 u4 u5:Value):Below B a ((((((w.setCell ⟨k,0,none⟩ u0).setCell ⟨k,1,none⟩ u1).setCell ⟨k,2,none⟩ u2).setCell ⟨k,3,none⟩ u3).setCell ⟨k,4,none⟩ u4).setCell ⟨k,5,none⟩ u5):=
 (((((h.setCell (p:=⟨k,0,none⟩) b u0).setCell (p:=⟨k,1,none⟩) b u1).setCell (p:=⟨k,2,none⟩) b u2).setCell (p:=⟨k,3,none⟩) b u3).setCell (p:=⟨k,4,none⟩) b u4).setCell (p:=⟨k,5,none⟩) b u5
def Ra{C:CD}{b:Bool}(h:C.cx≠0):C.sX b=fi #[e8 #[e6 f8 0,e6 f8 0,e9 none 0 0,e9 none 0 0,e9 none 0 0,e9 none 0 0],e6 f8 C.cx]:=by
 simp[CD.sX,CD.b6,h,CD.zero]
def Vd{C:CD}(h:C.cx=0):C.sX false=fi #[e8 #[e6 f8 0,e6 f8 0,e9 none 0 0,e9 none 0 0,e9 none 0 0,e9 none 0 0],e6 f8 6]:=by
 simp[CD.sX,CD.b6,h,CD.zero]
def Ve{C:CD}(h:C.cx=0):C.sX true=fi #[e8 C.val,e6 f8 0]:=by
 simp[CD.sX,CD.b6,h]
def sY{C:CD}{w:World}(h:C.cx=0)(k:C.At w):Calls PL 52 #[e8 C.val] w (aO (e6 f8 0) w):=by
 have:=uC C w k;rwa[h]at this
def Ev(C:CD)(b:Bool)(w:World)(h:C.At w):Calls PL 30 #[e8 C.val,eW b] w (aO (C.sX b) w):=by
 have g:=λw1 k=>h.below (w':=w1) k;have f:=em g;clear g h;by_cases hc:C.cx=0
 ·have c:=em hc;clear hc;cases b
  ·rw[Vd c.out]
   go_enter (fx (by decide) b1),cB
   go_wp2_with (go_at_call 52;refine(sY c.out (f.out _ (((dj _ _).alloc (dp _) _).alloc (by simp) _))).mono ?_;rintro e w1⟨rfl,a⟩;obtain⟨d,i⟩:=cW a;have j:w.heap.size+1<w1.heap.size:=by have:=a.size;simp at this;omega)
   refine aF (v:=fi #[e8 #[e6 f8 0,e6 f8 0,e9 none 0 0,e9 none 0 0,e9 none 0 0,e9 none 0 0],e6 f8 6]) ?_ rfl ⟨rfl,(Below.zQ ((((dj _ _).alloc (dp _) _).alloc (by simp) _).trans (a.mono (by simp;omega))) (dK _) _ _ _ _ _ _)⟩;simp[aI,cC,go_sem,d]
  ·rw[Ve c.out]
   go_enter (fx (by decide) b1),cB
   go_wp2_with (go_at_call 52;refine(sY c.out (f.out _ (((dj _ _).alloc (dp _) _).alloc (by simp) _))).mono ?_;rintro e w1⟨rfl,a⟩;obtain⟨d,i⟩:=cW a;have j:w.heap.size+1<w1.heap.size:=by have:=a.size;simp at this;omega)
   refine aF (v:=fi #[e8 C.val,e6 f8 0]) ?_ rfl ⟨rfl,(Below.zQ ((((dj _ _).alloc (dp _) _).alloc (by simp) _).trans (a.mono (by simp;omega))) (dK _) _ _ _ _ _ _)⟩;simp[aI,cC,go_sem,d]
 ·have c:=em hc;have l:(C.cx != 0)=true:=by simpa using hc
  clear hc;rw[Ra c.out]
  go_enter (fx (by decide) b1),cB
  go_wp2_with (go_at_call 52;refine(uC C _ (f.out _ (((dj _ _).alloc (dp _) _).alloc (by simp) _))).mono ?_;rintro e w1⟨rfl,a⟩;obtain⟨d,i⟩:=cW a;have j:w.heap.size+1<w1.heap.size:=by have:=a.size;simp at this;omega)
  refine aF (v:=fi #[e8 #[e6 f8 0,e6 f8 0,e9 none 0 0,e9 none 0 0,e9 none 0 0,e9 none 0 0],e6 f8 C.cx]) ?_ rfl ⟨rfl,(Below.zQ ((((dj _ _).alloc (dp _) _).alloc (by simp) _).trans (a.mono (by simp;omega))) (dK _) _ _ _ _ _ _)⟩;simp[aI,cC,go_sem,d]
def AE(C:CD)(n:Int)(w:World)(h:C.n4<=20):Calls PL 31 #[e8 C.val,e6 f8 n] w (aO (eW (bO n 0 (C.n4-1))) w):=by
 go_enter (fx (by decide) b8),Tryz.ntmps31
 go_wp2_with (go_at_call 49;refine(bG _ _ _ _).mono ?_;rintro e w'⟨rfl,rfl⟩)
 go_ret
 exact⟨rfl,(dj _ _).alloc (dp _) _⟩
def lvl(s r:Int):Nat->Int
 |0=>0
 |k+1=>if((k:Int)+1)*(k+1) > s*s-r*r then lvl s r k else k+1
def AF{a:Int}(c : -90<=a)(d:a<=90):0<=a*a/\a*a<=8100:=by
 have h:=fl (a:=90-a) (b:=90+a) (by omega) (by omega);have e:(90-a)*(90+a)=8100-a*a:=by
  rw[Int.sub_mul,fm,fm,Int.mul_comm a 90];omega
 refine⟨?_,by omega⟩
 rcases fo 0 a with h|h
 ·exact fl h h
 ·have:=fl (a:=-a) (b:=-a) (by omega) (by omega);rwa[fp]at this
def AG(s:Nat)(r:Int)(w:World)(y:1<=s)(z:s<=90)(A : -s<=r)(g:r<=s):Calls PL 50 #[e6 f8 (s:Int),e6 f8 r] w λe w'=>e=f7 (e6 f8 (lvl s r s))/\w'=w:=by
 go_enter (fx (by decide) bv),Tryz.ntmps50
 go_wp2
 go_loop [5] (λv=>∃k:Nat,k<=s/\v=e6 f8 k/\lvl s r s=lvl s r k) (λv=>(intOf v).toNat)
 case atStart=>exact⟨s,dp _,rfl,rfl⟩
 case round=>
  obtain⟨k,B,rfl,i⟩:=hrel;have f:=em i;clear i;have l:=AF (a:=(k:Int)) (by omega) (by omega);have m:=AF (a:=(s:Int)) (by omega) (by omega);have n:=AF (a:=r) (by omega) (by omega);obtain⟨o,C⟩:=l;obtain⟨p,q⟩:=m;obtain⟨t,u⟩:=n;have hd:(∃k':Nat,k=k'+1)\/k=0:=by
   cases k with
   |zero=>exact .inr rfl
   |succ k'=>exact .inl ⟨k',rfl⟩
  go_wp2
  ·have j:(s:Int)*s-r*r<(k:Int)*k:=by assumption
   rcases hd with⟨k',rfl⟩|rfl
   ·refine⟨⟨k',by omega,by congr 1;omega,?_⟩,by simp[intOf]⟩;rw[f.out,lvl,if_pos (by simpa using j)]
   ·exfalso;have D:r*r<=(s:Int)*s:=by
     rcases fo 0 r with h|h
     ·exact ft g g h (by omega)
     ·have e:=ft (a:=-r) (b:=-r) (c:=s) (d:=s) (by omega) (by omega) (by omega) (by omega);rwa[fp]at e
    simp at j;omega
  ·have x:(k:Int)*k<=(s:Int)*s-r*r:=by assumption
   go_ret
   refine⟨?_,rfl⟩
   rcases hd with⟨k',rfl⟩|rfl
   ·rw[f.out,lvl,if_neg (by simp at x ⊢;omega)];rfl
   ·rw[f.out];rfl
def ie(s r:Int):Value:=if bO s 1 90&&bO r (-90) 90 then(if s<r\/s < -r then fi #[e6 f8 0,e6 f8 10] else fi #[e6 f8 (lvl s r s.toNat),e6 f8 0]) else fi #[e6 f8 0,e6 f8 1]
def uD(s r:Int)(w:World):Calls PL 17 #[e6 f8 s,e6 f8 r] w λe w'=>e=f7 (ie s r)/\w'=w:=by
 by_cases d:bO s 1 90=true
 ·have i:1<=s/\s<=90:=by simp[bO]at d;exact d
  obtain⟨j,o⟩:=i;have b:=em d;clear d;by_cases f:bO r (-90) 90=true
  ·have k : -90<=r/\r<=90:=by simp[bO]at f;exact f
   obtain⟨l,m⟩:=k;have c:=em f;clear f;obtain⟨n,rfl⟩:=fz (a:=s) (by omega);by_cases g:(n:Int)<r
   ·go_enter (fx (by decide) bm),cQ
    go_wp2_with (first|(go_at_call 49;((with_reducible refine(fN b.out _).mono ?_);rintro e w'⟨rfl,rfl⟩))|(go_at_call 49;refine(fN c.out _).mono ?_;rintro e w'⟨rfl,rfl⟩))
    go_ret2
    exact⟨by simp[ie,b.out,c.out,g],rfl⟩
   ·by_cases h:(n:Int) < -r
    ·go_enter (fx (by decide) bm),cQ
     go_wp2_with (first|(go_at_call 49;((with_reducible refine(fN b.out _).mono ?_);rintro e w'⟨rfl,rfl⟩))|(go_at_call 49;refine(fN c.out _).mono ?_;rintro e w'⟨rfl,rfl⟩))
     go_ret2
     exact⟨by simp[ie,b.out,c.out,h],rfl⟩
    ·go_enter (fx (by decide) bm),cQ
     go_wp2_with (first|(go_at_call 49;((with_reducible refine(fN b.out _).mono ?_);rintro e w'⟨rfl,rfl⟩))|(go_at_call 49;refine(fN c.out _).mono ?_;rintro e w'⟨rfl,rfl⟩)|(go_at_call 50;refine(AG _ _ _ (by omega) (by omega) (by omega) (by omega)).mono ?_;rintro e w'⟨rfl,rfl⟩))
     go_ret2
     exact⟨by simp[ie,b.out,c.out,g,h],rfl⟩
  ·have c:=em (aV f);clear f
   go_enter (fx (by decide) bm),cQ
   go_wp2_with (first|(go_at_call 49;((with_reducible refine(fN b.out _).mono ?_);rintro e w'⟨rfl,rfl⟩))|(go_at_call 49;refine(pZ c.out _).mono ?_;rintro e w'⟨rfl,rfl⟩))
   go_ret2
   exact⟨by simp[ie,b.out,c.out],rfl⟩
 ·have b:=em (aV d);clear d
  go_enter (fx (by decide) bm),cQ
  go_wp2_with (go_at_call 49;refine(pZ b.out _).mono ?_;rintro e w'⟨rfl,rfl⟩)
  go_ret2
  exact⟨by simp[ie,b.out],rfl⟩
def rJ(n a b:Int)(w:World):Calls PL 34 #[e6 f8 n,e6 f8 a,e6 f8 b] w λe w'=>e=f7 (eW (bO n a b))/\w'=w:=by
 go_enter (fx (by decide) bs),Tryz.ntmps34
 go_wp2
 all_goals (go_ret;simp[bO];try omega)
def yu(c:Nat)(w:World):Calls PL 84 #[e6 .u8 c] w λe w'=>e=f7 (eW (bO c 97 122))/\w'=w:=by
 go_enter (fx (by decide) ci),Tryz.ntmps84
 go_wp2
 all_goals (go_ret;simp[bO];try omega)
def AH(c:Nat)(w:World):Calls PL 85 #[e6 .u8 c] w λe w'=>e=f7 (eW (bO c 48 57))/\w'=w:=by
 go_enter (fx (by decide) cl),Tryz.ntmps85
 go_wp2
 all_goals (go_ret;simp[bO];try omega)
def kB(a b low c:Int)(w:World):Calls PL 35 #[e8 #[e6 f8 a,e6 f8 b],e6 f8 low,e6 f8 c] w (aO (eW (eK a b low c)) w):=by
 go_enter (fx (by decide) bM),Tryz.ntmps35
 go_wp2_with (go_at_call 34;refine(rJ _ _ _ _).mono ?_;rintro e w'⟨rfl,rfl⟩)
 all_goals (go_ret;refine⟨?_,(dj _ _).alloc (dp _) _⟩;simp_all [eK,bO];try omega)
def AI(a b:Int)(w:World)(c : -90<=a)(d:a<=90):Calls PL 64 #[e8 #[e6 f8 a,e6 f8 b]] w (aO (e6 f8 (max b (-a))) w):=by
 go_enter (fx (by decide) b9),Tryz.ntmps64
 go_wp2
 all_goals (go_ret;refine⟨aC (by omega),(dj _ _).alloc (dp _) _⟩)
def Ew{c:Nat}(h:bO c 97 122=true)(w:World):Calls PL 84 #[e6 .u8 c] w λe w'=>e=f7 (eW true)/\w=w':=by
 have:=yu c w;rw[h]at this;exact this.mono λ_ _⟨a,b⟩=>⟨a,b.symm⟩
def yw{c:Nat}(h:bO c 97 122=false)(w:World):Calls PL 84 #[e6 .u8 c] w λe w'=>e=f7 (eW false)/\w=w':=by
 have:=yu c w;rw[h]at this;exact this.mono λ_ _⟨a,b⟩=>⟨a,b.symm⟩
def Vf{c:Nat}(h:bO c 48 57=true)(w:World):Calls PL 85 #[e6 .u8 c] w λe w'=>e=f7 (eW true)/\w=w':=by
 have:=AH c w;rw[h]at this;exact this.mono λ_ _⟨a,b⟩=>⟨a,b.symm⟩
def Vg{c:Nat}(h:bO c 48 57=false)(w:World):Calls PL 85 #[e6 .u8 c] w λe w'=>e=f7 (eW false)/\w=w':=by
 have:=AH c w;rw[h]at this;exact this.mono λ_ _⟨a,b⟩=>⟨a,b.symm⟩
def kH{n a b:Int}(h:bO n a b=true)(w:World):Calls PL 34 #[e6 f8 n,e6 f8 a,e6 f8 b] w λe w'=>e=f7 (eW true)/\w=w':=by
 have:=rJ n a b w;rw[h]at this;exact this.mono λ_ _⟨a,b⟩=>⟨a,b.symm⟩
def vQ{n a b:Int}(h:bO n a b=false)(w:World):Calls PL 34 #[e6 f8 n,e6 f8 a,e6 f8 b] w λe w'=>e=f7 (eW false)/\w=w':=by
 have:=rJ n a b w;rw[h]at this;exact this.mono λ_ _⟨a,b⟩=>⟨a,b.symm⟩
def AJ{s:ByteArray}{k:Nat}(h:k<s.size):jv s k=(s[k]'h).toNat:=by simp[jv,h]
def vv(s:ByteArray)(w:World)(hs:s.size<=100):Calls PL 63 #[fb s] w λe w'=>e=f7 (eW (ku s))/\w=w':=by
 by_cases g:bO (↑s.size) 1 12=true
 ·have o:0<s.size:=by simp[bO]at g;omega
  have d:=em g;clear g;by_cases n:bO ((s[0]'o).toNat:Int) 97 122=true
  ·have l:=em n;clear n
   go_enter (fx (by decide) cg),da
   go_wp2_with (first|(go_at_call 34;refine(kH d.out _).mono ?_;rintro e w'⟨rfl,rfl⟩)|(go_at_call 84;refine(Ew l.out _).mono ?_;rintro e w'⟨rfl,rfl⟩))
   go_loop [3] (λv=>∃k:Nat,k<=s.size/\v=e6 f8 k/\∀j,j<k->wA (jv s j) j=true) (λv=>s.size-(intOf v).toNat)
   case atStart=>exact⟨0,dq _,rfl,λj b=>absurd b (dt _)⟩
   case round=>
    obtain⟨k,u,rfl,r⟩:=hrel;have p:=em r;clear r;by_cases f:k<s.size
    ·have hb:=AJ f;have q:=em hb;clear hb;by_cases hl:bO ((s[k]'f).toNat:Int) 97 122=true
     ·have c:=em hl;clear hl
      go_wp2_with (go_at_call 84;refine(Ew c.out _).mono ?_;rintro e w'⟨rfl,rfl⟩)
      refine⟨⟨k+1,f,by go_num,λj b=>?_⟩,by simp[intOf];omega⟩
      rcases Nat.lt_succ_iff_lt_or_eq.1 b with h|h
      ·exact p.out j h
      ·rw[h,q.out];simp[wA,c.out]
     ·have c:=em (aV hl);clear hl;have t:k≠0:=λe=>by
       subst e;have a:=c.out;rw[l.out]at a;cases a
      by_cases hd:bO ((s[k]'f).toNat:Int) 48 57=true
      ·have m:=em hd;clear hd
       go_wp2_with (first|(go_at_call 84;refine(yw c.out _).mono ?_;rintro e w'⟨rfl,rfl⟩)|(go_at_call 85;refine(Vf m.out _).mono ?_;rintro e w'⟨rfl,rfl⟩))
       refine⟨⟨k+1,f,by go_num,λj b=>?_⟩,by simp[intOf];omega⟩
       rcases Nat.lt_succ_iff_lt_or_eq.1 b with h|h
       ·exact p.out j h
       ·rw[h,q.out];simp[wA,m.out,t]
      ·have m:=em (aV hd);clear hd
       go_wp2_with (first|(go_at_call 84;refine(yw c.out _).mono ?_;rintro e w'⟨rfl,rfl⟩)|(go_at_call 85;refine(Vg m.out _).mono ?_;rintro e w'⟨rfl,rfl⟩))
       go_ret
       exact⟨by rw[qd f (by rw[q.out];simp[wA,c.out,m.out])];rfl,rfl⟩
    ·obtain rfl:k=s.size:=by omega
     go_wp2
     go_ret
     refine⟨?_,rfl⟩;have:((dO s.size).all λi=>wA (jv s i) i)=true:=by
      rw[dS];intro j b;exact p.out j (List.mem_range.1 b)
     simp[ku,this,d.out]
  ·have l:=em (aV n);clear n
   go_enter (fx (by decide) cg),da
   go_wp2_with (first|(go_at_call 34;refine(kH d.out _).mono ?_;rintro e w'⟨rfl,rfl⟩)|(go_at_call 84;refine(yw l.out _).mono ?_;rintro e w'⟨rfl,rfl⟩))
   go_ret
   exact⟨by rw[qd o (by rw[AJ o];simp[wA,l.out])];rfl,rfl⟩
 ·have d:=em (aV g);clear g
  go_enter (fx (by decide) cg),da
  go_wp2_with (go_at_call 34;refine(vQ d.out _).mono ?_;rintro e w'⟨rfl,rfl⟩)
  go_ret
  exact⟨by simp[ku,d.out],rfl⟩
def dr{B:Nat}{a w:World}(h:Below B a w)(n:Nat):Below B a (w.drewN n):=⟨h.os,h.tape,h.output,h.size,h.block⟩
def Vh(b:Option Addr)(k o n c m:Nat)(x:Nat->Int)(w:World)(D:n<=20)(E:m<=20)(t:0<n->k<w.heap.size)(hs:0<n->b=some ⟨k,o,none⟩)(u:∀i,i<n->w.cell? ⟨k,o+i,none⟩=some (e6 f8 (x i))) :
 Calls PL 65 #[e9 b n c,e6 f8 (m:Int)] w (aO (e6 f8 (ia n (fy m x))) w):=by
 have v:=em u;have B:=em hs;clear u hs
 go_enter (fx (by decide) br),Tryz.ntmps65
 go_wp2
 go_loopw [5] (λi wr=>∃q:Nat,q<=n/\i=e6 f8 q/\(∀j,j<q->fy m x j=0)/\Below w.heap.size w wr) (λi _=>n-(intOf i).toNat)
 case atStart=>exact⟨0,dq _,rfl,λj g=>absurd g (dt _),dj _ _⟩
 case round=>
  obtain⟨q,F,rfl,y,d⟩:=hrel;have l:=em y;clear y;by_cases f:q<n
  ·obtain rfl:=B.out (by omega);have C:=(d.cell (p:=⟨k,o+q,none⟩) (t (by omega))).trans (v.out q f);by_cases hi:bO (x q) 0 (m-1)=true
   ·have a:=em hi;clear hi;by_cases r:0<q
    ·have H:=(d.cell (p:=⟨k,o+(q-1),none⟩) (t (by omega))).trans (v.out (q-1) (by omega));have I:(0:Int)<q:=by omega
     have J:(q:Int)<n:=by omega
     have K:(q:Int)-1<n:=by omega
     have L:(0:Int)<=(q:Int)-1:=by omega
     go_wp2_with (go_at_call 34;refine(kH a.out _).mono ?_;rintro e w'⟨rfl,rfl⟩)
     go_quiet (fail)
     go_wp2
     ·have z:fy m x q=7:=by
       have t2:x q<=x (q-1):=by assumption
       simp only[fy];rw[if_pos a.out,if_pos ⟨r,t2⟩]
      go_ret
      exact⟨aC ((eG l.out f (by rw[z];decide)).trans z),dr d _⟩
     ·have s:fy m x q=0:=by
       have t2:x (q-1)<x q:=by assumption
       simp only[fy];rw[if_pos a.out,if_neg (by omega)]
      refine⟨⟨q+1,f,by go_num,λj g=>?_,dr d _⟩,by simp[intOf];omega⟩
      rcases Nat.lt_succ_iff_lt_or_eq.1 g with h|h
      ·exact l.out j h
      ·rw[h];exact s
    ·obtain rfl:q=0:=by omega
     rw[dC]at C
     go_wp2_with (go_at_call 34;refine(kH a.out _).mono ?_;rintro e w'⟨rfl,rfl⟩)
     go_quiet (fail)
     go_wp2
     have s:fy m x 0=0:=by
      simp only[fy];rw[if_pos a.out,if_neg (by omega)]
     refine⟨⟨1,f,by go_num,λj g=>?_,dr d _⟩,by simp[intOf];omega⟩;obtain rfl:j=0:=by omega
     exact s
   ·have a:=em (aV hi);clear hi
    go_wp2_with (go_at_call 34;refine(vQ a.out _).mono ?_;rintro e w'⟨rfl,rfl⟩)
    have A:fy m x q=6:=by simp only[fy];rw[a.out];rfl
    go_ret
    exact⟨aC ((eG l.out f (by rw[A];decide)).trans A),d⟩
  ·obtain rfl:q=n:=by omega
   go_wp2
   go_ret
   exact⟨aC (cz l.out),d⟩
def Ex{a b c d:Int}:eB a b=eB c d↔(a=c/\b=d)\/(a=d/\b=c):=by
 simp only[eB,Prod.mk.injEq];omega
def aao{w:World}{k:Nat}{x0 x1 x2:Value}{t:ab}(h:w.heap[k]?=some (f9 #[x0,x1,x2] t)):w.cell? ⟨k,0,none⟩=some x0/\w.cell? ⟨k,1,none⟩=some x1/\w.cell? ⟨k,2,none⟩=some x2:=by
 simp[eI,h]
def getElem?_lt'{b:Type}{a:Array b}{i:Nat}{x:b}(h:a[i]?=some x):i<a.size:=(Array.getElem?_eq_some_iff.1 h).1
def Ic(l p:Int)(b:Option Addr)(k o n c:Nat)(x:Nat->Int×Int×Int)(J K v5:Value)(w:World)(hn:n<=20)(J0:1<=p)(tL:p<=6)(t:k<w.heap.size)(hs:0<n->b=some ⟨k,o,none⟩)
 (Q:∀i,i<n->w.cell? ⟨k,o+i*3,none⟩=some (e6 f8 (x i).1)) (C:∀i,i<n->w.cell? ⟨k,o+i*3+1,none⟩=some (e6 f8 (x i).2.1)) (D:∀i,i<n->w.cell? ⟨k,o+i*3+2,none⟩=some (e6 f8 (x i).2.2)) :
 Calls PL 36 #[e8 #[e6 f8 l,e6 f8 p,J,e9 b n c,K,v5]] w (aO (e6 f8 (kz p n x)) w):=by
 have R:=em Q;have S:=em C;have T:=em D;have HS:=em hs;clear Q C D hs;by_cases hb:9<n
 ·go_enter (fx (by decide) bR),db
  go_wp2
  go_ret
  exact⟨by simp[kz,hb],(dj _ _).alloc (dp _) _⟩
 ·go_enter (fx (by decide) bR),db
  go_wp2
  go_loopw [3] (λi wr=>∃m:Nat,m<=n/\i=e6 f8 m/\(∀j,j<m->fQ p x j=0)/\wr.heap[w.heap.size]?=some (f9 #[e6 f8 l,e6 f8 p,J,e9 b n c,K,v5] 27)/\Below w.heap.size w wr) (λi _=>n-(intOf i).toNat)
  case atStart=>exact⟨0,dq _,rfl,λj r=>absurd r (dt _),au _ _,(dj _ _).alloc (dp _) _⟩
  case round=>
   obtain⟨m,U,rfl,V,W,u⟩:=hrel;have s:=em V;have L:=em W;clear V W;obtain⟨y,rfl⟩:∃y:World,y=wr:=⟨_,rfl⟩
   obtain⟨d0,d1,d2,d3,d4,d5⟩:=bf L.out;have mF:w.heap.size<y.heap.size:=getElem?_lt' L.out;by_cases f:m<n
   ·obtain rfl:=HS.out (by omega);have c0:=(u.cell (p:=⟨k,o+m*3,none⟩) t).trans (R.out m f);have c1:=(u.cell (p:=⟨k,o+m*3+1,none⟩) t).trans (S.out m f);have c2:=(u.cell (p:=⟨k,o+m*3+2,none⟩) t).trans (T.out m f);have B:Below w.heap.size w (y.alloc (f9 #[e6 f8 (x m).1,e6 f8 (x m).2.1,e6 f8 (x m).2.2] 104)):=u.alloc u.size _;by_cases F:bO (x m).1 0 (p-1)=true
    ·have a:=em F;clear F;by_cases H:bO (x m).2.1 0 (p-1)=true
     ·have d:=em H;clear H;by_cases z:(x m).1=(x m).2.1
      ·have E:=em z;have Xo:((x m).1==(x m).2.1)=true:=by simpa using z
       clear z
       go_wp2_with (first|(go_at_call 34;((with_reducible refine(kH a.out _).mono ?_);rintro e w'⟨rfl,rfl⟩))|(go_at_call 34;((with_reducible refine(kH d.out _).mono ?_);rintro e w'⟨rfl,rfl⟩)))
       go_ret
       exact⟨aC (dh (v:=8) hb s.out f (by simp[fQ,a.out,d.out,E.out]) (by decide)),B⟩
      ·have E:=em z;have Xo:((x m).1==(x m).2.1)=false:=by simpa using z
       clear z;by_cases I:bO (x m).2.2 1 999=true
       ·have A:=em I;clear I
        go_wp2_with (first|(go_at_call 34;((with_reducible refine(kH a.out _).mono ?_);rintro e w'⟨rfl,rfl⟩))|(go_at_call 34;((with_reducible refine(kH d.out _).mono ?_);rintro e w'⟨rfl,rfl⟩))|(go_at_call 34;((with_reducible refine(kH A.out _).mono ?_);rintro e w'⟨rfl,rfl⟩)))
        go_loopw [5] (λi M=>∃q:Nat,q<=m/\i=e6 f8 q/\(∀j,j<q->eB (x j).1 (x j).2.1≠eB (x m).1 (x m).2.1)/\M.heap[w.heap.size]?=some (f9 #[e6 f8 l,e6 f8 p,J,e9 (some ⟨k,o,none⟩) n c,K,v5] 27)/\M.heap[y.heap.size]?=some (f9 #[e6 f8 (x m).1,e6 f8 (x m).2.1,e6 f8 (x m).2.2] 104)/\Below w.heap.size w M) (λi _=>m-(intOf i).toNat)
        case atStart=>exact⟨0,dq _,rfl,λj r=>absurd r (dt _),(dk _ _ _ mF).trans L.out,au _ _,B⟩
        case round=>
         obtain⟨q,hq,rfl,X,Y,Z,g⟩:=hrel;have HJ:=em X;have N:=em Y;have O:=em Z;clear X Y Z;obtain⟨f0,f1,f2,f3,f4,f5⟩:=bf N.out;obtain⟨g0,g1,g2⟩:=aao O.out;have dx:y.heap.size<wr.heap.size:=getElem?_lt' O.out;have wD:w.heap.size<wr.heap.size:=by omega
         by_cases qN:q<m
         ·have k0:=(g.cell (p:=⟨k,o+q*3,none⟩) t).trans (R.out q (by omega));have k1:=(g.cell (p:=⟨k,o+q*3+1,none⟩) t).trans (S.out q (by omega));have k2:=(g.cell (p:=⟨k,o+q*3+2,none⟩) t).trans (T.out q (by omega));have i2:(q:Int)<n:=by omega
          go_wp2
          any_goals (
           go_ret
           have P:eB (x q).1 (x q).2.1=eB (x m).1 (x m).2.1:=Ex.2 (by simp_all);have nt:eB (x m).1 (x m).2.1∈(dO m).map (λj=>eB (x j).1 (x j).2.1):=List.mem_map.2 ⟨q,List.mem_range.2 qN,P⟩
           exact⟨aC (dh (v:=5) hb s.out f (by simp only[fQ];rw[a.out,d.out,A.out,if_neg E.out,if_pos nt];rfl) (by decide)),g.alloc g.size _⟩)
          all_goals (
           have P:eB (x q).1 (x q).2.1≠eB (x m).1 (x m).2.1:=λe=>by
            have e2:=Ex.1 e;have e3:=E.out
            simp_all
           refine⟨⟨q+1,qN,by go_num,λj r=>?_,(dk _ _ _ wD).trans N.out,(dk _ _ _ dx).trans O.out,g.alloc g.size _⟩,by simp[intOf];omega⟩
           rcases Nat.lt_succ_iff_lt_or_eq.1 r with h|h
           ·exact HJ.out j h
           ·rw[h];exact P)
         ·obtain rfl:q=m:=by omega
          go_wp2
          refine⟨⟨q+1,f,by go_num,λj r=>?_,N.out,g⟩,by simp[intOf];omega⟩
          rcases Nat.lt_succ_iff_lt_or_eq.1 r with h|h
          ·exact s.out j h
          ·have uB:eB (x q).1 (x q).2.1∉(dO q).map (λj=>eB (x j).1 (x j).2.1):=λU=>by
            obtain⟨j,C,D⟩:=List.mem_map.1 U;exact HJ.out j (List.mem_range.1 C) D
           rw[h];simp only[fQ];rw[a.out,d.out,A.out,if_neg E.out,if_neg uB];rfl
       ·have A:=em (aV I);clear I
        go_wp2_with (first|(go_at_call 34;((with_reducible refine(kH a.out _).mono ?_);rintro e w'⟨rfl,rfl⟩))|(go_at_call 34;((with_reducible refine(kH d.out _).mono ?_);rintro e w'⟨rfl,rfl⟩))|(go_at_call 34;((with_reducible refine(vQ A.out _).mono ?_);rintro e w'⟨rfl,rfl⟩)))
        go_ret
        exact⟨aC (dh (v:=1) hb s.out f (by simp[fQ,a.out,d.out,E.out,A.out]) (by decide)),B⟩
     ·have d:=em (aV H);clear H
      go_wp2_with (first|(go_at_call 34;((with_reducible refine(kH a.out _).mono ?_);rintro e w'⟨rfl,rfl⟩))|(go_at_call 34;((with_reducible refine(vQ d.out _).mono ?_);rintro e w'⟨rfl,rfl⟩)))
      go_ret
      exact⟨aC (dh (v:=6) hb s.out f (by simp[fQ,a.out,d.out]) (by decide)),B⟩
    ·have a:=em (aV F);clear F
     go_wp2_with (first|(go_at_call 34;((with_reducible refine(vQ a.out _).mono ?_);rintro e w'⟨rfl,rfl⟩)))
     go_ret
     exact⟨aC (dh (v:=6) hb s.out f (by simp[fQ,a.out]) (by decide)),B⟩
   ·obtain rfl:m=n:=by omega
    go_wp2
    go_ret
    exact⟨aC (by rw[kz,if_neg hb];exact cz s.out),u⟩
def J9{s:ByteArray}(h:ku s=true)(w:World)(hs:s.size<=100):Calls PL 63 #[fb s] w λe w'=>e=f7 (eW true)/\w=w':=by
 have:=vv s w hs;rwa[h]at this
def Ka{s:ByteArray}(h:ku s=false)(w:World)(hs:s.size<=100):Calls PL 63 #[fb s] w λe w'=>e=f7 (eW false)/\w=w':=by
 have:=vv s w hs;rwa[h]at this
def sZ(a b:ByteArray):(a.toList==b.toList)=decide (a=b):=by rw[<-beq_toListBytes,bytes_beq]
def yx(C:CD)(m:Nat)(w:World)(h:C.At w)(b:m<C.n5):Calls PL 38 #[e8 C.val,e6 f8 (m:Int)] w (aO (e6 f8 (iI C.n4 C.x5 m)) w):=by
 have H:=em h;have c0:=h.FI m b;have c1:=h.HU m b;have c2:=h.J6 m b;have Z:=h.s5 (by omega);have L:=h.h5;have M:=h.nm5 m b;have m5:=h.m5;have m4:=h.m4;clear h;obtain⟨l,p,N,k2,o2,O,P,x2,Q,k3,o3,R,S,x3,T,k4,o4,I,U,x4,b5,u,v,d,V,a⟩:=C;simp only at c0 c1 c2 Z L M m5 m4 b ⊢;subst Z;have hmi:(m:Int)<d:=by omega
 by_cases c:ku (a m).1=true
 ·have n:=em c;clear c
  go_enter (fx (by decide) bX),dd
  go_wp2_with (go_at_call 63;refine(J9 n.out _ M).mono ?_;rintro e w'⟨rfl,rfl⟩)
  go_loopw [6] (λi wr=>∃q:Nat,q<=m/\i=e6 f8 q/\(∀j,j<q->(a j).1≠(a m).1)/\wr.heap[w.heap.size]?=some (f9 #[e6 f8 l,e6 f8 p,e9 N O P,e9 Q R S,e9 T I U,e9 (some ⟨u,v,none⟩) d V] 27)/\wr.heap[w.heap.size+1]?=some (f9 #[fb (a m).1,e6 f8 (a m).2.1,e6 f8 (a m).2.2] 102)/\Below w.heap.size w wr) (λi _=>m-(intOf i).toNat)
  case atStart=>
   refine⟨0,dq _,rfl,λj f=>absurd f (dt _),(dk _ _ _ (by simp)).trans (au _ _),?_,((dj _ _).alloc (dp _) _).alloc (by simp) _⟩;have:=au (w.alloc (f9 #[e6 f8 l,e6 f8 p,e9 N O P,e9 Q R S,e9 T I U,e9 (some ⟨u,v,none⟩) d V] 27)) (f9 #[fb (a m).1,e6 f8 (a m).2.1,e6 f8 (a m).2.2] 102);simpa using this
  case round=>
   obtain⟨q,hq,rfl,x,y,z,A⟩:=hrel;have HJ:=em x;have o:=em y;have s:=em z;clear x y z;obtain⟨f0,f1,f2,f3,f4,f5⟩:=bf o.out;obtain⟨g0,g1,g2⟩:=aao s.out;by_cases qN:q<m
   ·have k0:=(A.cell (p:=⟨u,v+q*3,none⟩) L).trans (H.out.FI q (by show q<d;omega));simp only at k0;have i2:(q:Int)<d:=by omega
    go_wp2
    go_quiet (fail)
    go_wp2
    ·have g:(a q).1=(a m).1:=by
      have t:((a q).1.toList==(a m).1.toList)=true:=by assumption
      rw[sZ]at t;simpa using t
     have W:(a m).1∈(dO m).map (λj=>(a j).1):=List.mem_map.2 ⟨q,List.mem_range.2 qN,g⟩
     go_ret
     exact⟨aC (by simp[iI,iH,n.out,W]),dr A _⟩
    ·have g:(a q).1≠(a m).1:=by
      have t:((a q).1.toList==(a m).1.toList)=false:=by assumption
      rw[sZ]at t;simpa using t
     refine⟨⟨q+1,qN,by go_num,λj f=>?_,o.out,s.out,dr A _⟩,by simp[intOf];omega⟩
     rcases Nat.lt_succ_iff_lt_or_eq.1 f with h|h
     ·exact HJ.out j h
     ·rw[h];exact g
   ·obtain rfl:q=m:=by omega
    have DR:iH (a q).1 ((dO q).map λj=>(a j).1)=0:=by
     have c:(a q).1∉(dO q).map (λj=>(a j).1):=λb=>by
      obtain⟨j,X,Y⟩:=List.mem_map.1 b;exact HJ.out j (List.mem_range.1 X) Y
     simp only[iH];rw[if_pos n.out,if_neg c]
    have J:=em DR;clear DR;by_cases K:bO (a q).2.1 0 (I-1)=true
    ·have k:=em K;clear K;obtain⟨wo,rfl⟩:∃wo:World,wo=wr:=⟨_,rfl⟩
     go_wp2_with (first|(go_at_call 34;((with_reducible refine(kH k.out _).mono ?_);rintro e w'⟨rfl,rfl⟩)))
     go_loopw [7] (λi wr=>∃r:Nat,r<=q/\i=e6 f8 r/\(∀j,j<r->(a j).2.1≠(a q).2.1)/\wr.heap[w.heap.size]?=some (f9 #[e6 f8 l,e6 f8 p,e9 N O P,e9 Q R S,e9 T I U,e9 (some ⟨u,v,none⟩) d V] 27)/\wr.heap[w.heap.size+1]?=some (f9 #[fb (a q).1,e6 f8 (a q).2.1,e6 f8 (a q).2.2] 102)/\Below w.heap.size w wr) (λi _=>q-(intOf i).toNat)
     case atStart=>exact⟨0,dq _,rfl,λj f=>absurd f (dt _),o.out,s.out,A⟩
     case round=>
      obtain⟨r,hr,rfl,x,y,z,B⟩:=hrel;have HK:=em x;have o:=em y;have s:=em z;clear x y z;obtain⟨f0,f1,f2,f3,f4,f5⟩:=bf o.out;obtain⟨g0,g1,g2⟩:=aao s.out;by_cases E:r<q
      ·have k1:=(B.cell (p:=⟨u,v+r*3+1,none⟩) L).trans (H.out.HU r (by show r<d;omega));simp only at k1;have i2:(r:Int)<d:=by omega
       go_wp2
       go_quiet (fail)
       go_wp2
       ·have g:(a r).2.1=(a q).2.1:=by
         have t:((a r).2.1==(a q).2.1)=true:=by assumption
         simpa using t
        have W:(a q).2.1∈(dO q).map (λj=>(a j).2.1):=List.mem_map.2 ⟨r,List.mem_range.2 E,g⟩
        go_ret
        exact⟨aC (by simp only[iI];rw[if_pos J.out,k.out,if_pos W];rfl),dr B _⟩
       ·have g:(a r).2.1≠(a q).2.1:=by
         have t:((a r).2.1==(a q).2.1)=false:=by assumption
         simpa using t
        refine⟨⟨r+1,E,by go_num,λj f=>?_,o.out,s.out,dr B _⟩,by simp[intOf];omega⟩
        rcases Nat.lt_succ_iff_lt_or_eq.1 f with h|h
        ·exact HK.out j h
        ·rw[h];exact g
      ·obtain rfl:r=q:=by omega
       have c:(a r).2.1∉(dO r).map (λj=>(a j).2.1):=λb=>by
        obtain⟨j,X,Y⟩:=List.mem_map.1 b;exact HK.out j (List.mem_range.1 X) Y
       have F:=em c;clear c;by_cases hd:bO (a r).2.2 0 12=true
       ·have D:=em hd;clear hd
        go_wp2_with (first|(go_at_call 34;((with_reducible refine(kH D.out _).mono ?_);rintro e w'⟨rfl,rfl⟩)))
        go_ret
        exact⟨aC (by simp only[iI];rw[if_pos J.out,k.out,if_neg F.out,D.out];rfl),B⟩
       ·have D:=em (aV hd);clear hd
        go_wp2_with (first|(go_at_call 34;((with_reducible refine(vQ D.out _).mono ?_);rintro e w'⟨rfl,rfl⟩)))
        go_ret
        exact⟨aC (by simp only[iI];rw[if_pos J.out,k.out,if_neg F.out,D.out];rfl),B⟩
    ·have k:=em (aV K);clear K
     go_wp2_with (first|(go_at_call 34;((with_reducible refine(vQ k.out _).mono ?_);rintro e w'⟨rfl,rfl⟩)))
     go_ret
     exact⟨aC (by simp only[iI];rw[if_pos J.out,k.out];rfl),A⟩
 ·have n:=em (aV c);clear c
  go_enter (fx (by decide) bX),dd
  go_wp2_with (go_at_call 63;refine(Ka n.out _ M).mono ?_;rintro e w'⟨rfl,rfl⟩)
  go_ret
  exact⟨aC (by simp[iI,iH,n.out]),((dj _ _).alloc (dp _) _).alloc (by simp) _⟩
def Ey{a b low c:Int}(h:eK a b low c=true)(w:World):Calls PL 35 #[e8 #[e6 f8 a,e6 f8 b],e6 f8 low,e6 f8 c] w (aO (eW true) w):=by
 have:=kB a b low c w;rwa[h]at this
def Ez{a b low c:Int}(h:eK a b low c=false)(w:World):Calls PL 35 #[e8 #[e6 f8 a,e6 f8 b],e6 f8 low,e6 f8 c] w (aO (eW false) w):=by
 have:=kB a b low c w;rwa[h]at this
def Vi(n a b:Int)(w:World):Calls PL 34 #[e6 f8 n,e6 f8 a,e6 f8 b] w λe w'=>e=f7 (eW (bO n a b))/\w=w':=(rJ n a b w).mono λ_ _⟨a,b⟩=>⟨a,b.symm⟩
def gx{w:World}{k:Nat}{x0 x1 x2 x3 x4 a b c d e f g:Value}{t:ab}(h:w.heap[k]?=some (f9 #[x0,x1,x2,x3,x4,a,b,c,d,e,f,g] t)) :
 w.cell? ⟨k,0,none⟩=some x0/\w.cell? ⟨k,1,none⟩=some x1/\w.cell? ⟨k,2,none⟩=some x2/\w.cell? ⟨k,3,none⟩=some x3/\w.cell? ⟨k,4,none⟩=some x4/\w.cell? ⟨k,5,none⟩=some a/\w.cell? ⟨k,6,none⟩=some b/\w.cell? ⟨k,7,none⟩=some c/\w.cell? ⟨k,8,none⟩=some d/\w.cell? ⟨k,9,none⟩=some e/\w.cell? ⟨k,10,none⟩=some f/\w.cell? ⟨k,11,none⟩=some g:=by
 simp[eI,h]
def aap{w:World}{k:Nat}{x0 x1 x2 x3 x4 a b c d e f g:Value}{t:ab}(h:w.heap[k]?=some (f9 #[x0,x1,x2,x3,x4,a,b,c,d,e,f,g] t)):w.cell? ⟨k,0,none⟩=some x0:=(gx h).1
def Xq{w W:World}{x0 x1 x2 x3 x4 a c d e f g i:Value}{B:Array Value}{t u:ab}(h:W.heap[w.heap.size+1]?=some (f9 #[x0,x1,x2,x3,x4,a,c,d,e,f,g,i] t))(k:W.heap[w.heap.size]?=some (f9 B u))(b:Below w.heap.size w W) :
 W.cell? ⟨w.heap.size+1,1,none⟩=some x1/\W.cell? ⟨w.heap.size+1,3,none⟩=some x3/\W.cell? ⟨w.heap.size+1,4,none⟩=some x4/\(W.heap[w.heap.size]?=some (f9 B u)/\W.heap[w.heap.size+1]?=some (f9 #[x0,x1,x2,x3,x4,a,c,d,e,f,g,i] t)/\Below w.heap.size w W):=
 ⟨(gx h).2.1,(gx h).2.2.2.1,(gx h).2.2.2.2.1,k,h,b⟩
def aaq{w W a:World}{x0 x1 x2 x3 x4 d e f g i j l:Value}{B:Array Value}{t u:ab}(m:W.cell? ⟨w.heap.size+1,1,none⟩=some x1)(n:W.cell? ⟨w.heap.size+1,3,none⟩=some x3)(o:W.cell? ⟨w.heap.size+1,4,none⟩=some x4)(k:W.heap[w.heap.size]?=some (f9 B u))(h:W.heap[w.heap.size+1]?=some (f9 #[x0,x1,x2,x3,x4,d,e,f,g,i,j,l] t))(b:Below w.heap.size w W)(c:Below W.heap.size W a) :
 a.cell? ⟨w.heap.size+1,1,none⟩=some x1/\a.cell? ⟨w.heap.size+1,3,none⟩=some x3/\a.cell? ⟨w.heap.size+1,4,none⟩=some x4/\(a.heap[w.heap.size]?=some (f9 B u)/\a.heap[w.heap.size+1]?=some (f9 #[x0,x1,x2,x3,x4,d,e,f,g,i,j,l] t)/\Below w.heap.size w a):=
 Xq ((c.block _ (getElem?_lt' h)).trans h) ((c.block _ (getElem?_lt' k)).trans k) (Below.on b c)
def ED(C:CD)(m:Nat)(w:World)(h:C.At w)(b:m<C.n4)(J0:1<=C.p)(u:C.p<=6):Calls PL 37 #[e8 C.val,e6 f8 (m:Int)] w (aO (e6 f8 (gM C.p C.n2 C.n3 C.x4 m)) w):=by
 have H:=em h;have c0:=h.AD m b;have c1:=h.dB m b 1 (by omega) (by omega);have c2:=h.dB m b 2 (by omega) (by omega);have c3:=h.dB m b 3 (by omega) (by omega);have c4:=h.dB m b 4 (by omega) (by omega);have c5:=h.dB m b 5 (by omega) (by omega);have c6:=h.dB m b 6 (by omega) (by omega);have c7:=h.dB m b 7 (by omega) (by omega);have c8:=h.dB m b 8 (by omega) (by omega);have c9:=h.dB m b 9 (by omega) (by omega);have V:=h.dB m b 10 (by omega) (by omega);have X:=h.nj m b;have s4:=h.s4 (by omega);have h4:=h.h4;have Y:=(h.cu m b).1;have Tl:=(h.cu m b).2;have m4:=h.m4;have m2:=h.m2;have m3:=h.m3;clear h;obtain⟨l,p,J,k2,o2,v,K,x2,L,k3,o3,M,N,x3,b4,z,A,o,O,x4,P,k5,o5,Q,R,x5⟩:=C;simp only at c0 c1 c2 c3 c4 c5 c6 c7 c8 c9 V X s4 h4 Y Tl m4 m2 m3 b J0 u ⊢;subst s4;have hmi:(m:Int)<o:=by omega
 by_cases x:ku (x4 m).name=true
 ·have y:=em x;clear x
  go_enter (fx (by decide) bT),de
  go_wp2_with (go_at_call 63;refine(J9 y.out _ Y).mono ?_;rintro e w'⟨rfl,rfl⟩)
  go_loopw [6] (λi wr=>∃q:Nat,q<=m/\i=e6 f8 q/\(∀j,j<q->(x4 j).name≠(x4 m).name)/\wr.heap[w.heap.size]?=some (f9 #[e6 f8 l,e6 f8 p,e9 J v K,e9 L M N,e9 (some ⟨z,A,none⟩) o O,e9 P Q R] 27)/\wr.heap[w.heap.size+1]?=some (f9 #[fb (x4 m).name,e6 f8 ((x4 m).n 1),e6 f8 ((x4 m).n 2),e6 f8 ((x4 m).n 3),e6 f8 ((x4 m).n 4),e6 f8 ((x4 m).n 5),e6 f8 ((x4 m).n 6),e6 f8 ((x4 m).n 7),e6 f8 ((x4 m).n 8),e6 f8 ((x4 m).n 9),e6 f8 ((x4 m).n 10),e9 (x4 m).lb (x4 m).ln (x4 m).lc] 85)/\Below w.heap.size w wr) (λi _=>m-(intOf i).toNat)
  case atStart=>
   refine⟨0,dq _,rfl,λj Z=>absurd Z (dt _),(dk _ _ _ (by simp)).trans (au _ _),?_,((dj _ _).alloc (dp _) _).alloc (by simp) _⟩;have:=au (w.alloc (f9 #[e6 f8 l,e6 f8 p,e9 J v K,e9 L M N,e9 (some ⟨z,A,none⟩) o O,e9 P Q R] 27)) (f9 #[fb (x4 m).name,e6 f8 ((x4 m).n 1),e6 f8 ((x4 m).n 2),e6 f8 ((x4 m).n 3),e6 f8 ((x4 m).n 4),e6 f8 ((x4 m).n 5),e6 f8 ((x4 m).n 6),e6 f8 ((x4 m).n 7),e6 f8 ((x4 m).n 8),e6 f8 ((x4 m).n 9),e6 f8 ((x4 m).n 10),e9 (x4 m).lb (x4 m).ln (x4 m).lc] 85);simpa using this
  case round=>
   obtain⟨q,hq,rfl,vw,jM,NU,S⟩:=hrel;have HJ:=em vw;have Ce:=em jM;have B:=em NU;clear vw jM NU;obtain⟨f0,f1,f2,f3,f4,f5⟩:=bf Ce.out;have g0:=aap B.out;by_cases qN:q<m
   ·have k0:=(S.cell (p:=⟨z,A+q*12,none⟩) h4).trans (H.out.AD q (by show q<o;omega));simp only at k0;have i2:(q:Int)<o:=by omega
    go_wp2
    go_quiet (fail)
    go_wp2
    ·have he:(x4 q).name=(x4 m).name:=by
      have t:((x4 q).name.toList==(x4 m).name.toList)=true:=by assumption
      rw[sZ]at t;simpa using t
     have nt:(x4 m).name∈(dO m).map (λj=>(x4 j).name):=List.mem_map.2 ⟨q,List.mem_range.2 qN,he⟩
     go_ret
     exact⟨aC (by simp[gM,iH,y.out,nt]),dr S _⟩
    ·have he:(x4 q).name≠(x4 m).name:=by
      have t:((x4 q).name.toList==(x4 m).name.toList)=false:=by assumption
      rw[sZ]at t;simpa using t
     refine⟨⟨q+1,qN,by go_num,λj Z=>?_,Ce.out,B.out,dr S _⟩,by simp[intOf];omega⟩
     rcases Nat.lt_succ_iff_lt_or_eq.1 Z with h|h
     ·exact HJ.out j h
     ·rw[h];exact he
   ·obtain rfl:q=m:=by omega
    have DR:iH (x4 q).name ((dO q).map λj=>(x4 j).name)=0:=by
     have x:(x4 q).name∉(dO q).map (λj=>(x4 j).name):=λb=>by
      obtain⟨j,h1,h2⟩:=List.mem_map.1 b;exact HJ.out j (List.mem_range.1 h1) h2
     simp only[iH];rw[if_pos y.out,if_neg x]
    have Xp:=em DR;clear DR;obtain⟨T,rfl⟩:∃T:World,T=wr:=⟨_,rfl⟩
    have c:=S;have g:=Ce;have k:=B;have d:w.heap.size+1<T.heap.size:=getElem?_lt' B.out;have f:w.heap.size<T.heap.size:=by omega
    obtain⟨a0,a1,a2,a3,a4,a5,a6,a7,a8,a9,zm,zM⟩:=gx B.out;have LB:=em (λhl=>(H.out.l4 q b hl).1);have FH:0<(x4 q).ln->(x4 q).lk<w.heap.size:=λhl=>(H.out.l4 q b hl).2;by_cases D:eK ((x4 q).n 3) ((x4 q).n 4) (-90) 90=true
    ·have E:=em D;have Q8 : -90<=(x4 q).n 3/\(x4 q).n 3<=90:=by
      simp only[eK,eP,decide_eq_true_eq]at D;omega
     obtain⟨Q8,hr4⟩:=Q8;clear D
     go_wp2_with (first|(go_at_call 35;((with_reducible refine(Ey E.out _).mono ?_);rintro e w1⟨rfl,a⟩;obtain⟨F,I⟩:=cW a;have c:=Below.on c a;have g:=em ((a.block _ f).trans g.out);have k:=em ((a.block _ d).trans k.out);have d:=dy d a.size;have f:=dy f a.size))|(go_at_call 35;refine(kB _ _ _ _ _).mono ?_;rintro e w1⟨rfl,a⟩;obtain⟨F,I⟩:=cW a;have c:=Below.on c a;have g:=em ((a.block _ f).trans g.out);have k:=em ((a.block _ d).trans k.out);have d:=dy d a.size;have f:=dy f a.size))
     ·have hS:=Xq (W:=w1.drew) k.out g.out c.drew;clear F I
      go_region_held3 (λW=>W.cell? ⟨w.heap.size+1,1,none⟩=some (e6 f8 ((x4 q).n 1))/\W.cell? ⟨w.heap.size+1,3,none⟩=some (e6 f8 ((x4 q).n 3))/\W.cell? ⟨w.heap.size+1,4,none⟩=some (e6 f8 ((x4 q).n 4))/\(W.heap[w.heap.size]?=some (f9 #[e6 f8 l,e6 f8 p,e9 J v K,e9 L M N,e9 (some ⟨z,A,none⟩) o O,e9 P Q R] 27)/\W.heap[w.heap.size+1]?=some (f9 #[fb (x4 q).name,e6 f8 ((x4 q).n 1),e6 f8 ((x4 q).n 2),e6 f8 ((x4 q).n 3),e6 f8 ((x4 q).n 4),e6 f8 ((x4 q).n 5),e6 f8 ((x4 q).n 6),e6 f8 ((x4 q).n 7),e6 f8 ((x4 q).n 8),e6 f8 ((x4 q).n 9),e6 f8 ((x4 q).n 10),e9 (x4 q).lb (x4 q).ln (x4 q).lc] 85)/\Below w.heap.size w W)) (first|exact hS|(go_split_ands;refine aaq ‹_› ‹_› ‹_› ‹_› ‹_› ‹_› qA)|go_keep) ((go_at_call 64;refine(AI _ _ _ Q8 hr4).mono ?_;rintro e w2⟨rfl,qA⟩))
      have hS2:w2.cell? ⟨w.heap.size+1,1,none⟩=some (e6 f8 ((x4 q).n 1))/\w2.cell? ⟨w.heap.size+1,3,none⟩=some (e6 f8 ((x4 q).n 3))/\w2.cell? ⟨w.heap.size+1,4,none⟩=some (e6 f8 ((x4 q).n 4))/\(w2.heap[w.heap.size]?=some (f9 #[e6 f8 l,e6 f8 p,e9 J v K,e9 L M N,e9 (some ⟨z,A,none⟩) o O,e9 P Q R] 27)/\w2.heap[w.heap.size+1]?=some (f9 #[fb (x4 q).name,e6 f8 ((x4 q).n 1),e6 f8 ((x4 q).n 2),e6 f8 ((x4 q).n 3),e6 f8 ((x4 q).n 4),e6 f8 ((x4 q).n 5),e6 f8 ((x4 q).n 6),e6 f8 ((x4 q).n 7),e6 f8 ((x4 q).n 8),e6 f8 ((x4 q).n 9),e6 f8 ((x4 q).n 10),e9 (x4 q).lb (x4 q).ln (x4 q).lc] 85)/\Below w.heap.size w w2):=by assumption
      obtain⟨_,_,_,NV,u,c⟩:=hS2;have g:=em NV;have k:=em u;have d:w.heap.size+1<w2.heap.size:=getElem?_lt' u;have f:w.heap.size<w2.heap.size:=by omega
      obtain⟨a0,a1,a2,a3,a4,a5,a6,a7,a8,a9,zm,zM⟩:=gx u;obtain⟨f0,f1,f2,f3,f4,f5⟩:=bf NV;clear NV u
      go_wp2_with (first|(go_at_call 34;refine(Vi _ _ _ _).mono ?_;rintro e w'⟨rfl,rfl⟩)|(go_at_call 35;refine(kB _ _ _ _ _).mono ?_;rintro e w1⟨rfl,a⟩;obtain⟨F,I⟩:=cW a;have c:=Below.on c a;have g:=em ((a.block _ f).trans g.out);have k:=em ((a.block _ d).trans k.out);have d:=dy d a.size;have f:=dy f a.size)|(go_at_call 65;refine(Vh _ (x4 q).lk (x4 q).lo _ _ _ (x4 q).lane _ Tl m3 (λhl=>dy (FH hl) c.size) LB.out (λi hi=>(c.cell (p:=⟨(x4 q).lk,(x4 q).lo+i,none⟩) (FH (by omega))).trans (H.out.J5 q b i hi))).mono ?_;rintro e w1⟨rfl,a⟩;have c:=Below.on c a))
      all_goals (
       go_ret
       have P1:eK ((x4 q).n 1) ((x4 q).n 2) 1 90=true:=by assumption
       refine⟨aC ?_,c⟩;simp only[gM];rw[if_pos Xp.out,P1,E.out]
       first
        |(have t:(x4 q).n 1<max ((x4 q).n 4) (-(x4 q).n 3):=by assumption
          rw[if_pos (by rfl),if_pos (by omega)];done)
        |(have t:max ((x4 q).n 4) (-(x4 q).n 3)<=(x4 q).n 1:=by assumption
          rw[if_pos (by rfl),if_neg (by omega)]
          first
           |(have t1:¬bO ((x4 q).n 5) 0 (↑v-1)=true:=by assumption
             rw[aV t1];rfl)
           |(have t1:bO ((x4 q).n 5) 0 (↑v-1)=true:=by assumption
             first
              |(have t2:(!bO ((x4 q).n 6) 0 (p-1))=true:=by assumption
                have r:bO ((x4 q).n 6) 0 (p-1)=false:=by simpa using t2
                rw[t1,r];rfl)
              |(have t2:(!bO ((x4 q).n 6) 0 (p-1))=false:=by assumption
                have r:bO ((x4 q).n 6) 0 (p-1)=true:=by simpa using t2
                rw[t1,r,if_pos (by rfl)]
                first
                 |(have U:¬eK ((x4 q).n 7) ((x4 q).n 8) 1 60=true:=by assumption
                   rw[aV U];rfl)
                 |(have U:eK ((x4 q).n 7) ((x4 q).n 8) 1 60=true:=by assumption
                   first
                    |(have t4:(!eK ((x4 q).n 9) ((x4 q).n 10) 0 60)=true:=by assumption
                      have s:eK ((x4 q).n 9) ((x4 q).n 10) 0 60=false:=by simpa using t4
                      rw[U,s];rfl)
                    |(have t4:(!eK ((x4 q).n 9) ((x4 q).n 10) 0 60)=false:=by assumption
                      have s:eK ((x4 q).n 9) ((x4 q).n 10) 0 60=true:=by simpa using t4
                      rw[U,s,if_pos (by rfl)])))))
       done)
     ·go_ret
      have t:¬eK ((x4 q).n 1) ((x4 q).n 2) 1 90=true:=by assumption
      exact⟨aC (by simp only[gM];rw[if_pos Xp.out,aV t];simp),c⟩
    ·have E:=em (aV D);clear D
     go_wp2_with (first|(go_at_call 35;((with_reducible refine(Ez E.out _).mono ?_);rintro e w1⟨rfl,a⟩;obtain⟨F,I⟩:=cW a;have c:=Below.on c a;have g:=em ((a.block _ f).trans g.out);have k:=em ((a.block _ d).trans k.out);have d:=dy d a.size;have f:=dy f a.size))|(go_at_call 35;refine(kB _ _ _ _ _).mono ?_;rintro e w1⟨rfl,a⟩;obtain⟨F,I⟩:=cW a;have c:=Below.on c a;have g:=em ((a.block _ f).trans g.out);have k:=em ((a.block _ d).trans k.out);have d:=dy d a.size;have f:=dy f a.size))
     all_goals (
      go_ret
      exact⟨aC (by simp only[gM];rw[if_pos Xp.out,E.out];simp),c⟩)
 ·have y:=em (aV x);clear x
  go_enter (fx (by decide) bT),de
  go_wp2_with (go_at_call 63;refine(Ka y.out _ Y).mono ?_;rintro e w'⟨rfl,rfl⟩)
  go_ret
  exact⟨aC (by simp[gM,iH,y.out]),((dj _ _).alloc (dp _) _).alloc (by simp) _⟩
def EE(C:CD)(w:World)(h:C.At w)(a:C.dP 0=0):Calls PL 36 #[e8 C.val] w (aO (e6 f8 (C.dP 2)) w):=
 Ic _ _ _ _ _ _ _ _ _ _ _ _ h.m3 (cK a).1 (cK a).2 h.h3 h.s3 h.Es h.Et h.Eu
def EF(C:CD)(w:World)(h:C.At w)(a:C.dP 0=0)(b:C.dP 2=0):Calls PL 36 #[e8 C.val] w (aO (e6 f8 0) w):=by
 have:=EE C w h a;rwa[b]at this
def aar(C:CD)(m:Nat)(w:World)(h:C.At w)(a:m<C.n4)(b:1<=C.p)(c:C.p<=6)(d:gM C.p C.n2 C.n3 C.x4 m=0):Calls PL 37 #[e8 C.val,e6 f8 (m:Int)] w (aO (e6 f8 0) w):=by
 have:=ED C m w h a b c;rwa[d]at this
def Rh(C:CD)(m:Nat)(w:World)(h:C.At w)(a:m<C.n5)(b:iI C.n4 C.x5 m=0):Calls PL 38 #[e8 C.val,e6 f8 (m:Int)] w (aO (e6 f8 0) w):=by
 have:=yx C m w h a;rwa[b]at this
def rK(C:CD)(w:World)(h:C.At w):Calls PL 7 #[e8 C.val] w (aO (e6 f8 C.cx) w):=by
 have H:=em h;have m2:=h.m2;have m4:=h.m4;have m5:=h.m5;have S:=h.h2;have S2:=em h.s2;clear h;by_cases hl:bO C.l 1 999=true
 case neg=>
  have L:=em (aV hl);clear hl
  go_enter (fx (by decide) bp),df
  go_wp2_with (first|(go_at_call 34;((with_reducible refine(vQ L.out _).mono ?_);rintro e w'⟨rfl,rfl⟩)))
  go_ret
  have v:C.dP 0=1:=by simp[CD.dP,jd,L.out]
  exact⟨aC ((cR (m:=0) (λj b=>absurd b (dt _)) (by omega) (by rw[v];decide)).trans v),(dj _ _).alloc (dp _) _⟩
 case pos=>
 have L:=em hl;clear hl;by_cases J:bO C.p 1 6=true
 case neg=>
  have P:=em (aV J);clear J
  go_enter (fx (by decide) bp),df
  go_wp2_with (first|(go_at_call 34;((with_reducible refine(kH L.out _).mono ?_);rintro e w'⟨rfl,rfl⟩))|(go_at_call 34;((with_reducible refine(vQ P.out _).mono ?_);rintro e w'⟨rfl,rfl⟩)))
  go_ret
  have v:C.dP 0=1:=by simp[CD.dP,jd,L.out,P.out]
  exact⟨aC ((cR (m:=0) (λj b=>absurd b (dt _)) (by omega) (by rw[v];decide)).trans v),(dj _ _).alloc (dp _) _⟩
 case pos=>
 have P:=em J;clear J;have z0:C.dP 0=0:=by simp[CD.dP,jd,L.out,P.out]
 have n:=em z0;clear z0;by_cases B:bO C.n2 1 3=true
 case neg=>
  have y:=em (aV B);clear B
  go_enter (fx (by decide) bp),df
  go_wp2_with (first|(go_at_call 34;((with_reducible refine(kH L.out _).mono ?_);rintro e w'⟨rfl,rfl⟩))|(go_at_call 34;((with_reducible refine(kH P.out _).mono ?_);rintro e w'⟨rfl,rfl⟩))|(go_at_call 34;((with_reducible refine(vQ y.out _).mono ?_);rintro e w'⟨rfl,rfl⟩)))
  go_ret
  have v:C.dP 1=2:=by simp[CD.dP,pq,y.out]
  exact⟨aC ((cR (m:=1) (λj b=>by(obtain rfl:j=0:=by omega);exact n.out) (by omega) (by rw[v];decide)).trans v),(dj _ _).alloc (dp _) _⟩
 case pos=>
 have y:=em B;have vI:0<C.n2:=by simp[bO]at B;omega
 clear B
 go_enter (fx (by decide) bp),df
 go_wp2_with (first|(go_at_call 34;((with_reducible refine(kH L.out _).mono ?_);rintro e w'⟨rfl,rfl⟩))|(go_at_call 34;((with_reducible refine(kH P.out _).mono ?_);rintro e w'⟨rfl,rfl⟩))|(go_at_call 34;((with_reducible refine(kH y.out _).mono ?_);rintro e w'⟨rfl,rfl⟩)))
 have K:=S2.out vI;rw[K];have Kf:=em K;clear K
 go_loopw [3] (λi wr=>∃q:Nat,q<=C.n2/\i=e6 f8 q/\(∀j,j<q->eK (C.x2 j).1 (C.x2 j).2 0 90=true)/\wr.heap[w.heap.size]?=some (f9 C.val 27)/\Below w.heap.size w wr) (λi _=>C.n2-(intOf i).toNat)
 case atStart=>exact⟨0,dq _,rfl,λj b=>absurd b (dt _),au _ _,(dj _ _).alloc (dp _) _⟩
 case round=>
  obtain⟨q,T,rfl,x,o,c⟩:=hrel;have U:=em x;have d:=em o;have f:w.heap.size<wr.heap.size:=getElem?_lt' o;clear x o;obtain⟨V,W,M,X,f4,Y⟩:=bf d.out;by_cases g:q<C.n2
  ·have k0:=(c.cell (p:=⟨C.k2,C.o2+q*2,none⟩) S).trans (H.out.Ep q g);have k1:=(c.cell (p:=⟨C.k2,C.o2+q*2+1,none⟩) S).trans (H.out.Er q g);have i2:(q:Int)<C.n2:=by omega
   rw[Kf.out]at M;by_cases hi:eK (C.x2 q).1 (C.x2 q).2 0 90=true
   ·have D:=em hi;clear hi
    go_wp2_with (go_at_call 35;refine(Ey D.out _).mono ?_;rintro e w1⟨rfl,a⟩)
    refine⟨⟨q+1,g,by go_num,λj b=>?_,(a.block _ f).trans d.out,Below.on c a⟩,by simp[intOf];omega⟩
    rcases Nat.lt_succ_iff_lt_or_eq.1 b with h|h
    ·exact U.out j h
    ·rw[h];exact D.out
   ·have D:=em (aV hi);clear hi
    go_wp2_with (go_at_call 35;refine(Ez D.out _).mono ?_;rintro e w1⟨rfl,a⟩)
    go_ret
    have e1:C.dP 1=1:=by
     have:((dO C.n2).all λi=>eK (C.x2 i).1 (C.x2 i).2 0 90)=false:=by
      rw[dQ];exact⟨q,List.mem_range.2 g,by simp[D.out]⟩
     simp[CD.dP,pq,y.out,this]
    exact⟨aC ((cR (m:=1) (λj b=>by(obtain rfl:j=0:=by omega);exact n.out) (by omega) (by rw[e1];decide)).trans e1),Below.on c a⟩
  ·obtain rfl:q=C.n2:=by omega
   have z1:C.dP 1=0:=by
    have:((dO C.n2).all λi=>eK (C.x2 i).1 (C.x2 i).2 0 90)=true:=by
     rw[dS];intro j b;exact U.out j (List.mem_range.1 b)
    simp[CD.dP,pq,y.out,this]
   have z:=em z1;clear z1;have k:=c;by_cases E:C.dP 2=0
   case neg=>
    have t:=em E;have arE:(C.dP 2 != 0)=true:=by simpa using E
    clear E
    go_wp2_with (go_at_call 36;refine(EE C _ (H.out.below k) n.out).mono ?_;rintro e w1⟨rfl,a⟩;obtain⟨Z,lR⟩:=cW a;have k:=Below.on k a;have d:=em ((a.block _ f).trans d.out);have f:=dy f a.size)
    go_ret
    exact⟨aC (cR (m:=2) (λj b=>by
     obtain rfl|rfl:j=0\/j=1:=by omega
     ·exact n.out
     ·exact z.out) (by omega) t.out),k⟩
   case pos=>
   have t:=em E;clear E;by_cases u:bO C.n4 2 5=true
   case neg=>
    have A:=em (aV u);clear u
    go_wp2_with (first|(go_at_call 36;refine(EF C _ (H.out.below k) n.out t.out).mono ?_;rintro e w1⟨rfl,a⟩;obtain⟨Z,lR⟩:=cW a;have k:=Below.on k a;have d:=em ((a.block _ f).trans d.out);have f:=dy f a.size)|(go_at_call 34;((with_reducible refine(vQ A.out _).mono ?_);rintro e w'⟨rfl,rfl⟩)))
    go_ret
    have F:C.dP 3=2:=by simp[CD.dP,kA,A.out]
    exact⟨aC ((cR (m:=3) (λj b=>by
     obtain rfl|rfl|rfl:j=0\/j=1\/j=2:=by omega
     ·exact n.out
     ·exact z.out
     ·exact t.out) (by omega) (by rw[F];decide)).trans F),k⟩
   case pos=>
   have A:=em u;clear u
   go_wp2_with (first|(go_at_call 36;refine(EF C _ (H.out.below k) n.out t.out).mono ?_;rintro e w1⟨rfl,a⟩;obtain⟨Z,lR⟩:=cW a;have k:=Below.on k a;have d:=em ((a.block _ f).trans d.out);have f:=dy f a.size)|(go_at_call 34;((with_reducible refine(kH A.out _).mono ?_);rintro e w'⟨rfl,rfl⟩)))
   have Xi:=cK (l:=C.l) n.out;obtain⟨J0,tL⟩:=Xi;have HX1:=d;have arF:=k;obtain⟨wo,rfl⟩:∃wo:World,wo=w1:=⟨_,rfl⟩
   go_loopw [5] (λi wr=>∃q:Nat,q<=C.n4/\i=e6 f8 q/\(∀j,j<q->gM C.p C.n2 C.n3 C.x4 j=0)/\wr.heap[w.heap.size]?=some (f9 C.val 27)/\Below w.heap.size w wr) (λi _=>C.n4-(intOf i).toNat)
   case atStart=>exact⟨0,dq _,rfl,λj b=>absurd b (dt _),d.out,k⟩
   case round=>
    obtain⟨q,T,rfl,x,o,c⟩:=hrel;have N:=em x;have d:=em o;have f:w.heap.size<wr.heap.size:=getElem?_lt' o;clear x o;obtain⟨V,W,M,X,f4,Y⟩:=bf d.out;by_cases g:q<C.n4
    ·by_cases r:gM C.p C.n2 C.n3 C.x4 q=0
     ·have s:=em r;clear r
      go_wp2_with (go_at_call 37;refine(aar C q _ (H.out.below c) g J0 tL s.out).mono ?_;rintro e w1⟨rfl,a⟩)
      refine⟨⟨q+1,g,by go_num,λj b=>?_,(a.block _ f).trans d.out,Below.on c a⟩,by simp[intOf];omega⟩
      rcases Nat.lt_succ_iff_lt_or_eq.1 b with h|h
      ·exact N.out j h
      ·rw[h];exact s.out
     ·have s:=em r;have Yt:(gM C.p C.n2 C.n3 C.x4 q != 0)=true:=by simpa using r
      clear r
      go_wp2_with (go_at_call 37;refine(ED C q _ (H.out.below c) g J0 tL).mono ?_;rintro e w1⟨rfl,a⟩)
      go_ret
      have F:C.dP 3=gM C.p C.n2 C.n3 C.x4 q:=dI A.out N.out g rfl s.out
      exact⟨aC ((cR (m:=3) (λj b=>by
      obtain rfl|rfl|rfl:j=0\/j=1\/j=2:=by omega
      ·exact n.out
      ·exact z.out
      ·exact t.out) (by omega) (by rw[F];exact s.out)).trans F),Below.on c a⟩
    ·obtain rfl:q=C.n4:=by omega
     have z3:C.dP 3=0:=by
      show kA _ _ _ _ _=0;rw[kA,if_pos A.out];exact cz N.out
     have O:=em z3;clear z3;by_cases Q:3<C.n5
     ·go_wp2
      go_ret
      have I:C.dP 4=2:=by simp[CD.dP,pE,Q]
      exact⟨aC ((cR (m:=4) (λj b=>by
      obtain rfl|rfl|rfl|rfl:j=0\/j=1\/j=2\/j=3:=by omega
      ·exact n.out
      ·exact z.out
      ·exact t.out
      ·exact O.out) (by omega) (by rw[I];decide)).trans I),c⟩
     ·obtain⟨wp,rfl⟩:∃wp:World,wp=wr:=⟨_,rfl⟩
      go_wp2
      go_loopw [7] (λi wr=>∃q:Nat,q<=C.n5/\i=e6 f8 q/\(∀j,j<q->iI C.n4 C.x5 j=0)/\wr.heap[w.heap.size]?=some (f9 C.val 27)/\Below w.heap.size w wr) (λi _=>C.n5-(intOf i).toNat)
      case atStart=>exact⟨0,dq _,rfl,λj b=>absurd b (dt _),d.out,c⟩
      case round=>
       obtain⟨q,T,rfl,x,o,c⟩:=hrel;have R:=em x;have d:=em o;have f:w.heap.size<wr.heap.size:=getElem?_lt' o;clear x o;obtain⟨V,W,M,X,f4,Y⟩:=bf d.out;by_cases g:q<C.n5
       ·by_cases r:iI C.n4 C.x5 q=0
        ·have s:=em r;clear r
         go_wp2_with (go_at_call 38;refine(Rh C q _ (H.out.below c) g s.out).mono ?_;rintro e w1⟨rfl,a⟩)
         refine⟨⟨q+1,g,by go_num,λj b=>?_,(a.block _ f).trans d.out,Below.on c a⟩,by simp[intOf];omega⟩
         rcases Nat.lt_succ_iff_lt_or_eq.1 b with h|h
         ·exact R.out j h
         ·rw[h];exact s.out
        ·have s:=em r;have Yt:(iI C.n4 C.x5 q != 0)=true:=by simpa using r
         clear r
         go_wp2_with (go_at_call 38;refine(yx C q _ (H.out.below c) g).mono ?_;rintro e w1⟨rfl,a⟩)
         go_ret
         have I:C.dP 4=iI C.n4 C.x5 q:=ic Q R.out g rfl s.out
         exact⟨aC ((cR (m:=4) (λj b=>by
      obtain rfl|rfl|rfl|rfl:j=0\/j=1\/j=2\/j=3:=by omega
      ·exact n.out
      ·exact z.out
      ·exact t.out
      ·exact O.out) (by omega) (by rw[I];exact s.out)).trans I),Below.on c a⟩
       ·obtain rfl:q=C.n5:=by omega
        go_wp2
        go_ret
        have z4:C.dP 4=0:=by
         show pE _ _ _=0;rw[pE,if_neg Q];exact cz R.out
        refine⟨aC (cz λj b=>?_),c⟩;obtain rfl|rfl|rfl|rfl|rfl:j=0\/j=1\/j=2\/j=3\/j=4:=by omega
        ·exact n.out
        ·exact z.out
        ·exact t.out
        ·exact O.out
        ·exact z4
def EH{C:CD}{w:World}(k:C.At w)(h:C.cx=0):Calls PL 7 #[e8 C.val] w (aO (e6 f8 0) w):=by
 have:=rK C w k;rwa[h]at this
structure CD.Mem(C:CD)(w:World):Prop where
 h2:C.k2<w.heap.size
 h3:C.k3<w.heap.size
 h4:C.k4<w.heap.size
 h5:C.k5<w.heap.size
 s2:0<C.n2->C.b2=some ⟨C.k2,C.o2,none⟩
 s3:0<C.n3->C.b3=some ⟨C.k3,C.o3,none⟩
 s4:0<C.n4->C.b4=some ⟨C.k4,C.o4,none⟩
 s5:0<C.n5->C.b5=some ⟨C.k5,C.o5,none⟩
 Ep:∀i,i<C.n2->w.cell? ⟨C.k2,C.o2+i*2,none⟩=some (e6 f8 (C.x2 i).1)
 Er:∀i,i<C.n2->w.cell? ⟨C.k2,C.o2+i*2+1,none⟩=some (e6 f8 (C.x2 i).2)
 Es:∀i,i<C.n3->w.cell? ⟨C.k3,C.o3+i*3,none⟩=some (e6 f8 (C.x3 i).1)
 Et:∀i,i<C.n3->w.cell? ⟨C.k3,C.o3+i*3+1,none⟩=some (e6 f8 (C.x3 i).2.1)
 Eu:∀i,i<C.n3->w.cell? ⟨C.k3,C.o3+i*3+2,none⟩=some (e6 f8 (C.x3 i).2.2)
 AD:∀i,i<C.n4->w.cell? ⟨C.k4,C.o4+i*12,none⟩=some (fb (C.x4 i).name)
 dB:∀i,i<C.n4->∀j,1<=j->j<=10->w.cell? ⟨C.k4,C.o4+i*12+j,none⟩=some (e6 f8 ((C.x4 i).n j))
 nj:∀i,i<C.n4->w.cell? ⟨C.k4,C.o4+i*12+11,none⟩=some (e9 (C.x4 i).lb (C.x4 i).ln (C.x4 i).lc)
 l4:∀i,i<C.n4->0<(C.x4 i).ln->(C.x4 i).lb=some ⟨(C.x4 i).lk,(C.x4 i).lo,none⟩/\(C.x4 i).lk<w.heap.size
 J5:∀i,i<C.n4->∀j,j<(C.x4 i).ln->w.cell? ⟨(C.x4 i).lk,(C.x4 i).lo+j,none⟩=some (e6 f8 ((C.x4 i).lane j))
 FI:∀i,i<C.n5->w.cell? ⟨C.k5,C.o5+i*3,none⟩=some (fb (C.x5 i).1)
 HU:∀i,i<C.n5->w.cell? ⟨C.k5,C.o5+i*3+1,none⟩=some (e6 f8 (C.x5 i).2.1)
 J6:∀i,i<C.n5->w.cell? ⟨C.k5,C.o5+i*3+2,none⟩=some (e6 f8 (C.x5 i).2.2)
def CD.small(C:CD):Bool:=decide (C.n2<=20)&&decide (C.n3<=20)&&decide (C.n4<=20)&&decide (C.n5<=20)&&((dO C.n4).all λi=>decide ((C.x4 i).name.size<=100)&&decide ((C.x4 i).ln<=20))&&((dO C.n5).all λi=>decide ((C.x5 i).1.size<=100))
def CD.At.Ri{C:CD}{w:World}(h:C.Mem w)(hs:C.small=true):C.At w:=by
 simp only[CD.small,eP,decide_eq_true_eq,dS,d9]at hs;obtain⟨⟨⟨⟨⟨m2,m3⟩,m4⟩,m5⟩,n4⟩,n5⟩:=hs;obtain⟨h2,h3,h4,h5,s2,s3,s4,s5,Ep,Er,Es,Et,Eu,AD,dB,nj,l4,J5,FI,HU,J6⟩:=h;exact⟨m2,m3,m4,m5,h2,h3,h4,h5,s2,s3,s4,s5,Ep,Er,Es,Et,Eu,n4,AD,dB,nj,l4,J5,n5,FI,HU,J6⟩
def AK(C:CD)(w:World)(h:C.Mem w):Calls PL 15 #[e8 C.val] w (aO (eW (!C.small)) w):=by
 have H:=em h;have r:=h.h4;have x:=h.h5;clear h;by_cases hc:C.n2<=20/\C.n3<=20/\C.n4<=20/\C.n5<=20
 case neg=>
  have a:C.small=false:=by
   cases c:C.small with
   |false=>rfl
   |true=>
    simp only[CD.small,eP,decide_eq_true_eq]at c;omega
  have SM:=em a;clear a
  go_enter (fx (by decide) bi),di
  go_wp2
  any_goals (
   go_ret
   exact⟨by rw[SM.out];rfl,(dj _ _).alloc (dp _) _⟩)
 case pos=>
 obtain⟨m2,m3,m4,m5⟩:=hc
 go_enter (fx (by decide) bi),di
 go_wp2
 have y:=em H.out.s4;have z:=em H.out.s5
 go_loopw [3] (λi wr=>∃q:Nat,q<=C.n4/\i=e6 f8 q/\(∀j,j<q->(C.x4 j).name.size<=100/\(C.x4 j).ln<=20)/\wr.heap[w.heap.size]?=some (f9 C.val 27)/\Below w.heap.size w wr) (λi _=>C.n4-(intOf i).toNat)
 case atStart=>exact⟨0,dq _,rfl,λj e=>absurd e (dt _),au _ _,(dj _ _).alloc (dp _) _⟩
 case round=>
  obtain⟨q,c,rfl,k,l,b⟩:=hrel;have s:=em k;have f:=em l;clear k l;obtain⟨A,B,D,E,f4,t⟩:=bf f.out;by_cases d:q<C.n4
  ·rw[y.out (by omega)]at f4;have k0:=(b.cell (p:=⟨C.k4,C.o4+q*12,none⟩) r).trans (H.out.AD q d);have k1:=(b.cell (p:=⟨C.k4,C.o4+q*12+11,none⟩) r).trans (H.out.nj q d);have F:(q:Int)<C.n4:=by omega
   by_cases g:(C.x4 q).name.size<=100/\(C.x4 q).ln<=20
   ·obtain⟨m,n⟩:=g
    go_wp2
    refine⟨⟨q+1,d,by go_num,λj e=>?_,f.out,b⟩,by simp[intOf];omega⟩
    rcases Nat.lt_succ_iff_lt_or_eq.1 e with h|h
    ·exact s.out j h
    ·rw[h];exact⟨m,n⟩
   ·have a:C.small=false:=by
     cases c:C.small with
     |false=>rfl
     |true=>
      simp only[CD.small,eP,decide_eq_true_eq,dS,d9]at c;exact absurd (c.1.2 q d) g
    have SM:=em a;have o:100<(C.x4 q).name.size\/20<(C.x4 q).ln:=by omega
    clear a g;by_cases m:(C.x4 q).name.size<=100
    ·have n:20<(C.x4 q).ln:=by omega
     clear o
     go_wp2
     go_ret
     exact⟨by rw[SM.out];rfl,b⟩
    ·clear o
     go_wp2
     go_ret
     exact⟨by rw[SM.out];rfl,b⟩
  ·obtain rfl:q=C.n4:=by omega
   obtain⟨u,rfl⟩:∃u:World,u=wr:=⟨_,rfl⟩
   go_wp2
   go_loopw [4] (λi wr=>∃q:Nat,q<=C.n5/\i=e6 f8 q/\(∀j,j<q->(C.x5 j).1.size<=100)/\wr.heap[w.heap.size]?=some (f9 C.val 27)/\Below w.heap.size w wr) (λi _=>C.n5-(intOf i).toNat)
   case atStart=>exact⟨0,dq _,rfl,λj e=>absurd e (dt _),f.out,b⟩
   case round=>
    obtain⟨q,c,rfl,k,l,b⟩:=hrel;have v:=em k;have f:=em l;clear k l;obtain⟨A,B,D,E,f4,t⟩:=bf f.out;by_cases d:q<C.n5
    ·rw[z.out (by omega)]at t;have k0:=(b.cell (p:=⟨C.k5,C.o5+q*3,none⟩) x).trans (H.out.FI q d);have F:(q:Int)<C.n5:=by omega
     by_cases g:(C.x5 q).1.size<=100
     ·go_wp2
      refine⟨⟨q+1,d,by go_num,λj e=>?_,f.out,b⟩,by simp[intOf];omega⟩
      rcases Nat.lt_succ_iff_lt_or_eq.1 e with h|h
      ·exact v.out j h
      ·rw[h];exact g
     ·have a:C.small=false:=by
       cases c:C.small with
       |false=>rfl
       |true=>
        simp only[CD.small,eP,decide_eq_true_eq,dS,d9]at c;exact absurd (c.2 q d) g
      have SM:=em a;clear a
      go_wp2
      go_ret
      exact⟨by rw[SM.out];rfl,b⟩
    ·obtain rfl:q=C.n5:=by omega
     have a:C.small=true:=by
      simp only[CD.small,eP,decide_eq_true_eq,dS,d9];exact⟨⟨⟨⟨⟨m2,m3⟩,m4⟩,m5⟩,s.out⟩,v.out⟩
     have SM:=em a;clear a
     go_wp2
     go_ret
     exact⟨by rw[SM.out];rfl,b⟩
end Go.Proofs
namespace Go
section
variable {P:aa}{ops:Array Oper}
def Region.fZ(ops:Array Oper)(i:Nat):Option Tmp:=(ops[i]?).bind (·.dst)
def cS(ops:Array Oper)(vs:Nat->Value):List Nat->Act->Act
 |[],a=>a
 |i::l,a=>cS ops vs l (a.put (Region.fZ ops i) (vs i))
def EK(a:Act)(d:Option Tmp)(v:Value):(a.put d v).tmps.size=a.tmps.size:=by
 cases d<;>simp[Act.put]
def put_defers(a:Act)(d:Option Tmp)(v:Value):(a.put d v).defers=a.defers:=by
 cases d<;>rfl
def Cg(a:Act)(d:Option Tmp)(v:Value)(t:Nat):(a.put d v).tmps[t]?=if d=some t/\t<a.tmps.size then some v else a.tmps[t]?:=by
 cases d with
 |none=>simp[Act.put]
 |some d=>
  simp only[Act.put,Array.getElem?_setIfInBounds,Option.some.injEq]
  grind
def uF(vs:Nat->Value):∀(l:List Nat)(a:Act),(cS ops vs l a).tmps.size=a.tmps.size
 |[],_=>rfl
 |i::l,a=>by rw[cS,uF vs l,EK]
def pG(vs:Nat->Value):∀(l:List Nat)(a:Act),(cS ops vs l a).defers=a.defers
 |[],_=>rfl
 |i::l,a=>by rw[cS,pG vs l,put_defers]
def gI(vs:Nat->Value)(t:Nat):∀(l:List Nat)(a:Act),(∀j∈l,Region.fZ ops j≠some t)->(cS ops vs l a).tmps[t]?=a.tmps[t]?
 |[],_,_=>rfl
 |i::l,a,h=>by rw[cS,gI vs t l _ λj b=>h j (ea _ b),Cg,if_neg λe=>h i (eb ..) e.1]
def gJ(vs:Nat->Value)(t j:Nat)(hd:∀k,Region.fZ ops k=some t->k=j)(b:Region.fZ ops j=some t):∀(l:List Nat)(a:Act),j∈l->(cS ops vs l a).tmps[t]?=if t<a.tmps.size then some (vs j) else none
 |i::l,a,h=>by
  rw[cS];by_cases hl:j∈l
  ·rw[gJ vs t j hd b l _ hl,EK]
  ·obtain rfl:i=j:=by grind
   rw[gI vs t l _ λk c e=>hl (hd k e▸c),Cg,b]
   grind
def Oper.dz(o:Oper):Array Edge:=o.after.filter (fA .any)
theorem cH{o:Oper}{e:Edge}:e∈o.dz↔e∈o.after/\fA .any e=true:=by simp[Oper.dz]
def qf(P:aa)(K:Value->World->Prop):Result Next->Prop
 |eN (fY v) w=>K v w
 |eN f6 w=>K undef w
 |eN (fV f args) w=>Calls P f args w λe w'=>∃v,e=f7 v/\K v w'
 |_=>False
@[go_sem] def Tm(K:Value->World->Prop)(v:Value)(w:World):qf P K (eN (fY v) w)=K v w:=rfl
@[go_sem] def Vt(K:Value->World->Prop)(w:World):qf P K (eN f6 w)=K undef w:=rfl
@[go_sem] def Tn(K:Value->World->Prop)(f:ai)(args:Array Value)(w:World):qf P K (eN (fV f args) w)=Calls P f args w λe w'=>∃v,e=f7 v/\K v w':=rfl
@[go_sem] def fC(P:aa)(ops:Array Oper)(K:Value->World->Prop)(o:Oper)(b:Act)(w:World):Prop:=
 if fB o (aJ ops b.tmps) then qf P K ((aw b.eval o).run P w) else K undef w
def Region.Ig(ops:Array Oper):Bool:=
 (dO ops.size).all λi=>match ops[i]? with
  |none=>true
  |some o=>(match o.op with | .select ..=>false|_=>true)&&(o.dz.toList.all λe=>decide (e.on<i)&&fA .any e) &&
   (dO ops.size).all λj=>match Region.fZ ops j with
    |none=>true
    |some d=>(j==i||o.dst != some d)&&(!(o.looksAt ops).contains d||o.dz.toList.any λe=>e.on==j)
structure tf(ops:Array Oper):Prop where
 sel:∀(i:Nat)(o:Oper),ops[i]?=some o->∀cs b,o.op≠Op.select cs b
 edge:∀(i:Nat)(o:Oper),ops[i]?=some o->∀e∈o.dz,e.on<i/\fA .any e=true
 one:∀i j t,Region.fZ ops i=some t->Region.fZ ops j=some t->i=j
 look:∀(i:Nat)(o:Oper),ops[i]?=some o->∀j t,Region.fZ ops j=some t->t∈o.looksAt ops->∃e∈o.dz,e.on=j
def yz{i t:Nat}(h:Region.fZ ops i=some t):i<ops.size:=by
 rcases dL i ops.size with b|b
 ·exact b
 ·simp[Region.fZ,aT b]at h
def Ro(h:Region.Ig ops=true):tf ops:=by
 have key:∀(i:Nat)(o:Oper),ops[i]?=some o->(match o.op with | .select ..=>false|_=>true)=true/\(∀e∈o.dz,e.on<i/\fA .any e=true)/\∀j,j<ops.size->∀d,Region.fZ ops j=some d->(j=i\/o.dst≠some d)/\(d∈o.looksAt ops->∃e∈o.dz,e.on=j):=by
  intro i o c;have hi:i<ops.size:=(Array.getElem?_eq_some_iff.1 c).1;simp only[Region.Ig,dS,d9]at h
  grind
 refine⟨λi o c cs b e=>?_,λi o c=>(key i o c).2.1,λi j t hi f=>?_,λi o c j t f hl=>((key i o c).2.2 j (yz f) t f).2 hl⟩
 ·grind
 ·have g:=yz hi;have c:ops[i]?=some ops[i]:=ba g;have hd:ops[i].dst=some t:=by simpa[Region.fZ,c]using hi
  rcases((key i _ c).2.2 j (yz f) t f).1 with e|e
  ·exact e.symm
  ·exact absurd hd e
section
variable {C:World->Prop}{Le:World->World->Prop}{Φ:Nat->(Nat->Value)->World->Prop}{a:Act}{Q:Exit->Act->World->Prop}
def upd(vs:Nat->Value)(i:Nat)(v:Value):Nat->Value:=λj=>if j=i then v else vs j
def cO(ops:Array Oper)(listed:Array Bool):List Nat:=(dO ops.size).filter λi=>listed.getD i true
def AL{o:Oper}{i:Nat}(c:tf ops)(f:ops[i]?=some o){l:List Nat}(hl:∀e∈o.dz,e.on∈l)(vs:Nat->Value)(t:Nat)(m:t∈o.looksAt ops) :
 (cS ops vs l a).tmps[t]?=(cS ops vs (dO i) a).tmps[t]?:=by
 by_cases h:∃j,Region.fZ ops j=some t
 ·obtain⟨j,b⟩:=h;obtain⟨e,g,rfl⟩:=c.look i o f j t b m;rw[gJ vs t e.on (λk d=>c.one _ _ _ d b) b l a (hl e g),gJ vs t e.on (λk d=>c.one _ _ _ d b) b _ a (List.mem_range.2 (c.edge i o f e g).1)]
 ·rw[gI vs t l a λj _ e=>h ⟨j,e⟩,gI vs t _ a λj _ e=>h ⟨j,e⟩]
def Nj{o:Oper}{i:Nat}(b:tf ops)(c:ops[i]?=some o){l:List Nat}(hl:∀e∈o.dz,e.on∈l)(vs:Nat->Value) :
 aw (cS ops vs l a).eval o=aw (cS ops vs (dO i) a).eval o:=by
 refine aL o (b.sel i o c) λx d=>?_
 cases x with
 |tmp t=>
  have f:t∈o.looksAt ops:=ec _ (List.mem_filterMap.2 ⟨.tmp t,by simpa using d,rfl⟩);simp only[Act.eval,bb,AL b c hl vs t f]
 |_=>rfl
def EL{o:Oper}{i:Nat}(b:tf ops)(c:ops[i]?=some o){l:List Nat}(hl:∀e∈o.dz,e.on∈l)(vs:Nat->Value) :
 fB o (aJ ops (cS ops vs l a).tmps)=fB o (aJ ops (cS ops vs (dO i) a).tmps):=by
 unfold fB
 cases hg:o.guard with
 |none=>rfl
 |some d=>
  obtain⟨g,want⟩:=d;have hy:aJ ops (cS ops vs l a).tmps g=aJ ops (cS ops vs (dO i) a).tmps g:=by
   unfold aJ
   cases f:(ops[g]?).bind (·.dst) with
   |none=>rfl
   |some t=>
    have:=AL (a:=a) b c hl vs t (by simp[Oper.looksAt,hg,f])
    grind
  simp only[hy]
def Rp(g:tf ops){i:Nat}{o:Oper}(q:ops[i]?=some o){listed:Array Bool}(hs:listed.size=ops.size)(s:listed.getD i true=false)(vs:Nat->Value)(v:Value) :
 (cS ops vs (cO ops listed) a).put o.dst v=cS ops (upd vs i v) (cO ops (listed.setIfInBounds i true)) a:=by
 have hi:i<ops.size:=(Array.getElem?_eq_some_iff.1 q).1;have l:Region.fZ ops i=o.dst:=by simp[Region.fZ,q]
 have r:∀j,j∈cO ops (listed.setIfInBounds i true)↔j=i\/j∈cO ops listed:=by
  intro j;simp only[cO,List.mem_filter,d9];by_cases e:i=j
  ·subst e;simp[hi,hs]
  ·have:(listed.setIfInBounds i true).getD j true=listed.getD j true:=by simp_all
   grind
 have u:i∉cO ops listed:=λh=>by
  have:=(List.mem_filter.1 h).2;rw[s]at this;cases this
 obtain⟨x,m⟩:∃x,x=(cS ops vs (cO ops listed) a).put o.dst v:=⟨_,rfl⟩
 obtain⟨y,hy⟩:∃y,y=cS ops (upd vs i v) (cO ops (listed.setIfInBounds i true)) a:=⟨_,rfl⟩
 have z:x.defers=y.defers:=by rw[m,hy,put_defers,pG,pG]
 have A:x.tmps=y.tmps:=by
  apply Array.ext_getElem?;intro t;rw[m,hy,Cg,uF];by_cases n:o.dst=some t
  ·have d:Region.fZ ops i=some t:=l.trans n;rw[gJ _ t i (λk f=>g.one _ _ _ f d) d _ a ((r i).2 (.inl rfl)),upd,if_pos rfl];by_cases p:t<a.tmps.size
   ·simp[n,p]
   ·rw[if_neg λe=>p e.2,if_neg p,aT (by rw[uF];omega)]
  ·rw[if_neg λe=>n e.1];by_cases h:∃j,Region.fZ ops j=some t/\j∈cO ops listed
   ·obtain⟨j,b,c⟩:=h;have w:j≠i:=λe=>u (e▸c);rw[gJ _ t j (λk f=>g.one _ _ _ f b) b _ a c,gJ _ t j (λk f=>g.one _ _ _ f b) b _ a ((r j).2 (.inr c)),upd,if_neg w]
   ·rw[gI _ t _ a λj b e=>h ⟨j,e,b⟩,gI _ t _ a λj b e=>?_]
    grind
 rw[<-m,<-hy];obtain⟨B,D⟩:=x
 simp_all
section
variable (P:aa)(ops:Array Oper)(C:World->Prop)(Le:World->World->Prop)(E:Nat->Bool)(Φ:Nat->(Nat->Value)->World->Prop)(Q:Exit->Act->World->Prop)
def cL:Nat->List Oper->((Nat->Value)->Act)->Prop
 |i,[],b=>∀vs W,C W->(∀j,j<i->E j=false->Φ j vs W)->Q gb (b vs) W
 |i,o::l,b=>@eQ (λ_=>Prop)
  ((∀vs W,C W->(∀e∈o.dz,E e.on=false->Φ e.on vs W)->fC P ops (λu c=>C c/\Le W c/\Φ i (upd vs i u) c) o (b vs) W)/\cL (i+1) l λvs=>(b vs).put o.dst (vs i))
  (∃v,(∀vs W,C W->(∀e∈o.dz,E e.on=false->Φ e.on vs W)->fC P ops (λu c=>u=v/\C c/\Le W c) o (b vs) W)/\cL (i+1) l λvs=>(b vs).put o.dst v) (E i)
end
def cP{E:Nat->Bool}{i:Nat}{b:(Nat->Value)->Act}(h:∀vs W,C W->(∀j,j<i->E j=false->Φ j vs W)->Q gb (b vs) W):cL P ops C Le E Φ Q i [] b:=h
def EM{E:Nat->Bool}{i:Nat}{o:Oper}{l:List Oper}{b:(Nat->Value)->Act}(v:Value)(hE:E i=true)
 (h:∀vs W,C W->(∀e∈o.dz,E e.on=false->Φ e.on vs W)->fC P ops (λu c=>u=v/\C c/\Le W c) o (b vs) W) (d:cL P ops C Le E Φ Q (i+1) l λvs=>(b vs).put o.dst v):cL P ops C Le E Φ Q i (o::l) b:=by
 rw[cL,hE];exact⟨v,h,d⟩
def EN{E:Nat->Bool}{i:Nat}{o:Oper}{l:List Oper}{b:(Nat->Value)->Act}(hE:E i=false)
 (h:∀vs W,C W->(∀e∈o.dz,E e.on=false->Φ e.on vs W)->fC P ops (λu c=>C c/\Le W c/\Φ i (upd vs i u) c) o (b vs) W) (d:cL P ops C Le E Φ Q (i+1) l λvs=>(b vs).put o.dst (vs i)):cL P ops C Le E Φ Q i (o::l) b:=by
 rw[cL,hE];exact⟨h,d⟩
def aY{E:Nat->Bool}{i:Nat}{o:Oper}{l:List Oper}{b b':(Nat->Value)->Act}(v:Value)(hE:E i=true)
 (h:∀vs W,C W->(∀e∈o.dz,E e.on=false->Φ e.on vs W)->fC P ops (λu c=>u=v/\C c/\Le W c) o (b vs) W) (hb:∀vs,(b vs).put o.dst v=b' vs) (d:cL P ops C Le E Φ Q (i+1) l b'):cL P ops C Le E Φ Q i (o::l) b:=
 EM v hE h ((funext hb:(λvs=>(b vs).put o.dst v)=b')▸d)
def eH{E:Nat->Bool}{i:Nat}{o:Oper}{l:List Oper}{b b':(Nat->Value)->Act}(hE:E i=false)
 (h:∀vs W,C W->(∀e∈o.dz,E e.on=false->Φ e.on vs W)->fC P ops (λu c=>C c/\Le W c/\Φ i (upd vs i u) c) o (b vs) W) (hb:∀vs,(b vs).put o.dst (vs i)=b' vs) (d:cL P ops C Le E Φ Q (i+1) l b'):cL P ops C Le E Φ Q i (o::l) b:=
 EN hE h ((funext hb:(λvs=>(b vs).put o.dst (vs i))=b')▸d)
def j8{p:Prop}(h:p:=by intro vs;simp only[Act.put,List.setIfInBounds_toArray,List.set_cons_zero,List.set_cons_succ];rfl):p:=h
def uG(vs:Nat->Value)(i:Nat):∀(l:List Nat)(a:Act),cS ops vs (l++[i]) a=(cS ops vs l a).put (Region.fZ ops i) (vs i)
 |[],_=>rfl
 |j::l,a=>by simp only[ed,cS];exact uG vs i l _
def yA{vs b:Nat->Value}:∀(l:List Nat)(a:Act),(∀j∈l,vs j=b j)->cS ops vs l a=cS ops b l a
 |[],_,_=>rfl
 |j::l,a,h=>by simp only[cS];rw[h j (eb ..)];exact yA l _ λk c=>h k (ea _ c)
def vR(E:Nat->Bool)(V vs:Nat->Value):Nat->Value:=λj=>if E j then V j else vs j
def Ch{K d:Value->World->Prop}(h:∀v W,K v W->d v W):∀{r:Result Next},qf P K r->qf P d r:=by
 intro r H
 match r,H with
 |eN (fY v) b,H=>exact h v b H
 |eN f6 b,H=>exact h undef b H
 |eN (fV f args) b,H=>exact Calls.mono H λe c⟨v,g,i⟩=>⟨v,g,h v c i⟩
def nu{K c:Value->World->Prop}(h:∀v W,K v W->c v W){o:Oper}{b:Act}{W:World}(H:fC P ops K o b W):fC P ops c o b W:=by
 unfold fC at *
 split
 ·rename_i d;rw[if_pos d]at H;exact Ch h H
 grind
def EO{o:Oper}{i:Nat}(c:tf ops)(g:ops[i]?=some o){vs d:Nat->Value}(hv:∀e∈o.dz,vs e.on=d e.on)(t:Nat)(n:t∈o.looksAt ops) :
 (cS ops vs (dO i) a).tmps[t]?=(cS ops d (dO i) a).tmps[t]?:=by
 by_cases h:∃j,Region.fZ ops j=some t
 ·obtain⟨j,b⟩:=h;obtain⟨e,l,rfl⟩:=c.look i o g j t b n;have m:=List.mem_range.2 (c.edge i o g e l).1;rw[gJ vs t e.on (λk f=>c.one _ _ _ f b) b _ a m,gJ d t e.on (λk f=>c.one _ _ _ f b) b _ a m,hv e l]
 ·rw[gI vs t _ a λj _ e=>h ⟨j,e⟩,gI d t _ a λj _ e=>h ⟨j,e⟩]
def Nk{o:Oper}{i:Nat}(c:tf ops)(d:ops[i]?=some o){vs b:Nat->Value}(hv:∀e∈o.dz,vs e.on=b e.on){K:Value->World->Prop}{W:World}
 (H:fC P ops K o (cS ops vs (dO i) a) W):fC P ops K o (cS ops b (dO i) a) W:=by
 have e1:aw (cS ops b (dO i) a).eval o=aw (cS ops vs (dO i) a).eval o:=by
  refine aL o (c.sel i o d) λx h=>?_
  cases x with
  |tmp t=>
   have f:t∈o.looksAt ops:=ec _ (List.mem_filterMap.2 ⟨.tmp t,by simpa using h,rfl⟩);simp only[Act.eval,bb,EO (a:=a) c d hv t f]
  |_=>rfl
 have j:fB o (aJ ops (cS ops b (dO i) a).tmps)=fB o (aJ ops (cS ops vs (dO i) a).tmps):=by
  unfold fB
  cases hg:o.guard with
  |none=>rfl
  |some k=>
   obtain⟨g,want⟩:=k;have hy:aJ ops (cS ops b (dO i) a).tmps g=aJ ops (cS ops vs (dO i) a).tmps g:=by
    unfold aJ
    cases f:(ops[g]?).bind (·.dst) with
    |none=>rfl
    |some t=>
     have:=EO (a:=a) c d hv t (by simp[Oper.looksAt,hg,f])
     grind
   simp only[hy]
 unfold fC at H ⊢;rw[e1,j];exact H
end
end
section
variable {P:aa}{ops:Array Oper}{C:World->Prop}{Le:World->World->Prop}{Φ:Nat->(Nat->Value)->World->Prop}{a:Act}{Q:Exit->Act->World->Prop}
def Region.Ih(ops:Array Oper)(i:Nat):List Nat:=match ops[i]? with
 |none=>[]
 |some o=>o.dz.toList.map Edge.on
def Region.Ci(ops:Array Oper):Nat->List Nat->List Nat
 |0,s=>s
 |f+1,s=>Region.Ci ops f (s++s.flatMap (Region.Ih ops)).eraseDups
def AM(p:Nat->Prop)(b:∀i,p i->∀j∈Region.Ih ops i,p j):∀(f:Nat)(s:List Nat),(∀i∈s,p i)->∀i∈Region.Ci ops f s,p i
 |0,_,h=>h
 |f+1,s,h=>AM p b f _ λi hi=>by
  grind [List.mem_eraseDups]
structure Late(ops:Array Oper)(k:Nat):Prop where
 all:∀(i:Nat)(o:Oper),ops[i]?=some o->k<=i->∀j,j<k->j∈Region.Ci ops 4 (Region.Ih ops i)
 one:∀(i:Nat)(o:Oper),ops[i]?=some o->k<i->∃e∈o.dz,e.on+1=i
def Region.Kk(ops:Array Oper)(k:Nat):Bool:=decide (k<=ops.size)&&(dO ops.size).all λi=>match ops[i]? with
 |none=>true
 |some o=>decide (i<k)||(((dO k).all λj=>(Region.Ci ops 4 (Region.Ih ops i)).contains j)&&(i==k||o.dz.toList.any λe=>e.on+1==i))
def Kl{k:Nat}(h:Region.Kk ops k=true):k<=ops.size/\Late ops k:=by
 simp only[Region.Kk,eP,decide_eq_true_eq,dS,d9]at h;obtain⟨c,h⟩:=h;refine⟨c,λi o b hi j d=>?_,λi o b hi=>?_⟩
 ·have:=h i (Array.getElem?_eq_some_iff.1 b).1;rw[b]at this;simp only[Bool.or_eq_true,decide_eq_true_eq,eP,dS,d9,List.any_eq_true,beq_iff_eq]at this
  grind
 grind
def yB(p:tf ops){k:Nat}(q:Late ops k):∀(fuel m:Nat)(listed:Array Bool)(b:Act)(W:World),listed.size=ops.size->k<=m->m+fuel=ops.size->(∀j,j<ops.size->listed.getD j true=decide (j<m))->
 aq P ops Q (ops.toList.drop m) b W->wpAny P .any ops Q fuel listed b W
 |0,m,listed,b,W,hs,t,u,hl,h=>by
  have e:ops.toList.drop m=[]:=List.drop_eq_nil_of_le (by simp;omega);rw[e]at h;refine⟨List.filter_eq_nil_iff.2 λi hi=>?_,h⟩
  grind
 |fuel+1,m,listed,b,W,hs,t,u,hl,h=>by
  have f:m<ops.size:=by omega
  have l:ops[m]?=some ops[m]:=ba f;have hd:ops.toList.drop m=ops[m]::ops.toList.drop (m+1):=by
   rw[List.drop_eq_getElem_cons (by simpa using f)];simp
  have r:m∈fJ .any ops listed:=by
   refine List.mem_filter.2 ⟨List.mem_range.2 f,?_⟩;rw[hl m f];simp only[Nat.lt_irrefl,decide_false,eS,eT,l,fO,fP,bc];intro e s
   cases hb:fA .any e with
   |false=>rfl
   |true=>
    have v:=(p.edge m _ l e (cH.2 ⟨s,hb⟩)).1
    grind
  refine⟨λw=>(by rw[w]at r;cases r),λi hi=>?_⟩;have n:i=m:=by
   obtain⟨x,o⟩:=List.mem_filter.1 hi;have c:=List.mem_range.1 x;have d:ops[i]?=some ops[i]:=ba c;rw[d,hl i c]at o;simp only[eP,eV,decide_eq_false_iff_not,fO,fP,bc]at o;obtain⟨D,E⟩:=o
   rcases dL m i with v|F
   ·obtain⟨e,s,y⟩:=q.one i _ d (by omega)
    grind[cH]
   ·omega
  subst n;rw[hd]at h;unfold wpOp;simp only[l];have next:∀b' g,aq P ops Q (ops.toList.drop (i+1)) b' g->wpAny P .any ops Q fuel (listed.setIfInBounds i true) b' g:=λb' g z=>by
   refine yB p q fuel (i+1) _ b' g (by simpa using hs) (by omega) (by omega) (λj A=>?_) z;by_cases e:i=j
   ·subst e;simp[hs,A]
   ·have:(listed.setIfInBounds i true).getD j true=listed.getD j true:=by simp_all
    grind
  rw[aq]at h
  split
  ·rename_i B;rw[if_pos B]at h;exact h.imp (Oper.wp_mono next) id
  grind
end
section
variable {P:aa}{ops:Array Oper}{C:Bool->World->Prop}{Le:World->World->Prop}{Φ:Bool->Nat->(Nat->Value)->World->Prop}{X:Nat->Nat->Value->Value->Prop}{a:Act}{Q:Exit->Act->World->Prop}
set_option maxHeartbeats 4000000 in
def Cj{m:Nat}(hO:tf ops){k:Nat}(hL:Late ops k)(By:k<=ops.size)(hX:∀i j u v,X i j u v->X j i v u)(rL:∀(i:Nat)(o:Oper),ops[i]?=some o->∀vs eX W,vs i=eX i->(∀e∈o.dz,vs e.on=eX e.on)->∀b,Φ b i vs W->Φ b i eX W)
 (aB:∀(i:Nat)(o:Oper),ops[i]?=some o->i<k->∀vs W(D:List Nat)(b:Bool),(i=m->b=false)->C b W->(∀e∈o.dz,e.on∈D)->i∉D->(∀j∈D,j<ops.size)->(∀j∈D,∀o,ops[j]?=some o->∀e∈o.dz,e.on∈D)->(∀j∈D,Φ b j vs W)->(∀j∈D,∀k∈D,j≠k->X j k (vs j) (vs k))->fC P ops (λv W'=>C (b||decide (i=m)) W'/\(∀j∈D,Φ (b||decide (i=m)) j vs W')/\Φ (b||decide (i=m)) i (upd vs i v) W'/\∀j∈D,X j i (vs j) v) o (cS ops vs (dO i) a) W)
 (hQ:∀vs W b,(m<k->b=true)->C b W->(∀i,i<k->Φ b i vs W)->(∀i j,i<k->j<k->i≠j->X i j (vs i) (vs j))->aq P ops Q (ops.toList.drop k) (cS ops vs (dO k) a) W) :
 ∀(fuel:Nat)(listed:Array Bool)(vs:Nat->Value)(W:World),listed.size=ops.size->(dO ops.size).countP (λi=>!listed.getD i true)=fuel->C (listed.getD m false) W->(∀i∈cO ops listed,Φ (listed.getD m false) i vs W)->(∀i∈cO ops listed,∀j∈cO ops listed,i≠j->X i j (vs i) (vs j))->(∀i∈cO ops listed,∀o,ops[i]?=some o->∀e∈o.dz,e.on∈cO ops listed)->(∀i,k<=i->i<ops.size->listed.getD i true=false)->
  wpAny P .any ops Q fuel listed (cS ops vs (cO ops listed) a) W:=by
 have fin:∀(fuel:Nat)(listed:Array Bool)(vs:Nat->Value)(W:World),listed.size=ops.size->(dO ops.size).countP (λi=>!listed.getD i true)=fuel->(∀i,i<k->listed.getD i true=true)->(∀i,k<=i->i<ops.size->listed.getD i true=false)->C (listed.getD m false) W->(∀i∈cO ops listed,Φ (listed.getD m false) i vs W)->(∀i∈cO ops listed,∀j∈cO ops listed,i≠j->X i j (vs i) (vs j))->wpAny P .any ops Q fuel listed (cS ops vs (cO ops listed) a) W:=by
  intro fuel listed vs W hs hc oh AO hC FL hP;have aaw:∀j,j<ops.size->listed.getD j true=decide (j<k):=λj hj=>by
   grind
  have e:cO ops listed=dO k:=by
   unfold cO;have:(dO ops.size).filter (λi=>listed.getD i true)=(dO ops.size).filter (λi=>decide (i<k)):=List.filter_congr λi hi=>aaw i (List.mem_range.1 hi);rw[this];have e2:dO ops.size=dO k++(dO (ops.size-k)).map (k + ·):=by
    rw[<-eg];congr 1;omega
   rw[e2,List.filter_append,List.filter_eq_self.2 λi hi=>by grind,List.filter_eq_nil_iff.2 λi hi=>?_,List.append_nil]
   grind
  have afx:k+fuel=ops.size:=by
   rw[<-hc];have:(dO ops.size).countP (λi=>!listed.getD i true)=(dO ops.size).countP (λi=>decide (¬i<k)):=eh λi hi=>by grind
   rw[this];have e2:dO ops.size=dO k++(dO (ops.size-k)).map (k + ·):=by
    rw[<-eg];congr 1;omega
   rw[e2,List.countP_append,List.countP_eq_zero.2 λi hi=>?_,List.countP_eq_length.2 λi hi=>?_]
   ·simp;omega
   ·grind
   grind
  rw[e]at FL hP ⊢;exact yB hO hL fuel k listed _ W hs (dp _) afx aaw (hQ vs W _ (λhmk=>by grind) hC (λi hi=>FL i (List.mem_range.2 hi)) λi j hi hj=>hP i (List.mem_range.2 hi) j (List.mem_range.2 hj))
 have nil:∀(listed:Array Bool),listed.size=ops.size->fJ .any ops listed=[]->∀i,i<ops.size->listed.getD i true=true:=by
  intro listed hs hr i
  induction i using Nat.strongRecOn with
  |_ i ih=>
   intro hi;by_cases hu:listed.getD i true=true
   ·exact hu
   ·have nt:i∈fJ .any ops listed:=by
     refine List.mem_filter.2 ⟨List.mem_range.2 hi,?_⟩;have ho:ops[i]?=some ops[i]:=ba hi;have hu':listed.getD i true=false:=by simpa using hu
     simp only[hu',eS,eT,ho,fO,fP,bc];intro e he
     cases hb:fA .any e with
     |false=>rfl
     |true=>
      have aH:=(hO.edge i _ ho e (cH.2 ⟨he,hb⟩)).1
      grind
    grind
 intro fuel
 induction fuel with
 |zero=>
  intro listed vs W hs hc hC FL hP _ AO;refine fin 0 listed vs W hs hc (λi hi=>?_) AO hC FL hP;have:=List.countP_eq_zero.1 hc i (List.mem_range.2 (by omega));simpa using this
 |succ fuel ih=>
  intro listed vs W hs hc hC FL hP hdc AO;by_cases Rq:∀i,i<k->listed.getD i true=true
  ·grind
  refine⟨λhr=>absurd (λi hi=>nil listed hs hr i (by omega)) Rq,λi hi=>?_⟩;obtain⟨Gu,Xj⟩:=List.mem_filter.1 hi;have hil:=List.mem_range.1 Gu;have ho:ops[i]?=some ops[i]:=ba hil;rw[ho]at Xj;simp only[eP,eV,fO,fP,bc]at Xj;obtain⟨vG,oh⟩:=Xj;have EP:∀e∈ops[i].dz,e.on∈cO ops listed:=λe he=>by
   have:=oh e (cH.1 he).1;have hb:=hO.edge i _ ho e he;rw[hb.2]at this;have Fz:e.on<listed.size:=by omega
   simp[Fz]at this;exact List.mem_filter.2 ⟨List.mem_range.2 (by omega),by simp[Fz,this]⟩
  have hik:i<k:=by
   rcases dL i k with h|h
   ·exact h
   ·refine absurd (λj hj=>?_) Rq;have key:=AM (ops:=ops) (λx=>x∈cO ops listed) (λx hx y hy=>?_) 4 (Region.Ih ops i) (λy hy=>?_) j (hL.all i _ ho h j hj)
    ·exact(List.mem_filter.1 key).2
    ·have hxo:ops[x]?=some ops[x]!:=by
      have:=List.mem_range.1 (List.mem_filter.1 hx).1;simp[this]
     unfold Region.Ih at hy
     grind
    ·unfold Region.Ih at hy
     grind
  have ald:i∉cO ops listed:=λhj=>by
   have:=(List.mem_filter.1 hj).2;rw[vG]at this;cases this
  have H:=aB i _ ho hik vs W (cO ops listed) (listed.getD m false) (λe=>by grind) hC EP ald (λj hj=>List.mem_range.1 (List.mem_filter.1 hj).1) hdc FL hP;have next:∀v W',(C (listed.getD m false||decide (i=m)) W'/\(∀j∈cO ops listed,Φ (listed.getD m false||decide (i=m)) j vs W')/\Φ (listed.getD m false||decide (i=m)) i (upd vs i v) W'/\∀j∈cO ops listed,X j i (vs j) v)->wpAny P .any ops Q fuel (listed.setIfInBounds i true) ((cS ops vs (cO ops listed) a).put ops[i].dst v) W':=by
   rintro v W'⟨hC0,hle,hv,hx⟩;have hC':C ((listed.setIfInBounds i true).getD m false) W':=by
    have e:(listed.setIfInBounds i true).getD m false=(listed.getD m false||decide (i=m)):=by
     by_cases e:i=m
     ·subst e;have h2:i<listed.size:=(by omega)
      simp[h2]
     ·simp[aS e,e]
    rw[e];exact hC0
   have e0:(listed.getD m false||decide (i=m))=(listed.setIfInBounds i true).getD m false:=by
    by_cases e:i=m
    ·subst e;have h2:i<listed.size:=(by omega)
     simp[h2]
    ·simp[aS e,e]
   rw[e0]at hle hv;rw[Rp hO ho hs vG vs v];have nt:∀j,j∈cO ops (listed.setIfInBounds i true)->j=i\/j∈cO ops listed:=λj hj=>by
    obtain⟨h1,h2⟩:=List.mem_filter.1 hj;by_cases e:j=i
    ·exact .inl e
    ·exact .inr (List.mem_filter.2 ⟨h1,by simpa[aS (Ne.symm e)]using h2⟩)
   have Xs:∀j,j∈cO ops listed->j∈cO ops (listed.setIfInBounds i true):=λj hj=>by
    obtain⟨h1,h2⟩:=List.mem_filter.1 hj;by_cases e:j=i
    ·grind
    ·exact List.mem_filter.2 ⟨h1,by simpa[aS (Ne.symm e)]using h2⟩
   have Xr:∀j,j∈cO ops listed->j≠i:=λj hj e=>by
    grind
   refine ih _ _ W' (by simpa using hs) ?_ hC' (λj hj=>?_) (λj hj k hk Wk=>?_) (λj hj o' qx e he=>?_) (λj hj hjn=>by have bu:i≠j:=(by omega);simpa[aS bu]using AO j hj hjn)
   ·have h1:(dO ops.size).countP (λj=>!listed.getD j true)=(dO ops.size).countP (λj=>!(listed.setIfInBounds i true).getD j true)+1:=by
     have key:∀l:List Nat,l.Nodup->i∈l->l.countP (λj=>!listed.getD j true)=l.countP (λj=>!(listed.setIfInBounds i true).getD j true)+1:=by
      intro l hn
      induction l with
      |nil=>intro h;cases h
      |cons k l ih=>
       intro h;obtain⟨hk,TH⟩:=List.nodup_cons.1 hn;by_cases e:k=i
       ·subst e;have same:l.countP (λj=>!listed.getD j true)=l.countP (λj=>!(listed.setIfInBounds k true).getD j true):=by
         refine eh λj hj=>?_;have bu:k≠j:=λe=>hk (e▸hj);simp[aS bu]
        have hks:k<listed.size:=by omega
        rw[ei,ei,same,vG];simp[hks]
       ·have hil:i∈l:=by grind
        have bu:i≠k:=λe'=>e e'.symm;rw[ei,ei,ih TH hil];have:(listed.setIfInBounds i true).getD k true=listed.getD k true:=by simp[aS bu]
        grind
     exact key _ List.nodup_range Gu
    omega
   ·rcases nt j hj with rfl|zK
    ·exact hv
    ·have hjo:ops[j]?=some ops[j]!:=by
      have:=List.mem_range.1 (List.mem_filter.1 zK).1;simp[this]
     refine rL j _ hjo vs _ W' ?_ (λe he=>?_) _ (hle j zK)
     ·simp only[upd];rw[if_neg (Xr j zK)]
     ·have:=Xr _ (hdc j zK _ hjo e he);simp only[upd];rw[if_neg this]
   ·rcases nt j hj with rfl|zK
    ·rcases nt k hk with rfl|rm
     ·exact absurd rfl Wk
     ·simp only[upd,if_pos,if_neg (Xr k rm)];exact hX _ _ _ _ (hx k rm)
    ·rcases nt k hk with rfl|rm
     ·simp only[upd,if_pos,if_neg (Xr j zK)];exact hx j zK
     ·simp only[upd,if_neg (Xr j zK),if_neg (Xr k rm)];exact hP j zK k rm Wk
   grind
  unfold wpOp;simp only[ho];unfold fC at H;rw[<-EL (a:=a) hO ho EP vs,<-Nj (a:=a) hO ho EP vs]at H
  split
  ·rename_i hw;rw[if_pos hw]at H;left;unfold Oper.wp;generalize(aw (cS ops vs (cO ops listed) a).eval ops[i]).run P W=r at H ⊢
   match r,H with
   |eN (fY v) W',H=>exact next v W' H
   |eN f6 W',H=>exact next undef W' H
   |eN (fV f args) W',H=>exact Calls.mono H λe W''⟨v,he,hk⟩=>by subst he;exact next v W'' hk
  grind
section
variable (P:aa)(ops:Array Oper)(m:Nat)(C:Bool->World->Prop)(Le:World->World->Prop)(E:Nat->Bool)(Φ:Bool->Nat->(Nat->Value)->World->Prop)(X:Nat->Nat->Value->Value->Prop)(Q:Exit->Act->World->Prop)
def cr:Nat->List Oper->((Nat->Value)->Act)->Prop
 |i,[],b=>∀vs W c,(m<i->c=true)->C c W->(∀j,j<i->E j=false->Φ c j vs W)->(∀j k,j<i->k<i->j≠k->E j=false->E k=false->X j k (vs j) (vs k))->Q gb (b vs) W
 |i,o::l,b=>@eQ (λ_=>Prop)
  ((∀vs W(D:List Nat)(c:Bool),(i=m->c=false)->C c W->(∀e∈o.dz,e.on∈D)->i∉D->(∀j∈D,∀o,ops[j]?=some o->∀e∈o.dz,e.on∈D)->(∀j∈D,E j=false->Φ c j vs W)->(∀j∈D,∀k∈D,j≠k->E j=false->E k=false->X j k (vs j) (vs k))->fC P ops (λu d=>C (c||decide (i=m)) d/\(∀j∈D,E j=false->Φ (c||decide (i=m)) j vs d)/\Φ (c||decide (i=m)) i (upd vs i u) d/\∀j∈D,E j=false->X j i (vs j) u) o (b vs) W)/\cr (i+1) l λvs=>(b vs).put o.dst (vs i))
  (∃v,(∀vs W c,C c W->(∀e∈o.dz,E e.on=false->Φ c e.on vs W)->fC P ops (λu d=>u=v/\C c d/\Le W d) o (b vs) W)/\cr (i+1) l λvs=>(b vs).put o.dst v) (E i)
end
def nv{E:Nat->Bool}{m:Nat}{i:Nat}{b:(Nat->Value)->Act}(h:∀vs W c,(m<i->c=true)->C c W->(∀j,j<i->E j=false->Φ c j vs W)->(∀j k,j<i->k<i->j≠k->E j=false->E k=false->X j k (vs j) (vs k))->Q gb (b vs) W):cr P ops m C Le E Φ X Q i [] b:=h
def Ck{E:Nat->Bool}{m:Nat}{i:Nat}{o:Oper}{l:List Oper}{b:(Nat->Value)->Act}(v:Value)(hE:E i=true)
 (h:∀vs W c,C c W->(∀e∈o.dz,E e.on=false->Φ c e.on vs W)->fC P ops (λu d=>u=v/\C c d/\Le W d) o (b vs) W) (f:cr P ops m C Le E Φ X Q (i+1) l λvs=>(b vs).put o.dst v):cr P ops m C Le E Φ X Q i (o::l) b:=by
 rw[cr,hE];exact⟨v,h,f⟩
def Cl{E:Nat->Bool}{m:Nat}{i:Nat}{o:Oper}{l:List Oper}{b:(Nat->Value)->Act}(hE:E i=false)
 (h:∀vs W(D:List Nat)(c:Bool),(i=m->c=false)->C c W->(∀e∈o.dz,e.on∈D)->i∉D->(∀j∈D,∀o,ops[j]?=some o->∀e∈o.dz,e.on∈D)->(∀j∈D,E j=false->Φ c j vs W)->(∀j∈D,∀k∈D,j≠k->E j=false->E k=false->X j k (vs j) (vs k))->fC P ops (λu d=>C (c||decide (i=m)) d/\(∀j∈D,E j=false->Φ (c||decide (i=m)) j vs d)/\Φ (c||decide (i=m)) i (upd vs i u) d/\∀j∈D,E j=false->X j i (vs j) u) o (b vs) W) (f:cr P ops m C Le E Φ X Q (i+1) l λvs=>(b vs).put o.dst (vs i)):cr P ops m C Le E Φ X Q i (o::l) b:=by
 rw[cr,hE];exact⟨h,f⟩
def iK{E:Nat->Bool}{m:Nat}{i:Nat}{o:Oper}{l:List Oper}{b b':(Nat->Value)->Act}(v:Value)(hE:E i=true)
 (h:∀vs W c,C c W->(∀e∈o.dz,E e.on=false->Φ c e.on vs W)->fC P ops (λu d=>u=v/\C c d/\Le W d) o (b vs) W) (hb:∀vs,(b vs).put o.dst v=b' vs) (f:cr P ops m C Le E Φ X Q (i+1) l b'):cr P ops m C Le E Φ X Q i (o::l) b:=
 Ck v hE h ((funext hb:(λvs=>(b vs).put o.dst v)=b')▸f)
def ey{E:Nat->Bool}{m:Nat}{i:Nat}{o:Oper}{l:List Oper}{b b':(Nat->Value)->Act}(hE:E i=false)
 (h:∀vs W(D:List Nat)(c:Bool),(i=m->c=false)->C c W->(∀e∈o.dz,e.on∈D)->i∉D->(∀j∈D,∀o,ops[j]?=some o->∀e∈o.dz,e.on∈D)->(∀j∈D,E j=false->Φ c j vs W)->(∀j∈D,∀k∈D,j≠k->E j=false->E k=false->X j k (vs j) (vs k))->fC P ops (λu d=>C (c||decide (i=m)) d/\(∀j∈D,E j=false->Φ (c||decide (i=m)) j vs d)/\Φ (c||decide (i=m)) i (upd vs i u) d/\∀j∈D,E j=false->X j i (vs j) u) o (b vs) W) (hb:∀vs,(b vs).put o.dst (vs i)=b' vs) (f:cr P ops m C Le E Φ X Q (i+1) l b'):cr P ops m C Le E Φ X Q i (o::l) b:=
 Cl hE h ((funext hb:(λvs=>(b vs).put o.dst (vs i))=b')▸f)
def ny{E:Nat->Bool}{m:Nat}(L:E m=false)(M:∀b i vs W r,Le W r->Φ b i vs W->Φ b i vs r):∀(l:List Oper)(i:Nat)(b:(Nat->Value)->Act),(∀j,j<l.length->l[j]?=ops[i+j]?)->cr P ops m C Le E Φ X Q i l b->
 ∃V:Nat->Value,(∀(j:Nat)(o:Oper),i<=j->j<i+l.length->ops[j]?=some o->∃s:(Nat->Value)->Act,(∀vs(a0:Act),(∀k,i<=k->E k=true->vs k=V k)->b vs=cS ops vs (dO i) a0->s vs=cS ops vs (dO j) a0)/\
  (∀vs W(D:List Nat)(c:Bool),(j=m->c=false)->C c W->(∀e∈o.dz,e.on∈D)->j∉D->(∀j∈D,∀o,ops[j]?=some o->∀e∈o.dz,e.on∈D)->(∀j∈D,E j=false->Φ c j vs W)->(∀j∈D,∀k∈D,j≠k->E j=false->E k=false->X j k (vs j) (vs k))->fC P ops (λu r=>(E j=true->u=V j)/\C (c||decide (j=m)) r/\(∀k∈D,E k=false->Φ (c||decide (j=m)) k vs r)/\(E j=false->Φ (c||decide (j=m)) j (upd vs j u) r)/\∀k∈D,E k=false->E j=false->X k j (vs k) u) o (s vs) W))/\
  (∀vs W(a0:Act),(∀k,i<=k->E k=true->vs k=V k)->b vs=cS ops vs (dO i) a0->∀c,(m<i+l.length->c=true)->C c W->(∀j,j<i+l.length->E j=false->Φ c j vs W)->(∀j k,j<i+l.length->k<i+l.length->j≠k->E j=false->E k=false->X j k (vs j) (vs k))->Q gb (cS ops vs (dO (i+l.length)) a0) W)
 |[],i,b,hl,h=>by
  refine⟨λ_=>undef,λj o z x R=>?_,λvs W a0 _ hb c f d t g=>by rw[ej,dC,<-hb];exact h vs W c (by simpa using f) d t g⟩
  grind
 |o::l,i,b,hl,h=>by
  have hlen:i+(o::l).length=i+1+l.length:=by grind
  rw[hlen];have A:ops[i]?=some o:=by simpa using(hl 0 (by simp)).symm
  have hd:Region.fZ ops i=o.dst:=by simp[Region.fZ,A]
  have N:∀j,j<l.length->l[j]?=ops[i+1+j]?:=λj z=>by have:=hl (j+1) (by grind);grind
  cases w:E i with
  |true=>
   rw[cr,w]at h;obtain⟨v,O,B⟩:=h;obtain⟨V,k1,k2⟩:=ny L M l (i+1) _ N B;have step:∀vs(a0:Act),(∀k,i<=k->E k=true->vs k=(λj=>if j=i then v else V j) k)->b vs=cS ops vs (dO i) a0->(b vs).put o.dst v=cS ops vs (dO (i+1)) a0:=λvs a0 hv hb=>by
    rw[dU,uG,<-hb,hd,hv i (dp _) w];simp
   refine⟨λj=>if j=i then v else V j,λj F z x n=>?_,λvs W a0 hv hb c f d t g=>k2 vs W a0 (λk H p=>by grind) (step vs a0 hv hb) c f d t g⟩;by_cases e:j=i
   ·subst e;rw[A]at n;cases n;refine⟨b,λvs a0 _ hb=>hb,λvs W D c f d y q I hd g=>?_⟩;refine nu ?_ (O vs W c d λe p w=>hd _ (y e p) w)
    grind
   ·obtain⟨s,J,K⟩:=k1 j F (by omega) x n;refine⟨s,λvs a0 hv hb=>J vs a0 (λk H p=>by grind) (step vs a0 hv hb),λvs W D c f d y q I hd g=>?_⟩;have:=K vs W D c f d y q I hd g
    grind
  |false=>
   rw[cr,w]at h;obtain⟨O,B⟩:=h;obtain⟨V,k1,k2⟩:=ny L M l (i+1) _ N B;have step:∀vs(a0:Act),b vs=cS ops vs (dO i) a0->(b vs).put o.dst (vs i)=cS ops vs (dO (i+1)) a0:=λvs a0 hb=>by
    rw[dU,uG,<-hb,hd]
   refine⟨V,λj F z x n=>?_,λvs W a0 hv hb c f d t g=>k2 vs W a0 (λk H p=>hv k (by omega) p) (step vs a0 hb) c f d t g⟩;by_cases e:j=i
   ·subst e;rw[A]at n;cases n;refine⟨b,λvs a0 _ hb=>hb,λvs W D c f d y q I hd g=>?_⟩
    grind
   ·obtain⟨s,J,K⟩:=k1 j F (by omega) x n;exact⟨s,λvs a0 hv hb=>J vs a0 (λk H p=>hv k (by omega) p) (step vs a0 hb),K⟩
def mA(k:Nat){id:Nat}{w:World}(m:Nat)(C:Bool->World->Prop)(Le:World->World->Prop)(E:Nat->Bool)(Φ:Bool->Nat->(Nat->Value)->World->Prop)(X:Nat->Nat->Value->Value->Prop)(O:∀i j u v,X i j u v->X j i v u)(R:P.follows gc=true)(S:Region.Ig ops=true)(T:k<=ops.size/\Late ops k)
 (U:E m=false) (Y:∀b i vs W p,Le W p->Φ b i vs W->Φ b i vs p) (x:∀(i:Nat)(o:Oper),ops[i]?=some o->∀vs q W,vs i=q i->(∀e∈o.dz,vs e.on=q e.on)->∀b,Φ b i vs W->Φ b i q W) (r:C false w.drew)
 (H:cr P ops m C Le E Φ X (λ_ b W=>aq P ops Q (ops.toList.drop k) b W) 0 (ops.toList.take k) λ_=>a):(fR id ops true).wp P Q a w:=by
 have s:=Ro S;obtain⟨Z,hL⟩:=T;obtain⟨V,K,L⟩:=ny U Y (ops.toList.take k) 0 _ (λj d=>by grind) H;have FH:0+(ops.toList.take k).length=k:=by simp;omega
 rw[FH]at K L;refine wp_region_any R ?_;have hd:cO ops (bd ops.size false)=[]:=by
  refine List.filter_eq_nil_iff.2 λi hi=>?_;have:=List.mem_range.1 hi;simp[this]
 have start:=Cj (P:=P) (a:=a) (Q:=Q) (m:=m) (C:=C) (X:=λi j u v=>E i=false->E j=false->X i j u v) (Φ:=λb i vs W=>(E i=true->vs i=V i)/\(∀o,ops[i]?=some o->∀e∈o.dz,E e.on=true->vs e.on=V e.on)/\(E i=false->Φ b i vs W)) s hL Z (λi j u v h d hi=>O _ _ _ _ (h hi d))
  (λi o g vs q W e1 e2 b h=>⟨λe=>e1▸h.1 e,λo' l e f n=>(by grind),λe=>x i o g vs q W e1 e2 b (h.2.2 e)⟩) (λi o g y vs W D z A r M B F sB hd hP=>?_) (λvs W z A r FL hP=>?_) ops.size (bd ops.size false) (λ_=>undef) w.drew (by simp) (by
   rw[List.countP_eq_length.2]
   ·simp
   ·intro i hi;have:=List.mem_range.1 hi
    simp[this]) (by have e:(bd ops.size false).getD m false=false:=(by rw[bb,Array.getElem?_replicate];split<;>rfl);rw[e];exact r) (by rw[hd];intro i hi;cases hi) (by rw[hd];intro i hi;cases hi) (by rw[hd];intro i hi;cases hi) (λi _ hi=>by simp[hi])
 ·rw[hd]at start;exact start
 ·obtain⟨bj,g1,g2⟩:=K i o (dq _) y g;have vz:∀k∈D,vR E V vs k=vs k:=λk c=>by
   unfold vR
   grind
  have I:∀e∈o.dz,vR E V vs e.on=vs e.on:=λe f=>vz _ (M e f);have hb:=g1 (vR E V vs) a (λk _ f=>by simp[vR,f]) rfl;have t:∀k∈D,∀b W,Φ b k (vR E V vs) W↔Φ b k vs W:=λk c b W=>by
   have l:ops[k]?=some ops[k]!:=by simp[F k c]
   grind
  have:=g2 (vR E V vs) W D z A r M B sB (λk c n=>(t k c _ W).2 ((hd k c).2.2 n)) (λj d k c Wk J N=>by grind);rw[hb]at this;refine nu ?_ (Nk s g I this);rintro v p⟨a1,a2,a3,a4,a5⟩;refine⟨a2,λk c=>⟨(hd k c).1,(hd k c).2.1,λn=>(t k c _ p).1 (a3 k c n)⟩,⟨λe=>by simp[upd,a1 e],λo' l e f n=>?_,λe=>?_⟩,λk c N hiE=>by grind⟩
  ·rw[g]at l;cases l;have:=(s.edge i o g e f).1;simp only[upd];grind
  refine x i o g _ _ p (by simp[upd]) (λe' Xo=>?_) _ (a4 e);have:=(s.edge i o g e' Xo).1;simp only[upd];grind
 ·have hv:∀j,j<k->vR E V vs j=vs j:=λj d=>by
   unfold vR
   grind
  rw[<-yA (vs:=vR E V vs) _ _ λj d=>hv j (List.mem_range.1 d)];refine L (vR E V vs) W a (λk _ f=>by simp[vR,f]) rfl z A r (λj d n=>?_) (λj k d c Wk J N=>by grind);have l:ops[j]?=some ops[j]!:=by grind
  refine x j _ l vs _ W (hv j d).symm (λe f=>(hv e.on (by have:=(s.edge j _ l e f).1;omega)).symm) _ ((FL j d).2.2 n)
def iL(k:Nat){id:Nat}{w:World}(m:Nat)(C:Bool->World->Prop)(Le:World->World->Prop)(E:Nat->Bool)(Φ:Bool->Nat->(Nat->Value)->World->Prop)(X:Nat->Nat->Value->Value->Prop)(f:∀i j u v,X i j u v->X j i v u)(g:P.follows gc=true)(h:Region.Ig ops=true)(l:Region.Kk ops k=true)
 (n:E m=false) (p:∀b i vs W d,Le W d->Φ b i vs W->Φ b i vs d) (q:∀(i:Nat)(o:Oper),ops[i]?=some o->∀vs c W,vs i=c i->(∀e∈o.dz,vs e.on=c e.on)->∀b,Φ b i vs W->Φ b i c W) (r:C false w.drew)
 (H:cr P ops m C Le E Φ X (λ_ b W=>aq P ops Q (ops.toList.drop k) b W) 0 (ops.toList.take k) λ_=>a):(fR id ops true).wp P Q a w:=
 mA k m C Le E Φ X f g h (Kl l) n p q r H
section
variable {C:World->Prop}{Φ:Nat->(Nat->Value)->World->Prop}
def uH{E:Nat->Bool}{n:Nat}(p:∀i vs W f,Le W f->Φ i vs W->Φ i vs f):∀(l:List Oper)(i:Nat)(b:(Nat->Value)->Act),i+l.length<=n->cL P ops C Le E Φ Q i l b->
 cr P ops n (λ_=>C) Le (λj=>E j&&decide (j<n)) (λ_=>Φ) (λ_ _ _ _=>True) Q i l b
 |[],i,b,_,h=>λvs W _ _ c hd _=>h vs W c λj q g=>hd j q (by simp[g])
 |o::l,i,b,hl,h=>by
  have hi:i<n:=by simp at hl;omega
  have s:i+1+l.length<=n:=by simp at hl;omega
  rw[cL]at h;rw[cr]
  cases g:E i with
  |true=>
   simp only[g,decide_eq_true hi,Bool.and_self]at h⊢;obtain⟨v,u,w⟩:=h;exact⟨v,λvs W _ c hd=>u vs W c λe r d=>hd e r (by simp[d]),uH p l _ _ s w⟩
  |false=>
   simp only[g,Bool.false_and]at h⊢;refine⟨λvs W D _ _ c x _ _ t _=>?_,uH p l _ _ s h.2⟩;exact nu (λv f k=>⟨k.1,λj q d=>p j vs W f k.2.1 (t j q d),k.2.2,λ_ _ _=>trivial⟩) (h.1 vs W c λe r d=>t e.on (x e r) (by simp[d]))
def mB(k:Nat){id:Nat}{w:World}(C:World->Prop)(Le:World->World->Prop)(E:Nat->Bool)(Φ:Nat->(Nat->Value)->World->Prop)(g:P.follows gc=true)(h:Region.Ig ops=true)(l:k<=ops.size/\Late ops k)
 (d:∀i vs W f,Le W f->Φ i vs W->Φ i vs f) (n:∀(i:Nat)(o:Oper),ops[i]?=some o->∀vs c W,vs i=c i->(∀e∈o.dz,vs e.on=c e.on)->Φ i vs W->Φ i c W) (p:C w.drew)
 (H:cL P ops C Le E Φ (λ_ b W=>aq P ops Q (ops.toList.drop k) b W) 0 (ops.toList.take k) λ_=>a):(fR id ops true).wp P Q a w:=
 mA k ops.size (λ_=>C) Le (λj=>E j&&decide (j<ops.size)) (λ_=>Φ) (λ_ _ _ _=>True) (λ_ _ _ _ _=>trivial) g h l (by simp) (λ_=>d) (λi o q vs c W e1 r _=>n i o q vs c W e1 r) p
  (uH d _ _ _ (by simp;omega) H)
def cT(k:Nat){id:Nat}{w:World}(C:World->Prop)(Le:World->World->Prop)(E:Nat->Bool)(Φ:Nat->(Nat->Value)->World->Prop)(f:P.follows gc=true)(g:Region.Ig ops=true)(h:Region.Kk ops k=true)
 (j:∀i vs W d,Le W d->Φ i vs W->Φ i vs d) (l:∀(i:Nat)(o:Oper),ops[i]?=some o->∀vs c W,vs i=c i->(∀e∈o.dz,vs e.on=c e.on)->Φ i vs W->Φ i c W) (n:C w.drew)
 (H:cL P ops C Le E Φ (λ_ b W=>aq P ops Q (ops.toList.drop k) b W) 0 (ops.toList.take k) λ_=>a):(fR id ops true).wp P Q a w:=
 mB k C Le E Φ f g (Kl h) j l n H
def uI{E:Nat->Bool}{c:Exit->Act->World->Prop}(h:∀b W,Q gb b W->c gb b W):∀(l:List Oper)(i:Nat)(b:(Nat->Value)->Act),cL P ops C Le E Φ Q i l b->cL P ops C Le E Φ c i l b
 |[],_,_,k=>λvs W e hd=>h _ _ (k vs W e hd)
 |o::l,i,b,k=>by
  rw[cL]at k ⊢
  cases d:E i with
  |true=>simp only[d]at k ⊢;obtain⟨v,f,g⟩:=k;exact⟨v,f,uI h l _ _ g⟩
  |false=>simp only[d]at k ⊢;exact⟨k.1,uI h l _ _ k.2⟩
def ig{id:Nat}{w:World}(C:World->Prop)(Le:World->World->Prop)(E:Nat->Bool)(Φ:Nat->(Nat->Value)->World->Prop)(g:P.follows gc=true)(j:Region.Ig ops=true)
 (k:∀i vs W f,Le W f->Φ i vs W->Φ i vs f) (l:∀(i:Nat)(o:Oper),ops[i]?=some o->∀vs d W,vs i=d i->(∀e∈o.dz,vs e.on=d e.on)->Φ i vs W->Φ i d W) (n:C w.drew)
 (H:cL P ops C Le E Φ Q 0 ops.toList λ_=>a):(fR id ops true).wp P Q a w:=by
 have no:∀{i:Nat}{o:Oper},ops[i]?=some o->¬ops.size<=i:=λc=>Nat.not_le.2 (Array.getElem?_eq_some_iff.1 c).1;refine mB ops.size C Le E Φ g j ⟨dp _,λi o c hi=>absurd hi (no c),λi o c hi=>absurd (Nat.le_of_lt hi) (no c)⟩ k l n ?_;rw[List.take_of_length_le (by simp)];refine uI (λb W h=>?_) _ _ _ H;rw[List.drop_of_length_le (by simp)];exact h
end
end
end Go
namespace Go.Proofs
open Go.RowKit Go.Shelf
attribute [local go_sem] Oper.semAt_some
set_option maxRecDepth 100000
set_option maxHeartbeats 4000000
def lv(s r:Int):Int:=lvl s r s.toNat
def fD(s a:Int)(b:Nat):List Int:=(dO b).map λj=>lv s (a+(j:Nat))
def cJ(a b:Int)(c d:Nat):List Int:=(dO c).flatMap fun(k:Nat)=>fD (a+k) b d
def AP(s b:Int)(a:Nat):(fD s b a).length=a:=by simp[fD]
def AQ(c d:Int)(b:Nat):∀a:Nat,(cJ c d a b).length=a*b
 |0=>by simp[cJ]
 |a+1=>by
  have:=AQ c d b a;unfold cJ at this⊢;rw[dU,List.flatMap_append,ek,this];simp[AP,Nat.succ_mul]
def nA(s a:Int)(j:Nat):fD s a (j+1)=fD s a j++[lv s (a+(j:Nat))]:=by
 simp[fD,dU]
def kE(a b:Int)(c d:Nat):cJ a b (c+1) d=cJ a b c d++fD (a+(c:Nat)) b d:=by
 simp[cJ,dU]
def Nl(s a:Int)(b:Nat):∀j:Nat,j<=b->fD s a j <+: fD s a b:=by
 intro j c;unfold fD;exact(List.map_take ..▸List.take_range ..▸by rw[Nat.min_eq_left c]:(List.take j ((dO b).map λj=>lv s (a+(j:Nat))))=(dO j).map λj=>lv s (a+(j:Nat)))▸List.take_prefix _ _
def AU(a b:Int)(c:Nat)(k:Nat):∀d:Nat,cJ a b k c <+: cJ a b (k+d) c
 |0=>List.prefix_rfl
 |d+1=>by rw[<-Nat.add_assoc,kE];exact(AU a b c k d).trans (List.prefix_append _ _)
def Nm(a b:Int)(c d k j:Nat)(g:k<c)(h:j<d):cJ a b k d++fD (a+(k:Nat)) b j++[lv (a+(k:Nat)) (b+(j:Nat))] <+: cJ a b c d:=by
 rw[el,<-nA];obtain⟨t,e⟩:=Nl (a+(k:Nat)) b d (j+1) (by omega);obtain⟨u,f⟩:=AU a b d (k+1) (c-(k+1));rw[show k+1+(c-(k+1))=c by omega,kE,<-e]at f
 grind
def Rr(s r:Int)(w:World)(f:1<=s)(g:s<=90)(c : -s<=r)(d:r<=s):Calls PL 50 #[e6 f8 s,e6 f8 r] w λe w'=>e=f7 (e6 f8 (lv s r))/\w=w':=by
 obtain⟨n,rfl⟩:=fz (a:=s) (by omega);exact(AG n r w (by omega) (by omega) c d).mono λ_ _⟨a,b⟩=>⟨a,b.symm⟩
def yC(B:Nat)(W a:World):Prop:=∀o:Nat,a.cell? ⟨B,o,none⟩=W.cell? ⟨B,o,none⟩
def Ii(n:Nat)(C:1<=n)(l g:Nat)(a b:Int)(d c:Nat)(D:1<=a)(E:a+d<=91)(F:1<=d)(H : -a<=b)(I:b+c<=a+1)(K:1<=c)(J r:List Int->World->Prop)
 (s:∀f x W,J f W->f.length<d*c->YieldAt Fence.wide (n-1) PL l #[e6 f8 x] W λe h=>
   (e=f7 (eW true)/\J (f++[x]) h/\yC g W h)\/(e=f7 (eW false)/\r (f++[x]) h))
 (W:World) (c1:W.cell? ⟨g,1,none⟩=some (e6 f8 a)) (t:W.cell? ⟨g,2,none⟩=some (e6 f8 (a+d-1))) (c3:W.cell? ⟨g,3,none⟩=some (e6 f8 b)) (u:W.cell? ⟨g,4,none⟩=some (e6 f8 (b+c-1))) (w:J [] W) :
 CallsIn Fence.wide n PL 78 #[.func (.yield l) #[] #[],fg (some ⟨g,0,none⟩)] W λe h=>(∃v,e=f7 v)/\
  ((∃ys,ys=cJ a b d c/\J ys h)\/(∃f,f <+: cJ a b d c/\r f h)):=by
 refine callsIn_of_wp (fx (by decide) Tryz.func78) rfl trivial ?_ rfl;simp only[Tryz.ntmps78,List.size_toArray,List.length_cons,ej,Nat.reduceAdd,Nat.reduceSub,Array.replicate_succ,Array.replicate_zero,List.push_toArray,List.append_toArray,List.nil_append,ed]
 gi_wp2
 gi_loopw [3] (λv wr=>∃k:Nat,k<=d/\v=e6 f8 (a+k)/\J (cJ a b k c) wr/\(wr.cell? ⟨g,1,none⟩=some (e6 f8 a)/\wr.cell? ⟨g,2,none⟩=some (e6 f8 (a+d-1))/\wr.cell? ⟨g,3,none⟩=some (e6 f8 b)/\wr.cell? ⟨g,4,none⟩=some (e6 f8 (b+c-1)))) (λv _=>(a+d-intOf v).toNat)
 case atStart=>exact⟨0,dq _,by simp,w,c1,t,c3,u⟩
 case round=>
  obtain⟨k,i,rfl,m,d1,d2,d3,d4⟩:=hrel;by_cases y:k<d
  ·have z:a+(k:Int)<=a+d-1:=by omega
   gi_wp2
   gi_loopw [4] (λv wr=>∃j:Nat,j<=c/\v=e6 f8 (b+j)/\J (cJ a b k c++fD (a+(k:Nat)) b j) wr/\(wr.cell? ⟨g,1,none⟩=some (e6 f8 a)/\wr.cell? ⟨g,2,none⟩=some (e6 f8 (a+d-1))/\wr.cell? ⟨g,3,none⟩=some (e6 f8 b)/\wr.cell? ⟨g,4,none⟩=some (e6 f8 (b+c-1)))) (λv _=>(b+c-intOf v).toNat)
   case atStart=>exact⟨0,dq _,by simp,by simpa[fD]using m,d1,d2,d3,d4⟩
   case round=>
    obtain⟨j,L,rfl,m,d1,d2,d3,d4⟩:=hrel;by_cases o:j<c
    ·have A:b+(j:Int)<=b+c-1:=by omega
     have hlen:(cJ a b k c++fD (a+(k:Nat)) b j).length<d*c:=by
      rw[ek,AQ,AP];have:=Nat.mul_le_mul_right c (show k+1<=d by omega)
      grind
     obtain⟨fn,tmps,assign,body,hy,B⟩:=s _ (lv (a+(k:Nat)) (b+(j:Nat))) wr m hlen
     gi_wp2_with (refine⟨trivial,?_⟩;refine(callsIn_wide.2 (Rr _ _ _ (by omega) (by omega) (by omega) (by omega))).mono ?_;rintro e w'⟨rfl,rfl⟩)
     refine B.mono ?_;rintro e h(⟨rfl,p,i⟩|⟨rfl,q⟩)
     ·gi_wp2
      refine⟨⟨j+1,by omega,by congr 1;push_cast;omega,by rw[nA,<-el];exact p,(i 1).trans d1,(i 2).trans d2,(i 3).trans d3,(i 4).trans d4⟩,?_⟩;simp only[intOf];omega
     ·gi_wp2
      refine aF (results_none rfl _ _ _) rfl ⟨⟨_,rfl⟩,.inr ⟨_,Nm a b d c k j y o,q⟩⟩
    ·have A:b+(c:Int)-1<b+j:=by omega
     obtain rfl:j=c:=by omega
     gi_wp2
     refine⟨⟨k+1,by omega,by congr 1;push_cast;omega,by rw[kE];exact m,d1,d2,d3,d4⟩,?_⟩;simp only[intOf];omega
  ·have z:a+(d:Int)-1<a+k:=by omega
   obtain rfl:k=d:=by omega
   gi_wp2
   go_end0
   grind
def Km{B:Nat}{X Y Z:World}(h:yC B X Y)(k:yC B Y Z):yC B X Z:=λo=>(k o).trans (h o)
def Ko{B s:Nat}(a:B<s)(W:World)(l:Nat)(o o':Obj)(hl:s<=l)(_:W.heap[l]?=some o)(_:o.isCells=false)(_:o.isWalk=false):yC B W (W.putObj l o'):=λq=>by
 have:(W.putObj l o').heap[B]?=W.heap[B]?:=by
  simp only[World.putObj]
  grind
 simp[eI,this]
def tg(n:Nat)(i:1<=n)(a:Nat)(b d:Int)(e f:Nat)(j:1<=b)(k:b+e<=91)(m:1<=e)(o : -b<=d)(q:d+f<=b+1)(r:1<=f)(w:World)(c:a<w.heap.size)
 (c1:w.cell? ⟨a,1,none⟩=some (e6 f8 b)) (s:w.cell? ⟨a,2,none⟩=some (e6 f8 (b+e-1))) (c3:w.cell? ⟨a,3,none⟩=some (e6 f8 d)) (t:w.cell? ⟨a,4,none⟩=some (e6 f8 (d+f-1))) :
 SeqStopsK Fence.wide n PL 78 #[fg (some ⟨a,0,none⟩)] (λx:Int=>#[e6 f8 x]) (yC a) (λys=>ys=cJ b d e f) (λh=>h <+: cJ b d e f) (e*f) w:=λl J u W g _ _ v y=>
 Ii n i l a b d e f j k m o q r J u v W ((g.cell (p:=⟨a,1,none⟩) c).trans c1) ((g.cell (p:=⟨a,2,none⟩) c).trans s) ((g.cell (p:=⟨a,3,none⟩) c).trans c3) ((g.cell (p:=⟨a,4,none⟩) c).trans t) y
end Go.Proofs
