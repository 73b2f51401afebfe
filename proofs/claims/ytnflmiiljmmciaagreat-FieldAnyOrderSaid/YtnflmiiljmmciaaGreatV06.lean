/- Part of the proof of FieldAnyOrder. -/
import Derived.Test.YtnflmiiljmmciaaGreatV05
import Derived.BigQuiet
import Derived.Carry
import Derived.Deep.CutRange
import Derived.Deep.QuietTactic
import Derived.Deep.RegionHeld3
import Derived.Deep.RegionWith
import Derived.Deep.Slices
import Derived.Laws.RangeAny
import Derived.Lib.Hide
import Derived.LoopIn
import Derived.LoopNIn
import Derived.Maps.OwnOps
import Derived.Orders
import Derived.OwnWalk
import Derived.OwnWalkIn
import Derived.ProofKit
import Derived.RangeFuncBound
import Derived.RangeFuncCalls
import Derived.RangeFuncFrom
import Derived.RangeFuncLeaves
import Derived.RangeFuncNested
import Derived.Shelf.Abstract
import Derived.Shelf.RegionOpen
import Derived.Tactics
import Derived.Tactics2
import Derived.TacticsInMore
import Derived.WalkKit
import Derived.WalkLawsBesides
import Derived.WalkSpells
set_option linter.all false
open Go renaming Program->aa,TypeId->ac,World->ad,underlying->ag,sizeOf->aF,typeInfo->aI,zeroValue->aL,FuncId->aP,Value->aT,callFunc->bb,Calls->bi,Addr->bm,MapEntry->bv,Oper->bC,Exit->bL,wpList->bM,wpList_plain->bR,execOp->bT,bodyPost_ret->b1,results->b8,callsIn_wide->b9,callsIn_of_wp_marks->ca,wp_region_noPanic->cb,wpIn_rangeFunc_ownF->cd,cell_kept->ce,frozen_kept->cf,ownFrom_below->ch,grownBy_putObj'->ci,run_takeDeferred->cl,yielded->cm,execOp_congr->co
open Go.Sem renaming run->ct
open Go.Proofs.Tryz renaming progTables->cv,prog->cB,func14->cC,func17->cQ,func36->da,func15->db,func18->dd,func19->df,func70->dk,func38->dp,func33->dq,func43->dt,func63->du,func64->dv,func65->dC,func66->dL,func67->dO,func39->dQ,func40->dT,func41->dU,func42->d8,func27->d9,func44->ea,func45->eb,func69->ec,func46->ed,func51->eg,func98->eh,func99->ei,func100->ej,func101->ek,func68->el,func118->em,func102->ep,func103->eq,ntmps64->et,funcs->eu,ntmps101->eA,ntmps65->eD,ntmps67->eE,ntmps66->eF,ntmps27->eI,results27->eM,ntmps17->eN,ntmps68->eP,ntmps40->eQ,ntmps42->eS,ntmps41->eT,ntmps15->eV,ntmps14->eW,underlying56->e6,underlying94->e8,underlying32->e9,underlying88->fb,underlying27->fg,func71->fi,results18->fl,results19->fm
open Array renaming getElem?_setIfInBounds_ne->fo,replicate_succ->fp,replicate_zero->ft,getElem?_eq_none->fz,getElem?_eq_getElem->fA,getD_eq_getD_getElem?->fB,all_eq_true'->fJ,replicate->fO,getElem?_modify->fP
open Go.RowKit.Below renaming refl->fR,heap_alloc->fY,trans->f6
open Nat renaming le_refl->f7,zero_le->f8,not_lt_zero->f9,le_succ_of_le->gc,lt_trans->ge,lt_of_lt_of_le->gg,add_zero->gj,le_succ->gl,lt_irrefl->gp,add_assoc->gr,reduceAdd->gt,reduceSub->gw,strongRecOn->gy,lt_or_ge->gB
open List renaming range->gD,all_eq_false->gE,all_eq_true->gG,map_cons->gL,range_succ->g4,map_append->g6,mem_range->g7,getElem?_eq_getElem->g8,drop_eq_getElem_cons->g9,length_append->hh,append_assoc->ht,size_toArray->hG,length_cons->hH,length_nil->hI,push_toArray->hJ,append_toArray->hK,nil_append->hM,cons_append->hT,foldl_append->hV,foldl_cons->hY,foldl_nil->hZ,mem_cons_of_mem->h6,mem_cons_self->h7,mem_append_left->h8,range_add->ib,countP_congr->ii,countP_cons->ik
open Go.Lib renaming hid->il
open Go.Frame renaming enter->im
open Go.Instr renaming checkKey->io,findKey->ip,sameNow->ix,findNow->iB,findAsking->iC,lookup->iN,mapUpdate->iP,index->iU
open Go.MapKept renaming run_getObj_map->iY
open Go.World renaming cell?_of_block->i3,cell?->i4,frozen?->i5,cell?_setCell_other->i6,cell?_setCell_same'->i7,frozen?_setCell->i9,size_alloc->jf,setCell->jk
open Go.Result renaming andThen->jl,ok->jn
open Bool renaming and_eq_true->jp,rec->jr,not_false->js,true_and->jt,not_eq_true'->jw
open Go.Value renaming bool->jx,int->jz,agg->jD,slice->jQ,string->jR,map->jX,pointer->j3,tuple->j4,func->j5
open Int renaming mul_nonneg->j6,mul_add->ka,le_total->kb,neg_mul_neg->kc,mul_le_mul->kd,eq_ofNat_of_zero_le->ke
open Go.Addr renaming add->kf,block->kg
open Go.Deep renaming choose_lt->kh
open Go.KeepsOthers renaming setCell->ki
open Go.Region renaming binds->kj,wanted->km,ready->ko
open Option renaming map_some->kp,getD_some->kq
open Go.Code renaming region->kt
open Go.Next renaming enter->kv,value->kw,skip->kx
open Go.Ending renaming returned->ky
open Go.IntKind renaming i64->kG
open Go.CallKind renaming normal->kS
open Or renaming inl->kY,inr->la
open Go.Obj renaming cells->ld
open Go.Exit renaming normal->lf
open Go.Departure renaming mixedOrders->lh
set_option maxHeartbeats 4000000
set_option maxRecDepth 100000
namespace Go
def nO(P:aa)(n:ac)(w:ad):ct P (ag n) w=match P.underlying n with|some i=>jn i w|none=>.halt (.stuck "no such type") w:=by
 cases h:P.underlying n<;>simp[ag,h]
section
variable {P Q:aa}
def yf(h:P.toTables=Q.toTables)(n:ac):P.info? n=Q.info? n:=by
 grind
def Cb(h:P.toTables=Q.toTables)(n:ac):P.underlying n=Q.underlying n:=by
 simp only[Program.underlying,yf h]
def yg(h:P.toTables=Q.toTables)(n:ac)(w:ad):ct P (ag n) w=ct Q (ag n) w:=by
 rw[nO,nO,Cb h]
def Hw(h:P.toTables=Q.toTables)(n:ac)(w:ad):ct P (aF n) w=ct Q (aF n) w:=by
 have e:=yf h n
 cases a:Q.info? n with
 |none=>rw[a]at e;simp[aF,aI,a,e]
 |some i=>rw[a]at e;simp[aF,aI,a,e]
def Na(h:P.toTables=Q.toTables)(n:ac)(w:ad):ct P (isAgg n) w=ct Q (isAgg n) w:=by
 have e:=Cb h n
 cases a:Q.underlying n with
 |none=>rw[a]at e;simp[isAgg,ag,a,e]
 |some d=>rw[a]at e;cases d<;>simp[isAgg,ag,a,e]
def QZ(h:P.toTables=Q.toTables)(n:ac)(w:ad):ct P (aL n) w=ct Q (aL n) w:=by
 have e:=yf h n
 cases a:Q.info? n with
 |none=>rw[a]at e;simp[aL,aI,a,e]
 |some i=>
  rw[a]at e;cases b:i.zero<;>simp[aL,aI,a,e,b]
end
end Go
namespace Go.Proofs
open Go.RowKit
abbrev bA(w W:ad):Prop:=Below w.heap.size w W
noncomputable def PL:aa:=⟨cv,cY.funcs⟩
def mo:PL.toTables=Tryz.prog.toTables:=rfl
def fx{n:Nat}{f:Func}(h:29≠n)(hf:Tryz.prog.funcs[n]?=some f):PL.funcs[n]?=some f:=by
 show(Tryz.funcs.setIfInBounds 29 nS)[n]?=_;rw[fo h];exact hf
@[simp] def PL.tables:PL.toTables=Tryz.prog.toTables:=rfl
@[simp] def PL.tY(n:ac):PL.underlying n=Tryz.prog.underlying n:=Cb mo n
@[simp] def PL.abF(n:ac)(w:ad):ct PL (aF n) w=ct cB (aF n) w:=Hw mo n w
@[simp] def PL.runUnderlying(n:ac)(w:ad):ct PL (ag n) w=ct cB (ag n) w:=yg mo n w
@[simp] def PL.afe(n:ac)(w:ad):ct PL (isAgg n) w=ct cB (isAgg n) w:=Na mo n w
@[simp] def PL.U4(n:ac)(w:ad):ct PL (aL n) w=ct cB (aL n) w:=QZ mo n w
end Go.Proofs
namespace Go
def JZ{P:aa}{n:aP}{fn:Func}(h:P.funcs[n]?=some fn)(a:(fn.name == "runtime.NumGoroutine")=false)(hb:fn.body.isNone=false)(args:Array aT)(w:ad):ct P (bb n args) w=jn (kv n args) w:=by
 have b:fn.name≠ "runtime.NumGoroutine":=by simpa using a
 have c:fn.body≠none:=λe=>by rw[e]at hb;cases hb
 simp[bb,h,b,c]
end Go
namespace Go.Proofs
abbrev ax(n:aP):Prop:=∀(args:Array aT)(w:ad),ct PL (bb n args) w=jn (kv n args) w
def pc{n:aP}{fn:Func}(h:Tryz.prog.funcs[n]?=some fn)(a:29≠n:=by decide)(b:(fn.name == "runtime.NumGoroutine")=false:=by decide +kernel)(hb:fn.body.isNone=false:=by rfl):ax n:=
 JZ (fx a h) b hb
def Cc:PL.funcs[29]?=some nS:=by
 have hl:29<Tryz.funcs.size:=(Array.getElem?_eq_some_iff.1 Tryz.func29).1;show(Tryz.funcs.setIfInBounds 29 nS)[29]?=_;grind
@[simp] def PL.call98(args:Array aT)(w:ad):ct PL (bb 29 args) w=jn (kv 29 args) w:=JZ Cc (by decide +kernel) rfl args w
@[simp] def PL.call18:ax 14:=pc cC
@[simp] def PL.call19:ax 5:=pc Tryz.func5
@[simp] def PL.call20:ax 17:=pc cQ
@[simp] def PL.call22:ax 36:=pc da
@[simp] def PL.call23:ax 15:=pc db
@[simp] def PL.call24:ax 18:=pc dd
@[simp] def PL.call26:ax 19:=pc df
@[simp] def PL.call28:ax 9:=pc Tryz.func9
@[simp] def PL.call30:ax 13:=pc Tryz.func13
@[simp] def PL.call31:ax 11:=pc Tryz.func11
@[simp] def PL.call33:ax 4:=pc Tryz.func4
@[simp] def PL.call34:ax 20:=pc Tryz.func20
@[simp] def PL.call36:ax 6:=pc Tryz.func6
@[simp] def PL.call37:ax 8:=pc Tryz.func8
@[simp] def PL.call38:ax 24:=pc Tryz.func24
@[simp] def PL.call39:ax 22:=pc Tryz.func22
@[simp] def PL.call45:ax 70:=pc dk
@[simp] def PL.call49:ax 7:=pc Tryz.func7
@[simp] def PL.call52:ax 23:=pc Tryz.func23
@[simp] def PL.call55:ax 10:=pc Tryz.func10
@[simp] def PL.call56:ax 12:=pc Tryz.func12
@[simp] def PL.call58:ax 25:=pc Tryz.func25
@[simp] def PL.call59:ax 21:=pc Tryz.func21
@[simp] def PL.call65:ax 26:=pc Tryz.func26
@[simp] def PL.call74:ax 38:=pc dp
@[simp] def PL.call77:ax 16:=pc Tryz.func16
@[simp] def PL.call78:ax 33:=pc dq
@[simp] def PL.call79:ax 43:=pc dt
@[simp] def PL.call81:ax 63:=pc du
@[simp] def PL.call82:ax 64:=pc dv
@[simp] def PL.call83:ax 65:=pc dC
@[simp] def PL.call84:ax 66:=pc dL
@[simp] def PL.call85:ax 67:=pc dO
@[simp] def PL.call86:ax 39:=pc dQ
@[simp] def PL.call87:ax 40:=pc dT
@[simp] def PL.call88:ax 41:=pc dU
@[simp] def PL.call89:ax 42:=pc d8
@[simp] def PL.call90:ax 27:=pc d9
@[simp] def PL.call91:ax 44:=pc ea
@[simp] def PL.call92:ax 45:=pc eb
@[simp] def PL.call94:ax 69:=pc ec
@[simp] def PL.call96:ax 46:=pc ed
@[simp] def PL.call97:ax 28:=pc Tryz.func28
@[simp] def PL.call99:ax 30:=pc Tryz.func30
@[simp] def PL.call100:ax 34:=pc Tryz.func34
@[simp] def PL.call101:ax 35:=pc Tryz.func35
@[simp] def PL.call105:ax 37:=pc Tryz.func37
@[simp] def PL.call108:ax 47:=pc Tryz.func47
@[simp] def PL.call109:ax 48:=pc Tryz.func48
@[simp] def PL.call110:ax 49:=pc Tryz.func49
@[simp] def PL.call111:ax 32:=pc Tryz.func32
@[simp] def PL.call112:ax 51:=pc eg
@[simp] def PL.call113:ax 52:=pc Tryz.func52
@[simp] def PL.call114:ax 31:=pc Tryz.func31
@[simp] def PL.call115:ax 53:=pc Tryz.func53
@[simp] def PL.call118:ax 50:=pc Tryz.func50
@[simp] def PL.call127:ax 98:=pc eh
@[simp] def PL.call128:ax 75:=pc Tryz.func75
@[simp] def PL.call131:ax 99:=pc ei
@[simp] def PL.call132:ax 100:=pc ej
@[simp] def PL.call133:ax 101:=pc ek
@[simp] def PL.call134:ax 68:=pc el
@[simp] def PL.call142:ax 62:=pc Tryz.func62
@[simp] def PL.call143:ax 72:=pc Tryz.func72
@[simp] def PL.call145:ax 74:=pc Tryz.func74
@[simp] def PL.call146:ax 60:=pc Tryz.func60
@[simp] def PL.call151:ax 104:=pc Tryz.func104
@[simp] def PL.call152:ax 105:=pc Tryz.func105
@[simp] def PL.call153:ax 106:=pc Tryz.func106
@[simp] def PL.call154:ax 107:=pc Tryz.func107
@[simp] def PL.call157:ax 118:=pc em
@[simp] def PL.call158:ax 102:=pc ep
@[simp] def PL.call159:ax 103:=pc eq
@[simp] def PL.call180:ax 97:=pc Tryz.func97
@[simp] def PL.call181:ax 96:=pc Tryz.func96
@[simp] def PL.call191:ax 117:=pc Tryz.func117
@[simp] def PL.call199:ax 126:=pc Tryz.func126
open Go.RowKit
set_option maxHeartbeats 400000
def aO(v:aT)(w:ad)(e:Ending)(w':ad):Prop:=e=ky v/\bA w w'
def bO(n a b:Int):Bool:=decide (a<=n)&&decide (n<=b)
def bG(n a b:Int)(w:ad) :
 bi PL 33 #[jz kG n,jz kG a,jz kG b] w λe w'=>e=ky (jx (bO n a b))/\w'=w:=by
 go_enter (fx ao dq),Tryz.ntmps33;go_wp2
 all_goals (go_ret;simp[bO];try omega)
def o8(n:Int)(w:ad):bi PL 51 #[jz kG n] w λe w'=>e=ky (jx (bO n 0 12))/\w'=w:=by
 go_enter (fx ao eg),Tryz.ntmps51
 go_wp2_with (go_at_call 33;refine(bG _ _ _ _).mono ?_;rintro e w'⟨rfl,rfl⟩)
 go_ret;exact⟨rfl,rfl⟩
def eK(a b low c:Int):Bool:=decide (low<=a)&&decide (a<=b)&&decide (b<=c)
def nh(a b low c:Int)(w:ad) :
 bi PL 98 #[jD #[jz kG a,jz kG b],jz kG low,jz kG c] w (aO (jx (eK a b low c)) w):=by
 go_enter (fx ao eh),Tryz.ntmps98;go_wp2
 all_goals (go_ret;refine⟨?_,(fR _ _).alloc (f7 _) _⟩;simp[eK];try omega)
def Ej(a b:Bool):Int:=if b then(if a then 0 else 2) else 1
def U5(a b:Bool)(w:ad):bi PL 46 #[jx a,jx b] w λe w'=>e=ky (jz kG (Ej a b))/\w'=w:=by
 cases a<;>cases b
 all_goals
  go_enter (fx ao ed),Tryz.ntmps46;go_wp2;go_ret;exact⟨rfl,rfl⟩
def fN{n a b:Int}(h:bO n a b=true)(w:ad):bi PL 33 #[jz kG n,jz kG a,jz kG b] w λe w'=>e=ky (jx true)/\w'=w:=by
 have:=bG n a b w;rwa[h]at this
def pZ{n a b:Int}(h:bO n a b=false)(w:ad):bi PL 33 #[jz kG n,jz kG a,jz kG b] w λe w'=>e=ky (jx false)/\w'=w:=by
 have:=bG n a b w;rwa[h]at this
def Ek{a b low c:Int}(h:eK a b low c=true)(w:ad):bi PL 98 #[jD #[jz kG a,jz kG b],jz kG low,jz kG c] w (aO (jx true) w):=by
 have:=nh a b low c w;rwa[h]at this
def El{a b low c:Int}(h:eK a b low c=false)(w:ad):bi PL 98 #[jD #[jz kG a,jz kG b],jz kG low,jz kG c] w (aO (jx false) w):=by
 have:=nh a b low c w;rwa[h]at this
def aV{b:Bool}(h:¬b=true):b=false:=by simpa using h
def pq(n:Nat)(x:Nat->Int×Int):Int:=if bO n 1 3 then(if(gD n).all λi=>eK (x i).1 (x i).2 0 90 then 0 else 1) else 2
def Nb(l p:Int)(b:Option bm)(k o n c:Nat)(x:Nat->Int×Int)(z A v5:aT)(w:ad)(E:n<=20)(s:k<w.heap.size)(hs:0<n->b=some ⟨k,o,none⟩)
 (t:∀i,i<n->w.cell? ⟨k,o+i*2,none⟩=some (jz kG (x i).1)) (u:∀i,i<n->w.cell? ⟨k,o+i*2+1,none⟩=some (jz kG (x i).2)) :
 bi PL 64 #[jD #[jz kG l,jz kG p,jQ b n c,z,A,v5]] w (aO (jz kG (pq n x)) w):=by
 have B:=il t;have C:=il u;clear t u;by_cases hb:bO (↑n) 1 3=true
 .have D:0<n:=by simp[bO]at hb;omega
  obtain rfl:=hs D;have d:=il hb;clear hb hs;go_enter (fx ao dv),et
  go_wp2_with (go_at_call 33;refine(fN d.out _).mono ?_;rintro e w'⟨rfl,rfl⟩)
  go_loopw [15] (λi wr=>∃m:Nat,m<=n/\i=jz kG m/\(∀j,j<m->eK (x j).1 (x j).2 0 90=true)/\bA w wr) (λi _=>n-(intOf i).toNat)
  case atStart=>exact⟨0,f8 _,rfl,λj f=>absurd f (f9 _),(fR _ _).alloc (f7 _) _⟩
  case round=>
   obtain⟨m,F,rfl,v,a⟩:=hrel;have y:=il v;clear v;by_cases q:m<n
   .have c0:=(a.cell (p:=⟨k,o+m*2,none⟩) s).trans (B.out m q);have c1:=(a.cell (p:=⟨k,o+m*2+1,none⟩) s).trans (C.out m q);by_cases hi:eK (x m).1 (x m).2 0 90=true
    .have g:=il hi;clear hi
     go_wp2_with (go_at_call 98;refine(Ek g.out _).mono ?_;rintro e w1⟨rfl,r⟩)
     go_roundw
     case rel=>exact⟨m+1,q,by go_num,λj f=>by
      rcases Nat.lt_succ_iff_lt_or_eq.1 f with h|h
      .exact y.out j h
      .rw[h];exact g.out,(a.alloc a.size _).trans (r.mono (by simpa using gc a.size))⟩
     case measure=>simp[intOf];omega
    .have g:=il (aV hi);clear hi
     go_wp2_with (go_at_call 98;refine(El g.out _).mono ?_;rintro e w1⟨rfl,r⟩)
     go_ret;refine⟨?_,?_⟩
     .have:((gD n).all λi=>eK (x i).1 (x i).2 0 90)=false:=by
       rw[gE];exact⟨m,List.mem_range.2 q,by simp[g.out]⟩
      simp[pq,d.out,this]
     .exact(a.alloc a.size _).trans (r.mono (by simpa using gc a.size))
   .go_wp2;go_ret;refine⟨?_,a⟩;have:((gD n).all λi=>eK (x i).1 (x i).2 0 90)=true:=by
     rw[gG];intro j f;exact y.out j (by have:=List.mem_range.1 f;omega)
    simp[pq,d.out,this]
 .have d:=il (aV hb);clear hb;go_enter (fx ao dv),et
  go_wp2_with (go_at_call 33;refine(pZ d.out _).mono ?_;rintro e w'⟨rfl,rfl⟩)
  go_ret;exact⟨by simp[pq,d.out],(fR _ _).alloc (f7 _) _⟩
open Go.bJ Go.Conc Go.ConcM
noncomputable abbrev PA:aa:=⟨cv,eu⟩
def U6{f:aP}{fn:Func}{tr:Tmp}(hf:FF f=true)(k:XX f=false)(K:Tryz.progTables.inits.idxOf? f=none)(q:cY.funcs[f]?=some fn)(r:eu[f]?=some fn)(L:fn.results=#[.tmp tr])
 {W:ad} (O:Tryz.progTables.globals.size<=W.heap.size) (Q:Calm W.tape) {g args:Array aT} (l:VA FF (ox W) g args)
 (law:∀w:ad,w.heap=(cV FF W).heap->bi PL f g w (aO (jx true) w)) :
 ∃M last o w' m,runNT PA (M+1) (solo (G (im PA f args kS) []) W) #[]=(.ended o w',m)/\runN PA M (solo (G (im PA f args kS) []) W)=.next last/\step PA last=.ended o w'/\
  Go.Conc.Good PA (λv a=>v=jx true/\bA W { a with os:=W.os }/\OsLater W.os a.os) last o w' m:=by
 let R:aT->ad->Prop:=λv w'=>v=jx true/\∀b,b<W.heap.size->w'.heap[b]?=(cV FF W).heap[b]?;have F:∀v w H d,R v w->R v (World.re w H d):=λv w H d h=>h;have i:WR Tryz.progTables.globals.size FF (codeOk cv FF ZZ) (ox W) (cV FF W) W:=wr0 O rfl;have S:Term PC (lQ PC f R) (fH (im PC f g kS) [aX PC]) (cV FF W):=by
  refine zD bV (ρ:=ox W) Yr i hf l (R:=R) F λT=>?_;refine(law ((cV FF W).re T 0) rfl).mono ?_;rintro e w'⟨rfl,U⟩;exact⟨rfl,λb hb=>U.block b (by show b<(cV FF W).heap.size;rw[mT];omega)⟩
 have c:iE cv cY.funcs FF ZZ (fH (im PC f g kS) [aX PC]) (cV FF W):=
  ⟨ox W,fH (im PC f args kS) [],W,⟨.alike (fe (bV.same f hf rfl) hf l),⟨[],rfl,.nil,(λx k=>by cases k;rfl),λ_=>fe (bV.same f hf rfl) hf l⟩,rfl,rfl,rfl,rfl,rfl,rfl⟩,Yr,i⟩
 have s:=Yp JN bV (R:=R) F K q r L (U2 f R) S c 0 _ _ (cV FF W).tape (cV FF W).drawn (.zero _ _);have s:kK cv cY.funcs eu FF XX ZZ R (fH (im PC f g kS) [aX PC]) (cV FF W):=s;have I:aQ cv FF ZZ cY.funcs eu (ox W) (im PC f g kS) (im PA f args kS):=fe (JN.same f hf k) hf l;have u:GR cv cY.funcs eu FF XX ZZ (aX PC) (ox W) (fH (im PC f g kS) [aX PC]) (fH (im PA f args kS) []):=
  ⟨.alike I,⟨[],rfl,.nil,(λx k=>by cases k;rfl),λ_=>I⟩,rfl,rfl,rfl,rfl,rfl,rfl⟩
 obtain⟨N,aJ,v,v',wl,j,y,g1,p,t1,q1,V,J,z,X,Y,Z,r6,r7,r8,r9,TP⟩:=s (ox W) (fH (im PA f args kS) []) W #[fH (im PA f args kS) []] none #[] (λ_=>0) (λ_=>False) c u Yr i
  ⟨rfl,leavers_one _ _,past_nil.mono (f8 _),λop aB=>by simp at aB⟩ ⟨λ_ h=>h.elim,λ_ h=>h.elim,λ_ h=>h.elim⟩ Q
 obtain⟨rfl,A⟩:=r6;have Dm:=LV (w0:=cV FF W) rfl A r7 r8 r9 TP;obtain rfl:v'=jx true:=by cases Z;rfl
 have Eb:∀d,(fun(v:aT)(a:ad)=>v=jx true/\bA W { a with os:=W.os }/\OsLater W.os a.os) (jx true) (j.at d):=λd=>
  ⟨rfl,⟨rfl,TP.tape,TP.output,TP.size,Dm⟩,TP.os⟩
 obtain⟨C,last,o,w',m,e1,e2,e3,e4⟩:=beside_ends (P:=PA) (Shun:=V) (B:=j.heap.size) (D:=λ_ _ _=>False) (Post:=λv a=>v=jx true/\bA W { a with os:=W.os }/\OsLater W.os a.os) (λ_ _ _ h=>h.elim) z.main z.old z.GA (n:=0) (w:=j) (sl:=p)
  (λai⟨d,e⟩=>by subst e;exact⟨X,jx true,#[],Y d,(λe he=>by simp at he),Eb d⟩)
 refine⟨N+C,last,o,w',m,?_,?_,e3,e4⟩
 .show runNT PA (N+(C+1)) (crowd _ W none) #[]=_;have E:runNT PA N (crowd #[G (im PA f args kS) []] W none) #[]=(.next (crowd y j p),t1):=J;rw[Go.runNT_add,E];exact e1
 .show runN PA (N+C) (crowd _ W none)=_;have E:runN PA N (crowd #[fH (im PA f args kS) []] W none)=.next (crowd y j p):=by rw[<-runNT_fst (t:=#[]),J]
  have h2:runN PA N (crowd #[G (im PA f args kS) []] W none)=.next (crowd y j p):=E;rw[runN_add,h2];exact e2
end Go.Proofs
namespace Go
open Instr Go.RowKit
section
variable {P:aa}{w:ad}
structure KeyLaw(P:aa)(tk:ac){α:Type}(enc:α->aT):Prop where
 check:∀b x w,(io b 10000 tk (enc x)).run P w=jn () w
 find:∀(es:List bv)(ks:List α)(x:α)(w:ad),es.map (·.key)=ks.map enc->∃r,(ip tk (enc x) es).run P w=jn r w/\(x∈ks->∃i,∃e∈es,r=some (i,e.val))/\(x∉ks->r=none)
def vq{c:Type}{enc:c->aT}{d:TypeDesc}(h:∀x y,ix d (enc x) (enc y)=some true/\x=y\/ix d (enc x) (enc y)=some false/\x≠y)(x:c) :
 ∀(es:List bv)(a:List c)(i:Nat),es.map (·.key)=a.map enc->∃r,iB d (enc x) es i=some r/\(x∈a->∃j,∃e∈es,r=some (j,e.val))/\(x∉a->r=none):=by
 intro es
 induction es with
 |nil=>
  intro a i b
  cases a with
  |nil=>exact⟨none,rfl,λh=>absurd h ar,λ_=>rfl⟩
  |cons _ _=>simp at b
 |cons e es l=>
  intro a i b
  cases a with
  |nil=>simp at b
  |cons y a=>
   simp only[gL,List.cons.injEq]at b
   rcases h x y with⟨f,rfl⟩|⟨f,o⟩
   .exact⟨some (i,e.val),by simp[iB,b.1,f],λ_=>⟨i,e,ar,rfl⟩,λg=>absurd ar g⟩
   .obtain⟨r,m,p,n⟩:=l a (i+1) b.2;refine⟨r,by simp[iB,b.1,f,m],λk=>?_,λg=>n λk=>g (by simp[k])⟩;grind
def yj{c:Type}{enc:c->aT}{tk:ac}[DecidableEq c](h:∀x y(w:ad),(Op.equal tk (enc x) (enc y)).run P w=jn (decide (x=y)) w)(x:c) :
 ∀(es:List bv)(a:List c)(i:Nat)(w:ad),es.map (·.key)=a.map enc->∃r,(iC tk (enc x) es i).run P w=jn r w/\(x∈a->∃j,∃e∈es,r=some (j,e.val))/\(x∉a->r=none):=by
 intro es
 induction es with
 |nil=>
  intro a i w b
  cases a with
  |nil=>exact⟨none,rfl,λh=>absurd h ar,λ_=>rfl⟩
  |cons _ _=>simp at b
 |cons e es k=>
  intro a i w b
  cases a with
  |nil=>simp at b
  |cons y a=>
   simp only[gL,List.cons.injEq]at b;by_cases f:x=y
   .subst f;exact⟨some (i,e.val),by simp[iC,b.1,h],λ_=>⟨i,e,ar,rfl⟩,λd=>absurd ar d⟩
   .obtain⟨r,l,n,m⟩:=k a (i+1) w b.2;refine⟨r,by simp[iC,b.1,h,f,l],λg=>?_,λd=>m λg=>d (by simp[g])⟩;grind
def Hx{tk:ac}{k:IntKind}(a:P.underlying tk=some (.int k)):KeyLaw P tk (λn:Int=>jz k n) where
 check b x w:=by
  show(io b (9999+1) tk _).run P w=_;generalize 9999=n;simp[io,ag,a]
 find es c x w e:=by
  obtain⟨r,f,g,i⟩:=vq (enc:=λn:Int=>jz k n) (d:=.int k) (λx y=>by
   by_cases h:x=y
   .exact kY ⟨by simp[ix,h],h⟩
   .exact la ⟨by simp[ix,h],h⟩) x es c 0 e
  exact⟨r,by simp[ip,ag,a,f],g,i⟩
def bytes_beq(x y:ByteArray):(x==y)=decide (x=y):=by
 obtain⟨a⟩:=x;obtain⟨b⟩:=y;show(a==b)=_;grind
instance:LawfulBEq ByteArray where
 rfl:=by intro a;rw[bytes_beq];simp
 eq_of_beq:=by intro a b h;rw[bytes_beq]at h;simpa using h
def zP{tk:ac}(a:P.underlying tk=some .string):KeyLaw P tk (λs:ByteArray=>jR s) where
 check b x w:=by
  show(io b (9999+1) tk _).run P w=_;generalize 9999=n;simp[io,ag,a]
 find es c x w e:=by
  obtain⟨r,f,g,i⟩:=vq (enc:=λn:ByteArray=>jR n) (d:=.string) (λx y=>by
   by_cases h:x=y
   .exact kY ⟨by simp[ix,bytes_beq,h],h⟩
   .exact la ⟨by simp[ix,bytes_beq,h],h⟩) x es c 0 e
  exact⟨r,by simp[ip,ag,a,f],g,i⟩
def aU(w:ad){a:Type}(enc:a->aT)(b:Nat)(l:List a):Prop:=∃es clock,w.heap[b]?=some (.map es clock)/\es.toList.map (·.key)=l.map enc/\∀e∈es.toList,e.val=jx true
def aU.of_heap{a:Type}{enc:a->aT}{b:Nat}{l:List a}{w w':ad}(h:aU w enc b l)(e:w'.heap[b]?=w.heap[b]?):aU w' enc b l:=by
 obtain⟨es,c,d,f⟩:=h;exact⟨es,c,e.trans d,f⟩
def aU.lookup{a:Type}{enc:a->aT}{b:Nat}{l:List a}{t tk g:ac}[DecidableEq a](h:aU w enc b l)(K:KeyLaw P tk enc)(j:P.underlying t=some (.map tk g))(m:(aL g).run P w=jn (jx false) w)(x:a) :
 (iN t (jX (some b)) (enc x) false).run P w=jn (jx (decide (x∈l))) w:=by
 obtain⟨es,c,k,n,o⟩:=h;obtain⟨r,f,p,q⟩:=K.find es.toList l x w n;by_cases d:x∈l
 .obtain⟨i,e,s,rfl⟩:=p d;simp[iN,ag,j,iY k,K.check,f,d,o e s]
 .rw[q d]at f;simp[iN,ag,j,iY k,K.check,f,d,m]
structure gv(w w':ad)(b:Nat):Prop where
 os:w'.os=w.os
 tape:w'.tape=w.tape
 output:w'.output=w.output
 size:w'.heap.size=w.heap.size
 block:∀c,c≠b->w'.heap[c]?=w.heap[c]?
def gv.below{w w':ad}{b B:Nat}(h:gv w w' b)(a:B<=b):Below B w w':=⟨h.os,h.tape,h.output,by rw[h.size];exact f7 _,λk c=>h.block k ab⟩
def gv.cell{w w':ad}{b:Nat}(h:gv w w' b){a:bm}(c:a.block≠b):w'.cell? a=w.cell? a:=i3 (w:=w) (h.block a.block c)
def aU.put{a:Type}{enc:a->aT}{b:Nat}{l:List a}{t tk i:ac}(h:aU w enc b l)(K:KeyLaw P tk enc)(j:P.underlying t=some (.map tk i)){x:a}(m:x∉l) :
 ∃w',(iP t (jX (some b)) (enc x) (jx true)).run P w=jn () w'/\aU w' enc b (l++[x])/\gv w w' b:=by
 obtain⟨es,c,d,f,o⟩:=h;obtain⟨r,g,p,n⟩:=K.find es.toList l x w f;rw[n m]at g;have hb:b<w.heap.size:=(Array.getElem?_eq_some_iff.1 d).1;refine⟨{ w with heap:=w.heap.setIfInBounds b (.map (es.push { key:=enc x,val:=jx true,born:=c }) (c+1)) },?_,⟨es.push { key:=enc x,val:=jx true,born:=c },c+1,by simp[hb],by simp[f],λe q=>?_⟩,rfl,rfl,rfl,ar,λk s=>?_⟩
 .simp[iP,ag,j,iY d,K.check,g,MapKept.run_setObj_map _ d]
 .grind
 grind
def aU.made{a:Type}{enc:a->aT}(w:ad):aU (w.alloc (.map #[] 0)) enc w.heap.size ([]:List a):=⟨#[],0,by show(w.heap.push _)[w.heap.size]?=_;simp,rfl,λe b=>by simp at b⟩
def aR{P:aa}(w:ad){ops:Array bC}{rest:List bC}{o:bC}{a:Act}{Q:bL->Act->ad->Prop}{c:Type}[DecidableEq c]{enc:c->aT}
 (hg:o.guard=none) (m x:Operand) (t tk d:ac) (g:o.op=Op.lookup t m x false) (K:KeyLaw P tk enc) (i:P.underlying t=some (.map tk d)) (j:(aL d).run P w=jn (jx false) w)
 (b:Nat) (l:List c) (k:a.eval m=jX (some b)) (h:aU w enc b l) (y:c) (n:a.eval x=enc y) (v:Bool) (hv:v=true↔y∈l) (p:bM P ops Q rest (a.put o.dst (jx v)) w):bM P ops Q (o::rest) a w:=by
 refine bR hg λq hK'=>?_;have f:=h.lookup K i j y;have e:decide (y∈l)=v:=by
  grind
 rw[e]at f;unfold Oper.wp;simp[bT,g,k,n,f,jl];exact hK' _ _ p
def dH{P:aa}(w:ad){ops:Array bC}{rest:List bC}{o:bC}{a:Act}{Q:bL->Act->ad->Prop}{c:Type}{enc:c->aT}
 (hg:o.guard=none) (m x v:Operand) (t tk d:ac) (e:o.op=Op.mapUpdate t m x v) (K:KeyLaw P tk enc) (f:P.underlying t=some (.map tk d))
 (b:Nat) (l:List c) (g:a.eval m=jX (some b)) (h:aU w enc b l) (y:c) (i:a.eval x=enc y) (hv:a.eval v=jx true) (j:y∉l)
 (k:∀w',aU w' enc b (l++[y])->gv w w' b->bM P ops Q rest (a.put o.dst undef) w'):bM P ops Q (o::rest) a w:=by
 refine bR hg λr hK'=>?_;obtain⟨w',n,p,q⟩:=h.put K f j;unfold Oper.wp;simp[bT,e,g,i,hv,n,jl];exact hK' _ _ (k w' p q)
end
end Go
namespace Go.Proofs
open Go.Instr
def aaj:PL.underlying 3=some (.int kG):=bo
def al1:PL.underlying 9=some .string:=bo
def qz:KeyLaw PL 3 (λn:Int=>jz kG n):=Hx aaj
def aak:KeyLaw PL 9 (λs:ByteArray=>jR s):=zP al1
def jc(p:Int×Int):aT:=jD #[jz kG p.1,jz kG p.2]
def mq(w:ad):(aL 4).run PL w=jn (jx false) w:=bo
def ju:PL.underlying 86=some (.map 3 4):=bo
def Hy:PL.underlying 163=some (.map 9 4):=bo
def Hz:PL.underlying 158=some (.map 160 4):=bo
def Q0:PL.stoodInHeld 160=false:=ae
def Nc:(PL.fieldsOf 160).toList=[{ name:= "low",type:=3,offset:=0,embedded:=false,tag:= "",pkgPath:= "nock/field",byteOffset:=0 },{ name:= "high",type:=3,offset:=1,embedded:=false,tag:= "",pkgPath:= "nock/field",byteOffset:=8 }]:=ae
def Q1:PL.underlying 160=some (.struct (PL.fieldsOf 160)):=ae
def afg(x y:Int×Int)(w:ad):(Op.equal 160 (jc x) (jc y)).run PL w=jn (decide (x=y)) w:=by
 obtain⟨a,b⟩:=x;obtain⟨c,d⟩:=y;have e:=run_equalIn_struct (P:=PL) w 9999 160 #[jz kG a,jz kG b] #[jz kG c,jz kG d] Q1 Q0;show(Op.equalIn (9999+1) 160 _ _).run PL w=_;rw[show jc (a,b)=jD #[jz kG a,jz kG b] from rfl,show jc (c,d)=jD #[jz kG c,jz kG d] from rfl,e,Nc];have f:∀(m n:Int)(w:ad),(Op.equalIn 9999 3 (jz kG m) (jz kG n)).run PL w=jn (m==n) w:=λm n w=>run_equalIn_int w 9998 3 kG kG m n aaj;generalize 9999=N at f;by_cases g:a=c<;>by_cases h:b=d<;>simp[Op.eqFields,part,f,g,h]
def Q4(b:Bool)(x:Int×Int)(w:ad):(io b 10000 160 (jc x)).run PL w=jn () w:=by
 obtain⟨a,c⟩:=x;show(io b (9999+1) 160 (jD #[jz kG a,jz kG c])).run PL w=_;have d:∀(m:Int)(w:ad),(io b 9999 3 (jz kG m)).run PL w=jn () w:=λm w=>by
  show(io b (9998+1) 3 _).run PL w=_;generalize 9998=n;simp[io]
 generalize 9999=n at d;simp[io,part,d]
def HH:KeyLaw PL 160 jc where
 check:=Q4
 find es a x w b:=by
  cases es with
  |nil=>
   cases a with
   |nil=>exact⟨none,by simp[ip,iB],λh=>absurd h ar,λ_=>rfl⟩
   |cons _ _=>simp at b
  |cons e es=>
   cases a with
   |nil=>simp at b
   |cons y a=>
    obtain⟨r,f,c,d⟩:=yj (P:=PL) (tk:=160) (enc:=jc) afg x (e::es) (y::a) 0 w b;have g:iB (TypeDesc.struct (PL.fieldsOf 160)) (jc x) (e::es) 0=none:=by
     simp[iB,ix]
    have i:(ag 160).run PL w=jn (.struct (PL.fieldsOf 160)) w:=run_underlying Q1 w;refine⟨r,?_,c,d⟩;unfold ip;simp_all
end Go.Proofs
namespace Go.Proofs
open Go.RowKit
set_option maxHeartbeats 400000
def jd(l p:Int):Int:=if bO l 1 999&&bO p 1 6 then 0 else 1
def Em(l p:Int)(a b c v5:aT)(w:ad) :
 bi PL 63 #[jD #[jz kG l,jz kG p,a,b,c,v5]] w (aO (jz kG (jd l p)) w):=by
 go_enter (fx ao du),Tryz.ntmps63
 go_wp2_with (go_at_call 33;refine(bG _ _ _ _).mono ?_;rintro e w'⟨rfl,rfl⟩)
 all_goals
  go_ret;refine⟨?_,(fR _ _).alloc (f7 _) _⟩;simp_all [jd]
def kQ(l p n:Int)(a b c v5:aT)(w:ad)(d:1<=p)(f:p<=6) :
 bi PL 99 #[jD #[jz kG l,jz kG p,a,b,c,v5],jz kG n] w (aO (jx (bO n 0 (p-1))) w):=by
 go_enter (fx ao ei),Tryz.ntmps99
 go_wp2_with (go_at_call 33;refine(bG _ _ _ _).mono ?_;rintro e w'⟨rfl,rfl⟩)
 go_ret;exact⟨rfl,(fR _ _).alloc (f7 _) _⟩
def eB(a b:Int):Int×Int:=(min a b,max a b)
def yl(a b c:Int)(w:ad):bi PL 100 #[jD #[jz kG a,jz kG b,jz kG c]] w (aO (jc (eB a b)) w):=by
 go_enter (fx ao ej),Tryz.ntmps100;go_wp2
 all_goals
  refine b1 (v:=jc (eB a b)) ?_ rfl ⟨rfl,((fR _ _).alloc (f7 _) _).alloc ar _⟩;have e:eB a b=(min a b,max a b):=rfl;simp[b8,Tryz.results100,go_sem,jc,e];omega
def jv(s:ByteArray)(k:Nat):Nat:=if h:k<s.size then(s[k]'h).toNat else 0
def wA(c:Int)(k:Nat):Bool:=bO c 97 122||(!decide (k=0)&&bO c 48 57)
def ku(s:ByteArray):Bool:=((gD s.size).all λi=>wA (jv s i) i)&&bO s.size 1 12
def U7(w:ad)(s:ByteArray)(k:Nat)(h:k<s.size):∃c k':Nat,c<=2147483647/\k<k'/\wA c k=wA (jv s k) k/\(wA c k=true->k'=k+1)/\
 ∀ty,(Instr.next (j3 (some ⟨w.heap.size,0,none⟩)) true ty).run PL (w.iter s k)=jn (j4 #[jx true,jz kG k,jz .i32 c]) (w.iter s k'):=by
 have a:jv s k=(s[k]'h).toNat:=by simp[jv,h]
 by_cases d:(s[k]'h).toNat<128
 .exact⟨_,k+1,ab,ab,by rw[a],λ_=>rfl,λty=>run_next_ascii w s k ty h d⟩
 .have hd:=decode_high s k h ab;have g:∀n:Nat,128<=n->wA n k=false:=λn i=>by
   simp only[wA,bO];have e:¬((n:Int)<=122):=ab;have f:¬((n:Int)<=57):=ab;simp[e,f]
  refine⟨(Utf8.decode s k).1,k+(Utf8.decode s k).2,decode_le s k,ab,?_,λb=>?_,λty=>run_next_any w s k ty h⟩
  .rw[g _ hd.1,a,g _ ab]
  .rw[g _ hd.1]at b;cases b
def qd{s:ByteArray}{k:Nat}(a:k<s.size)(h:wA (jv s k) k=false):ku s=false:=by
 have:((gD s.size).all λi=>wA (jv s i) i)=false:=by
  rw[gE];exact⟨k,List.mem_range.2 a,by rw[h];simp⟩
 simp[ku,this]
def ym(s:ByteArray)(w:ad)(hs:s.size<=100):bi PL 118 #[jR s] w (aO (jx (ku s)) w):=by
 go_enter (fx ao em),Tryz.ntmps118;go_wp2
 go_loopw [2] (λv wr=>∃k:Nat,k<=s.size/\v=jx false/\wr=w.iter s k/\∀j,j<k->wA (jv s j) j=true) (λ_ wr=>s.size-wr.iterPos w.heap.size)
 case atStart=>exact⟨0,f8 _,rfl,rfl,λj a=>absurd a (f9 _)⟩
 case round=>
  obtain⟨k,r,rfl,rfl,o⟩:=hrel;have l:=il o;clear o;by_cases b:k<s.size
  .obtain⟨c,k',hc,t,p,d,m⟩:=U7 w s k b;have f:=il p;have q:=il d;clear p d
   go_wp2_with (go_at_call 33;refine(bG _ _ _ _).mono ?_;rintro e w'⟨rfl,rfl⟩)
   .have hb:bO (↑c) 97 122=true:=ba;have hg:wA (↑c) k=true:=by simp[wA,hb]
    have zz:=q.out hg;clear m;subst zz
    exact⟨⟨k+1,b,rfl,rfl,λj a=>by
     rcases Nat.lt_succ_iff_lt_or_eq.1 a with h|h
     .exact l.out j h
     .rw[h,<-f.out];exact hg⟩,by simp;omega⟩
   .have hb:¬bO (↑c) 97 122=true:=ba;have g:k=0:=ba;have hg:wA (↑c) k=false:=by simp[wA,hb,g]
    go_ret;refine⟨?_,(fR _ _).alloc (f7 _) _⟩;rw[qd b (by rw[<-f.out];exact hg)];rfl
   .have hb:¬bO (↑c) 97 122=true:=ba;have g:¬k=0:=ba;have n:((k:Int)==0)=true\/(!bO (↑c) 48 57)=true:=ba;have hg:wA (↑c) k=false:=by
     rcases n with h|h
     .simp at h;omega
     .simp at h;simp[wA,hb,h]
    go_ret;refine⟨?_,(fR _ _).alloc (f7 _) _⟩;rw[qd b (by rw[<-f.out];exact hg)];rfl
   .have g:¬k=0:=ba;have hand:((k:Int)==0)=false/\(!bO (↑c) 48 57)=false:=ba;have hg:wA (↑c) k=true:=by
     have:=hand.2;simp at this;simp[wA,this,g]
    have zz:=q.out hg;clear m;subst zz
    exact⟨⟨k+1,b,rfl,rfl,λj a=>by
     rcases Nat.lt_succ_iff_lt_or_eq.1 a with h|h
     .exact l.out j h
     .rw[h,<-f.out];exact hg⟩,by simp;omega⟩
  .have m:=λty=>run_next_end (P:=PL) w s k ty b;obtain rfl:k=s.size:=ab
   go_wp2_with (go_at_call 33;refine(bG _ _ _ _).mono ?_;rintro e w'⟨rfl,rfl⟩)
   go_ret;refine⟨?_,(fR _ _).alloc (f7 _) _⟩;have:((gD s.size).all λi=>wA (jv s i) i)=true:=by
    rw[gG];intro j a;exact l.out j (List.mem_range.1 a)
   simp[ku,this]
abbrev yo:ByteArray->aT:=λs=>jR s
abbrev ahf:Int->aT:=λn=>jz kG n
structure nP(b:Nat)(w w':ad):Prop where
 os:w'.os=w.os
 tape:w'.tape=w.tape
 output:w'.output=w.output
 size:w.heap.size<=w'.heap.size
 block:∀c,c<w.heap.size->c≠b->w'.heap[c]?=w.heap[c]?
def nP.below{b B:Nat}{w w':ad}(h:nP b w w')(a:B<=b)(hs:B<=w.heap.size):Below B w w':=⟨h.os,h.tape,h.output,h.size,λk c=>h.block k ab ab⟩
def nP.En{b:Nat}{w w':ad}(h:bA w w'):nP b w w':=⟨h.os,h.tape,h.output,h.size,λc hc _=>h.block c hc⟩
def nP.then{b:Nat}{w w1 w2:ad}(h:bA w w1)(k:gv w1 w2 b):nP b w w2:=⟨k.os.trans h.os,k.tape.trans h.tape,k.output.trans h.output,by rw[k.size];exact h.size,λc hc hb=>(k.block c hb).trans (h.block c hc)⟩
def nP.cell{b:Nat}{w w':ad}(h:nP b w w'){a:bm}(c:a.block<w.heap.size)(hb:a.block≠b):w'.cell? a=w.cell? a:=i3 (w:=w) (h.block a.block c hb)
def nP.Xm{b c:Nat}{w w':ad}(h:nP b w w'){a:Type}{enc:a->aT}{l:List a}(k:aU w enc c l)(hc:c≠b):aU w' enc c l:=by
 obtain⟨es,q,d,e⟩:=k;exact⟨es,q,(h.block c (Array.getElem?_eq_some_iff.1 d).1 hc).trans d,e⟩
def aG{c:Nat}{w w':ad}(h:bA w w'){a:Type}{enc:a->aT}{l:List a}(k:aU w enc c l):aU w' enc c l:=by
 obtain⟨es,q,b,d⟩:=k;exact⟨es,q,(h.block c (Array.getElem?_eq_some_iff.1 b).1).trans b,d⟩
def aU.lt{c:Nat}{w:ad}{a:Type}{enc:a->aT}{l:List a}(k:aU w enc c l):c<w.heap.size:=by
 obtain⟨es,q,b,d⟩:=k;exact(Array.getElem?_eq_some_iff.1 b).1
def iH(s:ByteArray)(l:List ByteArray):Int:=if ku s then(if s∈l then 5 else 0) else 4
def U8(b:Nat)(s:ByteArray)(l:List ByteArray)(w:ad)(e:Ending)(w':ad):Prop:=
 e=ky (jz kG (iH s l))/\nP b w w'/\aU w' yo b (if iH s l=0 then l++[s] else l)
def Eo{s:ByteArray}(h:ku s=true)(w:ad)(hs:s.size<=100):bi PL 118 #[jR s] w (aO (jx true) w):=by
 have:=ym s w hs;rwa[h]at this
def Q5{s:ByteArray}(h:ku s=false)(w:ad)(hs:s.size<=100):bi PL 118 #[jR s] w (aO (jx false) w):=by
 have:=ym s w hs;rwa[h]at this
def wB(b:Nat)(s:ByteArray)(l:List ByteArray)(w:ad)(h:aU w yo b l)(hs:s.size<=100):bi PL 101 #[jX (some b),jR s] w (U8 b s l w):=by
 by_cases f:ku s=true
 .have c:=il f;clear f;by_cases g:s∈l
  .have d:=il g;clear g;go_enter (fx ao ek),eA
   go_wp2_with (first|(go_at_call 118;refine(Eo c.out _ hs).mono ?_;rintro e w1⟨rfl,a⟩)|(at_lookup;refine aR (enc:=yo) _ rfl _ _ 163 9 4 rfl aak Hy (mq _) b l rfl (aG a h) s rfl true (by simpa using d.out) ?_))
   go_ret;have e:iH s l=5:=by simp[iH,c.out,d.out]
   exact⟨by rw[e];rfl,.En a,by rw[e];exact aG a h⟩
  .have d:=il g;clear g;go_enter (fx ao ek),eA
   go_wp2_with (first|(go_at_call 118;refine(Eo c.out _ hs).mono ?_;rintro e w1⟨rfl,a⟩)|(at_lookup;refine aR (enc:=yo) _ rfl _ _ 163 9 4 rfl aak Hy (mq _) b l rfl (aG a h) s rfl false (by simpa using d.out) ?_)|(at_mapUpdate;refine dH (enc:=yo) _ rfl _ _ _ 163 9 4 rfl aak Hy b l rfl (aG a h) s rfl rfl d.out ?_;intro w2 i j))
   go_ret;have e:iH s l=0:=by simp[iH,c.out,d.out]
   exact⟨by rw[e];rfl,.then a j,by rw[e];exact i⟩
 .have c:=il (aV f);clear f;go_enter (fx ao ek),eA
  go_wp2_with (go_at_call 118;refine(Q5 c.out _ hs).mono ?_;rintro e w1⟨rfl,a⟩)
  go_ret;have e:iH s l=4:=by simp[iH,c.out]
  exact⟨by rw[e];rfl,.En a,by rw[e];exact aG a h⟩
set_option maxHeartbeats 1000000
def cW{W w1:ad}(hb:bA W w1):(∀b o,b<W.heap.size->w1.cell? ⟨b,o,none⟩=W.cell? ⟨b,o,none⟩)/\(∀b o,b<W.heap.size->w1.frozen? ⟨b,o,none⟩=W.frozen? ⟨b,o,none⟩):=
 ⟨λb o h=>hb.cell (p:=⟨b,o,none⟩) h,λb o h=>hb.frozen (p:=⟨b,o,none⟩) h⟩
theorem au(w:ad)(o:Obj):(w.alloc o).heap[w.heap.size]?=some o:=by
 show(w.heap.push _)[w.heap.size]?=_;simp
def bf{w:ad}{k:Nat}{x0 x1 x2 x3 x4 a:aT}{t:ac}(h:w.heap[k]?=some (ld #[x0,x1,x2,x3,x4,a] t)) :
 w.cell? ⟨k,0,none⟩=some x0/\w.cell? ⟨k,1,none⟩=some x1/\w.cell? ⟨k,2,none⟩=some x2/\w.cell? ⟨k,3,none⟩=some x3/\w.cell? ⟨k,4,none⟩=some x4/\w.cell? ⟨k,5,none⟩=some a:=by
 simp[i4,h]
def ia:Nat->(Nat->Int)->Int
 |0,_=>0
 |n+1,f=>if ia n f=0 then f n else ia n f
def cz{n:Nat}{f:Nat->Int}(h:∀j,j<n->f j=0):ia n f=0:=by
 induction n with
 |zero=>rfl
 |succ n a=>simp only[ia];rw[a λj b=>h j ab,if_pos rfl,h n ab]
def eG{n m:Nat}{f:Nat->Int}(h:∀j,j<m->f j=0)(b:m<n)(hf:f m≠0):ia n f=f m:=by
 induction n with
 |zero=>omega
 |succ n a=>
  simp only[ia];by_cases e:m=n
  .subst e;rw[cz h,if_pos rfl]
  .rw[a ab,if_neg hf]
def fQ(p:Int)(x:Nat->Int×Int×Int)(i:Nat):Int:=
 if bO (x i).1 0 (p-1)&&bO (x i).2.1 0 (p-1) then
  (if(x i).1=(x i).2.1 then 8 else if bO (x i).2.2 1 999 then(if eB (x i).1 (x i).2.1∈(gD i).map (λj=>eB (x j).1 (x j).2.1) then 5 else 0) else 1)
 else 6
def kz(p:Int)(n:Nat)(x:Nat->Int×Int×Int):Int:=if 9<n then 2 else ia n (fQ p x)
def Below.on{w W w1:ad}(h:bA w W)(k:bA W w1):bA w w1:=h.trans (k.mono h.size)
def dh{p:Int}{n m:Nat}{x:Nat->Int×Int×Int}{v:Int}(hb:¬9<n)(a:∀j,j<m->fQ p x j=0)(b:m<n)(hf:fQ p x m=v)(hv:v≠0):kz p n x=v:=by
 rw[kz,if_neg hb,eG a b (by rw[hf];exact hv),hf]
def aC{k:IntKind}{a b:Int}(h:b=a):Ending.returned (jz k a)=ky (jz k b):=by rw[h]
def Nf(l p:Int)(b:Option bm)(k o n c:Nat)(x:Nat->Int×Int×Int)(A B v5:aT)(w:ad)(Z:n<=20)(H:1<=p)(I:p<=6)(C:k<w.heap.size)(hs:0<n->b=some ⟨k,o,none⟩)
 (J:∀i,i<n->w.cell? ⟨k,o+i*3,none⟩=some (jz kG (x i).1)) (K:∀i,i<n->w.cell? ⟨k,o+i*3+1,none⟩=some (jz kG (x i).2.1)) (L:∀i,i<n->w.cell? ⟨k,o+i*3+2,none⟩=some (jz kG (x i).2.2)) :
 bi PL 65 #[jD #[jz kG l,jz kG p,A,jQ b n c,B,v5]] w (aO (jz kG (kz p n x)) w):=by
 have R:=il J;have S:=il K;have T:=il L;have U:=il hs;clear J K L hs;by_cases hb:9<n
 .go_enter (fx ao dC),eD;go_wp2;go_ret;exact⟨by simp[kz,hb],(fR _ _).alloc (f7 _) _⟩
 .have V:=@run_makeMap PL;go_enter (fx ao dC),eD;go_wp2
  go_loopw [16] (λi wr=>∃m:Nat,m<=n/\i=jz kG m/\(∀j,j<m->fQ p x j=0)/\aU wr jc (w.heap.size+1) ((gD m).map (λj=>eB (x j).1 (x j).2.1))/\wr.heap[w.heap.size]?=some (ld #[jz kG l,jz kG p,A,jQ b n c,B,v5] 77)/\bA w wr) (λi _=>n-(intOf i).toNat)
  case atStart=>
   refine⟨0,f8 _,rfl,λj D=>absurd D (f9 _),?_,?_,?_⟩
   .have:=aU.made (enc:=jc) (w.alloc (ld #[jz kG l,jz kG p,A,jQ b n c,B,v5] 77));simpa using this
   .rw[fY _ _ _ ar,au]
   .exact((fR _ _).alloc (f7 _) _).alloc ar _
  case round=>
   obtain⟨m,hm,rfl,M,N,O,u⟩:=hrel;have r:=il M;have P:=il O;clear M O;by_cases d:m<n
   .obtain rfl:=U.out ab;have c0:=(u.cell (p:=⟨k,o+m*3,none⟩) C).trans (R.out m d);have c1:=(u.cell (p:=⟨k,o+m*3+1,none⟩) C).trans (S.out m d);have c2:=(u.cell (p:=⟨k,o+m*3+2,none⟩) C).trans (T.out m d);have W:=aU.lt N;have y:w.heap.size<wr.heap.size:=ab;obtain⟨d0,d1,d2,d3,d4,d5⟩:=bf P.out;have g:aU (wr.alloc (ld #[jz kG (x m).1,jz kG (x m).2.1,jz kG (x m).2.2] 94)) jc (w.heap.size+1) ((gD m).map (λj=>eB (x j).1 (x j).2.1)):=aU.of_heap N (fY _ _ _ W);have q:bA w (wr.alloc (ld #[jz kG (x m).1,jz kG (x m).2.1,jz kG (x m).2.2] 94)):=u.alloc u.size _;have f:wr.heap.size<(wr.alloc (ld #[jz kG (x m).1,jz kG (x m).2.1,jz kG (x m).2.2] 94)).heap.size:=ar;have s:=il ((fY wr (ld #[jz kG (x m).1,jz kG (x m).2.1,jz kG (x m).2.2] 94) _ y).trans P.out);by_cases z:eB (x m).1 (x m).2.1∈(gD m).map (λj=>eB (x j).1 (x j).2.1)
    .have t:=il z;clear z
     go_wp2_with (first|(go_at_call 99;refine(kQ _ _ _ _ _ _ _ _ H I).mono ?_;rintro e w1⟨rfl,a⟩;obtain⟨E,F⟩:=cW a;have g:=aG a g;have q:=Below.on q a;have s:=il ((a.block _ (ge y f)).trans s.out);have f:=gg f a.size)|(go_at_call 33;refine(bG _ _ _ _).mono ?_;rintro e w'⟨rfl,rfl⟩)|(go_at_call 100;refine(yl _ _ _ _).mono ?_;rintro e w1⟨rfl,a⟩;obtain⟨E,F⟩:=cW a;have g:=aG a g;have q:=Below.on q a;have s:=il ((a.block _ (ge y f)).trans s.out);have f:=gg f a.size)|(at_lookup;refine aR (enc:=jc) _ rfl _ _ 158 160 4 rfl HH Hz (mq _) (w.heap.size+1) _ rfl g (eB (x m).1 (x m).2.1) rfl true (by simpa using t.out) ?_))
     all_goals go_ret
     all_goals refine⟨?_,q⟩
     all_goals first
      |exact aC (dh (v:=6) hb r.out d (by simp_all [fQ]) ao)
      |exact aC (dh (v:=8) hb r.out d (by simp_all [fQ]) ao)
      |exact aC (dh (v:=1) hb r.out d (by simp_all [fQ]) ao)
      |exact aC (dh (v:=5) hb r.out d (by have:=t.out;simp_all [fQ]) ao)
    .have t:=il z;clear z
     go_wp2_with (first|(go_at_call 99;refine(kQ _ _ _ _ _ _ _ _ H I).mono ?_;rintro e w1⟨rfl,a⟩;obtain⟨E,F⟩:=cW a;have g:=aG a g;have q:=Below.on q a;have s:=il ((a.block _ (ge y f)).trans s.out);have f:=gg f a.size)|(go_at_call 33;refine(bG _ _ _ _).mono ?_;rintro e w'⟨rfl,rfl⟩)|(go_at_call 100;refine(yl _ _ _ _).mono ?_;rintro e w1⟨rfl,a⟩;obtain⟨E,F⟩:=cW a;have g:=aG a g;have q:=Below.on q a;have s:=il ((a.block _ (ge y f)).trans s.out);have f:=gg f a.size)|(at_lookup;refine aR (enc:=jc) _ rfl _ _ 158 160 4 rfl HH Hz (mq _) (w.heap.size+1) _ rfl g (eB (x m).1 (x m).2.1) rfl false (by simpa using t.out) ?_)|(at_mapUpdate;refine dH (enc:=jc) _ rfl _ _ _ 158 160 4 rfl HH Hz (w.heap.size+1) _ rfl g (eB (x m).1 (x m).2.1) rfl rfl t.out ?_;intro w2 X Q))
     case roundEnd=>
      have Y:fQ p x m=0:=by have:=t.out;simp_all [fQ]
      refine⟨⟨m+1,d,by go_num,λj D=>?_,?_,(Q.block _ ab).trans s.out,f6 q (Q.below ab)⟩,by simp[intOf];omega⟩
      .rcases Nat.lt_succ_iff_lt_or_eq.1 D with h|h
       .exact r.out j h
       .rw[h];exact Y
      .rw[g4,g6];exact X
     all_goals go_ret
     all_goals refine⟨?_,q⟩
     all_goals first
      |exact aC (dh (v:=6) hb r.out d (by simp_all [fQ]) ao)
      |exact aC (dh (v:=8) hb r.out d (by simp_all [fQ]) ao)
      |exact aC (dh (v:=1) hb r.out d (by simp_all [fQ]) ao)
      |exact aC (dh (v:=5) hb r.out d (by have:=t.out;simp_all [fQ]) ao)
   .obtain rfl:m=n:=ab;go_wp2;go_ret;exact⟨by simp[kz,hb,cz r.out],u⟩
def J2{b:Nat}{W w1:ad}(h:nP b W w1):(∀c o,c<W.heap.size->c≠b->w1.cell? ⟨c,o,none⟩=W.cell? ⟨c,o,none⟩)/\(∀c(o:Nat),c<W.heap.size->c≠b->w1.frozen? ⟨c,o,none⟩=W.frozen? ⟨c,o,none⟩):=
 ⟨λc o d e=>h.cell (a:=⟨c,o,none⟩) d e,λc o d e=>World.frozen?_of_block (w:=W) (h.block c d e)⟩
def iI(np:Nat)(x:Nat->ByteArray×Int×Int)(i:Nat):Int:=
 if iH (x i).1 ((gD i).map λj=>(x j).1)=0 then
  (if bO (x i).2.1 0 (np-1) then(if(x i).2.1∈(gD i).map (λj=>(x j).2.1) then 10 else if bO (x i).2.2 0 12 then 0 else 1) else 6)
 else iH (x i).1 ((gD i).map λj=>(x j).1)
def pE(np n:Nat)(x:Nat->ByteArray×Int×Int):Int:=if 3<n then 2 else ia n (iI np x)
def ic{np n m:Nat}{x:Nat->ByteArray×Int×Int}{v:Int}(hb:¬3<n)(a:∀j,j<m->iI np x j=0)(b:m<n)(hf:iI np x m=v)(hv:v≠0):pE np n x=v:=by
 rw[pE,if_neg hb,eG a b (by rw[hf];exact hv),hf]
def HQ(l p:Int)(b z:Option bm)(k o n c np A:Nat)(x:Nat->ByteArray×Int×Int)(B C:aT)(w:ad)(hn:n<=20)(MC:np<=20)(E:k<w.heap.size)(hs:0<n->b=some ⟨k,o,none⟩)(J:∀i,i<n->(x i).1.size<=100)
 (K:∀i,i<n->w.cell? ⟨k,o+i*3,none⟩=some (jR (x i).1)) (L:∀i,i<n->w.cell? ⟨k,o+i*3+1,none⟩=some (jz kG (x i).2.1)) (M:∀i,i<n->w.cell? ⟨k,o+i*3+2,none⟩=some (jz kG (x i).2.2)) :
 bi PL 67 #[jD #[jz kG l,jz kG p,B,C,jQ z np A,jQ b n c]] w (aO (jz kG (pE np n x)) w):=by
 have S:=il K;have T:=il L;have U:=il M;have V:=il hs;have W:=il J;clear K L M hs J;by_cases hb:3<n
 .go_enter (fx ao dO),eE;go_wp2;go_ret;exact⟨by simp[pE,hb],(fR _ _).alloc (f7 _) _⟩
 .have X:=@run_makeMap PL;go_enter (fx ao dO),eE;go_wp2
  go_loopw [19] (λi wr=>∃m:Nat,m<=n/\i=jz kG m/\(∀j,j<m->iI np x j=0)/\aU wr yo (w.heap.size+1) ((gD m).map (λj=>(x j).1))/\aU wr ahf (w.heap.size+2) ((gD m).map (λj=>(x j).2.1))/\wr.heap[w.heap.size]?=some (ld #[jz kG l,jz kG p,B,C,jQ z np A,jQ b n c] 77)/\bA w wr) (λi _=>n-(intOf i).toNat)
  case atStart=>
   refine⟨0,f8 _,rfl,λj F=>absurd F (f9 _),?_,?_,?_,?_⟩
   .have:=aU.made (enc:=yo) (w.alloc (ld #[jz kG l,jz kG p,B,C,jQ z np A,jQ b n c] 77));exact aU.of_heap (by simpa using this) (fY _ _ _ ar)
   .have:=aU.made (enc:=ahf) ((w.alloc (ld #[jz kG l,jz kG p,B,C,jQ z np A,jQ b n c] 77)).alloc (.map #[] 0));simpa using this
   .rw[fY _ _ _ (by simp;omega),fY _ _ _ ar,au]
   .exact(((fR _ _).alloc (f7 _) _).alloc ar _).alloc (by simp;omega) _
  case round=>
   obtain⟨m,hm,rfl,N,Y,O,P,s⟩:=hrel;have g:=il N;have Q:=il P;clear N P;by_cases a:m<n
   .obtain rfl:=V.out ab;have c0:=(s.cell (p:=⟨k,o+m*3,none⟩) E).trans (S.out m a);have c1:=(s.cell (p:=⟨k,o+m*3+1,none⟩) E).trans (T.out m a);have c2:=(s.cell (p:=⟨k,o+m*3+2,none⟩) E).trans (U.out m a);have Z:=aU.lt O;have H:w.heap.size<wr.heap.size:=ab;have bu:wr.heap.size≠w.heap.size+1:=ab;obtain⟨d0,d1,d2,d3,d4,d5⟩:=bf Q.out;have t:aU (wr.alloc (ld #[jR (x m).1,jz kG (x m).2.1,jz kG (x m).2.2] 32)) yo (w.heap.size+1) ((gD m).map (λj=>(x j).1)):=aU.of_heap Y (fY _ _ _ ab);have r:aU (wr.alloc (ld #[jR (x m).1,jz kG (x m).2.1,jz kG (x m).2.2] 32)) ahf (w.heap.size+2) ((gD m).map (λj=>(x j).2.1)):=aU.of_heap O (fY _ _ _ Z);have q:bA w (wr.alloc (ld #[jR (x m).1,jz kG (x m).2.1,jz kG (x m).2.2] 32)):=s.alloc s.size _;have u:wr.heap.size<(wr.alloc (ld #[jR (x m).1,jz kG (x m).2.1,jz kG (x m).2.2] 32)).heap.size:=ar;have y:=il ((fY wr (ld #[jR (x m).1,jz kG (x m).2.1,jz kG (x m).2.2] 32) _ H).trans Q.out);have R:=W.out m a;by_cases D:(x m).2.1∈(gD m).map (λj=>(x j).2.1)
    .have d:=il D;clear D
     go_wp2_with (first|(go_at_call 101;refine(wB (w.heap.size+1) _ _ _ t R).mono ?_;rintro e w1⟨rfl,f,t⟩;obtain⟨lp,lR⟩:=J2 f;have r:=f.Xm r ab;have q:=f6 q (f.below ab q.size);have y:=il ((f.block _ (ge H u) ab).trans y.out);have u:=gg u f.size)|(go_at_call 33;refine(bG _ _ _ _).mono ?_;rintro e w'⟨rfl,rfl⟩)|(go_at_call 51;refine(o8 _ _).mono ?_;rintro e w'⟨rfl,rfl⟩)|(at_lookup;refine aR (enc:=ahf) _ rfl _ _ 86 3 4 rfl qz ju (mq _) (w.heap.size+2) _ rfl r (x m).2.1 rfl true (by simpa using d.out) ?_))
     all_goals go_ret
     all_goals refine⟨?_,q⟩
     all_goals first
      |exact aC (ic (v:=iH (x m).1 ((gD m).map λj=>(x j).1)) hb g.out a (by have:=d.out;simp_all [iI]) bo)
      |exact aC (ic (v:=6) hb g.out a (by have:=d.out;simp_all [iI]) ao)
      |exact aC (ic (v:=10) hb g.out a (by have:=d.out;simp_all [iI]) ao)
      |exact aC (ic (v:=1) hb g.out a (by have:=d.out;simp_all [iI]) ao)
    .have d:=il D;clear D
     go_wp2_with (first|(go_at_call 101;refine(wB (w.heap.size+1) _ _ _ t R).mono ?_;rintro e w1⟨rfl,f,t⟩;obtain⟨lp,lR⟩:=J2 f;have r:=f.Xm r ab;have q:=f6 q (f.below ab q.size);have y:=il ((f.block _ (ge H u) ab).trans y.out);have u:=gg u f.size)|(go_at_call 33;refine(bG _ _ _ _).mono ?_;rintro e w'⟨rfl,rfl⟩)|(go_at_call 51;refine(o8 _ _).mono ?_;rintro e w'⟨rfl,rfl⟩)|(at_lookup;refine aR (enc:=ahf) _ rfl _ _ 86 3 4 rfl qz ju (mq _) (w.heap.size+2) _ rfl r (x m).2.1 rfl false (by simpa using d.out) ?_)|(at_mapUpdate;refine dH (enc:=ahf) _ rfl _ _ _ 86 3 4 rfl qz ju (w.heap.size+2) _ rfl r (x m).2.1 rfl rfl d.out ?_;intro w2 yp I))
     case roundEnd=>
      have e1:iH (x m).1 ((gD m).map λj=>(x j).1)=0:=bo;have e0:iI np x m=0:=by have:=d.out;simp_all [iI]
      rw[if_pos e1]at t;refine⟨⟨m+1,a,by go_num,λj F=>?_,?_,?_,(I.block _ ab).trans y.out,f6 q (I.below ab)⟩,by simp[intOf];omega⟩
      .rcases Nat.lt_succ_iff_lt_or_eq.1 F with h|h
       .exact g.out j h
       .rw[h];exact e0
      .rw[g4,g6];exact aU.of_heap t (I.block _ ab)
      .rw[g4,g6];exact yp
     all_goals go_ret
     all_goals refine⟨?_,q⟩
     all_goals first
      |exact aC (ic (v:=iH (x m).1 ((gD m).map λj=>(x j).1)) hb g.out a (by have:=d.out;simp_all [iI]) bo)
      |exact aC (ic (v:=6) hb g.out a (by have:=d.out;simp_all [iI]) ao)
      |exact aC (ic (v:=10) hb g.out a (by have:=d.out;simp_all [iI]) ao)
      |exact aC (ic (v:=1) hb g.out a (by have:=d.out;simp_all [iI]) ao)
   .obtain rfl:m=n:=ab;go_wp2;go_ret;exact⟨by simp[pE,hb,cz g.out],s⟩
structure iJ where
 name:ByteArray
 n:Nat->Int
 lb:Option bm
 ln:Nat
 lc:Nat
 lk:Nat
 lo:Nat
 lane:Nat->Int
def fy(a:Nat)(lane:Nat->Int)(j:Nat):Int:=if bO (lane j) 0 (a-1) then(if 0<j/\lane j<=lane (j-1) then 7 else 0) else 6
def gM(p:Int)(a b:Nat)(x:Nat->iJ)(i:Nat):Int:=
 if iH (x i).name ((gD i).map λj=>(x j).name)=0 then
  (if eK ((x i).n 1) ((x i).n 2) 1 90&&eK ((x i).n 3) ((x i).n 4) (-90) 90 then
    (if(x i).n 1<(x i).n 4\/(x i).n 1 < -(x i).n 3 then 10 else
      if bO ((x i).n 5) 0 (a-1)&&bO ((x i).n 6) 0 (p-1) then
       (if eK ((x i).n 7) ((x i).n 8) 1 60&&eK ((x i).n 9) ((x i).n 10) 0 60 then ia (x i).ln (fy b (x i).lane) else 1)
      else 6)
  else 1)
 else iH (x i).name ((gD i).map λj=>(x j).name)
def kA(p:Int)(a b n:Nat)(x:Nat->iJ):Int:=if bO n 2 5 then ia n (gM p a b x) else 2
def dI{p:Int}{a b n m:Nat}{x:Nat->iJ}{v:Int}(hb:bO n 2 5=true)(c:∀j,j<m->gM p a b x j=0)(d:m<n)(hf:gM p a b x m=v)(hv:v≠0):kA p a b n x=v:=by
 rw[kA,if_pos hb,eG c d (by rw[hf];exact hv),hf]
def afi{w:ad}{k:Nat}{x0 x1 x2 x3 x4 b c d e f g a:aT}{t:ac}(h:w.heap[k]?=some (ld #[x0,x1,x2,x3,x4,b,c,d,e,f,g,a] t)):w.cell? ⟨k,11,none⟩=some a:=by
 simp[i4,h]
def Q7(l p:Int)(Z bq b:Option bm)(M r n cs cq c k o:Nat)(x:Nat->iJ)(v5:aT)(w:ad)(hn:n<=20)(Vb:M<=20)(Hr:r<=20)(J0:1<=p)(tL:p<=6)(F:k<w.heap.size)(hs:0<n->b=some ⟨k,o,none⟩)
 (uB:∀i,i<n->(x i).name.size<=100/\(x i).ln<=20) (h0:∀i,i<n->w.cell? ⟨k,o+i*12,none⟩=some (jR (x i).name)) (z:∀i,i<n->∀j,1<=j->j<=10->w.cell? ⟨k,o+i*12+j,none⟩=some (jz kG ((x i).n j)))
 (P:∀i,i<n->w.cell? ⟨k,o+i*12+11,none⟩=some (jQ (x i).lb (x i).ln (x i).lc)) (hl:∀i,i<n->0<(x i).ln->(x i).lb=some ⟨(x i).lk,(x i).lo,none⟩/\(x i).lk<w.heap.size)
 (Q:∀i,i<n->∀j,j<(x i).ln->w.cell? ⟨(x i).lk,(x i).lo+j,none⟩=some (jz kG ((x i).lane j))) :
 bi PL 66 #[jD #[jz kG l,jz kG p,jQ Z M cs,jQ bq r cq,jQ b n c,v5]] w (aO (jz kG (kA p M r n x)) w):=by
 have H0:=il h0;have I:=il z;have H11:=il P;have HL:=il hl;have HLC:=il Q;have HS:=il hs;have HN:=il uB;clear h0 z P hl Q hs uB;by_cases hb:bO (↑n) 2 5=true
 .have y:=il hb;clear hb;have hmm:=@run_makeMap PL;go_enter (fx ao dL),eF
  go_wp2_with (go_at_call 33;refine(fN y.out _).mono ?_;rintro e w'⟨rfl,rfl⟩)
  go_loopw [20] (λi wr=>∃m:Nat,m<=n/\i=jz kG m/\(∀j,j<m->gM p M r x j=0)/\aU wr yo (w.heap.size+1) ((gD m).map (λj=>(x j).name))/\wr.heap[w.heap.size]?=some (ld #[jz kG l,jz kG p,jQ Z M cs,jQ bq r cq,jQ b n c,v5] 77)/\bA w wr) (λi _=>n-(intOf i).toNat)
  case atStart=>
   refine⟨0,f8 _,rfl,λj z=>absurd z (f9 _),?_,?_,?_⟩
   .have:=aU.made (enc:=yo) (w.alloc (ld #[jz kG l,jz kG p,jQ Z M cs,jQ bq r cq,jQ b n c,v5] 77));simpa using this
   .rw[fY _ _ _ ar,au]
   .exact((fR _ _).alloc (f7 _) _).alloc ar _
  case round=>
   obtain⟨m,hm,rfl,ha,hN,sW,D⟩:=hrel;have B:=il ha;have HX:=il sW;clear ha sW;by_cases d:m<n
   .obtain rfl:=HS.out ab;have c0:=(D.cell (p:=⟨k,o+m*12,none⟩) F).trans (H0.out m d);have c1:=(D.cell (p:=⟨k,o+m*12+1,none⟩) F).trans (I.out m d 1 ab ab);have c2:=(D.cell (p:=⟨k,o+m*12+2,none⟩) F).trans (I.out m d 2 ab ab);have c3:=(D.cell (p:=⟨k,o+m*12+3,none⟩) F).trans (I.out m d 3 ab ab);have c4:=(D.cell (p:=⟨k,o+m*12+4,none⟩) F).trans (I.out m d 4 ab ab);have c5:=(D.cell (p:=⟨k,o+m*12+5,none⟩) F).trans (I.out m d 5 ab ab);have c6:=(D.cell (p:=⟨k,o+m*12+6,none⟩) F).trans (I.out m d 6 ab ab);have c7:=(D.cell (p:=⟨k,o+m*12+7,none⟩) F).trans (I.out m d 7 ab ab);have c8:=(D.cell (p:=⟨k,o+m*12+8,none⟩) F).trans (I.out m d 8 ab ab);have c9:=(D.cell (p:=⟨k,o+m*12+9,none⟩) F).trans (I.out m d 9 ab ab);have c10:=(D.cell (p:=⟨k,o+m*12+10,none⟩) F).trans (I.out m d 10 ab ab);have c11:=(D.cell (p:=⟨k,o+m*12+11,none⟩) F).trans (H11.out m d);have fW:=aU.lt hN;have J:w.heap.size<wr.heap.size:=ab;have bu:wr.heap.size≠w.heap.size+1:=ab;obtain⟨d0,d1,d2,d3,d4,d5⟩:=bf HX.out;have s:aU (wr.alloc (ld #[jR (x m).name,jz kG ((x m).n 1),jz kG ((x m).n 2),jz kG ((x m).n 3),jz kG ((x m).n 4),jz kG ((x m).n 5),jz kG ((x m).n 6),jz kG ((x m).n 7),jz kG ((x m).n 8),jz kG ((x m).n 9),jz kG ((x m).n 10),jQ (x m).lb (x m).ln (x m).lc] 88)) yo (w.heap.size+1) ((gD m).map (λj=>(x j).name)):=aU.of_heap hN (fY _ _ _ ab);have g:bA w (wr.alloc (ld #[jR (x m).name,jz kG ((x m).n 1),jz kG ((x m).n 2),jz kG ((x m).n 3),jz kG ((x m).n 4),jz kG ((x m).n 5),jz kG ((x m).n 6),jz kG ((x m).n 7),jz kG ((x m).n 8),jz kG ((x m).n 9),jz kG ((x m).n 10),jQ (x m).lb (x m).ln (x m).lc] 88)):=D.alloc D.size _;have f:wr.heap.size<(wr.alloc (ld #[jR (x m).name,jz kG ((x m).n 1),jz kG ((x m).n 2),jz kG ((x m).n 3),jz kG ((x m).n 4),jz kG ((x m).n 5),jz kG ((x m).n 6),jz kG ((x m).n 7),jz kG ((x m).n 8),jz kG ((x m).n 9),jz kG ((x m).n 10),jQ (x m).lb (x m).ln (x m).lc] 88)).heap.size:=ar
    have C:w.heap.size<(wr.alloc (ld #[jR (x m).name,jz kG ((x m).n 1),jz kG ((x m).n 2),jz kG ((x m).n 3),jz kG ((x m).n 4),jz kG ((x m).n 5),jz kG ((x m).n 6),jz kG ((x m).n 7),jz kG ((x m).n 8),jz kG ((x m).n 9),jz kG ((x m).n 10),jQ (x m).lb (x m).ln (x m).lc] 88)).heap.size:=by simp;omega
    have u:=il ((fY wr (ld #[jR (x m).name,jz kG ((x m).n 1),jz kG ((x m).n 2),jz kG ((x m).n 3),jz kG ((x m).n 4),jz kG ((x m).n 5),jz kG ((x m).n 6),jz kG ((x m).n 7),jz kG ((x m).n 8),jz kG ((x m).n 9),jz kG ((x m).n 10),jQ (x m).lb (x m).ln (x m).lc] 88) _ J).trans HX.out);have A:=il (au wr (ld #[jR (x m).name,jz kG ((x m).n 1),jz kG ((x m).n 2),jz kG ((x m).n 3),jz kG ((x m).n 4),jz kG ((x m).n 5),jz kG ((x m).n 6),jz kG ((x m).n 7),jz kG ((x m).n 8),jz kG ((x m).n 9),jz kG ((x m).n 10),jQ (x m).lb (x m).ln (x m).lc] 88));have Va:=(HN.out m d).1;have Tl:=(HN.out m d).2;by_cases R:eK ((x m).n 3) ((x m).n 4) (-90) 90=true
    .have N:=il R;have Q8 : -90<=(x m).n 3/\(x m).n 3<=90:=by
      simp only[eK,jp,decide_eq_true_eq]at R;omega
     obtain⟨Q8,hr4⟩:=Q8;clear R
     go_wp2_with (first|(go_at_call 101;refine(wB (w.heap.size+1) _ _ _ s Va).mono ?_;rintro e w1⟨rfl,E,s⟩;obtain⟨K,L⟩:=J2 E;have g:=f6 g (E.below ab g.size);have u:=il ((E.block _ (ge J f) ab).trans u.out);have A:=il ((E.block _ f ab).trans A.out);have f:=gg f E.size;have C:=gg C E.size)|(go_at_call 98;((with_reducible refine(Ek N.out _).mono ?_);rintro e w1⟨rfl,a⟩;obtain⟨K,L⟩:=cW a;have s:=aG a s;have g:=Below.on g a;have u:=il ((a.block _ (ge J f)).trans u.out);have A:=il ((a.block _ f).trans A.out);have f:=gg f a.size;have C:=gg C a.size))|(go_at_call 98;refine(nh _ _ _ _ _).mono ?_;rintro e w1⟨rfl,a⟩;obtain⟨K,L⟩:=cW a;have s:=aG a s;have g:=Below.on g a;have u:=il ((a.block _ (ge J f)).trans u.out);have A:=il ((a.block _ f).trans A.out);have f:=gg f a.size;have C:=gg C a.size)|(go_at_call 33;refine(bG _ _ _ _).mono ?_;rintro e w'⟨rfl,rfl⟩)|(go_at_call 99;refine(kQ _ _ _ _ _ _ _ _ J0 tL).mono ?_;rintro e w1⟨rfl,a⟩;obtain⟨K,L⟩:=cW a;have s:=aG a s;have g:=Below.on g a;have u:=il ((a.block _ (ge J f)).trans u.out);have A:=il ((a.block _ f).trans A.out);have f:=gg f a.size;have C:=gg C a.size))
     any_goals (
      go_ret;refine⟨?_,g⟩;have hR:=N.out
      first
       |exact aC (dI (v:=iH (x m).name ((gD m).map λj=>(x j).name)) y.out B.out d (by simp_all [gM]) bo)
       |exact aC (dI (v:=1) y.out B.out d (by simp_all [gM]) ao)
       |exact aC (dI (v:=10) y.out B.out d (by simp_all [gM];try omega) ao)
       |exact aC (dI (v:=6) y.out B.out d (by simp_all [gM];try omega) ao)
       |exact aC (dI (v:=1) y.out B.out d (by simp_all [gM];try omega) ao))
     have e1:iH (x m).name ((gD m).map λj=>(x j).name)=0:=bo;have S:gM p M r x m=ia (x m).ln (fy r (x m).lane):=by
      have hR:=N.out;simp only[gM];rw[if_pos e1,if_pos bo,if_neg (by simp_all;try omega),if_pos bo,if_pos bo]
     rw[if_pos e1]at s;have T:=il S;clear S e1;have J4:∀j,j<(x m).ln->w1.cell? ⟨(x m).lk,(x m).lo+j,none⟩=some (jz kG ((x m).lane j)):=λj z=>(g.cell (p:=⟨(x m).lk,(x m).lo+j,none⟩) (HL.out m d ab).2).trans (HLC.out m d j z);have U:=il J4;clear J4;obtain⟨X,e1,e2,e3,e4,e5⟩:=bf u.out;have e11:=afi A.out;clear K L;generalize jx (decide ((x m).n 1<(x m).n 4)||decide ((x m).n 1 < -(x m).n 3))=s42;generalize jx (decide ((x m).n 1<(x m).n 4))=s49;generalize jx (decide ((x m).n 1 < -(x m).n 3))=s58;generalize jx (bO ((x m).n 6) 0 (p-1))=s74;generalize jx (!eK ((x m).n 9) ((x m).n 10) 0 60)=s77;generalize jx (eK ((x m).n 9) ((x m).n 10) 0 60)=s85;generalize jz kG (iH (x m).name ((gD m).map λj=>(x j).name))=s6;by_cases hl0:0<(x m).ln
     .have Y:=(HL.out m d hl0).1;rw[Y]at e11;rw[Y];have HLB:=il Y;clear Y
      go_loop [91] (λi=>∃q:Nat,q<=(x m).ln/\i=jz kG q/\∀j,j<q->fy r (x m).lane j=0) (λi=>(x m).ln-(intOf i).toNat)
      case atStart=>exact⟨0,f8 _,rfl,λj z=>absurd z (f9 _)⟩
      case round=>
       obtain⟨q,hq,rfl,V⟩:=hrel;have H:=il V;clear V;by_cases O:q<(x m).ln
       .have g0:=U.out q O;by_cases hq0:0<q
        .have g1:=U.out (q-1) ab
         go_wp2_with (go_at_call 33;refine(bG _ _ _ _).mono ?_;rintro e w'⟨rfl,rfl⟩)
         .go_ret;have W:fy r (x m).lane q=6:=by
           have t:(!bO ((x m).lane q) 0 (↑r-1))=true:=ba;simp only[fy];rw[if_neg (by simpa using t)]
          exact⟨aC (dI (v:=6) y.out B.out d (T.out.trans ((eG H.out O (by rw[W];decide)).trans W)) ao),g⟩
         .go_ret;have e7:fy r (x m).lane q=7:=by
           have t:(!bO ((x m).lane q) 0 (↑r-1))=false:=ba;have t2:(x m).lane q<=(x m).lane (q-1):=ba;simp only[fy];rw[if_pos (by simpa using t),if_pos ⟨hq0,t2⟩]
          exact⟨aC (dI (v:=7) y.out B.out d (T.out.trans ((eG H.out O (by rw[e7];decide)).trans e7)) ao),g⟩
         .have X:fy r (x m).lane q=0:=by
           have t:(!bO ((x m).lane q) 0 (↑r-1))=false:=ba;have t2:(x m).lane (q-1)<(x m).lane q:=ba;simp only[fy];rw[if_pos (by simpa using t),if_neg ab]
          refine⟨⟨q+1,O,by go_num,λj z=>?_⟩,by simp[intOf];omega⟩
          rcases Nat.lt_succ_iff_lt_or_eq.1 z with h|h
          .exact H.out j h
          .rw[h];exact X
        .obtain rfl:q=0:=ab;rw[gj]at g0
         go_wp2_with (go_at_call 33;refine(bG _ _ _ _).mono ?_;rintro e w'⟨rfl,rfl⟩)
         .go_ret;have W:fy r (x m).lane 0=6:=by
           have t:(!bO ((x m).lane 0) 0 (↑r-1))=true:=ba;simp only[fy];rw[if_neg (by simpa using t)]
          exact⟨aC (dI (v:=6) y.out B.out d (T.out.trans ((eG H.out O (by rw[W];decide)).trans W)) ao),g⟩
         .have X:fy r (x m).lane 0=0:=by
           have t:(!bO ((x m).lane 0) 0 (↑r-1))=false:=ba;simp only[fy];rw[if_pos (by simpa using t),if_neg ab]
          refine⟨⟨1,O,by go_num,λj z=>?_⟩,by simp[intOf];omega⟩;obtain rfl:j=0:=ab;exact X
       .obtain rfl:q=(x m).ln:=ab;go_wp2;refine⟨⟨m+1,d,by go_num,λj z=>?_,?_,u.out,g⟩,by simp[intOf];omega⟩
        .rcases Nat.lt_succ_iff_lt_or_eq.1 z with h|h
         .exact B.out j h
         .rw[h,T.out];exact cz H.out
        .rw[g4,g6];exact s
     .go_loop [91] (λi=>i=jz kG 0) (λi=>1)
      case atStart=>rfl
      case round=>
       obtain rfl:=hrel;have hz:((x m).ln:Int)<=0:=ab;go_wp2;refine⟨⟨m+1,d,by go_num,λj z=>?_,?_,u.out,g⟩,by simp[intOf];omega⟩
       .rcases Nat.lt_succ_iff_lt_or_eq.1 z with h|h
        .exact B.out j h
        .rw[h,T.out];exact cz λj z=>absurd z ab
       .rw[g4,g6];exact s
    .have N:=il (aV R);clear R
     go_wp2_with (first|(go_at_call 101;refine(wB (w.heap.size+1) _ _ _ s Va).mono ?_;rintro e w1⟨rfl,E,s⟩;obtain⟨K,L⟩:=J2 E;have g:=f6 g (E.below ab g.size);have u:=il ((E.block _ (ge J f) ab).trans u.out);have A:=il ((E.block _ f ab).trans A.out);have f:=gg f E.size;have C:=gg C E.size)|(go_at_call 98;((with_reducible refine(El N.out _).mono ?_);rintro e w1⟨rfl,a⟩;obtain⟨K,L⟩:=cW a;have s:=aG a s;have g:=Below.on g a;have u:=il ((a.block _ (ge J f)).trans u.out);have A:=il ((a.block _ f).trans A.out);have f:=gg f a.size;have C:=gg C a.size))|(go_at_call 98;refine(nh _ _ _ _ _).mono ?_;rintro e w1⟨rfl,a⟩;obtain⟨K,L⟩:=cW a;have s:=aG a s;have g:=Below.on g a;have u:=il ((a.block _ (ge J f)).trans u.out);have A:=il ((a.block _ f).trans A.out);have f:=gg f a.size;have C:=gg C a.size)|(go_at_call 33;refine(bG _ _ _ _).mono ?_;rintro e w'⟨rfl,rfl⟩)|(go_at_call 99;refine(kQ _ _ _ _ _ _ _ _ J0 tL).mono ?_;rintro e w1⟨rfl,a⟩;obtain⟨K,L⟩:=cW a;have s:=aG a s;have g:=Below.on g a;have u:=il ((a.block _ (ge J f)).trans u.out);have A:=il ((a.block _ f).trans A.out);have f:=gg f a.size;have C:=gg C a.size))
     any_goals (
      go_ret;refine⟨?_,g⟩;have hR:=N.out
      first
       |exact aC (dI (v:=iH (x m).name ((gD m).map λj=>(x j).name)) y.out B.out d (by simp_all [gM]) bo)
       |exact aC (dI (v:=1) y.out B.out d (by simp_all [gM]) ao)
       |exact aC (dI (v:=10) y.out B.out d (by simp_all [gM];try omega) ao)
       |exact aC (dI (v:=6) y.out B.out d (by simp_all [gM];try omega) ao)
       |exact aC (dI (v:=1) y.out B.out d (by simp_all [gM];try omega) ao))
   .obtain rfl:m=n:=ab;go_wp2;go_ret;exact⟨by simp[kA,y.out,cz B.out],D⟩
 .have y:=il (aV hb);clear hb;go_enter (fx ao dL),eF
  go_wp2_with (go_at_call 33;refine(pZ y.out _).mono ?_;rintro e w'⟨rfl,rfl⟩)
  go_ret;exact⟨by simp[kA,y.out],(fR _ _).alloc (f7 _) _⟩
structure CD where
 l:Int
 p:Int
 b2:Option bm
 k2:Nat
 o2:Nat
 n2:Nat
 c2:Nat
 x2:Nat->Int×Int
 b3:Option bm
 k3:Nat
 o3:Nat
 n3:Nat
 c3:Nat
 x3:Nat->Int×Int×Int
 b4:Option bm
 k4:Nat
 o4:Nat
 n4:Nat
 c4:Nat
 x4:Nat->iJ
 b5:Option bm
 k5:Nat
 o5:Nat
 n5:Nat
 c5:Nat
 x5:Nat->ByteArray×Int×Int
abbrev CD.val(C:CD):Array aT:=#[jz kG C.l,jz kG C.p,jQ C.b2 C.n2 C.c2,jQ C.b3 C.n3 C.c3,jQ C.b4 C.n4 C.c4,jQ C.b5 C.n5 C.c5]
structure CD.At(C:CD)(w:ad):Prop where
 m2:C.n2<=20
 m3:C.n3<=20
 m4:C.n4<=20
 m5:C.n5<=20
 h2:C.k2<w.heap.size
 h3:C.k3<w.heap.size
 h4:C.k4<w.heap.size
 h5:C.k5<w.heap.size
 s2:0<C.n2->C.b2=some ⟨C.k2,C.o2,none⟩
 s3:0<C.n3->C.b3=some ⟨C.k3,C.o3,none⟩
 s4:0<C.n4->C.b4=some ⟨C.k4,C.o4,none⟩
 s5:0<C.n5->C.b5=some ⟨C.k5,C.o5,none⟩
 Ep:∀i,i<C.n2->w.cell? ⟨C.k2,C.o2+i*2,none⟩=some (jz kG (C.x2 i).1)
 Er:∀i,i<C.n2->w.cell? ⟨C.k2,C.o2+i*2+1,none⟩=some (jz kG (C.x2 i).2)
 Es:∀i,i<C.n3->w.cell? ⟨C.k3,C.o3+i*3,none⟩=some (jz kG (C.x3 i).1)
 Et:∀i,i<C.n3->w.cell? ⟨C.k3,C.o3+i*3+1,none⟩=some (jz kG (C.x3 i).2.1)
 Eu:∀i,i<C.n3->w.cell? ⟨C.k3,C.o3+i*3+2,none⟩=some (jz kG (C.x3 i).2.2)
 cu:∀i,i<C.n4->(C.x4 i).name.size<=100/\(C.x4 i).ln<=20
 AD:∀i,i<C.n4->w.cell? ⟨C.k4,C.o4+i*12,none⟩=some (jR (C.x4 i).name)
 dB:∀i,i<C.n4->∀j,1<=j->j<=10->w.cell? ⟨C.k4,C.o4+i*12+j,none⟩=some (jz kG ((C.x4 i).n j))
 nj:∀i,i<C.n4->w.cell? ⟨C.k4,C.o4+i*12+11,none⟩=some (jQ (C.x4 i).lb (C.x4 i).ln (C.x4 i).lc)
 l4:∀i,i<C.n4->0<(C.x4 i).ln->(C.x4 i).lb=some ⟨(C.x4 i).lk,(C.x4 i).lo,none⟩/\(C.x4 i).lk<w.heap.size
 J5:∀i,i<C.n4->∀j,j<(C.x4 i).ln->w.cell? ⟨(C.x4 i).lk,(C.x4 i).lo+j,none⟩=some (jz kG ((C.x4 i).lane j))
 nm5:∀i,i<C.n5->(C.x5 i).1.size<=100
 FI:∀i,i<C.n5->w.cell? ⟨C.k5,C.o5+i*3,none⟩=some (jR (C.x5 i).1)
 HU:∀i,i<C.n5->w.cell? ⟨C.k5,C.o5+i*3+1,none⟩=some (jz kG (C.x5 i).2.1)
 J6:∀i,i<C.n5->w.cell? ⟨C.k5,C.o5+i*3+2,none⟩=some (jz kG (C.x5 i).2.2)
def CD.At.below{C:CD}{w w':ad}(h:C.At w)(a:bA w w'):C.At w':=by
 have s:=a.size;have e:∀o,w'.cell? ⟨C.k2,o,none⟩=w.cell? ⟨C.k2,o,none⟩:=λo=>a.cell (p:=⟨C.k2,o,none⟩) h.h2;have b:∀o,w'.cell? ⟨C.k3,o,none⟩=w.cell? ⟨C.k3,o,none⟩:=λo=>a.cell (p:=⟨C.k3,o,none⟩) h.h3;have c:∀o,w'.cell? ⟨C.k4,o,none⟩=w.cell? ⟨C.k4,o,none⟩:=λo=>a.cell (p:=⟨C.k4,o,none⟩) h.h4;have d:∀o,w'.cell? ⟨C.k5,o,none⟩=w.cell? ⟨C.k5,o,none⟩:=λo=>a.cell (p:=⟨C.k5,o,none⟩) h.h5;have k:=h;obtain⟨m2,m3,m4,m5,h2,h3,h4,h5,s2,s3,s4,s5,Ep,Er,Es,Et,Eu,cu,AD,dB,nj,l4,J5,nm5,FI,HU,J6⟩:=h
 exact⟨m2,m3,m4,m5,ab,ab,ab,ab,s2,s3,s4,s5,λi hi=>(e _).trans (Ep i hi),λi hi=>(e _).trans (Er i hi),λi hi=>(b _).trans (Es i hi),λi hi=>(b _).trans (Et i hi),λi hi=>(b _).trans (Eu i hi),cu,
  λi hi=>(c _).trans (AD i hi),λi hi j f h2=>(c _).trans (dB i hi j f h2),λi hi=>(c _).trans (nj i hi),λi hi hl=>⟨(l4 i hi hl).1,gg (l4 i hi hl).2 s⟩,
  λi hi j g=>(a.cell (p:=⟨(C.x4 i).lk,(C.x4 i).lo+j,none⟩) (l4 i hi ab).2).trans (J5 i hi j g),nm5,λi hi=>(d _).trans (FI i hi),λi hi=>(d _).trans (HU i hi),λi hi=>(d _).trans (J6 i hi)⟩
def CD.dP(C:CD):Nat->Int
 |0=>jd C.l C.p
 |1=>pq C.n2 C.x2
 |2=>kz C.p C.n3 C.x3
 |3=>kA C.p C.n2 C.n3 C.n4 C.x4
 |_=>pE C.n4 C.n5 C.x5
def CD.cx(C:CD):Int:=ia 5 C.dP
def cK{l p:Int}(h:jd l p=0):1<=p/\p<=6:=by
 unfold jd at h;split at h
 .rename_i a;simp[bO]at a;omega
 .cases h
def afm(C:CD)(w:ad):bi PL 63 #[jD C.val] w (aO (jz kG (C.dP 0)) w):=Em _ _ _ _ _ _ _
def afn(C:CD)(w:ad)(h:C.At w):bi PL 64 #[jD C.val] w (aO (jz kG (C.dP 1)) w):=Nb _ _ _ _ _ _ _ _ _ _ _ _ h.m2 h.h2 h.s2 h.Ep h.Er
def afo(C:CD)(w:ad)(h:C.At w)(a:C.dP 0=0):bi PL 65 #[jD C.val] w (aO (jz kG (C.dP 2)) w):=
 Nf _ _ _ _ _ _ _ _ _ _ _ _ h.m3 (cK a).1 (cK a).2 h.h3 h.s3 h.Es h.Et h.Eu
def afp(C:CD)(w:ad)(h:C.At w)(a:C.dP 0=0):bi PL 66 #[jD C.val] w (aO (jz kG (C.dP 3)) w):=
 Q7 _ _ _ _ _ _ _ _ _ _ _ _ _ _ _ _ h.m4 h.m2 h.m3 (cK a).1 (cK a).2 h.h4 h.s4 h.cu h.AD h.dB h.nj h.l4 h.J5
def afq(C:CD)(w:ad)(h:C.At w):bi PL 67 #[jD C.val] w (aO (jz kG (C.dP 4)) w):=
 HQ _ _ _ _ _ _ _ _ _ _ _ _ _ _ h.m5 h.m4 h.h5 h.s5 h.nm5 h.FI h.HU h.J6
def yq(x0 x1 x2 x3 x4:aT)(w:ad):(iU 132 (jD #[x0,x1,x2,x3,x4]) (jz kG 0)).run PL w=jn x0 w/\(iU 132 (jD #[x0,x1,x2,x3,x4]) (jz kG 1)).run PL w=jn x1 w/\(iU 132 (jD #[x0,x1,x2,x3,x4]) (jz kG 2)).run PL w=jn x2 w/\(iU 132 (jD #[x0,x1,x2,x3,x4]) (jz kG 3)).run PL w=jn x3 w/\(iU 132 (jD #[x0,x1,x2,x3,x4]) (jz kG 4)).run PL w=jn x4 w:=
 ⟨ae,ae,ae,ae,ae⟩
def iv:Nat->aT|0=>jz kG 0|1=>jz kG 1|2=>jz kG 2|3=>jz kG 3|4=>jz kG 4|_=>jz kG 5
def cR{C:CD}{m:Nat}(a:∀j,j<m->C.dP j=0)(b:m<5)(hf:C.dP m≠0):C.cx=C.dP m:=eG a b hf
def uC(C:CD)(w:ad)(h:C.At w):bi PL 36 #[jD C.val] w (aO (jz kG C.cx) w):=by
 have H:=il h;clear h;have o:=λw x0 x1 x2 x3 x4=>(yq x0 x1 x2 x3 x4 w).1;have p:=λw x0 x1 x2 x3 x4=>(yq x0 x1 x2 x3 x4 w).2.1;have q:=λw x0 x1 x2 x3 x4=>(yq x0 x1 x2 x3 x4 w).2.2.1;have r:=λw x0 x1 x2 x3 x4=>(yq x0 x1 x2 x3 x4 w).2.2.2.1;have s:=λw x0 x1 x2 x3 x4=>(yq x0 x1 x2 x3 x4 w).2.2.2.2;go_enter (fx ao da),Tryz.ntmps36;go_wp2
 go_loopw [20] (λi wr=>∃k:Nat,k<=5/\i=iv k/\(∀j,j<k->C.dP j=0)/\bA w wr) (λi _=>5-(intOf i).toNat)
 case atStart=>exact⟨0,ab,rfl,λj d=>absurd d (f9 _),((fR _ _).alloc (f7 _) _).alloc ar _⟩
 case round=>
  obtain⟨k,t,hi,l,c⟩:=hrel;have b:=il l;clear l;have n:=H.out.below c;have g:=il n;clear n;obtain rfl|rfl|rfl|rfl|rfl|rfl:k=0\/k=1\/k=2\/k=3\/k=4\/k=5:=ab
  .obtain rfl:_=jz kG 0:=hi
   go_wp2_with (go_at_call 63;refine(afm C _).mono ?_;rintro e w1⟨rfl,a⟩)
   .go_ret;exact⟨aC (cR (m:=0) b.out ab bo),Below.on c a⟩
   .have f:C.dP 0=0:=bo
    exact⟨⟨1,ab,rfl,λj d=>by
     rcases Nat.lt_succ_iff_lt_or_eq.1 d with h|h
     .exact b.out j h
     .rw[h];exact f,Below.on c a⟩,by simp[intOf]⟩
  .obtain rfl:_=jz kG 1:=hi
   go_wp2_with (go_at_call 64;refine(afn C _ g.out).mono ?_;rintro e w1⟨rfl,a⟩)
   .go_ret;exact⟨aC (cR (m:=1) b.out ab bo),Below.on c a⟩
   .have f:C.dP 1=0:=bo
    exact⟨⟨2,ab,rfl,λj d=>by
     rcases Nat.lt_succ_iff_lt_or_eq.1 d with h|h
     .exact b.out j h
     .rw[h];exact f,Below.on c a⟩,by simp[intOf]⟩
  .obtain rfl:_=jz kG 2:=hi
   go_wp2_with (go_at_call 65;refine(afo C _ g.out (b.out 0 ab)).mono ?_;rintro e w1⟨rfl,a⟩)
   .go_ret;exact⟨aC (cR (m:=2) b.out ab bo),Below.on c a⟩
   .have f:C.dP 2=0:=bo
    exact⟨⟨3,ab,rfl,λj d=>by
     rcases Nat.lt_succ_iff_lt_or_eq.1 d with h|h
     .exact b.out j h
     .rw[h];exact f,Below.on c a⟩,by simp[intOf]⟩
  .obtain rfl:_=jz kG 3:=hi
   go_wp2_with (go_at_call 66;refine(afp C _ g.out (b.out 0 ab)).mono ?_;rintro e w1⟨rfl,a⟩)
   .go_ret;exact⟨aC (cR (m:=3) b.out ab bo),Below.on c a⟩
   .have f:C.dP 3=0:=bo
    exact⟨⟨4,ab,rfl,λj d=>by
     rcases Nat.lt_succ_iff_lt_or_eq.1 d with h|h
     .exact b.out j h
     .rw[h];exact f,Below.on c a⟩,by simp[intOf]⟩
  .obtain rfl:_=jz kG 4:=hi
   go_wp2_with (go_at_call 67;refine(afq C _ g.out).mono ?_;rintro e w1⟨rfl,a⟩)
   .go_ret;exact⟨aC (cR (m:=4) b.out ab bo),Below.on c a⟩
   .have f:C.dP 4=0:=bo
    exact⟨⟨5,ab,rfl,λj d=>by
     rcases Nat.lt_succ_iff_lt_or_eq.1 d with h|h
     .exact b.out j h
     .rw[h];exact f,Below.on c a⟩,by simp[intOf]⟩
  .obtain rfl:_=jz kG 5:=hi;go_wp2;go_ret;exact⟨aC (cz b.out),c⟩
def CD.zero:Array aT:=#[jz kG 0,jz kG 0,jQ none 0 0,jQ none 0 0,jQ none 0 0,jQ none 0 0]
def CD.b6(C:CD)(b:Bool):Int:=if C.cx=0 then(if b then 0 else 6) else C.cx
def CD.sX(C:CD)(b:Bool):aT:=j4 #[jD (if C.b6 b=0 then C.val else CD.zero),jz kG (C.b6 b)]
def Below.zQ{B:Nat}{a w:ad}(h:Below B a w){k:Nat}(b:B<=k)(u0 u1 u2 u3 u4 u5:aT):Below B a ((((((w.setCell ⟨k,0,none⟩ u0).setCell ⟨k,1,none⟩ u1).setCell ⟨k,2,none⟩ u2).setCell ⟨k,3,none⟩ u3).setCell ⟨k,4,none⟩ u4).setCell ⟨k,5,none⟩ u5):=
 (((((h.setCell (p:=⟨k,0,none⟩) b u0).setCell (p:=⟨k,1,none⟩) b u1).setCell (p:=⟨k,2,none⟩) b u2).setCell (p:=⟨k,3,none⟩) b u3).setCell (p:=⟨k,4,none⟩) b u4).setCell (p:=⟨k,5,none⟩) b u5
def Ra{C:CD}{b:Bool}(h:C.cx≠0):C.sX b=j4 #[jD #[jz kG 0,jz kG 0,jQ none 0 0,jQ none 0 0,jQ none 0 0,jQ none 0 0],jz kG C.cx]:=by
 simp[CD.sX,CD.b6,h,CD.zero]
def Vd{C:CD}(h:C.cx=0):C.sX false=j4 #[jD #[jz kG 0,jz kG 0,jQ none 0 0,jQ none 0 0,jQ none 0 0,jQ none 0 0],jz kG 6]:=by
 simp[CD.sX,CD.b6,h,CD.zero]
def Ve{C:CD}(h:C.cx=0):C.sX true=j4 #[jD C.val,jz kG 0]:=by
 simp[CD.sX,CD.b6,h]
def sY{C:CD}{w:ad}(h:C.cx=0)(k:C.At w):bi PL 36 #[jD C.val] w (aO (jz kG 0) w):=by
 have:=uC C w k;rwa[h]at this
def Ev(C:CD)(b:Bool)(w:ad)(h:C.At w):bi PL 27 #[jD C.val,jx b] w (aO (C.sX b) w):=by
 have g:=λw1 k=>h.below (w':=w1) k;have f:=il g;clear g h;by_cases hc:C.cx=0
 .have c:=il hc;clear hc;cases b
  .rw[Vd c.out];go_enter (fx ao d9),eI
   go_wp2_with (go_at_call 36;refine(sY c.out (f.out _ (((fR _ _).alloc (f7 _) _).alloc ar _))).mono ?_;rintro e w1⟨rfl,a⟩;obtain⟨d,i⟩:=cW a;have j:w.heap.size+1<w1.heap.size:=by have:=a.size;simp at this;omega)
   refine b1 (v:=j4 #[jD #[jz kG 0,jz kG 0,jQ none 0 0,jQ none 0 0,jQ none 0 0,jQ none 0 0],jz kG 6]) ?_ rfl ⟨rfl,(Below.zQ ((((fR _ _).alloc (f7 _) _).alloc ar _).trans (a.mono (by simp;omega))) (gl _) _ _ _ _ _ _)⟩;simp[b8,eM,go_sem,d]
  .rw[Ve c.out];go_enter (fx ao d9),eI
   go_wp2_with (go_at_call 36;refine(sY c.out (f.out _ (((fR _ _).alloc (f7 _) _).alloc ar _))).mono ?_;rintro e w1⟨rfl,a⟩;obtain⟨d,i⟩:=cW a;have j:w.heap.size+1<w1.heap.size:=by have:=a.size;simp at this;omega)
   refine b1 (v:=j4 #[jD C.val,jz kG 0]) ?_ rfl ⟨rfl,(Below.zQ ((((fR _ _).alloc (f7 _) _).alloc ar _).trans (a.mono (by simp;omega))) (gl _) _ _ _ _ _ _)⟩;simp[b8,eM,go_sem,d]
 .have c:=il hc;have l:(C.cx != 0)=true:=by simpa using hc
  clear hc;rw[Ra c.out];go_enter (fx ao d9),eI
  go_wp2_with (go_at_call 36;refine(uC C _ (f.out _ (((fR _ _).alloc (f7 _) _).alloc ar _))).mono ?_;rintro e w1⟨rfl,a⟩;obtain⟨d,i⟩:=cW a;have j:w.heap.size+1<w1.heap.size:=by have:=a.size;simp at this;omega)
  refine b1 (v:=j4 #[jD #[jz kG 0,jz kG 0,jQ none 0 0,jQ none 0 0,jQ none 0 0,jQ none 0 0],jz kG C.cx]) ?_ rfl ⟨rfl,(Below.zQ ((((fR _ _).alloc (f7 _) _).alloc ar _).trans (a.mono (by simp;omega))) (gl _) _ _ _ _ _ _)⟩;simp[b8,eM,go_sem,d]
def AE(C:CD)(n:Int)(w:ad)(h:C.n4<=20):bi PL 44 #[jD C.val,jz kG n] w (aO (jx (bO n 0 (C.n4-1))) w):=by
 go_enter (fx ao ea),Tryz.ntmps44
 go_wp2_with (go_at_call 33;refine(bG _ _ _ _).mono ?_;rintro e w'⟨rfl,rfl⟩)
 go_ret;exact⟨rfl,(fR _ _).alloc (f7 _) _⟩
def lvl(s r:Int):Nat->Int
 |0=>0
 |k+1=>if((k:Int)+1)*(k+1) > s*s-r*r then lvl s r k else k+1
def AF{a:Int}(c : -90<=a)(d:a<=90):0<=a*a/\a*a<=8100:=by
 have h:=j6 (a:=90-a) (b:=90+a) ab ab;have e:(90-a)*(90+a)=8100-a*a:=by
  rw[Int.sub_mul,ka,ka,Int.mul_comm a 90];omega
 refine⟨?_,ab⟩
 rcases kb 0 a with h|h
 .exact j6 h h
 .have:=j6 (a:=-a) (b:=-a) ab ab;rwa[kc]at this
def AG(s:Nat)(r:Int)(w:ad)(y:1<=s)(z:s<=90)(A : -s<=r)(g:r<=s):bi PL 43 #[jz kG (s:Int),jz kG r] w λe w'=>e=ky (jz kG (lvl s r s))/\w'=w:=by
 go_enter (fx ao dt),Tryz.ntmps43;go_wp2
 go_loop [5] (λv=>∃k:Nat,k<=s/\v=jz kG k/\lvl s r s=lvl s r k) (λv=>(intOf v).toNat)
 case atStart=>exact⟨s,f7 _,rfl,rfl⟩
 case round=>
  obtain⟨k,B,rfl,i⟩:=hrel;have f:=il i;clear i;have l:=AF (a:=(k:Int)) ab ab;have m:=AF (a:=(s:Int)) ab ab;have n:=AF (a:=r) ab ab;obtain⟨o,C⟩:=l;obtain⟨p,q⟩:=m;obtain⟨t,u⟩:=n;have hd:(∃k':Nat,k=k'+1)\/k=0:=by
   cases k with
   |zero=>exact la rfl
   |succ k'=>exact kY ⟨k',rfl⟩
  go_wp2
  .have j:(s:Int)*s-r*r<(k:Int)*k:=ba
   rcases hd with⟨k',rfl⟩|rfl
   .refine⟨⟨k',ab,by congr 1;omega,?_⟩,by simp[intOf]⟩;rw[f.out,lvl,if_pos (by simpa using j)]
   .exfalso;have D:r*r<=(s:Int)*s:=by
     rcases kb 0 r with h|h
     .exact kd g g h ab
     .have e:=kd (a:=-r) (b:=-r) (c:=s) (d:=s) ab ab ab ab;rwa[kc]at e
    simp at j;omega
  .have x:(k:Int)*k<=(s:Int)*s-r*r:=ba;go_ret;refine⟨?_,rfl⟩
   rcases hd with⟨k',rfl⟩|rfl
   .rw[f.out,lvl,if_neg (by simp at x ⊢;omega)];rfl
   .rw[f.out];rfl
def ie(s r:Int):aT:=if bO s 1 90&&bO r (-90) 90 then(if s<r\/s < -r then j4 #[jz kG 0,jz kG 10] else j4 #[jz kG (lvl s r s.toNat),jz kG 0]) else j4 #[jz kG 0,jz kG 1]
def uD(s r:Int)(w:ad):bi PL 17 #[jz kG s,jz kG r] w λe w'=>e=ky (ie s r)/\w'=w:=by
 by_cases d:bO s 1 90=true
 .have i:1<=s/\s<=90:=by simp[bO]at d;exact d
  obtain⟨j,o⟩:=i;have b:=il d;clear d;by_cases f:bO r (-90) 90=true
  .have k : -90<=r/\r<=90:=by simp[bO]at f;exact f
   obtain⟨l,m⟩:=k;have c:=il f;clear f;obtain⟨n,rfl⟩:=ke (a:=s) ab;by_cases g:(n:Int)<r
   .go_enter (fx ao cQ),eN
    go_wp2_with (first|(go_at_call 33;((with_reducible refine(fN b.out _).mono ?_);rintro e w'⟨rfl,rfl⟩))|(go_at_call 33;refine(fN c.out _).mono ?_;rintro e w'⟨rfl,rfl⟩))
    go_ret2
    exact⟨by simp[ie,b.out,c.out,g],rfl⟩
   .by_cases h:(n:Int) < -r
    .go_enter (fx ao cQ),eN
     go_wp2_with (first|(go_at_call 33;((with_reducible refine(fN b.out _).mono ?_);rintro e w'⟨rfl,rfl⟩))|(go_at_call 33;refine(fN c.out _).mono ?_;rintro e w'⟨rfl,rfl⟩))
     go_ret2
     exact⟨by simp[ie,b.out,c.out,h],rfl⟩
    .go_enter (fx ao cQ),eN
     go_wp2_with (first|(go_at_call 33;((with_reducible refine(fN b.out _).mono ?_);rintro e w'⟨rfl,rfl⟩))|(go_at_call 33;refine(fN c.out _).mono ?_;rintro e w'⟨rfl,rfl⟩)|(go_at_call 43;refine(AG _ _ _ ab ab ab ab).mono ?_;rintro e w'⟨rfl,rfl⟩))
     go_ret2
     exact⟨by simp[ie,b.out,c.out,g,h],rfl⟩
  .have c:=il (aV f);clear f;go_enter (fx ao cQ),eN
   go_wp2_with (first|(go_at_call 33;((with_reducible refine(fN b.out _).mono ?_);rintro e w'⟨rfl,rfl⟩))|(go_at_call 33;refine(pZ c.out _).mono ?_;rintro e w'⟨rfl,rfl⟩))
   go_ret2
   exact⟨by simp[ie,b.out,c.out],rfl⟩
 .have b:=il (aV d);clear d;go_enter (fx ao cQ),eN
  go_wp2_with (go_at_call 33;refine(pZ b.out _).mono ?_;rintro e w'⟨rfl,rfl⟩)
  go_ret2
  exact⟨by simp[ie,b.out],rfl⟩
def rJ(n a b:Int)(w:ad):bi PL 38 #[jz kG n,jz kG a,jz kG b] w λe w'=>e=ky (jx (bO n a b))/\w'=w:=by
 go_enter (fx ao dp),Tryz.ntmps38;go_wp2
 all_goals (go_ret;simp[bO];try omega)
def yu(c:Nat)(w:ad):bi PL 102 #[jz .u8 c] w λe w'=>e=ky (jx (bO c 97 122))/\w'=w:=by
 go_enter (fx ao ep),Tryz.ntmps102;go_wp2
 all_goals (go_ret;simp[bO];try omega)
def AH(c:Nat)(w:ad):bi PL 103 #[jz .u8 c] w λe w'=>e=ky (jx (bO c 48 57))/\w'=w:=by
 go_enter (fx ao eq),Tryz.ntmps103;go_wp2
 all_goals (go_ret;simp[bO];try omega)
def kB(a b low c:Int)(w:ad):bi PL 39 #[jD #[jz kG a,jz kG b],jz kG low,jz kG c] w (aO (jx (eK a b low c)) w):=by
 go_enter (fx ao dQ),Tryz.ntmps39
 go_wp2_with (go_at_call 38;refine(rJ _ _ _ _).mono ?_;rintro e w'⟨rfl,rfl⟩)
 all_goals (go_ret;refine⟨?_,(fR _ _).alloc (f7 _) _⟩;simp_all [eK,bO];try omega)
def AI(a b:Int)(w:ad)(c : -90<=a)(d:a<=90):bi PL 69 #[jD #[jz kG a,jz kG b]] w (aO (jz kG (max b (-a))) w):=by
 go_enter (fx ao ec),Tryz.ntmps69;go_wp2
 all_goals (go_ret;refine⟨aC ab,(fR _ _).alloc (f7 _) _⟩)
def Ew{c:Nat}(h:bO c 97 122=true)(w:ad):bi PL 102 #[jz .u8 c] w λe w'=>e=ky (jx true)/\w=w':=by
 have:=yu c w;rw[h]at this;exact this.mono λ_ _⟨a,b⟩=>⟨a,b.symm⟩
def yw{c:Nat}(h:bO c 97 122=false)(w:ad):bi PL 102 #[jz .u8 c] w λe w'=>e=ky (jx false)/\w=w':=by
 have:=yu c w;rw[h]at this;exact this.mono λ_ _⟨a,b⟩=>⟨a,b.symm⟩
def Vf{c:Nat}(h:bO c 48 57=true)(w:ad):bi PL 103 #[jz .u8 c] w λe w'=>e=ky (jx true)/\w=w':=by
 have:=AH c w;rw[h]at this;exact this.mono λ_ _⟨a,b⟩=>⟨a,b.symm⟩
def Vg{c:Nat}(h:bO c 48 57=false)(w:ad):bi PL 103 #[jz .u8 c] w λe w'=>e=ky (jx false)/\w=w':=by
 have:=AH c w;rw[h]at this;exact this.mono λ_ _⟨a,b⟩=>⟨a,b.symm⟩
def kH{n a b:Int}(h:bO n a b=true)(w:ad):bi PL 38 #[jz kG n,jz kG a,jz kG b] w λe w'=>e=ky (jx true)/\w=w':=by
 have:=rJ n a b w;rw[h]at this;exact this.mono λ_ _⟨a,b⟩=>⟨a,b.symm⟩
def vQ{n a b:Int}(h:bO n a b=false)(w:ad):bi PL 38 #[jz kG n,jz kG a,jz kG b] w λe w'=>e=ky (jx false)/\w=w':=by
 have:=rJ n a b w;rw[h]at this;exact this.mono λ_ _⟨a,b⟩=>⟨a,b.symm⟩
def AJ{s:ByteArray}{k:Nat}(h:k<s.size):jv s k=(s[k]'h).toNat:=by simp[jv,h]
def vv(s:ByteArray)(w:ad)(hs:s.size<=100):bi PL 68 #[jR s] w λe w'=>e=ky (jx (ku s))/\w=w':=by
 by_cases g:bO (↑s.size) 1 12=true
 .have o:0<s.size:=by simp[bO]at g;omega
  have d:=il g;clear g;by_cases n:bO ((s[0]'o).toNat:Int) 97 122=true
  .have l:=il n;clear n;go_enter (fx ao el),eP
   go_wp2_with (first|(go_at_call 38;refine(kH d.out _).mono ?_;rintro e w'⟨rfl,rfl⟩)|(go_at_call 102;refine(Ew l.out _).mono ?_;rintro e w'⟨rfl,rfl⟩))
   go_loop [3] (λv=>∃k:Nat,k<=s.size/\v=jz kG k/\∀j,j<k->wA (jv s j) j=true) (λv=>s.size-(intOf v).toNat)
   case atStart=>exact⟨0,f8 _,rfl,λj b=>absurd b (f9 _)⟩
   case round=>
    obtain⟨k,u,rfl,r⟩:=hrel;have p:=il r;clear r;by_cases f:k<s.size
    .have hb:=AJ f;have q:=il hb;clear hb;by_cases hl:bO ((s[k]'f).toNat:Int) 97 122=true
     .have c:=il hl;clear hl
      go_wp2_with (go_at_call 102;refine(Ew c.out _).mono ?_;rintro e w'⟨rfl,rfl⟩)
      refine⟨⟨k+1,f,by go_num,λj b=>?_⟩,by simp[intOf];omega⟩
      rcases Nat.lt_succ_iff_lt_or_eq.1 b with h|h
      .exact p.out j h
      .rw[h,q.out];simp[wA,c.out]
     .have c:=il (aV hl);clear hl;have t:k≠0:=λe=>by
       subst e;have a:=c.out;rw[l.out]at a;cases a
      by_cases hd:bO ((s[k]'f).toNat:Int) 48 57=true
      .have m:=il hd;clear hd
       go_wp2_with (first|(go_at_call 102;refine(yw c.out _).mono ?_;rintro e w'⟨rfl,rfl⟩)|(go_at_call 103;refine(Vf m.out _).mono ?_;rintro e w'⟨rfl,rfl⟩))
       refine⟨⟨k+1,f,by go_num,λj b=>?_⟩,by simp[intOf];omega⟩
       rcases Nat.lt_succ_iff_lt_or_eq.1 b with h|h
       .exact p.out j h
       .rw[h,q.out];simp[wA,m.out,t]
      .have m:=il (aV hd);clear hd
       go_wp2_with (first|(go_at_call 102;refine(yw c.out _).mono ?_;rintro e w'⟨rfl,rfl⟩)|(go_at_call 103;refine(Vg m.out _).mono ?_;rintro e w'⟨rfl,rfl⟩))
       go_ret;exact⟨by rw[qd f (by rw[q.out];simp[wA,c.out,m.out])];rfl,rfl⟩
    .obtain rfl:k=s.size:=ab;go_wp2;go_ret;refine⟨?_,rfl⟩;have:((gD s.size).all λi=>wA (jv s i) i)=true:=by
      rw[gG];intro j b;exact p.out j (List.mem_range.1 b)
     simp[ku,this,d.out]
  .have l:=il (aV n);clear n;go_enter (fx ao el),eP
   go_wp2_with (first|(go_at_call 38;refine(kH d.out _).mono ?_;rintro e w'⟨rfl,rfl⟩)|(go_at_call 102;refine(yw l.out _).mono ?_;rintro e w'⟨rfl,rfl⟩))
   go_ret;exact⟨by rw[qd o (by rw[AJ o];simp[wA,l.out])];rfl,rfl⟩
 .have d:=il (aV g);clear g;go_enter (fx ao el),eP
  go_wp2_with (go_at_call 38;refine(vQ d.out _).mono ?_;rintro e w'⟨rfl,rfl⟩)
  go_ret;exact⟨by simp[ku,d.out],rfl⟩
def dr{B:Nat}{a w:ad}(h:Below B a w)(n:Nat):Below B a (w.drewN n):=⟨h.os,h.tape,h.output,h.size,h.block⟩
def Vh(b:Option bm)(k o n c m:Nat)(x:Nat->Int)(w:ad)(D:n<=20)(E:m<=20)(t:0<n->k<w.heap.size)(hs:0<n->b=some ⟨k,o,none⟩)(u:∀i,i<n->w.cell? ⟨k,o+i,none⟩=some (jz kG (x i))) :
 bi PL 70 #[jQ b n c,jz kG (m:Int)] w (aO (jz kG (ia n (fy m x))) w):=by
 have v:=il u;have B:=il hs;clear u hs;go_enter (fx ao dk),Tryz.ntmps70;go_wp2
 go_loopw [5] (λi wr=>∃q:Nat,q<=n/\i=jz kG q/\(∀j,j<q->fy m x j=0)/\bA w wr) (λi _=>n-(intOf i).toNat)
 case atStart=>exact⟨0,f8 _,rfl,λj g=>absurd g (f9 _),fR _ _⟩
 case round=>
  obtain⟨q,F,rfl,y,d⟩:=hrel;have l:=il y;clear y;by_cases f:q<n
  .obtain rfl:=B.out ab;have C:=(d.cell (p:=⟨k,o+q,none⟩) (t ab)).trans (v.out q f);by_cases hi:bO (x q) 0 (m-1)=true
   .have a:=il hi;clear hi;by_cases r:0<q
    .have H:=(d.cell (p:=⟨k,o+(q-1),none⟩) (t ab)).trans (v.out (q-1) ab);have I:(0:Int)<q:=ab;have J:(q:Int)<n:=ab;have K:(q:Int)-1<n:=ab;have L:(0:Int)<=(q:Int)-1:=ab
     go_wp2_with (go_at_call 38;refine(kH a.out _).mono ?_;rintro e w'⟨rfl,rfl⟩)
     go_quiet (fail)
     go_wp2
     .have z:fy m x q=7:=by
       have t2:x q<=x (q-1):=ba;simp only[fy];rw[if_pos a.out,if_pos ⟨r,t2⟩]
      go_ret;exact⟨aC ((eG l.out f (by rw[z];decide)).trans z),dr d _⟩
     .have s:fy m x q=0:=by
       have t2:x (q-1)<x q:=ba;simp only[fy];rw[if_pos a.out,if_neg ab]
      refine⟨⟨q+1,f,by go_num,λj g=>?_,dr d _⟩,by simp[intOf];omega⟩
      rcases Nat.lt_succ_iff_lt_or_eq.1 g with h|h
      .exact l.out j h
      .rw[h];exact s
    .obtain rfl:q=0:=ab;rw[gj]at C
     go_wp2_with (go_at_call 38;refine(kH a.out _).mono ?_;rintro e w'⟨rfl,rfl⟩)
     go_quiet (fail)
     go_wp2;have s:fy m x 0=0:=by
      simp only[fy];rw[if_pos a.out,if_neg ab]
     refine⟨⟨1,f,by go_num,λj g=>?_,dr d _⟩,by simp[intOf];omega⟩;obtain rfl:j=0:=ab;exact s
   .have a:=il (aV hi);clear hi
    go_wp2_with (go_at_call 38;refine(vQ a.out _).mono ?_;rintro e w'⟨rfl,rfl⟩)
    have A:fy m x q=6:=by simp only[fy];rw[a.out];rfl
    go_ret;exact⟨aC ((eG l.out f (by rw[A];decide)).trans A),d⟩
  .obtain rfl:q=n:=ab;go_wp2;go_ret;exact⟨aC (cz l.out),d⟩
def Ex{a b c d:Int}:eB a b=eB c d↔(a=c/\b=d)\/(a=d/\b=c):=by
 simp only[eB,Prod.mk.injEq];omega
def aao{w:ad}{k:Nat}{x0 x1 x2:aT}{t:ac}(h:w.heap[k]?=some (ld #[x0,x1,x2] t)):w.cell? ⟨k,0,none⟩=some x0/\w.cell? ⟨k,1,none⟩=some x1/\w.cell? ⟨k,2,none⟩=some x2:=by
 simp[i4,h]
def getElem?_lt'{b:Type}{a:Array b}{i:Nat}{x:b}(h:a[i]?=some x):i<a.size:=(Array.getElem?_eq_some_iff.1 h).1
def Ic(l p:Int)(b:Option bm)(k o n c:Nat)(x:Nat->Int×Int×Int)(J K v5:aT)(w:ad)(hn:n<=20)(J0:1<=p)(tL:p<=6)(t:k<w.heap.size)(hs:0<n->b=some ⟨k,o,none⟩)
 (Q:∀i,i<n->w.cell? ⟨k,o+i*3,none⟩=some (jz kG (x i).1)) (C:∀i,i<n->w.cell? ⟨k,o+i*3+1,none⟩=some (jz kG (x i).2.1)) (D:∀i,i<n->w.cell? ⟨k,o+i*3+2,none⟩=some (jz kG (x i).2.2)) :
 bi PL 40 #[jD #[jz kG l,jz kG p,J,jQ b n c,K,v5]] w (aO (jz kG (kz p n x)) w):=by
 have R:=il Q;have S:=il C;have T:=il D;have HS:=il hs;clear Q C D hs;by_cases hb:9<n
 .go_enter (fx ao dT),eQ;go_wp2;go_ret;exact⟨by simp[kz,hb],(fR _ _).alloc (f7 _) _⟩
 .go_enter (fx ao dT),eQ;go_wp2
  go_loopw [3] (λi wr=>∃m:Nat,m<=n/\i=jz kG m/\(∀j,j<m->fQ p x j=0)/\wr.heap[w.heap.size]?=some (ld #[jz kG l,jz kG p,J,jQ b n c,K,v5] 27)/\bA w wr) (λi _=>n-(intOf i).toNat)
  case atStart=>exact⟨0,f8 _,rfl,λj r=>absurd r (f9 _),au _ _,(fR _ _).alloc (f7 _) _⟩
  case round=>
   obtain⟨m,U,rfl,V,W,u⟩:=hrel;have s:=il V;have L:=il W;clear V W;obtain⟨y,rfl⟩:=br wr;obtain⟨d0,d1,d2,d3,d4,d5⟩:=bf L.out;have mF:w.heap.size<y.heap.size:=getElem?_lt' L.out;by_cases f:m<n
   .obtain rfl:=HS.out ab;have c0:=(u.cell (p:=⟨k,o+m*3,none⟩) t).trans (R.out m f);have c1:=(u.cell (p:=⟨k,o+m*3+1,none⟩) t).trans (S.out m f);have c2:=(u.cell (p:=⟨k,o+m*3+2,none⟩) t).trans (T.out m f);have B:bA w (y.alloc (ld #[jz kG (x m).1,jz kG (x m).2.1,jz kG (x m).2.2] 94)):=u.alloc u.size _;by_cases F:bO (x m).1 0 (p-1)=true
    .have a:=il F;clear F;by_cases H:bO (x m).2.1 0 (p-1)=true
     .have d:=il H;clear H;by_cases z:(x m).1=(x m).2.1
      .have E:=il z;have Xo:((x m).1==(x m).2.1)=true:=by simpa using z
       clear z
       go_wp2_with (first|(go_at_call 38;((with_reducible refine(kH a.out _).mono ?_);rintro e w'⟨rfl,rfl⟩))|(go_at_call 38;((with_reducible refine(kH d.out _).mono ?_);rintro e w'⟨rfl,rfl⟩)))
       go_ret;exact⟨aC (dh (v:=8) hb s.out f (by simp[fQ,a.out,d.out,E.out]) ao),B⟩
      .have E:=il z;have Xo:((x m).1==(x m).2.1)=false:=by simpa using z
       clear z;by_cases I:bO (x m).2.2 1 999=true
       .have A:=il I;clear I
        go_wp2_with (first|(go_at_call 38;((with_reducible refine(kH a.out _).mono ?_);rintro e w'⟨rfl,rfl⟩))|(go_at_call 38;((with_reducible refine(kH d.out _).mono ?_);rintro e w'⟨rfl,rfl⟩))|(go_at_call 38;((with_reducible refine(kH A.out _).mono ?_);rintro e w'⟨rfl,rfl⟩)))
        go_loopw [5] (λi M=>∃q:Nat,q<=m/\i=jz kG q/\(∀j,j<q->eB (x j).1 (x j).2.1≠eB (x m).1 (x m).2.1)/\M.heap[w.heap.size]?=some (ld #[jz kG l,jz kG p,J,jQ (some ⟨k,o,none⟩) n c,K,v5] 27)/\M.heap[y.heap.size]?=some (ld #[jz kG (x m).1,jz kG (x m).2.1,jz kG (x m).2.2] 94)/\bA w M) (λi _=>m-(intOf i).toNat)
        case atStart=>exact⟨0,f8 _,rfl,λj r=>absurd r (f9 _),(fY _ _ _ mF).trans L.out,au _ _,B⟩
        case round=>
         obtain⟨q,hq,rfl,X,Y,Z,g⟩:=hrel;have HJ:=il X;have N:=il Y;have O:=il Z;clear X Y Z;obtain⟨f0,f1,f2,f3,f4,f5⟩:=bf N.out;obtain⟨g0,g1,g2⟩:=aao O.out;have dx:y.heap.size<wr.heap.size:=getElem?_lt' O.out;have wD:w.heap.size<wr.heap.size:=ab;by_cases qN:q<m
         .have k0:=(g.cell (p:=⟨k,o+q*3,none⟩) t).trans (R.out q ab);have k1:=(g.cell (p:=⟨k,o+q*3+1,none⟩) t).trans (S.out q ab);have k2:=(g.cell (p:=⟨k,o+q*3+2,none⟩) t).trans (T.out q ab);have i2:(q:Int)<n:=ab;go_wp2
          any_goals (
           go_ret;have P:eB (x q).1 (x q).2.1=eB (x m).1 (x m).2.1:=Ex.2 bo;have nt:eB (x m).1 (x m).2.1∈(gD m).map (λj=>eB (x j).1 (x j).2.1):=List.mem_map.2 ⟨q,List.mem_range.2 qN,P⟩
           exact⟨aC (dh (v:=5) hb s.out f (by simp only[fQ];rw[a.out,d.out,A.out,if_neg E.out,if_pos nt];rfl) ao),g.alloc g.size _⟩)
          all_goals (
           have P:eB (x q).1 (x q).2.1≠eB (x m).1 (x m).2.1:=λe=>by
            have e2:=Ex.1 e;have e3:=E.out;simp_all
           refine⟨⟨q+1,qN,by go_num,λj r=>?_,(fY _ _ _ wD).trans N.out,(fY _ _ _ dx).trans O.out,g.alloc g.size _⟩,by simp[intOf];omega⟩
           rcases Nat.lt_succ_iff_lt_or_eq.1 r with h|h
           .exact HJ.out j h
           .rw[h];exact P)
         .obtain rfl:q=m:=ab;go_wp2;refine⟨⟨q+1,f,by go_num,λj r=>?_,N.out,g⟩,by simp[intOf];omega⟩
          rcases Nat.lt_succ_iff_lt_or_eq.1 r with h|h
          .exact s.out j h
          .have uB:eB (x q).1 (x q).2.1∉(gD q).map (λj=>eB (x j).1 (x j).2.1):=λU=>by
            obtain⟨j,C,D⟩:=List.mem_map.1 U;exact HJ.out j (List.mem_range.1 C) D
           rw[h];simp only[fQ];rw[a.out,d.out,A.out,if_neg E.out,if_neg uB];rfl
       .have A:=il (aV I);clear I
        go_wp2_with (first|(go_at_call 38;((with_reducible refine(kH a.out _).mono ?_);rintro e w'⟨rfl,rfl⟩))|(go_at_call 38;((with_reducible refine(kH d.out _).mono ?_);rintro e w'⟨rfl,rfl⟩))|(go_at_call 38;((with_reducible refine(vQ A.out _).mono ?_);rintro e w'⟨rfl,rfl⟩)))
        go_ret;exact⟨aC (dh (v:=1) hb s.out f (by simp[fQ,a.out,d.out,E.out,A.out]) ao),B⟩
     .have d:=il (aV H);clear H
      go_wp2_with (first|(go_at_call 38;((with_reducible refine(kH a.out _).mono ?_);rintro e w'⟨rfl,rfl⟩))|(go_at_call 38;((with_reducible refine(vQ d.out _).mono ?_);rintro e w'⟨rfl,rfl⟩)))
      go_ret;exact⟨aC (dh (v:=6) hb s.out f (by simp[fQ,a.out,d.out]) ao),B⟩
    .have a:=il (aV F);clear F
     go_wp2_with (first|(go_at_call 38;((with_reducible refine(vQ a.out _).mono ?_);rintro e w'⟨rfl,rfl⟩)))
     go_ret;exact⟨aC (dh (v:=6) hb s.out f (by simp[fQ,a.out]) ao),B⟩
   .obtain rfl:m=n:=ab;go_wp2;go_ret;exact⟨aC (by rw[kz,if_neg hb];exact cz s.out),u⟩
def J9{s:ByteArray}(h:ku s=true)(w:ad)(hs:s.size<=100):bi PL 68 #[jR s] w λe w'=>e=ky (jx true)/\w=w':=by
 have:=vv s w hs;rwa[h]at this
def Ka{s:ByteArray}(h:ku s=false)(w:ad)(hs:s.size<=100):bi PL 68 #[jR s] w λe w'=>e=ky (jx false)/\w=w':=by
 have:=vv s w hs;rwa[h]at this
def sZ(a b:ByteArray):(a.toList==b.toList)=decide (a=b):=by rw[<-beq_toListBytes,bytes_beq]
def yx(C:CD)(m:Nat)(w:ad)(h:C.At w)(b:m<C.n5):bi PL 42 #[jD C.val,jz kG (m:Int)] w (aO (jz kG (iI C.n4 C.x5 m)) w):=by
 have H:=il h;have c0:=h.FI m b;have c1:=h.HU m b;have c2:=h.J6 m b;have Z:=h.s5 ab;have L:=h.h5;have M:=h.nm5 m b;have m5:=h.m5;have m4:=h.m4;clear h;obtain⟨l,p,N,k2,o2,O,P,x2,Q,k3,o3,R,S,x3,T,k4,o4,I,U,x4,b5,u,v,d,V,a⟩:=C;simp only at c0 c1 c2 Z L M m5 m4 b ⊢;subst Z;have hmi:(m:Int)<d:=ab;by_cases c:ku (a m).1=true
 .have n:=il c;clear c;go_enter (fx ao d8),eS
  go_wp2_with (go_at_call 68;refine(J9 n.out _ M).mono ?_;rintro e w'⟨rfl,rfl⟩)
  go_loopw [6] (λi wr=>∃q:Nat,q<=m/\i=jz kG q/\(∀j,j<q->(a j).1≠(a m).1)/\wr.heap[w.heap.size]?=some (ld #[jz kG l,jz kG p,jQ N O P,jQ Q R S,jQ T I U,jQ (some ⟨u,v,none⟩) d V] 27)/\wr.heap[w.heap.size+1]?=some (ld #[jR (a m).1,jz kG (a m).2.1,jz kG (a m).2.2] 32)/\bA w wr) (λi _=>m-(intOf i).toNat)
  case atStart=>
   refine⟨0,f8 _,rfl,λj f=>absurd f (f9 _),(fY _ _ _ ar).trans (au _ _),?_,((fR _ _).alloc (f7 _) _).alloc ar _⟩;have:=au (w.alloc (ld #[jz kG l,jz kG p,jQ N O P,jQ Q R S,jQ T I U,jQ (some ⟨u,v,none⟩) d V] 27)) (ld #[jR (a m).1,jz kG (a m).2.1,jz kG (a m).2.2] 32);simpa using this
  case round=>
   obtain⟨q,hq,rfl,x,y,z,A⟩:=hrel;have HJ:=il x;have o:=il y;have s:=il z;clear x y z;obtain⟨f0,f1,f2,f3,f4,f5⟩:=bf o.out;obtain⟨g0,g1,g2⟩:=aao s.out;by_cases qN:q<m
   .have k0:=(A.cell (p:=⟨u,v+q*3,none⟩) L).trans (H.out.FI q (by show q<d;omega));simp only at k0;have i2:(q:Int)<d:=ab;go_wp2
    go_quiet (fail)
    go_wp2
    .have g:(a q).1=(a m).1:=by
      have t:((a q).1.toList==(a m).1.toList)=true:=ba;rw[sZ]at t;simpa using t
     have W:(a m).1∈(gD m).map (λj=>(a j).1):=List.mem_map.2 ⟨q,List.mem_range.2 qN,g⟩;go_ret;exact⟨aC (by simp[iI,iH,n.out,W]),dr A _⟩
    .have g:(a q).1≠(a m).1:=by
      have t:((a q).1.toList==(a m).1.toList)=false:=ba;rw[sZ]at t;simpa using t
     refine⟨⟨q+1,qN,by go_num,λj f=>?_,o.out,s.out,dr A _⟩,by simp[intOf];omega⟩
     rcases Nat.lt_succ_iff_lt_or_eq.1 f with h|h
     .exact HJ.out j h
     .rw[h];exact g
   .obtain rfl:q=m:=ab;have DR:iH (a q).1 ((gD q).map λj=>(a j).1)=0:=by
     have c:(a q).1∉(gD q).map (λj=>(a j).1):=λb=>by
      obtain⟨j,X,Y⟩:=List.mem_map.1 b;exact HJ.out j (List.mem_range.1 X) Y
     simp only[iH];rw[if_pos n.out,if_neg c]
    have J:=il DR;clear DR;by_cases K:bO (a q).2.1 0 (I-1)=true
    .have k:=il K;clear K;obtain⟨wo,rfl⟩:=br wr
     go_wp2_with (first|(go_at_call 38;((with_reducible refine(kH k.out _).mono ?_);rintro e w'⟨rfl,rfl⟩)))
     go_loopw [7] (λi wr=>∃r:Nat,r<=q/\i=jz kG r/\(∀j,j<r->(a j).2.1≠(a q).2.1)/\wr.heap[w.heap.size]?=some (ld #[jz kG l,jz kG p,jQ N O P,jQ Q R S,jQ T I U,jQ (some ⟨u,v,none⟩) d V] 27)/\wr.heap[w.heap.size+1]?=some (ld #[jR (a q).1,jz kG (a q).2.1,jz kG (a q).2.2] 32)/\bA w wr) (λi _=>q-(intOf i).toNat)
     case atStart=>exact⟨0,f8 _,rfl,λj f=>absurd f (f9 _),o.out,s.out,A⟩
     case round=>
      obtain⟨r,hr,rfl,x,y,z,B⟩:=hrel;have HK:=il x;have o:=il y;have s:=il z;clear x y z;obtain⟨f0,f1,f2,f3,f4,f5⟩:=bf o.out;obtain⟨g0,g1,g2⟩:=aao s.out;by_cases E:r<q
      .have k1:=(B.cell (p:=⟨u,v+r*3+1,none⟩) L).trans (H.out.HU r (by show r<d;omega));simp only at k1;have i2:(r:Int)<d:=ab;go_wp2
       go_quiet (fail)
       go_wp2
       .have g:(a r).2.1=(a q).2.1:=by
         have t:((a r).2.1==(a q).2.1)=true:=ba;simpa using t
        have W:(a q).2.1∈(gD q).map (λj=>(a j).2.1):=List.mem_map.2 ⟨r,List.mem_range.2 E,g⟩;go_ret;exact⟨aC (by simp only[iI];rw[if_pos J.out,k.out,if_pos W];rfl),dr B _⟩
       .have g:(a r).2.1≠(a q).2.1:=by
         have t:((a r).2.1==(a q).2.1)=false:=ba;simpa using t
        refine⟨⟨r+1,E,by go_num,λj f=>?_,o.out,s.out,dr B _⟩,by simp[intOf];omega⟩
        rcases Nat.lt_succ_iff_lt_or_eq.1 f with h|h
        .exact HK.out j h
        .rw[h];exact g
      .obtain rfl:r=q:=ab;have c:(a r).2.1∉(gD r).map (λj=>(a j).2.1):=λb=>by
        obtain⟨j,X,Y⟩:=List.mem_map.1 b;exact HK.out j (List.mem_range.1 X) Y
       have F:=il c;clear c;by_cases hd:bO (a r).2.2 0 12=true
       .have D:=il hd;clear hd
        go_wp2_with (first|(go_at_call 38;((with_reducible refine(kH D.out _).mono ?_);rintro e w'⟨rfl,rfl⟩)))
        go_ret;exact⟨aC (by simp only[iI];rw[if_pos J.out,k.out,if_neg F.out,D.out];rfl),B⟩
       .have D:=il (aV hd);clear hd
        go_wp2_with (first|(go_at_call 38;((with_reducible refine(vQ D.out _).mono ?_);rintro e w'⟨rfl,rfl⟩)))
        go_ret;exact⟨aC (by simp only[iI];rw[if_pos J.out,k.out,if_neg F.out,D.out];rfl),B⟩
    .have k:=il (aV K);clear K
     go_wp2_with (first|(go_at_call 38;((with_reducible refine(vQ k.out _).mono ?_);rintro e w'⟨rfl,rfl⟩)))
     go_ret;exact⟨aC (by simp only[iI];rw[if_pos J.out,k.out];rfl),A⟩
 .have n:=il (aV c);clear c;go_enter (fx ao d8),eS
  go_wp2_with (go_at_call 68;refine(Ka n.out _ M).mono ?_;rintro e w'⟨rfl,rfl⟩)
  go_ret;exact⟨aC (by simp[iI,iH,n.out]),((fR _ _).alloc (f7 _) _).alloc ar _⟩
def Ey{a b low c:Int}(h:eK a b low c=true)(w:ad):bi PL 39 #[jD #[jz kG a,jz kG b],jz kG low,jz kG c] w (aO (jx true) w):=by
 have:=kB a b low c w;rwa[h]at this
def Ez{a b low c:Int}(h:eK a b low c=false)(w:ad):bi PL 39 #[jD #[jz kG a,jz kG b],jz kG low,jz kG c] w (aO (jx false) w):=by
 have:=kB a b low c w;rwa[h]at this
def Vi(n a b:Int)(w:ad):bi PL 38 #[jz kG n,jz kG a,jz kG b] w λe w'=>e=ky (jx (bO n a b))/\w=w':=(rJ n a b w).mono λ_ _⟨a,b⟩=>⟨a,b.symm⟩
def gx{w:ad}{k:Nat}{x0 x1 x2 x3 x4 a b c d e f g:aT}{t:ac}(h:w.heap[k]?=some (ld #[x0,x1,x2,x3,x4,a,b,c,d,e,f,g] t)) :
 w.cell? ⟨k,0,none⟩=some x0/\w.cell? ⟨k,1,none⟩=some x1/\w.cell? ⟨k,2,none⟩=some x2/\w.cell? ⟨k,3,none⟩=some x3/\w.cell? ⟨k,4,none⟩=some x4/\w.cell? ⟨k,5,none⟩=some a/\w.cell? ⟨k,6,none⟩=some b/\w.cell? ⟨k,7,none⟩=some c/\w.cell? ⟨k,8,none⟩=some d/\w.cell? ⟨k,9,none⟩=some e/\w.cell? ⟨k,10,none⟩=some f/\w.cell? ⟨k,11,none⟩=some g:=by
 simp[i4,h]
def aap{w:ad}{k:Nat}{x0 x1 x2 x3 x4 a b c d e f g:aT}{t:ac}(h:w.heap[k]?=some (ld #[x0,x1,x2,x3,x4,a,b,c,d,e,f,g] t)):w.cell? ⟨k,0,none⟩=some x0:=(gx h).1
def Xq{w W:ad}{x0 x1 x2 x3 x4 a c d e f g i:aT}{B:Array aT}{t u:ac}(h:W.heap[w.heap.size+1]?=some (ld #[x0,x1,x2,x3,x4,a,c,d,e,f,g,i] t))(k:W.heap[w.heap.size]?=some (ld B u))(b:bA w W) :
 W.cell? ⟨w.heap.size+1,1,none⟩=some x1/\W.cell? ⟨w.heap.size+1,3,none⟩=some x3/\W.cell? ⟨w.heap.size+1,4,none⟩=some x4/\(W.heap[w.heap.size]?=some (ld B u)/\W.heap[w.heap.size+1]?=some (ld #[x0,x1,x2,x3,x4,a,c,d,e,f,g,i] t)/\bA w W):=
 ⟨(gx h).2.1,(gx h).2.2.2.1,(gx h).2.2.2.2.1,k,h,b⟩
def aaq{w W a:ad}{x0 x1 x2 x3 x4 d e f g i j l:aT}{B:Array aT}{t u:ac}(m:W.cell? ⟨w.heap.size+1,1,none⟩=some x1)(n:W.cell? ⟨w.heap.size+1,3,none⟩=some x3)(o:W.cell? ⟨w.heap.size+1,4,none⟩=some x4)(k:W.heap[w.heap.size]?=some (ld B u))(h:W.heap[w.heap.size+1]?=some (ld #[x0,x1,x2,x3,x4,d,e,f,g,i,j,l] t))(b:bA w W)(c:bA W a) :
 a.cell? ⟨w.heap.size+1,1,none⟩=some x1/\a.cell? ⟨w.heap.size+1,3,none⟩=some x3/\a.cell? ⟨w.heap.size+1,4,none⟩=some x4/\(a.heap[w.heap.size]?=some (ld B u)/\a.heap[w.heap.size+1]?=some (ld #[x0,x1,x2,x3,x4,d,e,f,g,i,j,l] t)/\bA w a):=
 Xq ((c.block _ (getElem?_lt' h)).trans h) ((c.block _ (getElem?_lt' k)).trans k) (Below.on b c)
def ED(C:CD)(m:Nat)(w:ad)(h:C.At w)(b:m<C.n4)(J0:1<=C.p)(u:C.p<=6):bi PL 41 #[jD C.val,jz kG (m:Int)] w (aO (jz kG (gM C.p C.n2 C.n3 C.x4 m)) w):=by
 have H:=il h;have c0:=h.AD m b;have c1:=h.dB m b 1 ab ab;have c2:=h.dB m b 2 ab ab;have c3:=h.dB m b 3 ab ab;have c4:=h.dB m b 4 ab ab;have c5:=h.dB m b 5 ab ab;have c6:=h.dB m b 6 ab ab;have c7:=h.dB m b 7 ab ab;have c8:=h.dB m b 8 ab ab;have c9:=h.dB m b 9 ab ab;have V:=h.dB m b 10 ab ab;have X:=h.nj m b;have s4:=h.s4 ab;have h4:=h.h4;have Y:=(h.cu m b).1;have Tl:=(h.cu m b).2;have m4:=h.m4;have m2:=h.m2;have m3:=h.m3;clear h;obtain⟨l,p,J,k2,o2,v,K,x2,L,k3,o3,M,N,x3,b4,z,A,o,O,x4,P,k5,o5,Q,R,x5⟩:=C;simp only at c0 c1 c2 c3 c4 c5 c6 c7 c8 c9 V X s4 h4 Y Tl m4 m2 m3 b J0 u ⊢;subst s4;have hmi:(m:Int)<o:=ab;by_cases x:ku (x4 m).name=true
 .have y:=il x;clear x;go_enter (fx ao dU),eT
  go_wp2_with (go_at_call 68;refine(J9 y.out _ Y).mono ?_;rintro e w'⟨rfl,rfl⟩)
  go_loopw [6] (λi wr=>∃q:Nat,q<=m/\i=jz kG q/\(∀j,j<q->(x4 j).name≠(x4 m).name)/\wr.heap[w.heap.size]?=some (ld #[jz kG l,jz kG p,jQ J v K,jQ L M N,jQ (some ⟨z,A,none⟩) o O,jQ P Q R] 27)/\wr.heap[w.heap.size+1]?=some (ld #[jR (x4 m).name,jz kG ((x4 m).n 1),jz kG ((x4 m).n 2),jz kG ((x4 m).n 3),jz kG ((x4 m).n 4),jz kG ((x4 m).n 5),jz kG ((x4 m).n 6),jz kG ((x4 m).n 7),jz kG ((x4 m).n 8),jz kG ((x4 m).n 9),jz kG ((x4 m).n 10),jQ (x4 m).lb (x4 m).ln (x4 m).lc] 88)/\bA w wr) (λi _=>m-(intOf i).toNat)
  case atStart=>
   refine⟨0,f8 _,rfl,λj Z=>absurd Z (f9 _),(fY _ _ _ ar).trans (au _ _),?_,((fR _ _).alloc (f7 _) _).alloc ar _⟩;have:=au (w.alloc (ld #[jz kG l,jz kG p,jQ J v K,jQ L M N,jQ (some ⟨z,A,none⟩) o O,jQ P Q R] 27)) (ld #[jR (x4 m).name,jz kG ((x4 m).n 1),jz kG ((x4 m).n 2),jz kG ((x4 m).n 3),jz kG ((x4 m).n 4),jz kG ((x4 m).n 5),jz kG ((x4 m).n 6),jz kG ((x4 m).n 7),jz kG ((x4 m).n 8),jz kG ((x4 m).n 9),jz kG ((x4 m).n 10),jQ (x4 m).lb (x4 m).ln (x4 m).lc] 88);simpa using this
  case round=>
   obtain⟨q,hq,rfl,vw,jM,NU,S⟩:=hrel;have HJ:=il vw;have Ce:=il jM;have B:=il NU;clear vw jM NU;obtain⟨f0,f1,f2,f3,f4,f5⟩:=bf Ce.out;have g0:=aap B.out;by_cases qN:q<m
   .have k0:=(S.cell (p:=⟨z,A+q*12,none⟩) h4).trans (H.out.AD q (by show q<o;omega));simp only at k0;have i2:(q:Int)<o:=ab;go_wp2
    go_quiet (fail)
    go_wp2
    .have he:(x4 q).name=(x4 m).name:=by
      have t:((x4 q).name.toList==(x4 m).name.toList)=true:=ba;rw[sZ]at t;simpa using t
     have nt:(x4 m).name∈(gD m).map (λj=>(x4 j).name):=List.mem_map.2 ⟨q,List.mem_range.2 qN,he⟩;go_ret;exact⟨aC (by simp[gM,iH,y.out,nt]),dr S _⟩
    .have he:(x4 q).name≠(x4 m).name:=by
      have t:((x4 q).name.toList==(x4 m).name.toList)=false:=ba;rw[sZ]at t;simpa using t
     refine⟨⟨q+1,qN,by go_num,λj Z=>?_,Ce.out,B.out,dr S _⟩,by simp[intOf];omega⟩
     rcases Nat.lt_succ_iff_lt_or_eq.1 Z with h|h
     .exact HJ.out j h
     .rw[h];exact he
   .obtain rfl:q=m:=ab;have DR:iH (x4 q).name ((gD q).map λj=>(x4 j).name)=0:=by
     have x:(x4 q).name∉(gD q).map (λj=>(x4 j).name):=λb=>by
      obtain⟨j,h1,h2⟩:=List.mem_map.1 b;exact HJ.out j (List.mem_range.1 h1) h2
     simp only[iH];rw[if_pos y.out,if_neg x]
    have Xp:=il DR;clear DR;obtain⟨T,rfl⟩:=br wr;have c:=S;have g:=Ce;have k:=B;have d:w.heap.size+1<T.heap.size:=getElem?_lt' B.out;have f:w.heap.size<T.heap.size:=ab;obtain⟨a0,a1,a2,a3,a4,a5,a6,a7,a8,a9,zm,zM⟩:=gx B.out;have LB:=il (λhl=>(H.out.l4 q b hl).1);have FH:0<(x4 q).ln->(x4 q).lk<w.heap.size:=λhl=>(H.out.l4 q b hl).2;by_cases D:eK ((x4 q).n 3) ((x4 q).n 4) (-90) 90=true
    .have E:=il D;have Q8 : -90<=(x4 q).n 3/\(x4 q).n 3<=90:=by
      simp only[eK,jp,decide_eq_true_eq]at D;omega
     obtain⟨Q8,hr4⟩:=Q8;clear D
     go_wp2_with (first|(go_at_call 39;((with_reducible refine(Ey E.out _).mono ?_);rintro e w1⟨rfl,a⟩;obtain⟨F,I⟩:=cW a;have c:=Below.on c a;have g:=il ((a.block _ f).trans g.out);have k:=il ((a.block _ d).trans k.out);have d:=gg d a.size;have f:=gg f a.size))|(go_at_call 39;refine(kB _ _ _ _ _).mono ?_;rintro e w1⟨rfl,a⟩;obtain⟨F,I⟩:=cW a;have c:=Below.on c a;have g:=il ((a.block _ f).trans g.out);have k:=il ((a.block _ d).trans k.out);have d:=gg d a.size;have f:=gg f a.size))
     .have hS:=Xq (W:=w1.drew) k.out g.out c.drew;clear F I
      go_region_held3 (λW=>W.cell? ⟨w.heap.size+1,1,none⟩=some (jz kG ((x4 q).n 1))/\W.cell? ⟨w.heap.size+1,3,none⟩=some (jz kG ((x4 q).n 3))/\W.cell? ⟨w.heap.size+1,4,none⟩=some (jz kG ((x4 q).n 4))/\(W.heap[w.heap.size]?=some (ld #[jz kG l,jz kG p,jQ J v K,jQ L M N,jQ (some ⟨z,A,none⟩) o O,jQ P Q R] 27)/\W.heap[w.heap.size+1]?=some (ld #[jR (x4 q).name,jz kG ((x4 q).n 1),jz kG ((x4 q).n 2),jz kG ((x4 q).n 3),jz kG ((x4 q).n 4),jz kG ((x4 q).n 5),jz kG ((x4 q).n 6),jz kG ((x4 q).n 7),jz kG ((x4 q).n 8),jz kG ((x4 q).n 9),jz kG ((x4 q).n 10),jQ (x4 q).lb (x4 q).ln (x4 q).lc] 88)/\bA w W)) (first|exact hS|(go_split_ands;refine aaq ‹_› ‹_› ‹_› ‹_› ‹_› ‹_› qA)|go_keep) ((go_at_call 69;refine(AI _ _ _ Q8 hr4).mono ?_;rintro e w2⟨rfl,qA⟩))
      have hS2:w2.cell? ⟨w.heap.size+1,1,none⟩=some (jz kG ((x4 q).n 1))/\w2.cell? ⟨w.heap.size+1,3,none⟩=some (jz kG ((x4 q).n 3))/\w2.cell? ⟨w.heap.size+1,4,none⟩=some (jz kG ((x4 q).n 4))/\(w2.heap[w.heap.size]?=some (ld #[jz kG l,jz kG p,jQ J v K,jQ L M N,jQ (some ⟨z,A,none⟩) o O,jQ P Q R] 27)/\w2.heap[w.heap.size+1]?=some (ld #[jR (x4 q).name,jz kG ((x4 q).n 1),jz kG ((x4 q).n 2),jz kG ((x4 q).n 3),jz kG ((x4 q).n 4),jz kG ((x4 q).n 5),jz kG ((x4 q).n 6),jz kG ((x4 q).n 7),jz kG ((x4 q).n 8),jz kG ((x4 q).n 9),jz kG ((x4 q).n 10),jQ (x4 q).lb (x4 q).ln (x4 q).lc] 88)/\bA w w2):=ba;obtain⟨_,_,_,NV,u,c⟩:=hS2;have g:=il NV;have k:=il u;have d:w.heap.size+1<w2.heap.size:=getElem?_lt' u;have f:w.heap.size<w2.heap.size:=ab;obtain⟨a0,a1,a2,a3,a4,a5,a6,a7,a8,a9,zm,zM⟩:=gx u;obtain⟨f0,f1,f2,f3,f4,f5⟩:=bf NV;clear NV u
      go_wp2_with (first|(go_at_call 38;refine(Vi _ _ _ _).mono ?_;rintro e w'⟨rfl,rfl⟩)|(go_at_call 39;refine(kB _ _ _ _ _).mono ?_;rintro e w1⟨rfl,a⟩;obtain⟨F,I⟩:=cW a;have c:=Below.on c a;have g:=il ((a.block _ f).trans g.out);have k:=il ((a.block _ d).trans k.out);have d:=gg d a.size;have f:=gg f a.size)|(go_at_call 70;refine(Vh _ (x4 q).lk (x4 q).lo _ _ _ (x4 q).lane _ Tl m3 (λhl=>gg (FH hl) c.size) LB.out (λi hi=>(c.cell (p:=⟨(x4 q).lk,(x4 q).lo+i,none⟩) (FH ab)).trans (H.out.J5 q b i hi))).mono ?_;rintro e w1⟨rfl,a⟩;have c:=Below.on c a))
      all_goals (
       go_ret;have P1:eK ((x4 q).n 1) ((x4 q).n 2) 1 90=true:=ba;refine⟨aC ?_,c⟩;simp only[gM];rw[if_pos Xp.out,P1,E.out]
       first
        |(have t:(x4 q).n 1<max ((x4 q).n 4) (-(x4 q).n 3):=by assumption
          rw[if_pos (by rfl),if_pos ab];done)
        |(have t:max ((x4 q).n 4) (-(x4 q).n 3)<=(x4 q).n 1:=by assumption
          rw[if_pos (by rfl),if_neg ab]
          first
           |(have t1:¬bO ((x4 q).n 5) 0 (↑v-1)=true:=by assumption
             rw[aV t1];rfl)
           |(have t1:bO ((x4 q).n 5) 0 (↑v-1)=true:=by assumption
             first
              |(have t2:(!bO ((x4 q).n 6) 0 (p-1))=true:=by assumption
                have r:bO ((x4 q).n 6) 0 (p-1)=false:=by simpa using t2
                rw[t1,r];rfl)
              |(have t2:(!bO ((x4 q).n 6) 0 (p-1))=false:=by assumption
                have r:bO ((x4 q).n 6) 0 (p-1)=true:=by simpa using t2
                rw[t1,r,if_pos (by rfl)]
                first
                 |(have U:¬eK ((x4 q).n 7) ((x4 q).n 8) 1 60=true:=by assumption
                   rw[aV U];rfl)
                 |(have U:eK ((x4 q).n 7) ((x4 q).n 8) 1 60=true:=by assumption
                   first
                    |(have t4:(!eK ((x4 q).n 9) ((x4 q).n 10) 0 60)=true:=by assumption
                      have s:eK ((x4 q).n 9) ((x4 q).n 10) 0 60=false:=by simpa using t4
                      rw[U,s];rfl)
                    |(have t4:(!eK ((x4 q).n 9) ((x4 q).n 10) 0 60)=false:=by assumption
                      have s:eK ((x4 q).n 9) ((x4 q).n 10) 0 60=true:=by simpa using t4
                      rw[U,s,if_pos (by rfl)])))))
       done)
     .go_ret;have t:¬eK ((x4 q).n 1) ((x4 q).n 2) 1 90=true:=ba;exact⟨aC (by simp only[gM];rw[if_pos Xp.out,aV t];simp),c⟩
    .have E:=il (aV D);clear D
     go_wp2_with (first|(go_at_call 39;((with_reducible refine(Ez E.out _).mono ?_);rintro e w1⟨rfl,a⟩;obtain⟨F,I⟩:=cW a;have c:=Below.on c a;have g:=il ((a.block _ f).trans g.out);have k:=il ((a.block _ d).trans k.out);have d:=gg d a.size;have f:=gg f a.size))|(go_at_call 39;refine(kB _ _ _ _ _).mono ?_;rintro e w1⟨rfl,a⟩;obtain⟨F,I⟩:=cW a;have c:=Below.on c a;have g:=il ((a.block _ f).trans g.out);have k:=il ((a.block _ d).trans k.out);have d:=gg d a.size;have f:=gg f a.size))
     all_goals (
      go_ret
      exact⟨aC (by simp only[gM];rw[if_pos Xp.out,E.out];simp),c⟩)
 .have y:=il (aV x);clear x;go_enter (fx ao dU),eT
  go_wp2_with (go_at_call 68;refine(Ka y.out _ Y).mono ?_;rintro e w'⟨rfl,rfl⟩)
  go_ret;exact⟨aC (by simp[gM,iH,y.out]),((fR _ _).alloc (f7 _) _).alloc ar _⟩
def EE(C:CD)(w:ad)(h:C.At w)(a:C.dP 0=0):bi PL 40 #[jD C.val] w (aO (jz kG (C.dP 2)) w):=
 Ic _ _ _ _ _ _ _ _ _ _ _ _ h.m3 (cK a).1 (cK a).2 h.h3 h.s3 h.Es h.Et h.Eu
def EF(C:CD)(w:ad)(h:C.At w)(a:C.dP 0=0)(b:C.dP 2=0):bi PL 40 #[jD C.val] w (aO (jz kG 0) w):=by
 have:=EE C w h a;rwa[b]at this
def aar(C:CD)(m:Nat)(w:ad)(h:C.At w)(a:m<C.n4)(b:1<=C.p)(c:C.p<=6)(d:gM C.p C.n2 C.n3 C.x4 m=0):bi PL 41 #[jD C.val,jz kG (m:Int)] w (aO (jz kG 0) w):=by
 have:=ED C m w h a b c;rwa[d]at this
def Rh(C:CD)(m:Nat)(w:ad)(h:C.At w)(a:m<C.n5)(b:iI C.n4 C.x5 m=0):bi PL 42 #[jD C.val,jz kG (m:Int)] w (aO (jz kG 0) w):=by
 have:=yx C m w h a;rwa[b]at this
def rK(C:CD)(w:ad)(h:C.At w):bi PL 15 #[jD C.val] w (aO (jz kG C.cx) w):=by
 have H:=il h;have m2:=h.m2;have m4:=h.m4;have m5:=h.m5;have S:=h.h2;have S2:=il h.s2;clear h;by_cases hl:bO C.l 1 999=true
 case neg=>
  have L:=il (aV hl);clear hl;go_enter (fx ao db),eV
  go_wp2_with (first|(go_at_call 38;((with_reducible refine(vQ L.out _).mono ?_);rintro e w'⟨rfl,rfl⟩)))
  go_ret;have v:C.dP 0=1:=by simp[CD.dP,jd,L.out]
  exact⟨aC ((cR (m:=0) (λj b=>absurd b (f9 _)) ab (by rw[v];decide)).trans v),(fR _ _).alloc (f7 _) _⟩
 case pos=>
 have L:=il hl;clear hl;by_cases J:bO C.p 1 6=true
 case neg=>
  have P:=il (aV J);clear J;go_enter (fx ao db),eV
  go_wp2_with (first|(go_at_call 38;((with_reducible refine(kH L.out _).mono ?_);rintro e w'⟨rfl,rfl⟩))|(go_at_call 38;((with_reducible refine(vQ P.out _).mono ?_);rintro e w'⟨rfl,rfl⟩)))
  go_ret;have v:C.dP 0=1:=by simp[CD.dP,jd,L.out,P.out]
  exact⟨aC ((cR (m:=0) (λj b=>absurd b (f9 _)) ab (by rw[v];decide)).trans v),(fR _ _).alloc (f7 _) _⟩
 case pos=>
 have P:=il J;clear J;have z0:C.dP 0=0:=by simp[CD.dP,jd,L.out,P.out]
 have n:=il z0;clear z0;by_cases B:bO C.n2 1 3=true
 case neg=>
  have y:=il (aV B);clear B;go_enter (fx ao db),eV
  go_wp2_with (first|(go_at_call 38;((with_reducible refine(kH L.out _).mono ?_);rintro e w'⟨rfl,rfl⟩))|(go_at_call 38;((with_reducible refine(kH P.out _).mono ?_);rintro e w'⟨rfl,rfl⟩))|(go_at_call 38;((with_reducible refine(vQ y.out _).mono ?_);rintro e w'⟨rfl,rfl⟩)))
  go_ret;have v:C.dP 1=2:=by simp[CD.dP,pq,y.out]
  exact⟨aC ((cR (m:=1) (λj b=>by(obtain rfl:j=0:=by omega);exact n.out) ab (by rw[v];decide)).trans v),(fR _ _).alloc (f7 _) _⟩
 case pos=>
 have y:=il B;have vI:0<C.n2:=by simp[bO]at B;omega
 clear B;go_enter (fx ao db),eV
 go_wp2_with (first|(go_at_call 38;((with_reducible refine(kH L.out _).mono ?_);rintro e w'⟨rfl,rfl⟩))|(go_at_call 38;((with_reducible refine(kH P.out _).mono ?_);rintro e w'⟨rfl,rfl⟩))|(go_at_call 38;((with_reducible refine(kH y.out _).mono ?_);rintro e w'⟨rfl,rfl⟩)))
 have K:=S2.out vI;rw[K];have Kf:=il K;clear K
 go_loopw [3] (λi wr=>∃q:Nat,q<=C.n2/\i=jz kG q/\(∀j,j<q->eK (C.x2 j).1 (C.x2 j).2 0 90=true)/\wr.heap[w.heap.size]?=some (ld C.val 27)/\bA w wr) (λi _=>C.n2-(intOf i).toNat)
 case atStart=>exact⟨0,f8 _,rfl,λj b=>absurd b (f9 _),au _ _,(fR _ _).alloc (f7 _) _⟩
 case round=>
  obtain⟨q,T,rfl,x,o,c⟩:=hrel;have U:=il x;have d:=il o;have f:w.heap.size<wr.heap.size:=getElem?_lt' o;clear x o;obtain⟨V,W,M,X,f4,Y⟩:=bf d.out;by_cases g:q<C.n2
  .have k0:=(c.cell (p:=⟨C.k2,C.o2+q*2,none⟩) S).trans (H.out.Ep q g);have k1:=(c.cell (p:=⟨C.k2,C.o2+q*2+1,none⟩) S).trans (H.out.Er q g);have i2:(q:Int)<C.n2:=ab;rw[Kf.out]at M;by_cases hi:eK (C.x2 q).1 (C.x2 q).2 0 90=true
   .have D:=il hi;clear hi
    go_wp2_with (go_at_call 39;refine(Ey D.out _).mono ?_;rintro e w1⟨rfl,a⟩)
    refine⟨⟨q+1,g,by go_num,λj b=>?_,(a.block _ f).trans d.out,Below.on c a⟩,by simp[intOf];omega⟩
    rcases Nat.lt_succ_iff_lt_or_eq.1 b with h|h
    .exact U.out j h
    .rw[h];exact D.out
   .have D:=il (aV hi);clear hi
    go_wp2_with (go_at_call 39;refine(Ez D.out _).mono ?_;rintro e w1⟨rfl,a⟩)
    go_ret;have e1:C.dP 1=1:=by
     have:((gD C.n2).all λi=>eK (C.x2 i).1 (C.x2 i).2 0 90)=false:=by
      rw[gE];exact⟨q,List.mem_range.2 g,by simp[D.out]⟩
     simp[CD.dP,pq,y.out,this]
    exact⟨aC ((cR (m:=1) (λj b=>by(obtain rfl:j=0:=by omega);exact n.out) ab (by rw[e1];decide)).trans e1),Below.on c a⟩
  .obtain rfl:q=C.n2:=ab;have z1:C.dP 1=0:=by
    have:((gD C.n2).all λi=>eK (C.x2 i).1 (C.x2 i).2 0 90)=true:=by
     rw[gG];intro j b;exact U.out j (List.mem_range.1 b)
    simp[CD.dP,pq,y.out,this]
   have z:=il z1;clear z1;have k:=c;by_cases E:C.dP 2=0
   case neg=>
    have t:=il E;have arE:(C.dP 2 != 0)=true:=by simpa using E
    clear E
    go_wp2_with (go_at_call 40;refine(EE C _ (H.out.below k) n.out).mono ?_;rintro e w1⟨rfl,a⟩;obtain⟨Z,lR⟩:=cW a;have k:=Below.on k a;have d:=il ((a.block _ f).trans d.out);have f:=gg f a.size)
    go_ret
    exact⟨aC (cR (m:=2) (λj b=>by
     obtain rfl|rfl:j=0\/j=1:=ab
     .exact n.out
     .exact z.out) ab t.out),k⟩
   case pos=>
   have t:=il E;clear E;by_cases u:bO C.n4 2 5=true
   case neg=>
    have A:=il (aV u);clear u
    go_wp2_with (first|(go_at_call 40;refine(EF C _ (H.out.below k) n.out t.out).mono ?_;rintro e w1⟨rfl,a⟩;obtain⟨Z,lR⟩:=cW a;have k:=Below.on k a;have d:=il ((a.block _ f).trans d.out);have f:=gg f a.size)|(go_at_call 38;((with_reducible refine(vQ A.out _).mono ?_);rintro e w'⟨rfl,rfl⟩)))
    go_ret;have F:C.dP 3=2:=by simp[CD.dP,kA,A.out]
    exact⟨aC ((cR (m:=3) (λj b=>by
     obtain rfl|rfl|rfl:j=0\/j=1\/j=2:=ab
     .exact n.out
     .exact z.out
     .exact t.out) ab (by rw[F];decide)).trans F),k⟩
   case pos=>
   have A:=il u;clear u
   go_wp2_with (first|(go_at_call 40;refine(EF C _ (H.out.below k) n.out t.out).mono ?_;rintro e w1⟨rfl,a⟩;obtain⟨Z,lR⟩:=cW a;have k:=Below.on k a;have d:=il ((a.block _ f).trans d.out);have f:=gg f a.size)|(go_at_call 38;((with_reducible refine(kH A.out _).mono ?_);rintro e w'⟨rfl,rfl⟩)))
   have Xi:=cK (l:=C.l) n.out;obtain⟨J0,tL⟩:=Xi;have HX1:=d;have arF:=k;obtain⟨wo,rfl⟩:=br w1
   go_loopw [5] (λi wr=>∃q:Nat,q<=C.n4/\i=jz kG q/\(∀j,j<q->gM C.p C.n2 C.n3 C.x4 j=0)/\wr.heap[w.heap.size]?=some (ld C.val 27)/\bA w wr) (λi _=>C.n4-(intOf i).toNat)
   case atStart=>exact⟨0,f8 _,rfl,λj b=>absurd b (f9 _),d.out,k⟩
   case round=>
    obtain⟨q,T,rfl,x,o,c⟩:=hrel;have N:=il x;have d:=il o;have f:w.heap.size<wr.heap.size:=getElem?_lt' o;clear x o;obtain⟨V,W,M,X,f4,Y⟩:=bf d.out;by_cases g:q<C.n4
    .by_cases r:gM C.p C.n2 C.n3 C.x4 q=0
     .have s:=il r;clear r
      go_wp2_with (go_at_call 41;refine(aar C q _ (H.out.below c) g J0 tL s.out).mono ?_;rintro e w1⟨rfl,a⟩)
      refine⟨⟨q+1,g,by go_num,λj b=>?_,(a.block _ f).trans d.out,Below.on c a⟩,by simp[intOf];omega⟩
      rcases Nat.lt_succ_iff_lt_or_eq.1 b with h|h
      .exact N.out j h
      .rw[h];exact s.out
     .have s:=il r;have Yt:(gM C.p C.n2 C.n3 C.x4 q != 0)=true:=by simpa using r
      clear r
      go_wp2_with (go_at_call 41;refine(ED C q _ (H.out.below c) g J0 tL).mono ?_;rintro e w1⟨rfl,a⟩)
      go_ret;have F:C.dP 3=gM C.p C.n2 C.n3 C.x4 q:=dI A.out N.out g rfl s.out
      exact⟨aC ((cR (m:=3) (λj b=>by
      obtain rfl|rfl|rfl:j=0\/j=1\/j=2:=ab
      .exact n.out
      .exact z.out
      .exact t.out) ab (by rw[F];exact s.out)).trans F),Below.on c a⟩
    .obtain rfl:q=C.n4:=ab;have z3:C.dP 3=0:=by
      show kA _ _ _ _ _=0;rw[kA,if_pos A.out];exact cz N.out
     have O:=il z3;clear z3;by_cases Q:3<C.n5
     .go_wp2;go_ret;have I:C.dP 4=2:=by simp[CD.dP,pE,Q]
      exact⟨aC ((cR (m:=4) (λj b=>by
      obtain rfl|rfl|rfl|rfl:j=0\/j=1\/j=2\/j=3:=ab
      .exact n.out
      .exact z.out
      .exact t.out
      .exact O.out) ab (by rw[I];decide)).trans I),c⟩
     .obtain⟨wp,rfl⟩:=br wr;go_wp2
      go_loopw [7] (λi wr=>∃q:Nat,q<=C.n5/\i=jz kG q/\(∀j,j<q->iI C.n4 C.x5 j=0)/\wr.heap[w.heap.size]?=some (ld C.val 27)/\bA w wr) (λi _=>C.n5-(intOf i).toNat)
      case atStart=>exact⟨0,f8 _,rfl,λj b=>absurd b (f9 _),d.out,c⟩
      case round=>
       obtain⟨q,T,rfl,x,o,c⟩:=hrel;have R:=il x;have d:=il o;have f:w.heap.size<wr.heap.size:=getElem?_lt' o;clear x o;obtain⟨V,W,M,X,f4,Y⟩:=bf d.out;by_cases g:q<C.n5
       .by_cases r:iI C.n4 C.x5 q=0
        .have s:=il r;clear r
         go_wp2_with (go_at_call 42;refine(Rh C q _ (H.out.below c) g s.out).mono ?_;rintro e w1⟨rfl,a⟩)
         refine⟨⟨q+1,g,by go_num,λj b=>?_,(a.block _ f).trans d.out,Below.on c a⟩,by simp[intOf];omega⟩
         rcases Nat.lt_succ_iff_lt_or_eq.1 b with h|h
         .exact R.out j h
         .rw[h];exact s.out
        .have s:=il r;have Yt:(iI C.n4 C.x5 q != 0)=true:=by simpa using r
         clear r
         go_wp2_with (go_at_call 42;refine(yx C q _ (H.out.below c) g).mono ?_;rintro e w1⟨rfl,a⟩)
         go_ret;have I:C.dP 4=iI C.n4 C.x5 q:=ic Q R.out g rfl s.out
         exact⟨aC ((cR (m:=4) (λj b=>by
      obtain rfl|rfl|rfl|rfl:j=0\/j=1\/j=2\/j=3:=ab
      .exact n.out
      .exact z.out
      .exact t.out
      .exact O.out) ab (by rw[I];exact s.out)).trans I),Below.on c a⟩
       .obtain rfl:q=C.n5:=ab;go_wp2;go_ret;have z4:C.dP 4=0:=by
         show pE _ _ _=0;rw[pE,if_neg Q];exact cz R.out
        refine⟨aC (cz λj b=>?_),c⟩;obtain rfl|rfl|rfl|rfl|rfl:j=0\/j=1\/j=2\/j=3\/j=4:=ab
        .exact n.out
        .exact z.out
        .exact t.out
        .exact O.out
        .exact z4
structure CD.Mem(C:CD)(w:ad):Prop where
 h2:C.k2<w.heap.size
 h3:C.k3<w.heap.size
 h4:C.k4<w.heap.size
 h5:C.k5<w.heap.size
 s2:0<C.n2->C.b2=some ⟨C.k2,C.o2,none⟩
 s3:0<C.n3->C.b3=some ⟨C.k3,C.o3,none⟩
 s4:0<C.n4->C.b4=some ⟨C.k4,C.o4,none⟩
 s5:0<C.n5->C.b5=some ⟨C.k5,C.o5,none⟩
 Ep:∀i,i<C.n2->w.cell? ⟨C.k2,C.o2+i*2,none⟩=some (jz kG (C.x2 i).1)
 Er:∀i,i<C.n2->w.cell? ⟨C.k2,C.o2+i*2+1,none⟩=some (jz kG (C.x2 i).2)
 Es:∀i,i<C.n3->w.cell? ⟨C.k3,C.o3+i*3,none⟩=some (jz kG (C.x3 i).1)
 Et:∀i,i<C.n3->w.cell? ⟨C.k3,C.o3+i*3+1,none⟩=some (jz kG (C.x3 i).2.1)
 Eu:∀i,i<C.n3->w.cell? ⟨C.k3,C.o3+i*3+2,none⟩=some (jz kG (C.x3 i).2.2)
 AD:∀i,i<C.n4->w.cell? ⟨C.k4,C.o4+i*12,none⟩=some (jR (C.x4 i).name)
 dB:∀i,i<C.n4->∀j,1<=j->j<=10->w.cell? ⟨C.k4,C.o4+i*12+j,none⟩=some (jz kG ((C.x4 i).n j))
 nj:∀i,i<C.n4->w.cell? ⟨C.k4,C.o4+i*12+11,none⟩=some (jQ (C.x4 i).lb (C.x4 i).ln (C.x4 i).lc)
 l4:∀i,i<C.n4->0<(C.x4 i).ln->(C.x4 i).lb=some ⟨(C.x4 i).lk,(C.x4 i).lo,none⟩/\(C.x4 i).lk<w.heap.size
 J5:∀i,i<C.n4->∀j,j<(C.x4 i).ln->w.cell? ⟨(C.x4 i).lk,(C.x4 i).lo+j,none⟩=some (jz kG ((C.x4 i).lane j))
 FI:∀i,i<C.n5->w.cell? ⟨C.k5,C.o5+i*3,none⟩=some (jR (C.x5 i).1)
 HU:∀i,i<C.n5->w.cell? ⟨C.k5,C.o5+i*3+1,none⟩=some (jz kG (C.x5 i).2.1)
 J6:∀i,i<C.n5->w.cell? ⟨C.k5,C.o5+i*3+2,none⟩=some (jz kG (C.x5 i).2.2)
def CD.small(C:CD):Bool:=decide (C.n2<=20)&&decide (C.n3<=20)&&decide (C.n4<=20)&&decide (C.n5<=20)&&((gD C.n4).all λi=>decide ((C.x4 i).name.size<=100)&&decide ((C.x4 i).ln<=20))&&((gD C.n5).all λi=>decide ((C.x5 i).1.size<=100))
def CD.At.Ri{C:CD}{w:ad}(h:C.Mem w)(hs:C.small=true):C.At w:=by
 simp only[CD.small,jp,decide_eq_true_eq,gG,g7]at hs;obtain⟨⟨⟨⟨⟨m2,m3⟩,m4⟩,m5⟩,n4⟩,n5⟩:=hs;obtain⟨h2,h3,h4,h5,s2,s3,s4,s5,Ep,Er,Es,Et,Eu,AD,dB,nj,l4,J5,FI,HU,J6⟩:=h;exact⟨m2,m3,m4,m5,h2,h3,h4,h5,s2,s3,s4,s5,Ep,Er,Es,Et,Eu,n4,AD,dB,nj,l4,J5,n5,FI,HU,J6⟩
def AK(C:CD)(w:ad)(h:C.Mem w):bi PL 14 #[jD C.val] w (aO (jx (!C.small)) w):=by
 have H:=il h;have r:=h.h4;have x:=h.h5;clear h;by_cases hc:C.n2<=20/\C.n3<=20/\C.n4<=20/\C.n5<=20
 case neg=>
  have a:C.small=false:=by
   cases c:C.small with
   |false=>rfl
   |true=>
    simp only[CD.small,jp,decide_eq_true_eq]at c;omega
  have SM:=il a;clear a;go_enter (fx ao cC),eW;go_wp2
  any_goals (
   go_ret
   exact⟨by rw[SM.out];rfl,(fR _ _).alloc (f7 _) _⟩)
 case pos=>
 obtain⟨m2,m3,m4,m5⟩:=hc;go_enter (fx ao cC),eW;go_wp2;have y:=il H.out.s4;have z:=il H.out.s5
 go_loopw [3] (λi wr=>∃q:Nat,q<=C.n4/\i=jz kG q/\(∀j,j<q->(C.x4 j).name.size<=100/\(C.x4 j).ln<=20)/\wr.heap[w.heap.size]?=some (ld C.val 27)/\bA w wr) (λi _=>C.n4-(intOf i).toNat)
 case atStart=>exact⟨0,f8 _,rfl,λj e=>absurd e (f9 _),au _ _,(fR _ _).alloc (f7 _) _⟩
 case round=>
  obtain⟨q,c,rfl,k,l,b⟩:=hrel;have s:=il k;have f:=il l;clear k l;obtain⟨A,B,D,E,f4,t⟩:=bf f.out;by_cases d:q<C.n4
  .rw[y.out ab]at f4;have k0:=(b.cell (p:=⟨C.k4,C.o4+q*12,none⟩) r).trans (H.out.AD q d);have k1:=(b.cell (p:=⟨C.k4,C.o4+q*12+11,none⟩) r).trans (H.out.nj q d);have F:(q:Int)<C.n4:=ab;by_cases g:(C.x4 q).name.size<=100/\(C.x4 q).ln<=20
   .obtain⟨m,n⟩:=g;go_wp2;refine⟨⟨q+1,d,by go_num,λj e=>?_,f.out,b⟩,by simp[intOf];omega⟩
    rcases Nat.lt_succ_iff_lt_or_eq.1 e with h|h
    .exact s.out j h
    .rw[h];exact⟨m,n⟩
   .have a:C.small=false:=by
     cases c:C.small with
     |false=>rfl
     |true=>
      simp only[CD.small,jp,decide_eq_true_eq,gG,g7]at c;exact absurd (c.1.2 q d) g
    have SM:=il a;have o:100<(C.x4 q).name.size\/20<(C.x4 q).ln:=ab;clear a g;by_cases m:(C.x4 q).name.size<=100
    .have n:20<(C.x4 q).ln:=ab;clear o;go_wp2;go_ret;exact⟨by rw[SM.out];rfl,b⟩
    .clear o;go_wp2;go_ret;exact⟨by rw[SM.out];rfl,b⟩
  .obtain rfl:q=C.n4:=ab;obtain⟨u,rfl⟩:=br wr;go_wp2
   go_loopw [4] (λi wr=>∃q:Nat,q<=C.n5/\i=jz kG q/\(∀j,j<q->(C.x5 j).1.size<=100)/\wr.heap[w.heap.size]?=some (ld C.val 27)/\bA w wr) (λi _=>C.n5-(intOf i).toNat)
   case atStart=>exact⟨0,f8 _,rfl,λj e=>absurd e (f9 _),f.out,b⟩
   case round=>
    obtain⟨q,c,rfl,k,l,b⟩:=hrel;have v:=il k;have f:=il l;clear k l;obtain⟨A,B,D,E,f4,t⟩:=bf f.out;by_cases d:q<C.n5
    .rw[z.out ab]at t;have k0:=(b.cell (p:=⟨C.k5,C.o5+q*3,none⟩) x).trans (H.out.FI q d);have F:(q:Int)<C.n5:=ab;by_cases g:(C.x5 q).1.size<=100
     .go_wp2;refine⟨⟨q+1,d,by go_num,λj e=>?_,f.out,b⟩,by simp[intOf];omega⟩
      rcases Nat.lt_succ_iff_lt_or_eq.1 e with h|h
      .exact v.out j h
      .rw[h];exact g
     .have a:C.small=false:=by
       cases c:C.small with
       |false=>rfl
       |true=>
        simp only[CD.small,jp,decide_eq_true_eq,gG,g7]at c;exact absurd (c.2 q d) g
      have SM:=il a;clear a;go_wp2;go_ret;exact⟨by rw[SM.out];rfl,b⟩
    .obtain rfl:q=C.n5:=ab;have a:C.small=true:=by
      simp only[CD.small,jp,decide_eq_true_eq,gG,g7];exact⟨⟨⟨⟨⟨m2,m3⟩,m4⟩,m5⟩,s.out⟩,v.out⟩
     have SM:=il a;clear a;go_wp2;go_ret;exact⟨by rw[SM.out];rfl,b⟩
open Go.bJ Go.Deep
section
variable {H:Type}{enc:ac×aT->H}{W:ad}
def Td(enc:ac×aT->H)(W:ad)(t:ac)(cs:List aT):Prop:=∃n x,DataW.trod enc cB W 0 (λ_=>true) true n t cs=some x
def pF(cs:List aT)(o:Nat):Prop:=∃m,cs[o]?=some (jz kG m)
def Td.int{cs:List aT}(h:Td enc W 3 cs):∃m,cs=[jz kG m]:=by
 obtain⟨n,x,h⟩:=h;grind[DataW.trod_int,Tryz.underlying3]
def Td.str{cs:List aT}(h:Td enc W 9 cs):∃s,cs=[jR s]:=by
 obtain⟨n,x,h⟩:=h;grind[DataW.trod_string,Tryz.underlying9]
def Td.field{t:ac}{fs:Array Field}(a:Tryz.prog.underlying t=some (.struct fs)){cs:List aT}(h:Td enc W t cs){i:Nat}{f:Field}(hi:fs[i]?=some f):Td enc W f.type ((cs.drop f.offset).take (Tryz.prog.cellsOf f.type)):=by
 obtain⟨n,x,h⟩:=h;obtain⟨xs,m,_,_,_,hl,hf⟩:=DataW.trod_struct a h;have e:=hf i f hi;have b:i<xs.length:=aS;rw[g8 b]at e;exact⟨m,_,e⟩
def Td.len{t:ac}{fs:Array Field}(a:Tryz.prog.underlying t=some (.struct fs)){cs:List aT}(h:Td enc W t cs):cs.length=Tryz.prog.cellsOf t:=by
 obtain⟨n,x,h⟩:=h;obtain⟨xs,m,_,_,hl,_⟩:=DataW.trod_struct a h;exact hl
def Kg{cs:List aT}{o n:Nat}{l:List aT}(h:(cs.drop o).take n=l){j:Nat}(a:j<n):cs[o+j]?=l[j]?:=by
 grind
def Rk:Tryz.prog.cellsOf 3=1:=ae
def aat:Tryz.prog.cellsOf 9=1:=ae
def Kh:Tryz.prog.cellsOf 56=2:=ae
def Vl:Tryz.prog.cellsOf 94=3:=ae
def Ki:Tryz.prog.cellsOf 88=12:=ae
def Vm:Tryz.prog.cellsOf 32=3:=ae
theorem Vn:Tryz.prog.cellsOf 42=1:=ae
def Vo:Tryz.prog.cellsOf 27=6:=ae
def Vp:Tryz.prog.cellsOf 22=1:=ae
def Vq:Tryz.prog.cellsOf 23=1:=ae
def Vr:Tryz.prog.cellsOf 24=1:=ae
def Vs:Tryz.prog.cellsOf 25=1:=ae
def kC{cs:List aT}{o:Nat}(h:Td enc W 3 ((cs.drop o).take (Tryz.prog.cellsOf 3))):pF cs o:=by
 rw[Rk]at h;obtain⟨m,e⟩:=h.int;exact⟨m,by simpa using Kg e (j:=0) ao⟩
def Rm{cs:List aT}{o:Nat}(h:Td enc W 9 ((cs.drop o).take (Tryz.prog.cellsOf 9))):∃s,cs[o]?=some (jR s):=by
 rw[aat]at h;obtain⟨m,e⟩:=h.str;exact⟨m,by simpa using Kg e (j:=0) ao⟩
def yy{cs:List aT}(h:Td enc W 56 cs):pF cs 0/\pF cs 1:=⟨kC (h.field e6 (i:=0) rfl),kC (h.field e6 (i:=1) rfl)⟩
def wF{cs:List aT}{o:Nat}(h:Td enc W 56 ((cs.drop o).take (Tryz.prog.cellsOf 56))):pF cs o/\pF cs (o+1):=by
 obtain⟨⟨a,c⟩,⟨b,hb⟩⟩:=yy h;rw[Kh]at c hb;exact⟨⟨a,aS⟩,⟨b,aS⟩⟩
def Ie{cs:List aT}(h:Td enc W 94 cs):pF cs 0/\pF cs 1/\pF cs 2:=
 ⟨kC (h.field e8 (i:=0) rfl),kC (h.field e8 (i:=1) rfl),kC (h.field e8 (i:=2) rfl)⟩
def EI{cs:List aT}(h:Td enc W 32 cs):(∃s,cs[0]?=some (jR s))/\pF cs 1/\pF cs 2:=
 ⟨Rm (h.field e9 (i:=0) rfl),kC (h.field e9 (i:=1) rfl),kC (h.field e9 (i:=2) rfl)⟩
def Ni{cs:List aT}(h:Td enc W 88 cs):(∃s,cs[0]?=some (jR s))/\(∀j,1<=j->j<=10->pF cs j)/\∃u,cs[11]?=some u/\Td enc W 42 [u]:=by
 have c:=wF (h.field fb (i:=1) rfl);have d:=wF (h.field fb (i:=2) rfl);have g:=kC (h.field fb (i:=3) rfl);have k:=kC (h.field fb (i:=4) rfl);have e:=wF (h.field fb (i:=5) rfl);have f:=wF (h.field fb (i:=6) rfl);have l:=h.field fb (i:=7) rfl;have hl:=h.len fb;rw[Ki]at hl;refine⟨Rm (h.field fb (i:=0) rfl),λj a b=>?_,?_⟩
 .match j,a,b with
  |1,_,_=>exact c.1
  |2,_,_=>exact c.2
  |3,_,_=>exact d.1
  |4,_,_=>exact d.2
  |5,_,_=>exact g
  |6,_,_=>exact k
  |7,_,_=>exact e.1
  |8,_,_=>exact e.2
  |9,_,_=>exact f.1
  |10,_,_=>exact f.2
  |n+11,_,b=>exact absurd b ab
 .have hd:((cs.drop 11).take (Tryz.prog.cellsOf 42))=[cs[11]' ab]:=by
   grind[Vn,g9]
  simp_all
theorem aau(k o n:Nat):(⟨k,o,none⟩:bm).add n=⟨k,o+n,none⟩:=by
 unfold kf;grind
def Rn{t e d:Nat}(z:Tryz.prog.underlying t=some (.slice e))(hc:Tryz.prog.cellsOf e=d)(hs:0<d){u:aT}(h:Td enc W t [u]) :
 ∃(b:Option bm)(n c k o:Nat),u=jQ b n c/\n<=c/\(b=none\/(∃a,b=some a/\Sb W a.block)\/(n=0/\c=0))/\(0<c->b=some ⟨k,o,none⟩)/\k<W.heap.size+1/\
  ∀i,i<n->∃cs,Td enc W e cs/\∀j,j<d->W.cell? ⟨k,o+i*d+j,none⟩=cs[j]?:=by
 obtain⟨fuel,x,h⟩:=h
 rcases open_slice z h with⟨e1,_⟩|⟨a,len,cap,m,n,D,I,e1,_,hl,_,A,_,r⟩
 .cases e1;exact⟨none,0,0,0,0,rfl,f7 _,kY rfl,λh=>absurd h (gp _),ab,λi hi=>absurd hi (f9 _)⟩
 .cases e1;obtain rfl:m=cap:=A;rw[hc]at r
  rcases Nat.eq_zero_or_pos m with g|g
  .subst g;obtain rfl:len=0:=ab;exact⟨some a,0,0,0,0,rfl,f7 _,la (la ⟨rfl,rfl⟩),λh=>absurd h (gp _),ab,λi hi=>absurd hi (f9 _)⟩
  .have cell:∀i,i<m->∃cs,Td enc W e cs/\cs.length=d/\∀j,j<d->W.cell? (a.add (i*d+j))=cs[j]?:=by
    intro i hi;obtain⟨cs,B,C⟩:=r i hi;obtain⟨_,v,l⟩:=World.cells?_some B;exact⟨cs,⟨n,_,C⟩,v,λj E=>by rw[<-l j E,Deep.add_add]⟩
   obtain⟨p,_,v,l⟩:=cell 0 g;have w:=l 0 hs;rw[g8 ab]at w;have f:W.cell? a=some p[0]:=by rw[<-w];unfold kf;simp
   obtain⟨k,o,s⟩:=a;have q:s=none:=by
    cases s with
    |none=>rfl
    |some _=>
     unfold i4 at f;split at f<;>cases f
   subst q;have y:=(xA (F:=FF) f).2;have J:k<W.heap.size:=by
    obtain⟨_,_,_,hb⟩:=y;exact bE hb
   refine⟨some ⟨k,o,none⟩,len,m,k,o,rfl,hl,la (kY ⟨_,rfl,y⟩),λ_=>rfl,ab,λi hi=>?_⟩;obtain⟨cs,K,_,L⟩:=cell i ab;grind[aau,gr]
theorem afv{w:ad}(a:w.heap=(cV FF W).heap){k o:Nat}{v:aT}(h:W.cell? ⟨k,o,none⟩=some v):w.cell? ⟨k,o,none⟩=some (rep FF W v):=by
 have e:w.cell? ⟨k,o,none⟩=(cV FF W).cell? ⟨k,o,none⟩:=by unfold i4;rw[a]
 rw[e];exact(xA h).1
def iT(n:Int):rep FF W (jz kG n)=jz kG n:=(oy FF W _).int _ _ rfl
def Kj(s:ByteArray):rep FF W (jR s)=jR s:=(oy FF W _).str _ rfl
instance:Inhabited iJ:=⟨⟨ByteArray.empty,λ_=>0,none,0,0,0,0,λ_=>0⟩⟩
def kD{t e a:Nat}(d:Tryz.prog.underlying t=some (.slice e))(hc:Tryz.prog.cellsOf e=a)(hs:0<a){u:aT}(h:Td enc W t [u]) :
 ∃(b:Option bm)(n c k o:Nat),rep FF W u=jQ b n c/\(0<n->b=some ⟨k,o,none⟩)/\k<(cV FF W).heap.size/\
  ∀i,i<n->∃cs,Td enc W e cs/\∀j v,j<a->cs[j]?=some v->∀w:ad,w.heap=(cV FF W).heap->w.cell? ⟨k,o+i*a+j,none⟩=some (rep FF W v):=by
 obtain⟨b,n,c,k,o,rfl,hl,hb,l,f,g⟩:=Rn d hc hs h;obtain⟨b',e,m⟩:=(oy FF W (jQ b n c)).sl b n c rfl hb;refine⟨b',n,c,k,o,e,λh=>aS,by rw[mT];exact f,λi hi=>?_⟩;obtain⟨cs,p,q⟩:=g i hi;grind[afv]
def EJ{cs:List aT}(h:Td enc W 27 cs):∃C:CD,C.val=(cs.map (rep FF W)).toArray/\∀w:ad,w.heap=(cV FF W).heap->C.Mem w:=by
 have hl:=h.len fg;rw[Vo]at hl;obtain⟨c0,c1,B,c3,D,E,rfl⟩:∃a b c d e f,cs=[a,b,c,d,e,f]:=by
  match cs,hl with
  |[a,b,c,d,e,f],_=>grind
 obtain⟨l,K⟩:=kC (h.field fg (i:=0) rfl);obtain⟨p,L⟩:=kC (h.field fg (i:=1) rfl);have Y:Td enc W 22 [B]:=by
  have:Td enc W 22 (([c0,c1,B,c3,D,E].drop 2).take (Tryz.prog.cellsOf 22)):=h.field fg (i:=2) rfl;rw[Vp]at this;exact this
 have Z:Td enc W 23 [c3]:=by
  have:Td enc W 23 (([c0,c1,B,c3,D,E].drop 3).take (Tryz.prog.cellsOf 23)):=h.field fg (i:=3) rfl;rw[Vq]at this;exact this
 have s4:Td enc W 24 [D]:=by
  have:Td enc W 24 (([c0,c1,B,c3,D,E].drop 4).take (Tryz.prog.cellsOf 24)):=h.field fg (i:=4) rfl;rw[Vr]at this;exact this
 have s5:Td enc W 25 [E]:=by
  have:Td enc W 25 (([c0,c1,B,c3,D,E].drop 5).take (Tryz.prog.cellsOf 25)):=h.field fg (i:=5) rfl;rw[Vs]at this;exact this
 obtain rfl:c0=jz kG l:=by simpa using K
 obtain rfl:c1=jz kG p:=by simpa using L
 obtain⟨b2,S,q2,k2,F,e2,p2,h2,a2⟩:=kD Tryz.underlying22 Kh ao Y;obtain⟨b3,T,q3,k3,s,e3,p3,h3,a3⟩:=kD Tryz.underlying23 Vl ao Z;obtain⟨b4,U,q4,t,v,e4,p4,h4,a4⟩:=kD Tryz.underlying24 Ki ao s4;obtain⟨b5,V,q5,y,z,e5,p5,h5,a5⟩:=kD Tryz.underlying25 Vm ao s5;obtain⟨x2,X⟩:∃x2:Nat->Int×Int,∀i,i<S->∀w:ad,w.heap=(cV FF W).heap->w.cell? ⟨k2,F+i*2,none⟩=some (jz kG (x2 i).1)/\w.cell? ⟨k2,F+i*2+1,none⟩=some (jz kG (x2 i).2):=by
  refine kh (p:=λi(x:Int×Int)=>∀w:ad,w.heap=(cV FF W).heap->w.cell? ⟨k2,F+i*2,none⟩=some (jz kG x.1)/\w.cell? ⟨k2,F+i*2+1,none⟩=some (jz kG x.2)) λi hi=>?_;obtain⟨cs,r,q⟩:=a2 i hi;obtain⟨⟨a,A⟩,⟨b,hb⟩⟩:=yy r;exact⟨(a,b),λw g=>⟨by have:=q 0 _ ao A w g;rwa[iT]at this,by have:=q 1 _ ao hb w g;rwa[iT]at this⟩⟩
 obtain⟨x3,M⟩:∃x3:Nat->Int×Int×Int,∀i,i<T->∀w:ad,w.heap=(cV FF W).heap->w.cell? ⟨k3,s+i*3,none⟩=some (jz kG (x3 i).1)/\w.cell? ⟨k3,s+i*3+1,none⟩=some (jz kG (x3 i).2.1)/\w.cell? ⟨k3,s+i*3+2,none⟩=some (jz kG (x3 i).2.2):=by
  refine kh (p:=λi(x:Int×Int×Int)=>∀w:ad,w.heap=(cV FF W).heap->w.cell? ⟨k3,s+i*3,none⟩=some (jz kG x.1)/\w.cell? ⟨k3,s+i*3+1,none⟩=some (jz kG x.2.1)/\w.cell? ⟨k3,s+i*3+2,none⟩=some (jz kG x.2.2)) λi hi=>?_;obtain⟨cs,r,q⟩:=a3 i hi;obtain⟨⟨a,A⟩,⟨b,hb⟩,⟨c,hc⟩⟩:=Ie r;exact⟨(a,b,c),λw g=>⟨by have:=q 0 _ ao A w g;rwa[iT]at this,by have:=q 1 _ ao hb w g;rwa[iT]at this,by have:=q 2 _ ao hc w g;rwa[iT]at this⟩⟩
 obtain⟨I,N⟩:∃I:Nat->ByteArray×Int×Int,∀i,i<V->∀w:ad,w.heap=(cV FF W).heap->w.cell? ⟨y,z+i*3,none⟩=some (jR (I i).1)/\w.cell? ⟨y,z+i*3+1,none⟩=some (jz kG (I i).2.1)/\w.cell? ⟨y,z+i*3+2,none⟩=some (jz kG (I i).2.2):=by
  refine kh (p:=λi(x:ByteArray×Int×Int)=>∀w:ad,w.heap=(cV FF W).heap->w.cell? ⟨y,z+i*3,none⟩=some (jR x.1)/\w.cell? ⟨y,z+i*3+1,none⟩=some (jz kG x.2.1)/\w.cell? ⟨y,z+i*3+2,none⟩=some (jz kG x.2.2)) λi hi=>?_;obtain⟨cs,r,q⟩:=a5 i hi;obtain⟨⟨a,A⟩,⟨b,hb⟩,⟨c,hc⟩⟩:=EI r;exact⟨(a,b,c),λw g=>⟨by have:=q 0 _ ao A w g;rwa[Kj]at this,by have:=q 1 _ ao hb w g;rwa[iT]at this,by have:=q 2 _ ao hc w g;rwa[iT]at this⟩⟩
 obtain⟨x4,f4⟩:∃x4:Nat->iJ,∀i,i<U->∀w:ad,w.heap=(cV FF W).heap->w.cell? ⟨t,v+i*12,none⟩=some (jR (x4 i).name)/\(∀j,1<=j->j<=10->w.cell? ⟨t,v+i*12+j,none⟩=some (jz kG ((x4 i).n j)))/\
  w.cell? ⟨t,v+i*12+11,none⟩=some (jQ (x4 i).lb (x4 i).ln (x4 i).lc)/\(0<(x4 i).ln->(x4 i).lb=some ⟨(x4 i).lk,(x4 i).lo,none⟩/\(x4 i).lk<w.heap.size)/\∀j,j<(x4 i).ln->w.cell? ⟨(x4 i).lk,(x4 i).lo+j,none⟩=some (jz kG ((x4 i).lane j)):=by
  refine kh (p:=λi(x:iJ)=>∀w:ad,w.heap=(cV FF W).heap->w.cell? ⟨t,v+i*12,none⟩=some (jR x.name)/\(∀j,1<=j->j<=10->w.cell? ⟨t,v+i*12+j,none⟩=some (jz kG (x.n j)))/\
   w.cell? ⟨t,v+i*12+11,none⟩=some (jQ x.lb x.ln x.lc)/\(0<x.ln->x.lb=some ⟨x.lk,x.lo,none⟩/\x.lk<w.heap.size)/\∀j,j<x.ln->w.cell? ⟨x.lk,x.lo+j,none⟩=some (jz kG (x.lane j))) λi hi=>?_
  obtain⟨cs,r,q⟩:=a4 i hi;obtain⟨⟨a,A⟩,hn,⟨u,hu,J4⟩⟩:=Ni r;obtain⟨O,P⟩:∃O:Nat->Int,∀j,j<11->1<=j->cs[j]?=some (jz kG (O j)):=kh (p:=λj(m:Int)=>1<=j->cs[j]?=some (jz kG m)) λj J=>by
   by_cases h1:1<=j
   .obtain⟨m,hm⟩:=hn j h1 ab;exact⟨m,λ_=>hm⟩
   grind
  obtain⟨b,n,c,k,o,e,pz,hk,al⟩:=kD Tryz.underlying42 Rk ao J4;obtain⟨Q,R⟩:∃Q:Nat->Int,∀j,j<n->∀w:ad,w.heap=(cV FF W).heap->w.cell? ⟨k,o+j,none⟩=some (jz kG (Q j)):=kh (p:=λj(m:Int)=>∀w:ad,w.heap=(cV FF W).heap->w.cell? ⟨k,o+j,none⟩=some (jz kG m)) λj J=>by
   obtain⟨cs,r,q⟩:=al j J;obtain⟨m,rfl⟩:=r.int;exact⟨m,λw g=>by have:=q 0 _ ao rfl w g;rw[iT,Nat.mul_one]at this;exact this⟩
  exact⟨⟨a,O,b,n,c,k,o,Q⟩,λw g=>⟨by have:=q 0 _ ao A w g;rwa[Kj]at this,λj j1 j2=>by have:=q j _ ab (P j ab j1) w g;rwa[iT]at this,
   by grind,λh=>⟨pz h,by rw[g];exact hk⟩,λj J=>R j J w g⟩⟩
 refine⟨⟨l,p,b2,k2,F,S,q2,x2,b3,k3,s,T,q3,x3,b4,t,v,U,q4,x4,b5,y,z,V,q5,I⟩,?_,λw g=>?_⟩
 .simp only[gL,List.map_nil,iT,e2,e3,e4,e5]
 .exact⟨by rw[g];exact h2,by rw[g];exact h3,by rw[g];exact h4,by rw[g];exact h5,p2,p3,p4,p5,λi hi=>(X i hi w g).1,λi hi=>(X i hi w g).2,λi hi=>(M i hi w g).1,λi hi=>(M i hi w g).2.1,λi hi=>(M i hi w g).2.2,
   λi hi=>(f4 i hi w g).1,λi hi=>(f4 i hi w g).2.1,λi hi=>(f4 i hi w g).2.2.1,λi hi=>(f4 i hi w g).2.2.2.1,λi hi=>(f4 i hi w g).2.2.2.2,λi hi=>(N i hi w g).1,λi hi=>(N i hi w g).2.1,λi hi=>(N i hi w g).2.2⟩
end
end Go.Proofs
namespace Go.Proofs
open Go.RowKit Go.Shelf
attribute [local go_sem] Oper.semAt_some
def lv(s r:Int):Int:=lvl s r s.toNat
def fD(s a:Int)(b:Nat):List Int:=(gD b).map λj=>lv s (a+(j:Nat))
def cJ(a b:Int)(c d:Nat):List Int:=(gD c).flatMap fun(k:Nat)=>fD (a+k) b d
def AP(s b:Int)(a:Nat):(fD s b a).length=a:=by simp[fD]
def AQ(c d:Int)(b:Nat):∀a:Nat,(cJ c d a b).length=a*b
 |0=>by simp[cJ]
 |a+1=>by
  have:=AQ c d b a;unfold cJ at this⊢;rw[g4,List.flatMap_append,hh,this];simp[AP,Nat.succ_mul]
def nA(s a:Int)(j:Nat):fD s a (j+1)=fD s a j++[lv s (a+(j:Nat))]:=by
 simp[fD,g4]
def kE(a b:Int)(c d:Nat):cJ a b (c+1) d=cJ a b c d++fD (a+(c:Nat)) b d:=by
 simp[cJ,g4]
def Nl(s a:Int)(b:Nat):∀j:Nat,j<=b->fD s a j <+: fD s a b:=by
 intro j c;unfold fD;exact(List.map_take ..▸List.take_range ..▸by rw[Nat.min_eq_left c]:(List.take j ((gD b).map λj=>lv s (a+(j:Nat))))=(gD j).map λj=>lv s (a+(j:Nat)))▸List.take_prefix _ _
def AU(a b:Int)(c:Nat)(k:Nat):∀d:Nat,cJ a b k c <+: cJ a b (k+d) c
 |0=>List.prefix_rfl
 |d+1=>by rw[<-gr,kE];exact(AU a b c k d).trans (List.prefix_append _ _)
def Nm(a b:Int)(c d k j:Nat)(g:k<c)(h:j<d):cJ a b k d++fD (a+(k:Nat)) b j++[lv (a+(k:Nat)) (b+(j:Nat))] <+: cJ a b c d:=by
 rw[ht,<-nA];obtain⟨t,e⟩:=Nl (a+(k:Nat)) b d (j+1) ab;obtain⟨u,f⟩:=AU a b d (k+1) (c-(k+1));rw[show k+1+(c-(k+1))=c by omega,kE,<-e]at f;grind
def Rr(s r:Int)(w:ad)(f:1<=s)(g:s<=90)(c : -s<=r)(d:r<=s):bi PL 43 #[jz kG s,jz kG r] w λe w'=>e=ky (jz kG (lv s r))/\w=w':=by
 obtain⟨n,rfl⟩:=ke (a:=s) ab;exact(AG n r w ab ab c d).mono λ_ _⟨a,b⟩=>⟨a,b.symm⟩
def yC(B:Nat)(W a:ad):Prop:=∀o:Nat,a.cell? ⟨B,o,none⟩=W.cell? ⟨B,o,none⟩
def Ii(n:Nat)(C:1<=n)(l g:Nat)(a b:Int)(d c:Nat)(D:1<=a)(E:a+d<=91)(F:1<=d)(H : -a<=b)(I:b+c<=a+1)(K:1<=c)(J r:List Int->ad->Prop)
 (s:∀f x W,J f W->f.length<d*c->YieldAt Fence.wide (n-1) PL l #[jz kG x] W λe h=>
   (e=ky (jx true)/\J (f++[x]) h/\yC g W h)\/(e=ky (jx false)/\r (f++[x]) h))
 (W:ad) (c1:W.cell? ⟨g,1,none⟩=some (jz kG a)) (t:W.cell? ⟨g,2,none⟩=some (jz kG (a+d-1))) (c3:W.cell? ⟨g,3,none⟩=some (jz kG b)) (u:W.cell? ⟨g,4,none⟩=some (jz kG (b+c-1))) (w:J [] W) :
 CallsIn Fence.wide n PL 71 #[j5 (.yield l) #[] #[],j3 (some ⟨g,0,none⟩)] W λe h=>(∃v,e=ky v)/\
  ((∃ys,ys=cJ a b d c/\J ys h)\/(∃f,f <+: cJ a b d c/\r f h)):=by
 refine callsIn_of_wp (fx ao fi) rfl trivial ?_ rfl;simp only[Tryz.ntmps71,hG,hH,hI,gt,gw,fp,ft,hJ,hK,hM,hT]
 gi_wp2
 gi_loopw [3] (λv wr=>∃k:Nat,k<=d/\v=jz kG (a+k)/\J (cJ a b k c) wr/\(wr.cell? ⟨g,1,none⟩=some (jz kG a)/\wr.cell? ⟨g,2,none⟩=some (jz kG (a+d-1))/\wr.cell? ⟨g,3,none⟩=some (jz kG b)/\wr.cell? ⟨g,4,none⟩=some (jz kG (b+c-1)))) (λv _=>(a+d-intOf v).toNat)
 case atStart=>exact⟨0,f8 _,ar,w,c1,t,c3,u⟩
 case round=>
  obtain⟨k,i,rfl,m,d1,d2,d3,d4⟩:=hrel;by_cases y:k<d
  .have z:a+(k:Int)<=a+d-1:=ab
   gi_wp2
   gi_loopw [4] (λv wr=>∃j:Nat,j<=c/\v=jz kG (b+j)/\J (cJ a b k c++fD (a+(k:Nat)) b j) wr/\(wr.cell? ⟨g,1,none⟩=some (jz kG a)/\wr.cell? ⟨g,2,none⟩=some (jz kG (a+d-1))/\wr.cell? ⟨g,3,none⟩=some (jz kG b)/\wr.cell? ⟨g,4,none⟩=some (jz kG (b+c-1)))) (λv _=>(b+c-intOf v).toNat)
   case atStart=>exact⟨0,f8 _,ar,by simpa[fD]using m,d1,d2,d3,d4⟩
   case round=>
    obtain⟨j,L,rfl,m,d1,d2,d3,d4⟩:=hrel;by_cases o:j<c
    .have A:b+(j:Int)<=b+c-1:=ab;have hlen:(cJ a b k c++fD (a+(k:Nat)) b j).length<d*c:=by
      rw[hh,AQ,AP];have:=Nat.mul_le_mul_right c (show k+1<=d by omega);grind
     obtain⟨fn,tmps,assign,body,hy,B⟩:=s _ (lv (a+(k:Nat)) (b+(j:Nat))) wr m hlen
     gi_wp2_with (refine⟨trivial,?_⟩;refine(callsIn_wide.2 (Rr _ _ _ ab ab ab ab)).mono ?_;rintro e w'⟨rfl,rfl⟩)
     refine B.mono ?_;rintro e h(⟨rfl,p,i⟩|⟨rfl,q⟩)
     .gi_wp2
      refine⟨⟨j+1,ab,by congr 1;push_cast;omega,by rw[nA,<-ht];exact p,(i 1).trans d1,(i 2).trans d2,(i 3).trans d3,(i 4).trans d4⟩,?_⟩;simp only[intOf];omega
     .gi_wp2
      refine b1 (results_none rfl _ _ _) rfl ⟨⟨_,rfl⟩,la ⟨_,Nm a b d c k j y o,q⟩⟩
    .have A:b+(c:Int)-1<b+j:=ab;obtain rfl:j=c:=ab
     gi_wp2
     refine⟨⟨k+1,ab,by congr 1;push_cast;omega,by rw[kE];exact m,d1,d2,d3,d4⟩,?_⟩;simp only[intOf];omega
  .have z:a+(d:Int)-1<a+k:=ab;obtain rfl:k=d:=ab
   gi_wp2
   go_end0
   grind
def Km{B:Nat}{X Y Z:ad}(h:yC B X Y)(k:yC B Y Z):yC B X Z:=λo=>(k o).trans (h o)
def Ko{B s:Nat}(a:B<s)(W:ad)(l:Nat)(o o':Obj)(hl:s<=l)(_:W.heap[l]?=some o)(_:o.isCells=false)(_:o.isWalk=false):yC B W (W.putObj l o'):=λq=>by
 have:(W.putObj l o').heap[B]?=W.heap[B]?:=by
  simp only[World.putObj];grind
 simp[i4,this]
def tg(n:Nat)(i:1<=n)(a:Nat)(b d:Int)(e f:Nat)(j:1<=b)(k:b+e<=91)(m:1<=e)(o : -b<=d)(q:d+f<=b+1)(r:1<=f)(w:ad)(c:a<w.heap.size)
 (c1:w.cell? ⟨a,1,none⟩=some (jz kG b)) (s:w.cell? ⟨a,2,none⟩=some (jz kG (b+e-1))) (c3:w.cell? ⟨a,3,none⟩=some (jz kG d)) (t:w.cell? ⟨a,4,none⟩=some (jz kG (d+f-1))) :
 SeqStopsK Fence.wide n PL 71 #[j3 (some ⟨a,0,none⟩)] (λx:Int=>#[jz kG x]) (yC a) (λys=>ys=cJ b d e f) (λh=>h <+: cJ b d e f) (e*f) w:=λl J u W g _ _ v y=>
 Ii n i l a b d e f j k m o q r J u v W ((g.cell (p:=⟨a,1,none⟩) c).trans c1) ((g.cell (p:=⟨a,2,none⟩) c).trans s) ((g.cell (p:=⟨a,3,none⟩) c).trans c3) ((g.cell (p:=⟨a,4,none⟩) c).trans t) y
def iJ.NY(q:iJ):List Int:=cJ (q.n 1) (q.n 3) (q.n 2-q.n 1+1).toNat (q.n 4-q.n 3+1).toNat
def iJ.low(q:iJ):Int:=q.NY.foldl min 90
def iJ.high(q:iJ):Int:=q.NY.foldl max 0
structure iJ.Ok(q:iJ):Prop where
 a1:1<=q.n 1
 a2:q.n 1<=q.n 2
 a3:q.n 2<=90
 a4 : -q.n 1<=q.n 3
 a5:q.n 3<=q.n 4
 a6:q.n 4<=q.n 1
def ck{n:Nat}{f:Nat->Int}(h:ia n f=0):∀j,j<n->f j=0:=by
 intro j
 induction j using gy with
 |_ j a=>
  intro b;by_cases hf:f j=0
  .exact hf
  .have:=eG (m:=j) (λi hi=>a i hi ab) b hf;omega
def Kq{C:CD}(hc:C.cx=0){i:Nat}(hi:i<C.n4):(C.x4 i).Ok:=by
 have b:kA C.p C.n2 C.n3 C.n4 C.x4=0:=ck hc 3 ab;unfold kA at b;split at b
 case isFalse=>cases b
 have a:=ck b i hi;unfold gM at a;split at a
 case isFalse h=>exact absurd a h
 split at a
 case isFalse=>cases a
 rename_i c;split at a
 .cases a
 rename_i d;simp only[eK,jp,decide_eq_true_eq]at c;exact⟨ab,ab,ab,ab,ab,ab⟩
def Kr{C:CD}{b:Bool}{w:ad}(h:C.b6 b≠0)(k:C.At w):bi PL 27 #[jD C.val,jx b] w (aO (j4 #[jD #[jz kG 0,jz kG 0,jQ none 0 0,jQ none 0 0,jQ none 0 0,jQ none 0 0],jz kG (C.b6 b)]) w):=by
 have:=Ev C b w k;rwa[CD.sX,if_neg h]at this
def kF{C:CD}{b:Bool}{w:ad}(h:C.b6 b=0)(k:C.At w):bi PL 27 #[jD C.val,jx b] w (aO (j4 #[jD C.val,jz kG 0]) w):=by
 have:=Ev C b w k;rwa[CD.sX,if_pos h,h]at this
structure CD.Box(C:CD)(B:Nat)(W0:ad):Prop where
 Tj:W0.heap[B]?=some (ld C.val 27)
def uJ{w:ad}{k:Nat}{x0 x1:aT}{t:ac}(h:w.heap[k]?=some (ld #[x0,x1] t)):w.cell? ⟨k,0,none⟩=some x0/\w.cell? ⟨k,1,none⟩=some x1/\w.frozen? ⟨k,0,none⟩=false/\w.frozen? ⟨k,1,none⟩=false:=by
 simp[i4,i5,h]
def yD{W:ad}{k:Nat}{x y u v:aT}(a0:W.cell? ⟨k,0,none⟩=some x)(a1:W.cell? ⟨k,1,none⟩=some y) :
 ((W.setCell ⟨k,0,none⟩ u).setCell ⟨k,1,none⟩ v).cell? ⟨k,0,none⟩=some u/\((W.setCell ⟨k,0,none⟩ u).setCell ⟨k,1,none⟩ v).cell? ⟨k,1,none⟩=some v/\
 (∀b o,b≠k->((W.setCell ⟨k,0,none⟩ u).setCell ⟨k,1,none⟩ v).cell? ⟨b,o,none⟩=W.cell? ⟨b,o,none⟩)/\(∀p,((W.setCell ⟨k,0,none⟩ u).setCell ⟨k,1,none⟩ v).frozen? p=W.frozen? p):=by
 refine⟨?_,?_,λb o hb=>?_,λp=>?_⟩
 .exact(i6 _ _ _ _ ar).trans (i7 _ _ _ (by rw[a0];rfl))
 .exact i7 _ _ _ (by rw[(i6 _ _ _ _ ar).trans a1];rfl)
 .exact(i6 _ _ _ _ (λh=>hb (congrArg kg h).symm)).trans (i6 _ _ _ _ (λh=>hb (congrArg kg h).symm))
 .rw[i9,i9]
def Rs{w W:ad}{k B r:Nat}(e:B≠k)(b:r≠k)(c:w.heap.size<=k){m M u v d v':Int}{y0 y1:aT}(a0:W.cell? ⟨k,0,none⟩=some (jz kG m))(a1:W.cell? ⟨k,1,none⟩=some (jz kG M))(a2:W.frozen? ⟨k,0,none⟩=false)(a3:W.frozen? ⟨k,1,none⟩=false)
 (a4:W.cell? ⟨r,0,none⟩=some y0) (f:W.cell? ⟨r,1,none⟩=some y1) (g:W.frozen? ⟨r,0,none⟩=false) (h:W.frozen? ⟨r,1,none⟩=false) (i:bA w W) (j:u=d) (hv:v=v') :
 KeepsOthers W ((W.setCell ⟨k,0,none⟩ (jz kG u)).setCell ⟨k,1,none⟩ (jz kG v))/\yC B W ((W.setCell ⟨k,0,none⟩ (jz kG u)).setCell ⟨k,1,none⟩ (jz kG v))/\
 ((((W.setCell ⟨k,0,none⟩ (jz kG u)).setCell ⟨k,1,none⟩ (jz kG v)).cell? ⟨k,0,none⟩=some (jz kG d)/\((W.setCell ⟨k,0,none⟩ (jz kG u)).setCell ⟨k,1,none⟩ (jz kG v)).cell? ⟨k,1,none⟩=some (jz kG v')/\((W.setCell ⟨k,0,none⟩ (jz kG u)).setCell ⟨k,1,none⟩ (jz kG v)).frozen? ⟨k,0,none⟩=false/\((W.setCell ⟨k,0,none⟩ (jz kG u)).setCell ⟨k,1,none⟩ (jz kG v)).frozen? ⟨k,1,none⟩=false/\
 ((W.setCell ⟨k,0,none⟩ (jz kG u)).setCell ⟨k,1,none⟩ (jz kG v)).cell? ⟨r,0,none⟩=some y0/\((W.setCell ⟨k,0,none⟩ (jz kG u)).setCell ⟨k,1,none⟩ (jz kG v)).cell? ⟨r,1,none⟩=some y1/\((W.setCell ⟨k,0,none⟩ (jz kG u)).setCell ⟨k,1,none⟩ (jz kG v)).frozen? ⟨r,0,none⟩=false/\((W.setCell ⟨k,0,none⟩ (jz kG u)).setCell ⟨k,1,none⟩ (jz kG v)).frozen? ⟨r,1,none⟩=false)/\
 bA w ((W.setCell ⟨k,0,none⟩ (jz kG u)).setCell ⟨k,1,none⟩ (jz kG v))):=by
 subst j hv;obtain⟨c0,c1,a,c3⟩:=yD (u:=jz kG u) (v:=jz kG v) a0 a1;exact⟨(ki _ _ _).trans (ki _ _ _),λo=>a _ _ e,⟨c0,c1,(c3 _).trans a2,(c3 _).trans a3,(a _ _ b).trans a4,(a _ _ b).trans f,(c3 _).trans g,(c3 _).trans h⟩,(i.setCell (p:=⟨k,0,none⟩) c _).setCell (p:=⟨k,1,none⟩) c _⟩
abbrev iJ.val(q:iJ):Array aT:=#[jR q.name,jz kG (q.n 1),jz kG (q.n 2),jz kG (q.n 3),jz kG (q.n 4),jz kG (q.n 5),jz kG (q.n 6),jz kG (q.n 7),jz kG (q.n 8),jz kG (q.n 9),jz kG (q.n 10),jQ q.lb q.ln q.lc]
def yF(q:iJ)(w:ad):bi PL 45 #[jD q.val] w λe w'=>e=ky (j5 (.func 71) #[] #[j3 (some ⟨w.heap.size,0,none⟩)])/\w'=w.alloc (ld q.val 88):=by
 go_enter (fx ao eb),Tryz.ntmps45;go_wp2;go_ret;exact⟨rfl,rfl⟩
def CD.kR(C:CD)(n:Int):aT:=if C.b6 (bO n 0 (C.n4-1))=0 then j4 #[jD #[jz kG (C.x4 n.toNat).low,jz kG (C.x4 n.toNat).high],jz kG 0] else j4 #[jD #[jz kG 0,jz kG 0],jz kG (C.b6 (bO n 0 (C.n4-1)))]
def nB(C:CD)(n:Int)(w:ad)(h:C.At w):bi PL 18 #[jD C.val,jz kG n] w (aO (C.kR n) w):=by
 have H:=il (λw1 o=>h.below (w':=w1) o);have m4:=h.m4;obtain⟨S,T,U,V,X,Y,Z,c3,b4,n4,c4,b5,n5,c5,hO⟩:∃(S T:Int)(U:Option bm)(V X:Nat)(Y:Option bm)(Z c3:Nat)(b4:Option bm)(n4 c4:Nat)(b5:Option bm)(n5 c5:Nat),∀W,C.At W->bi PL 27 #[jD C.val,jx (bO n 0 (C.n4-1))] W (aO (j4 #[jD #[jz kG S,jz kG T,jQ U V X,jQ Y Z c3,jQ b4 n4 c4,jQ b5 n5 c5],jz kG (C.b6 (bO n 0 (C.n4-1)))]) W):=by
  by_cases hf:C.b6 (bO n 0 (C.n4-1))=0
  .exact⟨_,_,_,_,_,_,_,_,_,_,_,_,_,_,λW L=>by rw[hf];exact kF hf L⟩
  .exact⟨_,_,_,_,_,_,_,_,_,_,_,_,_,_,λW L=>Kr hf L⟩
 have HO:=il hO;have H1:=il h;clear h hO;refine(b9 (n:=9)).1 (ca (fx ao dd) rfl trivial ?_ rfl);simp only[Tryz.ntmps18,hG,hH,hI,gt,gw,fp,ft,hJ,hK,hM,hT];refine wpIn_wide.2 ?_;go_wp2;obtain⟨a,q⟩:=br ((w.alloc (ld C.val 27)).alloc (ld #[jz kG 0,jz kG 0] 56));have y:bA w a:=by rw[q];exact((fR _ _).alloc (f7 _) _).alloc ar _
 have z:Hid (C.Box w.heap.size a):=il ⟨by rw[q];exact((((fR (w.alloc (ld C.val 27)).heap.size _).alloc (f7 _) _)).block _ ar).trans (au w _)⟩;have M:Hid (a.heap[w.heap.size+1]?=some (ld #[jz kG 0,jz kG 0] 56)):=il (by rw[q];have:=au (w.alloc (ld C.val 27)) (ld #[jz kG 0,jz kG 0] 56);rwa[jf]at this);rw[<-q];clear q;obtain⟨f0,f1,f2,f3,f4,f5⟩:=bf z.out.Tj;have E:w.heap.size<a.heap.size:=getElem?_lt' z.out.Tj;have XZ:w.heap.size<a.heap.size+1:=ab
 go_cut [6,7] from 10 to 17 (fun(v6:aT)(v7:aT)(wx:ad)=>v7=jz kG (C.b6 (bO n 0 (C.n4-1)))/\bA a wx)
 case first=>
  refine cb ?_
  go_region_with (first|(go_at_call 44;refine(AE C n _ m4).mono ?_;rintro e w1⟨rfl,F⟩;obtain⟨lp,lR⟩:=cW F;(first|(with_reducible have d:=Below.on ((fR a.heap.size a).drew) F)|(have d:=Below.on ((fR a.heap.size a).drew.alloc (fR a.heap.size a).drew.size _) F;have aH:a.heap.size<w1.heap.size:=by have:=F.size;simp at this;omega));have dx:=d.size;obtain⟨g0,g1,g2,g3,N,g5⟩:=bf ((d.block _ E).trans z.out.Tj);have hzw:w.heap.size<w1.heap.size:=gg E dx)|(go_at_call 27;refine(HO.out _ (H.out _ (Below.on y ?hb))).mono ?_;(with_reducible case hb=>first|exact d|exact d.alloc d.size _);rintro e w2⟨rfl,O⟩;obtain⟨hc2,hf2⟩:=cW O;(with_reducible first|have t:=Below.on d O|have t:=Below.on (d.alloc d.size _) O)))
  all_goals (refine NoPanic.normal ?_;go_wp2_with fail;go_meet;case rel=>refine⟨rfl,?_⟩;with_reducible first|exact Below.zQ t (f7 _) _ _ _ _ _ _|exact Below.zQ t dx _ _ _ _ _ _|exact t.alloc t.size _)
 case rest=>
  obtain⟨rfl,f⟩:=hcut;have b:w.heap.size+1<a.heap.size:=getElem?_lt' M.out;obtain⟨I,J,q0,q1⟩:=uJ ((f.block _ b).trans M.out);by_cases hf:C.b6 (bO n 0 (C.n4-1))=0
  .have hA:=H.out wc (Below.on y f);have P:C.cx=0/\bO n 0 (C.n4-1)=true:=by
    unfold CD.b6 at hf;split at hf
    .split at hf
     .exact⟨ba,ba⟩
     .cases hf
    .exact absurd hf ba
   obtain⟨hk,hb⟩:=P;have jH:0<=n/\n<=(C.n4:Int)-1:=by simpa[bO]using hb
   obtain⟨i,rfl⟩:=ke jH.1;have hi:i<C.n4:=ab;have mS:(i:Int)<C.n4:=ab;have OK:=il (Kq hk hi);obtain⟨g0,g1,g2,g3,N,g5⟩:=bf ((f.block _ E).trans z.out.Tj);rw[hA.s4 ab]at N;have k0:=hA.AD i hi;have k1:=hA.dB i hi 1 ab ab;have k2:=hA.dB i hi 2 ab ab;have k3:=hA.dB i hi 3 ab ab;have k4:=hA.dB i hi 4 ab ab;have k5:=hA.dB i hi 5 ab ab;have k6:=hA.dB i hi 6 ab ab;have k7:=hA.dB i hi 7 ab ab;have k8:=hA.dB i hi 8 ab ab;have k9:=hA.dB i hi 9 ab ab;have CG:=hA.dB i hi 10 ab ab;have CH:=hA.nj i hi;have ER:=hA.h4;have wD:w.heap.size<wc.heap.size:=gg E f.size;rw[hf];clear hA hk hb jH f0 f1 f2 f3 f4 f5
   go_wp2_with (go_at_call 45;refine(yF (C.x4 i) _).mono ?_;rintro e w'⟨rfl,rfl⟩)
   obtain⟨j,m⟩:=br ((wc.alloc (ld #[jz kG 90,jz kG 0] 56)).alloc (ld (C.x4 i).val 88));have vL:j.heap.size=wc.heap.size+2:=by rw[m];simp
   have d:bA wc j:=by rw[m];exact((fR _ _).alloc (f7 _) _).alloc ar _
   have hp:j.heap[wc.heap.size+1]?=some (ld (C.x4 i).val 88):=by
    have:=au (wc.alloc (ld #[jz kG 90,jz kG 0] 56)) (ld (C.x4 i).val 88);rw[jf]at this;rw[m];exact this
   have hq:j.heap[wc.heap.size]?=some (ld #[jz kG 90,jz kG 0] 56):=by
    rw[m];exact((((fR (wc.alloc (ld #[jz kG 90,jz kG 0] 56)).heap.size _).alloc (f7 _) _)).block _ ar).trans (au wc _)
   have Yc:=(d.block _ (gg b f.size)).trans ((f.block _ b).trans M.out);have hrw:w.heap.size+1<wc.heap.size:=gg b f.size;have k:bA w j:=Below.on (Below.on y f) d;rw[<-m];clear m k0 k1 k2 k3 k4 k5 k6 k7 k8 k9 CG CH g0 g1 g2 g3 N g5 I J q0 q1;obtain⟨p0,p1,p2,p3,p4,p5,p6,p7,p8,p9,Cz,Fy⟩:=gx hp;obtain⟨I,J,q0,q1⟩:=uJ Yc;obtain⟨t0,t1,u0,u1⟩:=uJ hq;obtain⟨o1,o2,o3,o4,o5,o6⟩:=OK.out;refine(wpIn_wide (n:=9)).1 ?_;refine cd rfl ab (gf:=71) (lb:=#[j3 (some ⟨wc.heap.size+1,0,none⟩)]) rfl trivial (enters_of (fx ao fi) ae rfl)
    (tg 8 ab (wc.heap.size+1) ((C.x4 i).n 1) ((C.x4 i).n 3) ((C.x4 i).n 2-(C.x4 i).n 1+1).toNat ((C.x4 i).n 4-(C.x4 i).n 3+1).toNat o1 ab ab o4 ab ab j ab p1 (by rw[p2];congr 2;omega) p3 (by rw[p4];congr 2;omega))
    Km (Ko ab) (fR _ _) (λ_=>rfl)
    (λg W=>(W.cell? ⟨wc.heap.size,0,none⟩=some (jz kG (g.foldl min 90))/\W.cell? ⟨wc.heap.size,1,none⟩=some (jz kG (g.foldl max 0))/\W.frozen? ⟨wc.heap.size,0,none⟩=false/\W.frozen? ⟨wc.heap.size,1,none⟩=false/\W.cell? ⟨w.heap.size+1,0,none⟩=some (jz kG 0)/\W.cell? ⟨w.heap.size+1,1,none⟩=some (jz kG 0)/\W.frozen? ⟨w.heap.size+1,0,none⟩=false/\W.frozen? ⟨w.heap.size+1,1,none⟩=false)/\bA w W)
    (λ_ _ _=>False)
    (OwnFrom.and (Own.from (λs A B row hs hg b=>⟨ce hs.1 hg b,ce hs.2.1 hg b,(cf hs.1 hg b).trans hs.2.2.1,(cf hs.2.1 hg b).trans hs.2.2.2.1,ce hs.2.2.2.2.1 hg b,ce hs.2.2.2.2.2.1 hg b,(cf hs.2.2.2.2.1 hg b).trans hs.2.2.2.2.2.2.1,(cf hs.2.2.2.2.2.1 hg b).trans hs.2.2.2.2.2.2.2⟩) _) (ch (f7 _) (by have:=k.size;omega)))
    (λ_ _ _ _ _ hs _ _=>hs)
    ⟨⟨t0,t1,u0,u1,I,J,q0,q1⟩,k⟩
    (λx=>{ tmps:=#[jD C.val,jz kG i,j3 (some ⟨w.heap.size,0,none⟩),undef,j3 (some ⟨w.heap.size+1,0,none⟩),jz kG 0,u6,jz kG 0,j3 (some ⟨wc.heap.size,0,none⟩),jz kG x,u10,u11,u12,u13,u14,u15,u16,u17,jz kG 0,jx false,undef,undef,jD #[jz kG 90,jz kG 0],j3 (some ⟨w.heap.size,4,none⟩),jQ (some ⟨C.k4,C.o4,none⟩) C.n4 C.c4,jz kG i,j3 (some ⟨C.k4,C.o4+i*12,none⟩),jD (C.x4 i).val,j5 (.func 71) #[] #[j3 (some ⟨wc.heap.size+1,0,none⟩)],jz kG x,undef,undef,undef,undef,undef,undef,undef,undef,undef,undef,undef],defers:=[] }) ?assign ?body ?done ?stop
   case assign=>
    intro l x W K Q
    gi_wp2
    exact Q
   case body=>
    rintro l g x W⟨⟨a0,a1,a2,a3,a4,R,a6,a7⟩,o⟩_
    gi_wp2
    all_goals (
     refine Rs ab ab ab a0 a1 a2 a3 a4 R a6 a7 o ?_ ?_
     .rw[hV];simp only[hY,hZ];omega
     .rw[hV];simp only[hY,hZ];omega)
   case done=>
    rintro D ys W hD rfl⟨⟨a0,a1,a2,a3,a4,R,a6,a7⟩,o⟩Q;replace a0:W.cell? ⟨wc.heap.size,0,none⟩=some (jz kG (C.x4 i).low):=a0;replace a1:W.cell? ⟨wc.heap.size,1,none⟩=some (jz kG (C.x4 i).high):=a1;go_wp2;have hK':=((ki W ⟨w.heap.size+1,0,none⟩ (jz kG (C.x4 i).low)).trans (ki _ ⟨w.heap.size+1,1,none⟩ (jz kG (C.x4 i).high))).same D _ Q rfl;obtain⟨d0,d1,_,_⟩:=yD (u:=jz kG (C.x4 i).low) (v:=jz kG (C.x4 i).high) a4 R;have e0:=ce d0 (ci _ D (.deferred none)) (λr e=>by cases e;exact⟨_,hK',rfl⟩);have e1:=ce d1 (ci _ D (.deferred none)) (λr e=>by cases e;exact⟨_,hK',rfl⟩);refine⟨ar,kY ⟨_,_,rfl,cl hK',?_⟩⟩;refine⟨C.kR i,?_,rfl,(((o.setCell (p:=⟨w.heap.size+1,0,none⟩) (gl _) _).setCell (p:=⟨w.heap.size+1,1,none⟩) (gl _) _)).trans (belowK_b (w:=w) (f7 _) _ D _ _ (by have:=k.size;omega) hK' rfl rfl)⟩;rw[CD.kR,if_pos hf];simp[b8,fl,go_sem,e0,e1]
   case stop=>
    rintro D c g W _ _ h _;exact h.elim
  .have hn:(C.b6 (bO n 0 (C.n4-1)) != 0)=true:=by simpa using hf
   have HF:=il hf;clear hf f0 f1 f2 f3 f4 f5;go_wp2;refine⟨C.kR n,?_,rfl,?_⟩
   .rw[CD.kR,if_neg HF.out];simp[b8,fl,go_sem,I,J]
   .exact((Below.on y f).setCell (p:=⟨w.heap.size+1,0,none⟩) (gl _) _).setCell (p:=⟨w.heap.size+1,1,none⟩) (gl _) _
def Rt{C:CD}(hc:C.cx=0){i:Nat}(hi:i<C.n4):0<=(C.x4 i).n 5/\(C.x4 i).n 5<C.n2:=by
 have b:kA C.p C.n2 C.n3 C.n4 C.x4=0:=ck hc 3 ab;unfold kA at b;split at b
 case isFalse=>cases b
 have a:=ck b i hi;unfold gM at a;split at a
 case isFalse h=>exact absurd a h
 split at a
 case isFalse=>cases a
 split at a
 .cases a
 split at a
 case isFalse=>cases a
 rename_i c;simp only[bO,jp,decide_eq_true_eq]at c;omega
def ij(n a b:Int)(w:ad):bi PL 33 #[jz kG n,jz kG a,jz kG b] w λe w'=>e=ky (jx (bO n a b))/\w=w':=(bG n a b w).mono λ_ _⟨a,b⟩=>⟨a,b.symm⟩
def rM{n a b:Int}(h:bO n a b=true)(w:ad):bi PL 33 #[jz kG n,jz kG a,jz kG b] w λe w'=>e=ky (jx true)/\w=w':=by
 have:=ij n a b w;rwa[h]at this
def yG{n a b:Int}(h:bO n a b=false)(w:ad):bi PL 33 #[jz kG n,jz kG a,jz kG b] w λe w'=>e=ky (jx false)/\w=w':=by
 have:=ij n a b w;rwa[h]at this
def yH(a b:Bool)(w:ad):bi PL 46 #[jx a,jx b] w λe w'=>e=ky (jz kG (Ej a b))/\w=w':=(U5 a b w).mono λ_ _⟨a,b⟩=>⟨a,b.symm⟩
def aaA{w:ad}{k:Nat}{x:aT}{t:ac}(h:w.heap[k]?=some (ld #[x] t)):w.cell? ⟨k,0,none⟩=some x/\w.frozen? ⟨k,0,none⟩=false:=by
 simp[i4,i5,h]
def CD.sz(C:CD)(i:Nat):Int×Int:=C.x2 ((C.x4 i).n 5).toNat
def CD.zR(C:CD)(i:Nat)(x:Int):Bool:=bO x (C.sz i).1 (C.sz i).2
def CD.Cm(C:CD)(i:Nat):Int:=Ej ((C.x4 i).NY.any (C.zR i)) ((C.x4 i).NY.any λx=>!C.zR i x)
def CD.iq(C:CD)(n:Int):aT:=if C.b6 (bO n 0 (C.n4-1))=0 then j4 #[jz kG (C.Cm n.toNat),jz kG 0] else j4 #[jz kG 0,jz kG (C.b6 (bO n 0 (C.n4-1)))]
def pH(C:CD)(n:Int)(w:ad)(h:C.At w):bi PL 19 #[jD C.val,jz kG n] w (aO (C.iq n) w):=by
 have H:=il (λw1 y=>h.below (w':=w1) y);have m4:=h.m4;obtain⟨i0,i1,b2,n2,c2,b3,n3,c3,b4,n4,c4,b5,n5,c5,hO⟩:∃(i0 i1:Int)(b2:Option bm)(n2 c2:Nat)(b3:Option bm)(n3 c3:Nat)(b4:Option bm)(n4 c4:Nat)(b5:Option bm)(n5 c5:Nat),∀W,C.At W->bi PL 27 #[jD C.val,jx (bO n 0 (C.n4-1))] W (aO (j4 #[jD #[jz kG i0,jz kG i1,jQ b2 n2 c2,jQ b3 n3 c3,jQ b4 n4 c4,jQ b5 n5 c5],jz kG (C.b6 (bO n 0 (C.n4-1)))]) W):=by
  by_cases hf:C.b6 (bO n 0 (C.n4-1))=0
  .exact⟨_,_,_,_,_,_,_,_,_,_,_,_,_,_,λW Y=>by rw[hf];exact kF hf Y⟩
  .exact⟨_,_,_,_,_,_,_,_,_,_,_,_,_,_,λW Y=>Kr hf Y⟩
 have HO:=il hO;have H1:=il h;clear h hO;refine(b9 (n:=9)).1 (ca (fx ao df) rfl trivial ?_ rfl);simp only[Tryz.ntmps19,hG,hH,hI,gt,gw,fp,ft,hJ,hK,hM,hT];refine wpIn_wide.2 ?_;go_wp2;obtain⟨d,R⟩:=br (w.alloc (ld C.val 27));have J:bA w d:=by rw[R];exact(fR _ _).alloc (f7 _) _
 have S:Hid (C.Box w.heap.size d):=il ⟨by rw[R];exact au w _⟩;rw[<-R];clear R;obtain⟨f0,f1,f2,f3,f4,f5⟩:=bf S.out.Tj;have T:w.heap.size<d.heap.size:=getElem?_lt' S.out.Tj;have XZ:w.heap.size<d.heap.size+1:=ab
 go_cut [6,7] from 12 to 19 (fun(v6:aT)(v7:aT)(Z:ad)=>v7=jz kG (C.b6 (bO n 0 (C.n4-1)))/\bA d Z)
 case first=>
  refine cb ?_
  go_region_with (first|(go_at_call 44;refine(AE C n _ m4).mono ?_;rintro e w1⟨rfl,U⟩;obtain⟨lp,lR⟩:=cW U;(first|(with_reducible have j:=Below.on ((fR d.heap.size d).drew) U)|(have j:=Below.on ((fR d.heap.size d).drew.alloc (fR d.heap.size d).drew.size _) U;have aH:d.heap.size<w1.heap.size:=by have:=U.size;simp at this;omega));have dx:=j.size;obtain⟨g0,g1,g2,g3,L,g5⟩:=bf ((j.block _ T).trans S.out.Tj);have hzw:w.heap.size<w1.heap.size:=gg T dx)|(go_at_call 27;refine(HO.out _ (H.out _ (Below.on J ?hb))).mono ?_;(with_reducible case hb=>first|exact j|exact j.alloc j.size _);rintro e w2⟨rfl,qA⟩;obtain⟨hc2,hf2⟩:=cW qA;(with_reducible first|have b:=Below.on j qA|have b:=Below.on (j.alloc j.size _) qA)))
  all_goals (refine NoPanic.normal ?_;go_wp2_with fail;go_meet;case rel=>refine⟨rfl,?_⟩;with_reducible first|exact Below.zQ b (f7 _) _ _ _ _ _ _|exact Below.zQ b dx _ _ _ _ _ _|exact b.alloc b.size _)
 case rest=>
  obtain⟨rfl,z⟩:=hcut;by_cases hf:C.b6 (bO n 0 (C.n4-1))=0
  .have hA:=H.out wc (Below.on J z);have hck:C.cx=0/\bO n 0 (C.n4-1)=true:=by
    unfold CD.b6 at hf;split at hf
    .split at hf
     .exact⟨ba,ba⟩
     .cases hf
    .exact absurd hf ba
   obtain⟨hk,hb⟩:=hck;have jH:0<=n/\n<=(C.n4:Int)-1:=by simpa[bO]using hb
   obtain⟨i,rfl⟩:=ke jH.1;have hi:i<C.n4:=ab;have mS:(i:Int)<C.n4:=ab;have OK:=il (Kq hk hi);obtain⟨z1,z2⟩:=Rt hk hi;have r:((C.x4 i).n 5).toNat<C.n2:=ab;obtain⟨g0,g1,g2,g3,L,g5⟩:=bf ((z.block _ T).trans S.out.Tj);rw[hA.s4 ab]at L;rw[hA.s2 ab]at g2;have k0:=hA.AD i hi;have k1:=hA.dB i hi 1 ab ab;have k2:=hA.dB i hi 2 ab ab;have k3:=hA.dB i hi 3 ab ab;have k4:=hA.dB i hi 4 ab ab;have k5:=hA.dB i hi 5 ab ab;have k6:=hA.dB i hi 6 ab ab;have k7:=hA.dB i hi 7 ab ab;have k8:=hA.dB i hi 8 ab ab;have k9:=hA.dB i hi 9 ab ab;have CG:=hA.dB i hi 10 ab ab;have CH:=hA.nj i hi;have y0:=hA.Ep _ r;have y1:=hA.Er _ r;have g:=hA.h4;have ND:=hA.h2;have wD:w.heap.size<wc.heap.size:=gg T z.size;rw[hf];clear hA hk hb jH f0 f1 f2 f3 f4 f5 r
   go_upto_region 4 with fail
   go_cut [8] from 23 to 32 (fun(v8:aT)(Z:ad)=>v8=j3 (some ⟨wc.heap.size,0,none⟩)/\Z=wc.drew.alloc (ld #[jz kG (C.x2 ((C.x4 i).n 5).toNat).1,jz kG (C.x2 ((C.x4 i).n 5).toNat).2] 56))
   case first=>
    refine cb ?_
    go_region
    all_goals (refine NoPanic.normal ?_;go_wp2_with fail;go_meet;case rel=>exact⟨rfl,rfl⟩)
   case rest=>
    obtain⟨rfl,rfl⟩:=hcut;obtain⟨a,M⟩:=br (wc.drew.alloc (ld #[jz kG (C.x2 ((C.x4 i).n 5).toNat).1,jz kG (C.x2 ((C.x4 i).n 5).toNat).2] 56));have b:bA wc a:=by rw[M];exact(fR wc.heap.size wc).drew.alloc (fR wc.heap.size wc).drew.size _
    have N:a.heap[wc.heap.size]?=some (ld #[jz kG (C.x2 ((C.x4 i).n 5).toNat).1,jz kG (C.x2 ((C.x4 i).n 5).toNat).2] 56):=by
     have:=au wc.drew (ld #[jz kG (C.x2 ((C.x4 i).n 5).toNat).1,jz kG (C.x2 ((C.x4 i).n 5).toNat).2] 56);rw[M];exact this
    have E:a.heap.size=wc.heap.size+1:=by rw[M,jf];rfl
    rw[<-M];clear M;replace L:=(b.cell (p:=⟨w.heap.size,4,none⟩) wD).trans L;replace k0:=(b.cell (p:=⟨C.k4,C.o4+i*12,none⟩) g).trans k0;replace k1:=(b.cell (p:=⟨C.k4,C.o4+i*12+1,none⟩) g).trans k1;replace k2:=(b.cell (p:=⟨C.k4,C.o4+i*12+2,none⟩) g).trans k2;replace k3:=(b.cell (p:=⟨C.k4,C.o4+i*12+3,none⟩) g).trans k3;replace k4:=(b.cell (p:=⟨C.k4,C.o4+i*12+4,none⟩) g).trans k4;replace k5:=(b.cell (p:=⟨C.k4,C.o4+i*12+5,none⟩) g).trans k5;replace k6:=(b.cell (p:=⟨C.k4,C.o4+i*12+6,none⟩) g).trans k6;replace k7:=(b.cell (p:=⟨C.k4,C.o4+i*12+7,none⟩) g).trans k7;replace k8:=(b.cell (p:=⟨C.k4,C.o4+i*12+8,none⟩) g).trans k8;replace k9:=(b.cell (p:=⟨C.k4,C.o4+i*12+9,none⟩) g).trans k9;replace CG:=(b.cell (p:=⟨C.k4,C.o4+i*12+10,none⟩) g).trans CG;replace CH:=(b.cell (p:=⟨C.k4,C.o4+i*12+11,none⟩) g).trans CH;replace g:C.k4<a.heap.size:=ab;replace wD:w.heap.size<a.heap.size:=by omega
    clear g0 g1 g2 g3 g5 y0 y1;have k:=il E;have HQ2:=il N;clear E N
    go_wp2_with (go_at_call 45;refine(yF (C.x4 i) _).mono ?_;rintro e w'⟨rfl,rfl⟩)
    obtain⟨m,t⟩:=br (((a.alloc (ld #[jx false] 4)).alloc (ld #[jx false] 4)).alloc (ld (C.x4 i).val 88));have V:m.heap.size=a.heap.size+3:=by rw[t];simp
    have j:bA a m:=by rw[t];exact(((fR _ _).alloc (f7 _) _).alloc ar _).alloc (by simp;omega) _
    have hp:m.heap[a.heap.size+1+1]?=some (ld (C.x4 i).val 88):=by
     have:=au ((a.alloc (ld #[jx false] 4)).alloc (ld #[jx false] 4)) (ld (C.x4 i).val 88);rw[jf,jf]at this;rw[t];exact this
    have YH:m.heap[a.heap.size]?=some (ld #[jx false] 4):=by
     rw[t];exact((((fR (a.alloc (ld #[jx false] 4)).heap.size _).alloc (f7 _) _).alloc ar _).block _ ar).trans (au a _)
    have ht1:m.heap[a.heap.size+1]?=some (ld #[jx false] 4):=by
     have h1:=au (a.alloc (ld #[jx false] 4)) (ld #[jx false] 4);rw[jf]at h1;rw[t];exact(((fR ((a.alloc (ld #[jx false] 4)).alloc (ld #[jx false] 4)).heap.size _).alloc (f7 _) _).block _ ar).trans h1
    have E:=k.out;have hqq:=(j.block _ ab).trans HQ2.out;have u:bA w m:=Below.on (Below.on (Below.on J z) b) j;have O:w.heap.size<=a.heap.size:=(Below.on (Below.on J z) b).size;rw[<-t];clear t k0 k1 k2 k3 k4 k5 k6 k7 k8 k9 CG CH L;obtain⟨p0,p1,p2,p3,p4,p5,p6,p7,p8,p9,Cz,Fy⟩:=gx hp;obtain⟨t0,t1,u0,u1⟩:=uJ hqq;obtain⟨v0,x0⟩:=aaA YH;obtain⟨v1,x1⟩:=aaA ht1;obtain⟨o1,o2,o3,o4,o5,o6⟩:=OK.out;have HS1:=il V;refine(wpIn_wide (n:=9)).1 ?_;refine cd rfl ab (gf:=71) (lb:=#[j3 (some ⟨a.heap.size+1+1,0,none⟩)]) rfl trivial (enters_of (fx ao fi) ae rfl)
     (tg 8 ab (a.heap.size+1+1) ((C.x4 i).n 1) ((C.x4 i).n 3) ((C.x4 i).n 2-(C.x4 i).n 1+1).toNat ((C.x4 i).n 4-(C.x4 i).n 3+1).toNat o1 ab ab o4 ab ab m ab p1 (by rw[p2];congr 2;omega) p3 (by rw[p4];congr 2;omega))
     Km (Ko ab) (fR _ _) (λ_=>rfl)
     (λq W=>(W.cell? ⟨wc.heap.size,0,none⟩=some (jz kG (C.sz i).1)/\W.cell? ⟨wc.heap.size,1,none⟩=some (jz kG (C.sz i).2)/\W.cell? ⟨a.heap.size,0,none⟩=some (jx (q.any (C.zR i)))/\W.cell? ⟨a.heap.size+1,0,none⟩=some (jx (q.any λx=>!C.zR i x))/\W.frozen? ⟨a.heap.size,0,none⟩=false/\W.frozen? ⟨a.heap.size+1,0,none⟩=false)/\bA w W)
     (λ_ _ _=>False)
     (OwnFrom.and (Own.from (λs A B row hs hg F=>⟨ce hs.1 hg F,ce hs.2.1 hg F,ce hs.2.2.1 hg F,ce hs.2.2.2.1 hg F,(cf hs.2.2.1 hg F).trans hs.2.2.2.2.1,(cf hs.2.2.2.1 hg F).trans hs.2.2.2.2.2⟩) _) (ch (f7 _) (by have:=u.size;omega)))
     (λ_ _ _ _ _ hs _ _=>hs)
     ⟨⟨t0,t1,v0,v1,x0,x1⟩,u⟩
     (λx=>{ tmps:=#[jD C.val,jz kG i,j3 (some ⟨w.heap.size,0,none⟩),undef,jz kG 0,jz kG 0,u6,jz kG 0,j3 (some ⟨wc.heap.size,0,none⟩),j3 (some ⟨a.heap.size,0,none⟩),j3 (some ⟨a.heap.size+1,0,none⟩),jz kG x,u12,u13,u14,u15,u16,u17,u18,u19,jz kG 0,jx false,undef,u23,u24,u25,u26,u27,u28,u29,u30,u31,u32,j3 (some ⟨w.heap.size,4,none⟩),jQ (some ⟨C.k4,C.o4,none⟩) C.n4 C.c4,jz kG i,j3 (some ⟨C.k4,C.o4+i*12,none⟩),jD (C.x4 i).val,j5 (.func 71) #[] #[j3 (some ⟨a.heap.size+1+1,0,none⟩)],jz kG x,undef,undef,undef,undef,undef,undef,undef,undef,undef],defers:=[] }) ?assign ?body ?done ?stop
    case assign=>
     intro l x W K X;clear E V
     gi_wp2
     exact X
    case body=>
     rintro l q x W⟨⟨a0,a1,a2,a3,a4,a5⟩,y⟩_;clear E V;have bu:a.heap.size≠wc.heap.size:=by have:=k.out;omega
     by_cases I:C.zR i x=true
     .have P:=il I;have Q:bO x (C.sz i).1 (C.sz i).2=true:=I;have v:=il Q;clear I Q
      gi_wp2_with (refine⟨trivial,?_⟩;gi_at_call 33;refine(CallsIn.inRound l (callsIn_wide.2 (rM v.out _))).mono ?_;rintro e w'⟨rfl,rfl⟩)
      refine⟨ki _ _ _,λo=>i6 _ _ _ _ (λh=>by have f:=congrArg kg h;have:=k.out;simp only at f;omega),⟨(i6 _ _ _ _ (λh=>by have f:=congrArg kg h;have:=k.out;simp only at f;omega)).trans a0,(i6 _ _ _ _ (λh=>by have f:=congrArg kg h;have:=k.out;simp only at f;omega)).trans a1,?_,(i6 _ _ _ _ (λh=>by have f:=congrArg kg h;have:=k.out;simp only at f;omega)).trans (by rw[a3];simp[P.out]),by rw[i9];exact a4,by rw[i9];exact a5⟩,y.setCell (p:=⟨a.heap.size,0,none⟩) O _⟩;rw[i7 _ _ _ (by rw[a2];rfl)];simp[P.out]
     .have P:=il (aV I);have Q:bO x (C.sz i).1 (C.sz i).2=false:=aV I;have v:=il Q;clear I Q
      gi_wp2_with (refine⟨trivial,?_⟩;gi_at_call 33;refine(CallsIn.inRound l (callsIn_wide.2 (yG v.out _))).mono ?_;rintro e w'⟨rfl,rfl⟩)
      refine⟨ki _ _ _,λo=>i6 _ _ _ _ (λh=>by have f:=congrArg kg h;have:=k.out;simp only at f;omega),⟨(i6 _ _ _ _ (λh=>by have f:=congrArg kg h;have:=k.out;simp only at f;omega)).trans a0,(i6 _ _ _ _ (λh=>by have f:=congrArg kg h;have:=k.out;simp only at f;omega)).trans a1,(i6 _ _ _ _ (λh=>by have f:=congrArg kg h;have:=k.out;simp only at f;omega)).trans (by rw[a2];simp[P.out]),?_,by rw[i9];exact a4,by rw[i9];exact a5⟩,y.setCell (p:=⟨a.heap.size+1,0,none⟩) (gc O) _⟩;rw[i7 _ _ _ (by rw[a3];rfl)];simp[P.out]
    case done=>
     rintro D ys W hD rfl⟨⟨a0,a1,a2,a3,a4,a5⟩,y⟩X;replace a2:W.cell? ⟨a.heap.size,0,none⟩=some (jx ((C.x4 i).NY.any (C.zR i))):=a2;replace a3:W.cell? ⟨a.heap.size+1,0,none⟩=some (jx ((C.x4 i).NY.any λx=>!C.zR i x)):=a3;clear E V
     go_wp2_with (go_at_call 46;refine(yH _ _ _).mono ?_;rintro e w'⟨rfl,rfl⟩)
     refine⟨ar,kY ⟨_,_,rfl,cl X,?_⟩⟩;refine⟨C.iq i,?_,rfl,y.trans (belowK_b (w:=w) (f7 _) _ D _ _ (by have:=u.size;omega) X rfl rfl)⟩;rw[CD.iq,if_pos hf];simp[b8,fm,go_sem,CD.Cm]
    case stop=>
     rintro D c q W _ _ h _;exact h.elim
  .have hn:(C.b6 (bO n 0 (C.n4-1)) != 0)=true:=by simpa using hf
   have HF:=il hf;clear hf f0 f1 f2 f3 f4 f5;go_wp2;refine⟨C.iq n,?_,rfl,?_⟩
   .rw[CD.iq,if_neg HF.out];simp[b8,fm,go_sem]
   .exact Below.on J z
end Go.Proofs
namespace Go.Proofs
set_option maxHeartbeats 1000000
end Go.Proofs
namespace Go
section
variable {P:aa}{ops:Array bC}
def Region.fZ(ops:Array bC)(i:Nat):Option Tmp:=(ops[i]?).bind (·.dst)
def cS(ops:Array bC)(vs:Nat->aT):List Nat->Act->Act
 |[],a=>a
 |i::l,a=>cS ops vs l (a.put (Region.fZ ops i) (vs i))
def EK(a:Act)(d:Option Tmp)(v:aT):(a.put d v).tmps.size=a.tmps.size:=by
 cases d<;>simp[Act.put]
def put_defers(a:Act)(d:Option Tmp)(v:aT):(a.put d v).defers=a.defers:=by
 cases d<;>rfl
def Cg(a:Act)(d:Option Tmp)(v:aT)(t:Nat):(a.put d v).tmps[t]?=if d=some t/\t<a.tmps.size then some v else a.tmps[t]?:=by
 cases d with
 |none=>simp[Act.put]
 |some d=>
  simp only[Act.put,Array.getElem?_setIfInBounds,Option.some.injEq];grind
def uF(vs:Nat->aT):∀(l:List Nat)(a:Act),(cS ops vs l a).tmps.size=a.tmps.size
 |[],_=>rfl
 |i::l,a=>by rw[cS,uF vs l,EK]
def pG(vs:Nat->aT):∀(l:List Nat)(a:Act),(cS ops vs l a).defers=a.defers
 |[],_=>rfl
 |i::l,a=>by rw[cS,pG vs l,put_defers]
def gI(vs:Nat->aT)(t:Nat):∀(l:List Nat)(a:Act),(∀j∈l,Region.fZ ops j≠some t)->(cS ops vs l a).tmps[t]?=a.tmps[t]?
 |[],_,_=>rfl
 |i::l,a,h=>by rw[cS,gI vs t l _ λj b=>h j (h6 _ b),Cg,if_neg λe=>h i (h7 ..) e.1]
def gJ(vs:Nat->aT)(t j:Nat)(hd:∀k,Region.fZ ops k=some t->k=j)(b:Region.fZ ops j=some t):∀(l:List Nat)(a:Act),j∈l->(cS ops vs l a).tmps[t]?=if t<a.tmps.size then some (vs j) else none
 |i::l,a,h=>by
  rw[cS];by_cases hl:j∈l
  .rw[gJ vs t j hd b l _ hl,EK]
  .obtain rfl:i=j:=aS;rw[gI vs t l _ λk c e=>hl (hd k e▸c),Cg,b];grind
def Oper.dz(o:bC):Array Edge:=o.after.filter (kj .any)
theorem cH{o:bC}{e:Edge}:e∈o.dz↔e∈o.after/\kj .any e=true:=by simp[Oper.dz]
def qf(P:aa)(K:aT->ad->Prop):Result Next->Prop
 |jn (kw v) w=>K v w
 |jn kx w=>K undef w
 |jn (kv f args) w=>bi P f args w λe w'=>∃v,e=ky v/\K v w'
 |_=>False
@[go_sem] def Tm(K:aT->ad->Prop)(v:aT)(w:ad):qf P K (jn (kw v) w)=K v w:=rfl
@[go_sem] def Vt(K:aT->ad->Prop)(w:ad):qf P K (jn kx w)=K undef w:=rfl
@[go_sem] def Tn(K:aT->ad->Prop)(f:aP)(args:Array aT)(w:ad):qf P K (jn (kv f args) w)=bi P f args w λe w'=>∃v,e=ky v/\K v w':=rfl
@[go_sem] def fC(P:aa)(ops:Array bC)(K:aT->ad->Prop)(o:bC)(b:Act)(w:ad):Prop:=
 if km o (cm ops b.tmps) then qf P K ((bT b.eval o).run P w) else K undef w
def Region.Ig(ops:Array bC):Bool:=
 (gD ops.size).all λi=>match ops[i]? with
  |none=>true
  |some o=>(match o.op with | .select ..=>false|_=>true)&&(o.dz.toList.all λe=>decide (e.on<i)&&kj .any e) &&
   (gD ops.size).all λj=>match Region.fZ ops j with
    |none=>true
    |some d=>(j==i||o.dst != some d)&&(!(o.looksAt ops).contains d||o.dz.toList.any λe=>e.on==j)
structure tf(ops:Array bC):Prop where
 sel:∀(i:Nat)(o:bC),ops[i]?=some o->∀cs b,o.op≠Op.select cs b
 edge:∀(i:Nat)(o:bC),ops[i]?=some o->∀e∈o.dz,e.on<i/\kj .any e=true
 one:∀i j t,Region.fZ ops i=some t->Region.fZ ops j=some t->i=j
 look:∀(i:Nat)(o:bC),ops[i]?=some o->∀j t,Region.fZ ops j=some t->t∈o.looksAt ops->∃e∈o.dz,e.on=j
def yz{i t:Nat}(h:Region.fZ ops i=some t):i<ops.size:=by
 rcases gB i ops.size with b|b
 .exact b
 .simp[Region.fZ,fz b]at h
def Ro(h:Region.Ig ops=true):tf ops:=by
 have key:∀(i:Nat)(o:bC),ops[i]?=some o->(match o.op with | .select ..=>false|_=>true)=true/\(∀e∈o.dz,e.on<i/\kj .any e=true)/\∀j,j<ops.size->∀d,Region.fZ ops j=some d->(j=i\/o.dst≠some d)/\(d∈o.looksAt ops->∃e∈o.dz,e.on=j):=by
  intro i o c;have hi:i<ops.size:=(Array.getElem?_eq_some_iff.1 c).1;simp only[Region.Ig,gG,g7]at h;grind
 refine⟨λi o c cs b e=>?_,λi o c=>(key i o c).2.1,λi j t hi f=>?_,λi o c j t f hl=>((key i o c).2.2 j (yz f) t f).2 hl⟩
 .grind
 .have g:=yz hi;have c:ops[i]?=some ops[i]:=fA g;have hd:ops[i].dst=some t:=by simpa[Region.fZ,c]using hi
  rcases((key i _ c).2.2 j (yz f) t f).1 with e|e
  .exact e.symm
  .exact absurd hd e
section
variable {C:ad->Prop}{Le:ad->ad->Prop}{Φ:Nat->(Nat->aT)->ad->Prop}{a:Act}{Q:bL->Act->ad->Prop}
def upd(vs:Nat->aT)(i:Nat)(v:aT):Nat->aT:=λj=>if j=i then v else vs j
def cO(ops:Array bC)(listed:Array Bool):List Nat:=(gD ops.size).filter λi=>listed.getD i true
def AL{o:bC}{i:Nat}(c:tf ops)(f:ops[i]?=some o){l:List Nat}(hl:∀e∈o.dz,e.on∈l)(vs:Nat->aT)(t:Nat)(m:t∈o.looksAt ops) :
 (cS ops vs l a).tmps[t]?=(cS ops vs (gD i) a).tmps[t]?:=by
 by_cases h:∃j,Region.fZ ops j=some t
 .obtain⟨j,b⟩:=h;obtain⟨e,g,rfl⟩:=c.look i o f j t b m;rw[gJ vs t e.on (λk d=>c.one _ _ _ d b) b l a (hl e g),gJ vs t e.on (λk d=>c.one _ _ _ d b) b _ a (List.mem_range.2 (c.edge i o f e g).1)]
 .rw[gI vs t l a λj _ e=>h ⟨j,e⟩,gI vs t _ a λj _ e=>h ⟨j,e⟩]
def Nj{o:bC}{i:Nat}(b:tf ops)(c:ops[i]?=some o){l:List Nat}(hl:∀e∈o.dz,e.on∈l)(vs:Nat->aT) :
 bT (cS ops vs l a).eval o=bT (cS ops vs (gD i) a).eval o:=by
 refine co o (b.sel i o c) λx d=>?_
 cases x with
 |tmp t=>
  have f:t∈o.looksAt ops:=h8 _ (List.mem_filterMap.2 ⟨.tmp t,by simpa using d,rfl⟩);simp only[Act.eval,fB,AL b c hl vs t f]
 |_=>rfl
def EL{o:bC}{i:Nat}(b:tf ops)(c:ops[i]?=some o){l:List Nat}(hl:∀e∈o.dz,e.on∈l)(vs:Nat->aT) :
 km o (cm ops (cS ops vs l a).tmps)=km o (cm ops (cS ops vs (gD i) a).tmps):=by
 unfold km
 cases hg:o.guard with
 |none=>rfl
 |some d=>
  obtain⟨g,want⟩:=d;have hy:cm ops (cS ops vs l a).tmps g=cm ops (cS ops vs (gD i) a).tmps g:=by
   unfold cm
   cases f:(ops[g]?).bind (·.dst) with
   |none=>rfl
   |some t=>
    have:=AL (a:=a) b c hl vs t (by simp[Oper.looksAt,hg,f]);grind
  simp only[hy]
def Rp(g:tf ops){i:Nat}{o:bC}(q:ops[i]?=some o){listed:Array Bool}(hs:listed.size=ops.size)(s:listed.getD i true=false)(vs:Nat->aT)(v:aT) :
 (cS ops vs (cO ops listed) a).put o.dst v=cS ops (upd vs i v) (cO ops (listed.setIfInBounds i true)) a:=by
 have hi:i<ops.size:=(Array.getElem?_eq_some_iff.1 q).1;have l:Region.fZ ops i=o.dst:=by simp[Region.fZ,q]
 have r:∀j,j∈cO ops (listed.setIfInBounds i true)↔j=i\/j∈cO ops listed:=by
  intro j;simp only[cO,List.mem_filter,g7];by_cases e:i=j
  .subst e;simp[hi,hs]
  .have:(listed.setIfInBounds i true).getD j true=listed.getD j true:=bo;grind
 have u:i∉cO ops listed:=λh=>by
  have:=(List.mem_filter.1 h).2;rw[s]at this;cases this
 obtain⟨x,m⟩:=br ((cS ops vs (cO ops listed) a).put o.dst v);obtain⟨y,hy⟩:=br (cS ops (upd vs i v) (cO ops (listed.setIfInBounds i true)) a);have z:x.defers=y.defers:=by rw[m,hy,put_defers,pG,pG]
 have A:x.tmps=y.tmps:=by
  apply Array.ext_getElem?;intro t;rw[m,hy,Cg,uF];by_cases n:o.dst=some t
  .have d:Region.fZ ops i=some t:=l.trans n;rw[gJ _ t i (λk f=>g.one _ _ _ f d) d _ a ((r i).2 (kY rfl)),upd,if_pos rfl];by_cases p:t<a.tmps.size
   .simp[n,p]
   .rw[if_neg λe=>p e.2,if_neg p,fz (by rw[uF];omega)]
  .rw[if_neg λe=>n e.1];by_cases h:∃j,Region.fZ ops j=some t/\j∈cO ops listed
   .obtain⟨j,b,c⟩:=h;have w:j≠i:=λe=>u (e▸c);rw[gJ _ t j (λk f=>g.one _ _ _ f b) b _ a c,gJ _ t j (λk f=>g.one _ _ _ f b) b _ a ((r j).2 (la c)),upd,if_neg w]
   .rw[gI _ t _ a λj b e=>h ⟨j,e,b⟩,gI _ t _ a λj b e=>?_];grind
 rw[<-m,<-hy];obtain⟨B,D⟩:=x;simp_all
section
variable (P:aa)(ops:Array bC)(C:ad->Prop)(Le:ad->ad->Prop)(E:Nat->Bool)(Φ:Nat->(Nat->aT)->ad->Prop)(Q:bL->Act->ad->Prop)
def cL:Nat->List bC->((Nat->aT)->Act)->Prop
 |i,[],b=>∀vs W,C W->(∀j,j<i->E j=false->Φ j vs W)->Q lf (b vs) W
 |i,o::l,b=>@jr (λ_=>Prop)
  ((∀vs W,C W->(∀e∈o.dz,E e.on=false->Φ e.on vs W)->fC P ops (λu c=>C c/\Le W c/\Φ i (upd vs i u) c) o (b vs) W)/\cL (i+1) l λvs=>(b vs).put o.dst (vs i))
  (∃v,(∀vs W,C W->(∀e∈o.dz,E e.on=false->Φ e.on vs W)->fC P ops (λu c=>u=v/\C c/\Le W c) o (b vs) W)/\cL (i+1) l λvs=>(b vs).put o.dst v) (E i)
end
def cP{E:Nat->Bool}{i:Nat}{b:(Nat->aT)->Act}(h:∀vs W,C W->(∀j,j<i->E j=false->Φ j vs W)->Q lf (b vs) W):cL P ops C Le E Φ Q i [] b:=h
def EM{E:Nat->Bool}{i:Nat}{o:bC}{l:List bC}{b:(Nat->aT)->Act}(v:aT)(hE:E i=true)
 (h:∀vs W,C W->(∀e∈o.dz,E e.on=false->Φ e.on vs W)->fC P ops (λu c=>u=v/\C c/\Le W c) o (b vs) W) (d:cL P ops C Le E Φ Q (i+1) l λvs=>(b vs).put o.dst v):cL P ops C Le E Φ Q i (o::l) b:=by
 rw[cL,hE];exact⟨v,h,d⟩
def EN{E:Nat->Bool}{i:Nat}{o:bC}{l:List bC}{b:(Nat->aT)->Act}(hE:E i=false)
 (h:∀vs W,C W->(∀e∈o.dz,E e.on=false->Φ e.on vs W)->fC P ops (λu c=>C c/\Le W c/\Φ i (upd vs i u) c) o (b vs) W) (d:cL P ops C Le E Φ Q (i+1) l λvs=>(b vs).put o.dst (vs i)):cL P ops C Le E Φ Q i (o::l) b:=by
 rw[cL,hE];exact⟨h,d⟩
def aY{E:Nat->Bool}{i:Nat}{o:bC}{l:List bC}{b b':(Nat->aT)->Act}(v:aT)(hE:E i=true)
 (h:∀vs W,C W->(∀e∈o.dz,E e.on=false->Φ e.on vs W)->fC P ops (λu c=>u=v/\C c/\Le W c) o (b vs) W) (hb:∀vs,(b vs).put o.dst v=b' vs) (d:cL P ops C Le E Φ Q (i+1) l b'):cL P ops C Le E Φ Q i (o::l) b:=
 EM v hE h ((funext hb:(λvs=>(b vs).put o.dst v)=b')▸d)
def eH{E:Nat->Bool}{i:Nat}{o:bC}{l:List bC}{b b':(Nat->aT)->Act}(hE:E i=false)
 (h:∀vs W,C W->(∀e∈o.dz,E e.on=false->Φ e.on vs W)->fC P ops (λu c=>C c/\Le W c/\Φ i (upd vs i u) c) o (b vs) W) (hb:∀vs,(b vs).put o.dst (vs i)=b' vs) (d:cL P ops C Le E Φ Q (i+1) l b'):cL P ops C Le E Φ Q i (o::l) b:=
 EN hE h ((funext hb:(λvs=>(b vs).put o.dst (vs i))=b')▸d)
def KD{p:Prop}(h:p:=by intro vs;simp only[Act.put,List.setIfInBounds_toArray,List.set_cons_zero,List.set_cons_succ];rfl):p:=h
def uG(vs:Nat->aT)(i:Nat):∀(l:List Nat)(a:Act),cS ops vs (l++[i]) a=(cS ops vs l a).put (Region.fZ ops i) (vs i)
 |[],_=>rfl
 |j::l,a=>by simp only[hT,cS];exact uG vs i l _
def yA{vs b:Nat->aT}:∀(l:List Nat)(a:Act),(∀j∈l,vs j=b j)->cS ops vs l a=cS ops b l a
 |[],_,_=>rfl
 |j::l,a,h=>by simp only[cS];rw[h j (h7 ..)];exact yA l _ λk c=>h k (h6 _ c)
def vR(E:Nat->Bool)(V vs:Nat->aT):Nat->aT:=λj=>if E j then V j else vs j
def Ch{K d:aT->ad->Prop}(h:∀v W,K v W->d v W):∀{r:Result Next},qf P K r->qf P d r:=by
 intro r H
 match r,H with
 |jn (kw v) b,H=>exact h v b H
 |jn kx b,H=>exact h undef b H
 |jn (kv f args) b,H=>exact Calls.mono H λe c⟨v,g,i⟩=>⟨v,g,h v c i⟩
def nu{K c:aT->ad->Prop}(h:∀v W,K v W->c v W){o:bC}{b:Act}{W:ad}(H:fC P ops K o b W):fC P ops c o b W:=by
 unfold fC at *;split
 .rename_i d;rw[if_pos d]at H;exact Ch h H
 grind
def EO{o:bC}{i:Nat}(c:tf ops)(g:ops[i]?=some o){vs d:Nat->aT}(hv:∀e∈o.dz,vs e.on=d e.on)(t:Nat)(n:t∈o.looksAt ops) :
 (cS ops vs (gD i) a).tmps[t]?=(cS ops d (gD i) a).tmps[t]?:=by
 by_cases h:∃j,Region.fZ ops j=some t
 .obtain⟨j,b⟩:=h;obtain⟨e,l,rfl⟩:=c.look i o g j t b n;have m:=List.mem_range.2 (c.edge i o g e l).1;rw[gJ vs t e.on (λk f=>c.one _ _ _ f b) b _ a m,gJ d t e.on (λk f=>c.one _ _ _ f b) b _ a m,hv e l]
 .rw[gI vs t _ a λj _ e=>h ⟨j,e⟩,gI d t _ a λj _ e=>h ⟨j,e⟩]
def Nk{o:bC}{i:Nat}(c:tf ops)(d:ops[i]?=some o){vs b:Nat->aT}(hv:∀e∈o.dz,vs e.on=b e.on){K:aT->ad->Prop}{W:ad}
 (H:fC P ops K o (cS ops vs (gD i) a) W):fC P ops K o (cS ops b (gD i) a) W:=by
 have e1:bT (cS ops b (gD i) a).eval o=bT (cS ops vs (gD i) a).eval o:=by
  refine co o (c.sel i o d) λx h=>?_
  cases x with
  |tmp t=>
   have f:t∈o.looksAt ops:=h8 _ (List.mem_filterMap.2 ⟨.tmp t,by simpa using h,rfl⟩);simp only[Act.eval,fB,EO (a:=a) c d hv t f]
  |_=>rfl
 have j:km o (cm ops (cS ops b (gD i) a).tmps)=km o (cm ops (cS ops vs (gD i) a).tmps):=by
  unfold km
  cases hg:o.guard with
  |none=>rfl
  |some k=>
   obtain⟨g,want⟩:=k;have hy:cm ops (cS ops b (gD i) a).tmps g=cm ops (cS ops vs (gD i) a).tmps g:=by
    unfold cm
    cases f:(ops[g]?).bind (·.dst) with
    |none=>rfl
    |some t=>
     have:=EO (a:=a) c d hv t (by simp[Oper.looksAt,hg,f]);grind
   simp only[hy]
 unfold fC at H ⊢;rw[e1,j];exact H
end
end
section
variable {P:aa}{ops:Array bC}{C:ad->Prop}{Le:ad->ad->Prop}{Φ:Nat->(Nat->aT)->ad->Prop}{a:Act}{Q:bL->Act->ad->Prop}
def Region.Ih(ops:Array bC)(i:Nat):List Nat:=match ops[i]? with
 |none=>[]
 |some o=>o.dz.toList.map Edge.on
def Region.Ci(ops:Array bC):Nat->List Nat->List Nat
 |0,s=>s
 |f+1,s=>Region.Ci ops f (s++s.flatMap (Region.Ih ops)).eraseDups
def AM(p:Nat->Prop)(b:∀i,p i->∀j∈Region.Ih ops i,p j):∀(f:Nat)(s:List Nat),(∀i∈s,p i)->∀i∈Region.Ci ops f s,p i
 |0,_,h=>h
 |f+1,s,h=>AM p b f _ λi hi=>by
  grind [List.mem_eraseDups]
structure Late(ops:Array bC)(k:Nat):Prop where
 all:∀(i:Nat)(o:bC),ops[i]?=some o->k<=i->∀j,j<k->j∈Region.Ci ops 4 (Region.Ih ops i)
 one:∀(i:Nat)(o:bC),ops[i]?=some o->k<i->∃e∈o.dz,e.on+1=i
def Region.Kk(ops:Array bC)(k:Nat):Bool:=decide (k<=ops.size)&&(gD ops.size).all λi=>match ops[i]? with
 |none=>true
 |some o=>decide (i<k)||(((gD k).all λj=>(Region.Ci ops 4 (Region.Ih ops i)).contains j)&&(i==k||o.dz.toList.any λe=>e.on+1==i))
def Kl{k:Nat}(h:Region.Kk ops k=true):k<=ops.size/\Late ops k:=by
 simp only[Region.Kk,jp,decide_eq_true_eq,gG,g7]at h;obtain⟨c,h⟩:=h;refine⟨c,λi o b hi j d=>?_,λi o b hi=>?_⟩
 .have:=h i (Array.getElem?_eq_some_iff.1 b).1;rw[b]at this;simp only[Bool.or_eq_true,decide_eq_true_eq,jp,gG,g7,List.any_eq_true,beq_iff_eq]at this;grind
 grind
def yB(p:tf ops){k:Nat}(q:Late ops k):∀(fuel m:Nat)(listed:Array Bool)(b:Act)(W:ad),listed.size=ops.size->k<=m->m+fuel=ops.size->(∀j,j<ops.size->listed.getD j true=decide (j<m))->
 bM P ops Q (ops.toList.drop m) b W->wpAny P .any ops Q fuel listed b W
 |0,m,listed,b,W,hs,t,u,hl,h=>by
  have e:ops.toList.drop m=[]:=List.drop_eq_nil_of_le (by simp;omega);rw[e]at h;refine⟨List.filter_eq_nil_iff.2 λi hi=>?_,h⟩;grind
 |fuel+1,m,listed,b,W,hs,t,u,hl,h=>by
  have f:m<ops.size:=ab;have l:ops[m]?=some ops[m]:=fA f;have hd:ops.toList.drop m=ops[m]::ops.toList.drop (m+1):=by
   rw[g9 (by simpa using f)];simp
  have r:m∈ko .any ops listed:=by
   refine List.mem_filter.2 ⟨List.mem_range.2 f,?_⟩;rw[hl m f];simp only[gp,decide_false,js,jt,l,kp,kq,fJ];intro e s
   cases hb:kj .any e with
   |false=>rfl
   |true=>
    have v:=(p.edge m _ l e (cH.2 ⟨s,hb⟩)).1;grind
  refine⟨λw=>(by rw[w]at r;cases r),λi hi=>?_⟩;have n:i=m:=by
   obtain⟨x,o⟩:=List.mem_filter.1 hi;have c:=List.mem_range.1 x;have d:ops[i]?=some ops[i]:=fA c;rw[d,hl i c]at o;simp only[jp,jw,decide_eq_false_iff_not,kp,kq,fJ]at o;obtain⟨D,E⟩:=o
   rcases gB m i with v|F
   .obtain⟨e,s,y⟩:=q.one i _ d ab;grind[cH]
   .omega
  subst n;rw[hd]at h;unfold wpOp;simp only[l];have next:∀b' g,bM P ops Q (ops.toList.drop (i+1)) b' g->wpAny P .any ops Q fuel (listed.setIfInBounds i true) b' g:=λb' g z=>by
   refine yB p q fuel (i+1) _ b' g (by simpa using hs) ab ab (λj A=>?_) z;by_cases e:i=j
   .subst e;simp[hs,A]
   .have:(listed.setIfInBounds i true).getD j true=listed.getD j true:=bo;grind
  rw[bM]at h;split
  .rename_i B;rw[if_pos B]at h;exact h.imp (Oper.wp_mono next) id
  grind
end
section
variable {P:aa}{ops:Array bC}{C:Bool->ad->Prop}{Le:ad->ad->Prop}{Φ:Bool->Nat->(Nat->aT)->ad->Prop}{X:Nat->Nat->aT->aT->Prop}{a:Act}{Q:bL->Act->ad->Prop}
set_option maxHeartbeats 4000000 in
def Cj{m:Nat}(hO:tf ops){k:Nat}(hL:Late ops k)(By:k<=ops.size)(hX:∀i j u v,X i j u v->X j i v u)(rL:∀(i:Nat)(o:bC),ops[i]?=some o->∀vs eX W,vs i=eX i->(∀e∈o.dz,vs e.on=eX e.on)->∀b,Φ b i vs W->Φ b i eX W)
 (aB:∀(i:Nat)(o:bC),ops[i]?=some o->i<k->∀vs W(D:List Nat)(b:Bool),(i=m->b=false)->C b W->(∀e∈o.dz,e.on∈D)->i∉D->(∀j∈D,j<ops.size)->(∀j∈D,∀o,ops[j]?=some o->∀e∈o.dz,e.on∈D)->(∀j∈D,Φ b j vs W)->(∀j∈D,∀k∈D,j≠k->X j k (vs j) (vs k))->fC P ops (λv W'=>C (b||decide (i=m)) W'/\(∀j∈D,Φ (b||decide (i=m)) j vs W')/\Φ (b||decide (i=m)) i (upd vs i v) W'/\∀j∈D,X j i (vs j) v) o (cS ops vs (gD i) a) W)
 (hQ:∀vs W b,(m<k->b=true)->C b W->(∀i,i<k->Φ b i vs W)->(∀i j,i<k->j<k->i≠j->X i j (vs i) (vs j))->bM P ops Q (ops.toList.drop k) (cS ops vs (gD k) a) W) :
 ∀(fuel:Nat)(listed:Array Bool)(vs:Nat->aT)(W:ad),listed.size=ops.size->(gD ops.size).countP (λi=>!listed.getD i true)=fuel->C (listed.getD m false) W->(∀i∈cO ops listed,Φ (listed.getD m false) i vs W)->(∀i∈cO ops listed,∀j∈cO ops listed,i≠j->X i j (vs i) (vs j))->(∀i∈cO ops listed,∀o,ops[i]?=some o->∀e∈o.dz,e.on∈cO ops listed)->(∀i,k<=i->i<ops.size->listed.getD i true=false)->
  wpAny P .any ops Q fuel listed (cS ops vs (cO ops listed) a) W:=by
 have fin:∀(fuel:Nat)(listed:Array Bool)(vs:Nat->aT)(W:ad),listed.size=ops.size->(gD ops.size).countP (λi=>!listed.getD i true)=fuel->(∀i,i<k->listed.getD i true=true)->(∀i,k<=i->i<ops.size->listed.getD i true=false)->C (listed.getD m false) W->(∀i∈cO ops listed,Φ (listed.getD m false) i vs W)->(∀i∈cO ops listed,∀j∈cO ops listed,i≠j->X i j (vs i) (vs j))->wpAny P .any ops Q fuel listed (cS ops vs (cO ops listed) a) W:=by
  intro fuel listed vs W hs hc oh AO hC FL hP;have aaw:∀j,j<ops.size->listed.getD j true=decide (j<k):=λj hj=>by
   grind
  have e:cO ops listed=gD k:=by
   unfold cO;have:(gD ops.size).filter (λi=>listed.getD i true)=(gD ops.size).filter (λi=>decide (i<k)):=List.filter_congr λi hi=>aaw i (List.mem_range.1 hi);rw[this];have e2:gD ops.size=gD k++(gD (ops.size-k)).map (k + ·):=by
    rw[<-ib];congr 1;omega
   rw[e2,List.filter_append,List.filter_eq_self.2 λi hi=>aS,List.filter_eq_nil_iff.2 λi hi=>?_,List.append_nil];grind
  have afx:k+fuel=ops.size:=by
   rw[<-hc];have:(gD ops.size).countP (λi=>!listed.getD i true)=(gD ops.size).countP (λi=>decide (¬i<k)):=ii λi hi=>aS;rw[this];have e2:gD ops.size=gD k++(gD (ops.size-k)).map (k + ·):=by
    rw[<-ib];congr 1;omega
   rw[e2,List.countP_append,List.countP_eq_zero.2 λi hi=>?_,List.countP_eq_length.2 λi hi=>?_]
   .simp;omega
   .grind
   grind
  rw[e]at FL hP ⊢;exact yB hO hL fuel k listed _ W hs (f7 _) afx aaw (hQ vs W _ (λhmk=>aS) hC (λi hi=>FL i (List.mem_range.2 hi)) λi j hi hj=>hP i (List.mem_range.2 hi) j (List.mem_range.2 hj))
 have nil:∀(listed:Array Bool),listed.size=ops.size->ko .any ops listed=[]->∀i,i<ops.size->listed.getD i true=true:=by
  intro listed hs hr i
  induction i using gy with
  |_ i ih=>
   intro hi;by_cases hu:listed.getD i true=true
   .exact hu
   .have nt:i∈ko .any ops listed:=by
     refine List.mem_filter.2 ⟨List.mem_range.2 hi,?_⟩;have ho:ops[i]?=some ops[i]:=fA hi;have hu':listed.getD i true=false:=by simpa using hu
     simp only[hu',js,jt,ho,kp,kq,fJ];intro e he
     cases hb:kj .any e with
     |false=>rfl
     |true=>
      have aH:=(hO.edge i _ ho e (cH.2 ⟨he,hb⟩)).1;grind
    grind
 intro fuel
 induction fuel with
 |zero=>
  intro listed vs W hs hc hC FL hP _ AO;refine fin 0 listed vs W hs hc (λi hi=>?_) AO hC FL hP;have:=List.countP_eq_zero.1 hc i (List.mem_range.2 ab);simpa using this
 |succ fuel ih=>
  intro listed vs W hs hc hC FL hP hdc AO;by_cases Rq:∀i,i<k->listed.getD i true=true
  .grind
  refine⟨λhr=>absurd (λi hi=>nil listed hs hr i ab) Rq,λi hi=>?_⟩;obtain⟨Gu,Xj⟩:=List.mem_filter.1 hi;have hil:=List.mem_range.1 Gu;have ho:ops[i]?=some ops[i]:=fA hil;rw[ho]at Xj;simp only[jp,jw,kp,kq,fJ]at Xj;obtain⟨vG,oh⟩:=Xj;have EP:∀e∈ops[i].dz,e.on∈cO ops listed:=λe he=>by
   have:=oh e (cH.1 he).1;have hb:=hO.edge i _ ho e he;rw[hb.2]at this;have Fz:e.on<listed.size:=ab;simp[Fz]at this;exact List.mem_filter.2 ⟨List.mem_range.2 ab,by simp[Fz,this]⟩
  have hik:i<k:=by
   rcases gB i k with h|h
   .exact h
   .refine absurd (λj hj=>?_) Rq;have key:=AM (ops:=ops) (λx=>x∈cO ops listed) (λx hx y hy=>?_) 4 (Region.Ih ops i) (λy hy=>?_) j (hL.all i _ ho h j hj)
    .exact(List.mem_filter.1 key).2
    .have hxo:ops[x]?=some ops[x]!:=by
      have:=List.mem_range.1 (List.mem_filter.1 hx).1;simp[this]
     unfold Region.Ih at hy;grind
    .unfold Region.Ih at hy;grind
  have ald:i∉cO ops listed:=λhj=>by
   have:=(List.mem_filter.1 hj).2;rw[vG]at this;cases this
  have H:=aB i _ ho hik vs W (cO ops listed) (listed.getD m false) (λe=>aS) hC EP ald (λj hj=>List.mem_range.1 (List.mem_filter.1 hj).1) hdc FL hP;have next:∀v W',(C (listed.getD m false||decide (i=m)) W'/\(∀j∈cO ops listed,Φ (listed.getD m false||decide (i=m)) j vs W')/\Φ (listed.getD m false||decide (i=m)) i (upd vs i v) W'/\∀j∈cO ops listed,X j i (vs j) v)->wpAny P .any ops Q fuel (listed.setIfInBounds i true) ((cS ops vs (cO ops listed) a).put ops[i].dst v) W':=by
   rintro v W'⟨hC0,hle,hv,hx⟩;have hC':C ((listed.setIfInBounds i true).getD m false) W':=by
    have e:(listed.setIfInBounds i true).getD m false=(listed.getD m false||decide (i=m)):=by
     by_cases e:i=m
     .subst e;have h2:i<listed.size:=ab;simp[h2]
     .simp[fo e,e]
    rw[e];exact hC0
   have e0:(listed.getD m false||decide (i=m))=(listed.setIfInBounds i true).getD m false:=by
    by_cases e:i=m
    .subst e;have h2:i<listed.size:=ab;simp[h2]
    .simp[fo e,e]
   rw[e0]at hle hv;rw[Rp hO ho hs vG vs v];have nt:∀j,j∈cO ops (listed.setIfInBounds i true)->j=i\/j∈cO ops listed:=λj hj=>by
    obtain⟨h1,h2⟩:=List.mem_filter.1 hj;by_cases e:j=i
    .exact kY e
    .exact la (List.mem_filter.2 ⟨h1,by simpa[fo (Ne.symm e)]using h2⟩)
   have Xs:∀j,j∈cO ops listed->j∈cO ops (listed.setIfInBounds i true):=λj hj=>by
    obtain⟨h1,h2⟩:=List.mem_filter.1 hj;by_cases e:j=i
    .grind
    .exact List.mem_filter.2 ⟨h1,by simpa[fo (Ne.symm e)]using h2⟩
   have Xr:∀j,j∈cO ops listed->j≠i:=λj hj e=>by
    grind
   refine ih _ _ W' (by simpa using hs) ?_ hC' (λj hj=>?_) (λj hj k hk Wk=>?_) (λj hj o' qx e he=>?_) (λj hj hjn=>by have bu:i≠j:=ab;simpa[fo bu]using AO j hj hjn)
   .have h1:(gD ops.size).countP (λj=>!listed.getD j true)=(gD ops.size).countP (λj=>!(listed.setIfInBounds i true).getD j true)+1:=by
     have key:∀l:List Nat,l.Nodup->i∈l->l.countP (λj=>!listed.getD j true)=l.countP (λj=>!(listed.setIfInBounds i true).getD j true)+1:=by
      intro l hn
      induction l with
      |nil=>intro h;cases h
      |cons k l ih=>
       intro h;obtain⟨hk,TH⟩:=List.nodup_cons.1 hn;by_cases e:k=i
       .subst e;have same:l.countP (λj=>!listed.getD j true)=l.countP (λj=>!(listed.setIfInBounds k true).getD j true):=by
         refine ii λj hj=>?_;have bu:k≠j:=λe=>hk (e▸hj);simp[fo bu]
        have hks:k<listed.size:=ab;rw[ik,ik,same,vG];simp[hks]
       .have hil:i∈l:=aS;have bu:i≠k:=λe'=>e e'.symm;rw[ik,ik,ih TH hil];have:(listed.setIfInBounds i true).getD k true=listed.getD k true:=by simp[fo bu]
        grind
     exact key _ List.nodup_range Gu
    omega
   .rcases nt j hj with rfl|zK
    .exact hv
    .have hjo:ops[j]?=some ops[j]!:=by
      have:=List.mem_range.1 (List.mem_filter.1 zK).1;simp[this]
     refine rL j _ hjo vs _ W' ?_ (λe he=>?_) _ (hle j zK)
     .simp only[upd];rw[if_neg (Xr j zK)]
     .have:=Xr _ (hdc j zK _ hjo e he);simp only[upd];rw[if_neg this]
   .rcases nt j hj with rfl|zK
    .rcases nt k hk with rfl|rm
     .exact absurd rfl Wk
     .simp only[upd,if_pos,if_neg (Xr k rm)];exact hX _ _ _ _ (hx k rm)
    .rcases nt k hk with rfl|rm
     .simp only[upd,if_pos,if_neg (Xr j zK)];exact hx j zK
     .simp only[upd,if_neg (Xr j zK),if_neg (Xr k rm)];exact hP j zK k rm Wk
   grind
  unfold wpOp;simp only[ho];unfold fC at H;rw[<-EL (a:=a) hO ho EP vs,<-Nj (a:=a) hO ho EP vs]at H;split
  .rename_i hw;rw[if_pos hw]at H;left;unfold Oper.wp;generalize(bT (cS ops vs (cO ops listed) a).eval ops[i]).run P W=r at H ⊢
   match r,H with
   |jn (kw v) W',H=>exact next v W' H
   |jn kx W',H=>exact next undef W' H
   |jn (kv f args) W',H=>exact Calls.mono H λe W''⟨v,he,hk⟩=>by subst he;exact next v W'' hk
  grind
section
variable (P:aa)(ops:Array bC)(m:Nat)(C:Bool->ad->Prop)(Le:ad->ad->Prop)(E:Nat->Bool)(Φ:Bool->Nat->(Nat->aT)->ad->Prop)(X:Nat->Nat->aT->aT->Prop)(Q:bL->Act->ad->Prop)
def cr:Nat->List bC->((Nat->aT)->Act)->Prop
 |i,[],b=>∀vs W c,(m<i->c=true)->C c W->(∀j,j<i->E j=false->Φ c j vs W)->(∀j k,j<i->k<i->j≠k->E j=false->E k=false->X j k (vs j) (vs k))->Q lf (b vs) W
 |i,o::l,b=>@jr (λ_=>Prop)
  ((∀vs W(D:List Nat)(c:Bool),(i=m->c=false)->C c W->(∀e∈o.dz,e.on∈D)->i∉D->(∀j∈D,∀o,ops[j]?=some o->∀e∈o.dz,e.on∈D)->(∀j∈D,E j=false->Φ c j vs W)->(∀j∈D,∀k∈D,j≠k->E j=false->E k=false->X j k (vs j) (vs k))->fC P ops (λu d=>C (c||decide (i=m)) d/\(∀j∈D,E j=false->Φ (c||decide (i=m)) j vs d)/\Φ (c||decide (i=m)) i (upd vs i u) d/\∀j∈D,E j=false->X j i (vs j) u) o (b vs) W)/\cr (i+1) l λvs=>(b vs).put o.dst (vs i))
  (∃v,(∀vs W c,C c W->(∀e∈o.dz,E e.on=false->Φ c e.on vs W)->fC P ops (λu d=>u=v/\C c d/\Le W d) o (b vs) W)/\cr (i+1) l λvs=>(b vs).put o.dst v) (E i)
end
def nv{E:Nat->Bool}{m:Nat}{i:Nat}{b:(Nat->aT)->Act}(h:∀vs W c,(m<i->c=true)->C c W->(∀j,j<i->E j=false->Φ c j vs W)->(∀j k,j<i->k<i->j≠k->E j=false->E k=false->X j k (vs j) (vs k))->Q lf (b vs) W):cr P ops m C Le E Φ X Q i [] b:=h
def Ck{E:Nat->Bool}{m:Nat}{i:Nat}{o:bC}{l:List bC}{b:(Nat->aT)->Act}(v:aT)(hE:E i=true)
 (h:∀vs W c,C c W->(∀e∈o.dz,E e.on=false->Φ c e.on vs W)->fC P ops (λu d=>u=v/\C c d/\Le W d) o (b vs) W) (f:cr P ops m C Le E Φ X Q (i+1) l λvs=>(b vs).put o.dst v):cr P ops m C Le E Φ X Q i (o::l) b:=by
 rw[cr,hE];exact⟨v,h,f⟩
def Cl{E:Nat->Bool}{m:Nat}{i:Nat}{o:bC}{l:List bC}{b:(Nat->aT)->Act}(hE:E i=false)
 (h:∀vs W(D:List Nat)(c:Bool),(i=m->c=false)->C c W->(∀e∈o.dz,e.on∈D)->i∉D->(∀j∈D,∀o,ops[j]?=some o->∀e∈o.dz,e.on∈D)->(∀j∈D,E j=false->Φ c j vs W)->(∀j∈D,∀k∈D,j≠k->E j=false->E k=false->X j k (vs j) (vs k))->fC P ops (λu d=>C (c||decide (i=m)) d/\(∀j∈D,E j=false->Φ (c||decide (i=m)) j vs d)/\Φ (c||decide (i=m)) i (upd vs i u) d/\∀j∈D,E j=false->X j i (vs j) u) o (b vs) W) (f:cr P ops m C Le E Φ X Q (i+1) l λvs=>(b vs).put o.dst (vs i)):cr P ops m C Le E Φ X Q i (o::l) b:=by
 rw[cr,hE];exact⟨h,f⟩
def iK{E:Nat->Bool}{m:Nat}{i:Nat}{o:bC}{l:List bC}{b b':(Nat->aT)->Act}(v:aT)(hE:E i=true)
 (h:∀vs W c,C c W->(∀e∈o.dz,E e.on=false->Φ c e.on vs W)->fC P ops (λu d=>u=v/\C c d/\Le W d) o (b vs) W) (hb:∀vs,(b vs).put o.dst v=b' vs) (f:cr P ops m C Le E Φ X Q (i+1) l b'):cr P ops m C Le E Φ X Q i (o::l) b:=
 Ck v hE h ((funext hb:(λvs=>(b vs).put o.dst v)=b')▸f)
def ey{E:Nat->Bool}{m:Nat}{i:Nat}{o:bC}{l:List bC}{b b':(Nat->aT)->Act}(hE:E i=false)
 (h:∀vs W(D:List Nat)(c:Bool),(i=m->c=false)->C c W->(∀e∈o.dz,e.on∈D)->i∉D->(∀j∈D,∀o,ops[j]?=some o->∀e∈o.dz,e.on∈D)->(∀j∈D,E j=false->Φ c j vs W)->(∀j∈D,∀k∈D,j≠k->E j=false->E k=false->X j k (vs j) (vs k))->fC P ops (λu d=>C (c||decide (i=m)) d/\(∀j∈D,E j=false->Φ (c||decide (i=m)) j vs d)/\Φ (c||decide (i=m)) i (upd vs i u) d/\∀j∈D,E j=false->X j i (vs j) u) o (b vs) W) (hb:∀vs,(b vs).put o.dst (vs i)=b' vs) (f:cr P ops m C Le E Φ X Q (i+1) l b'):cr P ops m C Le E Φ X Q i (o::l) b:=
 Cl hE h ((funext hb:(λvs=>(b vs).put o.dst (vs i))=b')▸f)
def ny{E:Nat->Bool}{m:Nat}(L:E m=false)(M:∀b i vs W r,Le W r->Φ b i vs W->Φ b i vs r):∀(l:List bC)(i:Nat)(b:(Nat->aT)->Act),(∀j,j<l.length->l[j]?=ops[i+j]?)->cr P ops m C Le E Φ X Q i l b->
 ∃V:Nat->aT,(∀(j:Nat)(o:bC),i<=j->j<i+l.length->ops[j]?=some o->∃s:(Nat->aT)->Act,(∀vs(a0:Act),(∀k,i<=k->E k=true->vs k=V k)->b vs=cS ops vs (gD i) a0->s vs=cS ops vs (gD j) a0)/\
  (∀vs W(D:List Nat)(c:Bool),(j=m->c=false)->C c W->(∀e∈o.dz,e.on∈D)->j∉D->(∀j∈D,∀o,ops[j]?=some o->∀e∈o.dz,e.on∈D)->(∀j∈D,E j=false->Φ c j vs W)->(∀j∈D,∀k∈D,j≠k->E j=false->E k=false->X j k (vs j) (vs k))->fC P ops (λu r=>(E j=true->u=V j)/\C (c||decide (j=m)) r/\(∀k∈D,E k=false->Φ (c||decide (j=m)) k vs r)/\(E j=false->Φ (c||decide (j=m)) j (upd vs j u) r)/\∀k∈D,E k=false->E j=false->X k j (vs k) u) o (s vs) W))/\
  (∀vs W(a0:Act),(∀k,i<=k->E k=true->vs k=V k)->b vs=cS ops vs (gD i) a0->∀c,(m<i+l.length->c=true)->C c W->(∀j,j<i+l.length->E j=false->Φ c j vs W)->(∀j k,j<i+l.length->k<i+l.length->j≠k->E j=false->E k=false->X j k (vs j) (vs k))->Q lf (cS ops vs (gD (i+l.length)) a0) W)
 |[],i,b,hl,h=>by
  refine⟨λ_=>undef,λj o z x R=>?_,λvs W a0 _ hb c f d t g=>by rw[hI,gj,<-hb];exact h vs W c (by simpa using f) d t g⟩;grind
 |o::l,i,b,hl,h=>by
  have hlen:i+(o::l).length=i+1+l.length:=aS;rw[hlen];have A:ops[i]?=some o:=by simpa using(hl 0 ar).symm
  have hd:Region.fZ ops i=o.dst:=by simp[Region.fZ,A]
  have N:∀j,j<l.length->l[j]?=ops[i+1+j]?:=λj z=>by have:=hl (j+1) aS;grind
  cases w:E i with
  |true=>
   rw[cr,w]at h;obtain⟨v,O,B⟩:=h;obtain⟨V,k1,k2⟩:=ny L M l (i+1) _ N B;have step:∀vs(a0:Act),(∀k,i<=k->E k=true->vs k=(λj=>if j=i then v else V j) k)->b vs=cS ops vs (gD i) a0->(b vs).put o.dst v=cS ops vs (gD (i+1)) a0:=λvs a0 hv hb=>by
    rw[g4,uG,<-hb,hd,hv i (f7 _) w];simp
   refine⟨λj=>if j=i then v else V j,λj F z x n=>?_,λvs W a0 hv hb c f d t g=>k2 vs W a0 (λk H p=>aS) (step vs a0 hv hb) c f d t g⟩;by_cases e:j=i
   .subst e;rw[A]at n;cases n;refine⟨b,λvs a0 _ hb=>hb,λvs W D c f d y q I hd g=>?_⟩;refine nu ?_ (O vs W c d λe p w=>hd _ (y e p) w);grind
   .obtain⟨s,J,K⟩:=k1 j F ab x n;refine⟨s,λvs a0 hv hb=>J vs a0 (λk H p=>aS) (step vs a0 hv hb),λvs W D c f d y q I hd g=>?_⟩;have:=K vs W D c f d y q I hd g;grind
  |false=>
   rw[cr,w]at h;obtain⟨O,B⟩:=h;obtain⟨V,k1,k2⟩:=ny L M l (i+1) _ N B;have step:∀vs(a0:Act),b vs=cS ops vs (gD i) a0->(b vs).put o.dst (vs i)=cS ops vs (gD (i+1)) a0:=λvs a0 hb=>by
    rw[g4,uG,<-hb,hd]
   refine⟨V,λj F z x n=>?_,λvs W a0 hv hb c f d t g=>k2 vs W a0 (λk H p=>hv k ab p) (step vs a0 hb) c f d t g⟩;by_cases e:j=i
   .subst e;rw[A]at n;cases n;refine⟨b,λvs a0 _ hb=>hb,λvs W D c f d y q I hd g=>?_⟩;grind
   .obtain⟨s,J,K⟩:=k1 j F ab x n;exact⟨s,λvs a0 hv hb=>J vs a0 (λk H p=>hv k ab p) (step vs a0 hb),K⟩
def mA(k:Nat){id:Nat}{w:ad}(m:Nat)(C:Bool->ad->Prop)(Le:ad->ad->Prop)(E:Nat->Bool)(Φ:Bool->Nat->(Nat->aT)->ad->Prop)(X:Nat->Nat->aT->aT->Prop)(O:∀i j u v,X i j u v->X j i v u)(R:P.follows lh=true)(S:Region.Ig ops=true)(T:k<=ops.size/\Late ops k)
 (U:E m=false) (Y:∀b i vs W p,Le W p->Φ b i vs W->Φ b i vs p) (x:∀(i:Nat)(o:bC),ops[i]?=some o->∀vs q W,vs i=q i->(∀e∈o.dz,vs e.on=q e.on)->∀b,Φ b i vs W->Φ b i q W) (r:C false w.drew)
 (H:cr P ops m C Le E Φ X (λ_ b W=>bM P ops Q (ops.toList.drop k) b W) 0 (ops.toList.take k) λ_=>a):(kt id ops true).wp P Q a w:=by
 have s:=Ro S;obtain⟨Z,hL⟩:=T;obtain⟨V,K,L⟩:=ny U Y (ops.toList.take k) 0 _ (λj d=>aS) H;have FH:0+(ops.toList.take k).length=k:=by simp;omega
 rw[FH]at K L;refine wp_region_any R ?_;have hd:cO ops (fO ops.size false)=[]:=by
  refine List.filter_eq_nil_iff.2 λi hi=>?_;have:=List.mem_range.1 hi;simp[this]
 have start:=Cj (P:=P) (a:=a) (Q:=Q) (m:=m) (C:=C) (X:=λi j u v=>E i=false->E j=false->X i j u v) (Φ:=λb i vs W=>(E i=true->vs i=V i)/\(∀o,ops[i]?=some o->∀e∈o.dz,E e.on=true->vs e.on=V e.on)/\(E i=false->Φ b i vs W)) s hL Z (λi j u v h d hi=>O _ _ _ _ (h hi d))
  (λi o g vs q W e1 e2 b h=>⟨λe=>e1▸h.1 e,λo' l e f n=>aS,λe=>x i o g vs q W e1 e2 b (h.2.2 e)⟩) (λi o g y vs W D z A r M B F sB hd hP=>?_) (λvs W z A r FL hP=>?_) ops.size (fO ops.size false) (λ_=>undef) w.drew ar (by
   rw[List.countP_eq_length.2]
   .simp
   .intro i hi;have:=List.mem_range.1 hi
    simp[this]) (by have e:(fO ops.size false).getD m false=false:=(by rw[fB,Array.getElem?_replicate];split<;>rfl);rw[e];exact r) (by rw[hd];intro i hi;cases hi) (by rw[hd];intro i hi;cases hi) (by rw[hd];intro i hi;cases hi) (λi _ hi=>by simp[hi])
 .rw[hd]at start;exact start
 .obtain⟨bj,g1,g2⟩:=K i o (f8 _) y g;have vz:∀k∈D,vR E V vs k=vs k:=λk c=>by
   unfold vR;grind
  have I:∀e∈o.dz,vR E V vs e.on=vs e.on:=λe f=>vz _ (M e f);have hb:=g1 (vR E V vs) a (λk _ f=>by simp[vR,f]) rfl;have t:∀k∈D,∀b W,Φ b k (vR E V vs) W↔Φ b k vs W:=λk c b W=>by
   have l:ops[k]?=some ops[k]!:=by simp[F k c]
   grind
  have:=g2 (vR E V vs) W D z A r M B sB (λk c n=>(t k c _ W).2 ((hd k c).2.2 n)) (λj d k c Wk J N=>aS);rw[hb]at this;refine nu ?_ (Nk s g I this);rintro v p⟨a1,a2,a3,a4,a5⟩;refine⟨a2,λk c=>⟨(hd k c).1,(hd k c).2.1,λn=>(t k c _ p).1 (a3 k c n)⟩,⟨λe=>by simp[upd,a1 e],λo' l e f n=>?_,λe=>?_⟩,λk c N hiE=>aS⟩
  .rw[g]at l;cases l;have:=(s.edge i o g e f).1;simp only[upd];grind
  refine x i o g _ _ p (by simp[upd]) (λe' Xo=>?_) _ (a4 e);have:=(s.edge i o g e' Xo).1;simp only[upd];grind
 .have hv:∀j,j<k->vR E V vs j=vs j:=λj d=>by
   unfold vR;grind
  rw[<-yA (vs:=vR E V vs) _ _ λj d=>hv j (List.mem_range.1 d)];refine L (vR E V vs) W a (λk _ f=>by simp[vR,f]) rfl z A r (λj d n=>?_) (λj k d c Wk J N=>aS);have l:ops[j]?=some ops[j]!:=aS;refine x j _ l vs _ W (hv j d).symm (λe f=>(hv e.on (by have:=(s.edge j _ l e f).1;omega)).symm) _ ((FL j d).2.2 n)
def iL(k:Nat){id:Nat}{w:ad}(m:Nat)(C:Bool->ad->Prop)(Le:ad->ad->Prop)(E:Nat->Bool)(Φ:Bool->Nat->(Nat->aT)->ad->Prop)(X:Nat->Nat->aT->aT->Prop)(f:∀i j u v,X i j u v->X j i v u)(g:P.follows lh=true)(h:Region.Ig ops=true)(l:Region.Kk ops k=true)
 (n:E m=false) (p:∀b i vs W d,Le W d->Φ b i vs W->Φ b i vs d) (q:∀(i:Nat)(o:bC),ops[i]?=some o->∀vs c W,vs i=c i->(∀e∈o.dz,vs e.on=c e.on)->∀b,Φ b i vs W->Φ b i c W) (r:C false w.drew)
 (H:cr P ops m C Le E Φ X (λ_ b W=>bM P ops Q (ops.toList.drop k) b W) 0 (ops.toList.take k) λ_=>a):(kt id ops true).wp P Q a w:=
 mA k m C Le E Φ X f g h (Kl l) n p q r H
section
variable {C:ad->Prop}{Φ:Nat->(Nat->aT)->ad->Prop}
def uH{E:Nat->Bool}{n:Nat}(p:∀i vs W f,Le W f->Φ i vs W->Φ i vs f):∀(l:List bC)(i:Nat)(b:(Nat->aT)->Act),i+l.length<=n->cL P ops C Le E Φ Q i l b->
 cr P ops n (λ_=>C) Le (λj=>E j&&decide (j<n)) (λ_=>Φ) (λ_ _ _ _=>True) Q i l b
 |[],i,b,_,h=>λvs W _ _ c hd _=>h vs W c λj q g=>hd j q (by simp[g])
 |o::l,i,b,hl,h=>by
  have hi:i<n:=by simp at hl;omega
  have s:i+1+l.length<=n:=by simp at hl;omega
  rw[cL]at h;rw[cr]
  cases g:E i with
  |true=>
   simp only[g,decide_eq_true hi,Bool.and_self]at h⊢;obtain⟨v,u,w⟩:=h;exact⟨v,λvs W _ c hd=>u vs W c λe r d=>hd e r (by simp[d]),uH p l _ _ s w⟩
  |false=>
   simp only[g,Bool.false_and]at h⊢;refine⟨λvs W D _ _ c x _ _ t _=>?_,uH p l _ _ s h.2⟩;exact nu (λv f k=>⟨k.1,λj q d=>p j vs W f k.2.1 (t j q d),k.2.2,λ_ _ _=>trivial⟩) (h.1 vs W c λe r d=>t e.on (x e r) (by simp[d]))
def mB(k:Nat){id:Nat}{w:ad}(C:ad->Prop)(Le:ad->ad->Prop)(E:Nat->Bool)(Φ:Nat->(Nat->aT)->ad->Prop)(g:P.follows lh=true)(h:Region.Ig ops=true)(l:k<=ops.size/\Late ops k)
 (d:∀i vs W f,Le W f->Φ i vs W->Φ i vs f) (n:∀(i:Nat)(o:bC),ops[i]?=some o->∀vs c W,vs i=c i->(∀e∈o.dz,vs e.on=c e.on)->Φ i vs W->Φ i c W) (p:C w.drew)
 (H:cL P ops C Le E Φ (λ_ b W=>bM P ops Q (ops.toList.drop k) b W) 0 (ops.toList.take k) λ_=>a):(kt id ops true).wp P Q a w:=
 mA k ops.size (λ_=>C) Le (λj=>E j&&decide (j<ops.size)) (λ_=>Φ) (λ_ _ _ _=>True) (λ_ _ _ _ _=>trivial) g h l ar (λ_=>d) (λi o q vs c W e1 r _=>n i o q vs c W e1 r) p
  (uH d _ _ _ (by simp;omega) H)
def cT(k:Nat){id:Nat}{w:ad}(C:ad->Prop)(Le:ad->ad->Prop)(E:Nat->Bool)(Φ:Nat->(Nat->aT)->ad->Prop)(f:P.follows lh=true)(g:Region.Ig ops=true)(h:Region.Kk ops k=true)
 (j:∀i vs W d,Le W d->Φ i vs W->Φ i vs d) (l:∀(i:Nat)(o:bC),ops[i]?=some o->∀vs c W,vs i=c i->(∀e∈o.dz,vs e.on=c e.on)->Φ i vs W->Φ i c W) (n:C w.drew)
 (H:cL P ops C Le E Φ (λ_ b W=>bM P ops Q (ops.toList.drop k) b W) 0 (ops.toList.take k) λ_=>a):(kt id ops true).wp P Q a w:=
 mB k C Le E Φ f g (Kl h) j l n H
def uI{E:Nat->Bool}{c:bL->Act->ad->Prop}(h:∀b W,Q lf b W->c lf b W):∀(l:List bC)(i:Nat)(b:(Nat->aT)->Act),cL P ops C Le E Φ Q i l b->cL P ops C Le E Φ c i l b
 |[],_,_,k=>λvs W e hd=>h _ _ (k vs W e hd)
 |o::l,i,b,k=>by
  rw[cL]at k ⊢
  cases d:E i with
  |true=>simp only[d]at k ⊢;obtain⟨v,f,g⟩:=k;exact⟨v,f,uI h l _ _ g⟩
  |false=>simp only[d]at k ⊢;exact⟨k.1,uI h l _ _ k.2⟩
def ig{id:Nat}{w:ad}(C:ad->Prop)(Le:ad->ad->Prop)(E:Nat->Bool)(Φ:Nat->(Nat->aT)->ad->Prop)(g:P.follows lh=true)(j:Region.Ig ops=true)
 (k:∀i vs W f,Le W f->Φ i vs W->Φ i vs f) (l:∀(i:Nat)(o:bC),ops[i]?=some o->∀vs d W,vs i=d i->(∀e∈o.dz,vs e.on=d e.on)->Φ i vs W->Φ i d W) (n:C w.drew)
 (H:cL P ops C Le E Φ Q 0 ops.toList λ_=>a):(kt id ops true).wp P Q a w:=by
 have no:∀{i:Nat}{o:bC},ops[i]?=some o->¬ops.size<=i:=λc=>Nat.not_le.2 (Array.getElem?_eq_some_iff.1 c).1;refine mB ops.size C Le E Φ g j ⟨f7 _,λi o c hi=>absurd hi (no c),λi o c hi=>absurd (Nat.le_of_lt hi) (no c)⟩ k l n ?_;rw[List.take_of_length_le ar];refine uI (λb W h=>?_) _ _ _ H;rw[List.drop_of_length_le ar];exact h
end
end
end Go
namespace Go.Proofs
open Go.RowKit
def yK{C:CD}{w:ad}{i:Nat}(h:C.At w)(hi:i<C.n4):C.b4=some ⟨C.k4,C.o4,none⟩/\w.cell? ⟨C.k4,C.o4+i*12,none⟩=some (jR (C.x4 i).name)/\w.cell? ⟨C.k4,C.o4+i*12+1,none⟩=some (jz kG ((C.x4 i).n 1))/\w.cell? ⟨C.k4,C.o4+i*12+2,none⟩=some (jz kG ((C.x4 i).n 2))/\w.cell? ⟨C.k4,C.o4+i*12+3,none⟩=some (jz kG ((C.x4 i).n 3))/\w.cell? ⟨C.k4,C.o4+i*12+4,none⟩=some (jz kG ((C.x4 i).n 4))/\w.cell? ⟨C.k4,C.o4+i*12+5,none⟩=some (jz kG ((C.x4 i).n 5))/\w.cell? ⟨C.k4,C.o4+i*12+6,none⟩=some (jz kG ((C.x4 i).n 6))/\w.cell? ⟨C.k4,C.o4+i*12+7,none⟩=some (jz kG ((C.x4 i).n 7))/\w.cell? ⟨C.k4,C.o4+i*12+8,none⟩=some (jz kG ((C.x4 i).n 8))/\w.cell? ⟨C.k4,C.o4+i*12+9,none⟩=some (jz kG ((C.x4 i).n 9))/\w.cell? ⟨C.k4,C.o4+i*12+10,none⟩=some (jz kG ((C.x4 i).n 10))/\w.cell? ⟨C.k4,C.o4+i*12+11,none⟩=some (jQ (C.x4 i).lb (C.x4 i).ln (C.x4 i).lc)/\C.k4<w.heap.size:=⟨h.s4 ab,h.AD i hi,h.dB i hi 1 ab ab,h.dB i hi 2 ab ab,h.dB i hi 3 ab ab,h.dB i hi 4 ab ab,h.dB i hi 5 ab ab,h.dB i hi 6 ab ab,h.dB i hi 7 ab ab,h.dB i hi 8 ab ab,h.dB i hi 9 ab ab,h.dB i hi 10 ab ab,h.nj i hi,h.h4⟩
def yL{W:ad}{r:Nat}{x y u v:aT}{t:ac}(h:W.heap[r]?=some (ld #[x,y] t)):((W.setCell ⟨r,0,none⟩ u).setCell ⟨r,1,none⟩ v).heap[r]?=some (ld #[u,v] t):=by
 simp only[jk,fP,if_pos,h,kp];rfl
def tv{W:ad}{r b:Nat}{u v:aT}(hb:b≠r):((W.setCell ⟨r,0,none⟩ u).setCell ⟨r,1,none⟩ v).heap[b]?=W.heap[b]?:=by
 simp only[jk,fP,if_neg (Ne.symm hb)]
def below_drewN{n:Nat}{w W:ad}(h:Below n w W):∀k,Below n w (W.drewN k):=λk=>by
 obtain⟨a,b,c,d,e⟩:=h;exact⟨a,b,c,d,e⟩
def yM:PL.stoodInHeld 56=false:=ae
def Co:PL.eqGuardType PL.depth 56=false:=ae
structure KB(C:CD)(w W:ad):Prop where
 box:W.heap[w.heap.size]?=some (ld C.val 27)
 low:bA w W
def KB.on{C:CD}{w W a:ad}(h:KB C w W)(b:bA W a):KB C w a:=
 ⟨(b.block _ (getElem?_lt' h.box)).trans h.box,Below.on h.low b⟩
def KB.alloc{C:CD}{w W:ad}(h:KB C w W)(o:Obj):KB C w (W.alloc o):=h.on ((fR _ _).alloc (f7 _) _)
def KB.lt{C:CD}{w W:ad}(h:KB C w W):w.heap.size<W.heap.size:=getElem?_lt' h.box
def CD.Mem.below{C:CD}{w w':ad}(h:C.Mem w)(a:bA w w'):C.Mem w':=by
 have s:=a.size;have e:∀o,w'.cell? ⟨C.k2,o,none⟩=w.cell? ⟨C.k2,o,none⟩:=λo=>a.cell (p:=⟨C.k2,o,none⟩) h.h2;have b:∀o,w'.cell? ⟨C.k3,o,none⟩=w.cell? ⟨C.k3,o,none⟩:=λo=>a.cell (p:=⟨C.k3,o,none⟩) h.h3;have c:∀o,w'.cell? ⟨C.k4,o,none⟩=w.cell? ⟨C.k4,o,none⟩:=λo=>a.cell (p:=⟨C.k4,o,none⟩) h.h4;have d:∀o,w'.cell? ⟨C.k5,o,none⟩=w.cell? ⟨C.k5,o,none⟩:=λo=>a.cell (p:=⟨C.k5,o,none⟩) h.h5;obtain⟨h2,h3,h4,h5,s2,s3,s4,s5,Ep,Er,Es,Et,Eu,AD,dB,nj,l4,J5,FI,HU,J6⟩:=h
 exact⟨ab,ab,ab,ab,s2,s3,s4,s5,λi hi=>(e _).trans (Ep i hi),λi hi=>(e _).trans (Er i hi),λi hi=>(b _).trans (Es i hi),λi hi=>(b _).trans (Et i hi),λi hi=>(b _).trans (Eu i hi),
  λi hi=>(c _).trans (AD i hi),λi hi j f h2=>(c _).trans (dB i hi j f h2),λi hi=>(c _).trans (nj i hi),λi hi hl=>⟨(l4 i hi hl).1,gg (l4 i hi hl).2 s⟩,
  λi hi j g=>(a.cell (p:=⟨(C.x4 i).lk,(C.x4 i).lo+j,none⟩) (l4 i hi ab).2).trans (J5 i hi j g),λi hi=>(d _).trans (FI i hi),λi hi=>(d _).trans (HU i hi),λi hi=>(d _).trans (J6 i hi)⟩
end Go.Proofs
