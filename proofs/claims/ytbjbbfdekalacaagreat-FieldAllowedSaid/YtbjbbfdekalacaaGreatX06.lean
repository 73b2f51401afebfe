/- Part of the proof of FieldAllowed. -/
import Derived.Test.YtbjbbfdekalacaaGreatX05
import Derived.BigQuiet
import Derived.Carry
import Derived.Deep.CutRange
import Derived.Deep.QuietTactic
import Derived.Deep.RegionHeld3
import Derived.Deep.RegionWith
import Derived.Deep.Slices
import Derived.Laws.RangeAny
import Derived.Lib.Hide
import Derived.LoopIn
import Derived.LoopNIn
import Derived.Maps.OwnOps
import Derived.Orders
import Derived.OwnWalk
import Derived.OwnWalkIn
import Derived.ProofKit
import Derived.RangeFuncBound
import Derived.RangeFuncCalls
import Derived.RangeFuncFrom
import Derived.RangeFuncLeaves
import Derived.RangeFuncNested
import Derived.Shelf.Abstract
import Derived.Shelf.RegionOpen
import Derived.Tactics
import Derived.Tactics2
import Derived.TacticsInMore
import Derived.WalkKit
import Derived.WalkLawsBesides
import Derived.WalkSpells
set_option linter.all false
open Go renaming Program->aa,TypeId->ac,World->ad,underlying->ag,sizeOf->aF,typeInfo->aI,zeroValue->aL,FuncId->aP,Value->aT,callFunc->bb,Calls->bd,Addr->bi,MapEntry->bm,Oper->bv,Exit->bC,wpList->bL,wpList_plain->bM,execOp->bR,bodyPost_ret->bT,results->b1,yielded->b8,execOp_congr->b9,callsIn_wide->ca,callsIn_of_wp_marks->cb,wp_region_noPanic->cc,wpIn_rangeFunc_ownF->cd,cell_kept->ce,frozen_kept->cf,ownFrom_below->ch,grownBy_putObj'->ci,run_takeDeferred->cl
open Go.Sem renaming run->co
open Go.Proofs.Tryz renaming progTables->ct,prog->cv,func10->cB,func13->cC,func48->cQ,func11->da,func14->db,func15->dd,func60->df,func6->dk,func34->dp,func35->dq,func74->dt,func75->du,func76->dv,func77->dC,func78->dL,func30->dO,func31->dQ,func32->dT,func33->dU,func36->d8,func37->d9,func38->ea,func59->eb,func39->ec,func49->ed,func104->eg,func105->eh,func106->ei,func107->ej,func58->ek,func122->el,func80->em,func81->ep,ntmps75->eq,funcs->et,ntmps107->eu,ntmps76->eA,ntmps78->eD,ntmps77->eE,ntmps36->eF,results36->eI,ntmps13->eM,ntmps58->eN,ntmps31->eP,ntmps33->eQ,ntmps32->eS,ntmps11->eT,ntmps10->eV,underlying39->eW,underlying88->e6,underlying84->e8,underlying82->e9,underlying27->fb,func61->fc,results14->fg,results15->fi
open Array renaming getElem?_setIfInBounds_ne->fl,getElem?_eq_none->fm,getElem?_eq_getElem->fo,getD_eq_getD_getElem?->fp,all_eq_true'->ft,replicate->fz,replicate_succ->fA,replicate_zero->fB,getElem?_modify->fJ
open Go.RowKit.Below renaming refl->fO,heap_alloc->fP,trans->fR
open Nat renaming le_refl->fY,zero_le->f6,not_lt_zero->f7,le_succ_of_le->f8,lt_trans->f9,lt_of_lt_of_le->gc,add_zero->ge,le_succ->gg,lt_irrefl->gj,add_assoc->gl,lt_or_ge->gp,strongRecOn->gr,reduceAdd->gt,reduceSub->gw
open List renaming range->gy,all_eq_false->gB,all_eq_true->gD,map_cons->gE,range_succ->gG,map_append->gL,mem_range->g4,getElem?_eq_getElem->g6,drop_eq_getElem_cons->g7,mem_cons_of_mem->g8,mem_cons_self->g9,mem_append_left->hh,cons_append->ht,range_add->hG,countP_congr->hH,countP_cons->hI,length_nil->hJ,length_append->hK,append_assoc->hM,size_toArray->hT,length_cons->hV,push_toArray->hY,append_toArray->hZ,nil_append->h6,foldl_append->h7,foldl_cons->h8,foldl_nil->ib
open Go.Lib renaming hid->ii
open Go.Frame renaming enter->ik
open Go.Instr renaming checkKey->il,findKey->im,sameNow->io,findNow->ip,findAsking->ix,lookup->iB,mapUpdate->iC,index->iN
open Go.MapKept renaming run_getObj_map->iP
open Go.World renaming cell?_of_block->iU,cell?->iY,frozen?->i3,cell?_setCell_other->i4,cell?_setCell_same'->i5,frozen?_setCell->i6,size_alloc->i7,setCell->i9
open Go.Result renaming andThen->jf,ok->jk
open Bool renaming and_eq_true->jl,rec->jn,not_false->jp,true_and->jr,not_eq_true'->js
open Go.Value renaming bool->jt,int->jw,agg->jx,slice->jz,string->jD,map->jQ,pointer->jR,tuple->jX,func->j3
open Int renaming mul_nonneg->j4,mul_add->j5,le_total->j6,neg_mul_neg->ka,mul_le_mul->kb,eq_ofNat_of_zero_le->kc
open Go.Addr renaming add->kd,block->ke
open Go.Deep renaming choose_lt->kf
open Go.Region renaming binds->kg,wanted->kh,ready->ki
open Option renaming map_some->kj,getD_some->km
open Go.Code renaming region->ko
open Go.KeepsOthers renaming setCell->kp
open Go.Next renaming enter->kq,value->kt,skip->kv
open Go.Ending renaming returned->kw
open Go.IntKind renaming i64->kx
open Go.CallKind renaming normal->ky
open Or renaming inl->kG,inr->kS
open Go.Obj renaming cells->kY
open Go.Exit renaming normal->la
open Go.Departure renaming mixedOrders->ld
set_option maxHeartbeats 4000000
set_option maxRecDepth 100000
namespace Go
def nO(P:aa)(n:ac)(w:ad):co P (ag n) w=match P.underlying n with|some i=>jk i w|none=>.halt (.stuck "no such type") w:=by
 cases h:P.underlying n<;>simp[ag,h]
section
variable {P Q:aa}
def yf(h:P.toTables=Q.toTables)(n:ac):P.info? n=Q.info? n:=by
 grind
def Cb(h:P.toTables=Q.toTables)(n:ac):P.underlying n=Q.underlying n:=by
 simp only[Program.underlying,yf h]
def yg(h:P.toTables=Q.toTables)(n:ac)(w:ad):co P (ag n) w=co Q (ag n) w:=by
 rw[nO,nO,Cb h]
def Hw(h:P.toTables=Q.toTables)(n:ac)(w:ad):co P (aF n) w=co Q (aF n) w:=by
 have e:=yf h n
 cases a:Q.info? n with
 |none=>rw[a]at e;simp[aF,aI,a,e]
 |some i=>rw[a]at e;simp[aF,aI,a,e]
def Na(h:P.toTables=Q.toTables)(n:ac)(w:ad):co P (isAgg n) w=co Q (isAgg n) w:=by
 have e:=Cb h n
 cases a:Q.underlying n with
 |none=>rw[a]at e;simp[isAgg,ag,a,e]
 |some d=>rw[a]at e;cases d<;>simp[isAgg,ag,a,e]
def QZ(h:P.toTables=Q.toTables)(n:ac)(w:ad):co P (aL n) w=co Q (aL n) w:=by
 have e:=yf h n
 cases a:Q.info? n with
 |none=>rw[a]at e;simp[aL,aI,a,e]
 |some i=>
  rw[a]at e;cases b:i.zero<;>simp[aL,aI,a,e,b]
end
end Go
namespace Go.Proofs
open Go.RowKit
abbrev bA(w W:ad):Prop:=Below w.heap.size w W
noncomputable def PL:aa:=⟨ct,cY.funcs⟩
def mo:PL.toTables=Tryz.prog.toTables:=rfl
def fx{n:Nat}{f:Func}(h:45≠n)(hf:Tryz.prog.funcs[n]?=some f):PL.funcs[n]?=some f:=by
 show(Tryz.funcs.setIfInBounds 45 nS)[n]?=_;rw[fl h];exact hf
@[simp] def PL.tables:PL.toTables=Tryz.prog.toTables:=rfl
@[simp] def PL.tY(n:ac):PL.underlying n=Tryz.prog.underlying n:=Cb mo n
@[simp] def PL.abF(n:ac)(w:ad):co PL (aF n) w=co cv (aF n) w:=Hw mo n w
@[simp] def PL.runUnderlying(n:ac)(w:ad):co PL (ag n) w=co cv (ag n) w:=yg mo n w
@[simp] def PL.afe(n:ac)(w:ad):co PL (isAgg n) w=co cv (isAgg n) w:=Na mo n w
@[simp] def PL.U4(n:ac)(w:ad):co PL (aL n) w=co cv (aL n) w:=QZ mo n w
end Go.Proofs
namespace Go
def JZ{P:aa}{n:aP}{fn:Func}(h:P.funcs[n]?=some fn)(a:(fn.name == "runtime.NumGoroutine")=false)(hb:fn.body.isNone=false)(args:Array aT)(w:ad):co P (bb n args) w=jk (kq n args) w:=by
 have b:fn.name≠ "runtime.NumGoroutine":=by simpa using a
 have c:fn.body≠none:=λe=>by rw[e]at hb;cases hb
 simp[bb,h,b,c]
end Go
namespace Go.Proofs
abbrev ax(n:aP):Prop:=∀(args:Array aT)(w:ad),co PL (bb n args) w=jk (kq n args) w
def pc{n:aP}{fn:Func}(h:Tryz.prog.funcs[n]?=some fn)(a:45≠n:=by decide)(b:(fn.name == "runtime.NumGoroutine")=false:=by decide +kernel)(hb:fn.body.isNone=false:=by rfl):ax n:=
 JZ (fx a h) b hb
def Cc:PL.funcs[45]?=some nS:=by
 have hl:45<Tryz.funcs.size:=(Array.getElem?_eq_some_iff.1 Tryz.func45).1;show(Tryz.funcs.setIfInBounds 45 nS)[45]?=_;grind
@[simp] def PL.call98(args:Array aT)(w:ad):co PL (bb 45 args) w=jk (kq 45 args) w:=JZ Cc (by decide +kernel) rfl args w
@[simp] def PL.call18:ax 10:=pc cB
@[simp] def PL.call19:ax 5:=pc Tryz.func5
@[simp] def PL.call20:ax 13:=pc cC
@[simp] def PL.call22:ax 48:=pc cQ
@[simp] def PL.call23:ax 11:=pc da
@[simp] def PL.call24:ax 14:=pc db
@[simp] def PL.call26:ax 15:=pc dd
@[simp] def PL.call28:ax 22:=pc Tryz.func22
@[simp] def PL.call30:ax 27:=pc Tryz.func27
@[simp] def PL.call31:ax 23:=pc Tryz.func23
@[simp] def PL.call33:ax 4:=pc Tryz.func4
@[simp] def PL.call34:ax 16:=pc Tryz.func16
@[simp] def PL.call36:ax 18:=pc Tryz.func18
@[simp] def PL.call37:ax 19:=pc Tryz.func19
@[simp] def PL.call38:ax 9:=pc Tryz.func9
@[simp] def PL.call39:ax 20:=pc Tryz.func20
@[simp] def PL.call40:ax 29:=pc Tryz.func29
@[simp] def PL.call45:ax 60:=pc df
@[simp] def PL.call52:ax 21:=pc Tryz.func21
@[simp] def PL.call56:ax 25:=pc Tryz.func25
@[simp] def PL.call58:ax 24:=pc Tryz.func24
@[simp] def PL.call59:ax 17:=pc Tryz.func17
@[simp] def PL.call65:ax 26:=pc Tryz.func26
@[simp] def PL.call74:ax 6:=pc dk
@[simp] def PL.call75:ax 7:=pc Tryz.func7
@[simp] def PL.call76:ax 8:=pc Tryz.func8
@[simp] def PL.call77:ax 12:=pc Tryz.func12
@[simp] def PL.call78:ax 34:=pc dp
@[simp] def PL.call79:ax 35:=pc dq
@[simp] def PL.call81:ax 74:=pc dt
@[simp] def PL.call82:ax 75:=pc du
@[simp] def PL.call83:ax 76:=pc dv
@[simp] def PL.call84:ax 77:=pc dC
@[simp] def PL.call85:ax 78:=pc dL
@[simp] def PL.call86:ax 30:=pc dO
@[simp] def PL.call87:ax 31:=pc dQ
@[simp] def PL.call88:ax 32:=pc dT
@[simp] def PL.call89:ax 33:=pc dU
@[simp] def PL.call90:ax 36:=pc d8
@[simp] def PL.call91:ax 37:=pc d9
@[simp] def PL.call92:ax 38:=pc ea
@[simp] def PL.call94:ax 59:=pc eb
@[simp] def PL.call96:ax 39:=pc ec
@[simp] def PL.call97:ax 44:=pc Tryz.func44
@[simp] def PL.call99:ax 46:=pc Tryz.func46
@[simp] def PL.call101:ax 53:=pc Tryz.func53
@[simp] def PL.call105:ax 55:=pc Tryz.func55
@[simp] def PL.call108:ax 40:=pc Tryz.func40
@[simp] def PL.call109:ax 41:=pc Tryz.func41
@[simp] def PL.call110:ax 42:=pc Tryz.func42
@[simp] def PL.call111:ax 47:=pc Tryz.func47
@[simp] def PL.call112:ax 49:=pc ed
@[simp] def PL.call113:ax 50:=pc Tryz.func50
@[simp] def PL.call114:ax 52:=pc Tryz.func52
@[simp] def PL.call115:ax 51:=pc Tryz.func51
@[simp] def PL.call118:ax 43:=pc Tryz.func43
@[simp] def PL.call127:ax 104:=pc eg
@[simp] def PL.call128:ax 79:=pc Tryz.func79
@[simp] def PL.call130:ax 28:=pc Tryz.func28
@[simp] def PL.call131:ax 105:=pc eh
@[simp] def PL.call132:ax 106:=pc ei
@[simp] def PL.call133:ax 107:=pc ej
@[simp] def PL.call134:ax 58:=pc ek
@[simp] def PL.call142:ax 73:=pc Tryz.func73
@[simp] def PL.call143:ax 62:=pc Tryz.func62
@[simp] def PL.call145:ax 64:=pc Tryz.func64
@[simp] def PL.call146:ax 71:=pc Tryz.func71
@[simp] def PL.call151:ax 108:=pc Tryz.func108
@[simp] def PL.call152:ax 109:=pc Tryz.func109
@[simp] def PL.call153:ax 110:=pc Tryz.func110
@[simp] def PL.call154:ax 111:=pc Tryz.func111
@[simp] def PL.call155:ax 56:=pc Tryz.func56
@[simp] def PL.call156:ax 57:=pc Tryz.func57
@[simp] def PL.call157:ax 122:=pc el
@[simp] def PL.call158:ax 80:=pc em
@[simp] def PL.call159:ax 81:=pc ep
@[simp] def PL.call180:ax 103:=pc Tryz.func103
@[simp] def PL.call181:ax 102:=pc Tryz.func102
@[simp] def PL.call191:ax 121:=pc Tryz.func121
@[simp] def PL.call199:ax 130:=pc Tryz.func130
open Go.RowKit
set_option maxHeartbeats 400000
def aO(v:aT)(w:ad)(e:Ending)(w':ad):Prop:=e=kw v/\bA w w'
def bO(n a b:Int):Bool:=decide (a<=n)&&decide (n<=b)
def bG(n a b:Int)(w:ad) :
 bd PL 34 #[jw kx n,jw kx a,jw kx b] w λe w'=>e=kw (jt (bO n a b))/\w'=w:=by
 go_enter (fx ao dp),Tryz.ntmps34;go_wp2
 all_goals (go_ret;simp[bO];try omega)
def o8(n:Int)(w:ad):bd PL 49 #[jw kx n] w λe w'=>e=kw (jt (bO n 0 12))/\w'=w:=by
 go_enter (fx ao ed),Tryz.ntmps49
 go_wp2_with (go_at_call 34;refine(bG _ _ _ _).mono ?_;rintro e w'⟨rfl,rfl⟩)
 go_ret;exact⟨rfl,rfl⟩
def eK(a b low c:Int):Bool:=decide (low<=a)&&decide (a<=b)&&decide (b<=c)
def nh(a b low c:Int)(w:ad) :
 bd PL 104 #[jx #[jw kx a,jw kx b],jw kx low,jw kx c] w (aO (jt (eK a b low c)) w):=by
 go_enter (fx ao eg),Tryz.ntmps104;go_wp2
 all_goals (go_ret;refine⟨?_,(fO _ _).alloc (fY _) _⟩;simp[eK];try omega)
def Ej(a b:Bool):Int:=if b then(if a then 0 else 2) else 1
def U5(a b:Bool)(w:ad):bd PL 39 #[jt a,jt b] w λe w'=>e=kw (jw kx (Ej a b))/\w'=w:=by
 cases a<;>cases b
 all_goals
  go_enter (fx ao ec),Tryz.ntmps39;go_wp2;go_ret;exact⟨rfl,rfl⟩
def fN{n a b:Int}(h:bO n a b=true)(w:ad):bd PL 34 #[jw kx n,jw kx a,jw kx b] w λe w'=>e=kw (jt true)/\w'=w:=by
 have:=bG n a b w;rwa[h]at this
def pZ{n a b:Int}(h:bO n a b=false)(w:ad):bd PL 34 #[jw kx n,jw kx a,jw kx b] w λe w'=>e=kw (jt false)/\w'=w:=by
 have:=bG n a b w;rwa[h]at this
def Ek{a b low c:Int}(h:eK a b low c=true)(w:ad):bd PL 104 #[jx #[jw kx a,jw kx b],jw kx low,jw kx c] w (aO (jt true) w):=by
 have:=nh a b low c w;rwa[h]at this
def El{a b low c:Int}(h:eK a b low c=false)(w:ad):bd PL 104 #[jx #[jw kx a,jw kx b],jw kx low,jw kx c] w (aO (jt false) w):=by
 have:=nh a b low c w;rwa[h]at this
def aV{b:Bool}(h:¬b=true):b=false:=by simpa using h
def pq(n:Nat)(x:Nat->Int×Int):Int:=if bO n 1 3 then(if(gy n).all λi=>eK (x i).1 (x i).2 0 90 then 0 else 1) else 2
def Nb(l p:Int)(b:Option bi)(k o n c:Nat)(x:Nat->Int×Int)(z A v5:aT)(w:ad)(E:n<=20)(s:k<w.heap.size)(hs:0<n->b=some ⟨k,o,none⟩)
 (t:∀i,i<n->w.cell? ⟨k,o+i*2,none⟩=some (jw kx (x i).1)) (u:∀i,i<n->w.cell? ⟨k,o+i*2+1,none⟩=some (jw kx (x i).2)) :
 bd PL 75 #[jx #[jw kx l,jw kx p,jz b n c,z,A,v5]] w (aO (jw kx (pq n x)) w):=by
 have B:=ii t;have C:=ii u;clear t u;by_cases hb:bO (↑n) 1 3=true
 .have D:0<n:=by simp[bO]at hb;omega
  obtain rfl:=hs D;have d:=ii hb;clear hb hs;go_enter (fx ao du),eq
  go_wp2_with (go_at_call 34;refine(fN d.out _).mono ?_;rintro e w'⟨rfl,rfl⟩)
  go_loopw [15] (λi wr=>∃m:Nat,m<=n/\i=jw kx m/\(∀j,j<m->eK (x j).1 (x j).2 0 90=true)/\bA w wr) (λi _=>n-(intOf i).toNat)
  case atStart=>exact⟨0,f6 _,rfl,λj f=>absurd f (f7 _),(fO _ _).alloc (fY _) _⟩
  case round=>
   obtain⟨m,F,rfl,v,a⟩:=hrel;have y:=ii v;clear v;by_cases q:m<n
   .have c0:=(a.cell (p:=⟨k,o+m*2,none⟩) s).trans (B.out m q);have c1:=(a.cell (p:=⟨k,o+m*2+1,none⟩) s).trans (C.out m q);by_cases hi:eK (x m).1 (x m).2 0 90=true
    .have g:=ii hi;clear hi
     go_wp2_with (go_at_call 104;refine(Ek g.out _).mono ?_;rintro e w1⟨rfl,r⟩)
     go_roundw
     case rel=>exact⟨m+1,q,by go_num,λj f=>by
      rcases Nat.lt_succ_iff_lt_or_eq.1 f with h|h
      .exact y.out j h
      .rw[h];exact g.out,(a.alloc a.size _).trans (r.mono (by simpa using f8 a.size))⟩
     case measure=>simp[intOf];omega
    .have g:=ii (aV hi);clear hi
     go_wp2_with (go_at_call 104;refine(El g.out _).mono ?_;rintro e w1⟨rfl,r⟩)
     go_ret;refine⟨?_,?_⟩
     .have:((gy n).all λi=>eK (x i).1 (x i).2 0 90)=false:=by
       rw[gB];exact⟨m,List.mem_range.2 q,by simp[g.out]⟩
      simp[pq,d.out,this]
     .exact(a.alloc a.size _).trans (r.mono (by simpa using f8 a.size))
   .go_wp2;go_ret;refine⟨?_,a⟩;have:((gy n).all λi=>eK (x i).1 (x i).2 0 90)=true:=by
     rw[gD];intro j f;exact y.out j (by have:=List.mem_range.1 f;omega)
    simp[pq,d.out,this]
 .have d:=ii (aV hb);clear hb;go_enter (fx ao du),eq
  go_wp2_with (go_at_call 34;refine(pZ d.out _).mono ?_;rintro e w'⟨rfl,rfl⟩)
  go_ret;exact⟨by simp[pq,d.out],(fO _ _).alloc (fY _) _⟩
open Go.bJ Go.Conc Go.ConcM
noncomputable abbrev PA:aa:=⟨ct,et⟩
def U6{f:aP}{fn:Func}{tr:Tmp}(hf:FF f=true)(k:XX f=false)(L:Tryz.progTables.inits.idxOf? f=none)(r:cY.funcs[f]?=some fn)(s:et[f]?=some fn)(O:fn.results=#[.tmp tr])
 {W:ad} (Q:Tryz.progTables.globals.size<=W.heap.size) (S:Calm W.tape) {g args:Array aT} (m:VA FF (ox W) g args)
 (law:∀w:ad,w.heap=(cV FF W).heap->bd PL f g w (aO (jt true) w)) :
 ∃M last o w' p,runNT PA (M+1) (solo (G (ik PA f args ky) []) W) #[]=(.ended o w',p)/\runN PA M (solo (G (ik PA f args ky) []) W)=.next last/\step PA last=.ended o w'/\
  Go.Conc.Good PA (λv a=>v=jt true/\bA W { a with os:=W.os }/\OsLater W.os a.os) last o w' p:=by
 let R:aT->ad->Prop:=λv w'=>v=jt true/\∀b,b<W.heap.size->w'.heap[b]?=(cV FF W).heap[b]?;have H:∀v w I d,R v w->R v (World.re w I d):=λv w I d h=>h;have i:WR Tryz.progTables.globals.size FF (codeOk ct FF ZZ) (ox W) (cV FF W) W:=wr0 Q rfl;have T:Term PC (lQ PC f R) (fH (ik PC f g ky) [aX PC]) (cV FF W):=by
  refine zD bV (ρ:=ox W) Yr i hf m (R:=R) H λU=>?_;refine(law ((cV FF W).re U 0) rfl).mono ?_;rintro e w'⟨rfl,V⟩;exact⟨rfl,λb hb=>V.block b (by show b<(cV FF W).heap.size;rw[mT];omega)⟩
 have c:iE ct cY.funcs FF ZZ (fH (ik PC f g ky) [aX PC]) (cV FF W):=
  ⟨ox W,fH (ik PC f args ky) [],W,⟨.alike (fe (bV.same f hf rfl) hf m),⟨[],rfl,.nil,(λx k=>by cases k;rfl),λ_=>fe (bV.same f hf rfl) hf m⟩,rfl,rfl,rfl,rfl,rfl,rfl⟩,Yr,i⟩
 have u:=Yp JN bV (R:=R) H L r s O (U2 f R) T c 0 _ _ (cV FF W).tape (cV FF W).drawn (.zero _ _);have u:kK ct cY.funcs et FF XX ZZ R (fH (ik PC f g ky) [aX PC]) (cV FF W):=u;have J:aQ ct FF ZZ cY.funcs et (ox W) (ik PC f g ky) (ik PA f args ky):=fe (JN.same f hf k) hf m;have y:GR ct cY.funcs et FF XX ZZ (aX PC) (ox W) (fH (ik PC f g ky) [aX PC]) (fH (ik PA f args ky) []):=
  ⟨.alike J,⟨[],rfl,.nil,(λx k=>by cases k;rfl),λ_=>J⟩,rfl,rfl,rfl,rfl,rfl,rfl⟩
 obtain⟨N,aJ,v,v',wl,j,z,g1,q,t1,q1,X,K,A,Y,Z,r5,r6,r7,r8,r9,l⟩:=u (ox W) (fH (ik PA f args ky) []) W #[fH (ik PA f args ky) []] none #[] (λ_=>0) (λ_=>False) c y Yr i
  ⟨rfl,leavers_one _ _,past_nil.mono (f6 _),λop aB=>by simp at aB⟩ ⟨λ_ h=>h.elim,λ_ h=>h.elim,λ_ h=>h.elim⟩ S
 obtain⟨rfl,C⟩:=r6;have Dm:=LV (w0:=cV FF W) rfl C r7 r8 r9 l;obtain rfl:v'=jt true:=by cases r5;rfl
 have Eb:∀d,(fun(v:aT)(a:ad)=>v=jt true/\bA W { a with os:=W.os }/\OsLater W.os a.os) (jt true) (j.at d):=λd=>
  ⟨rfl,⟨rfl,l.tape,l.output,l.size,Dm⟩,l.os⟩
 obtain⟨E,last,o,w',p,e1,e2,e3,e4⟩:=beside_ends (P:=PA) (Shun:=X) (B:=j.heap.size) (D:=λ_ _ _=>False) (Post:=λv a=>v=jt true/\bA W { a with os:=W.os }/\OsLater W.os a.os) (λ_ _ _ h=>h.elim) A.main A.old A.GA (n:=0) (w:=j) (sl:=q)
  (λai⟨d,e⟩=>by subst e;exact⟨Y,jt true,#[],Z d,(λe he=>by simp at he),Eb d⟩)
 refine⟨N+E,last,o,w',p,?_,?_,e3,e4⟩
 .show runNT PA (N+(E+1)) (crowd _ W none) #[]=_;have F:runNT PA N (crowd #[G (ik PA f args ky) []] W none) #[]=(.next (crowd z j q),t1):=K;rw[Go.runNT_add,F];exact e1
 .show runN PA (N+E) (crowd _ W none)=_;have F:runN PA N (crowd #[fH (ik PA f args ky) []] W none)=.next (crowd z j q):=by rw[<-runNT_fst (t:=#[]),K]
  have h2:runN PA N (crowd #[G (ik PA f args ky) []] W none)=.next (crowd z j q):=F;rw[runN_add,h2];exact e2
end Go.Proofs
namespace Go
open Instr Go.RowKit
section
variable {P:aa}{w:ad}
structure KeyLaw(P:aa)(tk:ac){α:Type}(enc:α->aT):Prop where
 check:∀b x w,(il b 10000 tk (enc x)).run P w=jk () w
 find:∀(es:List bm)(ks:List α)(x:α)(w:ad),es.map (·.key)=ks.map enc->∃r,(im tk (enc x) es).run P w=jk r w/\(x∈ks->∃i,∃e∈es,r=some (i,e.val))/\(x∉ks->r=none)
def vq{c:Type}{enc:c->aT}{d:TypeDesc}(h:∀x y,io d (enc x) (enc y)=some true/\x=y\/io d (enc x) (enc y)=some false/\x≠y)(x:c) :
 ∀(es:List bm)(a:List c)(i:Nat),es.map (·.key)=a.map enc->∃r,ip d (enc x) es i=some r/\(x∈a->∃j,∃e∈es,r=some (j,e.val))/\(x∉a->r=none):=by
 intro es
 induction es with
 |nil=>
  intro a i b
  cases a with
  |nil=>exact⟨none,rfl,λh=>absurd h ar,λ_=>rfl⟩
  |cons _ _=>simp at b
 |cons e es l=>
  intro a i b
  cases a with
  |nil=>simp at b
  |cons y a=>
   simp only[gE,List.cons.injEq]at b
   rcases h x y with⟨f,rfl⟩|⟨f,o⟩
   .exact⟨some (i,e.val),by simp[ip,b.1,f],λ_=>⟨i,e,ar,rfl⟩,λg=>absurd ar g⟩
   .obtain⟨r,m,p,n⟩:=l a (i+1) b.2;refine⟨r,by simp[ip,b.1,f,m],λk=>?_,λg=>n λk=>g (by simp[k])⟩;grind
def yj{c:Type}{enc:c->aT}{tk:ac}[DecidableEq c](h:∀x y(w:ad),(Op.equal tk (enc x) (enc y)).run P w=jk (decide (x=y)) w)(x:c) :
 ∀(es:List bm)(a:List c)(i:Nat)(w:ad),es.map (·.key)=a.map enc->∃r,(ix tk (enc x) es i).run P w=jk r w/\(x∈a->∃j,∃e∈es,r=some (j,e.val))/\(x∉a->r=none):=by
 intro es
 induction es with
 |nil=>
  intro a i w b
  cases a with
  |nil=>exact⟨none,rfl,λh=>absurd h ar,λ_=>rfl⟩
  |cons _ _=>simp at b
 |cons e es k=>
  intro a i w b
  cases a with
  |nil=>simp at b
  |cons y a=>
   simp only[gE,List.cons.injEq]at b;by_cases f:x=y
   .subst f;exact⟨some (i,e.val),by simp[ix,b.1,h],λ_=>⟨i,e,ar,rfl⟩,λd=>absurd ar d⟩
   .obtain⟨r,l,n,m⟩:=k a (i+1) w b.2;refine⟨r,by simp[ix,b.1,h,f,l],λg=>?_,λd=>m λg=>d (by simp[g])⟩;grind
def Hx{tk:ac}{k:IntKind}(a:P.underlying tk=some (.int k)):KeyLaw P tk (λn:Int=>jw k n) where
 check b x w:=by
  show(il b (9999+1) tk _).run P w=_;generalize 9999=n;simp[il,ag,a]
 find es c x w e:=by
  obtain⟨r,f,g,i⟩:=vq (enc:=λn:Int=>jw k n) (d:=.int k) (λx y=>by
   by_cases h:x=y
   .exact kG ⟨by simp[io,h],h⟩
   .exact kS ⟨by simp[io,h],h⟩) x es c 0 e
  exact⟨r,by simp[im,ag,a,f],g,i⟩
def bytes_beq(x y:ByteArray):(x==y)=decide (x=y):=by
 obtain⟨a⟩:=x;obtain⟨b⟩:=y;show(a==b)=_;grind
instance:LawfulBEq ByteArray where
 rfl:=by intro a;rw[bytes_beq];simp
 eq_of_beq:=by intro a b h;rw[bytes_beq]at h;simpa using h
def zP{tk:ac}(a:P.underlying tk=some .string):KeyLaw P tk (λs:ByteArray=>jD s) where
 check b x w:=by
  show(il b (9999+1) tk _).run P w=_;generalize 9999=n;simp[il,ag,a]
 find es c x w e:=by
  obtain⟨r,f,g,i⟩:=vq (enc:=λn:ByteArray=>jD n) (d:=.string) (λx y=>by
   by_cases h:x=y
   .exact kG ⟨by simp[io,bytes_beq,h],h⟩
   .exact kS ⟨by simp[io,bytes_beq,h],h⟩) x es c 0 e
  exact⟨r,by simp[im,ag,a,f],g,i⟩
def aU(w:ad){a:Type}(enc:a->aT)(b:Nat)(l:List a):Prop:=∃es clock,w.heap[b]?=some (.map es clock)/\es.toList.map (·.key)=l.map enc/\∀e∈es.toList,e.val=jt true
def aU.of_heap{a:Type}{enc:a->aT}{b:Nat}{l:List a}{w w':ad}(h:aU w enc b l)(e:w'.heap[b]?=w.heap[b]?):aU w' enc b l:=by
 obtain⟨es,c,d,f⟩:=h;exact⟨es,c,e.trans d,f⟩
def aU.lookup{a:Type}{enc:a->aT}{b:Nat}{l:List a}{t tk g:ac}[DecidableEq a](h:aU w enc b l)(K:KeyLaw P tk enc)(j:P.underlying t=some (.map tk g))(m:(aL g).run P w=jk (jt false) w)(x:a) :
 (iB t (jQ (some b)) (enc x) false).run P w=jk (jt (decide (x∈l))) w:=by
 obtain⟨es,c,k,n,o⟩:=h;obtain⟨r,f,p,q⟩:=K.find es.toList l x w n;by_cases d:x∈l
 .obtain⟨i,e,s,rfl⟩:=p d;simp[iB,ag,j,iP k,K.check,f,d,o e s]
 .rw[q d]at f;simp[iB,ag,j,iP k,K.check,f,d,m]
structure gv(w w':ad)(b:Nat):Prop where
 os:w'.os=w.os
 tape:w'.tape=w.tape
 output:w'.output=w.output
 size:w'.heap.size=w.heap.size
 block:∀c,c≠b->w'.heap[c]?=w.heap[c]?
def gv.below{w w':ad}{b B:Nat}(h:gv w w' b)(a:B<=b):Below B w w':=⟨h.os,h.tape,h.output,by rw[h.size];exact fY _,λk c=>h.block k ab⟩
def gv.cell{w w':ad}{b:Nat}(h:gv w w' b){a:bi}(c:a.block≠b):w'.cell? a=w.cell? a:=iU (w:=w) (h.block a.block c)
def aU.put{a:Type}{enc:a->aT}{b:Nat}{l:List a}{t tk i:ac}(h:aU w enc b l)(K:KeyLaw P tk enc)(j:P.underlying t=some (.map tk i)){x:a}(m:x∉l) :
 ∃w',(iC t (jQ (some b)) (enc x) (jt true)).run P w=jk () w'/\aU w' enc b (l++[x])/\gv w w' b:=by
 obtain⟨es,c,d,f,o⟩:=h;obtain⟨r,g,p,n⟩:=K.find es.toList l x w f;rw[n m]at g;have hb:b<w.heap.size:=(Array.getElem?_eq_some_iff.1 d).1;refine⟨{ w with heap:=w.heap.setIfInBounds b (.map (es.push { key:=enc x,val:=jt true,born:=c }) (c+1)) },?_,⟨es.push { key:=enc x,val:=jt true,born:=c },c+1,by simp[hb],by simp[f],λe q=>?_⟩,rfl,rfl,rfl,ar,λk s=>?_⟩
 .simp[iC,ag,j,iP d,K.check,g,MapKept.run_setObj_map _ d]
 .grind
 grind
def aU.made{a:Type}{enc:a->aT}(w:ad):aU (w.alloc (.map #[] 0)) enc w.heap.size ([]:List a):=⟨#[],0,by show(w.heap.push _)[w.heap.size]?=_;simp,rfl,λe b=>by simp at b⟩
def aR{P:aa}(w:ad){ops:Array bv}{rest:List bv}{o:bv}{a:Act}{Q:bC->Act->ad->Prop}{c:Type}[DecidableEq c]{enc:c->aT}
 (hg:o.guard=none) (m x:Operand) (t tk d:ac) (g:o.op=Op.lookup t m x false) (K:KeyLaw P tk enc) (i:P.underlying t=some (.map tk d)) (j:(aL d).run P w=jk (jt false) w)
 (b:Nat) (l:List c) (k:a.eval m=jQ (some b)) (h:aU w enc b l) (y:c) (n:a.eval x=enc y) (v:Bool) (hv:v=true↔y∈l) (p:bL P ops Q rest (a.put o.dst (jt v)) w):bL P ops Q (o::rest) a w:=by
 refine bM hg λq hK'=>?_;have f:=h.lookup K i j y;have e:decide (y∈l)=v:=by
  grind
 rw[e]at f;unfold Oper.wp;simp[bR,g,k,n,f,jf];exact hK' _ _ p
def dH{P:aa}(w:ad){ops:Array bv}{rest:List bv}{o:bv}{a:Act}{Q:bC->Act->ad->Prop}{c:Type}{enc:c->aT}
 (hg:o.guard=none) (m x v:Operand) (t tk d:ac) (e:o.op=Op.mapUpdate t m x v) (K:KeyLaw P tk enc) (f:P.underlying t=some (.map tk d))
 (b:Nat) (l:List c) (g:a.eval m=jQ (some b)) (h:aU w enc b l) (y:c) (i:a.eval x=enc y) (hv:a.eval v=jt true) (j:y∉l)
 (k:∀w',aU w' enc b (l++[y])->gv w w' b->bL P ops Q rest (a.put o.dst undef) w'):bL P ops Q (o::rest) a w:=by
 refine bM hg λr hK'=>?_;obtain⟨w',n,p,q⟩:=h.put K f j;unfold Oper.wp;simp[bR,e,g,i,hv,n,jf];exact hK' _ _ (k w' p q)
end
end Go
namespace Go.Proofs
open Go.Instr
def aaj:PL.underlying 3=some (.int kx):=bo
def al1:PL.underlying 9=some .string:=bo
def qz:KeyLaw PL 3 (λn:Int=>jw kx n):=Hx aaj
def aak:KeyLaw PL 9 (λs:ByteArray=>jD s):=zP al1
def jc(p:Int×Int):aT:=jx #[jw kx p.1,jw kx p.2]
def mq(w:ad):(aL 4).run PL w=jk (jt false) w:=bo
def ju:PL.underlying 110=some (.map 3 4):=bo
def Hy:PL.underlying 172=some (.map 9 4):=bo
def Hz:PL.underlying 167=some (.map 169 4):=bo
def Q0:PL.stoodInHeld 169=false:=ae
def Nc:(PL.fieldsOf 169).toList=[{ name:= "low",type:=3,offset:=0,embedded:=false,tag:= "",pkgPath:= "nock/field",byteOffset:=0 },{ name:= "high",type:=3,offset:=1,embedded:=false,tag:= "",pkgPath:= "nock/field",byteOffset:=8 }]:=ae
def Q1:PL.underlying 169=some (.struct (PL.fieldsOf 169)):=ae
def afg(x y:Int×Int)(w:ad):(Op.equal 169 (jc x) (jc y)).run PL w=jk (decide (x=y)) w:=by
 obtain⟨a,b⟩:=x;obtain⟨c,d⟩:=y;have e:=run_equalIn_struct (P:=PL) w 9999 169 #[jw kx a,jw kx b] #[jw kx c,jw kx d] Q1 Q0;show(Op.equalIn (9999+1) 169 _ _).run PL w=_;rw[show jc (a,b)=jx #[jw kx a,jw kx b] from rfl,show jc (c,d)=jx #[jw kx c,jw kx d] from rfl,e,Nc];have f:∀(m n:Int)(w:ad),(Op.equalIn 9999 3 (jw kx m) (jw kx n)).run PL w=jk (m==n) w:=λm n w=>run_equalIn_int w 9998 3 kx kx m n aaj;generalize 9999=N at f;by_cases g:a=c<;>by_cases h:b=d<;>simp[Op.eqFields,part,f,g,h]
def Q4(b:Bool)(x:Int×Int)(w:ad):(il b 10000 169 (jc x)).run PL w=jk () w:=by
 obtain⟨a,c⟩:=x;show(il b (9999+1) 169 (jx #[jw kx a,jw kx c])).run PL w=_;have d:∀(m:Int)(w:ad),(il b 9999 3 (jw kx m)).run PL w=jk () w:=λm w=>by
  show(il b (9998+1) 3 _).run PL w=_;generalize 9998=n;simp[il]
 generalize 9999=n at d;simp[il,part,d]
def HH:KeyLaw PL 169 jc where
 check:=Q4
 find es a x w b:=by
  cases es with
  |nil=>
   cases a with
   |nil=>exact⟨none,by simp[im,ip],λh=>absurd h ar,λ_=>rfl⟩
   |cons _ _=>simp at b
  |cons e es=>
   cases a with
   |nil=>simp at b
   |cons y a=>
    obtain⟨r,f,c,d⟩:=yj (P:=PL) (tk:=169) (enc:=jc) afg x (e::es) (y::a) 0 w b;have g:ip (TypeDesc.struct (PL.fieldsOf 169)) (jc x) (e::es) 0=none:=by
     simp[ip,io]
    have i:(ag 169).run PL w=jk (.struct (PL.fieldsOf 169)) w:=run_underlying Q1 w;refine⟨r,?_,c,d⟩;unfold im;simp_all
end Go.Proofs
namespace Go.Proofs
open Go.RowKit
set_option maxHeartbeats 400000
def jd(l p:Int):Int:=if bO l 1 999&&bO p 1 6 then 0 else 1
def Em(l p:Int)(a b c v5:aT)(w:ad) :
 bd PL 74 #[jx #[jw kx l,jw kx p,a,b,c,v5]] w (aO (jw kx (jd l p)) w):=by
 go_enter (fx ao dt),Tryz.ntmps74
 go_wp2_with (go_at_call 34;refine(bG _ _ _ _).mono ?_;rintro e w'⟨rfl,rfl⟩)
 all_goals
  go_ret;refine⟨?_,(fO _ _).alloc (fY _) _⟩;simp_all [jd]
def kQ(l p n:Int)(a b c v5:aT)(w:ad)(d:1<=p)(f:p<=6) :
 bd PL 105 #[jx #[jw kx l,jw kx p,a,b,c,v5],jw kx n] w (aO (jt (bO n 0 (p-1))) w):=by
 go_enter (fx ao eh),Tryz.ntmps105
 go_wp2_with (go_at_call 34;refine(bG _ _ _ _).mono ?_;rintro e w'⟨rfl,rfl⟩)
 go_ret;exact⟨rfl,(fO _ _).alloc (fY _) _⟩
def eB(a b:Int):Int×Int:=(min a b,max a b)
def yl(a b c:Int)(w:ad):bd PL 106 #[jx #[jw kx a,jw kx b,jw kx c]] w (aO (jc (eB a b)) w):=by
 go_enter (fx ao ei),Tryz.ntmps106;go_wp2
 all_goals
  refine bT (v:=jc (eB a b)) ?_ rfl ⟨rfl,((fO _ _).alloc (fY _) _).alloc ar _⟩;have e:eB a b=(min a b,max a b):=rfl;simp[b1,Tryz.results106,go_sem,jc,e];omega
def jv(s:ByteArray)(k:Nat):Nat:=if h:k<s.size then(s[k]'h).toNat else 0
def wA(c:Int)(k:Nat):Bool:=bO c 97 122||(!decide (k=0)&&bO c 48 57)
def ku(s:ByteArray):Bool:=((gy s.size).all λi=>wA (jv s i) i)&&bO s.size 1 12
def U7(w:ad)(s:ByteArray)(k:Nat)(h:k<s.size):∃c k':Nat,c<=2147483647/\k<k'/\wA c k=wA (jv s k) k/\(wA c k=true->k'=k+1)/\
 ∀ty,(Instr.next (jR (some ⟨w.heap.size,0,none⟩)) true ty).run PL (w.iter s k)=jk (jX #[jt true,jw kx k,jw .i32 c]) (w.iter s k'):=by
 have a:jv s k=(s[k]'h).toNat:=by simp[jv,h]
 by_cases d:(s[k]'h).toNat<128
 .exact⟨_,k+1,ab,ab,by rw[a],λ_=>rfl,λty=>run_next_ascii w s k ty h d⟩
 .have hd:=decode_high s k h ab;have g:∀n:Nat,128<=n->wA n k=false:=λn i=>by
   simp only[wA,bO];have e:¬((n:Int)<=122):=ab;have f:¬((n:Int)<=57):=ab;simp[e,f]
  refine⟨(Utf8.decode s k).1,k+(Utf8.decode s k).2,decode_le s k,ab,?_,λb=>?_,λty=>run_next_any w s k ty h⟩
  .rw[g _ hd.1,a,g _ ab]
  .rw[g _ hd.1]at b;cases b
def qd{s:ByteArray}{k:Nat}(a:k<s.size)(h:wA (jv s k) k=false):ku s=false:=by
 have:((gy s.size).all λi=>wA (jv s i) i)=false:=by
  rw[gB];exact⟨k,List.mem_range.2 a,by rw[h];simp⟩
 simp[ku,this]
def ym(s:ByteArray)(w:ad)(hs:s.size<=100):bd PL 122 #[jD s] w (aO (jt (ku s)) w):=by
 go_enter (fx ao el),Tryz.ntmps122;go_wp2
 go_loopw [2] (λv wr=>∃k:Nat,k<=s.size/\v=jt false/\wr=w.iter s k/\∀j,j<k->wA (jv s j) j=true) (λ_ wr=>s.size-wr.iterPos w.heap.size)
 case atStart=>exact⟨0,f6 _,rfl,rfl,λj a=>absurd a (f7 _)⟩
 case round=>
  obtain⟨k,r,rfl,rfl,o⟩:=hrel;have l:=ii o;clear o;by_cases b:k<s.size
  .obtain⟨c,k',hc,t,p,d,m⟩:=U7 w s k b;have f:=ii p;have q:=ii d;clear p d
   go_wp2_with (go_at_call 34;refine(bG _ _ _ _).mono ?_;rintro e w'⟨rfl,rfl⟩)
   .have hb:bO (↑c) 97 122=true:=ba;have hg:wA (↑c) k=true:=by simp[wA,hb]
    have zz:=q.out hg;clear m;subst zz
    exact⟨⟨k+1,b,rfl,rfl,λj a=>by
     rcases Nat.lt_succ_iff_lt_or_eq.1 a with h|h
     .exact l.out j h
     .rw[h,<-f.out];exact hg⟩,by simp;omega⟩
   .have hb:¬bO (↑c) 97 122=true:=ba;have g:k=0:=ba;have hg:wA (↑c) k=false:=by simp[wA,hb,g]
    go_ret;refine⟨?_,(fO _ _).alloc (fY _) _⟩;rw[qd b (by rw[<-f.out];exact hg)];rfl
   .have hb:¬bO (↑c) 97 122=true:=ba;have g:¬k=0:=ba;have n:((k:Int)==0)=true\/(!bO (↑c) 48 57)=true:=ba;have hg:wA (↑c) k=false:=by
     rcases n with h|h
     .simp at h;omega
     .simp at h;simp[wA,hb,h]
    go_ret;refine⟨?_,(fO _ _).alloc (fY _) _⟩;rw[qd b (by rw[<-f.out];exact hg)];rfl
   .have g:¬k=0:=ba;have hand:((k:Int)==0)=false/\(!bO (↑c) 48 57)=false:=ba;have hg:wA (↑c) k=true:=by
     have:=hand.2;simp at this;simp[wA,this,g]
    have zz:=q.out hg;clear m;subst zz
    exact⟨⟨k+1,b,rfl,rfl,λj a=>by
     rcases Nat.lt_succ_iff_lt_or_eq.1 a with h|h
     .exact l.out j h
     .rw[h,<-f.out];exact hg⟩,by simp;omega⟩
  .have m:=λty=>run_next_end (P:=PL) w s k ty b;obtain rfl:k=s.size:=ab
   go_wp2_with (go_at_call 34;refine(bG _ _ _ _).mono ?_;rintro e w'⟨rfl,rfl⟩)
   go_ret;refine⟨?_,(fO _ _).alloc (fY _) _⟩;have:((gy s.size).all λi=>wA (jv s i) i)=true:=by
    rw[gD];intro j a;exact l.out j (List.mem_range.1 a)
   simp[ku,this]
abbrev yo:ByteArray->aT:=λs=>jD s
abbrev agw:Int->aT:=λn=>jw kx n
structure nP(b:Nat)(w w':ad):Prop where
 os:w'.os=w.os
 tape:w'.tape=w.tape
 output:w'.output=w.output
 size:w.heap.size<=w'.heap.size
 block:∀c,c<w.heap.size->c≠b->w'.heap[c]?=w.heap[c]?
def nP.below{b B:Nat}{w w':ad}(h:nP b w w')(a:B<=b)(hs:B<=w.heap.size):Below B w w':=⟨h.os,h.tape,h.output,h.size,λk c=>h.block k ab ab⟩
def nP.En{b:Nat}{w w':ad}(h:bA w w'):nP b w w':=⟨h.os,h.tape,h.output,h.size,λc hc _=>h.block c hc⟩
def nP.then{b:Nat}{w w1 w2:ad}(h:bA w w1)(k:gv w1 w2 b):nP b w w2:=⟨k.os.trans h.os,k.tape.trans h.tape,k.output.trans h.output,by rw[k.size];exact h.size,λc hc hb=>(k.block c hb).trans (h.block c hc)⟩
def nP.cell{b:Nat}{w w':ad}(h:nP b w w'){a:bi}(c:a.block<w.heap.size)(hb:a.block≠b):w'.cell? a=w.cell? a:=iU (w:=w) (h.block a.block c hb)
def nP.Xm{b c:Nat}{w w':ad}(h:nP b w w'){a:Type}{enc:a->aT}{l:List a}(k:aU w enc c l)(hc:c≠b):aU w' enc c l:=by
 obtain⟨es,q,d,e⟩:=k;exact⟨es,q,(h.block c (Array.getElem?_eq_some_iff.1 d).1 hc).trans d,e⟩
def aG{c:Nat}{w w':ad}(h:bA w w'){a:Type}{enc:a->aT}{l:List a}(k:aU w enc c l):aU w' enc c l:=by
 obtain⟨es,q,b,d⟩:=k;exact⟨es,q,(h.block c (Array.getElem?_eq_some_iff.1 b).1).trans b,d⟩
def aU.lt{c:Nat}{w:ad}{a:Type}{enc:a->aT}{l:List a}(k:aU w enc c l):c<w.heap.size:=by
 obtain⟨es,q,b,d⟩:=k;exact(Array.getElem?_eq_some_iff.1 b).1
def iH(s:ByteArray)(l:List ByteArray):Int:=if ku s then(if s∈l then 5 else 0) else 4
def U8(b:Nat)(s:ByteArray)(l:List ByteArray)(w:ad)(e:Ending)(w':ad):Prop:=
 e=kw (jw kx (iH s l))/\nP b w w'/\aU w' yo b (if iH s l=0 then l++[s] else l)
def Eo{s:ByteArray}(h:ku s=true)(w:ad)(hs:s.size<=100):bd PL 122 #[jD s] w (aO (jt true) w):=by
 have:=ym s w hs;rwa[h]at this
def Q5{s:ByteArray}(h:ku s=false)(w:ad)(hs:s.size<=100):bd PL 122 #[jD s] w (aO (jt false) w):=by
 have:=ym s w hs;rwa[h]at this
def wB(b:Nat)(s:ByteArray)(l:List ByteArray)(w:ad)(h:aU w yo b l)(hs:s.size<=100):bd PL 107 #[jQ (some b),jD s] w (U8 b s l w):=by
 by_cases f:ku s=true
 .have c:=ii f;clear f;by_cases g:s∈l
  .have d:=ii g;clear g;go_enter (fx ao ej),eu
   go_wp2_with (first|(go_at_call 122;refine(Eo c.out _ hs).mono ?_;rintro e w1⟨rfl,a⟩)|(at_lookup;refine aR (enc:=yo) _ rfl _ _ 172 9 4 rfl aak Hy (mq _) b l rfl (aG a h) s rfl true (by simpa using d.out) ?_))
   go_ret;have e:iH s l=5:=by simp[iH,c.out,d.out]
   exact⟨by rw[e];rfl,.En a,by rw[e];exact aG a h⟩
  .have d:=ii g;clear g;go_enter (fx ao ej),eu
   go_wp2_with (first|(go_at_call 122;refine(Eo c.out _ hs).mono ?_;rintro e w1⟨rfl,a⟩)|(at_lookup;refine aR (enc:=yo) _ rfl _ _ 172 9 4 rfl aak Hy (mq _) b l rfl (aG a h) s rfl false (by simpa using d.out) ?_)|(at_mapUpdate;refine dH (enc:=yo) _ rfl _ _ _ 172 9 4 rfl aak Hy b l rfl (aG a h) s rfl rfl d.out ?_;intro w2 i j))
   go_ret;have e:iH s l=0:=by simp[iH,c.out,d.out]
   exact⟨by rw[e];rfl,.then a j,by rw[e];exact i⟩
 .have c:=ii (aV f);clear f;go_enter (fx ao ej),eu
  go_wp2_with (go_at_call 122;refine(Q5 c.out _ hs).mono ?_;rintro e w1⟨rfl,a⟩)
  go_ret;have e:iH s l=4:=by simp[iH,c.out]
  exact⟨by rw[e];rfl,.En a,by rw[e];exact aG a h⟩
set_option maxHeartbeats 1000000
def cW{W w1:ad}(hb:bA W w1):(∀b o,b<W.heap.size->w1.cell? ⟨b,o,none⟩=W.cell? ⟨b,o,none⟩)/\(∀b o,b<W.heap.size->w1.frozen? ⟨b,o,none⟩=W.frozen? ⟨b,o,none⟩):=
 ⟨λb o h=>hb.cell (p:=⟨b,o,none⟩) h,λb o h=>hb.frozen (p:=⟨b,o,none⟩) h⟩
theorem au(w:ad)(o:Obj):(w.alloc o).heap[w.heap.size]?=some o:=by
 show(w.heap.push _)[w.heap.size]?=_;simp
def bf{w:ad}{k:Nat}{x0 x1 x2 x3 x4 a:aT}{t:ac}(h:w.heap[k]?=some (kY #[x0,x1,x2,x3,x4,a] t)) :
 w.cell? ⟨k,0,none⟩=some x0/\w.cell? ⟨k,1,none⟩=some x1/\w.cell? ⟨k,2,none⟩=some x2/\w.cell? ⟨k,3,none⟩=some x3/\w.cell? ⟨k,4,none⟩=some x4/\w.cell? ⟨k,5,none⟩=some a:=by
 simp[iY,h]
def ia:Nat->(Nat->Int)->Int
 |0,_=>0
 |n+1,f=>if ia n f=0 then f n else ia n f
def cz{n:Nat}{f:Nat->Int}(h:∀j,j<n->f j=0):ia n f=0:=by
 induction n with
 |zero=>rfl
 |succ n a=>simp only[ia];rw[a λj b=>h j ab,if_pos rfl,h n ab]
def eG{n m:Nat}{f:Nat->Int}(h:∀j,j<m->f j=0)(b:m<n)(hf:f m≠0):ia n f=f m:=by
 induction n with
 |zero=>omega
 |succ n a=>
  simp only[ia];by_cases e:m=n
  .subst e;rw[cz h,if_pos rfl]
  .rw[a ab,if_neg hf]
def fQ(p:Int)(x:Nat->Int×Int×Int)(i:Nat):Int:=
 if bO (x i).1 0 (p-1)&&bO (x i).2.1 0 (p-1) then
  (if(x i).1=(x i).2.1 then 8 else if bO (x i).2.2 1 999 then(if eB (x i).1 (x i).2.1∈(gy i).map (λj=>eB (x j).1 (x j).2.1) then 5 else 0) else 1)
 else 6
def kz(p:Int)(n:Nat)(x:Nat->Int×Int×Int):Int:=if 9<n then 2 else ia n (fQ p x)
def Below.on{w W w1:ad}(h:bA w W)(k:bA W w1):bA w w1:=h.trans (k.mono h.size)
def dh{p:Int}{n m:Nat}{x:Nat->Int×Int×Int}{v:Int}(hb:¬9<n)(a:∀j,j<m->fQ p x j=0)(b:m<n)(hf:fQ p x m=v)(hv:v≠0):kz p n x=v:=by
 rw[kz,if_neg hb,eG a b (by rw[hf];exact hv),hf]
def aC{k:IntKind}{a b:Int}(h:b=a):Ending.returned (jw k a)=kw (jw k b):=by rw[h]
def Nf(l p:Int)(b:Option bi)(k o n c:Nat)(x:Nat->Int×Int×Int)(A B v5:aT)(w:ad)(Z:n<=20)(H:1<=p)(I:p<=6)(C:k<w.heap.size)(hs:0<n->b=some ⟨k,o,none⟩)
 (J:∀i,i<n->w.cell? ⟨k,o+i*3,none⟩=some (jw kx (x i).1)) (K:∀i,i<n->w.cell? ⟨k,o+i*3+1,none⟩=some (jw kx (x i).2.1)) (L:∀i,i<n->w.cell? ⟨k,o+i*3+2,none⟩=some (jw kx (x i).2.2)) :
 bd PL 76 #[jx #[jw kx l,jw kx p,A,jz b n c,B,v5]] w (aO (jw kx (kz p n x)) w):=by
 have R:=ii J;have S:=ii K;have T:=ii L;have U:=ii hs;clear J K L hs;by_cases hb:9<n
 .go_enter (fx ao dv),eA;go_wp2;go_ret;exact⟨by simp[kz,hb],(fO _ _).alloc (fY _) _⟩
 .have V:=@run_makeMap PL;go_enter (fx ao dv),eA;go_wp2
  go_loopw [16] (λi wr=>∃m:Nat,m<=n/\i=jw kx m/\(∀j,j<m->fQ p x j=0)/\aU wr jc (w.heap.size+1) ((gy m).map (λj=>eB (x j).1 (x j).2.1))/\wr.heap[w.heap.size]?=some (kY #[jw kx l,jw kx p,A,jz b n c,B,v5] 91)/\bA w wr) (λi _=>n-(intOf i).toNat)
  case atStart=>
   refine⟨0,f6 _,rfl,λj D=>absurd D (f7 _),?_,?_,?_⟩
   .have:=aU.made (enc:=jc) (w.alloc (kY #[jw kx l,jw kx p,A,jz b n c,B,v5] 91));simpa using this
   .rw[fP _ _ _ ar,au]
   .exact((fO _ _).alloc (fY _) _).alloc ar _
  case round=>
   obtain⟨m,hm,rfl,M,N,O,u⟩:=hrel;have r:=ii M;have P:=ii O;clear M O;by_cases d:m<n
   .obtain rfl:=U.out ab;have c0:=(u.cell (p:=⟨k,o+m*3,none⟩) C).trans (R.out m d);have c1:=(u.cell (p:=⟨k,o+m*3+1,none⟩) C).trans (S.out m d);have c2:=(u.cell (p:=⟨k,o+m*3+2,none⟩) C).trans (T.out m d);have W:=aU.lt N;have y:w.heap.size<wr.heap.size:=ab;obtain⟨d0,d1,d2,d3,d4,d5⟩:=bf P.out;have g:aU (wr.alloc (kY #[jw kx (x m).1,jw kx (x m).2.1,jw kx (x m).2.2] 88)) jc (w.heap.size+1) ((gy m).map (λj=>eB (x j).1 (x j).2.1)):=aU.of_heap N (fP _ _ _ W);have q:bA w (wr.alloc (kY #[jw kx (x m).1,jw kx (x m).2.1,jw kx (x m).2.2] 88)):=u.alloc u.size _;have f:wr.heap.size<(wr.alloc (kY #[jw kx (x m).1,jw kx (x m).2.1,jw kx (x m).2.2] 88)).heap.size:=ar;have s:=ii ((fP wr (kY #[jw kx (x m).1,jw kx (x m).2.1,jw kx (x m).2.2] 88) _ y).trans P.out);by_cases z:eB (x m).1 (x m).2.1∈(gy m).map (λj=>eB (x j).1 (x j).2.1)
    .have t:=ii z;clear z
     go_wp2_with (first|(go_at_call 105;refine(kQ _ _ _ _ _ _ _ _ H I).mono ?_;rintro e w1⟨rfl,a⟩;obtain⟨E,F⟩:=cW a;have g:=aG a g;have q:=Below.on q a;have s:=ii ((a.block _ (f9 y f)).trans s.out);have f:=gc f a.size)|(go_at_call 34;refine(bG _ _ _ _).mono ?_;rintro e w'⟨rfl,rfl⟩)|(go_at_call 106;refine(yl _ _ _ _).mono ?_;rintro e w1⟨rfl,a⟩;obtain⟨E,F⟩:=cW a;have g:=aG a g;have q:=Below.on q a;have s:=ii ((a.block _ (f9 y f)).trans s.out);have f:=gc f a.size)|(at_lookup;refine aR (enc:=jc) _ rfl _ _ 167 169 4 rfl HH Hz (mq _) (w.heap.size+1) _ rfl g (eB (x m).1 (x m).2.1) rfl true (by simpa using t.out) ?_))
     all_goals go_ret
     all_goals refine⟨?_,q⟩
     all_goals first
      |exact aC (dh (v:=6) hb r.out d (by simp_all [fQ]) ao)
      |exact aC (dh (v:=8) hb r.out d (by simp_all [fQ]) ao)
      |exact aC (dh (v:=1) hb r.out d (by simp_all [fQ]) ao)
      |exact aC (dh (v:=5) hb r.out d (by have:=t.out;simp_all [fQ]) ao)
    .have t:=ii z;clear z
     go_wp2_with (first|(go_at_call 105;refine(kQ _ _ _ _ _ _ _ _ H I).mono ?_;rintro e w1⟨rfl,a⟩;obtain⟨E,F⟩:=cW a;have g:=aG a g;have q:=Below.on q a;have s:=ii ((a.block _ (f9 y f)).trans s.out);have f:=gc f a.size)|(go_at_call 34;refine(bG _ _ _ _).mono ?_;rintro e w'⟨rfl,rfl⟩)|(go_at_call 106;refine(yl _ _ _ _).mono ?_;rintro e w1⟨rfl,a⟩;obtain⟨E,F⟩:=cW a;have g:=aG a g;have q:=Below.on q a;have s:=ii ((a.block _ (f9 y f)).trans s.out);have f:=gc f a.size)|(at_lookup;refine aR (enc:=jc) _ rfl _ _ 167 169 4 rfl HH Hz (mq _) (w.heap.size+1) _ rfl g (eB (x m).1 (x m).2.1) rfl false (by simpa using t.out) ?_)|(at_mapUpdate;refine dH (enc:=jc) _ rfl _ _ _ 167 169 4 rfl HH Hz (w.heap.size+1) _ rfl g (eB (x m).1 (x m).2.1) rfl rfl t.out ?_;intro w2 X Q))
     case roundEnd=>
      have Y:fQ p x m=0:=by have:=t.out;simp_all [fQ]
      refine⟨⟨m+1,d,by go_num,λj D=>?_,?_,(Q.block _ ab).trans s.out,fR q (Q.below ab)⟩,by simp[intOf];omega⟩
      .rcases Nat.lt_succ_iff_lt_or_eq.1 D with h|h
       .exact r.out j h
       .rw[h];exact Y
      .rw[gG,gL];exact X
     all_goals go_ret
     all_goals refine⟨?_,q⟩
     all_goals first
      |exact aC (dh (v:=6) hb r.out d (by simp_all [fQ]) ao)
      |exact aC (dh (v:=8) hb r.out d (by simp_all [fQ]) ao)
      |exact aC (dh (v:=1) hb r.out d (by simp_all [fQ]) ao)
      |exact aC (dh (v:=5) hb r.out d (by have:=t.out;simp_all [fQ]) ao)
   .obtain rfl:m=n:=ab;go_wp2;go_ret;exact⟨by simp[kz,hb,cz r.out],u⟩
def J2{b:Nat}{W w1:ad}(h:nP b W w1):(∀c o,c<W.heap.size->c≠b->w1.cell? ⟨c,o,none⟩=W.cell? ⟨c,o,none⟩)/\(∀c(o:Nat),c<W.heap.size->c≠b->w1.frozen? ⟨c,o,none⟩=W.frozen? ⟨c,o,none⟩):=
 ⟨λc o d e=>h.cell (a:=⟨c,o,none⟩) d e,λc o d e=>World.frozen?_of_block (w:=W) (h.block c d e)⟩
def iI(np:Nat)(x:Nat->ByteArray×Int×Int)(i:Nat):Int:=
 if iH (x i).1 ((gy i).map λj=>(x j).1)=0 then
  (if bO (x i).2.1 0 (np-1) then(if(x i).2.1∈(gy i).map (λj=>(x j).2.1) then 10 else if bO (x i).2.2 0 12 then 0 else 1) else 6)
 else iH (x i).1 ((gy i).map λj=>(x j).1)
def pE(np n:Nat)(x:Nat->ByteArray×Int×Int):Int:=if 3<n then 2 else ia n (iI np x)
def ic{np n m:Nat}{x:Nat->ByteArray×Int×Int}{v:Int}(hb:¬3<n)(a:∀j,j<m->iI np x j=0)(b:m<n)(hf:iI np x m=v)(hv:v≠0):pE np n x=v:=by
 rw[pE,if_neg hb,eG a b (by rw[hf];exact hv),hf]
def HQ(l p:Int)(b z:Option bi)(k o n c np A:Nat)(x:Nat->ByteArray×Int×Int)(B C:aT)(w:ad)(hn:n<=20)(MC:np<=20)(E:k<w.heap.size)(hs:0<n->b=some ⟨k,o,none⟩)(J:∀i,i<n->(x i).1.size<=100)
 (K:∀i,i<n->w.cell? ⟨k,o+i*3,none⟩=some (jD (x i).1)) (L:∀i,i<n->w.cell? ⟨k,o+i*3+1,none⟩=some (jw kx (x i).2.1)) (M:∀i,i<n->w.cell? ⟨k,o+i*3+2,none⟩=some (jw kx (x i).2.2)) :
 bd PL 78 #[jx #[jw kx l,jw kx p,B,C,jz z np A,jz b n c]] w (aO (jw kx (pE np n x)) w):=by
 have S:=ii K;have T:=ii L;have U:=ii M;have V:=ii hs;have W:=ii J;clear K L M hs J;by_cases hb:3<n
 .go_enter (fx ao dL),eD;go_wp2;go_ret;exact⟨by simp[pE,hb],(fO _ _).alloc (fY _) _⟩
 .have X:=@run_makeMap PL;go_enter (fx ao dL),eD;go_wp2
  go_loopw [19] (λi wr=>∃m:Nat,m<=n/\i=jw kx m/\(∀j,j<m->iI np x j=0)/\aU wr yo (w.heap.size+1) ((gy m).map (λj=>(x j).1))/\aU wr agw (w.heap.size+2) ((gy m).map (λj=>(x j).2.1))/\wr.heap[w.heap.size]?=some (kY #[jw kx l,jw kx p,B,C,jz z np A,jz b n c] 91)/\bA w wr) (λi _=>n-(intOf i).toNat)
  case atStart=>
   refine⟨0,f6 _,rfl,λj F=>absurd F (f7 _),?_,?_,?_,?_⟩
   .have:=aU.made (enc:=yo) (w.alloc (kY #[jw kx l,jw kx p,B,C,jz z np A,jz b n c] 91));exact aU.of_heap (by simpa using this) (fP _ _ _ ar)
   .have:=aU.made (enc:=agw) ((w.alloc (kY #[jw kx l,jw kx p,B,C,jz z np A,jz b n c] 91)).alloc (.map #[] 0));simpa using this
   .rw[fP _ _ _ (by simp;omega),fP _ _ _ ar,au]
   .exact(((fO _ _).alloc (fY _) _).alloc ar _).alloc (by simp;omega) _
  case round=>
   obtain⟨m,hm,rfl,N,Y,O,P,s⟩:=hrel;have g:=ii N;have Q:=ii P;clear N P;by_cases a:m<n
   .obtain rfl:=V.out ab;have c0:=(s.cell (p:=⟨k,o+m*3,none⟩) E).trans (S.out m a);have c1:=(s.cell (p:=⟨k,o+m*3+1,none⟩) E).trans (T.out m a);have c2:=(s.cell (p:=⟨k,o+m*3+2,none⟩) E).trans (U.out m a);have Z:=aU.lt O;have H:w.heap.size<wr.heap.size:=ab;have bu:wr.heap.size≠w.heap.size+1:=ab;obtain⟨d0,d1,d2,d3,d4,d5⟩:=bf Q.out;have t:aU (wr.alloc (kY #[jD (x m).1,jw kx (x m).2.1,jw kx (x m).2.2] 84)) yo (w.heap.size+1) ((gy m).map (λj=>(x j).1)):=aU.of_heap Y (fP _ _ _ ab);have r:aU (wr.alloc (kY #[jD (x m).1,jw kx (x m).2.1,jw kx (x m).2.2] 84)) agw (w.heap.size+2) ((gy m).map (λj=>(x j).2.1)):=aU.of_heap O (fP _ _ _ Z);have q:bA w (wr.alloc (kY #[jD (x m).1,jw kx (x m).2.1,jw kx (x m).2.2] 84)):=s.alloc s.size _;have u:wr.heap.size<(wr.alloc (kY #[jD (x m).1,jw kx (x m).2.1,jw kx (x m).2.2] 84)).heap.size:=ar;have y:=ii ((fP wr (kY #[jD (x m).1,jw kx (x m).2.1,jw kx (x m).2.2] 84) _ H).trans Q.out);have R:=W.out m a;by_cases D:(x m).2.1∈(gy m).map (λj=>(x j).2.1)
    .have d:=ii D;clear D
     go_wp2_with (first|(go_at_call 107;refine(wB (w.heap.size+1) _ _ _ t R).mono ?_;rintro e w1⟨rfl,f,t⟩;obtain⟨lp,lR⟩:=J2 f;have r:=f.Xm r ab;have q:=fR q (f.below ab q.size);have y:=ii ((f.block _ (f9 H u) ab).trans y.out);have u:=gc u f.size)|(go_at_call 34;refine(bG _ _ _ _).mono ?_;rintro e w'⟨rfl,rfl⟩)|(go_at_call 49;refine(o8 _ _).mono ?_;rintro e w'⟨rfl,rfl⟩)|(at_lookup;refine aR (enc:=agw) _ rfl _ _ 110 3 4 rfl qz ju (mq _) (w.heap.size+2) _ rfl r (x m).2.1 rfl true (by simpa using d.out) ?_))
     all_goals go_ret
     all_goals refine⟨?_,q⟩
     all_goals first
      |exact aC (ic (v:=iH (x m).1 ((gy m).map λj=>(x j).1)) hb g.out a (by have:=d.out;simp_all [iI]) bo)
      |exact aC (ic (v:=6) hb g.out a (by have:=d.out;simp_all [iI]) ao)
      |exact aC (ic (v:=10) hb g.out a (by have:=d.out;simp_all [iI]) ao)
      |exact aC (ic (v:=1) hb g.out a (by have:=d.out;simp_all [iI]) ao)
    .have d:=ii D;clear D
     go_wp2_with (first|(go_at_call 107;refine(wB (w.heap.size+1) _ _ _ t R).mono ?_;rintro e w1⟨rfl,f,t⟩;obtain⟨lp,lR⟩:=J2 f;have r:=f.Xm r ab;have q:=fR q (f.below ab q.size);have y:=ii ((f.block _ (f9 H u) ab).trans y.out);have u:=gc u f.size)|(go_at_call 34;refine(bG _ _ _ _).mono ?_;rintro e w'⟨rfl,rfl⟩)|(go_at_call 49;refine(o8 _ _).mono ?_;rintro e w'⟨rfl,rfl⟩)|(at_lookup;refine aR (enc:=agw) _ rfl _ _ 110 3 4 rfl qz ju (mq _) (w.heap.size+2) _ rfl r (x m).2.1 rfl false (by simpa using d.out) ?_)|(at_mapUpdate;refine dH (enc:=agw) _ rfl _ _ _ 110 3 4 rfl qz ju (w.heap.size+2) _ rfl r (x m).2.1 rfl rfl d.out ?_;intro w2 yp I))
     case roundEnd=>
      have e1:iH (x m).1 ((gy m).map λj=>(x j).1)=0:=bo;have e0:iI np x m=0:=by have:=d.out;simp_all [iI]
      rw[if_pos e1]at t;refine⟨⟨m+1,a,by go_num,λj F=>?_,?_,?_,(I.block _ ab).trans y.out,fR q (I.below ab)⟩,by simp[intOf];omega⟩
      .rcases Nat.lt_succ_iff_lt_or_eq.1 F with h|h
       .exact g.out j h
       .rw[h];exact e0
      .rw[gG,gL];exact aU.of_heap t (I.block _ ab)
      .rw[gG,gL];exact yp
     all_goals go_ret
     all_goals refine⟨?_,q⟩
     all_goals first
      |exact aC (ic (v:=iH (x m).1 ((gy m).map λj=>(x j).1)) hb g.out a (by have:=d.out;simp_all [iI]) bo)
      |exact aC (ic (v:=6) hb g.out a (by have:=d.out;simp_all [iI]) ao)
      |exact aC (ic (v:=10) hb g.out a (by have:=d.out;simp_all [iI]) ao)
      |exact aC (ic (v:=1) hb g.out a (by have:=d.out;simp_all [iI]) ao)
   .obtain rfl:m=n:=ab;go_wp2;go_ret;exact⟨by simp[pE,hb,cz g.out],s⟩
structure iJ where
 name:ByteArray
 n:Nat->Int
 lb:Option bi
 ln:Nat
 lc:Nat
 lk:Nat
 lo:Nat
 lane:Nat->Int
def fy(a:Nat)(lane:Nat->Int)(j:Nat):Int:=if bO (lane j) 0 (a-1) then(if 0<j/\lane j<=lane (j-1) then 7 else 0) else 6
def gM(p:Int)(a b:Nat)(x:Nat->iJ)(i:Nat):Int:=
 if iH (x i).name ((gy i).map λj=>(x j).name)=0 then
  (if eK ((x i).n 1) ((x i).n 2) 1 90&&eK ((x i).n 3) ((x i).n 4) (-90) 90 then
    (if(x i).n 1<(x i).n 4\/(x i).n 1 < -(x i).n 3 then 10 else
      if bO ((x i).n 5) 0 (a-1)&&bO ((x i).n 6) 0 (p-1) then
       (if eK ((x i).n 7) ((x i).n 8) 1 60&&eK ((x i).n 9) ((x i).n 10) 0 60 then ia (x i).ln (fy b (x i).lane) else 1)
      else 6)
  else 1)
 else iH (x i).name ((gy i).map λj=>(x j).name)
def kA(p:Int)(a b n:Nat)(x:Nat->iJ):Int:=if bO n 2 5 then ia n (gM p a b x) else 2
def dI{p:Int}{a b n m:Nat}{x:Nat->iJ}{v:Int}(hb:bO n 2 5=true)(c:∀j,j<m->gM p a b x j=0)(d:m<n)(hf:gM p a b x m=v)(hv:v≠0):kA p a b n x=v:=by
 rw[kA,if_pos hb,eG c d (by rw[hf];exact hv),hf]
def afi{w:ad}{k:Nat}{x0 x1 x2 x3 x4 b c d e f g a:aT}{t:ac}(h:w.heap[k]?=some (kY #[x0,x1,x2,x3,x4,b,c,d,e,f,g,a] t)):w.cell? ⟨k,11,none⟩=some a:=by
 simp[iY,h]
def Q7(l p:Int)(Z bq b:Option bi)(M r n cs cq c k o:Nat)(x:Nat->iJ)(v5:aT)(w:ad)(hn:n<=20)(Vb:M<=20)(Hr:r<=20)(J0:1<=p)(tL:p<=6)(F:k<w.heap.size)(hs:0<n->b=some ⟨k,o,none⟩)
 (uB:∀i,i<n->(x i).name.size<=100/\(x i).ln<=20) (h0:∀i,i<n->w.cell? ⟨k,o+i*12,none⟩=some (jD (x i).name)) (z:∀i,i<n->∀j,1<=j->j<=10->w.cell? ⟨k,o+i*12+j,none⟩=some (jw kx ((x i).n j)))
 (P:∀i,i<n->w.cell? ⟨k,o+i*12+11,none⟩=some (jz (x i).lb (x i).ln (x i).lc)) (hl:∀i,i<n->0<(x i).ln->(x i).lb=some ⟨(x i).lk,(x i).lo,none⟩/\(x i).lk<w.heap.size)
 (Q:∀i,i<n->∀j,j<(x i).ln->w.cell? ⟨(x i).lk,(x i).lo+j,none⟩=some (jw kx ((x i).lane j))) :
 bd PL 77 #[jx #[jw kx l,jw kx p,jz Z M cs,jz bq r cq,jz b n c,v5]] w (aO (jw kx (kA p M r n x)) w):=by
 have H0:=ii h0;have I:=ii z;have H11:=ii P;have HL:=ii hl;have HLC:=ii Q;have HS:=ii hs;have HN:=ii uB;clear h0 z P hl Q hs uB;by_cases hb:bO (↑n) 2 5=true
 .have y:=ii hb;clear hb;have hmm:=@run_makeMap PL;go_enter (fx ao dC),eE
  go_wp2_with (go_at_call 34;refine(fN y.out _).mono ?_;rintro e w'⟨rfl,rfl⟩)
  go_loopw [20] (λi wr=>∃m:Nat,m<=n/\i=jw kx m/\(∀j,j<m->gM p M r x j=0)/\aU wr yo (w.heap.size+1) ((gy m).map (λj=>(x j).name))/\wr.heap[w.heap.size]?=some (kY #[jw kx l,jw kx p,jz Z M cs,jz bq r cq,jz b n c,v5] 91)/\bA w wr) (λi _=>n-(intOf i).toNat)
  case atStart=>
   refine⟨0,f6 _,rfl,λj z=>absurd z (f7 _),?_,?_,?_⟩
   .have:=aU.made (enc:=yo) (w.alloc (kY #[jw kx l,jw kx p,jz Z M cs,jz bq r cq,jz b n c,v5] 91));simpa using this
   .rw[fP _ _ _ ar,au]
   .exact((fO _ _).alloc (fY _) _).alloc ar _
  case round=>
   obtain⟨m,hm,rfl,ha,hN,sW,D⟩:=hrel;have B:=ii ha;have HX:=ii sW;clear ha sW;by_cases d:m<n
   .obtain rfl:=HS.out ab;have c0:=(D.cell (p:=⟨k,o+m*12,none⟩) F).trans (H0.out m d);have c1:=(D.cell (p:=⟨k,o+m*12+1,none⟩) F).trans (I.out m d 1 ab ab);have c2:=(D.cell (p:=⟨k,o+m*12+2,none⟩) F).trans (I.out m d 2 ab ab);have c3:=(D.cell (p:=⟨k,o+m*12+3,none⟩) F).trans (I.out m d 3 ab ab);have c4:=(D.cell (p:=⟨k,o+m*12+4,none⟩) F).trans (I.out m d 4 ab ab);have c5:=(D.cell (p:=⟨k,o+m*12+5,none⟩) F).trans (I.out m d 5 ab ab);have c6:=(D.cell (p:=⟨k,o+m*12+6,none⟩) F).trans (I.out m d 6 ab ab);have c7:=(D.cell (p:=⟨k,o+m*12+7,none⟩) F).trans (I.out m d 7 ab ab);have c8:=(D.cell (p:=⟨k,o+m*12+8,none⟩) F).trans (I.out m d 8 ab ab);have c9:=(D.cell (p:=⟨k,o+m*12+9,none⟩) F).trans (I.out m d 9 ab ab);have c10:=(D.cell (p:=⟨k,o+m*12+10,none⟩) F).trans (I.out m d 10 ab ab);have c11:=(D.cell (p:=⟨k,o+m*12+11,none⟩) F).trans (H11.out m d);have fW:=aU.lt hN;have J:w.heap.size<wr.heap.size:=ab;have bu:wr.heap.size≠w.heap.size+1:=ab;obtain⟨d0,d1,d2,d3,d4,d5⟩:=bf HX.out;have s:aU (wr.alloc (kY #[jD (x m).name,jw kx ((x m).n 1),jw kx ((x m).n 2),jw kx ((x m).n 3),jw kx ((x m).n 4),jw kx ((x m).n 5),jw kx ((x m).n 6),jw kx ((x m).n 7),jw kx ((x m).n 8),jw kx ((x m).n 9),jw kx ((x m).n 10),jz (x m).lb (x m).ln (x m).lc] 82)) yo (w.heap.size+1) ((gy m).map (λj=>(x j).name)):=aU.of_heap hN (fP _ _ _ ab);have g:bA w (wr.alloc (kY #[jD (x m).name,jw kx ((x m).n 1),jw kx ((x m).n 2),jw kx ((x m).n 3),jw kx ((x m).n 4),jw kx ((x m).n 5),jw kx ((x m).n 6),jw kx ((x m).n 7),jw kx ((x m).n 8),jw kx ((x m).n 9),jw kx ((x m).n 10),jz (x m).lb (x m).ln (x m).lc] 82)):=D.alloc D.size _;have f:wr.heap.size<(wr.alloc (kY #[jD (x m).name,jw kx ((x m).n 1),jw kx ((x m).n 2),jw kx ((x m).n 3),jw kx ((x m).n 4),jw kx ((x m).n 5),jw kx ((x m).n 6),jw kx ((x m).n 7),jw kx ((x m).n 8),jw kx ((x m).n 9),jw kx ((x m).n 10),jz (x m).lb (x m).ln (x m).lc] 82)).heap.size:=ar
    have C:w.heap.size<(wr.alloc (kY #[jD (x m).name,jw kx ((x m).n 1),jw kx ((x m).n 2),jw kx ((x m).n 3),jw kx ((x m).n 4),jw kx ((x m).n 5),jw kx ((x m).n 6),jw kx ((x m).n 7),jw kx ((x m).n 8),jw kx ((x m).n 9),jw kx ((x m).n 10),jz (x m).lb (x m).ln (x m).lc] 82)).heap.size:=by simp;omega
    have u:=ii ((fP wr (kY #[jD (x m).name,jw kx ((x m).n 1),jw kx ((x m).n 2),jw kx ((x m).n 3),jw kx ((x m).n 4),jw kx ((x m).n 5),jw kx ((x m).n 6),jw kx ((x m).n 7),jw kx ((x m).n 8),jw kx ((x m).n 9),jw kx ((x m).n 10),jz (x m).lb (x m).ln (x m).lc] 82) _ J).trans HX.out);have A:=ii (au wr (kY #[jD (x m).name,jw kx ((x m).n 1),jw kx ((x m).n 2),jw kx ((x m).n 3),jw kx ((x m).n 4),jw kx ((x m).n 5),jw kx ((x m).n 6),jw kx ((x m).n 7),jw kx ((x m).n 8),jw kx ((x m).n 9),jw kx ((x m).n 10),jz (x m).lb (x m).ln (x m).lc] 82));have Va:=(HN.out m d).1;have Tl:=(HN.out m d).2;by_cases R:eK ((x m).n 3) ((x m).n 4) (-90) 90=true
    .have N:=ii R;have Q8 : -90<=(x m).n 3/\(x m).n 3<=90:=by
      simp only[eK,jl,decide_eq_true_eq]at R;omega
     obtain⟨Q8,hr4⟩:=Q8;clear R
     go_wp2_with (first|(go_at_call 107;refine(wB (w.heap.size+1) _ _ _ s Va).mono ?_;rintro e w1⟨rfl,E,s⟩;obtain⟨K,L⟩:=J2 E;have g:=fR g (E.below ab g.size);have u:=ii ((E.block _ (f9 J f) ab).trans u.out);have A:=ii ((E.block _ f ab).trans A.out);have f:=gc f E.size;have C:=gc C E.size)|(go_at_call 104;((with_reducible refine(Ek N.out _).mono ?_);rintro e w1⟨rfl,a⟩;obtain⟨K,L⟩:=cW a;have s:=aG a s;have g:=Below.on g a;have u:=ii ((a.block _ (f9 J f)).trans u.out);have A:=ii ((a.block _ f).trans A.out);have f:=gc f a.size;have C:=gc C a.size))|(go_at_call 104;refine(nh _ _ _ _ _).mono ?_;rintro e w1⟨rfl,a⟩;obtain⟨K,L⟩:=cW a;have s:=aG a s;have g:=Below.on g a;have u:=ii ((a.block _ (f9 J f)).trans u.out);have A:=ii ((a.block _ f).trans A.out);have f:=gc f a.size;have C:=gc C a.size)|(go_at_call 34;refine(bG _ _ _ _).mono ?_;rintro e w'⟨rfl,rfl⟩)|(go_at_call 105;refine(kQ _ _ _ _ _ _ _ _ J0 tL).mono ?_;rintro e w1⟨rfl,a⟩;obtain⟨K,L⟩:=cW a;have s:=aG a s;have g:=Below.on g a;have u:=ii ((a.block _ (f9 J f)).trans u.out);have A:=ii ((a.block _ f).trans A.out);have f:=gc f a.size;have C:=gc C a.size))
     any_goals (
      go_ret;refine⟨?_,g⟩;have hR:=N.out
      first
       |exact aC (dI (v:=iH (x m).name ((gy m).map λj=>(x j).name)) y.out B.out d (by simp_all [gM]) bo)
       |exact aC (dI (v:=1) y.out B.out d (by simp_all [gM]) ao)
       |exact aC (dI (v:=10) y.out B.out d (by simp_all [gM];try omega) ao)
       |exact aC (dI (v:=6) y.out B.out d (by simp_all [gM];try omega) ao)
       |exact aC (dI (v:=1) y.out B.out d (by simp_all [gM];try omega) ao))
     have e1:iH (x m).name ((gy m).map λj=>(x j).name)=0:=bo;have S:gM p M r x m=ia (x m).ln (fy r (x m).lane):=by
      have hR:=N.out;simp only[gM];rw[if_pos e1,if_pos bo,if_neg (by simp_all;try omega),if_pos bo,if_pos bo]
     rw[if_pos e1]at s;have T:=ii S;clear S e1;have J4:∀j,j<(x m).ln->w1.cell? ⟨(x m).lk,(x m).lo+j,none⟩=some (jw kx ((x m).lane j)):=λj z=>(g.cell (p:=⟨(x m).lk,(x m).lo+j,none⟩) (HL.out m d ab).2).trans (HLC.out m d j z);have U:=ii J4;clear J4;obtain⟨X,e1,e2,e3,e4,e5⟩:=bf u.out;have e11:=afi A.out;clear K L;generalize jt (decide ((x m).n 1<(x m).n 4)||decide ((x m).n 1 < -(x m).n 3))=s42;generalize jt (decide ((x m).n 1<(x m).n 4))=s49;generalize jt (decide ((x m).n 1 < -(x m).n 3))=s58;generalize jt (bO ((x m).n 6) 0 (p-1))=s74;generalize jt (!eK ((x m).n 9) ((x m).n 10) 0 60)=s77;generalize jt (eK ((x m).n 9) ((x m).n 10) 0 60)=s85;generalize jw kx (iH (x m).name ((gy m).map λj=>(x j).name))=s6;by_cases hl0:0<(x m).ln
     .have Y:=(HL.out m d hl0).1;rw[Y]at e11;rw[Y];have HLB:=ii Y;clear Y
      go_loop [91] (λi=>∃q:Nat,q<=(x m).ln/\i=jw kx q/\∀j,j<q->fy r (x m).lane j=0) (λi=>(x m).ln-(intOf i).toNat)
      case atStart=>exact⟨0,f6 _,rfl,λj z=>absurd z (f7 _)⟩
      case round=>
       obtain⟨q,hq,rfl,V⟩:=hrel;have H:=ii V;clear V;by_cases O:q<(x m).ln
       .have g0:=U.out q O;by_cases hq0:0<q
        .have g1:=U.out (q-1) ab
         go_wp2_with (go_at_call 34;refine(bG _ _ _ _).mono ?_;rintro e w'⟨rfl,rfl⟩)
         .go_ret;have W:fy r (x m).lane q=6:=by
           have t:(!bO ((x m).lane q) 0 (↑r-1))=true:=ba;simp only[fy];rw[if_neg (by simpa using t)]
          exact⟨aC (dI (v:=6) y.out B.out d (T.out.trans ((eG H.out O (by rw[W];decide)).trans W)) ao),g⟩
         .go_ret;have e7:fy r (x m).lane q=7:=by
           have t:(!bO ((x m).lane q) 0 (↑r-1))=false:=ba;have t2:(x m).lane q<=(x m).lane (q-1):=ba;simp only[fy];rw[if_pos (by simpa using t),if_pos ⟨hq0,t2⟩]
          exact⟨aC (dI (v:=7) y.out B.out d (T.out.trans ((eG H.out O (by rw[e7];decide)).trans e7)) ao),g⟩
         .have X:fy r (x m).lane q=0:=by
           have t:(!bO ((x m).lane q) 0 (↑r-1))=false:=ba;have t2:(x m).lane (q-1)<(x m).lane q:=ba;simp only[fy];rw[if_pos (by simpa using t),if_neg ab]
          refine⟨⟨q+1,O,by go_num,λj z=>?_⟩,by simp[intOf];omega⟩
          rcases Nat.lt_succ_iff_lt_or_eq.1 z with h|h
          .exact H.out j h
          .rw[h];exact X
        .obtain rfl:q=0:=ab;rw[ge]at g0
         go_wp2_with (go_at_call 34;refine(bG _ _ _ _).mono ?_;rintro e w'⟨rfl,rfl⟩)
         .go_ret;have W:fy r (x m).lane 0=6:=by
           have t:(!bO ((x m).lane 0) 0 (↑r-1))=true:=ba;simp only[fy];rw[if_neg (by simpa using t)]
          exact⟨aC (dI (v:=6) y.out B.out d (T.out.trans ((eG H.out O (by rw[W];decide)).trans W)) ao),g⟩
         .have X:fy r (x m).lane 0=0:=by
           have t:(!bO ((x m).lane 0) 0 (↑r-1))=false:=ba;simp only[fy];rw[if_pos (by simpa using t),if_neg ab]
          refine⟨⟨1,O,by go_num,λj z=>?_⟩,by simp[intOf];omega⟩;obtain rfl:j=0:=ab;exact X
       .obtain rfl:q=(x m).ln:=ab;go_wp2;refine⟨⟨m+1,d,by go_num,λj z=>?_,?_,u.out,g⟩,by simp[intOf];omega⟩
        .rcases Nat.lt_succ_iff_lt_or_eq.1 z with h|h
         .exact B.out j h
         .rw[h,T.out];exact cz H.out
        .rw[gG,gL];exact s
     .go_loop [91] (λi=>i=jw kx 0) (λi=>1)
      case atStart=>rfl
      case round=>
       obtain rfl:=hrel;have hz:((x m).ln:Int)<=0:=ab;go_wp2;refine⟨⟨m+1,d,by go_num,λj z=>?_,?_,u.out,g⟩,by simp[intOf];omega⟩
       .rcases Nat.lt_succ_iff_lt_or_eq.1 z with h|h
        .exact B.out j h
        .rw[h,T.out];exact cz λj z=>absurd z ab
       .rw[gG,gL];exact s
    .have N:=ii (aV R);clear R
     go_wp2_with (first|(go_at_call 107;refine(wB (w.heap.size+1) _ _ _ s Va).mono ?_;rintro e w1⟨rfl,E,s⟩;obtain⟨K,L⟩:=J2 E;have g:=fR g (E.below ab g.size);have u:=ii ((E.block _ (f9 J f) ab).trans u.out);have A:=ii ((E.block _ f ab).trans A.out);have f:=gc f E.size;have C:=gc C E.size)|(go_at_call 104;((with_reducible refine(El N.out _).mono ?_);rintro e w1⟨rfl,a⟩;obtain⟨K,L⟩:=cW a;have s:=aG a s;have g:=Below.on g a;have u:=ii ((a.block _ (f9 J f)).trans u.out);have A:=ii ((a.block _ f).trans A.out);have f:=gc f a.size;have C:=gc C a.size))|(go_at_call 104;refine(nh _ _ _ _ _).mono ?_;rintro e w1⟨rfl,a⟩;obtain⟨K,L⟩:=cW a;have s:=aG a s;have g:=Below.on g a;have u:=ii ((a.block _ (f9 J f)).trans u.out);have A:=ii ((a.block _ f).trans A.out);have f:=gc f a.size;have C:=gc C a.size)|(go_at_call 34;refine(bG _ _ _ _).mono ?_;rintro e w'⟨rfl,rfl⟩)|(go_at_call 105;refine(kQ _ _ _ _ _ _ _ _ J0 tL).mono ?_;rintro e w1⟨rfl,a⟩;obtain⟨K,L⟩:=cW a;have s:=aG a s;have g:=Below.on g a;have u:=ii ((a.block _ (f9 J f)).trans u.out);have A:=ii ((a.block _ f).trans A.out);have f:=gc f a.size;have C:=gc C a.size))
     any_goals (
      go_ret;refine⟨?_,g⟩;have hR:=N.out
      first
       |exact aC (dI (v:=iH (x m).name ((gy m).map λj=>(x j).name)) y.out B.out d (by simp_all [gM]) bo)
       |exact aC (dI (v:=1) y.out B.out d (by simp_all [gM]) ao)
       |exact aC (dI (v:=10) y.out B.out d (by simp_all [gM];try omega) ao)
       |exact aC (dI (v:=6) y.out B.out d (by simp_all [gM];try omega) ao)
       |exact aC (dI (v:=1) y.out B.out d (by simp_all [gM];try omega) ao))
   .obtain rfl:m=n:=ab;go_wp2;go_ret;exact⟨by simp[kA,y.out,cz B.out],D⟩
 .have y:=ii (aV hb);clear hb;go_enter (fx ao dC),eE
  go_wp2_with (go_at_call 34;refine(pZ y.out _).mono ?_;rintro e w'⟨rfl,rfl⟩)
  go_ret;exact⟨by simp[kA,y.out],(fO _ _).alloc (fY _) _⟩
structure CD where
 l:Int
 p:Int
 b2:Option bi
 k2:Nat
 o2:Nat
 n2:Nat
 c2:Nat
 x2:Nat->Int×Int
 b3:Option bi
 k3:Nat
 o3:Nat
 n3:Nat
 c3:Nat
 x3:Nat->Int×Int×Int
 b4:Option bi
 k4:Nat
 o4:Nat
 n4:Nat
 c4:Nat
 x4:Nat->iJ
 b5:Option bi
 k5:Nat
 o5:Nat
 n5:Nat
 c5:Nat
 x5:Nat->ByteArray×Int×Int
abbrev CD.val(C:CD):Array aT:=#[jw kx C.l,jw kx C.p,jz C.b2 C.n2 C.c2,jz C.b3 C.n3 C.c3,jz C.b4 C.n4 C.c4,jz C.b5 C.n5 C.c5]
structure CD.At(C:CD)(w:ad):Prop where
 m2:C.n2<=20
 m3:C.n3<=20
 m4:C.n4<=20
 m5:C.n5<=20
 h2:C.k2<w.heap.size
 h3:C.k3<w.heap.size
 h4:C.k4<w.heap.size
 h5:C.k5<w.heap.size
 s2:0<C.n2->C.b2=some ⟨C.k2,C.o2,none⟩
 s3:0<C.n3->C.b3=some ⟨C.k3,C.o3,none⟩
 s4:0<C.n4->C.b4=some ⟨C.k4,C.o4,none⟩
 s5:0<C.n5->C.b5=some ⟨C.k5,C.o5,none⟩
 Ep:∀i,i<C.n2->w.cell? ⟨C.k2,C.o2+i*2,none⟩=some (jw kx (C.x2 i).1)
 Er:∀i,i<C.n2->w.cell? ⟨C.k2,C.o2+i*2+1,none⟩=some (jw kx (C.x2 i).2)
 Es:∀i,i<C.n3->w.cell? ⟨C.k3,C.o3+i*3,none⟩=some (jw kx (C.x3 i).1)
 Et:∀i,i<C.n3->w.cell? ⟨C.k3,C.o3+i*3+1,none⟩=some (jw kx (C.x3 i).2.1)
 Eu:∀i,i<C.n3->w.cell? ⟨C.k3,C.o3+i*3+2,none⟩=some (jw kx (C.x3 i).2.2)
 cu:∀i,i<C.n4->(C.x4 i).name.size<=100/\(C.x4 i).ln<=20
 AD:∀i,i<C.n4->w.cell? ⟨C.k4,C.o4+i*12,none⟩=some (jD (C.x4 i).name)
 dB:∀i,i<C.n4->∀j,1<=j->j<=10->w.cell? ⟨C.k4,C.o4+i*12+j,none⟩=some (jw kx ((C.x4 i).n j))
 nj:∀i,i<C.n4->w.cell? ⟨C.k4,C.o4+i*12+11,none⟩=some (jz (C.x4 i).lb (C.x4 i).ln (C.x4 i).lc)
 l4:∀i,i<C.n4->0<(C.x4 i).ln->(C.x4 i).lb=some ⟨(C.x4 i).lk,(C.x4 i).lo,none⟩/\(C.x4 i).lk<w.heap.size
 J5:∀i,i<C.n4->∀j,j<(C.x4 i).ln->w.cell? ⟨(C.x4 i).lk,(C.x4 i).lo+j,none⟩=some (jw kx ((C.x4 i).lane j))
 nm5:∀i,i<C.n5->(C.x5 i).1.size<=100
 FI:∀i,i<C.n5->w.cell? ⟨C.k5,C.o5+i*3,none⟩=some (jD (C.x5 i).1)
 HU:∀i,i<C.n5->w.cell? ⟨C.k5,C.o5+i*3+1,none⟩=some (jw kx (C.x5 i).2.1)
 J6:∀i,i<C.n5->w.cell? ⟨C.k5,C.o5+i*3+2,none⟩=some (jw kx (C.x5 i).2.2)
def CD.At.below{C:CD}{w w':ad}(h:C.At w)(a:bA w w'):C.At w':=by
 have s:=a.size;have e:∀o,w'.cell? ⟨C.k2,o,none⟩=w.cell? ⟨C.k2,o,none⟩:=λo=>a.cell (p:=⟨C.k2,o,none⟩) h.h2;have b:∀o,w'.cell? ⟨C.k3,o,none⟩=w.cell? ⟨C.k3,o,none⟩:=λo=>a.cell (p:=⟨C.k3,o,none⟩) h.h3;have c:∀o,w'.cell? ⟨C.k4,o,none⟩=w.cell? ⟨C.k4,o,none⟩:=λo=>a.cell (p:=⟨C.k4,o,none⟩) h.h4;have d:∀o,w'.cell? ⟨C.k5,o,none⟩=w.cell? ⟨C.k5,o,none⟩:=λo=>a.cell (p:=⟨C.k5,o,none⟩) h.h5;have k:=h;obtain⟨m2,m3,m4,m5,h2,h3,h4,h5,s2,s3,s4,s5,Ep,Er,Es,Et,Eu,cu,AD,dB,nj,l4,J5,nm5,FI,HU,J6⟩:=h
 exact⟨m2,m3,m4,m5,ab,ab,ab,ab,s2,s3,s4,s5,λi hi=>(e _).trans (Ep i hi),λi hi=>(e _).trans (Er i hi),λi hi=>(b _).trans (Es i hi),λi hi=>(b _).trans (Et i hi),λi hi=>(b _).trans (Eu i hi),cu,
  λi hi=>(c _).trans (AD i hi),λi hi j f h2=>(c _).trans (dB i hi j f h2),λi hi=>(c _).trans (nj i hi),λi hi hl=>⟨(l4 i hi hl).1,gc (l4 i hi hl).2 s⟩,
  λi hi j g=>(a.cell (p:=⟨(C.x4 i).lk,(C.x4 i).lo+j,none⟩) (l4 i hi ab).2).trans (J5 i hi j g),nm5,λi hi=>(d _).trans (FI i hi),λi hi=>(d _).trans (HU i hi),λi hi=>(d _).trans (J6 i hi)⟩
def CD.dP(C:CD):Nat->Int
 |0=>jd C.l C.p
 |1=>pq C.n2 C.x2
 |2=>kz C.p C.n3 C.x3
 |3=>kA C.p C.n2 C.n3 C.n4 C.x4
 |_=>pE C.n4 C.n5 C.x5
def CD.cx(C:CD):Int:=ia 5 C.dP
def cK{l p:Int}(h:jd l p=0):1<=p/\p<=6:=by
 unfold jd at h;split at h
 .rename_i a;simp[bO]at a;omega
 .cases h
def afm(C:CD)(w:ad):bd PL 74 #[jx C.val] w (aO (jw kx (C.dP 0)) w):=Em _ _ _ _ _ _ _
def afn(C:CD)(w:ad)(h:C.At w):bd PL 75 #[jx C.val] w (aO (jw kx (C.dP 1)) w):=Nb _ _ _ _ _ _ _ _ _ _ _ _ h.m2 h.h2 h.s2 h.Ep h.Er
def afo(C:CD)(w:ad)(h:C.At w)(a:C.dP 0=0):bd PL 76 #[jx C.val] w (aO (jw kx (C.dP 2)) w):=
 Nf _ _ _ _ _ _ _ _ _ _ _ _ h.m3 (cK a).1 (cK a).2 h.h3 h.s3 h.Es h.Et h.Eu
def afp(C:CD)(w:ad)(h:C.At w)(a:C.dP 0=0):bd PL 77 #[jx C.val] w (aO (jw kx (C.dP 3)) w):=
 Q7 _ _ _ _ _ _ _ _ _ _ _ _ _ _ _ _ h.m4 h.m2 h.m3 (cK a).1 (cK a).2 h.h4 h.s4 h.cu h.AD h.dB h.nj h.l4 h.J5
def afq(C:CD)(w:ad)(h:C.At w):bd PL 78 #[jx C.val] w (aO (jw kx (C.dP 4)) w):=
 HQ _ _ _ _ _ _ _ _ _ _ _ _ _ _ h.m5 h.m4 h.h5 h.s5 h.nm5 h.FI h.HU h.J6
def yq(x0 x1 x2 x3 x4:aT)(w:ad):(iN 146 (jx #[x0,x1,x2,x3,x4]) (jw kx 0)).run PL w=jk x0 w/\(iN 146 (jx #[x0,x1,x2,x3,x4]) (jw kx 1)).run PL w=jk x1 w/\(iN 146 (jx #[x0,x1,x2,x3,x4]) (jw kx 2)).run PL w=jk x2 w/\(iN 146 (jx #[x0,x1,x2,x3,x4]) (jw kx 3)).run PL w=jk x3 w/\(iN 146 (jx #[x0,x1,x2,x3,x4]) (jw kx 4)).run PL w=jk x4 w:=
 ⟨ae,ae,ae,ae,ae⟩
def iv:Nat->aT|0=>jw kx 0|1=>jw kx 1|2=>jw kx 2|3=>jw kx 3|4=>jw kx 4|_=>jw kx 5
def cR{C:CD}{m:Nat}(a:∀j,j<m->C.dP j=0)(b:m<5)(hf:C.dP m≠0):C.cx=C.dP m:=eG a b hf
def uC(C:CD)(w:ad)(h:C.At w):bd PL 48 #[jx C.val] w (aO (jw kx C.cx) w):=by
 have H:=ii h;clear h;have o:=λw x0 x1 x2 x3 x4=>(yq x0 x1 x2 x3 x4 w).1;have p:=λw x0 x1 x2 x3 x4=>(yq x0 x1 x2 x3 x4 w).2.1;have q:=λw x0 x1 x2 x3 x4=>(yq x0 x1 x2 x3 x4 w).2.2.1;have r:=λw x0 x1 x2 x3 x4=>(yq x0 x1 x2 x3 x4 w).2.2.2.1;have s:=λw x0 x1 x2 x3 x4=>(yq x0 x1 x2 x3 x4 w).2.2.2.2;go_enter (fx ao cQ),Tryz.ntmps48;go_wp2
 go_loopw [20] (λi wr=>∃k:Nat,k<=5/\i=iv k/\(∀j,j<k->C.dP j=0)/\bA w wr) (λi _=>5-(intOf i).toNat)
 case atStart=>exact⟨0,ab,rfl,λj d=>absurd d (f7 _),((fO _ _).alloc (fY _) _).alloc ar _⟩
 case round=>
  obtain⟨k,t,hi,l,c⟩:=hrel;have b:=ii l;clear l;have n:=H.out.below c;have g:=ii n;clear n;obtain rfl|rfl|rfl|rfl|rfl|rfl:k=0\/k=1\/k=2\/k=3\/k=4\/k=5:=ab
  .obtain rfl:_=jw kx 0:=hi
   go_wp2_with (go_at_call 74;refine(afm C _).mono ?_;rintro e w1⟨rfl,a⟩)
   .go_ret;exact⟨aC (cR (m:=0) b.out ab bo),Below.on c a⟩
   .have f:C.dP 0=0:=bo
    exact⟨⟨1,ab,rfl,λj d=>by
     rcases Nat.lt_succ_iff_lt_or_eq.1 d with h|h
     .exact b.out j h
     .rw[h];exact f,Below.on c a⟩,by simp[intOf]⟩
  .obtain rfl:_=jw kx 1:=hi
   go_wp2_with (go_at_call 75;refine(afn C _ g.out).mono ?_;rintro e w1⟨rfl,a⟩)
   .go_ret;exact⟨aC (cR (m:=1) b.out ab bo),Below.on c a⟩
   .have f:C.dP 1=0:=bo
    exact⟨⟨2,ab,rfl,λj d=>by
     rcases Nat.lt_succ_iff_lt_or_eq.1 d with h|h
     .exact b.out j h
     .rw[h];exact f,Below.on c a⟩,by simp[intOf]⟩
  .obtain rfl:_=jw kx 2:=hi
   go_wp2_with (go_at_call 76;refine(afo C _ g.out (b.out 0 ab)).mono ?_;rintro e w1⟨rfl,a⟩)
   .go_ret;exact⟨aC (cR (m:=2) b.out ab bo),Below.on c a⟩
   .have f:C.dP 2=0:=bo
    exact⟨⟨3,ab,rfl,λj d=>by
     rcases Nat.lt_succ_iff_lt_or_eq.1 d with h|h
     .exact b.out j h
     .rw[h];exact f,Below.on c a⟩,by simp[intOf]⟩
  .obtain rfl:_=jw kx 3:=hi
   go_wp2_with (go_at_call 77;refine(afp C _ g.out (b.out 0 ab)).mono ?_;rintro e w1⟨rfl,a⟩)
   .go_ret;exact⟨aC (cR (m:=3) b.out ab bo),Below.on c a⟩
   .have f:C.dP 3=0:=bo
    exact⟨⟨4,ab,rfl,λj d=>by
     rcases Nat.lt_succ_iff_lt_or_eq.1 d with h|h
     .exact b.out j h
     .rw[h];exact f,Below.on c a⟩,by simp[intOf]⟩
  .obtain rfl:_=jw kx 4:=hi
   go_wp2_with (go_at_call 78;refine(afq C _ g.out).mono ?_;rintro e w1⟨rfl,a⟩)
   .go_ret;exact⟨aC (cR (m:=4) b.out ab bo),Below.on c a⟩
   .have f:C.dP 4=0:=bo
    exact⟨⟨5,ab,rfl,λj d=>by
     rcases Nat.lt_succ_iff_lt_or_eq.1 d with h|h
     .exact b.out j h
     .rw[h];exact f,Below.on c a⟩,by simp[intOf]⟩
  .obtain rfl:_=jw kx 5:=hi;go_wp2;go_ret;exact⟨aC (cz b.out),c⟩
def CD.zero:Array aT:=#[jw kx 0,jw kx 0,jz none 0 0,jz none 0 0,jz none 0 0,jz none 0 0]
def CD.b6(C:CD)(b:Bool):Int:=if C.cx=0 then(if b then 0 else 6) else C.cx
def CD.sX(C:CD)(b:Bool):aT:=jX #[jx (if C.b6 b=0 then C.val else CD.zero),jw kx (C.b6 b)]
def Below.zQ{B:Nat}{a w:ad}(h:Below B a w){k:Nat}(b:B<=k)(u0 u1 u2 u3 u4 u5:aT):Below B a ((((((w.setCell ⟨k,0,none⟩ u0).setCell ⟨k,1,none⟩ u1).setCell ⟨k,2,none⟩ u2).setCell ⟨k,3,none⟩ u3).setCell ⟨k,4,none⟩ u4).setCell ⟨k,5,none⟩ u5):=
 (((((h.setCell (p:=⟨k,0,none⟩) b u0).setCell (p:=⟨k,1,none⟩) b u1).setCell (p:=⟨k,2,none⟩) b u2).setCell (p:=⟨k,3,none⟩) b u3).setCell (p:=⟨k,4,none⟩) b u4).setCell (p:=⟨k,5,none⟩) b u5
def Ra{C:CD}{b:Bool}(h:C.cx≠0):C.sX b=jX #[jx #[jw kx 0,jw kx 0,jz none 0 0,jz none 0 0,jz none 0 0,jz none 0 0],jw kx C.cx]:=by
 simp[CD.sX,CD.b6,h,CD.zero]
def Vd{C:CD}(h:C.cx=0):C.sX false=jX #[jx #[jw kx 0,jw kx 0,jz none 0 0,jz none 0 0,jz none 0 0,jz none 0 0],jw kx 6]:=by
 simp[CD.sX,CD.b6,h,CD.zero]
def Ve{C:CD}(h:C.cx=0):C.sX true=jX #[jx C.val,jw kx 0]:=by
 simp[CD.sX,CD.b6,h]
def sY{C:CD}{w:ad}(h:C.cx=0)(k:C.At w):bd PL 48 #[jx C.val] w (aO (jw kx 0) w):=by
 have:=uC C w k;rwa[h]at this
def Ev(C:CD)(b:Bool)(w:ad)(h:C.At w):bd PL 36 #[jx C.val,jt b] w (aO (C.sX b) w):=by
 have g:=λw1 k=>h.below (w':=w1) k;have f:=ii g;clear g h;by_cases hc:C.cx=0
 .have c:=ii hc;clear hc;cases b
  .rw[Vd c.out];go_enter (fx ao d8),eF
   go_wp2_with (go_at_call 48;refine(sY c.out (f.out _ (((fO _ _).alloc (fY _) _).alloc ar _))).mono ?_;rintro e w1⟨rfl,a⟩;obtain⟨d,i⟩:=cW a;have j:w.heap.size+1<w1.heap.size:=by have:=a.size;simp at this;omega)
   refine bT (v:=jX #[jx #[jw kx 0,jw kx 0,jz none 0 0,jz none 0 0,jz none 0 0,jz none 0 0],jw kx 6]) ?_ rfl ⟨rfl,(Below.zQ ((((fO _ _).alloc (fY _) _).alloc ar _).trans (a.mono (by simp;omega))) (gg _) _ _ _ _ _ _)⟩;simp[b1,eI,go_sem,d]
  .rw[Ve c.out];go_enter (fx ao d8),eF
   go_wp2_with (go_at_call 48;refine(sY c.out (f.out _ (((fO _ _).alloc (fY _) _).alloc ar _))).mono ?_;rintro e w1⟨rfl,a⟩;obtain⟨d,i⟩:=cW a;have j:w.heap.size+1<w1.heap.size:=by have:=a.size;simp at this;omega)
   refine bT (v:=jX #[jx C.val,jw kx 0]) ?_ rfl ⟨rfl,(Below.zQ ((((fO _ _).alloc (fY _) _).alloc ar _).trans (a.mono (by simp;omega))) (gg _) _ _ _ _ _ _)⟩;simp[b1,eI,go_sem,d]
 .have c:=ii hc;have l:(C.cx != 0)=true:=by simpa using hc
  clear hc;rw[Ra c.out];go_enter (fx ao d8),eF
  go_wp2_with (go_at_call 48;refine(uC C _ (f.out _ (((fO _ _).alloc (fY _) _).alloc ar _))).mono ?_;rintro e w1⟨rfl,a⟩;obtain⟨d,i⟩:=cW a;have j:w.heap.size+1<w1.heap.size:=by have:=a.size;simp at this;omega)
  refine bT (v:=jX #[jx #[jw kx 0,jw kx 0,jz none 0 0,jz none 0 0,jz none 0 0,jz none 0 0],jw kx C.cx]) ?_ rfl ⟨rfl,(Below.zQ ((((fO _ _).alloc (fY _) _).alloc ar _).trans (a.mono (by simp;omega))) (gg _) _ _ _ _ _ _)⟩;simp[b1,eI,go_sem,d]
def AE(C:CD)(n:Int)(w:ad)(h:C.n4<=20):bd PL 37 #[jx C.val,jw kx n] w (aO (jt (bO n 0 (C.n4-1))) w):=by
 go_enter (fx ao d9),Tryz.ntmps37
 go_wp2_with (go_at_call 34;refine(bG _ _ _ _).mono ?_;rintro e w'⟨rfl,rfl⟩)
 go_ret;exact⟨rfl,(fO _ _).alloc (fY _) _⟩
def lvl(s r:Int):Nat->Int
 |0=>0
 |k+1=>if((k:Int)+1)*(k+1) > s*s-r*r then lvl s r k else k+1
def AF{a:Int}(c : -90<=a)(d:a<=90):0<=a*a/\a*a<=8100:=by
 have h:=j4 (a:=90-a) (b:=90+a) ab ab;have e:(90-a)*(90+a)=8100-a*a:=by
  rw[Int.sub_mul,j5,j5,Int.mul_comm a 90];omega
 refine⟨?_,ab⟩
 rcases j6 0 a with h|h
 .exact j4 h h
 .have:=j4 (a:=-a) (b:=-a) ab ab;rwa[ka]at this
def AG(s:Nat)(r:Int)(w:ad)(y:1<=s)(z:s<=90)(A : -s<=r)(g:r<=s):bd PL 35 #[jw kx (s:Int),jw kx r] w λe w'=>e=kw (jw kx (lvl s r s))/\w'=w:=by
 go_enter (fx ao dq),Tryz.ntmps35;go_wp2
 go_loop [5] (λv=>∃k:Nat,k<=s/\v=jw kx k/\lvl s r s=lvl s r k) (λv=>(intOf v).toNat)
 case atStart=>exact⟨s,fY _,rfl,rfl⟩
 case round=>
  obtain⟨k,B,rfl,i⟩:=hrel;have f:=ii i;clear i;have l:=AF (a:=(k:Int)) ab ab;have m:=AF (a:=(s:Int)) ab ab;have n:=AF (a:=r) ab ab;obtain⟨o,C⟩:=l;obtain⟨p,q⟩:=m;obtain⟨t,u⟩:=n;have hd:(∃k':Nat,k=k'+1)\/k=0:=by
   cases k with
   |zero=>exact kS rfl
   |succ k'=>exact kG ⟨k',rfl⟩
  go_wp2
  .have j:(s:Int)*s-r*r<(k:Int)*k:=ba
   rcases hd with⟨k',rfl⟩|rfl
   .refine⟨⟨k',ab,by congr 1;omega,?_⟩,by simp[intOf]⟩;rw[f.out,lvl,if_pos (by simpa using j)]
   .exfalso;have D:r*r<=(s:Int)*s:=by
     rcases j6 0 r with h|h
     .exact kb g g h ab
     .have e:=kb (a:=-r) (b:=-r) (c:=s) (d:=s) ab ab ab ab;rwa[ka]at e
    simp at j;omega
  .have x:(k:Int)*k<=(s:Int)*s-r*r:=ba;go_ret;refine⟨?_,rfl⟩
   rcases hd with⟨k',rfl⟩|rfl
   .rw[f.out,lvl,if_neg (by simp at x ⊢;omega)];rfl
   .rw[f.out];rfl
def ie(s r:Int):aT:=if bO s 1 90&&bO r (-90) 90 then(if s<r\/s < -r then jX #[jw kx 0,jw kx 10] else jX #[jw kx (lvl s r s.toNat),jw kx 0]) else jX #[jw kx 0,jw kx 1]
def uD(s r:Int)(w:ad):bd PL 13 #[jw kx s,jw kx r] w λe w'=>e=kw (ie s r)/\w'=w:=by
 by_cases d:bO s 1 90=true
 .have i:1<=s/\s<=90:=by simp[bO]at d;exact d
  obtain⟨j,o⟩:=i;have b:=ii d;clear d;by_cases f:bO r (-90) 90=true
  .have k : -90<=r/\r<=90:=by simp[bO]at f;exact f
   obtain⟨l,m⟩:=k;have c:=ii f;clear f;obtain⟨n,rfl⟩:=kc (a:=s) ab;by_cases g:(n:Int)<r
   .go_enter (fx ao cC),eM
    go_wp2_with (first|(go_at_call 34;((with_reducible refine(fN b.out _).mono ?_);rintro e w'⟨rfl,rfl⟩))|(go_at_call 34;refine(fN c.out _).mono ?_;rintro e w'⟨rfl,rfl⟩))
    go_ret2
    exact⟨by simp[ie,b.out,c.out,g],rfl⟩
   .by_cases h:(n:Int) < -r
    .go_enter (fx ao cC),eM
     go_wp2_with (first|(go_at_call 34;((with_reducible refine(fN b.out _).mono ?_);rintro e w'⟨rfl,rfl⟩))|(go_at_call 34;refine(fN c.out _).mono ?_;rintro e w'⟨rfl,rfl⟩))
     go_ret2
     exact⟨by simp[ie,b.out,c.out,h],rfl⟩
    .go_enter (fx ao cC),eM
     go_wp2_with (first|(go_at_call 34;((with_reducible refine(fN b.out _).mono ?_);rintro e w'⟨rfl,rfl⟩))|(go_at_call 34;refine(fN c.out _).mono ?_;rintro e w'⟨rfl,rfl⟩)|(go_at_call 35;refine(AG _ _ _ ab ab ab ab).mono ?_;rintro e w'⟨rfl,rfl⟩))
     go_ret2
     exact⟨by simp[ie,b.out,c.out,g,h],rfl⟩
  .have c:=ii (aV f);clear f;go_enter (fx ao cC),eM
   go_wp2_with (first|(go_at_call 34;((with_reducible refine(fN b.out _).mono ?_);rintro e w'⟨rfl,rfl⟩))|(go_at_call 34;refine(pZ c.out _).mono ?_;rintro e w'⟨rfl,rfl⟩))
   go_ret2
   exact⟨by simp[ie,b.out,c.out],rfl⟩
 .have b:=ii (aV d);clear d;go_enter (fx ao cC),eM
  go_wp2_with (go_at_call 34;refine(pZ b.out _).mono ?_;rintro e w'⟨rfl,rfl⟩)
  go_ret2
  exact⟨by simp[ie,b.out],rfl⟩
def rJ(n a b:Int)(w:ad):bd PL 6 #[jw kx n,jw kx a,jw kx b] w λe w'=>e=kw (jt (bO n a b))/\w'=w:=by
 go_enter (fx ao dk),Tryz.ntmps6;go_wp2
 all_goals (go_ret;simp[bO];try omega)
def yu(c:Nat)(w:ad):bd PL 80 #[jw .u8 c] w λe w'=>e=kw (jt (bO c 97 122))/\w'=w:=by
 go_enter (fx ao em),Tryz.ntmps80;go_wp2
 all_goals (go_ret;simp[bO];try omega)
def AH(c:Nat)(w:ad):bd PL 81 #[jw .u8 c] w λe w'=>e=kw (jt (bO c 48 57))/\w'=w:=by
 go_enter (fx ao ep),Tryz.ntmps81;go_wp2
 all_goals (go_ret;simp[bO];try omega)
def kB(a b low c:Int)(w:ad):bd PL 30 #[jx #[jw kx a,jw kx b],jw kx low,jw kx c] w (aO (jt (eK a b low c)) w):=by
 go_enter (fx ao dO),Tryz.ntmps30
 go_wp2_with (go_at_call 6;refine(rJ _ _ _ _).mono ?_;rintro e w'⟨rfl,rfl⟩)
 all_goals (go_ret;refine⟨?_,(fO _ _).alloc (fY _) _⟩;simp_all [eK,bO];try omega)
def AI(a b:Int)(w:ad)(c : -90<=a)(d:a<=90):bd PL 59 #[jx #[jw kx a,jw kx b]] w (aO (jw kx (max b (-a))) w):=by
 go_enter (fx ao eb),Tryz.ntmps59;go_wp2
 all_goals (go_ret;refine⟨aC ab,(fO _ _).alloc (fY _) _⟩)
def Ew{c:Nat}(h:bO c 97 122=true)(w:ad):bd PL 80 #[jw .u8 c] w λe w'=>e=kw (jt true)/\w=w':=by
 have:=yu c w;rw[h]at this;exact this.mono λ_ _⟨a,b⟩=>⟨a,b.symm⟩
def yw{c:Nat}(h:bO c 97 122=false)(w:ad):bd PL 80 #[jw .u8 c] w λe w'=>e=kw (jt false)/\w=w':=by
 have:=yu c w;rw[h]at this;exact this.mono λ_ _⟨a,b⟩=>⟨a,b.symm⟩
def Vf{c:Nat}(h:bO c 48 57=true)(w:ad):bd PL 81 #[jw .u8 c] w λe w'=>e=kw (jt true)/\w=w':=by
 have:=AH c w;rw[h]at this;exact this.mono λ_ _⟨a,b⟩=>⟨a,b.symm⟩
def Vg{c:Nat}(h:bO c 48 57=false)(w:ad):bd PL 81 #[jw .u8 c] w λe w'=>e=kw (jt false)/\w=w':=by
 have:=AH c w;rw[h]at this;exact this.mono λ_ _⟨a,b⟩=>⟨a,b.symm⟩
def kH{n a b:Int}(h:bO n a b=true)(w:ad):bd PL 6 #[jw kx n,jw kx a,jw kx b] w λe w'=>e=kw (jt true)/\w=w':=by
 have:=rJ n a b w;rw[h]at this;exact this.mono λ_ _⟨a,b⟩=>⟨a,b.symm⟩
def vQ{n a b:Int}(h:bO n a b=false)(w:ad):bd PL 6 #[jw kx n,jw kx a,jw kx b] w λe w'=>e=kw (jt false)/\w=w':=by
 have:=rJ n a b w;rw[h]at this;exact this.mono λ_ _⟨a,b⟩=>⟨a,b.symm⟩
def AJ{s:ByteArray}{k:Nat}(h:k<s.size):jv s k=(s[k]'h).toNat:=by simp[jv,h]
def vv(s:ByteArray)(w:ad)(hs:s.size<=100):bd PL 58 #[jD s] w λe w'=>e=kw (jt (ku s))/\w=w':=by
 by_cases g:bO (↑s.size) 1 12=true
 .have o:0<s.size:=by simp[bO]at g;omega
  have d:=ii g;clear g;by_cases n:bO ((s[0]'o).toNat:Int) 97 122=true
  .have l:=ii n;clear n;go_enter (fx ao ek),eN
   go_wp2_with (first|(go_at_call 6;refine(kH d.out _).mono ?_;rintro e w'⟨rfl,rfl⟩)|(go_at_call 80;refine(Ew l.out _).mono ?_;rintro e w'⟨rfl,rfl⟩))
   go_loop [3] (λv=>∃k:Nat,k<=s.size/\v=jw kx k/\∀j,j<k->wA (jv s j) j=true) (λv=>s.size-(intOf v).toNat)
   case atStart=>exact⟨0,f6 _,rfl,λj b=>absurd b (f7 _)⟩
   case round=>
    obtain⟨k,u,rfl,r⟩:=hrel;have p:=ii r;clear r;by_cases f:k<s.size
    .have hb:=AJ f;have q:=ii hb;clear hb;by_cases hl:bO ((s[k]'f).toNat:Int) 97 122=true
     .have c:=ii hl;clear hl
      go_wp2_with (go_at_call 80;refine(Ew c.out _).mono ?_;rintro e w'⟨rfl,rfl⟩)
      refine⟨⟨k+1,f,by go_num,λj b=>?_⟩,by simp[intOf];omega⟩
      rcases Nat.lt_succ_iff_lt_or_eq.1 b with h|h
      .exact p.out j h
      .rw[h,q.out];simp[wA,c.out]
     .have c:=ii (aV hl);clear hl;have t:k≠0:=λe=>by
       subst e;have a:=c.out;rw[l.out]at a;cases a
      by_cases hd:bO ((s[k]'f).toNat:Int) 48 57=true
      .have m:=ii hd;clear hd
       go_wp2_with (first|(go_at_call 80;refine(yw c.out _).mono ?_;rintro e w'⟨rfl,rfl⟩)|(go_at_call 81;refine(Vf m.out _).mono ?_;rintro e w'⟨rfl,rfl⟩))
       refine⟨⟨k+1,f,by go_num,λj b=>?_⟩,by simp[intOf];omega⟩
       rcases Nat.lt_succ_iff_lt_or_eq.1 b with h|h
       .exact p.out j h
       .rw[h,q.out];simp[wA,m.out,t]
      .have m:=ii (aV hd);clear hd
       go_wp2_with (first|(go_at_call 80;refine(yw c.out _).mono ?_;rintro e w'⟨rfl,rfl⟩)|(go_at_call 81;refine(Vg m.out _).mono ?_;rintro e w'⟨rfl,rfl⟩))
       go_ret;exact⟨by rw[qd f (by rw[q.out];simp[wA,c.out,m.out])];rfl,rfl⟩
    .obtain rfl:k=s.size:=ab;go_wp2;go_ret;refine⟨?_,rfl⟩;have:((gy s.size).all λi=>wA (jv s i) i)=true:=by
      rw[gD];intro j b;exact p.out j (List.mem_range.1 b)
     simp[ku,this,d.out]
  .have l:=ii (aV n);clear n;go_enter (fx ao ek),eN
   go_wp2_with (first|(go_at_call 6;refine(kH d.out _).mono ?_;rintro e w'⟨rfl,rfl⟩)|(go_at_call 80;refine(yw l.out _).mono ?_;rintro e w'⟨rfl,rfl⟩))
   go_ret;exact⟨by rw[qd o (by rw[AJ o];simp[wA,l.out])];rfl,rfl⟩
 .have d:=ii (aV g);clear g;go_enter (fx ao ek),eN
  go_wp2_with (go_at_call 6;refine(vQ d.out _).mono ?_;rintro e w'⟨rfl,rfl⟩)
  go_ret;exact⟨by simp[ku,d.out],rfl⟩
def dr{B:Nat}{a w:ad}(h:Below B a w)(n:Nat):Below B a (w.drewN n):=⟨h.os,h.tape,h.output,h.size,h.block⟩
def Vh(b:Option bi)(k o n c m:Nat)(x:Nat->Int)(w:ad)(D:n<=20)(E:m<=20)(t:0<n->k<w.heap.size)(hs:0<n->b=some ⟨k,o,none⟩)(u:∀i,i<n->w.cell? ⟨k,o+i,none⟩=some (jw kx (x i))) :
 bd PL 60 #[jz b n c,jw kx (m:Int)] w (aO (jw kx (ia n (fy m x))) w):=by
 have v:=ii u;have B:=ii hs;clear u hs;go_enter (fx ao df),Tryz.ntmps60;go_wp2
 go_loopw [5] (λi wr=>∃q:Nat,q<=n/\i=jw kx q/\(∀j,j<q->fy m x j=0)/\bA w wr) (λi _=>n-(intOf i).toNat)
 case atStart=>exact⟨0,f6 _,rfl,λj g=>absurd g (f7 _),fO _ _⟩
 case round=>
  obtain⟨q,F,rfl,y,d⟩:=hrel;have l:=ii y;clear y;by_cases f:q<n
  .obtain rfl:=B.out ab;have C:=(d.cell (p:=⟨k,o+q,none⟩) (t ab)).trans (v.out q f);by_cases hi:bO (x q) 0 (m-1)=true
   .have a:=ii hi;clear hi;by_cases r:0<q
    .have H:=(d.cell (p:=⟨k,o+(q-1),none⟩) (t ab)).trans (v.out (q-1) ab);have I:(0:Int)<q:=ab;have J:(q:Int)<n:=ab;have K:(q:Int)-1<n:=ab;have L:(0:Int)<=(q:Int)-1:=ab
     go_wp2_with (go_at_call 6;refine(kH a.out _).mono ?_;rintro e w'⟨rfl,rfl⟩)
     go_quiet (fail)
     go_wp2
     .have z:fy m x q=7:=by
       have t2:x q<=x (q-1):=ba;simp only[fy];rw[if_pos a.out,if_pos ⟨r,t2⟩]
      go_ret;exact⟨aC ((eG l.out f (by rw[z];decide)).trans z),dr d _⟩
     .have s:fy m x q=0:=by
       have t2:x (q-1)<x q:=ba;simp only[fy];rw[if_pos a.out,if_neg ab]
      refine⟨⟨q+1,f,by go_num,λj g=>?_,dr d _⟩,by simp[intOf];omega⟩
      rcases Nat.lt_succ_iff_lt_or_eq.1 g with h|h
      .exact l.out j h
      .rw[h];exact s
    .obtain rfl:q=0:=ab;rw[ge]at C
     go_wp2_with (go_at_call 6;refine(kH a.out _).mono ?_;rintro e w'⟨rfl,rfl⟩)
     go_quiet (fail)
     go_wp2;have s:fy m x 0=0:=by
      simp only[fy];rw[if_pos a.out,if_neg ab]
     refine⟨⟨1,f,by go_num,λj g=>?_,dr d _⟩,by simp[intOf];omega⟩;obtain rfl:j=0:=ab;exact s
   .have a:=ii (aV hi);clear hi
    go_wp2_with (go_at_call 6;refine(vQ a.out _).mono ?_;rintro e w'⟨rfl,rfl⟩)
    have A:fy m x q=6:=by simp only[fy];rw[a.out];rfl
    go_ret;exact⟨aC ((eG l.out f (by rw[A];decide)).trans A),d⟩
  .obtain rfl:q=n:=ab;go_wp2;go_ret;exact⟨aC (cz l.out),d⟩
def Ex{a b c d:Int}:eB a b=eB c d↔(a=c/\b=d)\/(a=d/\b=c):=by
 simp only[eB,Prod.mk.injEq];omega
def aao{w:ad}{k:Nat}{x0 x1 x2:aT}{t:ac}(h:w.heap[k]?=some (kY #[x0,x1,x2] t)):w.cell? ⟨k,0,none⟩=some x0/\w.cell? ⟨k,1,none⟩=some x1/\w.cell? ⟨k,2,none⟩=some x2:=by
 simp[iY,h]
def getElem?_lt'{b:Type}{a:Array b}{i:Nat}{x:b}(h:a[i]?=some x):i<a.size:=(Array.getElem?_eq_some_iff.1 h).1
def Ic(l p:Int)(b:Option bi)(k o n c:Nat)(x:Nat->Int×Int×Int)(J K v5:aT)(w:ad)(hn:n<=20)(J0:1<=p)(tL:p<=6)(t:k<w.heap.size)(hs:0<n->b=some ⟨k,o,none⟩)
 (Q:∀i,i<n->w.cell? ⟨k,o+i*3,none⟩=some (jw kx (x i).1)) (C:∀i,i<n->w.cell? ⟨k,o+i*3+1,none⟩=some (jw kx (x i).2.1)) (D:∀i,i<n->w.cell? ⟨k,o+i*3+2,none⟩=some (jw kx (x i).2.2)) :
 bd PL 31 #[jx #[jw kx l,jw kx p,J,jz b n c,K,v5]] w (aO (jw kx (kz p n x)) w):=by
 have R:=ii Q;have S:=ii C;have T:=ii D;have HS:=ii hs;clear Q C D hs;by_cases hb:9<n
 .go_enter (fx ao dQ),eP;go_wp2;go_ret;exact⟨by simp[kz,hb],(fO _ _).alloc (fY _) _⟩
 .go_enter (fx ao dQ),eP;go_wp2
  go_loopw [3] (λi wr=>∃m:Nat,m<=n/\i=jw kx m/\(∀j,j<m->fQ p x j=0)/\wr.heap[w.heap.size]?=some (kY #[jw kx l,jw kx p,J,jz b n c,K,v5] 27)/\bA w wr) (λi _=>n-(intOf i).toNat)
  case atStart=>exact⟨0,f6 _,rfl,λj r=>absurd r (f7 _),au _ _,(fO _ _).alloc (fY _) _⟩
  case round=>
   obtain⟨m,U,rfl,V,W,u⟩:=hrel;have s:=ii V;have L:=ii W;clear V W;obtain⟨y,rfl⟩:=br wr;obtain⟨d0,d1,d2,d3,d4,d5⟩:=bf L.out;have mF:w.heap.size<y.heap.size:=getElem?_lt' L.out;by_cases f:m<n
   .obtain rfl:=HS.out ab;have c0:=(u.cell (p:=⟨k,o+m*3,none⟩) t).trans (R.out m f);have c1:=(u.cell (p:=⟨k,o+m*3+1,none⟩) t).trans (S.out m f);have c2:=(u.cell (p:=⟨k,o+m*3+2,none⟩) t).trans (T.out m f);have B:bA w (y.alloc (kY #[jw kx (x m).1,jw kx (x m).2.1,jw kx (x m).2.2] 88)):=u.alloc u.size _;by_cases F:bO (x m).1 0 (p-1)=true
    .have a:=ii F;clear F;by_cases H:bO (x m).2.1 0 (p-1)=true
     .have d:=ii H;clear H;by_cases z:(x m).1=(x m).2.1
      .have E:=ii z;have Xo:((x m).1==(x m).2.1)=true:=by simpa using z
       clear z
       go_wp2_with (first|(go_at_call 6;((with_reducible refine(kH a.out _).mono ?_);rintro e w'⟨rfl,rfl⟩))|(go_at_call 6;((with_reducible refine(kH d.out _).mono ?_);rintro e w'⟨rfl,rfl⟩)))
       go_ret;exact⟨aC (dh (v:=8) hb s.out f (by simp[fQ,a.out,d.out,E.out]) ao),B⟩
      .have E:=ii z;have Xo:((x m).1==(x m).2.1)=false:=by simpa using z
       clear z;by_cases I:bO (x m).2.2 1 999=true
       .have A:=ii I;clear I
        go_wp2_with (first|(go_at_call 6;((with_reducible refine(kH a.out _).mono ?_);rintro e w'⟨rfl,rfl⟩))|(go_at_call 6;((with_reducible refine(kH d.out _).mono ?_);rintro e w'⟨rfl,rfl⟩))|(go_at_call 6;((with_reducible refine(kH A.out _).mono ?_);rintro e w'⟨rfl,rfl⟩)))
        go_loopw [5] (λi M=>∃q:Nat,q<=m/\i=jw kx q/\(∀j,j<q->eB (x j).1 (x j).2.1≠eB (x m).1 (x m).2.1)/\M.heap[w.heap.size]?=some (kY #[jw kx l,jw kx p,J,jz (some ⟨k,o,none⟩) n c,K,v5] 27)/\M.heap[y.heap.size]?=some (kY #[jw kx (x m).1,jw kx (x m).2.1,jw kx (x m).2.2] 88)/\bA w M) (λi _=>m-(intOf i).toNat)
        case atStart=>exact⟨0,f6 _,rfl,λj r=>absurd r (f7 _),(fP _ _ _ mF).trans L.out,au _ _,B⟩
        case round=>
         obtain⟨q,hq,rfl,X,Y,Z,g⟩:=hrel;have HJ:=ii X;have N:=ii Y;have O:=ii Z;clear X Y Z;obtain⟨f0,f1,f2,f3,f4,f5⟩:=bf N.out;obtain⟨g0,g1,g2⟩:=aao O.out;have dx:y.heap.size<wr.heap.size:=getElem?_lt' O.out;have wD:w.heap.size<wr.heap.size:=ab;by_cases qN:q<m
         .have k0:=(g.cell (p:=⟨k,o+q*3,none⟩) t).trans (R.out q ab);have k1:=(g.cell (p:=⟨k,o+q*3+1,none⟩) t).trans (S.out q ab);have k2:=(g.cell (p:=⟨k,o+q*3+2,none⟩) t).trans (T.out q ab);have i2:(q:Int)<n:=ab;go_wp2
          any_goals (
           go_ret;have P:eB (x q).1 (x q).2.1=eB (x m).1 (x m).2.1:=Ex.2 bo;have nt:eB (x m).1 (x m).2.1∈(gy m).map (λj=>eB (x j).1 (x j).2.1):=List.mem_map.2 ⟨q,List.mem_range.2 qN,P⟩
           exact⟨aC (dh (v:=5) hb s.out f (by simp only[fQ];rw[a.out,d.out,A.out,if_neg E.out,if_pos nt];rfl) ao),g.alloc g.size _⟩)
          all_goals (
           have P:eB (x q).1 (x q).2.1≠eB (x m).1 (x m).2.1:=λe=>by
            have e2:=Ex.1 e;have e3:=E.out;simp_all
           refine⟨⟨q+1,qN,by go_num,λj r=>?_,(fP _ _ _ wD).trans N.out,(fP _ _ _ dx).trans O.out,g.alloc g.size _⟩,by simp[intOf];omega⟩
           rcases Nat.lt_succ_iff_lt_or_eq.1 r with h|h
           .exact HJ.out j h
           .rw[h];exact P)
         .obtain rfl:q=m:=ab;go_wp2;refine⟨⟨q+1,f,by go_num,λj r=>?_,N.out,g⟩,by simp[intOf];omega⟩
          rcases Nat.lt_succ_iff_lt_or_eq.1 r with h|h
          .exact s.out j h
          .have uB:eB (x q).1 (x q).2.1∉(gy q).map (λj=>eB (x j).1 (x j).2.1):=λU=>by
            obtain⟨j,C,D⟩:=List.mem_map.1 U;exact HJ.out j (List.mem_range.1 C) D
           rw[h];simp only[fQ];rw[a.out,d.out,A.out,if_neg E.out,if_neg uB];rfl
       .have A:=ii (aV I);clear I
        go_wp2_with (first|(go_at_call 6;((with_reducible refine(kH a.out _).mono ?_);rintro e w'⟨rfl,rfl⟩))|(go_at_call 6;((with_reducible refine(kH d.out _).mono ?_);rintro e w'⟨rfl,rfl⟩))|(go_at_call 6;((with_reducible refine(vQ A.out _).mono ?_);rintro e w'⟨rfl,rfl⟩)))
        go_ret;exact⟨aC (dh (v:=1) hb s.out f (by simp[fQ,a.out,d.out,E.out,A.out]) ao),B⟩
     .have d:=ii (aV H);clear H
      go_wp2_with (first|(go_at_call 6;((with_reducible refine(kH a.out _).mono ?_);rintro e w'⟨rfl,rfl⟩))|(go_at_call 6;((with_reducible refine(vQ d.out _).mono ?_);rintro e w'⟨rfl,rfl⟩)))
      go_ret;exact⟨aC (dh (v:=6) hb s.out f (by simp[fQ,a.out,d.out]) ao),B⟩
    .have a:=ii (aV F);clear F
     go_wp2_with (first|(go_at_call 6;((with_reducible refine(vQ a.out _).mono ?_);rintro e w'⟨rfl,rfl⟩)))
     go_ret;exact⟨aC (dh (v:=6) hb s.out f (by simp[fQ,a.out]) ao),B⟩
   .obtain rfl:m=n:=ab;go_wp2;go_ret;exact⟨aC (by rw[kz,if_neg hb];exact cz s.out),u⟩
def J9{s:ByteArray}(h:ku s=true)(w:ad)(hs:s.size<=100):bd PL 58 #[jD s] w λe w'=>e=kw (jt true)/\w=w':=by
 have:=vv s w hs;rwa[h]at this
def Ka{s:ByteArray}(h:ku s=false)(w:ad)(hs:s.size<=100):bd PL 58 #[jD s] w λe w'=>e=kw (jt false)/\w=w':=by
 have:=vv s w hs;rwa[h]at this
def sZ(a b:ByteArray):(a.toList==b.toList)=decide (a=b):=by rw[<-beq_toListBytes,bytes_beq]
def yx(C:CD)(m:Nat)(w:ad)(h:C.At w)(b:m<C.n5):bd PL 33 #[jx C.val,jw kx (m:Int)] w (aO (jw kx (iI C.n4 C.x5 m)) w):=by
 have H:=ii h;have c0:=h.FI m b;have c1:=h.HU m b;have c2:=h.J6 m b;have Z:=h.s5 ab;have L:=h.h5;have M:=h.nm5 m b;have m5:=h.m5;have m4:=h.m4;clear h;obtain⟨l,p,N,k2,o2,O,P,x2,Q,k3,o3,R,S,x3,T,k4,o4,I,U,x4,b5,u,v,d,V,a⟩:=C;simp only at c0 c1 c2 Z L M m5 m4 b ⊢;subst Z;have hmi:(m:Int)<d:=ab;by_cases c:ku (a m).1=true
 .have n:=ii c;clear c;go_enter (fx ao dU),eQ
  go_wp2_with (go_at_call 58;refine(J9 n.out _ M).mono ?_;rintro e w'⟨rfl,rfl⟩)
  go_loopw [6] (λi wr=>∃q:Nat,q<=m/\i=jw kx q/\(∀j,j<q->(a j).1≠(a m).1)/\wr.heap[w.heap.size]?=some (kY #[jw kx l,jw kx p,jz N O P,jz Q R S,jz T I U,jz (some ⟨u,v,none⟩) d V] 27)/\wr.heap[w.heap.size+1]?=some (kY #[jD (a m).1,jw kx (a m).2.1,jw kx (a m).2.2] 84)/\bA w wr) (λi _=>m-(intOf i).toNat)
  case atStart=>
   refine⟨0,f6 _,rfl,λj f=>absurd f (f7 _),(fP _ _ _ ar).trans (au _ _),?_,((fO _ _).alloc (fY _) _).alloc ar _⟩;have:=au (w.alloc (kY #[jw kx l,jw kx p,jz N O P,jz Q R S,jz T I U,jz (some ⟨u,v,none⟩) d V] 27)) (kY #[jD (a m).1,jw kx (a m).2.1,jw kx (a m).2.2] 84);simpa using this
  case round=>
   obtain⟨q,hq,rfl,x,y,z,A⟩:=hrel;have HJ:=ii x;have o:=ii y;have s:=ii z;clear x y z;obtain⟨f0,f1,f2,f3,f4,f5⟩:=bf o.out;obtain⟨g0,g1,g2⟩:=aao s.out;by_cases qN:q<m
   .have k0:=(A.cell (p:=⟨u,v+q*3,none⟩) L).trans (H.out.FI q (by show q<d;omega));simp only at k0;have i2:(q:Int)<d:=ab;go_wp2
    go_quiet (fail)
    go_wp2
    .have g:(a q).1=(a m).1:=by
      have t:((a q).1.toList==(a m).1.toList)=true:=ba;rw[sZ]at t;simpa using t
     have W:(a m).1∈(gy m).map (λj=>(a j).1):=List.mem_map.2 ⟨q,List.mem_range.2 qN,g⟩;go_ret;exact⟨aC (by simp[iI,iH,n.out,W]),dr A _⟩
    .have g:(a q).1≠(a m).1:=by
      have t:((a q).1.toList==(a m).1.toList)=false:=ba;rw[sZ]at t;simpa using t
     refine⟨⟨q+1,qN,by go_num,λj f=>?_,o.out,s.out,dr A _⟩,by simp[intOf];omega⟩
     rcases Nat.lt_succ_iff_lt_or_eq.1 f with h|h
     .exact HJ.out j h
     .rw[h];exact g
   .obtain rfl:q=m:=ab;have DR:iH (a q).1 ((gy q).map λj=>(a j).1)=0:=by
     have c:(a q).1∉(gy q).map (λj=>(a j).1):=λb=>by
      obtain⟨j,X,Y⟩:=List.mem_map.1 b;exact HJ.out j (List.mem_range.1 X) Y
     simp only[iH];rw[if_pos n.out,if_neg c]
    have J:=ii DR;clear DR;by_cases K:bO (a q).2.1 0 (I-1)=true
    .have k:=ii K;clear K;obtain⟨wo,rfl⟩:=br wr
     go_wp2_with (first|(go_at_call 6;((with_reducible refine(kH k.out _).mono ?_);rintro e w'⟨rfl,rfl⟩)))
     go_loopw [7] (λi wr=>∃r:Nat,r<=q/\i=jw kx r/\(∀j,j<r->(a j).2.1≠(a q).2.1)/\wr.heap[w.heap.size]?=some (kY #[jw kx l,jw kx p,jz N O P,jz Q R S,jz T I U,jz (some ⟨u,v,none⟩) d V] 27)/\wr.heap[w.heap.size+1]?=some (kY #[jD (a q).1,jw kx (a q).2.1,jw kx (a q).2.2] 84)/\bA w wr) (λi _=>q-(intOf i).toNat)
     case atStart=>exact⟨0,f6 _,rfl,λj f=>absurd f (f7 _),o.out,s.out,A⟩
     case round=>
      obtain⟨r,hr,rfl,x,y,z,B⟩:=hrel;have HK:=ii x;have o:=ii y;have s:=ii z;clear x y z;obtain⟨f0,f1,f2,f3,f4,f5⟩:=bf o.out;obtain⟨g0,g1,g2⟩:=aao s.out;by_cases E:r<q
      .have k1:=(B.cell (p:=⟨u,v+r*3+1,none⟩) L).trans (H.out.HU r (by show r<d;omega));simp only at k1;have i2:(r:Int)<d:=ab;go_wp2
       go_quiet (fail)
       go_wp2
       .have g:(a r).2.1=(a q).2.1:=by
         have t:((a r).2.1==(a q).2.1)=true:=ba;simpa using t
        have W:(a q).2.1∈(gy q).map (λj=>(a j).2.1):=List.mem_map.2 ⟨r,List.mem_range.2 E,g⟩;go_ret;exact⟨aC (by simp only[iI];rw[if_pos J.out,k.out,if_pos W];rfl),dr B _⟩
       .have g:(a r).2.1≠(a q).2.1:=by
         have t:((a r).2.1==(a q).2.1)=false:=ba;simpa using t
        refine⟨⟨r+1,E,by go_num,λj f=>?_,o.out,s.out,dr B _⟩,by simp[intOf];omega⟩
        rcases Nat.lt_succ_iff_lt_or_eq.1 f with h|h
        .exact HK.out j h
        .rw[h];exact g
      .obtain rfl:r=q:=ab;have c:(a r).2.1∉(gy r).map (λj=>(a j).2.1):=λb=>by
        obtain⟨j,X,Y⟩:=List.mem_map.1 b;exact HK.out j (List.mem_range.1 X) Y
       have F:=ii c;clear c;by_cases hd:bO (a r).2.2 0 12=true
       .have D:=ii hd;clear hd
        go_wp2_with (first|(go_at_call 6;((with_reducible refine(kH D.out _).mono ?_);rintro e w'⟨rfl,rfl⟩)))
        go_ret;exact⟨aC (by simp only[iI];rw[if_pos J.out,k.out,if_neg F.out,D.out];rfl),B⟩
       .have D:=ii (aV hd);clear hd
        go_wp2_with (first|(go_at_call 6;((with_reducible refine(vQ D.out _).mono ?_);rintro e w'⟨rfl,rfl⟩)))
        go_ret;exact⟨aC (by simp only[iI];rw[if_pos J.out,k.out,if_neg F.out,D.out];rfl),B⟩
    .have k:=ii (aV K);clear K
     go_wp2_with (first|(go_at_call 6;((with_reducible refine(vQ k.out _).mono ?_);rintro e w'⟨rfl,rfl⟩)))
     go_ret;exact⟨aC (by simp only[iI];rw[if_pos J.out,k.out];rfl),A⟩
 .have n:=ii (aV c);clear c;go_enter (fx ao dU),eQ
  go_wp2_with (go_at_call 58;refine(Ka n.out _ M).mono ?_;rintro e w'⟨rfl,rfl⟩)
  go_ret;exact⟨aC (by simp[iI,iH,n.out]),((fO _ _).alloc (fY _) _).alloc ar _⟩
def Ey{a b low c:Int}(h:eK a b low c=true)(w:ad):bd PL 30 #[jx #[jw kx a,jw kx b],jw kx low,jw kx c] w (aO (jt true) w):=by
 have:=kB a b low c w;rwa[h]at this
def Ez{a b low c:Int}(h:eK a b low c=false)(w:ad):bd PL 30 #[jx #[jw kx a,jw kx b],jw kx low,jw kx c] w (aO (jt false) w):=by
 have:=kB a b low c w;rwa[h]at this
def Vi(n a b:Int)(w:ad):bd PL 6 #[jw kx n,jw kx a,jw kx b] w λe w'=>e=kw (jt (bO n a b))/\w=w':=(rJ n a b w).mono λ_ _⟨a,b⟩=>⟨a,b.symm⟩
def gx{w:ad}{k:Nat}{x0 x1 x2 x3 x4 a b c d e f g:aT}{t:ac}(h:w.heap[k]?=some (kY #[x0,x1,x2,x3,x4,a,b,c,d,e,f,g] t)) :
 w.cell? ⟨k,0,none⟩=some x0/\w.cell? ⟨k,1,none⟩=some x1/\w.cell? ⟨k,2,none⟩=some x2/\w.cell? ⟨k,3,none⟩=some x3/\w.cell? ⟨k,4,none⟩=some x4/\w.cell? ⟨k,5,none⟩=some a/\w.cell? ⟨k,6,none⟩=some b/\w.cell? ⟨k,7,none⟩=some c/\w.cell? ⟨k,8,none⟩=some d/\w.cell? ⟨k,9,none⟩=some e/\w.cell? ⟨k,10,none⟩=some f/\w.cell? ⟨k,11,none⟩=some g:=by
 simp[iY,h]
def aap{w:ad}{k:Nat}{x0 x1 x2 x3 x4 a b c d e f g:aT}{t:ac}(h:w.heap[k]?=some (kY #[x0,x1,x2,x3,x4,a,b,c,d,e,f,g] t)):w.cell? ⟨k,0,none⟩=some x0:=(gx h).1
def Xq{w W:ad}{x0 x1 x2 x3 x4 a c d e f g i:aT}{B:Array aT}{t u:ac}(h:W.heap[w.heap.size+1]?=some (kY #[x0,x1,x2,x3,x4,a,c,d,e,f,g,i] t))(k:W.heap[w.heap.size]?=some (kY B u))(b:bA w W) :
 W.cell? ⟨w.heap.size+1,1,none⟩=some x1/\W.cell? ⟨w.heap.size+1,3,none⟩=some x3/\W.cell? ⟨w.heap.size+1,4,none⟩=some x4/\(W.heap[w.heap.size]?=some (kY B u)/\W.heap[w.heap.size+1]?=some (kY #[x0,x1,x2,x3,x4,a,c,d,e,f,g,i] t)/\bA w W):=
 ⟨(gx h).2.1,(gx h).2.2.2.1,(gx h).2.2.2.2.1,k,h,b⟩
def aaq{w W a:ad}{x0 x1 x2 x3 x4 d e f g i j l:aT}{B:Array aT}{t u:ac}(m:W.cell? ⟨w.heap.size+1,1,none⟩=some x1)(n:W.cell? ⟨w.heap.size+1,3,none⟩=some x3)(o:W.cell? ⟨w.heap.size+1,4,none⟩=some x4)(k:W.heap[w.heap.size]?=some (kY B u))(h:W.heap[w.heap.size+1]?=some (kY #[x0,x1,x2,x3,x4,d,e,f,g,i,j,l] t))(b:bA w W)(c:bA W a) :
 a.cell? ⟨w.heap.size+1,1,none⟩=some x1/\a.cell? ⟨w.heap.size+1,3,none⟩=some x3/\a.cell? ⟨w.heap.size+1,4,none⟩=some x4/\(a.heap[w.heap.size]?=some (kY B u)/\a.heap[w.heap.size+1]?=some (kY #[x0,x1,x2,x3,x4,d,e,f,g,i,j,l] t)/\bA w a):=
 Xq ((c.block _ (getElem?_lt' h)).trans h) ((c.block _ (getElem?_lt' k)).trans k) (Below.on b c)
def ED(C:CD)(m:Nat)(w:ad)(h:C.At w)(b:m<C.n4)(J0:1<=C.p)(u:C.p<=6):bd PL 32 #[jx C.val,jw kx (m:Int)] w (aO (jw kx (gM C.p C.n2 C.n3 C.x4 m)) w):=by
 have H:=ii h;have c0:=h.AD m b;have c1:=h.dB m b 1 ab ab;have c2:=h.dB m b 2 ab ab;have c3:=h.dB m b 3 ab ab;have c4:=h.dB m b 4 ab ab;have c5:=h.dB m b 5 ab ab;have c6:=h.dB m b 6 ab ab;have c7:=h.dB m b 7 ab ab;have c8:=h.dB m b 8 ab ab;have c9:=h.dB m b 9 ab ab;have V:=h.dB m b 10 ab ab;have X:=h.nj m b;have s4:=h.s4 ab;have h4:=h.h4;have Y:=(h.cu m b).1;have Tl:=(h.cu m b).2;have m4:=h.m4;have m2:=h.m2;have m3:=h.m3;clear h;obtain⟨l,p,J,k2,o2,v,K,x2,L,k3,o3,M,N,x3,b4,z,A,o,O,x4,P,k5,o5,Q,R,x5⟩:=C;simp only at c0 c1 c2 c3 c4 c5 c6 c7 c8 c9 V X s4 h4 Y Tl m4 m2 m3 b J0 u ⊢;subst s4;have hmi:(m:Int)<o:=ab;by_cases x:ku (x4 m).name=true
 .have y:=ii x;clear x;go_enter (fx ao dT),eS
  go_wp2_with (go_at_call 58;refine(J9 y.out _ Y).mono ?_;rintro e w'⟨rfl,rfl⟩)
  go_loopw [6] (λi wr=>∃q:Nat,q<=m/\i=jw kx q/\(∀j,j<q->(x4 j).name≠(x4 m).name)/\wr.heap[w.heap.size]?=some (kY #[jw kx l,jw kx p,jz J v K,jz L M N,jz (some ⟨z,A,none⟩) o O,jz P Q R] 27)/\wr.heap[w.heap.size+1]?=some (kY #[jD (x4 m).name,jw kx ((x4 m).n 1),jw kx ((x4 m).n 2),jw kx ((x4 m).n 3),jw kx ((x4 m).n 4),jw kx ((x4 m).n 5),jw kx ((x4 m).n 6),jw kx ((x4 m).n 7),jw kx ((x4 m).n 8),jw kx ((x4 m).n 9),jw kx ((x4 m).n 10),jz (x4 m).lb (x4 m).ln (x4 m).lc] 82)/\bA w wr) (λi _=>m-(intOf i).toNat)
  case atStart=>
   refine⟨0,f6 _,rfl,λj Z=>absurd Z (f7 _),(fP _ _ _ ar).trans (au _ _),?_,((fO _ _).alloc (fY _) _).alloc ar _⟩;have:=au (w.alloc (kY #[jw kx l,jw kx p,jz J v K,jz L M N,jz (some ⟨z,A,none⟩) o O,jz P Q R] 27)) (kY #[jD (x4 m).name,jw kx ((x4 m).n 1),jw kx ((x4 m).n 2),jw kx ((x4 m).n 3),jw kx ((x4 m).n 4),jw kx ((x4 m).n 5),jw kx ((x4 m).n 6),jw kx ((x4 m).n 7),jw kx ((x4 m).n 8),jw kx ((x4 m).n 9),jw kx ((x4 m).n 10),jz (x4 m).lb (x4 m).ln (x4 m).lc] 82);simpa using this
  case round=>
   obtain⟨q,hq,rfl,vw,jM,NU,S⟩:=hrel;have HJ:=ii vw;have Ce:=ii jM;have B:=ii NU;clear vw jM NU;obtain⟨f0,f1,f2,f3,f4,f5⟩:=bf Ce.out;have g0:=aap B.out;by_cases qN:q<m
   .have k0:=(S.cell (p:=⟨z,A+q*12,none⟩) h4).trans (H.out.AD q (by show q<o;omega));simp only at k0;have i2:(q:Int)<o:=ab;go_wp2
    go_quiet (fail)
    go_wp2
    .have he:(x4 q).name=(x4 m).name:=by
      have t:((x4 q).name.toList==(x4 m).name.toList)=true:=ba;rw[sZ]at t;simpa using t
     have nt:(x4 m).name∈(gy m).map (λj=>(x4 j).name):=List.mem_map.2 ⟨q,List.mem_range.2 qN,he⟩;go_ret;exact⟨aC (by simp[gM,iH,y.out,nt]),dr S _⟩
    .have he:(x4 q).name≠(x4 m).name:=by
      have t:((x4 q).name.toList==(x4 m).name.toList)=false:=ba;rw[sZ]at t;simpa using t
     refine⟨⟨q+1,qN,by go_num,λj Z=>?_,Ce.out,B.out,dr S _⟩,by simp[intOf];omega⟩
     rcases Nat.lt_succ_iff_lt_or_eq.1 Z with h|h
     .exact HJ.out j h
     .rw[h];exact he
   .obtain rfl:q=m:=ab;have DR:iH (x4 q).name ((gy q).map λj=>(x4 j).name)=0:=by
     have x:(x4 q).name∉(gy q).map (λj=>(x4 j).name):=λb=>by
      obtain⟨j,h1,h2⟩:=List.mem_map.1 b;exact HJ.out j (List.mem_range.1 h1) h2
     simp only[iH];rw[if_pos y.out,if_neg x]
    have Xp:=ii DR;clear DR;obtain⟨T,rfl⟩:=br wr;have c:=S;have g:=Ce;have k:=B;have d:w.heap.size+1<T.heap.size:=getElem?_lt' B.out;have f:w.heap.size<T.heap.size:=ab;obtain⟨a0,a1,a2,a3,a4,a5,a6,a7,a8,a9,zm,zM⟩:=gx B.out;have LB:=ii (λhl=>(H.out.l4 q b hl).1);have FH:0<(x4 q).ln->(x4 q).lk<w.heap.size:=λhl=>(H.out.l4 q b hl).2;by_cases D:eK ((x4 q).n 3) ((x4 q).n 4) (-90) 90=true
    .have E:=ii D;have Q8 : -90<=(x4 q).n 3/\(x4 q).n 3<=90:=by
      simp only[eK,jl,decide_eq_true_eq]at D;omega
     obtain⟨Q8,hr4⟩:=Q8;clear D
     go_wp2_with (first|(go_at_call 30;((with_reducible refine(Ey E.out _).mono ?_);rintro e w1⟨rfl,a⟩;obtain⟨F,I⟩:=cW a;have c:=Below.on c a;have g:=ii ((a.block _ f).trans g.out);have k:=ii ((a.block _ d).trans k.out);have d:=gc d a.size;have f:=gc f a.size))|(go_at_call 30;refine(kB _ _ _ _ _).mono ?_;rintro e w1⟨rfl,a⟩;obtain⟨F,I⟩:=cW a;have c:=Below.on c a;have g:=ii ((a.block _ f).trans g.out);have k:=ii ((a.block _ d).trans k.out);have d:=gc d a.size;have f:=gc f a.size))
     .have hS:=Xq (W:=w1.drew) k.out g.out c.drew;clear F I
      go_region_held3 (λW=>W.cell? ⟨w.heap.size+1,1,none⟩=some (jw kx ((x4 q).n 1))/\W.cell? ⟨w.heap.size+1,3,none⟩=some (jw kx ((x4 q).n 3))/\W.cell? ⟨w.heap.size+1,4,none⟩=some (jw kx ((x4 q).n 4))/\(W.heap[w.heap.size]?=some (kY #[jw kx l,jw kx p,jz J v K,jz L M N,jz (some ⟨z,A,none⟩) o O,jz P Q R] 27)/\W.heap[w.heap.size+1]?=some (kY #[jD (x4 q).name,jw kx ((x4 q).n 1),jw kx ((x4 q).n 2),jw kx ((x4 q).n 3),jw kx ((x4 q).n 4),jw kx ((x4 q).n 5),jw kx ((x4 q).n 6),jw kx ((x4 q).n 7),jw kx ((x4 q).n 8),jw kx ((x4 q).n 9),jw kx ((x4 q).n 10),jz (x4 q).lb (x4 q).ln (x4 q).lc] 82)/\bA w W)) (first|exact hS|(go_split_ands;refine aaq ‹_› ‹_› ‹_› ‹_› ‹_› ‹_› qA)|go_keep) ((go_at_call 59;refine(AI _ _ _ Q8 hr4).mono ?_;rintro e w2⟨rfl,qA⟩))
      have hS2:w2.cell? ⟨w.heap.size+1,1,none⟩=some (jw kx ((x4 q).n 1))/\w2.cell? ⟨w.heap.size+1,3,none⟩=some (jw kx ((x4 q).n 3))/\w2.cell? ⟨w.heap.size+1,4,none⟩=some (jw kx ((x4 q).n 4))/\(w2.heap[w.heap.size]?=some (kY #[jw kx l,jw kx p,jz J v K,jz L M N,jz (some ⟨z,A,none⟩) o O,jz P Q R] 27)/\w2.heap[w.heap.size+1]?=some (kY #[jD (x4 q).name,jw kx ((x4 q).n 1),jw kx ((x4 q).n 2),jw kx ((x4 q).n 3),jw kx ((x4 q).n 4),jw kx ((x4 q).n 5),jw kx ((x4 q).n 6),jw kx ((x4 q).n 7),jw kx ((x4 q).n 8),jw kx ((x4 q).n 9),jw kx ((x4 q).n 10),jz (x4 q).lb (x4 q).ln (x4 q).lc] 82)/\bA w w2):=ba;obtain⟨_,_,_,NV,u,c⟩:=hS2;have g:=ii NV;have k:=ii u;have d:w.heap.size+1<w2.heap.size:=getElem?_lt' u;have f:w.heap.size<w2.heap.size:=ab;obtain⟨a0,a1,a2,a3,a4,a5,a6,a7,a8,a9,zm,zM⟩:=gx u;obtain⟨f0,f1,f2,f3,f4,f5⟩:=bf NV;clear NV u
      go_wp2_with (first|(go_at_call 6;refine(Vi _ _ _ _).mono ?_;rintro e w'⟨rfl,rfl⟩)|(go_at_call 30;refine(kB _ _ _ _ _).mono ?_;rintro e w1⟨rfl,a⟩;obtain⟨F,I⟩:=cW a;have c:=Below.on c a;have g:=ii ((a.block _ f).trans g.out);have k:=ii ((a.block _ d).trans k.out);have d:=gc d a.size;have f:=gc f a.size)|(go_at_call 60;refine(Vh _ (x4 q).lk (x4 q).lo _ _ _ (x4 q).lane _ Tl m3 (λhl=>gc (FH hl) c.size) LB.out (λi hi=>(c.cell (p:=⟨(x4 q).lk,(x4 q).lo+i,none⟩) (FH ab)).trans (H.out.J5 q b i hi))).mono ?_;rintro e w1⟨rfl,a⟩;have c:=Below.on c a))
      all_goals (
       go_ret;have P1:eK ((x4 q).n 1) ((x4 q).n 2) 1 90=true:=ba;refine⟨aC ?_,c⟩;simp only[gM];rw[if_pos Xp.out,P1,E.out]
       first
        |(have t:(x4 q).n 1<max ((x4 q).n 4) (-(x4 q).n 3):=by assumption
          rw[if_pos (by rfl),if_pos ab];done)
        |(have t:max ((x4 q).n 4) (-(x4 q).n 3)<=(x4 q).n 1:=by assumption
          rw[if_pos (by rfl),if_neg ab]
          first
           |(have t1:¬bO ((x4 q).n 5) 0 (↑v-1)=true:=by assumption
             rw[aV t1];rfl)
           |(have t1:bO ((x4 q).n 5) 0 (↑v-1)=true:=by assumption
             first
              |(have t2:(!bO ((x4 q).n 6) 0 (p-1))=true:=by assumption
                have r:bO ((x4 q).n 6) 0 (p-1)=false:=by simpa using t2
                rw[t1,r];rfl)
              |(have t2:(!bO ((x4 q).n 6) 0 (p-1))=false:=by assumption
                have r:bO ((x4 q).n 6) 0 (p-1)=true:=by simpa using t2
                rw[t1,r,if_pos (by rfl)]
                first
                 |(have U:¬eK ((x4 q).n 7) ((x4 q).n 8) 1 60=true:=by assumption
                   rw[aV U];rfl)
                 |(have U:eK ((x4 q).n 7) ((x4 q).n 8) 1 60=true:=by assumption
                   first
                    |(have t4:(!eK ((x4 q).n 9) ((x4 q).n 10) 0 60)=true:=by assumption
                      have s:eK ((x4 q).n 9) ((x4 q).n 10) 0 60=false:=by simpa using t4
                      rw[U,s];rfl)
                    |(have t4:(!eK ((x4 q).n 9) ((x4 q).n 10) 0 60)=false:=by assumption
                      have s:eK ((x4 q).n 9) ((x4 q).n 10) 0 60=true:=by simpa using t4
                      rw[U,s,if_pos (by rfl)])))))
       done)
     .go_ret;have t:¬eK ((x4 q).n 1) ((x4 q).n 2) 1 90=true:=ba;exact⟨aC (by simp only[gM];rw[if_pos Xp.out,aV t];simp),c⟩
    .have E:=ii (aV D);clear D
     go_wp2_with (first|(go_at_call 30;((with_reducible refine(Ez E.out _).mono ?_);rintro e w1⟨rfl,a⟩;obtain⟨F,I⟩:=cW a;have c:=Below.on c a;have g:=ii ((a.block _ f).trans g.out);have k:=ii ((a.block _ d).trans k.out);have d:=gc d a.size;have f:=gc f a.size))|(go_at_call 30;refine(kB _ _ _ _ _).mono ?_;rintro e w1⟨rfl,a⟩;obtain⟨F,I⟩:=cW a;have c:=Below.on c a;have g:=ii ((a.block _ f).trans g.out);have k:=ii ((a.block _ d).trans k.out);have d:=gc d a.size;have f:=gc f a.size))
     all_goals (
      go_ret
      exact⟨aC (by simp only[gM];rw[if_pos Xp.out,E.out];simp),c⟩)
 .have y:=ii (aV x);clear x;go_enter (fx ao dT),eS
  go_wp2_with (go_at_call 58;refine(Ka y.out _ Y).mono ?_;rintro e w'⟨rfl,rfl⟩)
  go_ret;exact⟨aC (by simp[gM,iH,y.out]),((fO _ _).alloc (fY _) _).alloc ar _⟩
def EE(C:CD)(w:ad)(h:C.At w)(a:C.dP 0=0):bd PL 31 #[jx C.val] w (aO (jw kx (C.dP 2)) w):=
 Ic _ _ _ _ _ _ _ _ _ _ _ _ h.m3 (cK a).1 (cK a).2 h.h3 h.s3 h.Es h.Et h.Eu
def EF(C:CD)(w:ad)(h:C.At w)(a:C.dP 0=0)(b:C.dP 2=0):bd PL 31 #[jx C.val] w (aO (jw kx 0) w):=by
 have:=EE C w h a;rwa[b]at this
def aar(C:CD)(m:Nat)(w:ad)(h:C.At w)(a:m<C.n4)(b:1<=C.p)(c:C.p<=6)(d:gM C.p C.n2 C.n3 C.x4 m=0):bd PL 32 #[jx C.val,jw kx (m:Int)] w (aO (jw kx 0) w):=by
 have:=ED C m w h a b c;rwa[d]at this
def Rh(C:CD)(m:Nat)(w:ad)(h:C.At w)(a:m<C.n5)(b:iI C.n4 C.x5 m=0):bd PL 33 #[jx C.val,jw kx (m:Int)] w (aO (jw kx 0) w):=by
 have:=yx C m w h a;rwa[b]at this
def rK(C:CD)(w:ad)(h:C.At w):bd PL 11 #[jx C.val] w (aO (jw kx C.cx) w):=by
 have H:=ii h;have m2:=h.m2;have m4:=h.m4;have m5:=h.m5;have S:=h.h2;have S2:=ii h.s2;clear h;by_cases hl:bO C.l 1 999=true
 case neg=>
  have L:=ii (aV hl);clear hl;go_enter (fx ao da),eT
  go_wp2_with (first|(go_at_call 6;((with_reducible refine(vQ L.out _).mono ?_);rintro e w'⟨rfl,rfl⟩)))
  go_ret;have v:C.dP 0=1:=by simp[CD.dP,jd,L.out]
  exact⟨aC ((cR (m:=0) (λj b=>absurd b (f7 _)) ab (by rw[v];decide)).trans v),(fO _ _).alloc (fY _) _⟩
 case pos=>
 have L:=ii hl;clear hl;by_cases J:bO C.p 1 6=true
 case neg=>
  have P:=ii (aV J);clear J;go_enter (fx ao da),eT
  go_wp2_with (first|(go_at_call 6;((with_reducible refine(kH L.out _).mono ?_);rintro e w'⟨rfl,rfl⟩))|(go_at_call 6;((with_reducible refine(vQ P.out _).mono ?_);rintro e w'⟨rfl,rfl⟩)))
  go_ret;have v:C.dP 0=1:=by simp[CD.dP,jd,L.out,P.out]
  exact⟨aC ((cR (m:=0) (λj b=>absurd b (f7 _)) ab (by rw[v];decide)).trans v),(fO _ _).alloc (fY _) _⟩
 case pos=>
 have P:=ii J;clear J;have z0:C.dP 0=0:=by simp[CD.dP,jd,L.out,P.out]
 have n:=ii z0;clear z0;by_cases B:bO C.n2 1 3=true
 case neg=>
  have y:=ii (aV B);clear B;go_enter (fx ao da),eT
  go_wp2_with (first|(go_at_call 6;((with_reducible refine(kH L.out _).mono ?_);rintro e w'⟨rfl,rfl⟩))|(go_at_call 6;((with_reducible refine(kH P.out _).mono ?_);rintro e w'⟨rfl,rfl⟩))|(go_at_call 6;((with_reducible refine(vQ y.out _).mono ?_);rintro e w'⟨rfl,rfl⟩)))
  go_ret;have v:C.dP 1=2:=by simp[CD.dP,pq,y.out]
  exact⟨aC ((cR (m:=1) (λj b=>by(obtain rfl:j=0:=by omega);exact n.out) ab (by rw[v];decide)).trans v),(fO _ _).alloc (fY _) _⟩
 case pos=>
 have y:=ii B;have vI:0<C.n2:=by simp[bO]at B;omega
 clear B;go_enter (fx ao da),eT
 go_wp2_with (first|(go_at_call 6;((with_reducible refine(kH L.out _).mono ?_);rintro e w'⟨rfl,rfl⟩))|(go_at_call 6;((with_reducible refine(kH P.out _).mono ?_);rintro e w'⟨rfl,rfl⟩))|(go_at_call 6;((with_reducible refine(kH y.out _).mono ?_);rintro e w'⟨rfl,rfl⟩)))
 have K:=S2.out vI;rw[K];have Kf:=ii K;clear K
 go_loopw [3] (λi wr=>∃q:Nat,q<=C.n2/\i=jw kx q/\(∀j,j<q->eK (C.x2 j).1 (C.x2 j).2 0 90=true)/\wr.heap[w.heap.size]?=some (kY C.val 27)/\bA w wr) (λi _=>C.n2-(intOf i).toNat)
 case atStart=>exact⟨0,f6 _,rfl,λj b=>absurd b (f7 _),au _ _,(fO _ _).alloc (fY _) _⟩
 case round=>
  obtain⟨q,T,rfl,x,o,c⟩:=hrel;have U:=ii x;have d:=ii o;have f:w.heap.size<wr.heap.size:=getElem?_lt' o;clear x o;obtain⟨V,W,M,X,f4,Y⟩:=bf d.out;by_cases g:q<C.n2
  .have k0:=(c.cell (p:=⟨C.k2,C.o2+q*2,none⟩) S).trans (H.out.Ep q g);have k1:=(c.cell (p:=⟨C.k2,C.o2+q*2+1,none⟩) S).trans (H.out.Er q g);have i2:(q:Int)<C.n2:=ab;rw[Kf.out]at M;by_cases hi:eK (C.x2 q).1 (C.x2 q).2 0 90=true
   .have D:=ii hi;clear hi
    go_wp2_with (go_at_call 30;refine(Ey D.out _).mono ?_;rintro e w1⟨rfl,a⟩)
    refine⟨⟨q+1,g,by go_num,λj b=>?_,(a.block _ f).trans d.out,Below.on c a⟩,by simp[intOf];omega⟩
    rcases Nat.lt_succ_iff_lt_or_eq.1 b with h|h
    .exact U.out j h
    .rw[h];exact D.out
   .have D:=ii (aV hi);clear hi
    go_wp2_with (go_at_call 30;refine(Ez D.out _).mono ?_;rintro e w1⟨rfl,a⟩)
    go_ret;have e1:C.dP 1=1:=by
     have:((gy C.n2).all λi=>eK (C.x2 i).1 (C.x2 i).2 0 90)=false:=by
      rw[gB];exact⟨q,List.mem_range.2 g,by simp[D.out]⟩
     simp[CD.dP,pq,y.out,this]
    exact⟨aC ((cR (m:=1) (λj b=>by(obtain rfl:j=0:=by omega);exact n.out) ab (by rw[e1];decide)).trans e1),Below.on c a⟩
  .obtain rfl:q=C.n2:=ab;have z1:C.dP 1=0:=by
    have:((gy C.n2).all λi=>eK (C.x2 i).1 (C.x2 i).2 0 90)=true:=by
     rw[gD];intro j b;exact U.out j (List.mem_range.1 b)
    simp[CD.dP,pq,y.out,this]
   have z:=ii z1;clear z1;have k:=c;by_cases E:C.dP 2=0
   case neg=>
    have t:=ii E;have arE:(C.dP 2 != 0)=true:=by simpa using E
    clear E
    go_wp2_with (go_at_call 31;refine(EE C _ (H.out.below k) n.out).mono ?_;rintro e w1⟨rfl,a⟩;obtain⟨Z,lR⟩:=cW a;have k:=Below.on k a;have d:=ii ((a.block _ f).trans d.out);have f:=gc f a.size)
    go_ret
    exact⟨aC (cR (m:=2) (λj b=>by
     obtain rfl|rfl:j=0\/j=1:=ab
     .exact n.out
     .exact z.out) ab t.out),k⟩
   case pos=>
   have t:=ii E;clear E;by_cases u:bO C.n4 2 5=true
   case neg=>
    have A:=ii (aV u);clear u
    go_wp2_with (first|(go_at_call 31;refine(EF C _ (H.out.below k) n.out t.out).mono ?_;rintro e w1⟨rfl,a⟩;obtain⟨Z,lR⟩:=cW a;have k:=Below.on k a;have d:=ii ((a.block _ f).trans d.out);have f:=gc f a.size)|(go_at_call 6;((with_reducible refine(vQ A.out _).mono ?_);rintro e w'⟨rfl,rfl⟩)))
    go_ret;have F:C.dP 3=2:=by simp[CD.dP,kA,A.out]
    exact⟨aC ((cR (m:=3) (λj b=>by
     obtain rfl|rfl|rfl:j=0\/j=1\/j=2:=ab
     .exact n.out
     .exact z.out
     .exact t.out) ab (by rw[F];decide)).trans F),k⟩
   case pos=>
   have A:=ii u;clear u
   go_wp2_with (first|(go_at_call 31;refine(EF C _ (H.out.below k) n.out t.out).mono ?_;rintro e w1⟨rfl,a⟩;obtain⟨Z,lR⟩:=cW a;have k:=Below.on k a;have d:=ii ((a.block _ f).trans d.out);have f:=gc f a.size)|(go_at_call 6;((with_reducible refine(kH A.out _).mono ?_);rintro e w'⟨rfl,rfl⟩)))
   have Xi:=cK (l:=C.l) n.out;obtain⟨J0,tL⟩:=Xi;have HX1:=d;have arF:=k;obtain⟨wo,rfl⟩:=br w1
   go_loopw [5] (λi wr=>∃q:Nat,q<=C.n4/\i=jw kx q/\(∀j,j<q->gM C.p C.n2 C.n3 C.x4 j=0)/\wr.heap[w.heap.size]?=some (kY C.val 27)/\bA w wr) (λi _=>C.n4-(intOf i).toNat)
   case atStart=>exact⟨0,f6 _,rfl,λj b=>absurd b (f7 _),d.out,k⟩
   case round=>
    obtain⟨q,T,rfl,x,o,c⟩:=hrel;have N:=ii x;have d:=ii o;have f:w.heap.size<wr.heap.size:=getElem?_lt' o;clear x o;obtain⟨V,W,M,X,f4,Y⟩:=bf d.out;by_cases g:q<C.n4
    .by_cases r:gM C.p C.n2 C.n3 C.x4 q=0
     .have s:=ii r;clear r
      go_wp2_with (go_at_call 32;refine(aar C q _ (H.out.below c) g J0 tL s.out).mono ?_;rintro e w1⟨rfl,a⟩)
      refine⟨⟨q+1,g,by go_num,λj b=>?_,(a.block _ f).trans d.out,Below.on c a⟩,by simp[intOf];omega⟩
      rcases Nat.lt_succ_iff_lt_or_eq.1 b with h|h
      .exact N.out j h
      .rw[h];exact s.out
     .have s:=ii r;have Yt:(gM C.p C.n2 C.n3 C.x4 q != 0)=true:=by simpa using r
      clear r
      go_wp2_with (go_at_call 32;refine(ED C q _ (H.out.below c) g J0 tL).mono ?_;rintro e w1⟨rfl,a⟩)
      go_ret;have F:C.dP 3=gM C.p C.n2 C.n3 C.x4 q:=dI A.out N.out g rfl s.out
      exact⟨aC ((cR (m:=3) (λj b=>by
      obtain rfl|rfl|rfl:j=0\/j=1\/j=2:=ab
      .exact n.out
      .exact z.out
      .exact t.out) ab (by rw[F];exact s.out)).trans F),Below.on c a⟩
    .obtain rfl:q=C.n4:=ab;have z3:C.dP 3=0:=by
      show kA _ _ _ _ _=0;rw[kA,if_pos A.out];exact cz N.out
     have O:=ii z3;clear z3;by_cases Q:3<C.n5
     .go_wp2;go_ret;have I:C.dP 4=2:=by simp[CD.dP,pE,Q]
      exact⟨aC ((cR (m:=4) (λj b=>by
      obtain rfl|rfl|rfl|rfl:j=0\/j=1\/j=2\/j=3:=ab
      .exact n.out
      .exact z.out
      .exact t.out
      .exact O.out) ab (by rw[I];decide)).trans I),c⟩
     .obtain⟨wp,rfl⟩:=br wr;go_wp2
      go_loopw [7] (λi wr=>∃q:Nat,q<=C.n5/\i=jw kx q/\(∀j,j<q->iI C.n4 C.x5 j=0)/\wr.heap[w.heap.size]?=some (kY C.val 27)/\bA w wr) (λi _=>C.n5-(intOf i).toNat)
      case atStart=>exact⟨0,f6 _,rfl,λj b=>absurd b (f7 _),d.out,c⟩
      case round=>
       obtain⟨q,T,rfl,x,o,c⟩:=hrel;have R:=ii x;have d:=ii o;have f:w.heap.size<wr.heap.size:=getElem?_lt' o;clear x o;obtain⟨V,W,M,X,f4,Y⟩:=bf d.out;by_cases g:q<C.n5
       .by_cases r:iI C.n4 C.x5 q=0
        .have s:=ii r;clear r
         go_wp2_with (go_at_call 33;refine(Rh C q _ (H.out.below c) g s.out).mono ?_;rintro e w1⟨rfl,a⟩)
         refine⟨⟨q+1,g,by go_num,λj b=>?_,(a.block _ f).trans d.out,Below.on c a⟩,by simp[intOf];omega⟩
         rcases Nat.lt_succ_iff_lt_or_eq.1 b with h|h
         .exact R.out j h
         .rw[h];exact s.out
        .have s:=ii r;have Yt:(iI C.n4 C.x5 q != 0)=true:=by simpa using r
         clear r
         go_wp2_with (go_at_call 33;refine(yx C q _ (H.out.below c) g).mono ?_;rintro e w1⟨rfl,a⟩)
         go_ret;have I:C.dP 4=iI C.n4 C.x5 q:=ic Q R.out g rfl s.out
         exact⟨aC ((cR (m:=4) (λj b=>by
      obtain rfl|rfl|rfl|rfl:j=0\/j=1\/j=2\/j=3:=ab
      .exact n.out
      .exact z.out
      .exact t.out
      .exact O.out) ab (by rw[I];exact s.out)).trans I),Below.on c a⟩
       .obtain rfl:q=C.n5:=ab;go_wp2;go_ret;have z4:C.dP 4=0:=by
         show pE _ _ _=0;rw[pE,if_neg Q];exact cz R.out
        refine⟨aC (cz λj b=>?_),c⟩;obtain rfl|rfl|rfl|rfl|rfl:j=0\/j=1\/j=2\/j=3\/j=4:=ab
        .exact n.out
        .exact z.out
        .exact t.out
        .exact O.out
        .exact z4
structure CD.Mem(C:CD)(w:ad):Prop where
 h2:C.k2<w.heap.size
 h3:C.k3<w.heap.size
 h4:C.k4<w.heap.size
 h5:C.k5<w.heap.size
 s2:0<C.n2->C.b2=some ⟨C.k2,C.o2,none⟩
 s3:0<C.n3->C.b3=some ⟨C.k3,C.o3,none⟩
 s4:0<C.n4->C.b4=some ⟨C.k4,C.o4,none⟩
 s5:0<C.n5->C.b5=some ⟨C.k5,C.o5,none⟩
 Ep:∀i,i<C.n2->w.cell? ⟨C.k2,C.o2+i*2,none⟩=some (jw kx (C.x2 i).1)
 Er:∀i,i<C.n2->w.cell? ⟨C.k2,C.o2+i*2+1,none⟩=some (jw kx (C.x2 i).2)
 Es:∀i,i<C.n3->w.cell? ⟨C.k3,C.o3+i*3,none⟩=some (jw kx (C.x3 i).1)
 Et:∀i,i<C.n3->w.cell? ⟨C.k3,C.o3+i*3+1,none⟩=some (jw kx (C.x3 i).2.1)
 Eu:∀i,i<C.n3->w.cell? ⟨C.k3,C.o3+i*3+2,none⟩=some (jw kx (C.x3 i).2.2)
 AD:∀i,i<C.n4->w.cell? ⟨C.k4,C.o4+i*12,none⟩=some (jD (C.x4 i).name)
 dB:∀i,i<C.n4->∀j,1<=j->j<=10->w.cell? ⟨C.k4,C.o4+i*12+j,none⟩=some (jw kx ((C.x4 i).n j))
 nj:∀i,i<C.n4->w.cell? ⟨C.k4,C.o4+i*12+11,none⟩=some (jz (C.x4 i).lb (C.x4 i).ln (C.x4 i).lc)
 l4:∀i,i<C.n4->0<(C.x4 i).ln->(C.x4 i).lb=some ⟨(C.x4 i).lk,(C.x4 i).lo,none⟩/\(C.x4 i).lk<w.heap.size
 J5:∀i,i<C.n4->∀j,j<(C.x4 i).ln->w.cell? ⟨(C.x4 i).lk,(C.x4 i).lo+j,none⟩=some (jw kx ((C.x4 i).lane j))
 FI:∀i,i<C.n5->w.cell? ⟨C.k5,C.o5+i*3,none⟩=some (jD (C.x5 i).1)
 HU:∀i,i<C.n5->w.cell? ⟨C.k5,C.o5+i*3+1,none⟩=some (jw kx (C.x5 i).2.1)
 J6:∀i,i<C.n5->w.cell? ⟨C.k5,C.o5+i*3+2,none⟩=some (jw kx (C.x5 i).2.2)
def CD.small(C:CD):Bool:=decide (C.n2<=20)&&decide (C.n3<=20)&&decide (C.n4<=20)&&decide (C.n5<=20)&&((gy C.n4).all λi=>decide ((C.x4 i).name.size<=100)&&decide ((C.x4 i).ln<=20))&&((gy C.n5).all λi=>decide ((C.x5 i).1.size<=100))
def CD.At.Ri{C:CD}{w:ad}(h:C.Mem w)(hs:C.small=true):C.At w:=by
 simp only[CD.small,jl,decide_eq_true_eq,gD,g4]at hs;obtain⟨⟨⟨⟨⟨m2,m3⟩,m4⟩,m5⟩,n4⟩,n5⟩:=hs;obtain⟨h2,h3,h4,h5,s2,s3,s4,s5,Ep,Er,Es,Et,Eu,AD,dB,nj,l4,J5,FI,HU,J6⟩:=h;exact⟨m2,m3,m4,m5,h2,h3,h4,h5,s2,s3,s4,s5,Ep,Er,Es,Et,Eu,n4,AD,dB,nj,l4,J5,n5,FI,HU,J6⟩
def AK(C:CD)(w:ad)(h:C.Mem w):bd PL 10 #[jx C.val] w (aO (jt (!C.small)) w):=by
 have H:=ii h;have r:=h.h4;have x:=h.h5;clear h;by_cases hc:C.n2<=20/\C.n3<=20/\C.n4<=20/\C.n5<=20
 case neg=>
  have a:C.small=false:=by
   cases c:C.small with
   |false=>rfl
   |true=>
    simp only[CD.small,jl,decide_eq_true_eq]at c;omega
  have SM:=ii a;clear a;go_enter (fx ao cB),eV;go_wp2
  any_goals (
   go_ret
   exact⟨by rw[SM.out];rfl,(fO _ _).alloc (fY _) _⟩)
 case pos=>
 obtain⟨m2,m3,m4,m5⟩:=hc;go_enter (fx ao cB),eV;go_wp2;have y:=ii H.out.s4;have z:=ii H.out.s5
 go_loopw [3] (λi wr=>∃q:Nat,q<=C.n4/\i=jw kx q/\(∀j,j<q->(C.x4 j).name.size<=100/\(C.x4 j).ln<=20)/\wr.heap[w.heap.size]?=some (kY C.val 27)/\bA w wr) (λi _=>C.n4-(intOf i).toNat)
 case atStart=>exact⟨0,f6 _,rfl,λj e=>absurd e (f7 _),au _ _,(fO _ _).alloc (fY _) _⟩
 case round=>
  obtain⟨q,c,rfl,k,l,b⟩:=hrel;have s:=ii k;have f:=ii l;clear k l;obtain⟨A,B,D,E,f4,t⟩:=bf f.out;by_cases d:q<C.n4
  .rw[y.out ab]at f4;have k0:=(b.cell (p:=⟨C.k4,C.o4+q*12,none⟩) r).trans (H.out.AD q d);have k1:=(b.cell (p:=⟨C.k4,C.o4+q*12+11,none⟩) r).trans (H.out.nj q d);have F:(q:Int)<C.n4:=ab;by_cases g:(C.x4 q).name.size<=100/\(C.x4 q).ln<=20
   .obtain⟨m,n⟩:=g;go_wp2;refine⟨⟨q+1,d,by go_num,λj e=>?_,f.out,b⟩,by simp[intOf];omega⟩
    rcases Nat.lt_succ_iff_lt_or_eq.1 e with h|h
    .exact s.out j h
    .rw[h];exact⟨m,n⟩
   .have a:C.small=false:=by
     cases c:C.small with
     |false=>rfl
     |true=>
      simp only[CD.small,jl,decide_eq_true_eq,gD,g4]at c;exact absurd (c.1.2 q d) g
    have SM:=ii a;have o:100<(C.x4 q).name.size\/20<(C.x4 q).ln:=ab;clear a g;by_cases m:(C.x4 q).name.size<=100
    .have n:20<(C.x4 q).ln:=ab;clear o;go_wp2;go_ret;exact⟨by rw[SM.out];rfl,b⟩
    .clear o;go_wp2;go_ret;exact⟨by rw[SM.out];rfl,b⟩
  .obtain rfl:q=C.n4:=ab;obtain⟨u,rfl⟩:=br wr;go_wp2
   go_loopw [4] (λi wr=>∃q:Nat,q<=C.n5/\i=jw kx q/\(∀j,j<q->(C.x5 j).1.size<=100)/\wr.heap[w.heap.size]?=some (kY C.val 27)/\bA w wr) (λi _=>C.n5-(intOf i).toNat)
   case atStart=>exact⟨0,f6 _,rfl,λj e=>absurd e (f7 _),f.out,b⟩
   case round=>
    obtain⟨q,c,rfl,k,l,b⟩:=hrel;have v:=ii k;have f:=ii l;clear k l;obtain⟨A,B,D,E,f4,t⟩:=bf f.out;by_cases d:q<C.n5
    .rw[z.out ab]at t;have k0:=(b.cell (p:=⟨C.k5,C.o5+q*3,none⟩) x).trans (H.out.FI q d);have F:(q:Int)<C.n5:=ab;by_cases g:(C.x5 q).1.size<=100
     .go_wp2;refine⟨⟨q+1,d,by go_num,λj e=>?_,f.out,b⟩,by simp[intOf];omega⟩
      rcases Nat.lt_succ_iff_lt_or_eq.1 e with h|h
      .exact v.out j h
      .rw[h];exact g
     .have a:C.small=false:=by
       cases c:C.small with
       |false=>rfl
       |true=>
        simp only[CD.small,jl,decide_eq_true_eq,gD,g4]at c;exact absurd (c.2 q d) g
      have SM:=ii a;clear a;go_wp2;go_ret;exact⟨by rw[SM.out];rfl,b⟩
    .obtain rfl:q=C.n5:=ab;have a:C.small=true:=by
      simp only[CD.small,jl,decide_eq_true_eq,gD,g4];exact⟨⟨⟨⟨⟨m2,m3⟩,m4⟩,m5⟩,s.out⟩,v.out⟩
     have SM:=ii a;clear a;go_wp2;go_ret;exact⟨by rw[SM.out];rfl,b⟩
open Go.bJ Go.Deep
section
variable {H:Type}{enc:ac×aT->H}{W:ad}
def Td(enc:ac×aT->H)(W:ad)(t:ac)(cs:List aT):Prop:=∃n x,DataW.trod enc cv W 0 (λ_=>true) true n t cs=some x
def pF(cs:List aT)(o:Nat):Prop:=∃m,cs[o]?=some (jw kx m)
def Td.int{cs:List aT}(h:Td enc W 3 cs):∃m,cs=[jw kx m]:=by
 obtain⟨n,x,h⟩:=h;grind[DataW.trod_int,Tryz.underlying3]
def Td.str{cs:List aT}(h:Td enc W 9 cs):∃s,cs=[jD s]:=by
 obtain⟨n,x,h⟩:=h;grind[DataW.trod_string,Tryz.underlying9]
def Td.field{t:ac}{fs:Array Field}(a:Tryz.prog.underlying t=some (.struct fs)){cs:List aT}(h:Td enc W t cs){i:Nat}{f:Field}(hi:fs[i]?=some f):Td enc W f.type ((cs.drop f.offset).take (Tryz.prog.cellsOf f.type)):=by
 obtain⟨n,x,h⟩:=h;obtain⟨xs,m,_,_,_,hl,hf⟩:=DataW.trod_struct a h;have e:=hf i f hi;have b:i<xs.length:=aS;rw[g6 b]at e;exact⟨m,_,e⟩
def Td.len{t:ac}{fs:Array Field}(a:Tryz.prog.underlying t=some (.struct fs)){cs:List aT}(h:Td enc W t cs):cs.length=Tryz.prog.cellsOf t:=by
 obtain⟨n,x,h⟩:=h;obtain⟨xs,m,_,_,hl,_⟩:=DataW.trod_struct a h;exact hl
def Kg{cs:List aT}{o n:Nat}{l:List aT}(h:(cs.drop o).take n=l){j:Nat}(a:j<n):cs[o+j]?=l[j]?:=by
 grind
def Rk:Tryz.prog.cellsOf 3=1:=ae
def aat:Tryz.prog.cellsOf 9=1:=ae
def Kh:Tryz.prog.cellsOf 39=2:=ae
def Vl:Tryz.prog.cellsOf 88=3:=ae
def Ki:Tryz.prog.cellsOf 82=12:=ae
def Vm:Tryz.prog.cellsOf 84=3:=ae
theorem Vn:Tryz.prog.cellsOf 63=1:=ae
def Vo:Tryz.prog.cellsOf 27=6:=ae
def Vp:Tryz.prog.cellsOf 22=1:=ae
def Vq:Tryz.prog.cellsOf 23=1:=ae
def Vr:Tryz.prog.cellsOf 24=1:=ae
def Vs:Tryz.prog.cellsOf 25=1:=ae
def kC{cs:List aT}{o:Nat}(h:Td enc W 3 ((cs.drop o).take (Tryz.prog.cellsOf 3))):pF cs o:=by
 rw[Rk]at h;obtain⟨m,e⟩:=h.int;exact⟨m,by simpa using Kg e (j:=0) ao⟩
def Rm{cs:List aT}{o:Nat}(h:Td enc W 9 ((cs.drop o).take (Tryz.prog.cellsOf 9))):∃s,cs[o]?=some (jD s):=by
 rw[aat]at h;obtain⟨m,e⟩:=h.str;exact⟨m,by simpa using Kg e (j:=0) ao⟩
def yy{cs:List aT}(h:Td enc W 39 cs):pF cs 0/\pF cs 1:=⟨kC (h.field eW (i:=0) rfl),kC (h.field eW (i:=1) rfl)⟩
def wF{cs:List aT}{o:Nat}(h:Td enc W 39 ((cs.drop o).take (Tryz.prog.cellsOf 39))):pF cs o/\pF cs (o+1):=by
 obtain⟨⟨a,c⟩,⟨b,hb⟩⟩:=yy h;rw[Kh]at c hb;exact⟨⟨a,aS⟩,⟨b,aS⟩⟩
def Ie{cs:List aT}(h:Td enc W 88 cs):pF cs 0/\pF cs 1/\pF cs 2:=
 ⟨kC (h.field e6 (i:=0) rfl),kC (h.field e6 (i:=1) rfl),kC (h.field e6 (i:=2) rfl)⟩
def EI{cs:List aT}(h:Td enc W 84 cs):(∃s,cs[0]?=some (jD s))/\pF cs 1/\pF cs 2:=
 ⟨Rm (h.field e8 (i:=0) rfl),kC (h.field e8 (i:=1) rfl),kC (h.field e8 (i:=2) rfl)⟩
def Ni{cs:List aT}(h:Td enc W 82 cs):(∃s,cs[0]?=some (jD s))/\(∀j,1<=j->j<=10->pF cs j)/\∃u,cs[11]?=some u/\Td enc W 63 [u]:=by
 have c:=wF (h.field e9 (i:=1) rfl);have d:=wF (h.field e9 (i:=2) rfl);have g:=kC (h.field e9 (i:=3) rfl);have k:=kC (h.field e9 (i:=4) rfl);have e:=wF (h.field e9 (i:=5) rfl);have f:=wF (h.field e9 (i:=6) rfl);have l:=h.field e9 (i:=7) rfl;have hl:=h.len e9;rw[Ki]at hl;refine⟨Rm (h.field e9 (i:=0) rfl),λj a b=>?_,?_⟩
 .match j,a,b with
  |1,_,_=>exact c.1
  |2,_,_=>exact c.2
  |3,_,_=>exact d.1
  |4,_,_=>exact d.2
  |5,_,_=>exact g
  |6,_,_=>exact k
  |7,_,_=>exact e.1
  |8,_,_=>exact e.2
  |9,_,_=>exact f.1
  |10,_,_=>exact f.2
  |n+11,_,b=>exact absurd b ab
 .have hd:((cs.drop 11).take (Tryz.prog.cellsOf 63))=[cs[11]' ab]:=by
   grind[Vn,g7]
  simp_all
theorem aau(k o n:Nat):(⟨k,o,none⟩:bi).add n=⟨k,o+n,none⟩:=by
 unfold kd;grind
def Rn{t e d:Nat}(z:Tryz.prog.underlying t=some (.slice e))(hc:Tryz.prog.cellsOf e=d)(hs:0<d){u:aT}(h:Td enc W t [u]) :
 ∃(b:Option bi)(n c k o:Nat),u=jz b n c/\n<=c/\(b=none\/(∃a,b=some a/\Sb W a.block)\/(n=0/\c=0))/\(0<c->b=some ⟨k,o,none⟩)/\k<W.heap.size+1/\
  ∀i,i<n->∃cs,Td enc W e cs/\∀j,j<d->W.cell? ⟨k,o+i*d+j,none⟩=cs[j]?:=by
 obtain⟨fuel,x,h⟩:=h
 rcases open_slice z h with⟨e1,_⟩|⟨a,len,cap,m,n,D,I,e1,_,hl,_,A,_,r⟩
 .cases e1;exact⟨none,0,0,0,0,rfl,fY _,kG rfl,λh=>absurd h (gj _),ab,λi hi=>absurd hi (f7 _)⟩
 .cases e1;obtain rfl:m=cap:=A;rw[hc]at r
  rcases Nat.eq_zero_or_pos m with g|g
  .subst g;obtain rfl:len=0:=ab;exact⟨some a,0,0,0,0,rfl,fY _,kS (kS ⟨rfl,rfl⟩),λh=>absurd h (gj _),ab,λi hi=>absurd hi (f7 _)⟩
  .have cell:∀i,i<m->∃cs,Td enc W e cs/\cs.length=d/\∀j,j<d->W.cell? (a.add (i*d+j))=cs[j]?:=by
    intro i hi;obtain⟨cs,B,C⟩:=r i hi;obtain⟨_,v,l⟩:=World.cells?_some B;exact⟨cs,⟨n,_,C⟩,v,λj E=>by rw[<-l j E,Deep.add_add]⟩
   obtain⟨p,_,v,l⟩:=cell 0 g;have w:=l 0 hs;rw[g6 ab]at w;have f:W.cell? a=some p[0]:=by rw[<-w];unfold kd;simp
   obtain⟨k,o,s⟩:=a;have q:s=none:=by
    cases s with
    |none=>rfl
    |some _=>
     unfold iY at f;split at f<;>cases f
   subst q;have y:=(xA (F:=FF) f).2;have J:k<W.heap.size:=by
    obtain⟨_,_,_,hb⟩:=y;exact bE hb
   refine⟨some ⟨k,o,none⟩,len,m,k,o,rfl,hl,kS (kG ⟨_,rfl,y⟩),λ_=>rfl,ab,λi hi=>?_⟩;obtain⟨cs,K,_,L⟩:=cell i ab;grind[aau,gl]
theorem afv{w:ad}(a:w.heap=(cV FF W).heap){k o:Nat}{v:aT}(h:W.cell? ⟨k,o,none⟩=some v):w.cell? ⟨k,o,none⟩=some (rep FF W v):=by
 have e:w.cell? ⟨k,o,none⟩=(cV FF W).cell? ⟨k,o,none⟩:=by unfold iY;rw[a]
 rw[e];exact(xA h).1
def iT(n:Int):rep FF W (jw kx n)=jw kx n:=(oy FF W _).int _ _ rfl
def Kj(s:ByteArray):rep FF W (jD s)=jD s:=(oy FF W _).str _ rfl
instance:Inhabited iJ:=⟨⟨ByteArray.empty,λ_=>0,none,0,0,0,0,λ_=>0⟩⟩
def kD{t e a:Nat}(d:Tryz.prog.underlying t=some (.slice e))(hc:Tryz.prog.cellsOf e=a)(hs:0<a){u:aT}(h:Td enc W t [u]) :
 ∃(b:Option bi)(n c k o:Nat),rep FF W u=jz b n c/\(0<n->b=some ⟨k,o,none⟩)/\k<(cV FF W).heap.size/\
  ∀i,i<n->∃cs,Td enc W e cs/\∀j v,j<a->cs[j]?=some v->∀w:ad,w.heap=(cV FF W).heap->w.cell? ⟨k,o+i*a+j,none⟩=some (rep FF W v):=by
 obtain⟨b,n,c,k,o,rfl,hl,hb,l,f,g⟩:=Rn d hc hs h;obtain⟨b',e,m⟩:=(oy FF W (jz b n c)).sl b n c rfl hb;refine⟨b',n,c,k,o,e,λh=>aS,by rw[mT];exact f,λi hi=>?_⟩;obtain⟨cs,p,q⟩:=g i hi;grind[afv]
def EJ{cs:List aT}(h:Td enc W 27 cs):∃C:CD,C.val=(cs.map (rep FF W)).toArray/\∀w:ad,w.heap=(cV FF W).heap->C.Mem w:=by
 have hl:=h.len fb;rw[Vo]at hl;obtain⟨c0,c1,B,c3,D,E,rfl⟩:∃a b c d e f,cs=[a,b,c,d,e,f]:=by
  match cs,hl with
  |[a,b,c,d,e,f],_=>grind
 obtain⟨l,K⟩:=kC (h.field fb (i:=0) rfl);obtain⟨p,L⟩:=kC (h.field fb (i:=1) rfl);have Y:Td enc W 22 [B]:=by
  have:Td enc W 22 (([c0,c1,B,c3,D,E].drop 2).take (Tryz.prog.cellsOf 22)):=h.field fb (i:=2) rfl;rw[Vp]at this;exact this
 have Z:Td enc W 23 [c3]:=by
  have:Td enc W 23 (([c0,c1,B,c3,D,E].drop 3).take (Tryz.prog.cellsOf 23)):=h.field fb (i:=3) rfl;rw[Vq]at this;exact this
 have s4:Td enc W 24 [D]:=by
  have:Td enc W 24 (([c0,c1,B,c3,D,E].drop 4).take (Tryz.prog.cellsOf 24)):=h.field fb (i:=4) rfl;rw[Vr]at this;exact this
 have s5:Td enc W 25 [E]:=by
  have:Td enc W 25 (([c0,c1,B,c3,D,E].drop 5).take (Tryz.prog.cellsOf 25)):=h.field fb (i:=5) rfl;rw[Vs]at this;exact this
 obtain rfl:c0=jw kx l:=by simpa using K
 obtain rfl:c1=jw kx p:=by simpa using L
 obtain⟨b2,S,q2,k2,F,e2,p2,h2,a2⟩:=kD Tryz.underlying22 Kh ao Y;obtain⟨b3,T,q3,k3,s,e3,p3,h3,a3⟩:=kD Tryz.underlying23 Vl ao Z;obtain⟨b4,U,q4,t,v,e4,p4,h4,a4⟩:=kD Tryz.underlying24 Ki ao s4;obtain⟨b5,V,q5,y,z,e5,p5,h5,a5⟩:=kD Tryz.underlying25 Vm ao s5;obtain⟨x2,X⟩:∃x2:Nat->Int×Int,∀i,i<S->∀w:ad,w.heap=(cV FF W).heap->w.cell? ⟨k2,F+i*2,none⟩=some (jw kx (x2 i).1)/\w.cell? ⟨k2,F+i*2+1,none⟩=some (jw kx (x2 i).2):=by
  refine kf (p:=λi(x:Int×Int)=>∀w:ad,w.heap=(cV FF W).heap->w.cell? ⟨k2,F+i*2,none⟩=some (jw kx x.1)/\w.cell? ⟨k2,F+i*2+1,none⟩=some (jw kx x.2)) λi hi=>?_;obtain⟨cs,r,q⟩:=a2 i hi;obtain⟨⟨a,A⟩,⟨b,hb⟩⟩:=yy r;exact⟨(a,b),λw g=>⟨by have:=q 0 _ ao A w g;rwa[iT]at this,by have:=q 1 _ ao hb w g;rwa[iT]at this⟩⟩
 obtain⟨x3,M⟩:∃x3:Nat->Int×Int×Int,∀i,i<T->∀w:ad,w.heap=(cV FF W).heap->w.cell? ⟨k3,s+i*3,none⟩=some (jw kx (x3 i).1)/\w.cell? ⟨k3,s+i*3+1,none⟩=some (jw kx (x3 i).2.1)/\w.cell? ⟨k3,s+i*3+2,none⟩=some (jw kx (x3 i).2.2):=by
  refine kf (p:=λi(x:Int×Int×Int)=>∀w:ad,w.heap=(cV FF W).heap->w.cell? ⟨k3,s+i*3,none⟩=some (jw kx x.1)/\w.cell? ⟨k3,s+i*3+1,none⟩=some (jw kx x.2.1)/\w.cell? ⟨k3,s+i*3+2,none⟩=some (jw kx x.2.2)) λi hi=>?_;obtain⟨cs,r,q⟩:=a3 i hi;obtain⟨⟨a,A⟩,⟨b,hb⟩,⟨c,hc⟩⟩:=Ie r;exact⟨(a,b,c),λw g=>⟨by have:=q 0 _ ao A w g;rwa[iT]at this,by have:=q 1 _ ao hb w g;rwa[iT]at this,by have:=q 2 _ ao hc w g;rwa[iT]at this⟩⟩
 obtain⟨I,N⟩:∃I:Nat->ByteArray×Int×Int,∀i,i<V->∀w:ad,w.heap=(cV FF W).heap->w.cell? ⟨y,z+i*3,none⟩=some (jD (I i).1)/\w.cell? ⟨y,z+i*3+1,none⟩=some (jw kx (I i).2.1)/\w.cell? ⟨y,z+i*3+2,none⟩=some (jw kx (I i).2.2):=by
  refine kf (p:=λi(x:ByteArray×Int×Int)=>∀w:ad,w.heap=(cV FF W).heap->w.cell? ⟨y,z+i*3,none⟩=some (jD x.1)/\w.cell? ⟨y,z+i*3+1,none⟩=some (jw kx x.2.1)/\w.cell? ⟨y,z+i*3+2,none⟩=some (jw kx x.2.2)) λi hi=>?_;obtain⟨cs,r,q⟩:=a5 i hi;obtain⟨⟨a,A⟩,⟨b,hb⟩,⟨c,hc⟩⟩:=EI r;exact⟨(a,b,c),λw g=>⟨by have:=q 0 _ ao A w g;rwa[Kj]at this,by have:=q 1 _ ao hb w g;rwa[iT]at this,by have:=q 2 _ ao hc w g;rwa[iT]at this⟩⟩
 obtain⟨x4,f4⟩:∃x4:Nat->iJ,∀i,i<U->∀w:ad,w.heap=(cV FF W).heap->w.cell? ⟨t,v+i*12,none⟩=some (jD (x4 i).name)/\(∀j,1<=j->j<=10->w.cell? ⟨t,v+i*12+j,none⟩=some (jw kx ((x4 i).n j)))/\
  w.cell? ⟨t,v+i*12+11,none⟩=some (jz (x4 i).lb (x4 i).ln (x4 i).lc)/\(0<(x4 i).ln->(x4 i).lb=some ⟨(x4 i).lk,(x4 i).lo,none⟩/\(x4 i).lk<w.heap.size)/\∀j,j<(x4 i).ln->w.cell? ⟨(x4 i).lk,(x4 i).lo+j,none⟩=some (jw kx ((x4 i).lane j)):=by
  refine kf (p:=λi(x:iJ)=>∀w:ad,w.heap=(cV FF W).heap->w.cell? ⟨t,v+i*12,none⟩=some (jD x.name)/\(∀j,1<=j->j<=10->w.cell? ⟨t,v+i*12+j,none⟩=some (jw kx (x.n j)))/\
   w.cell? ⟨t,v+i*12+11,none⟩=some (jz x.lb x.ln x.lc)/\(0<x.ln->x.lb=some ⟨x.lk,x.lo,none⟩/\x.lk<w.heap.size)/\∀j,j<x.ln->w.cell? ⟨x.lk,x.lo+j,none⟩=some (jw kx (x.lane j))) λi hi=>?_
  obtain⟨cs,r,q⟩:=a4 i hi;obtain⟨⟨a,A⟩,hn,⟨u,hu,J4⟩⟩:=Ni r;obtain⟨O,P⟩:∃O:Nat->Int,∀j,j<11->1<=j->cs[j]?=some (jw kx (O j)):=kf (p:=λj(m:Int)=>1<=j->cs[j]?=some (jw kx m)) λj J=>by
   by_cases h1:1<=j
   .obtain⟨m,hm⟩:=hn j h1 ab;exact⟨m,λ_=>hm⟩
   grind
  obtain⟨b,n,c,k,o,e,pz,hk,al⟩:=kD Tryz.underlying63 Rk ao J4;obtain⟨Q,R⟩:∃Q:Nat->Int,∀j,j<n->∀w:ad,w.heap=(cV FF W).heap->w.cell? ⟨k,o+j,none⟩=some (jw kx (Q j)):=kf (p:=λj(m:Int)=>∀w:ad,w.heap=(cV FF W).heap->w.cell? ⟨k,o+j,none⟩=some (jw kx m)) λj J=>by
   obtain⟨cs,r,q⟩:=al j J;obtain⟨m,rfl⟩:=r.int;exact⟨m,λw g=>by have:=q 0 _ ao rfl w g;rw[iT,Nat.mul_one]at this;exact this⟩
  exact⟨⟨a,O,b,n,c,k,o,Q⟩,λw g=>⟨by have:=q 0 _ ao A w g;rwa[Kj]at this,λj j1 j2=>by have:=q j _ ab (P j ab j1) w g;rwa[iT]at this,
   by grind,λh=>⟨pz h,by rw[g];exact hk⟩,λj J=>R j J w g⟩⟩
 refine⟨⟨l,p,b2,k2,F,S,q2,x2,b3,k3,s,T,q3,x3,b4,t,v,U,q4,x4,b5,y,z,V,q5,I⟩,?_,λw g=>?_⟩
 .simp only[gE,List.map_nil,iT,e2,e3,e4,e5]
 .exact⟨by rw[g];exact h2,by rw[g];exact h3,by rw[g];exact h4,by rw[g];exact h5,p2,p3,p4,p5,λi hi=>(X i hi w g).1,λi hi=>(X i hi w g).2,λi hi=>(M i hi w g).1,λi hi=>(M i hi w g).2.1,λi hi=>(M i hi w g).2.2,
   λi hi=>(f4 i hi w g).1,λi hi=>(f4 i hi w g).2.1,λi hi=>(f4 i hi w g).2.2.1,λi hi=>(f4 i hi w g).2.2.2.1,λi hi=>(f4 i hi w g).2.2.2.2,λi hi=>(N i hi w g).1,λi hi=>(N i hi w g).2.1,λi hi=>(N i hi w g).2.2⟩
end
end Go.Proofs
namespace Go
section
variable {P:aa}{ops:Array bv}
def Region.fZ(ops:Array bv)(i:Nat):Option Tmp:=(ops[i]?).bind (·.dst)
def cS(ops:Array bv)(vs:Nat->aT):List Nat->Act->Act
 |[],a=>a
 |i::l,a=>cS ops vs l (a.put (Region.fZ ops i) (vs i))
def EK(a:Act)(d:Option Tmp)(v:aT):(a.put d v).tmps.size=a.tmps.size:=by
 cases d<;>simp[Act.put]
def put_defers(a:Act)(d:Option Tmp)(v:aT):(a.put d v).defers=a.defers:=by
 cases d<;>rfl
def Cg(a:Act)(d:Option Tmp)(v:aT)(t:Nat):(a.put d v).tmps[t]?=if d=some t/\t<a.tmps.size then some v else a.tmps[t]?:=by
 cases d with
 |none=>simp[Act.put]
 |some d=>
  simp only[Act.put,Array.getElem?_setIfInBounds,Option.some.injEq];grind
def uF(vs:Nat->aT):∀(l:List Nat)(a:Act),(cS ops vs l a).tmps.size=a.tmps.size
 |[],_=>rfl
 |i::l,a=>by rw[cS,uF vs l,EK]
def pG(vs:Nat->aT):∀(l:List Nat)(a:Act),(cS ops vs l a).defers=a.defers
 |[],_=>rfl
 |i::l,a=>by rw[cS,pG vs l,put_defers]
def gI(vs:Nat->aT)(t:Nat):∀(l:List Nat)(a:Act),(∀j∈l,Region.fZ ops j≠some t)->(cS ops vs l a).tmps[t]?=a.tmps[t]?
 |[],_,_=>rfl
 |i::l,a,h=>by rw[cS,gI vs t l _ λj b=>h j (g8 _ b),Cg,if_neg λe=>h i (g9 ..) e.1]
def gJ(vs:Nat->aT)(t j:Nat)(hd:∀k,Region.fZ ops k=some t->k=j)(b:Region.fZ ops j=some t):∀(l:List Nat)(a:Act),j∈l->(cS ops vs l a).tmps[t]?=if t<a.tmps.size then some (vs j) else none
 |i::l,a,h=>by
  rw[cS];by_cases hl:j∈l
  .rw[gJ vs t j hd b l _ hl,EK]
  .obtain rfl:i=j:=aS;rw[gI vs t l _ λk c e=>hl (hd k e▸c),Cg,b];grind
def Oper.dz(o:bv):Array Edge:=o.after.filter (kg .any)
theorem cH{o:bv}{e:Edge}:e∈o.dz↔e∈o.after/\kg .any e=true:=by simp[Oper.dz]
def qf(P:aa)(K:aT->ad->Prop):Result Next->Prop
 |jk (kt v) w=>K v w
 |jk kv w=>K undef w
 |jk (kq f args) w=>bd P f args w λe w'=>∃v,e=kw v/\K v w'
 |_=>False
@[go_sem] def Tm(K:aT->ad->Prop)(v:aT)(w:ad):qf P K (jk (kt v) w)=K v w:=rfl
@[go_sem] def Vt(K:aT->ad->Prop)(w:ad):qf P K (jk kv w)=K undef w:=rfl
@[go_sem] def Tn(K:aT->ad->Prop)(f:aP)(args:Array aT)(w:ad):qf P K (jk (kq f args) w)=bd P f args w λe w'=>∃v,e=kw v/\K v w':=rfl
@[go_sem] def fC(P:aa)(ops:Array bv)(K:aT->ad->Prop)(o:bv)(b:Act)(w:ad):Prop:=
 if kh o (b8 ops b.tmps) then qf P K ((bR b.eval o).run P w) else K undef w
def Region.Ig(ops:Array bv):Bool:=
 (gy ops.size).all λi=>match ops[i]? with
  |none=>true
  |some o=>(match o.op with | .select ..=>false|_=>true)&&(o.dz.toList.all λe=>decide (e.on<i)&&kg .any e) &&
   (gy ops.size).all λj=>match Region.fZ ops j with
    |none=>true
    |some d=>(j==i||o.dst != some d)&&(!(o.looksAt ops).contains d||o.dz.toList.any λe=>e.on==j)
structure tf(ops:Array bv):Prop where
 sel:∀(i:Nat)(o:bv),ops[i]?=some o->∀cs b,o.op≠Op.select cs b
 edge:∀(i:Nat)(o:bv),ops[i]?=some o->∀e∈o.dz,e.on<i/\kg .any e=true
 one:∀i j t,Region.fZ ops i=some t->Region.fZ ops j=some t->i=j
 look:∀(i:Nat)(o:bv),ops[i]?=some o->∀j t,Region.fZ ops j=some t->t∈o.looksAt ops->∃e∈o.dz,e.on=j
def yz{i t:Nat}(h:Region.fZ ops i=some t):i<ops.size:=by
 rcases gp i ops.size with b|b
 .exact b
 .simp[Region.fZ,fm b]at h
def Ro(h:Region.Ig ops=true):tf ops:=by
 have key:∀(i:Nat)(o:bv),ops[i]?=some o->(match o.op with | .select ..=>false|_=>true)=true/\(∀e∈o.dz,e.on<i/\kg .any e=true)/\∀j,j<ops.size->∀d,Region.fZ ops j=some d->(j=i\/o.dst≠some d)/\(d∈o.looksAt ops->∃e∈o.dz,e.on=j):=by
  intro i o c;have hi:i<ops.size:=(Array.getElem?_eq_some_iff.1 c).1;simp only[Region.Ig,gD,g4]at h;grind
 refine⟨λi o c cs b e=>?_,λi o c=>(key i o c).2.1,λi j t hi f=>?_,λi o c j t f hl=>((key i o c).2.2 j (yz f) t f).2 hl⟩
 .grind
 .have g:=yz hi;have c:ops[i]?=some ops[i]:=fo g;have hd:ops[i].dst=some t:=by simpa[Region.fZ,c]using hi
  rcases((key i _ c).2.2 j (yz f) t f).1 with e|e
  .exact e.symm
  .exact absurd hd e
section
variable {C:ad->Prop}{Le:ad->ad->Prop}{Φ:Nat->(Nat->aT)->ad->Prop}{a:Act}{Q:bC->Act->ad->Prop}
def upd(vs:Nat->aT)(i:Nat)(v:aT):Nat->aT:=λj=>if j=i then v else vs j
def cO(ops:Array bv)(listed:Array Bool):List Nat:=(gy ops.size).filter λi=>listed.getD i true
def AL{o:bv}{i:Nat}(c:tf ops)(f:ops[i]?=some o){l:List Nat}(hl:∀e∈o.dz,e.on∈l)(vs:Nat->aT)(t:Nat)(m:t∈o.looksAt ops) :
 (cS ops vs l a).tmps[t]?=(cS ops vs (gy i) a).tmps[t]?:=by
 by_cases h:∃j,Region.fZ ops j=some t
 .obtain⟨j,b⟩:=h;obtain⟨e,g,rfl⟩:=c.look i o f j t b m;rw[gJ vs t e.on (λk d=>c.one _ _ _ d b) b l a (hl e g),gJ vs t e.on (λk d=>c.one _ _ _ d b) b _ a (List.mem_range.2 (c.edge i o f e g).1)]
 .rw[gI vs t l a λj _ e=>h ⟨j,e⟩,gI vs t _ a λj _ e=>h ⟨j,e⟩]
def Nj{o:bv}{i:Nat}(b:tf ops)(c:ops[i]?=some o){l:List Nat}(hl:∀e∈o.dz,e.on∈l)(vs:Nat->aT) :
 bR (cS ops vs l a).eval o=bR (cS ops vs (gy i) a).eval o:=by
 refine b9 o (b.sel i o c) λx d=>?_
 cases x with
 |tmp t=>
  have f:t∈o.looksAt ops:=hh _ (List.mem_filterMap.2 ⟨.tmp t,by simpa using d,rfl⟩);simp only[Act.eval,fp,AL b c hl vs t f]
 |_=>rfl
def EL{o:bv}{i:Nat}(b:tf ops)(c:ops[i]?=some o){l:List Nat}(hl:∀e∈o.dz,e.on∈l)(vs:Nat->aT) :
 kh o (b8 ops (cS ops vs l a).tmps)=kh o (b8 ops (cS ops vs (gy i) a).tmps):=by
 unfold kh
 cases hg:o.guard with
 |none=>rfl
 |some d=>
  obtain⟨g,want⟩:=d;have hy:b8 ops (cS ops vs l a).tmps g=b8 ops (cS ops vs (gy i) a).tmps g:=by
   unfold b8
   cases f:(ops[g]?).bind (·.dst) with
   |none=>rfl
   |some t=>
    have:=AL (a:=a) b c hl vs t (by simp[Oper.looksAt,hg,f]);grind
  simp only[hy]
def Rp(g:tf ops){i:Nat}{o:bv}(q:ops[i]?=some o){listed:Array Bool}(hs:listed.size=ops.size)(s:listed.getD i true=false)(vs:Nat->aT)(v:aT) :
 (cS ops vs (cO ops listed) a).put o.dst v=cS ops (upd vs i v) (cO ops (listed.setIfInBounds i true)) a:=by
 have hi:i<ops.size:=(Array.getElem?_eq_some_iff.1 q).1;have l:Region.fZ ops i=o.dst:=by simp[Region.fZ,q]
 have r:∀j,j∈cO ops (listed.setIfInBounds i true)↔j=i\/j∈cO ops listed:=by
  intro j;simp only[cO,List.mem_filter,g4];by_cases e:i=j
  .subst e;simp[hi,hs]
  .have:(listed.setIfInBounds i true).getD j true=listed.getD j true:=bo;grind
 have u:i∉cO ops listed:=λh=>by
  have:=(List.mem_filter.1 h).2;rw[s]at this;cases this
 obtain⟨x,m⟩:=br ((cS ops vs (cO ops listed) a).put o.dst v);obtain⟨y,hy⟩:=br (cS ops (upd vs i v) (cO ops (listed.setIfInBounds i true)) a);have z:x.defers=y.defers:=by rw[m,hy,put_defers,pG,pG]
 have A:x.tmps=y.tmps:=by
  apply Array.ext_getElem?;intro t;rw[m,hy,Cg,uF];by_cases n:o.dst=some t
  .have d:Region.fZ ops i=some t:=l.trans n;rw[gJ _ t i (λk f=>g.one _ _ _ f d) d _ a ((r i).2 (kG rfl)),upd,if_pos rfl];by_cases p:t<a.tmps.size
   .simp[n,p]
   .rw[if_neg λe=>p e.2,if_neg p,fm (by rw[uF];omega)]
  .rw[if_neg λe=>n e.1];by_cases h:∃j,Region.fZ ops j=some t/\j∈cO ops listed
   .obtain⟨j,b,c⟩:=h;have w:j≠i:=λe=>u (e▸c);rw[gJ _ t j (λk f=>g.one _ _ _ f b) b _ a c,gJ _ t j (λk f=>g.one _ _ _ f b) b _ a ((r j).2 (kS c)),upd,if_neg w]
   .rw[gI _ t _ a λj b e=>h ⟨j,e,b⟩,gI _ t _ a λj b e=>?_];grind
 rw[<-m,<-hy];obtain⟨B,D⟩:=x;simp_all
section
variable (P:aa)(ops:Array bv)(C:ad->Prop)(Le:ad->ad->Prop)(E:Nat->Bool)(Φ:Nat->(Nat->aT)->ad->Prop)(Q:bC->Act->ad->Prop)
def cL:Nat->List bv->((Nat->aT)->Act)->Prop
 |i,[],b=>∀vs W,C W->(∀j,j<i->E j=false->Φ j vs W)->Q la (b vs) W
 |i,o::l,b=>@jn (λ_=>Prop)
  ((∀vs W,C W->(∀e∈o.dz,E e.on=false->Φ e.on vs W)->fC P ops (λu c=>C c/\Le W c/\Φ i (upd vs i u) c) o (b vs) W)/\cL (i+1) l λvs=>(b vs).put o.dst (vs i))
  (∃v,(∀vs W,C W->(∀e∈o.dz,E e.on=false->Φ e.on vs W)->fC P ops (λu c=>u=v/\C c/\Le W c) o (b vs) W)/\cL (i+1) l λvs=>(b vs).put o.dst v) (E i)
end
def cP{E:Nat->Bool}{i:Nat}{b:(Nat->aT)->Act}(h:∀vs W,C W->(∀j,j<i->E j=false->Φ j vs W)->Q la (b vs) W):cL P ops C Le E Φ Q i [] b:=h
def EM{E:Nat->Bool}{i:Nat}{o:bv}{l:List bv}{b:(Nat->aT)->Act}(v:aT)(hE:E i=true)
 (h:∀vs W,C W->(∀e∈o.dz,E e.on=false->Φ e.on vs W)->fC P ops (λu c=>u=v/\C c/\Le W c) o (b vs) W) (d:cL P ops C Le E Φ Q (i+1) l λvs=>(b vs).put o.dst v):cL P ops C Le E Φ Q i (o::l) b:=by
 rw[cL,hE];exact⟨v,h,d⟩
def EN{E:Nat->Bool}{i:Nat}{o:bv}{l:List bv}{b:(Nat->aT)->Act}(hE:E i=false)
 (h:∀vs W,C W->(∀e∈o.dz,E e.on=false->Φ e.on vs W)->fC P ops (λu c=>C c/\Le W c/\Φ i (upd vs i u) c) o (b vs) W) (d:cL P ops C Le E Φ Q (i+1) l λvs=>(b vs).put o.dst (vs i)):cL P ops C Le E Φ Q i (o::l) b:=by
 rw[cL,hE];exact⟨h,d⟩
def aY{E:Nat->Bool}{i:Nat}{o:bv}{l:List bv}{b b':(Nat->aT)->Act}(v:aT)(hE:E i=true)
 (h:∀vs W,C W->(∀e∈o.dz,E e.on=false->Φ e.on vs W)->fC P ops (λu c=>u=v/\C c/\Le W c) o (b vs) W) (hb:∀vs,(b vs).put o.dst v=b' vs) (d:cL P ops C Le E Φ Q (i+1) l b'):cL P ops C Le E Φ Q i (o::l) b:=
 EM v hE h ((funext hb:(λvs=>(b vs).put o.dst v)=b')▸d)
def eH{E:Nat->Bool}{i:Nat}{o:bv}{l:List bv}{b b':(Nat->aT)->Act}(hE:E i=false)
 (h:∀vs W,C W->(∀e∈o.dz,E e.on=false->Φ e.on vs W)->fC P ops (λu c=>C c/\Le W c/\Φ i (upd vs i u) c) o (b vs) W) (hb:∀vs,(b vs).put o.dst (vs i)=b' vs) (d:cL P ops C Le E Φ Q (i+1) l b'):cL P ops C Le E Φ Q i (o::l) b:=
 EN hE h ((funext hb:(λvs=>(b vs).put o.dst (vs i))=b')▸d)
def H9{p:Prop}(h:p:=by intro vs;simp only[Act.put,List.setIfInBounds_toArray,List.set_cons_zero,List.set_cons_succ];rfl):p:=h
def uG(vs:Nat->aT)(i:Nat):∀(l:List Nat)(a:Act),cS ops vs (l++[i]) a=(cS ops vs l a).put (Region.fZ ops i) (vs i)
 |[],_=>rfl
 |j::l,a=>by simp only[ht,cS];exact uG vs i l _
def yA{vs b:Nat->aT}:∀(l:List Nat)(a:Act),(∀j∈l,vs j=b j)->cS ops vs l a=cS ops b l a
 |[],_,_=>rfl
 |j::l,a,h=>by simp only[cS];rw[h j (g9 ..)];exact yA l _ λk c=>h k (g8 _ c)
def vR(E:Nat->Bool)(V vs:Nat->aT):Nat->aT:=λj=>if E j then V j else vs j
def Ch{K d:aT->ad->Prop}(h:∀v W,K v W->d v W):∀{r:Result Next},qf P K r->qf P d r:=by
 intro r H
 match r,H with
 |jk (kt v) b,H=>exact h v b H
 |jk kv b,H=>exact h undef b H
 |jk (kq f args) b,H=>exact Calls.mono H λe c⟨v,g,i⟩=>⟨v,g,h v c i⟩
def nu{K c:aT->ad->Prop}(h:∀v W,K v W->c v W){o:bv}{b:Act}{W:ad}(H:fC P ops K o b W):fC P ops c o b W:=by
 unfold fC at *;split
 .rename_i d;rw[if_pos d]at H;exact Ch h H
 grind
def EO{o:bv}{i:Nat}(c:tf ops)(g:ops[i]?=some o){vs d:Nat->aT}(hv:∀e∈o.dz,vs e.on=d e.on)(t:Nat)(n:t∈o.looksAt ops) :
 (cS ops vs (gy i) a).tmps[t]?=(cS ops d (gy i) a).tmps[t]?:=by
 by_cases h:∃j,Region.fZ ops j=some t
 .obtain⟨j,b⟩:=h;obtain⟨e,l,rfl⟩:=c.look i o g j t b n;have m:=List.mem_range.2 (c.edge i o g e l).1;rw[gJ vs t e.on (λk f=>c.one _ _ _ f b) b _ a m,gJ d t e.on (λk f=>c.one _ _ _ f b) b _ a m,hv e l]
 .rw[gI vs t _ a λj _ e=>h ⟨j,e⟩,gI d t _ a λj _ e=>h ⟨j,e⟩]
def Nk{o:bv}{i:Nat}(c:tf ops)(d:ops[i]?=some o){vs b:Nat->aT}(hv:∀e∈o.dz,vs e.on=b e.on){K:aT->ad->Prop}{W:ad}
 (H:fC P ops K o (cS ops vs (gy i) a) W):fC P ops K o (cS ops b (gy i) a) W:=by
 have e1:bR (cS ops b (gy i) a).eval o=bR (cS ops vs (gy i) a).eval o:=by
  refine b9 o (c.sel i o d) λx h=>?_
  cases x with
  |tmp t=>
   have f:t∈o.looksAt ops:=hh _ (List.mem_filterMap.2 ⟨.tmp t,by simpa using h,rfl⟩);simp only[Act.eval,fp,EO (a:=a) c d hv t f]
  |_=>rfl
 have j:kh o (b8 ops (cS ops b (gy i) a).tmps)=kh o (b8 ops (cS ops vs (gy i) a).tmps):=by
  unfold kh
  cases hg:o.guard with
  |none=>rfl
  |some k=>
   obtain⟨g,want⟩:=k;have hy:b8 ops (cS ops b (gy i) a).tmps g=b8 ops (cS ops vs (gy i) a).tmps g:=by
    unfold b8
    cases f:(ops[g]?).bind (·.dst) with
    |none=>rfl
    |some t=>
     have:=EO (a:=a) c d hv t (by simp[Oper.looksAt,hg,f]);grind
   simp only[hy]
 unfold fC at H ⊢;rw[e1,j];exact H
end
end
section
variable {P:aa}{ops:Array bv}{C:ad->Prop}{Le:ad->ad->Prop}{Φ:Nat->(Nat->aT)->ad->Prop}{a:Act}{Q:bC->Act->ad->Prop}
def Region.Ih(ops:Array bv)(i:Nat):List Nat:=match ops[i]? with
 |none=>[]
 |some o=>o.dz.toList.map Edge.on
def Region.Ci(ops:Array bv):Nat->List Nat->List Nat
 |0,s=>s
 |f+1,s=>Region.Ci ops f (s++s.flatMap (Region.Ih ops)).eraseDups
def AM(p:Nat->Prop)(b:∀i,p i->∀j∈Region.Ih ops i,p j):∀(f:Nat)(s:List Nat),(∀i∈s,p i)->∀i∈Region.Ci ops f s,p i
 |0,_,h=>h
 |f+1,s,h=>AM p b f _ λi hi=>by
  grind [List.mem_eraseDups]
structure Late(ops:Array bv)(k:Nat):Prop where
 all:∀(i:Nat)(o:bv),ops[i]?=some o->k<=i->∀j,j<k->j∈Region.Ci ops 4 (Region.Ih ops i)
 one:∀(i:Nat)(o:bv),ops[i]?=some o->k<i->∃e∈o.dz,e.on+1=i
def Region.Kk(ops:Array bv)(k:Nat):Bool:=decide (k<=ops.size)&&(gy ops.size).all λi=>match ops[i]? with
 |none=>true
 |some o=>decide (i<k)||(((gy k).all λj=>(Region.Ci ops 4 (Region.Ih ops i)).contains j)&&(i==k||o.dz.toList.any λe=>e.on+1==i))
def Kl{k:Nat}(h:Region.Kk ops k=true):k<=ops.size/\Late ops k:=by
 simp only[Region.Kk,jl,decide_eq_true_eq,gD,g4]at h;obtain⟨c,h⟩:=h;refine⟨c,λi o b hi j d=>?_,λi o b hi=>?_⟩
 .have:=h i (Array.getElem?_eq_some_iff.1 b).1;rw[b]at this;simp only[Bool.or_eq_true,decide_eq_true_eq,jl,gD,g4,List.any_eq_true,beq_iff_eq]at this;grind
 grind
def yB(p:tf ops){k:Nat}(q:Late ops k):∀(fuel m:Nat)(listed:Array Bool)(b:Act)(W:ad),listed.size=ops.size->k<=m->m+fuel=ops.size->(∀j,j<ops.size->listed.getD j true=decide (j<m))->
 bL P ops Q (ops.toList.drop m) b W->wpAny P .any ops Q fuel listed b W
 |0,m,listed,b,W,hs,t,u,hl,h=>by
  have e:ops.toList.drop m=[]:=List.drop_eq_nil_of_le (by simp;omega);rw[e]at h;refine⟨List.filter_eq_nil_iff.2 λi hi=>?_,h⟩;grind
 |fuel+1,m,listed,b,W,hs,t,u,hl,h=>by
  have f:m<ops.size:=ab;have l:ops[m]?=some ops[m]:=fo f;have hd:ops.toList.drop m=ops[m]::ops.toList.drop (m+1):=by
   rw[g7 (by simpa using f)];simp
  have r:m∈ki .any ops listed:=by
   refine List.mem_filter.2 ⟨List.mem_range.2 f,?_⟩;rw[hl m f];simp only[gj,decide_false,jp,jr,l,kj,km,ft];intro e s
   cases hb:kg .any e with
   |false=>rfl
   |true=>
    have v:=(p.edge m _ l e (cH.2 ⟨s,hb⟩)).1;grind
  refine⟨λw=>(by rw[w]at r;cases r),λi hi=>?_⟩;have n:i=m:=by
   obtain⟨x,o⟩:=List.mem_filter.1 hi;have c:=List.mem_range.1 x;have d:ops[i]?=some ops[i]:=fo c;rw[d,hl i c]at o;simp only[jl,js,decide_eq_false_iff_not,kj,km,ft]at o;obtain⟨D,E⟩:=o
   rcases gp m i with v|F
   .obtain⟨e,s,y⟩:=q.one i _ d ab;grind[cH]
   .omega
  subst n;rw[hd]at h;unfold wpOp;simp only[l];have next:∀b' g,bL P ops Q (ops.toList.drop (i+1)) b' g->wpAny P .any ops Q fuel (listed.setIfInBounds i true) b' g:=λb' g z=>by
   refine yB p q fuel (i+1) _ b' g (by simpa using hs) ab ab (λj A=>?_) z;by_cases e:i=j
   .subst e;simp[hs,A]
   .have:(listed.setIfInBounds i true).getD j true=listed.getD j true:=bo;grind
  rw[bL]at h;split
  .rename_i B;rw[if_pos B]at h;exact h.imp (Oper.wp_mono next) id
  grind
end
section
variable {P:aa}{ops:Array bv}{C:Bool->ad->Prop}{Le:ad->ad->Prop}{Φ:Bool->Nat->(Nat->aT)->ad->Prop}{X:Nat->Nat->aT->aT->Prop}{a:Act}{Q:bC->Act->ad->Prop}
set_option maxHeartbeats 4000000 in
def Cj{m:Nat}(hO:tf ops){k:Nat}(hL:Late ops k)(By:k<=ops.size)(hX:∀i j u v,X i j u v->X j i v u)(rL:∀(i:Nat)(o:bv),ops[i]?=some o->∀vs eX W,vs i=eX i->(∀e∈o.dz,vs e.on=eX e.on)->∀b,Φ b i vs W->Φ b i eX W)
 (aB:∀(i:Nat)(o:bv),ops[i]?=some o->i<k->∀vs W(D:List Nat)(b:Bool),(i=m->b=false)->C b W->(∀e∈o.dz,e.on∈D)->i∉D->(∀j∈D,j<ops.size)->(∀j∈D,∀o,ops[j]?=some o->∀e∈o.dz,e.on∈D)->(∀j∈D,Φ b j vs W)->(∀j∈D,∀k∈D,j≠k->X j k (vs j) (vs k))->fC P ops (λv W'=>C (b||decide (i=m)) W'/\(∀j∈D,Φ (b||decide (i=m)) j vs W')/\Φ (b||decide (i=m)) i (upd vs i v) W'/\∀j∈D,X j i (vs j) v) o (cS ops vs (gy i) a) W)
 (hQ:∀vs W b,(m<k->b=true)->C b W->(∀i,i<k->Φ b i vs W)->(∀i j,i<k->j<k->i≠j->X i j (vs i) (vs j))->bL P ops Q (ops.toList.drop k) (cS ops vs (gy k) a) W) :
 ∀(fuel:Nat)(listed:Array Bool)(vs:Nat->aT)(W:ad),listed.size=ops.size->(gy ops.size).countP (λi=>!listed.getD i true)=fuel->C (listed.getD m false) W->(∀i∈cO ops listed,Φ (listed.getD m false) i vs W)->(∀i∈cO ops listed,∀j∈cO ops listed,i≠j->X i j (vs i) (vs j))->(∀i∈cO ops listed,∀o,ops[i]?=some o->∀e∈o.dz,e.on∈cO ops listed)->(∀i,k<=i->i<ops.size->listed.getD i true=false)->
  wpAny P .any ops Q fuel listed (cS ops vs (cO ops listed) a) W:=by
 have fin:∀(fuel:Nat)(listed:Array Bool)(vs:Nat->aT)(W:ad),listed.size=ops.size->(gy ops.size).countP (λi=>!listed.getD i true)=fuel->(∀i,i<k->listed.getD i true=true)->(∀i,k<=i->i<ops.size->listed.getD i true=false)->C (listed.getD m false) W->(∀i∈cO ops listed,Φ (listed.getD m false) i vs W)->(∀i∈cO ops listed,∀j∈cO ops listed,i≠j->X i j (vs i) (vs j))->wpAny P .any ops Q fuel listed (cS ops vs (cO ops listed) a) W:=by
  intro fuel listed vs W hs hc oh AO hC FL hP;have aaw:∀j,j<ops.size->listed.getD j true=decide (j<k):=λj hj=>by
   grind
  have e:cO ops listed=gy k:=by
   unfold cO;have:(gy ops.size).filter (λi=>listed.getD i true)=(gy ops.size).filter (λi=>decide (i<k)):=List.filter_congr λi hi=>aaw i (List.mem_range.1 hi);rw[this];have e2:gy ops.size=gy k++(gy (ops.size-k)).map (k + ·):=by
    rw[<-hG];congr 1;omega
   rw[e2,List.filter_append,List.filter_eq_self.2 λi hi=>aS,List.filter_eq_nil_iff.2 λi hi=>?_,List.append_nil];grind
  have afx:k+fuel=ops.size:=by
   rw[<-hc];have:(gy ops.size).countP (λi=>!listed.getD i true)=(gy ops.size).countP (λi=>decide (¬i<k)):=hH λi hi=>aS;rw[this];have e2:gy ops.size=gy k++(gy (ops.size-k)).map (k + ·):=by
    rw[<-hG];congr 1;omega
   rw[e2,List.countP_append,List.countP_eq_zero.2 λi hi=>?_,List.countP_eq_length.2 λi hi=>?_]
   .simp;omega
   .grind
   grind
  rw[e]at FL hP ⊢;exact yB hO hL fuel k listed _ W hs (fY _) afx aaw (hQ vs W _ (λhmk=>aS) hC (λi hi=>FL i (List.mem_range.2 hi)) λi j hi hj=>hP i (List.mem_range.2 hi) j (List.mem_range.2 hj))
 have nil:∀(listed:Array Bool),listed.size=ops.size->ki .any ops listed=[]->∀i,i<ops.size->listed.getD i true=true:=by
  intro listed hs hr i
  induction i using gr with
  |_ i ih=>
   intro hi;by_cases hu:listed.getD i true=true
   .exact hu
   .have nt:i∈ki .any ops listed:=by
     refine List.mem_filter.2 ⟨List.mem_range.2 hi,?_⟩;have ho:ops[i]?=some ops[i]:=fo hi;have hu':listed.getD i true=false:=by simpa using hu
     simp only[hu',jp,jr,ho,kj,km,ft];intro e he
     cases hb:kg .any e with
     |false=>rfl
     |true=>
      have aH:=(hO.edge i _ ho e (cH.2 ⟨he,hb⟩)).1;grind
    grind
 intro fuel
 induction fuel with
 |zero=>
  intro listed vs W hs hc hC FL hP _ AO;refine fin 0 listed vs W hs hc (λi hi=>?_) AO hC FL hP;have:=List.countP_eq_zero.1 hc i (List.mem_range.2 ab);simpa using this
 |succ fuel ih=>
  intro listed vs W hs hc hC FL hP hdc AO;by_cases Rq:∀i,i<k->listed.getD i true=true
  .grind
  refine⟨λhr=>absurd (λi hi=>nil listed hs hr i ab) Rq,λi hi=>?_⟩;obtain⟨Gu,Xj⟩:=List.mem_filter.1 hi;have hil:=List.mem_range.1 Gu;have ho:ops[i]?=some ops[i]:=fo hil;rw[ho]at Xj;simp only[jl,js,kj,km,ft]at Xj;obtain⟨vG,oh⟩:=Xj;have EP:∀e∈ops[i].dz,e.on∈cO ops listed:=λe he=>by
   have:=oh e (cH.1 he).1;have hb:=hO.edge i _ ho e he;rw[hb.2]at this;have Fz:e.on<listed.size:=ab;simp[Fz]at this;exact List.mem_filter.2 ⟨List.mem_range.2 ab,by simp[Fz,this]⟩
  have hik:i<k:=by
   rcases gp i k with h|h
   .exact h
   .refine absurd (λj hj=>?_) Rq;have key:=AM (ops:=ops) (λx=>x∈cO ops listed) (λx hx y hy=>?_) 4 (Region.Ih ops i) (λy hy=>?_) j (hL.all i _ ho h j hj)
    .exact(List.mem_filter.1 key).2
    .have hxo:ops[x]?=some ops[x]!:=by
      have:=List.mem_range.1 (List.mem_filter.1 hx).1;simp[this]
     unfold Region.Ih at hy;grind
    .unfold Region.Ih at hy;grind
  have ald:i∉cO ops listed:=λhj=>by
   have:=(List.mem_filter.1 hj).2;rw[vG]at this;cases this
  have H:=aB i _ ho hik vs W (cO ops listed) (listed.getD m false) (λe=>aS) hC EP ald (λj hj=>List.mem_range.1 (List.mem_filter.1 hj).1) hdc FL hP;have next:∀v W',(C (listed.getD m false||decide (i=m)) W'/\(∀j∈cO ops listed,Φ (listed.getD m false||decide (i=m)) j vs W')/\Φ (listed.getD m false||decide (i=m)) i (upd vs i v) W'/\∀j∈cO ops listed,X j i (vs j) v)->wpAny P .any ops Q fuel (listed.setIfInBounds i true) ((cS ops vs (cO ops listed) a).put ops[i].dst v) W':=by
   rintro v W'⟨hC0,hle,hv,hx⟩;have hC':C ((listed.setIfInBounds i true).getD m false) W':=by
    have e:(listed.setIfInBounds i true).getD m false=(listed.getD m false||decide (i=m)):=by
     by_cases e:i=m
     .subst e;have h2:i<listed.size:=ab;simp[h2]
     .simp[fl e,e]
    rw[e];exact hC0
   have e0:(listed.getD m false||decide (i=m))=(listed.setIfInBounds i true).getD m false:=by
    by_cases e:i=m
    .subst e;have h2:i<listed.size:=ab;simp[h2]
    .simp[fl e,e]
   rw[e0]at hle hv;rw[Rp hO ho hs vG vs v];have nt:∀j,j∈cO ops (listed.setIfInBounds i true)->j=i\/j∈cO ops listed:=λj hj=>by
    obtain⟨h1,h2⟩:=List.mem_filter.1 hj;by_cases e:j=i
    .exact kG e
    .exact kS (List.mem_filter.2 ⟨h1,by simpa[fl (Ne.symm e)]using h2⟩)
   have Xs:∀j,j∈cO ops listed->j∈cO ops (listed.setIfInBounds i true):=λj hj=>by
    obtain⟨h1,h2⟩:=List.mem_filter.1 hj;by_cases e:j=i
    .grind
    .exact List.mem_filter.2 ⟨h1,by simpa[fl (Ne.symm e)]using h2⟩
   have Xr:∀j,j∈cO ops listed->j≠i:=λj hj e=>by
    grind
   refine ih _ _ W' (by simpa using hs) ?_ hC' (λj hj=>?_) (λj hj k hk Wk=>?_) (λj hj o' qx e he=>?_) (λj hj hjn=>by have bu:i≠j:=ab;simpa[fl bu]using AO j hj hjn)
   .have h1:(gy ops.size).countP (λj=>!listed.getD j true)=(gy ops.size).countP (λj=>!(listed.setIfInBounds i true).getD j true)+1:=by
     have key:∀l:List Nat,l.Nodup->i∈l->l.countP (λj=>!listed.getD j true)=l.countP (λj=>!(listed.setIfInBounds i true).getD j true)+1:=by
      intro l hn
      induction l with
      |nil=>intro h;cases h
      |cons k l ih=>
       intro h;obtain⟨hk,TH⟩:=List.nodup_cons.1 hn;by_cases e:k=i
       .subst e;have same:l.countP (λj=>!listed.getD j true)=l.countP (λj=>!(listed.setIfInBounds k true).getD j true):=by
         refine hH λj hj=>?_;have bu:k≠j:=λe=>hk (e▸hj);simp[fl bu]
        have hks:k<listed.size:=ab;rw[hI,hI,same,vG];simp[hks]
       .have hil:i∈l:=aS;have bu:i≠k:=λe'=>e e'.symm;rw[hI,hI,ih TH hil];have:(listed.setIfInBounds i true).getD k true=listed.getD k true:=by simp[fl bu]
        grind
     exact key _ List.nodup_range Gu
    omega
   .rcases nt j hj with rfl|zK
    .exact hv
    .have hjo:ops[j]?=some ops[j]!:=by
      have:=List.mem_range.1 (List.mem_filter.1 zK).1;simp[this]
     refine rL j _ hjo vs _ W' ?_ (λe he=>?_) _ (hle j zK)
     .simp only[upd];rw[if_neg (Xr j zK)]
     .have:=Xr _ (hdc j zK _ hjo e he);simp only[upd];rw[if_neg this]
   .rcases nt j hj with rfl|zK
    .rcases nt k hk with rfl|rm
     .exact absurd rfl Wk
     .simp only[upd,if_pos,if_neg (Xr k rm)];exact hX _ _ _ _ (hx k rm)
    .rcases nt k hk with rfl|rm
     .simp only[upd,if_pos,if_neg (Xr j zK)];exact hx j zK
     .simp only[upd,if_neg (Xr j zK),if_neg (Xr k rm)];exact hP j zK k rm Wk
   grind
  unfold wpOp;simp only[ho];unfold fC at H;rw[<-EL (a:=a) hO ho EP vs,<-Nj (a:=a) hO ho EP vs]at H;split
  .rename_i hw;rw[if_pos hw]at H;left;unfold Oper.wp;generalize(bR (cS ops vs (cO ops listed) a).eval ops[i]).run P W=r at H ⊢
   match r,H with
   |jk (kt v) W',H=>exact next v W' H
   |jk kv W',H=>exact next undef W' H
   |jk (kq f args) W',H=>exact Calls.mono H λe W''⟨v,he,hk⟩=>by subst he;exact next v W'' hk
  grind
section
variable (P:aa)(ops:Array bv)(m:Nat)(C:Bool->ad->Prop)(Le:ad->ad->Prop)(E:Nat->Bool)(Φ:Bool->Nat->(Nat->aT)->ad->Prop)(X:Nat->Nat->aT->aT->Prop)(Q:bC->Act->ad->Prop)
def cr:Nat->List bv->((Nat->aT)->Act)->Prop
 |i,[],b=>∀vs W c,(m<i->c=true)->C c W->(∀j,j<i->E j=false->Φ c j vs W)->(∀j k,j<i->k<i->j≠k->E j=false->E k=false->X j k (vs j) (vs k))->Q la (b vs) W
 |i,o::l,b=>@jn (λ_=>Prop)
  ((∀vs W(D:List Nat)(c:Bool),(i=m->c=false)->C c W->(∀e∈o.dz,e.on∈D)->i∉D->(∀j∈D,∀o,ops[j]?=some o->∀e∈o.dz,e.on∈D)->(∀j∈D,E j=false->Φ c j vs W)->(∀j∈D,∀k∈D,j≠k->E j=false->E k=false->X j k (vs j) (vs k))->fC P ops (λu d=>C (c||decide (i=m)) d/\(∀j∈D,E j=false->Φ (c||decide (i=m)) j vs d)/\Φ (c||decide (i=m)) i (upd vs i u) d/\∀j∈D,E j=false->X j i (vs j) u) o (b vs) W)/\cr (i+1) l λvs=>(b vs).put o.dst (vs i))
  (∃v,(∀vs W c,C c W->(∀e∈o.dz,E e.on=false->Φ c e.on vs W)->fC P ops (λu d=>u=v/\C c d/\Le W d) o (b vs) W)/\cr (i+1) l λvs=>(b vs).put o.dst v) (E i)
end
def nv{E:Nat->Bool}{m:Nat}{i:Nat}{b:(Nat->aT)->Act}(h:∀vs W c,(m<i->c=true)->C c W->(∀j,j<i->E j=false->Φ c j vs W)->(∀j k,j<i->k<i->j≠k->E j=false->E k=false->X j k (vs j) (vs k))->Q la (b vs) W):cr P ops m C Le E Φ X Q i [] b:=h
def Ck{E:Nat->Bool}{m:Nat}{i:Nat}{o:bv}{l:List bv}{b:(Nat->aT)->Act}(v:aT)(hE:E i=true)
 (h:∀vs W c,C c W->(∀e∈o.dz,E e.on=false->Φ c e.on vs W)->fC P ops (λu d=>u=v/\C c d/\Le W d) o (b vs) W) (f:cr P ops m C Le E Φ X Q (i+1) l λvs=>(b vs).put o.dst v):cr P ops m C Le E Φ X Q i (o::l) b:=by
 rw[cr,hE];exact⟨v,h,f⟩
def Cl{E:Nat->Bool}{m:Nat}{i:Nat}{o:bv}{l:List bv}{b:(Nat->aT)->Act}(hE:E i=false)
 (h:∀vs W(D:List Nat)(c:Bool),(i=m->c=false)->C c W->(∀e∈o.dz,e.on∈D)->i∉D->(∀j∈D,∀o,ops[j]?=some o->∀e∈o.dz,e.on∈D)->(∀j∈D,E j=false->Φ c j vs W)->(∀j∈D,∀k∈D,j≠k->E j=false->E k=false->X j k (vs j) (vs k))->fC P ops (λu d=>C (c||decide (i=m)) d/\(∀j∈D,E j=false->Φ (c||decide (i=m)) j vs d)/\Φ (c||decide (i=m)) i (upd vs i u) d/\∀j∈D,E j=false->X j i (vs j) u) o (b vs) W) (f:cr P ops m C Le E Φ X Q (i+1) l λvs=>(b vs).put o.dst (vs i)):cr P ops m C Le E Φ X Q i (o::l) b:=by
 rw[cr,hE];exact⟨h,f⟩
def iK{E:Nat->Bool}{m:Nat}{i:Nat}{o:bv}{l:List bv}{b b':(Nat->aT)->Act}(v:aT)(hE:E i=true)
 (h:∀vs W c,C c W->(∀e∈o.dz,E e.on=false->Φ c e.on vs W)->fC P ops (λu d=>u=v/\C c d/\Le W d) o (b vs) W) (hb:∀vs,(b vs).put o.dst v=b' vs) (f:cr P ops m C Le E Φ X Q (i+1) l b'):cr P ops m C Le E Φ X Q i (o::l) b:=
 Ck v hE h ((funext hb:(λvs=>(b vs).put o.dst v)=b')▸f)
def ey{E:Nat->Bool}{m:Nat}{i:Nat}{o:bv}{l:List bv}{b b':(Nat->aT)->Act}(hE:E i=false)
 (h:∀vs W(D:List Nat)(c:Bool),(i=m->c=false)->C c W->(∀e∈o.dz,e.on∈D)->i∉D->(∀j∈D,∀o,ops[j]?=some o->∀e∈o.dz,e.on∈D)->(∀j∈D,E j=false->Φ c j vs W)->(∀j∈D,∀k∈D,j≠k->E j=false->E k=false->X j k (vs j) (vs k))->fC P ops (λu d=>C (c||decide (i=m)) d/\(∀j∈D,E j=false->Φ (c||decide (i=m)) j vs d)/\Φ (c||decide (i=m)) i (upd vs i u) d/\∀j∈D,E j=false->X j i (vs j) u) o (b vs) W) (hb:∀vs,(b vs).put o.dst (vs i)=b' vs) (f:cr P ops m C Le E Φ X Q (i+1) l b'):cr P ops m C Le E Φ X Q i (o::l) b:=
 Cl hE h ((funext hb:(λvs=>(b vs).put o.dst (vs i))=b')▸f)
def ny{E:Nat->Bool}{m:Nat}(L:E m=false)(M:∀b i vs W r,Le W r->Φ b i vs W->Φ b i vs r):∀(l:List bv)(i:Nat)(b:(Nat->aT)->Act),(∀j,j<l.length->l[j]?=ops[i+j]?)->cr P ops m C Le E Φ X Q i l b->
 ∃V:Nat->aT,(∀(j:Nat)(o:bv),i<=j->j<i+l.length->ops[j]?=some o->∃s:(Nat->aT)->Act,(∀vs(a0:Act),(∀k,i<=k->E k=true->vs k=V k)->b vs=cS ops vs (gy i) a0->s vs=cS ops vs (gy j) a0)/\
  (∀vs W(D:List Nat)(c:Bool),(j=m->c=false)->C c W->(∀e∈o.dz,e.on∈D)->j∉D->(∀j∈D,∀o,ops[j]?=some o->∀e∈o.dz,e.on∈D)->(∀j∈D,E j=false->Φ c j vs W)->(∀j∈D,∀k∈D,j≠k->E j=false->E k=false->X j k (vs j) (vs k))->fC P ops (λu r=>(E j=true->u=V j)/\C (c||decide (j=m)) r/\(∀k∈D,E k=false->Φ (c||decide (j=m)) k vs r)/\(E j=false->Φ (c||decide (j=m)) j (upd vs j u) r)/\∀k∈D,E k=false->E j=false->X k j (vs k) u) o (s vs) W))/\
  (∀vs W(a0:Act),(∀k,i<=k->E k=true->vs k=V k)->b vs=cS ops vs (gy i) a0->∀c,(m<i+l.length->c=true)->C c W->(∀j,j<i+l.length->E j=false->Φ c j vs W)->(∀j k,j<i+l.length->k<i+l.length->j≠k->E j=false->E k=false->X j k (vs j) (vs k))->Q la (cS ops vs (gy (i+l.length)) a0) W)
 |[],i,b,hl,h=>by
  refine⟨λ_=>undef,λj o z x R=>?_,λvs W a0 _ hb c f d t g=>by rw[hJ,ge,<-hb];exact h vs W c (by simpa using f) d t g⟩;grind
 |o::l,i,b,hl,h=>by
  have hlen:i+(o::l).length=i+1+l.length:=aS;rw[hlen];have A:ops[i]?=some o:=by simpa using(hl 0 ar).symm
  have hd:Region.fZ ops i=o.dst:=by simp[Region.fZ,A]
  have N:∀j,j<l.length->l[j]?=ops[i+1+j]?:=λj z=>by have:=hl (j+1) aS;grind
  cases w:E i with
  |true=>
   rw[cr,w]at h;obtain⟨v,O,B⟩:=h;obtain⟨V,k1,k2⟩:=ny L M l (i+1) _ N B;have step:∀vs(a0:Act),(∀k,i<=k->E k=true->vs k=(λj=>if j=i then v else V j) k)->b vs=cS ops vs (gy i) a0->(b vs).put o.dst v=cS ops vs (gy (i+1)) a0:=λvs a0 hv hb=>by
    rw[gG,uG,<-hb,hd,hv i (fY _) w];simp
   refine⟨λj=>if j=i then v else V j,λj F z x n=>?_,λvs W a0 hv hb c f d t g=>k2 vs W a0 (λk H p=>aS) (step vs a0 hv hb) c f d t g⟩;by_cases e:j=i
   .subst e;rw[A]at n;cases n;refine⟨b,λvs a0 _ hb=>hb,λvs W D c f d y q I hd g=>?_⟩;refine nu ?_ (O vs W c d λe p w=>hd _ (y e p) w);grind
   .obtain⟨s,J,K⟩:=k1 j F ab x n;refine⟨s,λvs a0 hv hb=>J vs a0 (λk H p=>aS) (step vs a0 hv hb),λvs W D c f d y q I hd g=>?_⟩;have:=K vs W D c f d y q I hd g;grind
  |false=>
   rw[cr,w]at h;obtain⟨O,B⟩:=h;obtain⟨V,k1,k2⟩:=ny L M l (i+1) _ N B;have step:∀vs(a0:Act),b vs=cS ops vs (gy i) a0->(b vs).put o.dst (vs i)=cS ops vs (gy (i+1)) a0:=λvs a0 hb=>by
    rw[gG,uG,<-hb,hd]
   refine⟨V,λj F z x n=>?_,λvs W a0 hv hb c f d t g=>k2 vs W a0 (λk H p=>hv k ab p) (step vs a0 hb) c f d t g⟩;by_cases e:j=i
   .subst e;rw[A]at n;cases n;refine⟨b,λvs a0 _ hb=>hb,λvs W D c f d y q I hd g=>?_⟩;grind
   .obtain⟨s,J,K⟩:=k1 j F ab x n;exact⟨s,λvs a0 hv hb=>J vs a0 (λk H p=>hv k ab p) (step vs a0 hb),K⟩
def mA(k:Nat){id:Nat}{w:ad}(m:Nat)(C:Bool->ad->Prop)(Le:ad->ad->Prop)(E:Nat->Bool)(Φ:Bool->Nat->(Nat->aT)->ad->Prop)(X:Nat->Nat->aT->aT->Prop)(O:∀i j u v,X i j u v->X j i v u)(R:P.follows ld=true)(S:Region.Ig ops=true)(T:k<=ops.size/\Late ops k)
 (U:E m=false) (Y:∀b i vs W p,Le W p->Φ b i vs W->Φ b i vs p) (x:∀(i:Nat)(o:bv),ops[i]?=some o->∀vs q W,vs i=q i->(∀e∈o.dz,vs e.on=q e.on)->∀b,Φ b i vs W->Φ b i q W) (r:C false w.drew)
 (H:cr P ops m C Le E Φ X (λ_ b W=>bL P ops Q (ops.toList.drop k) b W) 0 (ops.toList.take k) λ_=>a):(ko id ops true).wp P Q a w:=by
 have s:=Ro S;obtain⟨Z,hL⟩:=T;obtain⟨V,K,L⟩:=ny U Y (ops.toList.take k) 0 _ (λj d=>aS) H;have FH:0+(ops.toList.take k).length=k:=by simp;omega
 rw[FH]at K L;refine wp_region_any R ?_;have hd:cO ops (fz ops.size false)=[]:=by
  refine List.filter_eq_nil_iff.2 λi hi=>?_;have:=List.mem_range.1 hi;simp[this]
 have start:=Cj (P:=P) (a:=a) (Q:=Q) (m:=m) (C:=C) (X:=λi j u v=>E i=false->E j=false->X i j u v) (Φ:=λb i vs W=>(E i=true->vs i=V i)/\(∀o,ops[i]?=some o->∀e∈o.dz,E e.on=true->vs e.on=V e.on)/\(E i=false->Φ b i vs W)) s hL Z (λi j u v h d hi=>O _ _ _ _ (h hi d))
  (λi o g vs q W e1 e2 b h=>⟨λe=>e1▸h.1 e,λo' l e f n=>aS,λe=>x i o g vs q W e1 e2 b (h.2.2 e)⟩) (λi o g y vs W D z A r M B F sB hd hP=>?_) (λvs W z A r FL hP=>?_) ops.size (fz ops.size false) (λ_=>undef) w.drew ar (by
   rw[List.countP_eq_length.2]
   .simp
   .intro i hi;have:=List.mem_range.1 hi
    simp[this]) (by have e:(fz ops.size false).getD m false=false:=(by rw[fp,Array.getElem?_replicate];split<;>rfl);rw[e];exact r) (by rw[hd];intro i hi;cases hi) (by rw[hd];intro i hi;cases hi) (by rw[hd];intro i hi;cases hi) (λi _ hi=>by simp[hi])
 .rw[hd]at start;exact start
 .obtain⟨bj,g1,g2⟩:=K i o (f6 _) y g;have vz:∀k∈D,vR E V vs k=vs k:=λk c=>by
   unfold vR;grind
  have I:∀e∈o.dz,vR E V vs e.on=vs e.on:=λe f=>vz _ (M e f);have hb:=g1 (vR E V vs) a (λk _ f=>by simp[vR,f]) rfl;have t:∀k∈D,∀b W,Φ b k (vR E V vs) W↔Φ b k vs W:=λk c b W=>by
   have l:ops[k]?=some ops[k]!:=by simp[F k c]
   grind
  have:=g2 (vR E V vs) W D z A r M B sB (λk c n=>(t k c _ W).2 ((hd k c).2.2 n)) (λj d k c Wk J N=>aS);rw[hb]at this;refine nu ?_ (Nk s g I this);rintro v p⟨a1,a2,a3,a4,a5⟩;refine⟨a2,λk c=>⟨(hd k c).1,(hd k c).2.1,λn=>(t k c _ p).1 (a3 k c n)⟩,⟨λe=>by simp[upd,a1 e],λo' l e f n=>?_,λe=>?_⟩,λk c N hiE=>aS⟩
  .rw[g]at l;cases l;have:=(s.edge i o g e f).1;simp only[upd];grind
  refine x i o g _ _ p (by simp[upd]) (λe' Xo=>?_) _ (a4 e);have:=(s.edge i o g e' Xo).1;simp only[upd];grind
 .have hv:∀j,j<k->vR E V vs j=vs j:=λj d=>by
   unfold vR;grind
  rw[<-yA (vs:=vR E V vs) _ _ λj d=>hv j (List.mem_range.1 d)];refine L (vR E V vs) W a (λk _ f=>by simp[vR,f]) rfl z A r (λj d n=>?_) (λj k d c Wk J N=>aS);have l:ops[j]?=some ops[j]!:=aS;refine x j _ l vs _ W (hv j d).symm (λe f=>(hv e.on (by have:=(s.edge j _ l e f).1;omega)).symm) _ ((FL j d).2.2 n)
def iL(k:Nat){id:Nat}{w:ad}(m:Nat)(C:Bool->ad->Prop)(Le:ad->ad->Prop)(E:Nat->Bool)(Φ:Bool->Nat->(Nat->aT)->ad->Prop)(X:Nat->Nat->aT->aT->Prop)(f:∀i j u v,X i j u v->X j i v u)(g:P.follows ld=true)(h:Region.Ig ops=true)(l:Region.Kk ops k=true)
 (n:E m=false) (p:∀b i vs W d,Le W d->Φ b i vs W->Φ b i vs d) (q:∀(i:Nat)(o:bv),ops[i]?=some o->∀vs c W,vs i=c i->(∀e∈o.dz,vs e.on=c e.on)->∀b,Φ b i vs W->Φ b i c W) (r:C false w.drew)
 (H:cr P ops m C Le E Φ X (λ_ b W=>bL P ops Q (ops.toList.drop k) b W) 0 (ops.toList.take k) λ_=>a):(ko id ops true).wp P Q a w:=
 mA k m C Le E Φ X f g h (Kl l) n p q r H
section
variable {C:ad->Prop}{Φ:Nat->(Nat->aT)->ad->Prop}
def uH{E:Nat->Bool}{n:Nat}(p:∀i vs W f,Le W f->Φ i vs W->Φ i vs f):∀(l:List bv)(i:Nat)(b:(Nat->aT)->Act),i+l.length<=n->cL P ops C Le E Φ Q i l b->
 cr P ops n (λ_=>C) Le (λj=>E j&&decide (j<n)) (λ_=>Φ) (λ_ _ _ _=>True) Q i l b
 |[],i,b,_,h=>λvs W _ _ c hd _=>h vs W c λj q g=>hd j q (by simp[g])
 |o::l,i,b,hl,h=>by
  have hi:i<n:=by simp at hl;omega
  have s:i+1+l.length<=n:=by simp at hl;omega
  rw[cL]at h;rw[cr]
  cases g:E i with
  |true=>
   simp only[g,decide_eq_true hi,Bool.and_self]at h⊢;obtain⟨v,u,w⟩:=h;exact⟨v,λvs W _ c hd=>u vs W c λe r d=>hd e r (by simp[d]),uH p l _ _ s w⟩
  |false=>
   simp only[g,Bool.false_and]at h⊢;refine⟨λvs W D _ _ c x _ _ t _=>?_,uH p l _ _ s h.2⟩;exact nu (λv f k=>⟨k.1,λj q d=>p j vs W f k.2.1 (t j q d),k.2.2,λ_ _ _=>trivial⟩) (h.1 vs W c λe r d=>t e.on (x e r) (by simp[d]))
def mB(k:Nat){id:Nat}{w:ad}(C:ad->Prop)(Le:ad->ad->Prop)(E:Nat->Bool)(Φ:Nat->(Nat->aT)->ad->Prop)(g:P.follows ld=true)(h:Region.Ig ops=true)(l:k<=ops.size/\Late ops k)
 (d:∀i vs W f,Le W f->Φ i vs W->Φ i vs f) (n:∀(i:Nat)(o:bv),ops[i]?=some o->∀vs c W,vs i=c i->(∀e∈o.dz,vs e.on=c e.on)->Φ i vs W->Φ i c W) (p:C w.drew)
 (H:cL P ops C Le E Φ (λ_ b W=>bL P ops Q (ops.toList.drop k) b W) 0 (ops.toList.take k) λ_=>a):(ko id ops true).wp P Q a w:=
 mA k ops.size (λ_=>C) Le (λj=>E j&&decide (j<ops.size)) (λ_=>Φ) (λ_ _ _ _=>True) (λ_ _ _ _ _=>trivial) g h l ar (λ_=>d) (λi o q vs c W e1 r _=>n i o q vs c W e1 r) p
  (uH d _ _ _ (by simp;omega) H)
def cT(k:Nat){id:Nat}{w:ad}(C:ad->Prop)(Le:ad->ad->Prop)(E:Nat->Bool)(Φ:Nat->(Nat->aT)->ad->Prop)(f:P.follows ld=true)(g:Region.Ig ops=true)(h:Region.Kk ops k=true)
 (j:∀i vs W d,Le W d->Φ i vs W->Φ i vs d) (l:∀(i:Nat)(o:bv),ops[i]?=some o->∀vs c W,vs i=c i->(∀e∈o.dz,vs e.on=c e.on)->Φ i vs W->Φ i c W) (n:C w.drew)
 (H:cL P ops C Le E Φ (λ_ b W=>bL P ops Q (ops.toList.drop k) b W) 0 (ops.toList.take k) λ_=>a):(ko id ops true).wp P Q a w:=
 mB k C Le E Φ f g (Kl h) j l n H
def uI{E:Nat->Bool}{c:bC->Act->ad->Prop}(h:∀b W,Q la b W->c la b W):∀(l:List bv)(i:Nat)(b:(Nat->aT)->Act),cL P ops C Le E Φ Q i l b->cL P ops C Le E Φ c i l b
 |[],_,_,k=>λvs W e hd=>h _ _ (k vs W e hd)
 |o::l,i,b,k=>by
  rw[cL]at k ⊢
  cases d:E i with
  |true=>simp only[d]at k ⊢;obtain⟨v,f,g⟩:=k;exact⟨v,f,uI h l _ _ g⟩
  |false=>simp only[d]at k ⊢;exact⟨k.1,uI h l _ _ k.2⟩
def ig{id:Nat}{w:ad}(C:ad->Prop)(Le:ad->ad->Prop)(E:Nat->Bool)(Φ:Nat->(Nat->aT)->ad->Prop)(g:P.follows ld=true)(j:Region.Ig ops=true)
 (k:∀i vs W f,Le W f->Φ i vs W->Φ i vs f) (l:∀(i:Nat)(o:bv),ops[i]?=some o->∀vs d W,vs i=d i->(∀e∈o.dz,vs e.on=d e.on)->Φ i vs W->Φ i d W) (n:C w.drew)
 (H:cL P ops C Le E Φ Q 0 ops.toList λ_=>a):(ko id ops true).wp P Q a w:=by
 have no:∀{i:Nat}{o:bv},ops[i]?=some o->¬ops.size<=i:=λc=>Nat.not_le.2 (Array.getElem?_eq_some_iff.1 c).1;refine mB ops.size C Le E Φ g j ⟨fY _,λi o c hi=>absurd hi (no c),λi o c hi=>absurd (Nat.le_of_lt hi) (no c)⟩ k l n ?_;rw[List.take_of_length_le ar];refine uI (λb W h=>?_) _ _ _ H;rw[List.drop_of_length_le ar];exact h
end
end
end Go
namespace Go.Proofs
open Go.RowKit Go.Shelf
attribute [local go_sem] Oper.semAt_some
def lv(s r:Int):Int:=lvl s r s.toNat
def fD(s a:Int)(b:Nat):List Int:=(gy b).map λj=>lv s (a+(j:Nat))
def cJ(a b:Int)(c d:Nat):List Int:=(gy c).flatMap fun(k:Nat)=>fD (a+k) b d
def AP(s b:Int)(a:Nat):(fD s b a).length=a:=by simp[fD]
def AQ(c d:Int)(b:Nat):∀a:Nat,(cJ c d a b).length=a*b
 |0=>by simp[cJ]
 |a+1=>by
  have:=AQ c d b a;unfold cJ at this⊢;rw[gG,List.flatMap_append,hK,this];simp[AP,Nat.succ_mul]
def nA(s a:Int)(j:Nat):fD s a (j+1)=fD s a j++[lv s (a+(j:Nat))]:=by
 simp[fD,gG]
def kE(a b:Int)(c d:Nat):cJ a b (c+1) d=cJ a b c d++fD (a+(c:Nat)) b d:=by
 simp[cJ,gG]
def Nl(s a:Int)(b:Nat):∀j:Nat,j<=b->fD s a j <+: fD s a b:=by
 intro j c;unfold fD;exact(List.map_take ..▸List.take_range ..▸by rw[Nat.min_eq_left c]:(List.take j ((gy b).map λj=>lv s (a+(j:Nat))))=(gy j).map λj=>lv s (a+(j:Nat)))▸List.take_prefix _ _
def AU(a b:Int)(c:Nat)(k:Nat):∀d:Nat,cJ a b k c <+: cJ a b (k+d) c
 |0=>List.prefix_rfl
 |d+1=>by rw[<-gl,kE];exact(AU a b c k d).trans (List.prefix_append _ _)
def Nm(a b:Int)(c d k j:Nat)(g:k<c)(h:j<d):cJ a b k d++fD (a+(k:Nat)) b j++[lv (a+(k:Nat)) (b+(j:Nat))] <+: cJ a b c d:=by
 rw[hM,<-nA];obtain⟨t,e⟩:=Nl (a+(k:Nat)) b d (j+1) ab;obtain⟨u,f⟩:=AU a b d (k+1) (c-(k+1));rw[show k+1+(c-(k+1))=c by omega,kE,<-e]at f;grind
def Rr(s r:Int)(w:ad)(f:1<=s)(g:s<=90)(c : -s<=r)(d:r<=s):bd PL 35 #[jw kx s,jw kx r] w λe w'=>e=kw (jw kx (lv s r))/\w=w':=by
 obtain⟨n,rfl⟩:=kc (a:=s) ab;exact(AG n r w ab ab c d).mono λ_ _⟨a,b⟩=>⟨a,b.symm⟩
def yC(B:Nat)(W a:ad):Prop:=∀o:Nat,a.cell? ⟨B,o,none⟩=W.cell? ⟨B,o,none⟩
def Ii(n:Nat)(C:1<=n)(l g:Nat)(a b:Int)(d c:Nat)(D:1<=a)(E:a+d<=91)(F:1<=d)(H : -a<=b)(I:b+c<=a+1)(K:1<=c)(J r:List Int->ad->Prop)
 (s:∀f x W,J f W->f.length<d*c->YieldAt Fence.wide (n-1) PL l #[jw kx x] W λe h=>
   (e=kw (jt true)/\J (f++[x]) h/\yC g W h)\/(e=kw (jt false)/\r (f++[x]) h))
 (W:ad) (c1:W.cell? ⟨g,1,none⟩=some (jw kx a)) (t:W.cell? ⟨g,2,none⟩=some (jw kx (a+d-1))) (c3:W.cell? ⟨g,3,none⟩=some (jw kx b)) (u:W.cell? ⟨g,4,none⟩=some (jw kx (b+c-1))) (w:J [] W) :
 CallsIn Fence.wide n PL 61 #[j3 (.yield l) #[] #[],jR (some ⟨g,0,none⟩)] W λe h=>(∃v,e=kw v)/\
  ((∃ys,ys=cJ a b d c/\J ys h)\/(∃f,f <+: cJ a b d c/\r f h)):=by
 refine callsIn_of_wp (fx ao fc) rfl trivial ?_ rfl;simp only[Tryz.ntmps61,hT,hV,hJ,gt,gw,fA,fB,hY,hZ,h6,ht]
 gi_wp2
 gi_loopw [3] (λv wr=>∃k:Nat,k<=d/\v=jw kx (a+k)/\J (cJ a b k c) wr/\(wr.cell? ⟨g,1,none⟩=some (jw kx a)/\wr.cell? ⟨g,2,none⟩=some (jw kx (a+d-1))/\wr.cell? ⟨g,3,none⟩=some (jw kx b)/\wr.cell? ⟨g,4,none⟩=some (jw kx (b+c-1)))) (λv _=>(a+d-intOf v).toNat)
 case atStart=>exact⟨0,f6 _,ar,w,c1,t,c3,u⟩
 case round=>
  obtain⟨k,i,rfl,m,d1,d2,d3,d4⟩:=hrel;by_cases y:k<d
  .have z:a+(k:Int)<=a+d-1:=ab
   gi_wp2
   gi_loopw [4] (λv wr=>∃j:Nat,j<=c/\v=jw kx (b+j)/\J (cJ a b k c++fD (a+(k:Nat)) b j) wr/\(wr.cell? ⟨g,1,none⟩=some (jw kx a)/\wr.cell? ⟨g,2,none⟩=some (jw kx (a+d-1))/\wr.cell? ⟨g,3,none⟩=some (jw kx b)/\wr.cell? ⟨g,4,none⟩=some (jw kx (b+c-1)))) (λv _=>(b+c-intOf v).toNat)
   case atStart=>exact⟨0,f6 _,ar,by simpa[fD]using m,d1,d2,d3,d4⟩
   case round=>
    obtain⟨j,L,rfl,m,d1,d2,d3,d4⟩:=hrel;by_cases o:j<c
    .have A:b+(j:Int)<=b+c-1:=ab;have hlen:(cJ a b k c++fD (a+(k:Nat)) b j).length<d*c:=by
      rw[hK,AQ,AP];have:=Nat.mul_le_mul_right c (show k+1<=d by omega);grind
     obtain⟨fn,tmps,assign,body,hy,B⟩:=s _ (lv (a+(k:Nat)) (b+(j:Nat))) wr m hlen
     gi_wp2_with (refine⟨trivial,?_⟩;refine(callsIn_wide.2 (Rr _ _ _ ab ab ab ab)).mono ?_;rintro e w'⟨rfl,rfl⟩)
     refine B.mono ?_;rintro e h(⟨rfl,p,i⟩|⟨rfl,q⟩)
     .gi_wp2
      refine⟨⟨j+1,ab,by congr 1;push_cast;omega,by rw[nA,<-hM];exact p,(i 1).trans d1,(i 2).trans d2,(i 3).trans d3,(i 4).trans d4⟩,?_⟩;simp only[intOf];omega
     .gi_wp2
      refine bT (results_none rfl _ _ _) rfl ⟨⟨_,rfl⟩,kS ⟨_,Nm a b d c k j y o,q⟩⟩
    .have A:b+(c:Int)-1<b+j:=ab;obtain rfl:j=c:=ab
     gi_wp2
     refine⟨⟨k+1,ab,by congr 1;push_cast;omega,by rw[kE];exact m,d1,d2,d3,d4⟩,?_⟩;simp only[intOf];omega
  .have z:a+(d:Int)-1<a+k:=ab;obtain rfl:k=d:=ab
   gi_wp2
   go_end0
   grind
def Km{B:Nat}{X Y Z:ad}(h:yC B X Y)(k:yC B Y Z):yC B X Z:=λo=>(k o).trans (h o)
def Ko{B s:Nat}(a:B<s)(W:ad)(l:Nat)(o o':Obj)(hl:s<=l)(_:W.heap[l]?=some o)(_:o.isCells=false)(_:o.isWalk=false):yC B W (W.putObj l o'):=λq=>by
 have:(W.putObj l o').heap[B]?=W.heap[B]?:=by
  simp only[World.putObj];grind
 simp[iY,this]
def tg(n:Nat)(i:1<=n)(a:Nat)(b d:Int)(e f:Nat)(j:1<=b)(k:b+e<=91)(m:1<=e)(o : -b<=d)(q:d+f<=b+1)(r:1<=f)(w:ad)(c:a<w.heap.size)
 (c1:w.cell? ⟨a,1,none⟩=some (jw kx b)) (s:w.cell? ⟨a,2,none⟩=some (jw kx (b+e-1))) (c3:w.cell? ⟨a,3,none⟩=some (jw kx d)) (t:w.cell? ⟨a,4,none⟩=some (jw kx (d+f-1))) :
 SeqStopsK Fence.wide n PL 61 #[jR (some ⟨a,0,none⟩)] (λx:Int=>#[jw kx x]) (yC a) (λys=>ys=cJ b d e f) (λh=>h <+: cJ b d e f) (e*f) w:=λl J u W g _ _ v y=>
 Ii n i l a b d e f j k m o q r J u v W ((g.cell (p:=⟨a,1,none⟩) c).trans c1) ((g.cell (p:=⟨a,2,none⟩) c).trans s) ((g.cell (p:=⟨a,3,none⟩) c).trans c3) ((g.cell (p:=⟨a,4,none⟩) c).trans t) y
def iJ.NY(q:iJ):List Int:=cJ (q.n 1) (q.n 3) (q.n 2-q.n 1+1).toNat (q.n 4-q.n 3+1).toNat
def iJ.low(q:iJ):Int:=q.NY.foldl min 90
def iJ.high(q:iJ):Int:=q.NY.foldl max 0
structure iJ.Ok(q:iJ):Prop where
 a1:1<=q.n 1
 a2:q.n 1<=q.n 2
 a3:q.n 2<=90
 a4 : -q.n 1<=q.n 3
 a5:q.n 3<=q.n 4
 a6:q.n 4<=q.n 1
def ck{n:Nat}{f:Nat->Int}(h:ia n f=0):∀j,j<n->f j=0:=by
 intro j
 induction j using gr with
 |_ j a=>
  intro b;by_cases hf:f j=0
  .exact hf
  .have:=eG (m:=j) (λi hi=>a i hi ab) b hf;omega
def Kq{C:CD}(hc:C.cx=0){i:Nat}(hi:i<C.n4):(C.x4 i).Ok:=by
 have b:kA C.p C.n2 C.n3 C.n4 C.x4=0:=ck hc 3 ab;unfold kA at b;split at b
 case isFalse=>cases b
 have a:=ck b i hi;unfold gM at a;split at a
 case isFalse h=>exact absurd a h
 split at a
 case isFalse=>cases a
 rename_i c;split at a
 .cases a
 rename_i d;simp only[eK,jl,decide_eq_true_eq]at c;exact⟨ab,ab,ab,ab,ab,ab⟩
def Kr{C:CD}{b:Bool}{w:ad}(h:C.b6 b≠0)(k:C.At w):bd PL 36 #[jx C.val,jt b] w (aO (jX #[jx #[jw kx 0,jw kx 0,jz none 0 0,jz none 0 0,jz none 0 0,jz none 0 0],jw kx (C.b6 b)]) w):=by
 have:=Ev C b w k;rwa[CD.sX,if_neg h]at this
def kF{C:CD}{b:Bool}{w:ad}(h:C.b6 b=0)(k:C.At w):bd PL 36 #[jx C.val,jt b] w (aO (jX #[jx C.val,jw kx 0]) w):=by
 have:=Ev C b w k;rwa[CD.sX,if_pos h,h]at this
structure CD.Box(C:CD)(B:Nat)(W0:ad):Prop where
 Tj:W0.heap[B]?=some (kY C.val 27)
def uJ{w:ad}{k:Nat}{x0 x1:aT}{t:ac}(h:w.heap[k]?=some (kY #[x0,x1] t)):w.cell? ⟨k,0,none⟩=some x0/\w.cell? ⟨k,1,none⟩=some x1/\w.frozen? ⟨k,0,none⟩=false/\w.frozen? ⟨k,1,none⟩=false:=by
 simp[iY,i3,h]
def yD{W:ad}{k:Nat}{x y u v:aT}(a0:W.cell? ⟨k,0,none⟩=some x)(a1:W.cell? ⟨k,1,none⟩=some y) :
 ((W.setCell ⟨k,0,none⟩ u).setCell ⟨k,1,none⟩ v).cell? ⟨k,0,none⟩=some u/\((W.setCell ⟨k,0,none⟩ u).setCell ⟨k,1,none⟩ v).cell? ⟨k,1,none⟩=some v/\
 (∀b o,b≠k->((W.setCell ⟨k,0,none⟩ u).setCell ⟨k,1,none⟩ v).cell? ⟨b,o,none⟩=W.cell? ⟨b,o,none⟩)/\(∀p,((W.setCell ⟨k,0,none⟩ u).setCell ⟨k,1,none⟩ v).frozen? p=W.frozen? p):=by
 refine⟨?_,?_,λb o hb=>?_,λp=>?_⟩
 .exact(i4 _ _ _ _ ar).trans (i5 _ _ _ (by rw[a0];rfl))
 .exact i5 _ _ _ (by rw[(i4 _ _ _ _ ar).trans a1];rfl)
 .exact(i4 _ _ _ _ (λh=>hb (congrArg ke h).symm)).trans (i4 _ _ _ _ (λh=>hb (congrArg ke h).symm))
 .rw[i6,i6]
def Rs{w W:ad}{k B r:Nat}(e:B≠k)(b:r≠k)(c:w.heap.size<=k){m M u v d v':Int}{y0 y1:aT}(a0:W.cell? ⟨k,0,none⟩=some (jw kx m))(a1:W.cell? ⟨k,1,none⟩=some (jw kx M))(a2:W.frozen? ⟨k,0,none⟩=false)(a3:W.frozen? ⟨k,1,none⟩=false)
 (a4:W.cell? ⟨r,0,none⟩=some y0) (f:W.cell? ⟨r,1,none⟩=some y1) (g:W.frozen? ⟨r,0,none⟩=false) (h:W.frozen? ⟨r,1,none⟩=false) (i:bA w W) (j:u=d) (hv:v=v') :
 KeepsOthers W ((W.setCell ⟨k,0,none⟩ (jw kx u)).setCell ⟨k,1,none⟩ (jw kx v))/\yC B W ((W.setCell ⟨k,0,none⟩ (jw kx u)).setCell ⟨k,1,none⟩ (jw kx v))/\
 ((((W.setCell ⟨k,0,none⟩ (jw kx u)).setCell ⟨k,1,none⟩ (jw kx v)).cell? ⟨k,0,none⟩=some (jw kx d)/\((W.setCell ⟨k,0,none⟩ (jw kx u)).setCell ⟨k,1,none⟩ (jw kx v)).cell? ⟨k,1,none⟩=some (jw kx v')/\((W.setCell ⟨k,0,none⟩ (jw kx u)).setCell ⟨k,1,none⟩ (jw kx v)).frozen? ⟨k,0,none⟩=false/\((W.setCell ⟨k,0,none⟩ (jw kx u)).setCell ⟨k,1,none⟩ (jw kx v)).frozen? ⟨k,1,none⟩=false/\
 ((W.setCell ⟨k,0,none⟩ (jw kx u)).setCell ⟨k,1,none⟩ (jw kx v)).cell? ⟨r,0,none⟩=some y0/\((W.setCell ⟨k,0,none⟩ (jw kx u)).setCell ⟨k,1,none⟩ (jw kx v)).cell? ⟨r,1,none⟩=some y1/\((W.setCell ⟨k,0,none⟩ (jw kx u)).setCell ⟨k,1,none⟩ (jw kx v)).frozen? ⟨r,0,none⟩=false/\((W.setCell ⟨k,0,none⟩ (jw kx u)).setCell ⟨k,1,none⟩ (jw kx v)).frozen? ⟨r,1,none⟩=false)/\
 bA w ((W.setCell ⟨k,0,none⟩ (jw kx u)).setCell ⟨k,1,none⟩ (jw kx v))):=by
 subst j hv;obtain⟨c0,c1,a,c3⟩:=yD (u:=jw kx u) (v:=jw kx v) a0 a1;exact⟨(kp _ _ _).trans (kp _ _ _),λo=>a _ _ e,⟨c0,c1,(c3 _).trans a2,(c3 _).trans a3,(a _ _ b).trans a4,(a _ _ b).trans f,(c3 _).trans g,(c3 _).trans h⟩,(i.setCell (p:=⟨k,0,none⟩) c _).setCell (p:=⟨k,1,none⟩) c _⟩
abbrev iJ.val(q:iJ):Array aT:=#[jD q.name,jw kx (q.n 1),jw kx (q.n 2),jw kx (q.n 3),jw kx (q.n 4),jw kx (q.n 5),jw kx (q.n 6),jw kx (q.n 7),jw kx (q.n 8),jw kx (q.n 9),jw kx (q.n 10),jz q.lb q.ln q.lc]
def yF(q:iJ)(w:ad):bd PL 38 #[jx q.val] w λe w'=>e=kw (j3 (.func 61) #[] #[jR (some ⟨w.heap.size,0,none⟩)])/\w'=w.alloc (kY q.val 82):=by
 go_enter (fx ao ea),Tryz.ntmps38;go_wp2;go_ret;exact⟨rfl,rfl⟩
def CD.kR(C:CD)(n:Int):aT:=if C.b6 (bO n 0 (C.n4-1))=0 then jX #[jx #[jw kx (C.x4 n.toNat).low,jw kx (C.x4 n.toNat).high],jw kx 0] else jX #[jx #[jw kx 0,jw kx 0],jw kx (C.b6 (bO n 0 (C.n4-1)))]
def nB(C:CD)(n:Int)(w:ad)(h:C.At w):bd PL 14 #[jx C.val,jw kx n] w (aO (C.kR n) w):=by
 have H:=ii (λw1 o=>h.below (w':=w1) o);have m4:=h.m4;obtain⟨S,T,U,V,X,Y,Z,c3,b4,n4,c4,b5,n5,c5,hO⟩:∃(S T:Int)(U:Option bi)(V X:Nat)(Y:Option bi)(Z c3:Nat)(b4:Option bi)(n4 c4:Nat)(b5:Option bi)(n5 c5:Nat),∀W,C.At W->bd PL 36 #[jx C.val,jt (bO n 0 (C.n4-1))] W (aO (jX #[jx #[jw kx S,jw kx T,jz U V X,jz Y Z c3,jz b4 n4 c4,jz b5 n5 c5],jw kx (C.b6 (bO n 0 (C.n4-1)))]) W):=by
  by_cases hf:C.b6 (bO n 0 (C.n4-1))=0
  .exact⟨_,_,_,_,_,_,_,_,_,_,_,_,_,_,λW L=>by rw[hf];exact kF hf L⟩
  .exact⟨_,_,_,_,_,_,_,_,_,_,_,_,_,_,λW L=>Kr hf L⟩
 have HO:=ii hO;have H1:=ii h;clear h hO;refine(ca (n:=9)).1 (cb (fx ao db) rfl trivial ?_ rfl);simp only[Tryz.ntmps14,hT,hV,hJ,gt,gw,fA,fB,hY,hZ,h6,ht];refine wpIn_wide.2 ?_;go_wp2;obtain⟨a,q⟩:=br ((w.alloc (kY C.val 27)).alloc (kY #[jw kx 0,jw kx 0] 39));have y:bA w a:=by rw[q];exact((fO _ _).alloc (fY _) _).alloc ar _
 have z:Hid (C.Box w.heap.size a):=ii ⟨by rw[q];exact((((fO (w.alloc (kY C.val 27)).heap.size _).alloc (fY _) _)).block _ ar).trans (au w _)⟩;have M:Hid (a.heap[w.heap.size+1]?=some (kY #[jw kx 0,jw kx 0] 39)):=ii (by rw[q];have:=au (w.alloc (kY C.val 27)) (kY #[jw kx 0,jw kx 0] 39);rwa[i7]at this);rw[<-q];clear q;obtain⟨f0,f1,f2,f3,f4,f5⟩:=bf z.out.Tj;have E:w.heap.size<a.heap.size:=getElem?_lt' z.out.Tj;have XZ:w.heap.size<a.heap.size+1:=ab
 go_cut [6,7] from 10 to 17 (fun(v6:aT)(v7:aT)(wx:ad)=>v7=jw kx (C.b6 (bO n 0 (C.n4-1)))/\bA a wx)
 case first=>
  refine cc ?_
  go_region_with (first|(go_at_call 37;refine(AE C n _ m4).mono ?_;rintro e w1⟨rfl,F⟩;obtain⟨lp,lR⟩:=cW F;(first|(with_reducible have d:=Below.on ((fO a.heap.size a).drew) F)|(have d:=Below.on ((fO a.heap.size a).drew.alloc (fO a.heap.size a).drew.size _) F;have aH:a.heap.size<w1.heap.size:=by have:=F.size;simp at this;omega));have dx:=d.size;obtain⟨g0,g1,g2,g3,N,g5⟩:=bf ((d.block _ E).trans z.out.Tj);have hzw:w.heap.size<w1.heap.size:=gc E dx)|(go_at_call 36;refine(HO.out _ (H.out _ (Below.on y ?hb))).mono ?_;(with_reducible case hb=>first|exact d|exact d.alloc d.size _);rintro e w2⟨rfl,O⟩;obtain⟨hc2,hf2⟩:=cW O;(with_reducible first|have t:=Below.on d O|have t:=Below.on (d.alloc d.size _) O)))
  all_goals (refine NoPanic.normal ?_;go_wp2_with fail;go_meet;case rel=>refine⟨rfl,?_⟩;with_reducible first|exact Below.zQ t (fY _) _ _ _ _ _ _|exact Below.zQ t dx _ _ _ _ _ _|exact t.alloc t.size _)
 case rest=>
  obtain⟨rfl,f⟩:=hcut;have b:w.heap.size+1<a.heap.size:=getElem?_lt' M.out;obtain⟨I,J,q0,q1⟩:=uJ ((f.block _ b).trans M.out);by_cases hf:C.b6 (bO n 0 (C.n4-1))=0
  .have hA:=H.out wc (Below.on y f);have P:C.cx=0/\bO n 0 (C.n4-1)=true:=by
    unfold CD.b6 at hf;split at hf
    .split at hf
     .exact⟨ba,ba⟩
     .cases hf
    .exact absurd hf ba
   obtain⟨hk,hb⟩:=P;have jH:0<=n/\n<=(C.n4:Int)-1:=by simpa[bO]using hb
   obtain⟨i,rfl⟩:=kc jH.1;have hi:i<C.n4:=ab;have mS:(i:Int)<C.n4:=ab;have OK:=ii (Kq hk hi);obtain⟨g0,g1,g2,g3,N,g5⟩:=bf ((f.block _ E).trans z.out.Tj);rw[hA.s4 ab]at N;have k0:=hA.AD i hi;have k1:=hA.dB i hi 1 ab ab;have k2:=hA.dB i hi 2 ab ab;have k3:=hA.dB i hi 3 ab ab;have k4:=hA.dB i hi 4 ab ab;have k5:=hA.dB i hi 5 ab ab;have k6:=hA.dB i hi 6 ab ab;have k7:=hA.dB i hi 7 ab ab;have k8:=hA.dB i hi 8 ab ab;have k9:=hA.dB i hi 9 ab ab;have CG:=hA.dB i hi 10 ab ab;have CH:=hA.nj i hi;have ER:=hA.h4;have wD:w.heap.size<wc.heap.size:=gc E f.size;rw[hf];clear hA hk hb jH f0 f1 f2 f3 f4 f5
   go_wp2_with (go_at_call 38;refine(yF (C.x4 i) _).mono ?_;rintro e w'⟨rfl,rfl⟩)
   obtain⟨j,m⟩:=br ((wc.alloc (kY #[jw kx 90,jw kx 0] 39)).alloc (kY (C.x4 i).val 82));have vL:j.heap.size=wc.heap.size+2:=by rw[m];simp
   have d:bA wc j:=by rw[m];exact((fO _ _).alloc (fY _) _).alloc ar _
   have hp:j.heap[wc.heap.size+1]?=some (kY (C.x4 i).val 82):=by
    have:=au (wc.alloc (kY #[jw kx 90,jw kx 0] 39)) (kY (C.x4 i).val 82);rw[i7]at this;rw[m];exact this
   have hq:j.heap[wc.heap.size]?=some (kY #[jw kx 90,jw kx 0] 39):=by
    rw[m];exact((((fO (wc.alloc (kY #[jw kx 90,jw kx 0] 39)).heap.size _).alloc (fY _) _)).block _ ar).trans (au wc _)
   have Yc:=(d.block _ (gc b f.size)).trans ((f.block _ b).trans M.out);have hrw:w.heap.size+1<wc.heap.size:=gc b f.size;have k:bA w j:=Below.on (Below.on y f) d;rw[<-m];clear m k0 k1 k2 k3 k4 k5 k6 k7 k8 k9 CG CH g0 g1 g2 g3 N g5 I J q0 q1;obtain⟨p0,p1,p2,p3,p4,p5,p6,p7,p8,p9,Cz,Fy⟩:=gx hp;obtain⟨I,J,q0,q1⟩:=uJ Yc;obtain⟨t0,t1,u0,u1⟩:=uJ hq;obtain⟨o1,o2,o3,o4,o5,o6⟩:=OK.out;refine(wpIn_wide (n:=9)).1 ?_;refine cd rfl ab (gf:=61) (lb:=#[jR (some ⟨wc.heap.size+1,0,none⟩)]) rfl trivial (enters_of (fx ao fc) ae rfl)
    (tg 8 ab (wc.heap.size+1) ((C.x4 i).n 1) ((C.x4 i).n 3) ((C.x4 i).n 2-(C.x4 i).n 1+1).toNat ((C.x4 i).n 4-(C.x4 i).n 3+1).toNat o1 ab ab o4 ab ab j ab p1 (by rw[p2];congr 2;omega) p3 (by rw[p4];congr 2;omega))
    Km (Ko ab) (fO _ _) (λ_=>rfl)
    (λg W=>(W.cell? ⟨wc.heap.size,0,none⟩=some (jw kx (g.foldl min 90))/\W.cell? ⟨wc.heap.size,1,none⟩=some (jw kx (g.foldl max 0))/\W.frozen? ⟨wc.heap.size,0,none⟩=false/\W.frozen? ⟨wc.heap.size,1,none⟩=false/\W.cell? ⟨w.heap.size+1,0,none⟩=some (jw kx 0)/\W.cell? ⟨w.heap.size+1,1,none⟩=some (jw kx 0)/\W.frozen? ⟨w.heap.size+1,0,none⟩=false/\W.frozen? ⟨w.heap.size+1,1,none⟩=false)/\bA w W)
    (λ_ _ _=>False)
    (OwnFrom.and (Own.from (λs A B row hs hg b=>⟨ce hs.1 hg b,ce hs.2.1 hg b,(cf hs.1 hg b).trans hs.2.2.1,(cf hs.2.1 hg b).trans hs.2.2.2.1,ce hs.2.2.2.2.1 hg b,ce hs.2.2.2.2.2.1 hg b,(cf hs.2.2.2.2.1 hg b).trans hs.2.2.2.2.2.2.1,(cf hs.2.2.2.2.2.1 hg b).trans hs.2.2.2.2.2.2.2⟩) _) (ch (fY _) (by have:=k.size;omega)))
    (λ_ _ _ _ _ hs _ _=>hs)
    ⟨⟨t0,t1,u0,u1,I,J,q0,q1⟩,k⟩
    (λx=>{ tmps:=#[jx C.val,jw kx i,jR (some ⟨w.heap.size,0,none⟩),undef,jR (some ⟨w.heap.size+1,0,none⟩),jw kx 0,u6,jw kx 0,jR (some ⟨wc.heap.size,0,none⟩),jw kx x,u10,u11,u12,u13,u14,u15,u16,u17,jw kx 0,jt false,undef,undef,jx #[jw kx 90,jw kx 0],jR (some ⟨w.heap.size,4,none⟩),jz (some ⟨C.k4,C.o4,none⟩) C.n4 C.c4,jw kx i,jR (some ⟨C.k4,C.o4+i*12,none⟩),jx (C.x4 i).val,j3 (.func 61) #[] #[jR (some ⟨wc.heap.size+1,0,none⟩)],jw kx x,undef,undef,undef,undef,undef,undef,undef,undef,undef,undef,undef],defers:=[] }) ?assign ?body ?done ?stop
   case assign=>
    intro l x W K Q
    gi_wp2
    exact Q
   case body=>
    rintro l g x W⟨⟨a0,a1,a2,a3,a4,R,a6,a7⟩,o⟩_
    gi_wp2
    all_goals (
     refine Rs ab ab ab a0 a1 a2 a3 a4 R a6 a7 o ?_ ?_
     .rw[h7];simp only[h8,ib];omega
     .rw[h7];simp only[h8,ib];omega)
   case done=>
    rintro D ys W hD rfl⟨⟨a0,a1,a2,a3,a4,R,a6,a7⟩,o⟩Q;replace a0:W.cell? ⟨wc.heap.size,0,none⟩=some (jw kx (C.x4 i).low):=a0;replace a1:W.cell? ⟨wc.heap.size,1,none⟩=some (jw kx (C.x4 i).high):=a1;go_wp2;have hK':=((kp W ⟨w.heap.size+1,0,none⟩ (jw kx (C.x4 i).low)).trans (kp _ ⟨w.heap.size+1,1,none⟩ (jw kx (C.x4 i).high))).same D _ Q rfl;obtain⟨d0,d1,_,_⟩:=yD (u:=jw kx (C.x4 i).low) (v:=jw kx (C.x4 i).high) a4 R;have e0:=ce d0 (ci _ D (.deferred none)) (λr e=>by cases e;exact⟨_,hK',rfl⟩);have e1:=ce d1 (ci _ D (.deferred none)) (λr e=>by cases e;exact⟨_,hK',rfl⟩);refine⟨ar,kG ⟨_,_,rfl,cl hK',?_⟩⟩;refine⟨C.kR i,?_,rfl,(((o.setCell (p:=⟨w.heap.size+1,0,none⟩) (gg _) _).setCell (p:=⟨w.heap.size+1,1,none⟩) (gg _) _)).trans (belowK_b (w:=w) (fY _) _ D _ _ (by have:=k.size;omega) hK' rfl rfl)⟩;rw[CD.kR,if_pos hf];simp[b1,fg,go_sem,e0,e1]
   case stop=>
    rintro D c g W _ _ h _;exact h.elim
  .have hn:(C.b6 (bO n 0 (C.n4-1)) != 0)=true:=by simpa using hf
   have HF:=ii hf;clear hf f0 f1 f2 f3 f4 f5;go_wp2;refine⟨C.kR n,?_,rfl,?_⟩
   .rw[CD.kR,if_neg HF.out];simp[b1,fg,go_sem,I,J]
   .exact((Below.on y f).setCell (p:=⟨w.heap.size+1,0,none⟩) (gg _) _).setCell (p:=⟨w.heap.size+1,1,none⟩) (gg _) _
def Rt{C:CD}(hc:C.cx=0){i:Nat}(hi:i<C.n4):0<=(C.x4 i).n 5/\(C.x4 i).n 5<C.n2:=by
 have b:kA C.p C.n2 C.n3 C.n4 C.x4=0:=ck hc 3 ab;unfold kA at b;split at b
 case isFalse=>cases b
 have a:=ck b i hi;unfold gM at a;split at a
 case isFalse h=>exact absurd a h
 split at a
 case isFalse=>cases a
 split at a
 .cases a
 split at a
 case isFalse=>cases a
 rename_i c;simp only[bO,jl,decide_eq_true_eq]at c;omega
def ij(n a b:Int)(w:ad):bd PL 34 #[jw kx n,jw kx a,jw kx b] w λe w'=>e=kw (jt (bO n a b))/\w=w':=(bG n a b w).mono λ_ _⟨a,b⟩=>⟨a,b.symm⟩
def rM{n a b:Int}(h:bO n a b=true)(w:ad):bd PL 34 #[jw kx n,jw kx a,jw kx b] w λe w'=>e=kw (jt true)/\w=w':=by
 have:=ij n a b w;rwa[h]at this
def yG{n a b:Int}(h:bO n a b=false)(w:ad):bd PL 34 #[jw kx n,jw kx a,jw kx b] w λe w'=>e=kw (jt false)/\w=w':=by
 have:=ij n a b w;rwa[h]at this
def yH(a b:Bool)(w:ad):bd PL 39 #[jt a,jt b] w λe w'=>e=kw (jw kx (Ej a b))/\w=w':=(U5 a b w).mono λ_ _⟨a,b⟩=>⟨a,b.symm⟩
def aaA{w:ad}{k:Nat}{x:aT}{t:ac}(h:w.heap[k]?=some (kY #[x] t)):w.cell? ⟨k,0,none⟩=some x/\w.frozen? ⟨k,0,none⟩=false:=by
 simp[iY,i3,h]
def CD.sz(C:CD)(i:Nat):Int×Int:=C.x2 ((C.x4 i).n 5).toNat
def CD.zR(C:CD)(i:Nat)(x:Int):Bool:=bO x (C.sz i).1 (C.sz i).2
def CD.Cm(C:CD)(i:Nat):Int:=Ej ((C.x4 i).NY.any (C.zR i)) ((C.x4 i).NY.any λx=>!C.zR i x)
def CD.iq(C:CD)(n:Int):aT:=if C.b6 (bO n 0 (C.n4-1))=0 then jX #[jw kx (C.Cm n.toNat),jw kx 0] else jX #[jw kx 0,jw kx (C.b6 (bO n 0 (C.n4-1)))]
def pH(C:CD)(n:Int)(w:ad)(h:C.At w):bd PL 15 #[jx C.val,jw kx n] w (aO (C.iq n) w):=by
 have H:=ii (λw1 y=>h.below (w':=w1) y);have m4:=h.m4;obtain⟨i0,i1,b2,n2,c2,b3,n3,c3,b4,n4,c4,b5,n5,c5,hO⟩:∃(i0 i1:Int)(b2:Option bi)(n2 c2:Nat)(b3:Option bi)(n3 c3:Nat)(b4:Option bi)(n4 c4:Nat)(b5:Option bi)(n5 c5:Nat),∀W,C.At W->bd PL 36 #[jx C.val,jt (bO n 0 (C.n4-1))] W (aO (jX #[jx #[jw kx i0,jw kx i1,jz b2 n2 c2,jz b3 n3 c3,jz b4 n4 c4,jz b5 n5 c5],jw kx (C.b6 (bO n 0 (C.n4-1)))]) W):=by
  by_cases hf:C.b6 (bO n 0 (C.n4-1))=0
  .exact⟨_,_,_,_,_,_,_,_,_,_,_,_,_,_,λW Y=>by rw[hf];exact kF hf Y⟩
  .exact⟨_,_,_,_,_,_,_,_,_,_,_,_,_,_,λW Y=>Kr hf Y⟩
 have HO:=ii hO;have H1:=ii h;clear h hO;refine(ca (n:=9)).1 (cb (fx ao dd) rfl trivial ?_ rfl);simp only[Tryz.ntmps15,hT,hV,hJ,gt,gw,fA,fB,hY,hZ,h6,ht];refine wpIn_wide.2 ?_;go_wp2;obtain⟨d,R⟩:=br (w.alloc (kY C.val 27));have J:bA w d:=by rw[R];exact(fO _ _).alloc (fY _) _
 have S:Hid (C.Box w.heap.size d):=ii ⟨by rw[R];exact au w _⟩;rw[<-R];clear R;obtain⟨f0,f1,f2,f3,f4,f5⟩:=bf S.out.Tj;have T:w.heap.size<d.heap.size:=getElem?_lt' S.out.Tj;have XZ:w.heap.size<d.heap.size+1:=ab
 go_cut [6,7] from 12 to 19 (fun(v6:aT)(v7:aT)(Z:ad)=>v7=jw kx (C.b6 (bO n 0 (C.n4-1)))/\bA d Z)
 case first=>
  refine cc ?_
  go_region_with (first|(go_at_call 37;refine(AE C n _ m4).mono ?_;rintro e w1⟨rfl,U⟩;obtain⟨lp,lR⟩:=cW U;(first|(with_reducible have j:=Below.on ((fO d.heap.size d).drew) U)|(have j:=Below.on ((fO d.heap.size d).drew.alloc (fO d.heap.size d).drew.size _) U;have aH:d.heap.size<w1.heap.size:=by have:=U.size;simp at this;omega));have dx:=j.size;obtain⟨g0,g1,g2,g3,L,g5⟩:=bf ((j.block _ T).trans S.out.Tj);have hzw:w.heap.size<w1.heap.size:=gc T dx)|(go_at_call 36;refine(HO.out _ (H.out _ (Below.on J ?hb))).mono ?_;(with_reducible case hb=>first|exact j|exact j.alloc j.size _);rintro e w2⟨rfl,qA⟩;obtain⟨hc2,hf2⟩:=cW qA;(with_reducible first|have b:=Below.on j qA|have b:=Below.on (j.alloc j.size _) qA)))
  all_goals (refine NoPanic.normal ?_;go_wp2_with fail;go_meet;case rel=>refine⟨rfl,?_⟩;with_reducible first|exact Below.zQ b (fY _) _ _ _ _ _ _|exact Below.zQ b dx _ _ _ _ _ _|exact b.alloc b.size _)
 case rest=>
  obtain⟨rfl,z⟩:=hcut;by_cases hf:C.b6 (bO n 0 (C.n4-1))=0
  .have hA:=H.out wc (Below.on J z);have hck:C.cx=0/\bO n 0 (C.n4-1)=true:=by
    unfold CD.b6 at hf;split at hf
    .split at hf
     .exact⟨ba,ba⟩
     .cases hf
    .exact absurd hf ba
   obtain⟨hk,hb⟩:=hck;have jH:0<=n/\n<=(C.n4:Int)-1:=by simpa[bO]using hb
   obtain⟨i,rfl⟩:=kc jH.1;have hi:i<C.n4:=ab;have mS:(i:Int)<C.n4:=ab;have OK:=ii (Kq hk hi);obtain⟨z1,z2⟩:=Rt hk hi;have r:((C.x4 i).n 5).toNat<C.n2:=ab;obtain⟨g0,g1,g2,g3,L,g5⟩:=bf ((z.block _ T).trans S.out.Tj);rw[hA.s4 ab]at L;rw[hA.s2 ab]at g2;have k0:=hA.AD i hi;have k1:=hA.dB i hi 1 ab ab;have k2:=hA.dB i hi 2 ab ab;have k3:=hA.dB i hi 3 ab ab;have k4:=hA.dB i hi 4 ab ab;have k5:=hA.dB i hi 5 ab ab;have k6:=hA.dB i hi 6 ab ab;have k7:=hA.dB i hi 7 ab ab;have k8:=hA.dB i hi 8 ab ab;have k9:=hA.dB i hi 9 ab ab;have CG:=hA.dB i hi 10 ab ab;have CH:=hA.nj i hi;have y0:=hA.Ep _ r;have y1:=hA.Er _ r;have g:=hA.h4;have ND:=hA.h2;have wD:w.heap.size<wc.heap.size:=gc T z.size;rw[hf];clear hA hk hb jH f0 f1 f2 f3 f4 f5 r
   go_upto_region 4 with fail
   go_cut [8] from 23 to 32 (fun(v8:aT)(Z:ad)=>v8=jR (some ⟨wc.heap.size,0,none⟩)/\Z=wc.drew.alloc (kY #[jw kx (C.x2 ((C.x4 i).n 5).toNat).1,jw kx (C.x2 ((C.x4 i).n 5).toNat).2] 39))
   case first=>
    refine cc ?_
    go_region
    all_goals (refine NoPanic.normal ?_;go_wp2_with fail;go_meet;case rel=>exact⟨rfl,rfl⟩)
   case rest=>
    obtain⟨rfl,rfl⟩:=hcut;obtain⟨a,M⟩:=br (wc.drew.alloc (kY #[jw kx (C.x2 ((C.x4 i).n 5).toNat).1,jw kx (C.x2 ((C.x4 i).n 5).toNat).2] 39));have b:bA wc a:=by rw[M];exact(fO wc.heap.size wc).drew.alloc (fO wc.heap.size wc).drew.size _
    have N:a.heap[wc.heap.size]?=some (kY #[jw kx (C.x2 ((C.x4 i).n 5).toNat).1,jw kx (C.x2 ((C.x4 i).n 5).toNat).2] 39):=by
     have:=au wc.drew (kY #[jw kx (C.x2 ((C.x4 i).n 5).toNat).1,jw kx (C.x2 ((C.x4 i).n 5).toNat).2] 39);rw[M];exact this
    have E:a.heap.size=wc.heap.size+1:=by rw[M,i7];rfl
    rw[<-M];clear M;replace L:=(b.cell (p:=⟨w.heap.size,4,none⟩) wD).trans L;replace k0:=(b.cell (p:=⟨C.k4,C.o4+i*12,none⟩) g).trans k0;replace k1:=(b.cell (p:=⟨C.k4,C.o4+i*12+1,none⟩) g).trans k1;replace k2:=(b.cell (p:=⟨C.k4,C.o4+i*12+2,none⟩) g).trans k2;replace k3:=(b.cell (p:=⟨C.k4,C.o4+i*12+3,none⟩) g).trans k3;replace k4:=(b.cell (p:=⟨C.k4,C.o4+i*12+4,none⟩) g).trans k4;replace k5:=(b.cell (p:=⟨C.k4,C.o4+i*12+5,none⟩) g).trans k5;replace k6:=(b.cell (p:=⟨C.k4,C.o4+i*12+6,none⟩) g).trans k6;replace k7:=(b.cell (p:=⟨C.k4,C.o4+i*12+7,none⟩) g).trans k7;replace k8:=(b.cell (p:=⟨C.k4,C.o4+i*12+8,none⟩) g).trans k8;replace k9:=(b.cell (p:=⟨C.k4,C.o4+i*12+9,none⟩) g).trans k9;replace CG:=(b.cell (p:=⟨C.k4,C.o4+i*12+10,none⟩) g).trans CG;replace CH:=(b.cell (p:=⟨C.k4,C.o4+i*12+11,none⟩) g).trans CH;replace g:C.k4<a.heap.size:=ab;replace wD:w.heap.size<a.heap.size:=by omega
    clear g0 g1 g2 g3 g5 y0 y1;have k:=ii E;have HQ2:=ii N;clear E N
    go_wp2_with (go_at_call 38;refine(yF (C.x4 i) _).mono ?_;rintro e w'⟨rfl,rfl⟩)
    obtain⟨m,t⟩:=br (((a.alloc (kY #[jt false] 4)).alloc (kY #[jt false] 4)).alloc (kY (C.x4 i).val 82));have V:m.heap.size=a.heap.size+3:=by rw[t];simp
    have j:bA a m:=by rw[t];exact(((fO _ _).alloc (fY _) _).alloc ar _).alloc (by simp;omega) _
    have hp:m.heap[a.heap.size+1+1]?=some (kY (C.x4 i).val 82):=by
     have:=au ((a.alloc (kY #[jt false] 4)).alloc (kY #[jt false] 4)) (kY (C.x4 i).val 82);rw[i7,i7]at this;rw[t];exact this
    have YH:m.heap[a.heap.size]?=some (kY #[jt false] 4):=by
     rw[t];exact((((fO (a.alloc (kY #[jt false] 4)).heap.size _).alloc (fY _) _).alloc ar _).block _ ar).trans (au a _)
    have ht1:m.heap[a.heap.size+1]?=some (kY #[jt false] 4):=by
     have h1:=au (a.alloc (kY #[jt false] 4)) (kY #[jt false] 4);rw[i7]at h1;rw[t];exact(((fO ((a.alloc (kY #[jt false] 4)).alloc (kY #[jt false] 4)).heap.size _).alloc (fY _) _).block _ ar).trans h1
    have E:=k.out;have hqq:=(j.block _ ab).trans HQ2.out;have u:bA w m:=Below.on (Below.on (Below.on J z) b) j;have O:w.heap.size<=a.heap.size:=(Below.on (Below.on J z) b).size;rw[<-t];clear t k0 k1 k2 k3 k4 k5 k6 k7 k8 k9 CG CH L;obtain⟨p0,p1,p2,p3,p4,p5,p6,p7,p8,p9,Cz,Fy⟩:=gx hp;obtain⟨t0,t1,u0,u1⟩:=uJ hqq;obtain⟨v0,x0⟩:=aaA YH;obtain⟨v1,x1⟩:=aaA ht1;obtain⟨o1,o2,o3,o4,o5,o6⟩:=OK.out;have HS1:=ii V;refine(wpIn_wide (n:=9)).1 ?_;refine cd rfl ab (gf:=61) (lb:=#[jR (some ⟨a.heap.size+1+1,0,none⟩)]) rfl trivial (enters_of (fx ao fc) ae rfl)
     (tg 8 ab (a.heap.size+1+1) ((C.x4 i).n 1) ((C.x4 i).n 3) ((C.x4 i).n 2-(C.x4 i).n 1+1).toNat ((C.x4 i).n 4-(C.x4 i).n 3+1).toNat o1 ab ab o4 ab ab m ab p1 (by rw[p2];congr 2;omega) p3 (by rw[p4];congr 2;omega))
     Km (Ko ab) (fO _ _) (λ_=>rfl)
     (λq W=>(W.cell? ⟨wc.heap.size,0,none⟩=some (jw kx (C.sz i).1)/\W.cell? ⟨wc.heap.size,1,none⟩=some (jw kx (C.sz i).2)/\W.cell? ⟨a.heap.size,0,none⟩=some (jt (q.any (C.zR i)))/\W.cell? ⟨a.heap.size+1,0,none⟩=some (jt (q.any λx=>!C.zR i x))/\W.frozen? ⟨a.heap.size,0,none⟩=false/\W.frozen? ⟨a.heap.size+1,0,none⟩=false)/\bA w W)
     (λ_ _ _=>False)
     (OwnFrom.and (Own.from (λs A B row hs hg F=>⟨ce hs.1 hg F,ce hs.2.1 hg F,ce hs.2.2.1 hg F,ce hs.2.2.2.1 hg F,(cf hs.2.2.1 hg F).trans hs.2.2.2.2.1,(cf hs.2.2.2.1 hg F).trans hs.2.2.2.2.2⟩) _) (ch (fY _) (by have:=u.size;omega)))
     (λ_ _ _ _ _ hs _ _=>hs)
     ⟨⟨t0,t1,v0,v1,x0,x1⟩,u⟩
     (λx=>{ tmps:=#[jx C.val,jw kx i,jR (some ⟨w.heap.size,0,none⟩),undef,jw kx 0,jw kx 0,u6,jw kx 0,jR (some ⟨wc.heap.size,0,none⟩),jR (some ⟨a.heap.size,0,none⟩),jR (some ⟨a.heap.size+1,0,none⟩),jw kx x,u12,u13,u14,u15,u16,u17,u18,u19,jw kx 0,jt false,undef,u23,u24,u25,u26,u27,u28,u29,u30,u31,u32,jR (some ⟨w.heap.size,4,none⟩),jz (some ⟨C.k4,C.o4,none⟩) C.n4 C.c4,jw kx i,jR (some ⟨C.k4,C.o4+i*12,none⟩),jx (C.x4 i).val,j3 (.func 61) #[] #[jR (some ⟨a.heap.size+1+1,0,none⟩)],jw kx x,undef,undef,undef,undef,undef,undef,undef,undef,undef],defers:=[] }) ?assign ?body ?done ?stop
    case assign=>
     intro l x W K X;clear E V
     gi_wp2
     exact X
    case body=>
     rintro l q x W⟨⟨a0,a1,a2,a3,a4,a5⟩,y⟩_;clear E V;have bu:a.heap.size≠wc.heap.size:=by have:=k.out;omega
     by_cases I:C.zR i x=true
     .have P:=ii I;have Q:bO x (C.sz i).1 (C.sz i).2=true:=I;have v:=ii Q;clear I Q
      gi_wp2_with (refine⟨trivial,?_⟩;gi_at_call 34;refine(CallsIn.inRound l (callsIn_wide.2 (rM v.out _))).mono ?_;rintro e w'⟨rfl,rfl⟩)
      refine⟨kp _ _ _,λo=>i4 _ _ _ _ (λh=>by have f:=congrArg ke h;have:=k.out;simp only at f;omega),⟨(i4 _ _ _ _ (λh=>by have f:=congrArg ke h;have:=k.out;simp only at f;omega)).trans a0,(i4 _ _ _ _ (λh=>by have f:=congrArg ke h;have:=k.out;simp only at f;omega)).trans a1,?_,(i4 _ _ _ _ (λh=>by have f:=congrArg ke h;have:=k.out;simp only at f;omega)).trans (by rw[a3];simp[P.out]),by rw[i6];exact a4,by rw[i6];exact a5⟩,y.setCell (p:=⟨a.heap.size,0,none⟩) O _⟩;rw[i5 _ _ _ (by rw[a2];rfl)];simp[P.out]
     .have P:=ii (aV I);have Q:bO x (C.sz i).1 (C.sz i).2=false:=aV I;have v:=ii Q;clear I Q
      gi_wp2_with (refine⟨trivial,?_⟩;gi_at_call 34;refine(CallsIn.inRound l (callsIn_wide.2 (yG v.out _))).mono ?_;rintro e w'⟨rfl,rfl⟩)
      refine⟨kp _ _ _,λo=>i4 _ _ _ _ (λh=>by have f:=congrArg ke h;have:=k.out;simp only at f;omega),⟨(i4 _ _ _ _ (λh=>by have f:=congrArg ke h;have:=k.out;simp only at f;omega)).trans a0,(i4 _ _ _ _ (λh=>by have f:=congrArg ke h;have:=k.out;simp only at f;omega)).trans a1,(i4 _ _ _ _ (λh=>by have f:=congrArg ke h;have:=k.out;simp only at f;omega)).trans (by rw[a2];simp[P.out]),?_,by rw[i6];exact a4,by rw[i6];exact a5⟩,y.setCell (p:=⟨a.heap.size+1,0,none⟩) (f8 O) _⟩;rw[i5 _ _ _ (by rw[a3];rfl)];simp[P.out]
    case done=>
     rintro D ys W hD rfl⟨⟨a0,a1,a2,a3,a4,a5⟩,y⟩X;replace a2:W.cell? ⟨a.heap.size,0,none⟩=some (jt ((C.x4 i).NY.any (C.zR i))):=a2;replace a3:W.cell? ⟨a.heap.size+1,0,none⟩=some (jt ((C.x4 i).NY.any λx=>!C.zR i x)):=a3;clear E V
     go_wp2_with (go_at_call 39;refine(yH _ _ _).mono ?_;rintro e w'⟨rfl,rfl⟩)
     refine⟨ar,kG ⟨_,_,rfl,cl X,?_⟩⟩;refine⟨C.iq i,?_,rfl,y.trans (belowK_b (w:=w) (fY _) _ D _ _ (by have:=u.size;omega) X rfl rfl)⟩;rw[CD.iq,if_pos hf];simp[b1,fi,go_sem,CD.Cm]
    case stop=>
     rintro D c q W _ _ h _;exact h.elim
  .have hn:(C.b6 (bO n 0 (C.n4-1)) != 0)=true:=by simpa using hf
   have HF:=ii hf;clear hf f0 f1 f2 f3 f4 f5;go_wp2;refine⟨C.iq n,?_,rfl,?_⟩
   .rw[CD.iq,if_neg HF.out];simp[b1,fi,go_sem]
   .exact Below.on J z
end Go.Proofs
namespace Go.Proofs
set_option maxHeartbeats 1000000
open Go.RowKit
def yK{C:CD}{w:ad}{i:Nat}(h:C.At w)(hi:i<C.n4):C.b4=some ⟨C.k4,C.o4,none⟩/\w.cell? ⟨C.k4,C.o4+i*12,none⟩=some (jD (C.x4 i).name)/\w.cell? ⟨C.k4,C.o4+i*12+1,none⟩=some (jw kx ((C.x4 i).n 1))/\w.cell? ⟨C.k4,C.o4+i*12+2,none⟩=some (jw kx ((C.x4 i).n 2))/\w.cell? ⟨C.k4,C.o4+i*12+3,none⟩=some (jw kx ((C.x4 i).n 3))/\w.cell? ⟨C.k4,C.o4+i*12+4,none⟩=some (jw kx ((C.x4 i).n 4))/\w.cell? ⟨C.k4,C.o4+i*12+5,none⟩=some (jw kx ((C.x4 i).n 5))/\w.cell? ⟨C.k4,C.o4+i*12+6,none⟩=some (jw kx ((C.x4 i).n 6))/\w.cell? ⟨C.k4,C.o4+i*12+7,none⟩=some (jw kx ((C.x4 i).n 7))/\w.cell? ⟨C.k4,C.o4+i*12+8,none⟩=some (jw kx ((C.x4 i).n 8))/\w.cell? ⟨C.k4,C.o4+i*12+9,none⟩=some (jw kx ((C.x4 i).n 9))/\w.cell? ⟨C.k4,C.o4+i*12+10,none⟩=some (jw kx ((C.x4 i).n 10))/\w.cell? ⟨C.k4,C.o4+i*12+11,none⟩=some (jz (C.x4 i).lb (C.x4 i).ln (C.x4 i).lc)/\C.k4<w.heap.size:=⟨h.s4 ab,h.AD i hi,h.dB i hi 1 ab ab,h.dB i hi 2 ab ab,h.dB i hi 3 ab ab,h.dB i hi 4 ab ab,h.dB i hi 5 ab ab,h.dB i hi 6 ab ab,h.dB i hi 7 ab ab,h.dB i hi 8 ab ab,h.dB i hi 9 ab ab,h.dB i hi 10 ab ab,h.nj i hi,h.h4⟩
def yL{W:ad}{r:Nat}{x y u v:aT}{t:ac}(h:W.heap[r]?=some (kY #[x,y] t)):((W.setCell ⟨r,0,none⟩ u).setCell ⟨r,1,none⟩ v).heap[r]?=some (kY #[u,v] t):=by
 simp only[i9,fJ,if_pos,h,kj];rfl
def tv{W:ad}{r b:Nat}{u v:aT}(hb:b≠r):((W.setCell ⟨r,0,none⟩ u).setCell ⟨r,1,none⟩ v).heap[b]?=W.heap[b]?:=by
 simp only[i9,fJ,if_neg (Ne.symm hb)]
def below_drewN{n:Nat}{w W:ad}(h:Below n w W):∀k,Below n w (W.drewN k):=λk=>by
 obtain⟨a,b,c,d,e⟩:=h;exact⟨a,b,c,d,e⟩
def yM:PL.stoodInHeld 39=false:=ae
def Co:PL.eqGuardType PL.depth 39=false:=ae
structure KB(C:CD)(w W:ad):Prop where
 box:W.heap[w.heap.size]?=some (kY C.val 27)
 low:bA w W
def KB.on{C:CD}{w W a:ad}(h:KB C w W)(b:bA W a):KB C w a:=
 ⟨(b.block _ (getElem?_lt' h.box)).trans h.box,Below.on h.low b⟩
def KB.alloc{C:CD}{w W:ad}(h:KB C w W)(o:Obj):KB C w (W.alloc o):=h.on ((fO _ _).alloc (fY _) _)
def KB.lt{C:CD}{w W:ad}(h:KB C w W):w.heap.size<W.heap.size:=getElem?_lt' h.box
def CD.Mem.below{C:CD}{w w':ad}(h:C.Mem w)(a:bA w w'):C.Mem w':=by
 have s:=a.size;have e:∀o,w'.cell? ⟨C.k2,o,none⟩=w.cell? ⟨C.k2,o,none⟩:=λo=>a.cell (p:=⟨C.k2,o,none⟩) h.h2;have b:∀o,w'.cell? ⟨C.k3,o,none⟩=w.cell? ⟨C.k3,o,none⟩:=λo=>a.cell (p:=⟨C.k3,o,none⟩) h.h3;have c:∀o,w'.cell? ⟨C.k4,o,none⟩=w.cell? ⟨C.k4,o,none⟩:=λo=>a.cell (p:=⟨C.k4,o,none⟩) h.h4;have d:∀o,w'.cell? ⟨C.k5,o,none⟩=w.cell? ⟨C.k5,o,none⟩:=λo=>a.cell (p:=⟨C.k5,o,none⟩) h.h5;obtain⟨h2,h3,h4,h5,s2,s3,s4,s5,Ep,Er,Es,Et,Eu,AD,dB,nj,l4,J5,FI,HU,J6⟩:=h
 exact⟨ab,ab,ab,ab,s2,s3,s4,s5,λi hi=>(e _).trans (Ep i hi),λi hi=>(e _).trans (Er i hi),λi hi=>(b _).trans (Es i hi),λi hi=>(b _).trans (Et i hi),λi hi=>(b _).trans (Eu i hi),
  λi hi=>(c _).trans (AD i hi),λi hi j f h2=>(c _).trans (dB i hi j f h2),λi hi=>(c _).trans (nj i hi),λi hi hl=>⟨(l4 i hi hl).1,gc (l4 i hi hl).2 s⟩,
  λi hi j g=>(a.cell (p:=⟨(C.x4 i).lk,(C.x4 i).lo+j,none⟩) (l4 i hi ab).2).trans (J5 i hi j g),λi hi=>(d _).trans (FI i hi),λi hi=>(d _).trans (HU i hi),λi hi=>(d _).trans (J6 i hi)⟩
end Go.Proofs
