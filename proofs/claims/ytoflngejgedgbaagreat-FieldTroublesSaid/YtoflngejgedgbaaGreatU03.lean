/- Part of the proof of FieldTroubles. -/
import Derived.Test.YtoflngejgedgbaaGreatU00
import Derived.Deep.CutRange
import Derived.Deep.RegionHeld3
import Derived.Deep.Slices
import Derived.Lib.Hide
import Derived.LoopIn
import Derived.LoopNIn
import Derived.OwnWalkIn
import Derived.RangeFuncBound
import Derived.RangeFuncNested
import Derived.Shelf.RegionOpen
import Derived.WalkLawsBesides
import Derived.WalkSpells
set_option linter.all false
open Go renaming Program->aa,TypeId->ac,World->ad,underlying->ag,sizeOf->ai,typeInfo->aF,zeroValue->aI,FuncId->aJ,Value->aP,callFunc->aT,Calls->bd,Addr->bi,MapEntry->bm,Oper->bv,Exit->bC,Operand->b9,wpList->ce,wpList_plain->cf,execOp->ch,bodyPost_ret->ci,results->cl,yielded->co,execOp_congr->ct,callsIn_wide->cv,callsIn_of_wp_marks->db,wp_region_noPanic->dc,wpIn_rangeFunc_ownF->dL,cell_kept->dO,frozen_kept->dQ,ownFrom_below->dU,grownBy_putObj'->d8,run_takeDeferred->d9
open Go.Sem renaming run->ec
open Go.Program renaming underlying->ed,cellsOf->eg
open Option renaming some->ek,none->el
open Array renaming setIfInBounds->em,getElem?_setIfInBounds_ne->ep,getElem?_eq_none->eq,getElem?_eq_getElem->eu,all_eq_true'->eA,replicate->eD
open Go.Proofs.Tryz renaming funcs->eE,prog->eN,func4->eP,func20->e9,func37->fb,func33->fc,func21->fm,func22->fp,func13->fA,func27->fB,func28->fJ,func96->fR,func30->f6,func29->f7,func8->f8,func43->f9,func19->gc,func52->ge,func53->gg,func73->gj,func74->gp,func75->gt,func76->gy,func77->gE,func50->gL,func68->g4,func69->g6,func70->g7,func31->g8,func46->g9,func54->hh,func49->ht,func95->hG,func55->hH,func64->hI,func41->hJ,func47->hM,func99->hT,func100->hV,func101->hY,func94->h6,func67->h7,func126->h8,func123->ii,func124->io,func93->ip,ntmps74->ix,ntmps101->iP,ntmps75->i9,ntmps77->jf,ntmps76->jk,ntmps31->jn,results31->jp,ntmps20->jr,ntmps94->jt,ntmps68->jw,ntmps70->jz,ntmps69->jQ,ntmps33->j4,ntmps49->j5,ntmps4->j6,underlying30->ka,underlying93->kc,underlying51->kd,underlying49->ke,underlying27->kf,func82->kg,results21->kp,results22->kq,ntmps13->kt,ntmps30->kw,ntmps29->kx,ntmps8->kG
open Bool renaming false->kS,true->kY,rec->la,not_eq_true'->ld
open Go.RowKit.Below renaming refl->li,heap_alloc->lm,trans->lA
open List renaming range->lL,all_eq_false->lM,range_succ->lS,map_append->lT,drop_eq_getElem_cons->lW,mem_append_left->l1,range_add->l2,countP_congr->l3,countP_cons->l5,foldl_nil->mc
open Go.World renaming cell?->mm,cell?_of_block->mn,alloc->mG,frozen?->m7,setCell->m8,drewN->m9,putObj->na,cell?_setCell_other->nb,cell?_setCell_same'->ni,frozen?_setCell->nk,size_alloc->nl,ownsRow->nq
open Go.Lib renaming hid->nV
open Nat renaming le_succ_of_le->n0,lt_trans->n6,add_assoc->n7,lt_or_ge->n8,strongRecOn->n9,reduceAdd->ob,reduceSub->ol
open Go.Instr renaming checkKey->ov,findKey->ow,sameNow->pg,findNow->ph,findAsking->pi,lookup->pk,mapUpdate->pm,index->pp
open Go.MapKept renaming run_getObj_map->pu
open Go.Result renaming andThen->pv,ok->qi
open Go.Value renaming bool->qq,int->qr,string->qt,slice->qu,agg->qv,map->qF,pointer->qG,tuple->qH,func->qU
open Int renaming mul_nonneg->q7,mul_add->q8,le_total->q9,neg_mul_neg->rf,mul_le_mul->rh,eq_ofNat_of_zero_le->rk
open Go.Addr renaming add->ro,block->rq
open Go.Deep renaming choose_lt->rr
open Go.Region renaming binds->rs,wanted->rt,ready->rx
open Go.Code renaming region->rI
open Go.KeepsOthers renaming setCell->rN
open Go.Obj renaming cells->rP
open Go.IntKind renaming i64->rQ
open Go.Next renaming enter->rR,value->rS,skip->r6
open Go.Ending renaming returned->r7
open Or renaming inl->r8,inr->r9
open Go.Exit renaming normal->sd
open Go.Departure renaming mixedOrders->se
set_option maxHeartbeats 4000000
set_option maxRecDepth 100000
namespace Go
def nO(P:aa)(n:ac)(w:ad):ec P (ag n) w=match P.underlying n with|some i=>qi i w|none=>.halt (.stuck "no such type") w:=by
 cases h:ed P n<;>simp[ag,h]
section
variable {P Q:aa}
def yf(h:P.toTables=Q.toTables)(n:ac):P.info? n=Q.info? n:=by
 grind
def Cb(h:P.toTables=Q.toTables)(n:ac):ed P n=ed Q n:=by
 simp only[ed,yf h]
def yg(h:P.toTables=Q.toTables)(n:ac)(w:ad):ec P (ag n) w=ec Q (ag n) w:=by
 rw[nO,nO,Cb h]
def Hw(h:P.toTables=Q.toTables)(n:ac)(w:ad):ec P (ai n) w=ec Q (ai n) w:=by
 have e:=yf h n
 cases a:Q.info? n with
 |none=>rw[a]at e;simp[ai,aF,a,e]
 |some i=>rw[a]at e;simp[ai,aF,a,e]
def Na(h:P.toTables=Q.toTables)(n:ac)(w:ad):ec P (isAgg n) w=ec Q (isAgg n) w:=by
 have e:=Cb h n
 cases a:ed Q n with
 |none=>rw[a]at e;simp[isAgg,ag,a,e]
 |some d=>rw[a]at e;cases d<;>simp[isAgg,ag,a,e]
def QZ(h:P.toTables=Q.toTables)(n:ac)(w:ad):ec P (aI n) w=ec Q (aI n) w:=by
 have e:=yf h n
 cases a:Q.info? n with
 |none=>rw[a]at e;simp[aI,aF,a,e]
 |some i=>
  rw[a]at e;cases b:i.zero<;>simp[aI,aF,a,e,b]
end
end Go
namespace Go.Proofs
open Go.RowKit
abbrev bL(w W:ad):Prop:=Below w.heap.size w W
noncomputable def PL:aa:=⟨Tryz.progTables,cY.funcs⟩
def mo:PL.toTables=Tryz.prog.toTables:=rfl
def fx{n:Nat}{f:Func}(h:61≠n)(hf:Tryz.prog.funcs[n]?=ek f):PL.funcs[n]?=ek f:=by
 show(em eE 61 nS)[n]?=_;rw[ep h];exact hf
@[simp] def PL.tables:PL.toTables=Tryz.prog.toTables:=rfl
@[simp] def PL.tY(n:ac):ed PL n=ed eN n:=Cb mo n
@[simp] def PL.abF(n:ac)(w:ad):ec PL (ai n) w=ec eN (ai n) w:=Hw mo n w
@[simp] def PL.runUnderlying(n:ac)(w:ad):ec PL (ag n) w=ec eN (ag n) w:=yg mo n w
@[simp] def PL.afe(n:ac)(w:ad):ec PL (isAgg n) w=ec eN (isAgg n) w:=Na mo n w
@[simp] def PL.U4(n:ac)(w:ad):ec PL (aI n) w=ec eN (aI n) w:=QZ mo n w
end Go.Proofs
namespace Go
def JZ{P:aa}{n:aJ}{fn:Func}(h:P.funcs[n]?=ek fn)(a:(fn.name == "runtime.NumGoroutine")=kS)(hb:fn.body.isNone=kS)(args:Array aP)(w:ad):ec P (aT n args) w=qi (rR n args) w:=by
 have b:fn.name≠ "runtime.NumGoroutine":=by simpa using a
 have c:fn.body≠el:=λe=>by rw[e]at hb;cases hb
 simp[aT,h,b,c]
end Go
namespace Go.Proofs
variable {C J q:Int}
abbrev ax(n:aJ):Prop:=∀(args:Array aP)(w:ad),ec PL (aT n args) w=qi (rR n args) w
def pc{n:aJ}{fn:Func}(h:Tryz.prog.funcs[n]?=ek fn)(a:61≠n:=by decide)(b:(fn.name == "runtime.NumGoroutine")=kS:=by decide +kernel)(hb:fn.body.isNone=kS:=by rfl):ax n:=
 JZ (fx a h) b hb
def Cc:PL.funcs[61]?=ek nS:=by
 have hl:61<Tryz.funcs.size:=(bR.1 Tryz.func61).1;show(em eE 61 nS)[61]?=_;grind
@[simp] def PL.call98(args:Array aP)(w:ad):ec PL (aT 61 args) w=qi (rR 61 args) w:=JZ Cc (by decide +kernel) rfl args w
@[simp] def PL.call18:ax 4:=pc eP
@[simp] def PL.call19:ax 5:=pc Tryz.func5
@[simp] def PL.call20:ax 20:=pc e9
@[simp] def PL.call22:ax 37:=pc fb
@[simp] def PL.call23:ax 33:=pc fc
@[simp] def PL.call24:ax 21:=pc fm
@[simp] def PL.call26:ax 22:=pc fp
@[simp] def PL.call28:ax 26:=pc Tryz.func26
@[simp] def PL.call30:ax 13:=pc fA
@[simp] def PL.call31:ax 27:=pc fB
@[simp] def PL.call34:ax 23:=pc Tryz.func23
@[simp] def PL.call36:ax 25:=pc Tryz.func25
@[simp] def PL.call37:ax 6:=pc Tryz.func6
@[simp] def PL.call38:ax 28:=pc fJ
@[simp] def PL.call39:ax 14:=pc Tryz.func14
@[simp] def PL.call45:ax 96:=pc fR
@[simp] def PL.call49:ax 9:=pc Tryz.func9
@[simp] def PL.call52:ax 11:=pc Tryz.func11
@[simp] def PL.call56:ax 30:=pc f6
@[simp] def PL.call58:ax 29:=pc f7
@[simp] def PL.call59:ax 24:=pc Tryz.func24
@[simp] def PL.call64:ax 7:=pc Tryz.func7
@[simp] def PL.call65:ax 8:=pc f8
@[simp] def PL.call66:ax 10:=pc Tryz.func10
@[simp] def PL.call67:ax 12:=pc Tryz.func12
@[simp] def PL.call68:ax 15:=pc Tryz.func15
@[simp] def PL.call69:ax 16:=pc Tryz.func16
@[simp] def PL.call70:ax 17:=pc Tryz.func17
@[simp] def PL.call71:ax 18:=pc Tryz.func18
@[simp] def PL.call74:ax 43:=pc f9
@[simp] def PL.call77:ax 19:=pc gc
@[simp] def PL.call78:ax 52:=pc ge
@[simp] def PL.call79:ax 53:=pc gg
@[simp] def PL.call81:ax 73:=pc gj
@[simp] def PL.call82:ax 74:=pc gp
@[simp] def PL.call83:ax 75:=pc gt
@[simp] def PL.call84:ax 76:=pc gy
@[simp] def PL.call85:ax 77:=pc gE
@[simp] def PL.call86:ax 50:=pc gL
@[simp] def PL.call87:ax 68:=pc g4
@[simp] def PL.call88:ax 69:=pc g6
@[simp] def PL.call89:ax 70:=pc g7
@[simp] def PL.call90:ax 31:=pc g8
@[simp] def PL.call91:ax 46:=pc g9
@[simp] def PL.call92:ax 54:=pc hh
@[simp] def PL.call93:ax 49:=pc ht
@[simp] def PL.call94:ax 95:=pc hG
@[simp] def PL.call96:ax 55:=pc hH
@[simp] def PL.call97:ax 60:=pc Tryz.func60
@[simp] def PL.call99:ax 62:=pc Tryz.func62
@[simp] def PL.call101:ax 40:=pc Tryz.func40
@[simp] def PL.call105:ax 64:=pc hI
@[simp] def PL.call108:ax 56:=pc Tryz.func56
@[simp] def PL.call109:ax 57:=pc Tryz.func57
@[simp] def PL.call110:ax 58:=pc Tryz.func58
@[simp] def PL.call111:ax 32:=pc Tryz.func32
@[simp] def PL.call112:ax 41:=pc hJ
@[simp] def PL.call113:ax 39:=pc Tryz.func39
@[simp] def PL.call114:ax 35:=pc Tryz.func35
@[simp] def PL.call115:ax 38:=pc Tryz.func38
@[simp] def PL.call117:ax 98:=pc Tryz.func98
@[simp] def PL.call118:ax 59:=pc Tryz.func59
@[simp] def PL.call119:ax 72:=pc Tryz.func72
@[simp] def PL.call122:ax 34:=pc Tryz.func34
@[simp] def PL.call123:ax 36:=pc Tryz.func36
@[simp] def PL.call124:ax 42:=pc Tryz.func42
@[simp] def PL.call125:ax 44:=pc Tryz.func44
@[simp] def PL.call126:ax 45:=pc Tryz.func45
@[simp] def PL.call127:ax 47:=pc hM
@[simp] def PL.call128:ax 48:=pc Tryz.func48
@[simp] def PL.call129:ax 51:=pc Tryz.func51
@[simp] def PL.call131:ax 99:=pc hT
@[simp] def PL.call132:ax 100:=pc hV
@[simp] def PL.call133:ax 101:=pc hY
@[simp] def PL.call134:ax 94:=pc h6
@[simp] def PL.call142:ax 67:=pc h7
@[simp] def PL.call143:ax 83:=pc Tryz.func83
@[simp] def PL.call145:ax 85:=pc Tryz.func85
@[simp] def PL.call146:ax 65:=pc Tryz.func65
@[simp] def PL.call148:ax 125:=pc Tryz.func125
@[simp] def PL.call149:ax 97:=pc Tryz.func97
@[simp] def PL.call150:ax 71:=pc Tryz.func71
@[simp] def PL.call151:ax 78:=pc Tryz.func78
@[simp] def PL.call152:ax 79:=pc Tryz.func79
@[simp] def PL.call153:ax 80:=pc Tryz.func80
@[simp] def PL.call154:ax 81:=pc Tryz.func81
@[simp] def PL.call157:ax 126:=pc h8
@[simp] def PL.call158:ax 123:=pc ii
@[simp] def PL.call159:ax 124:=pc io
@[simp] def PL.call180:ax 93:=pc ip
@[simp] def PL.call181:ax 92:=pc Tryz.func92
@[simp] def PL.call191:ax 122:=pc Tryz.func122
@[simp] def PL.call199:ax 136:=pc Tryz.func136
open Go.RowKit
set_option maxHeartbeats 400000
def aO(v:aP)(w:ad)(e:Ending)(w':ad):Prop:=e=r7 v/\bL w w'
def bO(n a b:Int):Bool:=decide (a<=n)&&decide (n<=b)
def bG(n a b:Int)(w:ad) :
 bd PL 52 #[qr rQ n,qr rQ a,qr rQ b] w λe w'=>e=r7 (qq (bO n a b))/\w'=w:=by
 go_enter (fx ao ge),Tryz.ntmps52;go_wp2
 all_goals (go_ret;simp[bO];try omega)
def o8(n:Int)(w:ad):bd PL 41 #[qr rQ n] w λe w'=>e=r7 (qq (bO n 0 12))/\w'=w:=by
 go_enter (fx ao hJ),Tryz.ntmps41
 go_wp2_with (go_at_call 52;refine(bG _ _ _ _).m ?_;rintro e w'⟨rfl,rfl⟩)
 go_ret;exact⟨rfl,rfl⟩
def eK(a b low c:Int):Bool:=decide (low<=a)&&decide (a<=b)&&decide (b<=c)
def nh(a b low c:Int)(w:ad) :
 bd PL 47 #[qv #[qr rQ a,qr rQ b],qr rQ low,qr rQ c] w (aO (qq (eK a b low c)) w):=by
 go_enter (fx ao hM),Tryz.ntmps47;go_wp2
 all_goals (go_ret;refine⟨?_,(li _ _).a (dk _) _⟩;simp[eK];try omega)
def Ej(a b:Bool):Int:=if b then(if a then 0 else 2) else 1
def U5(a b:Bool)(w:ad):bd PL 55 #[qq a,qq b] w λe w'=>e=r7 (qr rQ (Ej a b))/\w'=w:=by
 cases a<;>cases b
 all_goals
  go_enter (fx ao hH),Tryz.ntmps55;go_wp2;go_ret;exact⟨rfl,rfl⟩
def fN(h:bO q C J=kY)(w:ad):bd PL 52 #[qr rQ q,qr rQ C,qr rQ J] w λe w'=>e=r7 (qq kY)/\w'=w:=by
 have:=bG q C J w;rwa[h]at this
def pZ(h:bO q C J=kS)(w:ad):bd PL 52 #[qr rQ q,qr rQ C,qr rQ J] w λe w'=>e=r7 (qq kS)/\w'=w:=by
 have:=bG q C J w;rwa[h]at this
def Ek{low:Int}(h:eK q C low J=kY)(w:ad):bd PL 47 #[qv #[qr rQ q,qr rQ C],qr rQ low,qr rQ J] w (aO (qq kY) w):=by
 have:=nh q C low J w;rwa[h]at this
def El{low:Int}(h:eK q C low J=kS)(w:ad):bd PL 47 #[qv #[qr rQ q,qr rQ C],qr rQ low,qr rQ J] w (aO (qq kS) w):=by
 have:=nh q C low J w;rwa[h]at this
def aV{b:Bool}(h:¬b=kY):b=kS:=by simpa using h
def pq(n:Nat)(x:Nat->Int×Int):Int:=if bO n 1 3 then(if(lL n).all λi=>eK (x i).1 (x i).2 0 90 then 0 else 1) else 2
def Nb(l p:Int)(b:Option bi)(k o n c:Nat)(x:Nat->Int×Int)(z A v5:aP)(w:ad)(E:n<=20)(s:k<w.heap.size)(hs:0<n->b=ek ⟨k,o,el⟩)
 (t:∀i,i<n->mm w ⟨k,o+i*2,el⟩=ek (qr rQ (x i).1)) (u:∀i,i<n->mm w ⟨k,o+i*2+1,el⟩=ek (qr rQ (x i).2)) :
 bd PL 74 #[qv #[qr rQ l,qr rQ p,qu b n c,z,A,v5]] w (aO (qr rQ (pq n x)) w):=by
 have B:=nV t;have C:=nV u;clear t u;by_cases hb:bO (↑n) 1 3=kY
 .have D:0<n:=by simp[bO]at hb;omega
  obtain rfl:=hs D;have d:=nV hb;clear hb hs;go_enter (fx ao gp),ix
  go_wp2_with (go_at_call 52;refine(fN d.o _).m ?_;rintro e w'⟨rfl,rfl⟩)
  go_loopw [15] (λi wr=>∃m:Nat,m<=n/\i=qr rQ m/\(∀j,j<m->eK (x j).1 (x j).2 0 90=kY)/\bL w wr) (λi _=>n-(intOf i).toNat)
  case atStart=>exact⟨0,eF _,rfl,λj f=>absurd f (eI _),(li _ _).a (dk _) _⟩
  case round=>
   obtain⟨m,F,rfl,v,a⟩:=hrel;have y:=nV v;clear v;by_cases q:m<n
   .have c0:=(a.c (p:=⟨k,o+m*2,el⟩) s).t (B.o m q);have c1:=(a.c (p:=⟨k,o+m*2+1,el⟩) s).t (C.o m q);by_cases hi:eK (x m).1 (x m).2 0 90=kY
    .have g:=nV hi;clear hi
     go_wp2_with (go_at_call 47;refine(Ek g.o _).m ?_;rintro e w1⟨rfl,r⟩)
     go_roundw
     case rel=>exact⟨m+1,q,by go_num,λj f=>by
      rcases fg.1 f with h|h
      .exact y.o j h
      .rw[h];exact g.o,(a.a a.z _).t (r.mono (by simpa using n0 a.z))⟩
     case measure=>simp[intOf];omega
    .have g:=nV (aV hi);clear hi
     go_wp2_with (go_at_call 47;refine(El g.o _).m ?_;rintro e w1⟨rfl,r⟩)
     go_ret;refine⟨?_,?_⟩
     .have:((lL n).all λi=>eK (x i).1 (x i).2 0 90)=kS:=by
       rw[lM];exact⟨m,dv.2 q,by simp[g.o]⟩
      simp[pq,d.o,this]
     .exact(a.a a.z _).t (r.mono (by simpa using n0 a.z))
   .go_wp2;go_ret;refine⟨?_,a⟩;have:((lL n).all λi=>eK (x i).1 (x i).2 0 90)=kY:=by
     rw[df];intro j f;exact y.o j (by have:=dv.1 f;omega)
    simp[pq,d.o,this]
 .have d:=nV (aV hb);clear hb;go_enter (fx ao gp),ix
  go_wp2_with (go_at_call 52;refine(pZ d.o _).m ?_;rintro e w'⟨rfl,rfl⟩)
  go_ret;exact⟨by simp[pq,d.o],(li _ _).a (dk _) _⟩
end Go.Proofs
namespace Go
open Instr Go.RowKit
variable {q:ac}
section
variable {P:aa}{w:ad}
structure KeyLaw(P:aa)(tk:ac){α:Type}(enc:α->aP):Prop where
 check:∀b x w,(ov b 10000 tk (enc x)).run P w=qi () w
 find:∀(es:List bm)(ks:List α)(x:α)(w:ad),es.map (·.key)=ks.map enc->∃r,(ow tk (enc x) es).run P w=qi r w/\(x∈ks->∃i,∃e∈es,r=ek (i,e.val))/\(x∉ks->r=el)
def vq{c:Type}{enc:c->aP}{d:TypeDesc}(h:∀x y,pg d (enc x) (enc y)=ek kY/\x=y\/pg d (enc x) (enc y)=ek kS/\x≠y)(x:c) :
 ∀(es:List bm)(a:List c)(i:Nat),es.map (·.key)=a.map enc->∃r,ph d (enc x) es i=ek r/\(x∈a->∃j,∃e∈es,r=ek (j,e.val))/\(x∉a->r=el):=by
 intro es
 induction es with
 |nil=>
  intro a i b
  cases a with
  |nil=>exact⟨el,rfl,λh=>absurd h ar,λ_=>rfl⟩
  |cons _ _=>simp at b
 |cons e es l=>
  intro a i b
  cases a with
  |nil=>simp at b
  |cons y a=>
   simp only[hZ,List.cons.injEq]at b
   rcases h x y with⟨f,rfl⟩|⟨f,o⟩
   .exact⟨ek (i,e.val),by simp[ph,b.1,f],λ_=>⟨i,e,ar,rfl⟩,λg=>absurd ar g⟩
   .obtain⟨r,m,p,n⟩:=l a (i+1) b.2;refine⟨r,by simp[ph,b.1,f,m],λk=>?_,λg=>n λk=>g (by simp[k])⟩;grind
def yj{c:Type}{enc:c->aP}{tk:ac}[DecidableEq c](h:∀x y(w:ad),(Op.equal tk (enc x) (enc y)).run P w=qi (decide (x=y)) w)(x:c) :
 ∀(es:List bm)(a:List c)(i:Nat)(w:ad),es.map (·.key)=a.map enc->∃r,(pi tk (enc x) es i).run P w=qi r w/\(x∈a->∃j,∃e∈es,r=ek (j,e.val))/\(x∉a->r=el):=by
 intro es
 induction es with
 |nil=>
  intro a i w b
  cases a with
  |nil=>exact⟨el,rfl,λh=>absurd h ar,λ_=>rfl⟩
  |cons _ _=>simp at b
 |cons e es k=>
  intro a i w b
  cases a with
  |nil=>simp at b
  |cons y a=>
   simp only[hZ,List.cons.injEq]at b;by_cases f:x=y
   .subst f;exact⟨ek (i,e.val),by simp[pi,b.1,h],λ_=>⟨i,e,ar,rfl⟩,λd=>absurd ar d⟩
   .obtain⟨r,l,n,m⟩:=k a (i+1) w b.2;refine⟨r,by simp[pi,b.1,h,f,l],λg=>?_,λd=>m λg=>d (by simp[g])⟩;grind
def Hx{k:IntKind}(a:ed P q=ek (.int k)):KeyLaw P q (λn:Int=>qr k n) where
 check b x w:=by
  show(ov b (9999+1) q _).run P w=_;generalize 9999=n;simp[ov,ag,a]
 find es c x w e:=by
  obtain⟨r,f,g,i⟩:=vq (enc:=λn:Int=>qr k n) (d:=.int k) (λx y=>by
   by_cases h:x=y
   .exact r8 ⟨by simp[pg,h],h⟩
   .exact r9 ⟨by simp[pg,h],h⟩) x es c 0 e
  exact⟨r,by simp[ow,ag,a,f],g,i⟩
def bytes_beq(x y:ByteArray):(x==y)=decide (x=y):=by
 obtain⟨a⟩:=x;obtain⟨b⟩:=y;show(a==b)=_;grind
instance:LawfulBEq ByteArray where
 rfl:=by intro a;rw[bytes_beq];simp
 eq_of_beq:=by intro a b h;rw[bytes_beq]at h;simpa using h
def zP(a:ed P q=ek .string):KeyLaw P q (λs:ByteArray=>qt s) where
 check b x w:=by
  show(ov b (9999+1) q _).run P w=_;generalize 9999=n;simp[ov,ag,a]
 find es c x w e:=by
  obtain⟨r,f,g,i⟩:=vq (enc:=λn:ByteArray=>qt n) (d:=.string) (λx y=>by
   by_cases h:x=y
   .exact r8 ⟨by simp[pg,bytes_beq,h],h⟩
   .exact r9 ⟨by simp[pg,bytes_beq,h],h⟩) x es c 0 e
  exact⟨r,by simp[ow,ag,a,f],g,i⟩
def aU(w:ad){a:Type}(enc:a->aP)(b:Nat)(l:List a):Prop:=∃es clock,w.heap[b]?=ek (.map es clock)/\es.toList.map (·.key)=l.map enc/\∀e∈es.toList,e.val=qq kY
def aU.of_heap{a:Type}{enc:a->aP}{b:Nat}{l:List a}{w w':ad}(h:aU w enc b l)(e:w'.heap[b]?=w.heap[b]?):aU w' enc b l:=by
 obtain⟨es,c,d,f⟩:=h;exact⟨es,c,e.t d,f⟩
def aU.lookup{a:Type}{enc:a->aP}{b:Nat}{l:List a}{tk g:ac}[DecidableEq a](h:aU w enc b l)(K:KeyLaw P tk enc)(j:ed P q=ek (.map tk g))(m:(aI g).run P w=qi (qq kS) w)(x:a) :
 (pk q (qF (ek b)) (enc x) kS).run P w=qi (qq (decide (x∈l))) w:=by
 obtain⟨es,c,k,n,o⟩:=h;obtain⟨r,f,p,t⟩:=K.find es.toList l x w n;by_cases d:x∈l
 .obtain⟨i,e,s,rfl⟩:=p d;simp[pk,ag,j,pu k,K.check,f,d,o e s]
 .rw[t d]at f;simp[pk,ag,j,pu k,K.check,f,d,m]
structure gv(w w':ad)(b:Nat):Prop where
 os:w'.os=w.os
 tape:w'.tape=w.tape
 output:w'.output=w.output
 size:w'.heap.size=w.heap.size
 block:∀c,c≠b->w'.heap[c]?=w.heap[c]?
def gv.below{w w':ad}{b B:Nat}(h:gv w w' b)(a:B<=b):Below B w w':=⟨h.os,h.tape,h.output,by rw[h.size];exact dk _,λk c=>h.block k ab⟩
def gv.cell{w w':ad}{b:Nat}(h:gv w w' b){a:bi}(c:a.block≠b):mm w' a=mm w a:=mn (w:=w) (h.block a.block c)
def aU.put{a:Type}{enc:a->aP}{b:Nat}{l:List a}{t tk i:ac}(h:aU w enc b l)(K:KeyLaw P tk enc)(j:ed P t=ek (.map tk i)){x:a}(m:x∉l) :
 ∃w',(pm t (qF (ek b)) (enc x) (qq kY)).run P w=qi () w'/\aU w' enc b (l++[x])/\gv w w' b:=by
 obtain⟨es,c,d,f,o⟩:=h;obtain⟨r,g,p,n⟩:=K.find es.toList l x w f;rw[n m]at g;have hb:b<w.heap.size:=(bR.1 d).1;refine⟨{ w with heap:=em w.heap b (.map (es.push { key:=enc x,val:=qq kY,born:=c }) (c+1)) },?_,⟨es.push { key:=enc x,val:=qq kY,born:=c },c+1,by simp[hb],by simp[f],λe q=>?_⟩,rfl,rfl,rfl,ar,λk s=>?_⟩
 .simp[pm,ag,j,pu d,K.check,g,MapKept.run_setObj_map _ d]
 .grind
 grind
def aU.made{a:Type}{enc:a->aP}(w:ad):aU (mG w (.map #[] 0)) enc w.heap.size ([]:List a):=⟨#[],0,by show(w.heap.push _)[w.heap.size]?=_;simp,rfl,λe b=>by simp at b⟩
def aR{P:aa}(w:ad){ops:Array bv}{rest:List bv}{o:bv}{a:Act}{Q:bC->Act->ad->Prop}{c:Type}[DecidableEq c]{enc:c->aP}
 (hg:o.guard=el) (m x:b9) (t tk d:ac) (g:o.op=Op.lookup t m x kS) (K:KeyLaw P tk enc) (i:ed P t=ek (.map tk d)) (j:(aI d).run P w=qi (qq kS) w)
 (b:Nat) (l:List c) (k:a.eval m=qF (ek b)) (h:aU w enc b l) (y:c) (n:a.eval x=enc y) (v:Bool) (hv:v=kY↔y∈l) (p:ce P ops Q rest (a.put o.dst (qq v)) w):ce P ops Q (o::rest) a w:=by
 refine cf hg λq hK'=>?_;have f:=h.lookup K i j y;have e:decide (y∈l)=v:=by
  grind
 rw[e]at f;unfold Oper.wp;simp[ch,g,k,n,f,pv];exact hK' _ _ p
def dH{P:aa}(w:ad){ops:Array bv}{rest:List bv}{o:bv}{a:Act}{Q:bC->Act->ad->Prop}{c:Type}{enc:c->aP}
 (hg:o.guard=el) (m x v:b9) (t tk d:ac) (e:o.op=Op.mapUpdate t m x v) (K:KeyLaw P tk enc) (f:ed P t=ek (.map tk d))
 (b:Nat) (l:List c) (g:a.eval m=qF (ek b)) (h:aU w enc b l) (y:c) (i:a.eval x=enc y) (hv:a.eval v=qq kY) (j:y∉l)
 (k:∀w',aU w' enc b (l++[y])->gv w w' b->ce P ops Q rest (a.put o.dst undef) w'):ce P ops Q (o::rest) a w:=by
 refine cf hg λr hK'=>?_;obtain⟨w',n,p,q⟩:=h.put K f j;unfold Oper.wp;simp[ch,e,g,i,hv,n,pv];exact hK' _ _ (k w' p q)
end
end Go
namespace Go.Proofs
open Go.Instr
def aaj:ed PL 3=ek (.int rQ):=bp
def al1:ed PL 9=ek .string:=bp
def qz:KeyLaw PL 3 (λn:Int=>qr rQ n):=Hx aaj
def aak:KeyLaw PL 9 (λs:ByteArray=>qt s):=zP al1
def jc(p:Int×Int):aP:=qv #[qr rQ p.1,qr rQ p.2]
def mq(w:ad):(aI 4).run PL w=qi (qq kS) w:=bp
def ju:ed PL 114=ek (.map 3 4):=bp
def Hy:ed PL 165=ek (.map 9 4):=bp
def Hz:ed PL 160=ek (.map 162 4):=bp
def Q0:PL.stoodInHeld 162=kS:=ae
def Nc:(PL.fieldsOf 162).toList=[{ name:= "low",type:=3,offset:=0,embedded:=kS,tag:= "",pkgPath:= "nock/field",byteOffset:=0 },{ name:= "high",type:=3,offset:=1,embedded:=kS,tag:= "",pkgPath:= "nock/field",byteOffset:=8 }]:=ae
def Q1:ed PL 162=ek (.struct (PL.fieldsOf 162)):=ae
def afg(x y:Int×Int)(w:ad):(Op.equal 162 (jc x) (jc y)).run PL w=qi (decide (x=y)) w:=by
 obtain⟨a,b⟩:=x;obtain⟨c,d⟩:=y;have e:=run_equalIn_struct (P:=PL) w 9999 162 #[qr rQ a,qr rQ b] #[qr rQ c,qr rQ d] Q1 Q0;show(Op.equalIn (9999+1) 162 _ _).run PL w=_;rw[show jc (a,b)=qv #[qr rQ a,qr rQ b] from rfl,show jc (c,d)=qv #[qr rQ c,qr rQ d] from rfl,e,Nc];have f:∀(m n:Int)(w:ad),(Op.equalIn 9999 3 (qr rQ m) (qr rQ n)).run PL w=qi (m==n) w:=λm n w=>run_equalIn_int w 9998 3 rQ rQ m n aaj;generalize 9999=N at f;by_cases g:a=c<;>by_cases h:b=d<;>simp[Op.eqFields,part,f,g,h]
def Q4(b:Bool)(x:Int×Int)(w:ad):(ov b 10000 162 (jc x)).run PL w=qi () w:=by
 obtain⟨a,c⟩:=x;show(ov b (9999+1) 162 (qv #[qr rQ a,qr rQ c])).run PL w=_;have d:∀(m:Int)(w:ad),(ov b 9999 3 (qr rQ m)).run PL w=qi () w:=λm w=>by
  show(ov b (9998+1) 3 _).run PL w=_;generalize 9998=n;simp[ov]
 generalize 9999=n at d;simp[ov,part,d]
def HH:KeyLaw PL 162 jc where
 check:=Q4
 find es a x w b:=by
  cases es with
  |nil=>
   cases a with
   |nil=>exact⟨el,by simp[ow,ph],λh=>absurd h ar,λ_=>rfl⟩
   |cons _ _=>simp at b
  |cons e es=>
   cases a with
   |nil=>simp at b
   |cons y a=>
    obtain⟨r,f,c,d⟩:=yj (P:=PL) (tk:=162) (enc:=jc) afg x (e::es) (y::a) 0 w b;have g:ph (TypeDesc.struct (PL.fieldsOf 162)) (jc x) (e::es) 0=el:=by
     simp[ph,pg]
    have i:(ag 162).run PL w=qi (.struct (PL.fieldsOf 162)) w:=run_underlying Q1 w;refine⟨r,?_,c,d⟩;unfold ow;simp_all
end Go.Proofs
namespace Go.Proofs
open Go.RowKit
set_option maxHeartbeats 400000
variable {L:ByteArray}{q:Nat}{C:ad}{M:aP}{R:ac}{O:Int}{J:List aP}
def jd(l p:Int):Int:=if bO l 1 999&&bO p 1 6 then 0 else 1
def Em(l p:Int)(a b c v5:aP)(w:ad) :
 bd PL 73 #[qv #[qr rQ l,qr rQ p,a,b,c,v5]] w (aO (qr rQ (jd l p)) w):=by
 go_enter (fx ao gj),Tryz.ntmps73
 go_wp2_with (go_at_call 52;refine(bG _ _ _ _).m ?_;rintro e w'⟨rfl,rfl⟩)
 all_goals
  go_ret;refine⟨?_,(li _ _).a (dk _) _⟩;simp_all [jd]
def kQ(l p n:Int)(a b c v5:aP)(w:ad)(d:1<=p)(f:p<=6) :
 bd PL 99 #[qv #[qr rQ l,qr rQ p,a,b,c,v5],qr rQ n] w (aO (qq (bO n 0 (p-1))) w):=by
 go_enter (fx ao hT),Tryz.ntmps99
 go_wp2_with (go_at_call 52;refine(bG _ _ _ _).m ?_;rintro e w'⟨rfl,rfl⟩)
 go_ret;exact⟨rfl,(li _ _).a (dk _) _⟩
def eB(a b:Int):Int×Int:=(min a b,max a b)
def yl(a b c:Int)(w:ad):bd PL 100 #[qv #[qr rQ a,qr rQ b,qr rQ c]] w (aO (jc (eB a b)) w):=by
 go_enter (fx ao hV),Tryz.ntmps100;go_wp2
 all_goals
  refine ci (v:=jc (eB a b)) ?_ rfl ⟨rfl,((li _ _).a (dk _) _).a ar _⟩;have e:eB a b=(min a b,max a b):=rfl;simp[cl,Tryz.results100,go_sem,jc,e];omega
def jv(s:ByteArray)(k:Nat):Nat:=if h:k<s.size then(s[k]'h).toNat else 0
def wA(c:Int)(k:Nat):Bool:=bO c 97 122||(!decide (k=0)&&bO c 48 57)
def ku(s:ByteArray):Bool:=((lL s.size).all λi=>wA (jv s i) i)&&bO s.size 1 12
def U7(w:ad)(s:ByteArray)(k:Nat)(h:k<s.size):∃c k':Nat,c<=2147483647/\k<k'/\wA c k=wA (jv s k) k/\(wA c k=kY->k'=k+1)/\
 ∀ty,(Instr.next (qG (ek ⟨w.heap.size,0,el⟩)) kY ty).run PL (w.iter s k)=qi (qH #[qq kY,qr rQ k,qr .i32 c]) (w.iter s k'):=by
 have a:jv s k=(s[k]'h).toNat:=by simp[jv,h]
 by_cases d:(s[k]'h).toNat<128
 .exact⟨_,k+1,ab,ab,by rw[a],λ_=>rfl,λty=>run_next_ascii w s k ty h d⟩
 .have hd:=decode_high s k h ab;have g:∀n:Nat,128<=n->wA n k=kS:=λn i=>by
   simp only[wA,bO];have e:¬((n:Int)<=122):=ab;have f:¬((n:Int)<=57):=ab;simp[e,f]
  refine⟨(Utf8.decode s k).1,k+(Utf8.decode s k).2,decode_le s k,ab,?_,λb=>?_,λty=>run_next_any w s k ty h⟩
  .rw[g _ hd.1,a,g _ ab]
  .rw[g _ hd.1]at b;cases b
def qd(a:q<L.size)(h:wA (jv L q) q=kS):ku L=kS:=by
 have:((lL L.size).all λi=>wA (jv L i) i)=kS:=by
  rw[lM];exact⟨q,dv.2 a,by rw[h];simp⟩
 simp[ku,this]
def ym(s:ByteArray)(w:ad)(hs:s.size<=100):bd PL 126 #[qt s] w (aO (qq (ku s)) w):=by
 go_enter (fx ao h8),Tryz.ntmps126;go_wp2
 go_loopw [2] (λv wr=>∃k:Nat,k<=s.size/\v=qq kS/\wr=w.iter s k/\∀j,j<k->wA (jv s j) j=kY) (λ_ wr=>s.size-wr.iterPos w.heap.size)
 case atStart=>exact⟨0,eF _,rfl,rfl,λj a=>absurd a (eI _)⟩
 case round=>
  obtain⟨k,r,rfl,rfl,o⟩:=hrel;have l:=nV o;clear o;by_cases b:k<s.size
  .obtain⟨c,k',hc,t,p,d,m⟩:=U7 w s k b;have f:=nV p;have q:=nV d;clear p d
   go_wp2_with (go_at_call 52;refine(bG _ _ _ _).m ?_;rintro e w'⟨rfl,rfl⟩)
   .have hb:bO (↑c) 97 122=kY:=bo;have hg:wA (↑c) k=kY:=by simp[wA,hb]
    have zz:=q.o hg;clear m;subst zz
    exact⟨⟨k+1,b,rfl,rfl,λj a=>by
     rcases fg.1 a with h|h
     .exact l.o j h
     .rw[h,<-f.o];exact hg⟩,by simp;omega⟩
   .have hb:¬bO (↑c) 97 122=kY:=bo;have g:k=0:=bo;have hg:wA (↑c) k=kS:=by simp[wA,hb,g]
    go_ret;refine⟨?_,(li _ _).a (dk _) _⟩;rw[qd b (by rw[<-f.o];exact hg)];rfl
   .have hb:¬bO (↑c) 97 122=kY:=bo;have g:¬k=0:=bo;have n:((k:Int)==0)=kY\/(!bO (↑c) 48 57)=kY:=bo;have hg:wA (↑c) k=kS:=by
     rcases n with h|h
     .simp at h;omega
     .simp at h;simp[wA,hb,h]
    go_ret;refine⟨?_,(li _ _).a (dk _) _⟩;rw[qd b (by rw[<-f.o];exact hg)];rfl
   .have g:¬k=0:=bo;have hand:((k:Int)==0)=kS/\(!bO (↑c) 48 57)=kS:=bo;have hg:wA (↑c) k=kY:=by
     have:=hand.2;simp at this;simp[wA,this,g]
    have zz:=q.o hg;clear m;subst zz
    exact⟨⟨k+1,b,rfl,rfl,λj a=>by
     rcases fg.1 a with h|h
     .exact l.o j h
     .rw[h,<-f.o];exact hg⟩,by simp;omega⟩
  .have m:=λty=>run_next_end (P:=PL) w s k ty b;obtain rfl:k=s.size:=ab
   go_wp2_with (go_at_call 52;refine(bG _ _ _ _).m ?_;rintro e w'⟨rfl,rfl⟩)
   go_ret;refine⟨?_,(li _ _).a (dk _) _⟩;have:((lL s.size).all λi=>wA (jv s i) i)=kY:=by
    rw[df];intro j a;exact l.o j (dv.1 a)
   simp[ku,this]
abbrev yo:ByteArray->aP:=λs=>qt s
abbrev al2:Int->aP:=λn=>qr rQ n
structure nP(b:Nat)(w w':ad):Prop where
 os:w'.os=w.os
 tape:w'.tape=w.tape
 output:w'.output=w.output
 size:w.heap.size<=w'.heap.size
 block:∀c,c<w.heap.size->c≠b->w'.heap[c]?=w.heap[c]?
def nP.below{b B:Nat}{w w':ad}(h:nP b w w')(a:B<=b)(hs:B<=w.heap.size):Below B w w':=⟨h.os,h.tape,h.output,h.size,λk c=>h.block k ab ab⟩
def nP.En{w':ad}(h:bL C w'):nP q C w':=⟨h.os,h.tape,h.output,h.z,λc hc _=>h.k c hc⟩
def nP.then{w1 w2:ad}(h:bL C w1)(k:gv w1 w2 q):nP q C w2:=⟨k.os.t h.os,k.tape.t h.tape,k.output.t h.output,by rw[k.size];exact h.z,λc hc hb=>(k.block c hb).t (h.k c hc)⟩
def nP.cell{b:Nat}{w w':ad}(h:nP b w w'){a:bi}(c:a.block<w.heap.size)(hb:a.block≠b):mm w' a=mm w a:=mn (w:=w) (h.block a.block c hb)
def nP.Xm{c:Nat}{w':ad}(h:nP q C w'){a:Type}{enc:a->aP}{l:List a}(k:aU C enc c l)(hc:c≠q):aU w' enc c l:=by
 obtain⟨es,w,d,e⟩:=k;exact⟨es,w,(h.block c (bR.1 d).1 hc).t d,e⟩
def aG{w':ad}(h:bL C w'){a:Type}{enc:a->aP}{l:List a}(k:aU C enc q l):aU w' enc q l:=by
 obtain⟨es,w,b,d⟩:=k;exact⟨es,w,(h.k q (bR.1 b).1).t b,d⟩
def aU.lt{a:Type}{enc:a->aP}{l:List a}(k:aU C enc q l):q<C.heap.size:=by
 obtain⟨es,w,b,d⟩:=k;exact(bR.1 b).1
def iH(s:ByteArray)(l:List ByteArray):Int:=if ku s then(if s∈l then 5 else 0) else 4
def U8(b:Nat)(s:ByteArray)(l:List ByteArray)(w:ad)(e:Ending)(w':ad):Prop:=
 e=r7 (qr rQ (iH s l))/\nP b w w'/\aU w' yo b (if iH s l=0 then l++[s] else l)
def Eo(h:ku L=kY)(w:ad)(hs:L.size<=100):bd PL 126 #[qt L] w (aO (qq kY) w):=by
 have:=ym L w hs;rwa[h]at this
def Q5(h:ku L=kS)(w:ad)(hs:L.size<=100):bd PL 126 #[qt L] w (aO (qq kS) w):=by
 have:=ym L w hs;rwa[h]at this
def wB(b:Nat)(s:ByteArray)(l:List ByteArray)(w:ad)(h:aU w yo b l)(hs:s.size<=100):bd PL 101 #[qF (ek b),qt s] w (U8 b s l w):=by
 by_cases f:ku s=kY
 .have c:=nV f;clear f;by_cases g:s∈l
  .have d:=nV g;clear g;go_enter (fx ao hY),iP
   go_wp2_with (first|(go_at_call 126;refine(Eo c.o _ hs).m ?_;rintro e w1⟨rfl,a⟩)|(at_lookup;refine aR (enc:=yo) _ rfl _ _ 165 9 4 rfl aak Hy (mq _) b l rfl (aG a h) s rfl kY (by simpa using d.o) ?_))
   go_ret;have e:iH s l=5:=by simp[iH,c.o,d.o]
   exact⟨by rw[e];rfl,.En a,by rw[e];exact aG a h⟩
  .have d:=nV g;clear g;go_enter (fx ao hY),iP
   go_wp2_with (first|(go_at_call 126;refine(Eo c.o _ hs).m ?_;rintro e w1⟨rfl,a⟩)|(at_lookup;refine aR (enc:=yo) _ rfl _ _ 165 9 4 rfl aak Hy (mq _) b l rfl (aG a h) s rfl kS (by simpa using d.o) ?_)|(at_mapUpdate;refine dH (enc:=yo) _ rfl _ _ _ 165 9 4 rfl aak Hy b l rfl (aG a h) s rfl rfl d.o ?_;intro w2 i j))
   go_ret;have e:iH s l=0:=by simp[iH,c.o,d.o]
   exact⟨by rw[e];rfl,.then a j,by rw[e];exact i⟩
 .have c:=nV (aV f);clear f;go_enter (fx ao hY),iP
  go_wp2_with (go_at_call 126;refine(Q5 c.o _ hs).m ?_;rintro e w1⟨rfl,a⟩)
  go_ret;have e:iH s l=4:=by simp[iH,c.o]
  exact⟨by rw[e];rfl,.En a,by rw[e];exact aG a h⟩
set_option maxHeartbeats 1000000
def cW{w1:ad}(hb:bL C w1):(∀b o,b<C.heap.size->mm w1 ⟨b,o,el⟩=mm C ⟨b,o,el⟩)/\(∀b o,b<C.heap.size->m7 w1 ⟨b,o,el⟩=m7 C ⟨b,o,el⟩):=
 ⟨λb o h=>hb.c (p:=⟨b,o,el⟩) h,λb o h=>hb.frozen (p:=⟨b,o,el⟩) h⟩
theorem au(w:ad)(o:Obj):(mG w o).heap[w.heap.size]?=ek o:=by
 show(w.heap.push _)[w.heap.size]?=_;simp
def bf{x1 x2 x3 x4 a:aP}(h:C.heap[q]?=ek (rP #[M,x1,x2,x3,x4,a] R)) :
 mm C ⟨q,0,el⟩=ek M/\mm C ⟨q,1,el⟩=ek x1/\mm C ⟨q,2,el⟩=ek x2/\mm C ⟨q,3,el⟩=ek x3/\mm C ⟨q,4,el⟩=ek x4/\mm C ⟨q,5,el⟩=ek a:=by
 simp[mm,h]
def ia:Nat->(Nat->Int)->Int
 |0,_=>0
 |n+1,f=>if ia n f=0 then f n else ia n f
def cz{f:Nat->Int}(h:∀j,j<q->f j=0):ia q f=0:=by
 induction q with
 |zero=>rfl
 |succ q a=>simp only[ia];rw[a λj b=>h j ab,if_pos rfl,h q ab]
def eG{n m:Nat}{f:Nat->Int}(h:∀j,j<m->f j=0)(b:m<n)(hf:f m≠0):ia n f=f m:=by
 induction n with
 |zero=>omega
 |succ n a=>
  simp only[ia];by_cases e:m=n
  .subst e;rw[cz h,if_pos rfl]
  .rw[a ab,if_neg hf]
def fQ(p:Int)(x:Nat->Int×Int×Int)(i:Nat):Int:=
 if bO (x i).1 0 (p-1)&&bO (x i).2.1 0 (p-1) then
  (if(x i).1=(x i).2.1 then 8 else if bO (x i).2.2 1 999 then(if eB (x i).1 (x i).2.1∈(lL i).map (λj=>eB (x j).1 (x j).2.1) then 5 else 0) else 1)
 else 6
def kz(p:Int)(n:Nat)(x:Nat->Int×Int×Int):Int:=if 9<n then 2 else ia n (fQ p x)
def Below.on{W w1:ad}(h:bL C W)(k:bL W w1):bL C w1:=h.t (k.mono h.z)
def dh{p:Int}{n m:Nat}{x:Nat->Int×Int×Int}{v:Int}(hb:¬9<n)(a:∀j,j<m->fQ p x j=0)(b:m<n)(hf:fQ p x m=v)(hv:v≠0):kz p n x=v:=by
 rw[kz,if_neg hb,eG a b (by rw[hf];exact hv),hf]
def aC{k:IntKind}{b:Int}(h:b=O):Ending.returned (qr k O)=r7 (qr k b):=by rw[h]
def Nf(l p:Int)(b:Option bi)(k o n c:Nat)(x:Nat->Int×Int×Int)(A B v5:aP)(w:ad)(Z:n<=20)(H:1<=p)(I:p<=6)(C:k<w.heap.size)(hs:0<n->b=ek ⟨k,o,el⟩)
 (J:∀i,i<n->mm w ⟨k,o+i*3,el⟩=ek (qr rQ (x i).1)) (K:∀i,i<n->mm w ⟨k,o+i*3+1,el⟩=ek (qr rQ (x i).2.1)) (L:∀i,i<n->mm w ⟨k,o+i*3+2,el⟩=ek (qr rQ (x i).2.2)) :
 bd PL 75 #[qv #[qr rQ l,qr rQ p,A,qu b n c,B,v5]] w (aO (qr rQ (kz p n x)) w):=by
 have R:=nV J;have S:=nV K;have T:=nV L;have U:=nV hs;clear J K L hs;by_cases hb:9<n
 .go_enter (fx ao gt),i9;go_wp2;go_ret;exact⟨by simp[kz,hb],(li _ _).a (dk _) _⟩
 .have V:=@run_makeMap PL;go_enter (fx ao gt),i9;go_wp2
  go_loopw [16] (λi wr=>∃m:Nat,m<=n/\i=qr rQ m/\(∀j,j<m->fQ p x j=0)/\aU wr jc (w.heap.size+1) ((lL m).map (λj=>eB (x j).1 (x j).2.1))/\wr.heap[w.heap.size]?=ek (rP #[qr rQ l,qr rQ p,A,qu b n c,B,v5] 78)/\bL w wr) (λi _=>n-(intOf i).toNat)
  case atStart=>
   refine⟨0,eF _,rfl,λj D=>absurd D (eI _),?_,?_,?_⟩
   .have:=aU.made (enc:=jc) (mG w (rP #[qr rQ l,qr rQ p,A,qu b n c,B,v5] 78));simpa using this
   .rw[lm _ _ _ ar,au]
   .exact((li _ _).a (dk _) _).a ar _
  case round=>
   obtain⟨m,hm,rfl,M,N,O,u⟩:=hrel;have r:=nV M;have P:=nV O;clear M O;by_cases d:m<n
   .obtain rfl:=U.o ab;have c0:=(u.c (p:=⟨k,o+m*3,el⟩) C).t (R.o m d);have c1:=(u.c (p:=⟨k,o+m*3+1,el⟩) C).t (S.o m d);have c2:=(u.c (p:=⟨k,o+m*3+2,el⟩) C).t (T.o m d);have W:=aU.lt N;have y:w.heap.size<wr.heap.size:=ab;obtain⟨d0,d1,d2,d3,d4,d5⟩:=bf P.o;have g:aU (mG wr (rP #[qr rQ (x m).1,qr rQ (x m).2.1,qr rQ (x m).2.2] 93)) jc (w.heap.size+1) ((lL m).map (λj=>eB (x j).1 (x j).2.1)):=aU.of_heap N (lm _ _ _ W);have q:bL w (mG wr (rP #[qr rQ (x m).1,qr rQ (x m).2.1,qr rQ (x m).2.2] 93)):=u.a u.z _;have f:wr.heap.size<(mG wr (rP #[qr rQ (x m).1,qr rQ (x m).2.1,qr rQ (x m).2.2] 93)).heap.size:=ar;have s:=nV ((lm wr (rP #[qr rQ (x m).1,qr rQ (x m).2.1,qr rQ (x m).2.2] 93) _ y).t P.o);by_cases z:eB (x m).1 (x m).2.1∈(lL m).map (λj=>eB (x j).1 (x j).2.1)
    .have t:=nV z;clear z
     go_wp2_with (first|(go_at_call 99;refine(kQ _ _ _ _ _ _ _ _ H I).m ?_;rintro e w1⟨rfl,a⟩;obtain⟨E,F⟩:=cW a;have g:=aG a g;have q:=Below.on q a;have s:=nV ((a.k _ (n6 y f)).t s.o);have f:=bT f a.z)|(go_at_call 52;refine(bG _ _ _ _).m ?_;rintro e w'⟨rfl,rfl⟩)|(go_at_call 100;refine(yl _ _ _ _).m ?_;rintro e w1⟨rfl,a⟩;obtain⟨E,F⟩:=cW a;have g:=aG a g;have q:=Below.on q a;have s:=nV ((a.k _ (n6 y f)).t s.o);have f:=bT f a.z)|(at_lookup;refine aR (enc:=jc) _ rfl _ _ 160 162 4 rfl HH Hz (mq _) (w.heap.size+1) _ rfl g (eB (x m).1 (x m).2.1) rfl kY (by simpa using t.o) ?_))
     all_goals go_ret
     all_goals refine⟨?_,q⟩
     all_goals first
      |exact aC (dh (v:=6) hb r.o d (by simp_all [fQ]) ao)
      |exact aC (dh (v:=8) hb r.o d (by simp_all [fQ]) ao)
      |exact aC (dh (v:=1) hb r.o d (by simp_all [fQ]) ao)
      |exact aC (dh (v:=5) hb r.o d (by have:=t.o;simp_all [fQ]) ao)
    .have t:=nV z;clear z
     go_wp2_with (first|(go_at_call 99;refine(kQ _ _ _ _ _ _ _ _ H I).m ?_;rintro e w1⟨rfl,a⟩;obtain⟨E,F⟩:=cW a;have g:=aG a g;have q:=Below.on q a;have s:=nV ((a.k _ (n6 y f)).t s.o);have f:=bT f a.z)|(go_at_call 52;refine(bG _ _ _ _).m ?_;rintro e w'⟨rfl,rfl⟩)|(go_at_call 100;refine(yl _ _ _ _).m ?_;rintro e w1⟨rfl,a⟩;obtain⟨E,F⟩:=cW a;have g:=aG a g;have q:=Below.on q a;have s:=nV ((a.k _ (n6 y f)).t s.o);have f:=bT f a.z)|(at_lookup;refine aR (enc:=jc) _ rfl _ _ 160 162 4 rfl HH Hz (mq _) (w.heap.size+1) _ rfl g (eB (x m).1 (x m).2.1) rfl kS (by simpa using t.o) ?_)|(at_mapUpdate;refine dH (enc:=jc) _ rfl _ _ _ 160 162 4 rfl HH Hz (w.heap.size+1) _ rfl g (eB (x m).1 (x m).2.1) rfl rfl t.o ?_;intro w2 X Q))
     case roundEnd=>
      have Y:fQ p x m=0:=by have:=t.o;simp_all [fQ]
      refine⟨⟨m+1,d,by go_num,λj D=>?_,?_,(Q.block _ ab).t s.o,lA q (Q.below ab)⟩,by simp[intOf];omega⟩
      .rcases fg.1 D with h|h
       .exact r.o j h
       .rw[h];exact Y
      .rw[lS,lT];exact X
     all_goals go_ret
     all_goals refine⟨?_,q⟩
     all_goals first
      |exact aC (dh (v:=6) hb r.o d (by simp_all [fQ]) ao)
      |exact aC (dh (v:=8) hb r.o d (by simp_all [fQ]) ao)
      |exact aC (dh (v:=1) hb r.o d (by simp_all [fQ]) ao)
      |exact aC (dh (v:=5) hb r.out d (by have:=t.out;simp_all [fQ]) ao)
   .obtain rfl:m=n:=ab;go_wp2;go_ret;exact⟨by simp[kz,hb,cz r.o],u⟩
def J2{w1:ad}(h:nP q C w1):(∀c o,c<C.heap.size->c≠q->mm w1 ⟨c,o,el⟩=mm C ⟨c,o,el⟩)/\(∀c(o:Nat),c<C.heap.size->c≠q->m7 w1 ⟨c,o,el⟩=m7 C ⟨c,o,el⟩):=
 ⟨λc o d e=>h.cell (a:=⟨c,o,el⟩) d e,λc o d e=>World.frozen?_of_block (w:=C) (h.block c d e)⟩
def iI(np:Nat)(x:Nat->ByteArray×Int×Int)(i:Nat):Int:=
 if iH (x i).1 ((lL i).map λj=>(x j).1)=0 then
  (if bO (x i).2.1 0 (np-1) then(if(x i).2.1∈(lL i).map (λj=>(x j).2.1) then 10 else if bO (x i).2.2 0 12 then 0 else 1) else 6)
 else iH (x i).1 ((lL i).map λj=>(x j).1)
def pE(np n:Nat)(x:Nat->ByteArray×Int×Int):Int:=if 3<n then 2 else ia n (iI np x)
def ic{np n m:Nat}{x:Nat->ByteArray×Int×Int}{v:Int}(hb:¬3<n)(a:∀j,j<m->iI np x j=0)(b:m<n)(hf:iI np x m=v)(hv:v≠0):pE np n x=v:=by
 rw[pE,if_neg hb,eG a b (by rw[hf];exact hv),hf]
def HQ(l p:Int)(b z:Option bi)(k o n c np A:Nat)(x:Nat->ByteArray×Int×Int)(B C:aP)(w:ad)(hn:n<=20)(MC:np<=20)(E:k<w.heap.size)(hs:0<n->b=ek ⟨k,o,el⟩)(J:∀i,i<n->(x i).1.size<=100)
 (K:∀i,i<n->mm w ⟨k,o+i*3,el⟩=ek (qt (x i).1)) (L:∀i,i<n->mm w ⟨k,o+i*3+1,el⟩=ek (qr rQ (x i).2.1)) (M:∀i,i<n->mm w ⟨k,o+i*3+2,el⟩=ek (qr rQ (x i).2.2)) :
 bd PL 77 #[qv #[qr rQ l,qr rQ p,B,C,qu z np A,qu b n c]] w (aO (qr rQ (pE np n x)) w):=by
 have S:=nV K;have T:=nV L;have U:=nV M;have V:=nV hs;have W:=nV J;clear K L M hs J;by_cases hb:3<n
 .go_enter (fx ao gE),jf;go_wp2;go_ret;exact⟨by simp[pE,hb],(li _ _).a (dk _) _⟩
 .have X:=@run_makeMap PL;go_enter (fx ao gE),jf;go_wp2
  go_loopw [19] (λi wr=>∃m:Nat,m<=n/\i=qr rQ m/\(∀j,j<m->iI np x j=0)/\aU wr yo (w.heap.size+1) ((lL m).map (λj=>(x j).1))/\aU wr al2 (w.heap.size+2) ((lL m).map (λj=>(x j).2.1))/\wr.heap[w.heap.size]?=ek (rP #[qr rQ l,qr rQ p,B,C,qu z np A,qu b n c] 78)/\bL w wr) (λi _=>n-(intOf i).toNat)
  case atStart=>
   refine⟨0,eF _,rfl,λj F=>absurd F (eI _),?_,?_,?_,?_⟩
   .have:=aU.made (enc:=yo) (mG w (rP #[qr rQ l,qr rQ p,B,C,qu z np A,qu b n c] 78));exact aU.of_heap (by simpa using this) (lm _ _ _ ar)
   .have:=aU.made (enc:=al2) (mG (mG w (rP #[qr rQ l,qr rQ p,B,C,qu z np A,qu b n c] 78)) (.map #[] 0));simpa using this
   .rw[lm _ _ _ (by simp;omega),lm _ _ _ ar,au]
   .exact(((li _ _).a (dk _) _).a ar _).a (by simp;omega) _
  case round=>
   obtain⟨m,hm,rfl,N,Y,O,P,s⟩:=hrel;have g:=nV N;have Q:=nV P;clear N P;by_cases a:m<n
   .obtain rfl:=V.o ab;have c0:=(s.c (p:=⟨k,o+m*3,el⟩) E).t (S.o m a);have c1:=(s.c (p:=⟨k,o+m*3+1,el⟩) E).t (T.o m a);have c2:=(s.c (p:=⟨k,o+m*3+2,el⟩) E).t (U.o m a);have Z:=aU.lt O;have H:w.heap.size<wr.heap.size:=ab;have bu:wr.heap.size≠w.heap.size+1:=ab;obtain⟨d0,d1,d2,d3,d4,d5⟩:=bf Q.o;have t:aU (mG wr (rP #[qt (x m).1,qr rQ (x m).2.1,qr rQ (x m).2.2] 51)) yo (w.heap.size+1) ((lL m).map (λj=>(x j).1)):=aU.of_heap Y (lm _ _ _ ab);have r:aU (mG wr (rP #[qt (x m).1,qr rQ (x m).2.1,qr rQ (x m).2.2] 51)) al2 (w.heap.size+2) ((lL m).map (λj=>(x j).2.1)):=aU.of_heap O (lm _ _ _ Z);have q:bL w (mG wr (rP #[qt (x m).1,qr rQ (x m).2.1,qr rQ (x m).2.2] 51)):=s.a s.z _;have u:wr.heap.size<(mG wr (rP #[qt (x m).1,qr rQ (x m).2.1,qr rQ (x m).2.2] 51)).heap.size:=ar;have y:=nV ((lm wr (rP #[qt (x m).1,qr rQ (x m).2.1,qr rQ (x m).2.2] 51) _ H).t Q.o);have R:=W.o m a;by_cases D:(x m).2.1∈(lL m).map (λj=>(x j).2.1)
    .have d:=nV D;clear D
     go_wp2_with (first|(go_at_call 101;refine(wB (w.heap.size+1) _ _ _ t R).m ?_;rintro e w1⟨rfl,f,t⟩;obtain⟨lp,lR⟩:=J2 f;have r:=f.Xm r ab;have q:=lA q (f.below ab q.z);have y:=nV ((f.block _ (n6 H u) ab).t y.o);have u:=bT u f.size)|(go_at_call 52;refine(bG _ _ _ _).m ?_;rintro e w'⟨rfl,rfl⟩)|(go_at_call 41;refine(o8 _ _).mono ?_;rintro e w'⟨rfl,rfl⟩)|(at_lookup;refine aR (enc:=al2) _ rfl _ _ 114 3 4 rfl qz ju (mq _) (w.heap.size+2) _ rfl r (x m).2.1 rfl kY (by simpa using d.o) ?_))
     all_goals go_ret
     all_goals refine⟨?_,q⟩
     all_goals first
      |exact aC (ic (v:=iH (x m).1 ((lL m).map λj=>(x j).1)) hb g.o a (by have:=d.o;simp_all [iI]) bp)
      |exact aC (ic (v:=6) hb g.o a (by have:=d.o;simp_all [iI]) ao)
      |exact aC (ic (v:=10) hb g.o a (by have:=d.o;simp_all [iI]) ao)
      |exact aC (ic (v:=1) hb g.out a (by have:=d.out;simp_all [iI]) ao)
    .have d:=nV D;clear D
     go_wp2_with (first|(go_at_call 101;refine(wB (w.heap.size+1) _ _ _ t R).m ?_;rintro e w1⟨rfl,f,t⟩;obtain⟨lp,lR⟩:=J2 f;have r:=f.Xm r ab;have q:=lA q (f.below ab q.z);have y:=nV ((f.block _ (n6 H u) ab).t y.o);have u:=bT u f.size)|(go_at_call 52;refine(bG _ _ _ _).m ?_;rintro e w'⟨rfl,rfl⟩)|(go_at_call 41;refine(o8 _ _).m ?_;rintro e w'⟨rfl,rfl⟩)|(at_lookup;refine aR (enc:=al2) _ rfl _ _ 114 3 4 rfl qz ju (mq _) (w.heap.size+2) _ rfl r (x m).2.1 rfl kS (by simpa using d.o) ?_)|(at_mapUpdate;refine dH (enc:=al2) _ rfl _ _ _ 114 3 4 rfl qz ju (w.heap.size+2) _ rfl r (x m).2.1 rfl rfl d.o ?_;intro w2 yp I))
     case roundEnd=>
      have e1:iH (x m).1 ((lL m).map λj=>(x j).1)=0:=bp;have e0:iI np x m=0:=by have:=d.o;simp_all [iI]
      rw[if_pos e1]at t;refine⟨⟨m+1,a,by go_num,λj F=>?_,?_,?_,(I.block _ ab).t y.o,lA q (I.below ab)⟩,by simp[intOf];omega⟩
      .rcases fg.1 F with h|h
       .exact g.o j h
       .rw[h];exact e0
      .rw[lS,lT];exact aU.of_heap t (I.block _ ab)
      .rw[lS,lT];exact yp
     all_goals go_ret
     all_goals refine⟨?_,q⟩
     all_goals first
      |exact aC (ic (v:=iH (x m).1 ((lL m).map λj=>(x j).1)) hb g.o a (by have:=d.o;simp_all [iI]) bp)
      |exact aC (ic (v:=6) hb g.o a (by have:=d.o;simp_all [iI]) ao)
      |exact aC (ic (v:=10) hb g.o a (by have:=d.out;simp_all [iI]) ao)
      |exact aC (ic (v:=1) hb g.o a (by have:=d.o;simp_all [iI]) ao)
   .obtain rfl:m=n:=ab;go_wp2;go_ret;exact⟨by simp[pE,hb,cz g.o],s⟩
structure iJ where
 name:ByteArray
 n:Nat->Int
 lb:Option bi
 ln:Nat
 lc:Nat
 lk:Nat
 lo:Nat
 lane:Nat->Int
def fy(a:Nat)(lane:Nat->Int)(j:Nat):Int:=if bO (lane j) 0 (a-1) then(if 0<j/\lane j<=lane (j-1) then 7 else 0) else 6
def gM(p:Int)(a b:Nat)(x:Nat->iJ)(i:Nat):Int:=
 if iH (x i).name ((lL i).map λj=>(x j).name)=0 then
  (if eK ((x i).n 1) ((x i).n 2) 1 90&&eK ((x i).n 3) ((x i).n 4) (-90) 90 then
    (if(x i).n 1<(x i).n 4\/(x i).n 1 < -(x i).n 3 then 10 else
      if bO ((x i).n 5) 0 (a-1)&&bO ((x i).n 6) 0 (p-1) then
       (if eK ((x i).n 7) ((x i).n 8) 1 60&&eK ((x i).n 9) ((x i).n 10) 0 60 then ia (x i).ln (fy b (x i).lane) else 1)
      else 6)
  else 1)
 else iH (x i).name ((lL i).map λj=>(x j).name)
def kA(p:Int)(a b n:Nat)(x:Nat->iJ):Int:=if bO n 2 5 then ia n (gM p a b x) else 2
def dI{p:Int}{a b n m:Nat}{x:Nat->iJ}{v:Int}(hb:bO n 2 5=kY)(c:∀j,j<m->gM p a b x j=0)(d:m<n)(hf:gM p a b x m=v)(hv:v≠0):kA p a b n x=v:=by
 rw[kA,if_pos hb,eG c d (by rw[hf];exact hv),hf]
def afi{x1 x2 x3 x4 b c d e f g a:aP}(h:C.heap[q]?=ek (rP #[M,x1,x2,x3,x4,b,c,d,e,f,g,a] R)):mm C ⟨q,11,el⟩=ek a:=by
 simp[mm,h]
def Q7(l p:Int)(Z bq b:Option bi)(M r n cs cq c k o:Nat)(x:Nat->iJ)(v5:aP)(w:ad)(hn:n<=20)(Vb:M<=20)(Hr:r<=20)(J0:1<=p)(tL:p<=6)(F:k<w.heap.size)(hs:0<n->b=ek ⟨k,o,el⟩)
 (uB:∀i,i<n->(x i).name.size<=100/\(x i).ln<=20) (h0:∀i,i<n->mm w ⟨k,o+i*12,el⟩=ek (qt (x i).name)) (z:∀i,i<n->∀j,1<=j->j<=10->mm w ⟨k,o+i*12+j,el⟩=ek (qr rQ ((x i).n j)))
 (P:∀i,i<n->mm w ⟨k,o+i*12+11,el⟩=ek (qu (x i).lb (x i).ln (x i).lc)) (hl:∀i,i<n->0<(x i).ln->(x i).lb=ek ⟨(x i).lk,(x i).lo,el⟩/\(x i).lk<w.heap.size)
 (Q:∀i,i<n->∀j,j<(x i).ln->mm w ⟨(x i).lk,(x i).lo+j,el⟩=ek (qr rQ ((x i).lane j))) :
 bd PL 76 #[qv #[qr rQ l,qr rQ p,qu Z M cs,qu bq r cq,qu b n c,v5]] w (aO (qr rQ (kA p M r n x)) w):=by
 have H0:=nV h0;have I:=nV z;have H11:=nV P;have HL:=nV hl;have HLC:=nV Q;have HS:=nV hs;have HN:=nV uB;clear h0 z P hl Q hs uB;by_cases hb:bO (↑n) 2 5=kY
 .have y:=nV hb;clear hb;have hmm:=@run_makeMap PL;go_enter (fx ao gy),jk
  go_wp2_with (go_at_call 52;refine(fN y.o _).m ?_;rintro e w'⟨rfl,rfl⟩)
  go_loopw [20] (λi wr=>∃m:Nat,m<=n/\i=qr rQ m/\(∀j,j<m->gM p M r x j=0)/\aU wr yo (w.heap.size+1) ((lL m).map (λj=>(x j).name))/\wr.heap[w.heap.size]?=ek (rP #[qr rQ l,qr rQ p,qu Z M cs,qu bq r cq,qu b n c,v5] 78)/\bL w wr) (λi _=>n-(intOf i).toNat)
  case atStart=>
   refine⟨0,eF _,rfl,λj z=>absurd z (eI _),?_,?_,?_⟩
   .have:=aU.made (enc:=yo) (mG w (rP #[qr rQ l,qr rQ p,qu Z M cs,qu bq r cq,qu b n c,v5] 78));simpa using this
   .rw[lm _ _ _ ar,au]
   .exact((li _ _).a (dk _) _).a ar _
  case round=>
   obtain⟨m,hm,rfl,ha,hN,sW,D⟩:=hrel;have B:=nV ha;have HX:=nV sW;clear ha sW;by_cases d:m<n
   .obtain rfl:=HS.o ab;have c0:=(D.c (p:=⟨k,o+m*12,el⟩) F).t (H0.o m d);have c1:=(D.c (p:=⟨k,o+m*12+1,el⟩) F).t (I.o m d 1 ab ab);have c2:=(D.c (p:=⟨k,o+m*12+2,el⟩) F).t (I.o m d 2 ab ab);have c3:=(D.c (p:=⟨k,o+m*12+3,el⟩) F).t (I.o m d 3 ab ab);have c4:=(D.c (p:=⟨k,o+m*12+4,el⟩) F).t (I.o m d 4 ab ab);have c5:=(D.c (p:=⟨k,o+m*12+5,el⟩) F).t (I.o m d 5 ab ab);have c6:=(D.c (p:=⟨k,o+m*12+6,el⟩) F).t (I.o m d 6 ab ab);have c7:=(D.c (p:=⟨k,o+m*12+7,el⟩) F).t (I.o m d 7 ab ab);have c8:=(D.c (p:=⟨k,o+m*12+8,el⟩) F).t (I.o m d 8 ab ab);have c9:=(D.c (p:=⟨k,o+m*12+9,el⟩) F).t (I.o m d 9 ab ab);have c10:=(D.c (p:=⟨k,o+m*12+10,el⟩) F).t (I.o m d 10 ab ab);have c11:=(D.c (p:=⟨k,o+m*12+11,el⟩) F).t (H11.o m d);have fW:=aU.lt hN;have J:w.heap.size<wr.heap.size:=ab;have bu:wr.heap.size≠w.heap.size+1:=ab;obtain⟨d0,d1,d2,d3,d4,d5⟩:=bf HX.o;have s:aU (mG wr (rP #[qt (x m).name,qr rQ ((x m).n 1),qr rQ ((x m).n 2),qr rQ ((x m).n 3),qr rQ ((x m).n 4),qr rQ ((x m).n 5),qr rQ ((x m).n 6),qr rQ ((x m).n 7),qr rQ ((x m).n 8),qr rQ ((x m).n 9),qr rQ ((x m).n 10),qu (x m).lb (x m).ln (x m).lc] 49)) yo (w.heap.size+1) ((lL m).map (λj=>(x j).name)):=aU.of_heap hN (lm _ _ _ ab);have g:bL w (mG wr (rP #[qt (x m).name,qr rQ ((x m).n 1),qr rQ ((x m).n 2),qr rQ ((x m).n 3),qr rQ ((x m).n 4),qr rQ ((x m).n 5),qr rQ ((x m).n 6),qr rQ ((x m).n 7),qr rQ ((x m).n 8),qr rQ ((x m).n 9),qr rQ ((x m).n 10),qu (x m).lb (x m).ln (x m).lc] 49)):=D.a D.z _;have f:wr.heap.size<(mG wr (rP #[qt (x m).name,qr rQ ((x m).n 1),qr rQ ((x m).n 2),qr rQ ((x m).n 3),qr rQ ((x m).n 4),qr rQ ((x m).n 5),qr rQ ((x m).n 6),qr rQ ((x m).n 7),qr rQ ((x m).n 8),qr rQ ((x m).n 9),qr rQ ((x m).n 10),qu (x m).lb (x m).ln (x m).lc] 49)).heap.size:=ar
    have C:w.heap.size<(mG wr (rP #[qt (x m).name,qr rQ ((x m).n 1),qr rQ ((x m).n 2),qr rQ ((x m).n 3),qr rQ ((x m).n 4),qr rQ ((x m).n 5),qr rQ ((x m).n 6),qr rQ ((x m).n 7),qr rQ ((x m).n 8),qr rQ ((x m).n 9),qr rQ ((x m).n 10),qu (x m).lb (x m).ln (x m).lc] 49)).heap.size:=by simp;omega
    have u:=nV ((lm wr (rP #[qt (x m).name,qr rQ ((x m).n 1),qr rQ ((x m).n 2),qr rQ ((x m).n 3),qr rQ ((x m).n 4),qr rQ ((x m).n 5),qr rQ ((x m).n 6),qr rQ ((x m).n 7),qr rQ ((x m).n 8),qr rQ ((x m).n 9),qr rQ ((x m).n 10),qu (x m).lb (x m).ln (x m).lc] 49) _ J).t HX.o);have A:=nV (au wr (rP #[qt (x m).name,qr rQ ((x m).n 1),qr rQ ((x m).n 2),qr rQ ((x m).n 3),qr rQ ((x m).n 4),qr rQ ((x m).n 5),qr rQ ((x m).n 6),qr rQ ((x m).n 7),qr rQ ((x m).n 8),qr rQ ((x m).n 9),qr rQ ((x m).n 10),qu (x m).lb (x m).ln (x m).lc] 49));have Va:=(HN.o m d).1;have Tl:=(HN.o m d).2;by_cases R:eK ((x m).n 3) ((x m).n 4) (-90) 90=kY
    .have N:=nV R;have Q8 : -90<=(x m).n 3/\(x m).n 3<=90:=by
      simp only[eK,dd,decide_eq_true_eq]at R;omega
     obtain⟨Q8,hr4⟩:=Q8;clear R
     go_wp2_with (first|(go_at_call 101;refine(wB (w.heap.size+1) _ _ _ s Va).m ?_;rintro e w1⟨rfl,E,s⟩;obtain⟨K,L⟩:=J2 E;have g:=lA g (E.below ab g.z);have u:=nV ((E.block _ (n6 J f) ab).t u.o);have A:=nV ((E.block _ f ab).t A.o);have f:=bT f E.size;have C:=bT C E.size)|(go_at_call 47;((with_reducible refine(Ek N.o _).m ?_);rintro e w1⟨rfl,a⟩;obtain⟨K,L⟩:=cW a;have s:=aG a s;have g:=Below.on g a;have u:=nV ((a.k _ (n6 J f)).t u.o);have A:=nV ((a.k _ f).t A.o);have f:=bT f a.z;have C:=bT C a.z))|(go_at_call 47;refine(nh _ _ _ _ _).m ?_;rintro e w1⟨rfl,a⟩;obtain⟨K,L⟩:=cW a;have s:=aG a s;have g:=Below.on g a;have u:=nV ((a.k _ (n6 J f)).t u.o);have A:=nV ((a.k _ f).t A.o);have f:=bT f a.z;have C:=bT C a.z)|(go_at_call 52;refine(bG _ _ _ _).m ?_;rintro e w'⟨rfl,rfl⟩)|(go_at_call 99;refine(kQ _ _ _ _ _ _ _ _ J0 tL).m ?_;rintro e w1⟨rfl,a⟩;obtain⟨K,L⟩:=cW a;have s:=aG a s;have g:=Below.on g a;have u:=nV ((a.k _ (n6 J f)).t u.o);have A:=nV ((a.k _ f).t A.o);have f:=bT f a.z;have C:=bT C a.z))
     any_goals (
      go_ret;refine⟨?_,g⟩;have hR:=N.o
      first
       |exact aC (dI (v:=iH (x m).name ((lL m).map λj=>(x j).name)) y.o B.o d (by simp_all [gM]) bp)
       |exact aC (dI (v:=1) y.o B.o d (by simp_all [gM]) ao)
       |exact aC (dI (v:=10) y.o B.o d (by simp_all [gM];try omega) ao)
       |exact aC (dI (v:=6) y.o B.o d (by simp_all [gM];try omega) ao)
       |exact aC (dI (v:=1) y.out B.out d (by simp_all [gM];try omega) ao))
     have e1:iH (x m).name ((lL m).map λj=>(x j).name)=0:=bp;have S:gM p M r x m=ia (x m).ln (fy r (x m).lane):=by
      have hR:=N.o;simp only[gM];rw[if_pos e1,if_pos bp,if_neg (by simp_all;try omega),if_pos bp,if_pos bp]
     rw[if_pos e1]at s;have T:=nV S;clear S e1;have J4:∀j,j<(x m).ln->mm w1 ⟨(x m).lk,(x m).lo+j,el⟩=ek (qr rQ ((x m).lane j)):=λj z=>(g.c (p:=⟨(x m).lk,(x m).lo+j,el⟩) (HL.o m d ab).2).t (HLC.o m d j z);have U:=nV J4;clear J4;obtain⟨X,e1,e2,e3,e4,e5⟩:=bf u.o;have e11:=afi A.o;clear K L;generalize qq (decide ((x m).n 1<(x m).n 4)||decide ((x m).n 1 < -(x m).n 3))=s42;generalize qq (decide ((x m).n 1<(x m).n 4))=s49;generalize qq (decide ((x m).n 1 < -(x m).n 3))=s58;generalize qq (bO ((x m).n 6) 0 (p-1))=s74;generalize qq (!eK ((x m).n 9) ((x m).n 10) 0 60)=s77;generalize qq (eK ((x m).n 9) ((x m).n 10) 0 60)=s85;generalize qr rQ (iH (x m).name ((lL m).map λj=>(x j).name))=s6;by_cases hl0:0<(x m).ln
     .have Y:=(HL.o m d hl0).1;rw[Y]at e11;rw[Y];have HLB:=nV Y;clear Y
      go_loop [91] (λi=>∃q:Nat,q<=(x m).ln/\i=qr rQ q/\∀j,j<q->fy r (x m).lane j=0) (λi=>(x m).ln-(intOf i).toNat)
      case atStart=>exact⟨0,eF _,rfl,λj z=>absurd z (eI _)⟩
      case round=>
       obtain⟨q,hq,rfl,V⟩:=hrel;have H:=nV V;clear V;by_cases O:q<(x m).ln
       .have g0:=U.o q O;by_cases hq0:0<q
        .have g1:=U.o (q-1) ab
         go_wp2_with (go_at_call 52;refine(bG _ _ _ _).m ?_;rintro e w'⟨rfl,rfl⟩)
         .go_ret;have W:fy r (x m).lane q=6:=by
           have t:(!bO ((x m).lane q) 0 (↑r-1))=kY:=bo;simp only[fy];rw[if_neg (by simpa using t)]
          exact⟨aC (dI (v:=6) y.o B.o d (T.o.t ((eG H.o O (by rw[W];decide)).t W)) ao),g⟩
         .go_ret;have e7:fy r (x m).lane q=7:=by
           have t:(!bO ((x m).lane q) 0 (↑r-1))=kS:=bo;have t2:(x m).lane q<=(x m).lane (q-1):=bo;simp only[fy];rw[if_pos (by simpa using t),if_pos ⟨hq0,t2⟩]
          exact⟨aC (dI (v:=7) y.o B.o d (T.o.t ((eG H.o O (by rw[e7];decide)).t e7)) ao),g⟩
         .have X:fy r (x m).lane q=0:=by
           have t:(!bO ((x m).lane q) 0 (↑r-1))=kS:=bo;have t2:(x m).lane (q-1)<(x m).lane q:=bo;simp only[fy];rw[if_pos (by simpa using t),if_neg ab]
          refine⟨⟨q+1,O,by go_num,λj z=>?_⟩,by simp[intOf];omega⟩
          rcases fg.1 z with h|h
          .exact H.o j h
          .rw[h];exact X
        .obtain rfl:q=0:=ab;rw[eQ]at g0
         go_wp2_with (go_at_call 52;refine(bG _ _ _ _).m ?_;rintro e w'⟨rfl,rfl⟩)
         .go_ret;have W:fy r (x m).lane 0=6:=by
           have t:(!bO ((x m).lane 0) 0 (↑r-1))=kY:=bo;simp only[fy];rw[if_neg (by simpa using t)]
          exact⟨aC (dI (v:=6) y.o B.o d (T.o.t ((eG H.o O (by rw[W];decide)).t W)) ao),g⟩
         .have X:fy r (x m).lane 0=0:=by
           have t:(!bO ((x m).lane 0) 0 (↑r-1))=kS:=bo;simp only[fy];rw[if_pos (by simpa using t),if_neg ab]
          refine⟨⟨1,O,by go_num,λj z=>?_⟩,by simp[intOf];omega⟩;obtain rfl:j=0:=ab;exact X
       .obtain rfl:q=(x m).ln:=ab;go_wp2;refine⟨⟨m+1,d,by go_num,λj z=>?_,?_,u.o,g⟩,by simp[intOf];omega⟩
        .rcases fg.1 z with h|h
         .exact B.o j h
         .rw[h,T.o];exact cz H.o
        .rw[lS,lT];exact s
     .go_loop [91] (λi=>i=qr rQ 0) (λi=>1)
      case atStart=>rfl
      case round=>
       obtain rfl:=hrel;have hz:((x m).ln:Int)<=0:=ab;go_wp2;refine⟨⟨m+1,d,by go_num,λj z=>?_,?_,u.o,g⟩,by simp[intOf];omega⟩
       .rcases fg.1 z with h|h
        .exact B.o j h
        .rw[h,T.o];exact cz λj z=>absurd z ab
       .rw[lS,lT];exact s
    .have N:=nV (aV R);clear R
     go_wp2_with (first|(go_at_call 101;refine(wB (w.heap.size+1) _ _ _ s Va).m ?_;rintro e w1⟨rfl,E,s⟩;obtain⟨K,L⟩:=J2 E;have g:=lA g (E.below ab g.z);have u:=nV ((E.block _ (n6 J f) ab).t u.o);have A:=nV ((E.block _ f ab).t A.o);have f:=bT f E.size;have C:=bT C E.size)|(go_at_call 47;((with_reducible refine(El N.o _).m ?_);rintro e w1⟨rfl,a⟩;obtain⟨K,L⟩:=cW a;have s:=aG a s;have g:=Below.on g a;have u:=nV ((a.k _ (n6 J f)).t u.o);have A:=nV ((a.k _ f).t A.o);have f:=bT f a.z;have C:=bT C a.z))|(go_at_call 47;refine(nh _ _ _ _ _).m ?_;rintro e w1⟨rfl,a⟩;obtain⟨K,L⟩:=cW a;have s:=aG a s;have g:=Below.on g a;have u:=nV ((a.k _ (n6 J f)).t u.o);have A:=nV ((a.k _ f).t A.o);have f:=bT f a.z;have C:=bT C a.z)|(go_at_call 52;refine(bG _ _ _ _).mono ?_;rintro e w'⟨rfl,rfl⟩)|(go_at_call 99;refine(kQ _ _ _ _ _ _ _ _ J0 tL).mono ?_;rintro e w1⟨rfl,a⟩;obtain⟨K,L⟩:=cW a;have s:=aG a s;have g:=Below.on g a;have u:=nV ((a.block _ (n6 J f)).trans u.out);have A:=nV ((a.block _ f).trans A.out);have f:=bT f a.size;have C:=bT C a.size))
     any_goals (
      go_ret;refine⟨?_,g⟩;have hR:=N.o
      first
       |exact aC (dI (v:=iH (x m).name ((lL m).map λj=>(x j).name)) y.o B.o d (by simp_all [gM]) bp)
       |exact aC (dI (v:=1) y.o B.o d (by simp_all [gM]) ao)
       |exact aC (dI (v:=10) y.out B.out d (by simp_all [gM];try omega) ao)
       |exact aC (dI (v:=6) y.out B.out d (by simp_all [gM];try omega) ao)
       |exact aC (dI (v:=1) y.out B.out d (by simp_all [gM];try omega) ao))
   .obtain rfl:m=n:=ab;go_wp2;go_ret;exact⟨by simp[kA,y.o,cz B.o],D⟩
 .have y:=nV (aV hb);clear hb;go_enter (fx ao gy),jk
  go_wp2_with (go_at_call 52;refine(pZ y.o _).m ?_;rintro e w'⟨rfl,rfl⟩)
  go_ret;exact⟨by simp[kA,y.o],(li _ _).a (dk _) _⟩
structure CD where
 l:Int
 p:Int
 b2:Option bi
 k2:Nat
 o2:Nat
 n2:Nat
 c2:Nat
 x2:Nat->Int×Int
 b3:Option bi
 k3:Nat
 o3:Nat
 n3:Nat
 c3:Nat
 x3:Nat->Int×Int×Int
 b4:Option bi
 k4:Nat
 o4:Nat
 n4:Nat
 c4:Nat
 x4:Nat->iJ
 b5:Option bi
 k5:Nat
 o5:Nat
 n5:Nat
 c5:Nat
 x5:Nat->ByteArray×Int×Int
variable {Y:CD}
abbrev CD.val(C:CD):Array aP:=#[qr rQ C.l,qr rQ C.p,qu C.b2 C.n2 C.c2,qu C.b3 C.n3 C.c3,qu C.b4 C.n4 C.c4,qu C.b5 C.n5 C.c5]
structure CD.At(C:CD)(w:ad):Prop where
 m2:C.n2<=20
 m3:C.n3<=20
 m4:C.n4<=20
 m5:C.n5<=20
 h2:C.k2<w.heap.size
 h3:C.k3<w.heap.size
 h4:C.k4<w.heap.size
 h5:C.k5<w.heap.size
 s2:0<C.n2->C.b2=ek ⟨C.k2,C.o2,el⟩
 s3:0<C.n3->C.b3=ek ⟨C.k3,C.o3,el⟩
 s4:0<C.n4->C.b4=ek ⟨C.k4,C.o4,el⟩
 s5:0<C.n5->C.b5=ek ⟨C.k5,C.o5,el⟩
 Ep:∀i,i<C.n2->mm w ⟨C.k2,C.o2+i*2,el⟩=ek (qr rQ (C.x2 i).1)
 Er:∀i,i<C.n2->mm w ⟨C.k2,C.o2+i*2+1,el⟩=ek (qr rQ (C.x2 i).2)
 Es:∀i,i<C.n3->mm w ⟨C.k3,C.o3+i*3,el⟩=ek (qr rQ (C.x3 i).1)
 Et:∀i,i<C.n3->mm w ⟨C.k3,C.o3+i*3+1,el⟩=ek (qr rQ (C.x3 i).2.1)
 Eu:∀i,i<C.n3->mm w ⟨C.k3,C.o3+i*3+2,el⟩=ek (qr rQ (C.x3 i).2.2)
 cu:∀i,i<C.n4->(C.x4 i).name.size<=100/\(C.x4 i).ln<=20
 AD:∀i,i<C.n4->mm w ⟨C.k4,C.o4+i*12,el⟩=ek (qt (C.x4 i).name)
 dB:∀i,i<C.n4->∀j,1<=j->j<=10->mm w ⟨C.k4,C.o4+i*12+j,el⟩=ek (qr rQ ((C.x4 i).n j))
 nj:∀i,i<C.n4->mm w ⟨C.k4,C.o4+i*12+11,el⟩=ek (qu (C.x4 i).lb (C.x4 i).ln (C.x4 i).lc)
 l4:∀i,i<C.n4->0<(C.x4 i).ln->(C.x4 i).lb=ek ⟨(C.x4 i).lk,(C.x4 i).lo,el⟩/\(C.x4 i).lk<w.heap.size
 J5:∀i,i<C.n4->∀j,j<(C.x4 i).ln->mm w ⟨(C.x4 i).lk,(C.x4 i).lo+j,el⟩=ek (qr rQ ((C.x4 i).lane j))
 nm5:∀i,i<C.n5->(C.x5 i).1.size<=100
 FI:∀i,i<C.n5->mm w ⟨C.k5,C.o5+i*3,el⟩=ek (qt (C.x5 i).1)
 HU:∀i,i<C.n5->mm w ⟨C.k5,C.o5+i*3+1,el⟩=ek (qr rQ (C.x5 i).2.1)
 J6:∀i,i<C.n5->mm w ⟨C.k5,C.o5+i*3+2,el⟩=ek (qr rQ (C.x5 i).2.2)
def CD.At.below{C:CD}{w w':ad}(h:C.At w)(a:bL w w'):C.At w':=by
 have s:=a.z;have d:∀o,mm w' ⟨C.k2,o,el⟩=mm w ⟨C.k2,o,el⟩:=λo=>a.c (p:=⟨C.k2,o,el⟩) h.h2;have b:∀o,mm w' ⟨C.k3,o,el⟩=mm w ⟨C.k3,o,el⟩:=λo=>a.c (p:=⟨C.k3,o,el⟩) h.h3;have c:∀o,mm w' ⟨C.k4,o,el⟩=mm w ⟨C.k4,o,el⟩:=λo=>a.c (p:=⟨C.k4,o,el⟩) h.h4;have e5:∀o,mm w' ⟨C.k5,o,el⟩=mm w ⟨C.k5,o,el⟩:=λo=>a.c (p:=⟨C.k5,o,el⟩) h.h5;have g:=h;obtain⟨m2,m3,m4,m5,h2,h3,h4,h5,s2,s3,s4,s5,Ep,Er,Es,Et,Eu,cu,AD,dB,nj,l4,J5,nm5,FI,HU,J6⟩:=h
 exact⟨m2,m3,m4,m5,ab,ab,ab,ab,s2,s3,s4,s5,λi hi=>(d _).t (Ep i hi),λi hi=>(d _).t (Er i hi),λi hi=>(b _).t (Es i hi),λi hi=>(b _).t (Et i hi),λi hi=>(b _).t (Eu i hi),cu,
  λi hi=>(c _).t (AD i hi),λi hi j e h2=>(c _).t (dB i hi j e h2),λi hi=>(c _).t (nj i hi),λi hi hl=>⟨(l4 i hi hl).1,bT (l4 i hi hl).2 s⟩,
  λi hi j f=>(a.c (p:=⟨(C.x4 i).lk,(C.x4 i).lo+j,el⟩) (l4 i hi ab).2).t (J5 i hi j f),nm5,λi hi=>(e5 _).t (FI i hi),λi hi=>(e5 _).t (HU i hi),λi hi=>(e5 _).t (J6 i hi)⟩
def CD.dP(C:CD):Nat->Int
 |0=>jd C.l C.p
 |1=>pq C.n2 C.x2
 |2=>kz C.p C.n3 C.x3
 |3=>kA C.p C.n2 C.n3 C.n4 C.x4
 |_=>pE C.n4 C.n5 C.x5
def CD.cx(C:CD):Int:=ia 5 C.dP
def cK{l p:Int}(h:jd l p=0):1<=p/\p<=6:=by
 unfold jd at h;split at h
 .rename_i a;simp[bO]at a;omega
 .cases h
def afm(C:CD)(w:ad):bd PL 73 #[qv C.val] w (aO (qr rQ (C.dP 0)) w):=Em _ _ _ _ _ _ _
def afn(C:CD)(w:ad)(h:C.At w):bd PL 74 #[qv C.val] w (aO (qr rQ (C.dP 1)) w):=Nb _ _ _ _ _ _ _ _ _ _ _ _ h.m2 h.h2 h.s2 h.Ep h.Er
def afo(C:CD)(w:ad)(h:C.At w)(a:C.dP 0=0):bd PL 75 #[qv C.val] w (aO (qr rQ (C.dP 2)) w):=
 Nf _ _ _ _ _ _ _ _ _ _ _ _ h.m3 (cK a).1 (cK a).2 h.h3 h.s3 h.Es h.Et h.Eu
def afp(C:CD)(w:ad)(h:C.At w)(a:C.dP 0=0):bd PL 76 #[qv C.val] w (aO (qr rQ (C.dP 3)) w):=
 Q7 _ _ _ _ _ _ _ _ _ _ _ _ _ _ _ _ h.m4 h.m2 h.m3 (cK a).1 (cK a).2 h.h4 h.s4 h.cu h.AD h.dB h.nj h.l4 h.J5
def afq(C:CD)(w:ad)(h:C.At w):bd PL 77 #[qv C.val] w (aO (qr rQ (C.dP 4)) w):=
 HQ _ _ _ _ _ _ _ _ _ _ _ _ _ _ h.m5 h.m4 h.h5 h.s5 h.nm5 h.FI h.HU h.J6
def yq(x0 x1 x2 x3 x4:aP)(w:ad):(pp 128 (qv #[x0,x1,x2,x3,x4]) (qr rQ 0)).run PL w=qi x0 w/\(pp 128 (qv #[x0,x1,x2,x3,x4]) (qr rQ 1)).run PL w=qi x1 w/\(pp 128 (qv #[x0,x1,x2,x3,x4]) (qr rQ 2)).run PL w=qi x2 w/\(pp 128 (qv #[x0,x1,x2,x3,x4]) (qr rQ 3)).run PL w=qi x3 w/\(pp 128 (qv #[x0,x1,x2,x3,x4]) (qr rQ 4)).run PL w=qi x4 w:=
 ⟨ae,ae,ae,ae,ae⟩
def iv:Nat->aP|0=>qr rQ 0|1=>qr rQ 1|2=>qr rQ 2|3=>qr rQ 3|4=>qr rQ 4|_=>qr rQ 5
def cR{C:CD}{m:Nat}(a:∀j,j<m->C.dP j=0)(b:m<5)(hf:C.dP m≠0):C.cx=C.dP m:=eG a b hf
def uC(C:CD)(w:ad)(h:C.At w):bd PL 37 #[qv C.val] w (aO (qr rQ C.cx) w):=by
 have H:=nV h;clear h;have o:=λw x0 x1 x2 x3 x4=>(yq x0 x1 x2 x3 x4 w).1;have p:=λw x0 x1 x2 x3 x4=>(yq x0 x1 x2 x3 x4 w).2.1;have q:=λw x0 x1 x2 x3 x4=>(yq x0 x1 x2 x3 x4 w).2.2.1;have r:=λw x0 x1 x2 x3 x4=>(yq x0 x1 x2 x3 x4 w).2.2.2.1;have s:=λw x0 x1 x2 x3 x4=>(yq x0 x1 x2 x3 x4 w).2.2.2.2;go_enter (fx ao fb),Tryz.ntmps37;go_wp2
 go_loopw [20] (λi wr=>∃k:Nat,k<=5/\i=iv k/\(∀j,j<k->C.dP j=0)/\bL w wr) (λi _=>5-(intOf i).toNat)
 case atStart=>exact⟨0,ab,rfl,λj d=>absurd d (eI _),((li _ _).a (dk _) _).a ar _⟩
 case round=>
  obtain⟨k,t,hi,l,c⟩:=hrel;have b:=nV l;clear l;have n:=H.o.below c;have g:=nV n;clear n;obtain rfl|rfl|rfl|rfl|rfl|rfl:k=0\/k=1\/k=2\/k=3\/k=4\/k=5:=ab
  .obtain rfl:_=qr rQ 0:=hi
   go_wp2_with (go_at_call 73;refine(afm C _).m ?_;rintro e w1⟨rfl,a⟩)
   .go_ret;exact⟨aC (cR (m:=0) b.o ab bp),Below.on c a⟩
   .have f:C.dP 0=0:=bp
    exact⟨⟨1,ab,rfl,λj d=>by
     rcases fg.1 d with h|h
     .exact b.o j h
     .rw[h];exact f,Below.on c a⟩,by simp[intOf]⟩
  .obtain rfl:_=qr rQ 1:=hi
   go_wp2_with (go_at_call 74;refine(afn C _ g.o).m ?_;rintro e w1⟨rfl,a⟩)
   .go_ret;exact⟨aC (cR (m:=1) b.o ab bp),Below.on c a⟩
   .have f:C.dP 1=0:=bp
    exact⟨⟨2,ab,rfl,λj d=>by
     rcases fg.1 d with h|h
     .exact b.o j h
     .rw[h];exact f,Below.on c a⟩,by simp[intOf]⟩
  .obtain rfl:_=qr rQ 2:=hi
   go_wp2_with (go_at_call 75;refine(afo C _ g.o (b.o 0 ab)).m ?_;rintro e w1⟨rfl,a⟩)
   .go_ret;exact⟨aC (cR (m:=2) b.o ab bp),Below.on c a⟩
   .have f:C.dP 2=0:=bp
    exact⟨⟨3,ab,rfl,λj d=>by
     rcases fg.1 d with h|h
     .exact b.o j h
     .rw[h];exact f,Below.on c a⟩,by simp[intOf]⟩
  .obtain rfl:_=qr rQ 3:=hi
   go_wp2_with (go_at_call 76;refine(afp C _ g.o (b.o 0 ab)).m ?_;rintro e w1⟨rfl,a⟩)
   .go_ret;exact⟨aC (cR (m:=3) b.o ab bp),Below.on c a⟩
   .have f:C.dP 3=0:=bp
    exact⟨⟨4,ab,rfl,λj d=>by
     rcases fg.1 d with h|h
     .exact b.o j h
     .rw[h];exact f,Below.on c a⟩,by simp[intOf]⟩
  .obtain rfl:_=qr rQ 4:=hi
   go_wp2_with (go_at_call 77;refine(afq C _ g.o).m ?_;rintro e w1⟨rfl,a⟩)
   .go_ret;exact⟨aC (cR (m:=4) b.o ab bp),Below.on c a⟩
   .have f:C.dP 4=0:=bp
    exact⟨⟨5,ab,rfl,λj d=>by
     rcases fg.1 d with h|h
     .exact b.o j h
     .rw[h];exact f,Below.on c a⟩,by simp[intOf]⟩
  .obtain rfl:_=qr rQ 5:=hi;go_wp2;go_ret;exact⟨aC (cz b.o),c⟩
def CD.zero:Array aP:=#[qr rQ 0,qr rQ 0,qu el 0 0,qu el 0 0,qu el 0 0,qu el 0 0]
def CD.b6(C:CD)(b:Bool):Int:=if C.cx=0 then(if b then 0 else 6) else C.cx
def CD.sX(C:CD)(b:Bool):aP:=qH #[qv (if C.b6 b=0 then C.val else CD.zero),qr rQ (C.b6 b)]
def Below.zQ{w:ad}(h:Below q C w){k:Nat}(b:q<=k)(u0 u1 u2 u3 u4 u5:aP):Below q C (m8 (m8 (m8 (m8 (m8 (m8 w ⟨k,0,el⟩ u0) ⟨k,1,el⟩ u1) ⟨k,2,el⟩ u2) ⟨k,3,el⟩ u3) ⟨k,4,el⟩ u4) ⟨k,5,el⟩ u5):=
 (((((h.s (p:=⟨k,0,el⟩) b u0).s (p:=⟨k,1,el⟩) b u1).s (p:=⟨k,2,el⟩) b u2).s (p:=⟨k,3,el⟩) b u3).s (p:=⟨k,4,el⟩) b u4).s (p:=⟨k,5,el⟩) b u5
def Ra{b:Bool}(h:Y.cx≠0):Y.sX b=qH #[qv #[qr rQ 0,qr rQ 0,qu el 0 0,qu el 0 0,qu el 0 0,qu el 0 0],qr rQ Y.cx]:=by
 simp[CD.sX,CD.b6,h,CD.zero]
def Vd(h:Y.cx=0):Y.sX kS=qH #[qv #[qr rQ 0,qr rQ 0,qu el 0 0,qu el 0 0,qu el 0 0,qu el 0 0],qr rQ 6]:=by
 simp[CD.sX,CD.b6,h,CD.zero]
def Ve(h:Y.cx=0):Y.sX kY=qH #[qv Y.val,qr rQ 0]:=by
 simp[CD.sX,CD.b6,h]
def sY(h:Y.cx=0)(k:Y.At C):bd PL 37 #[qv Y.val] C (aO (qr rQ 0) C):=by
 have:=uC Y C k;rwa[h]at this
def Ev(C:CD)(b:Bool)(w:ad)(h:C.At w):bd PL 31 #[qv C.val,qq b] w (aO (C.sX b) w):=by
 have g:=λw1 k=>h.below (w':=w1) k;have f:=nV g;clear g h;by_cases hc:C.cx=0
 .have c:=nV hc;clear hc;cases b
  .rw[Vd c.o];go_enter (fx ao g8),jn
   go_wp2_with (go_at_call 37;refine(sY c.o (f.o _ (((li _ _).a (dk _) _).a ar _))).m ?_;rintro e w1⟨rfl,a⟩;obtain⟨d,i⟩:=cW a;have j:w.heap.size+1<w1.heap.size:=by have:=a.z;simp at this;omega)
   refine ci (v:=qH #[qv #[qr rQ 0,qr rQ 0,qu el 0 0,qu el 0 0,qu el 0 0,qu el 0 0],qr rQ 6]) ?_ rfl ⟨rfl,(Below.zQ ((((li _ _).a (dk _) _).a ar _).t (a.mono (by simp;omega))) (n1 _) _ _ _ _ _ _)⟩;simp[cl,jp,go_sem,d]
  .rw[Ve c.o];go_enter (fx ao g8),jn
   go_wp2_with (go_at_call 37;refine(sY c.o (f.o _ (((li _ _).a (dk _) _).a ar _))).m ?_;rintro e w1⟨rfl,a⟩;obtain⟨d,i⟩:=cW a;have j:w.heap.size+1<w1.heap.size:=by have:=a.z;simp at this;omega)
   refine ci (v:=qH #[qv C.val,qr rQ 0]) ?_ rfl ⟨rfl,(Below.zQ ((((li _ _).a (dk _) _).a ar _).t (a.mono (by simp;omega))) (n1 _) _ _ _ _ _ _)⟩;simp[cl,jp,go_sem,d]
 .have c:=nV hc;have l:(C.cx != 0)=kY:=by simpa using hc
  clear hc;rw[Ra c.o];go_enter (fx ao g8),jn
  go_wp2_with (go_at_call 37;refine(uC C _ (f.o _ (((li _ _).a (dk _) _).a ar _))).m ?_;rintro e w1⟨rfl,a⟩;obtain⟨d,i⟩:=cW a;have j:w.heap.size+1<w1.heap.size:=by have:=a.z;simp at this;omega)
  refine ci (v:=qH #[qv #[qr rQ 0,qr rQ 0,qu el 0 0,qu el 0 0,qu el 0 0,qu el 0 0],qr rQ C.cx]) ?_ rfl ⟨rfl,(Below.zQ ((((li _ _).a (dk _) _).a ar _).t (a.mono (by simp;omega))) (n1 _) _ _ _ _ _ _)⟩;simp[cl,jp,go_sem,d]
def AE(C:CD)(n:Int)(w:ad)(h:C.n4<=20):bd PL 46 #[qv C.val,qr rQ n] w (aO (qq (bO n 0 (C.n4-1))) w):=by
 go_enter (fx ao g9),Tryz.ntmps46
 go_wp2_with (go_at_call 52;refine(bG _ _ _ _).m ?_;rintro e w'⟨rfl,rfl⟩)
 go_ret;exact⟨rfl,(li _ _).a (dk _) _⟩
def lvl(s r:Int):Nat->Int
 |0=>0
 |k+1=>if((k:Int)+1)*(k+1) > s*s-r*r then lvl s r k else k+1
def AF{a:Int}(c : -90<=a)(d:a<=90):0<=a*a/\a*a<=8100:=by
 have h:=q7 (a:=90-a) (b:=90+a) ab ab;have e:(90-a)*(90+a)=8100-a*a:=by
  rw[Int.sub_mul,q8,q8,Int.mul_comm a 90];omega
 refine⟨?_,ab⟩
 rcases q9 0 a with h|h
 .exact q7 h h
 .have:=q7 (a:=-a) (b:=-a) ab ab;rwa[rf]at this
def AG(s:Nat)(r:Int)(w:ad)(y:1<=s)(z:s<=90)(A : -s<=r)(g:r<=s):bd PL 53 #[qr rQ (s:Int),qr rQ r] w λe w'=>e=r7 (qr rQ (lvl s r s))/\w'=w:=by
 go_enter (fx ao gg),Tryz.ntmps53;go_wp2
 go_loop [5] (λv=>∃k:Nat,k<=s/\v=qr rQ k/\lvl s r s=lvl s r k) (λv=>(intOf v).toNat)
 case atStart=>exact⟨s,dk _,rfl,rfl⟩
 case round=>
  obtain⟨k,B,rfl,i⟩:=hrel;have f:=nV i;clear i;have l:=AF (a:=(k:Int)) ab ab;have m:=AF (a:=(s:Int)) ab ab;have n:=AF (a:=r) ab ab;obtain⟨o,C⟩:=l;obtain⟨p,q⟩:=m;obtain⟨t,u⟩:=n;have hd:(∃k':Nat,k=k'+1)\/k=0:=by
   cases k with
   |zero=>exact r9 rfl
   |succ k'=>exact r8 ⟨k',rfl⟩
  go_wp2
  .have j:(s:Int)*s-r*r<(k:Int)*k:=bo
   rcases hd with⟨k',rfl⟩|rfl
   .refine⟨⟨k',ab,by congr 1;omega,?_⟩,by simp[intOf]⟩;rw[f.o,lvl,if_pos (by simpa using j)]
   .exfalso;have D:r*r<=(s:Int)*s:=by
     rcases q9 0 r with h|h
     .exact rh g g h ab
     .have e:=rh (a:=-r) (b:=-r) (c:=s) (d:=s) ab ab ab ab;rwa[rf]at e
    simp at j;omega
  .have x:(k:Int)*k<=(s:Int)*s-r*r:=bo;go_ret;refine⟨?_,rfl⟩
   rcases hd with⟨k',rfl⟩|rfl
   .rw[f.o,lvl,if_neg (by simp at x ⊢;omega)];rfl
   .rw[f.o];rfl
def ie(s r:Int):aP:=if bO s 1 90&&bO r (-90) 90 then(if s<r\/s < -r then qH #[qr rQ 0,qr rQ 10] else qH #[qr rQ (lvl s r s.toNat),qr rQ 0]) else qH #[qr rQ 0,qr rQ 1]
def uD(s r:Int)(w:ad):bd PL 20 #[qr rQ s,qr rQ r] w λe w'=>e=r7 (ie s r)/\w'=w:=by
 by_cases d:bO s 1 90=kY
 .have i:1<=s/\s<=90:=by simp[bO]at d;exact d
  obtain⟨j,o⟩:=i;have b:=nV d;clear d;by_cases f:bO r (-90) 90=kY
  .have k : -90<=r/\r<=90:=by simp[bO]at f;exact f
   obtain⟨l,m⟩:=k;have c:=nV f;clear f;obtain⟨n,rfl⟩:=rk (a:=s) ab;by_cases g:(n:Int)<r
   .go_enter (fx ao e9),jr
    go_wp2_with (first|(go_at_call 52;((with_reducible refine(fN b.o _).m ?_);rintro e w'⟨rfl,rfl⟩))|(go_at_call 52;refine(fN c.o _).m ?_;rintro e w'⟨rfl,rfl⟩))
    go_ret2
    exact⟨by simp[ie,b.o,c.o,g],rfl⟩
   .by_cases h:(n:Int) < -r
    .go_enter (fx ao e9),jr
     go_wp2_with (first|(go_at_call 52;((with_reducible refine(fN b.o _).m ?_);rintro e w'⟨rfl,rfl⟩))|(go_at_call 52;refine(fN c.o _).m ?_;rintro e w'⟨rfl,rfl⟩))
     go_ret2
     exact⟨by simp[ie,b.o,c.o,h],rfl⟩
    .go_enter (fx ao e9),jr
     go_wp2_with (first|(go_at_call 52;((with_reducible refine(fN b.o _).m ?_);rintro e w'⟨rfl,rfl⟩))|(go_at_call 52;refine(fN c.o _).m ?_;rintro e w'⟨rfl,rfl⟩)|(go_at_call 53;refine(AG _ _ _ ab ab ab ab).m ?_;rintro e w'⟨rfl,rfl⟩))
     go_ret2
     exact⟨by simp[ie,b.o,c.o,g,h],rfl⟩
  .have c:=nV (aV f);clear f;go_enter (fx ao e9),jr
   go_wp2_with (first|(go_at_call 52;((with_reducible refine(fN b.o _).m ?_);rintro e w'⟨rfl,rfl⟩))|(go_at_call 52;refine(pZ c.o _).m ?_;rintro e w'⟨rfl,rfl⟩))
   go_ret2
   exact⟨by simp[ie,b.o,c.o],rfl⟩
 .have b:=nV (aV d);clear d;go_enter (fx ao e9),jr
  go_wp2_with (go_at_call 52;refine(pZ b.o _).m ?_;rintro e w'⟨rfl,rfl⟩)
  go_ret2
  exact⟨by simp[ie,b.o],rfl⟩
def rJ(n a b:Int)(w:ad):bd PL 43 #[qr rQ n,qr rQ a,qr rQ b] w λe w'=>e=r7 (qq (bO n a b))/\w'=w:=by
 go_enter (fx ao f9),Tryz.ntmps43;go_wp2
 all_goals (go_ret;simp[bO];try omega)
def yu(c:Nat)(w:ad):bd PL 123 #[qr .u8 c] w λe w'=>e=r7 (qq (bO c 97 122))/\w'=w:=by
 go_enter (fx ao ii),Tryz.ntmps123;go_wp2
 all_goals (go_ret;simp[bO];try omega)
def AH(c:Nat)(w:ad):bd PL 124 #[qr .u8 c] w λe w'=>e=r7 (qq (bO c 48 57))/\w'=w:=by
 go_enter (fx ao io),Tryz.ntmps124;go_wp2
 all_goals (go_ret;simp[bO];try omega)
def kB(a b low c:Int)(w:ad):bd PL 50 #[qv #[qr rQ a,qr rQ b],qr rQ low,qr rQ c] w (aO (qq (eK a b low c)) w):=by
 go_enter (fx ao gL),Tryz.ntmps50
 go_wp2_with (go_at_call 43;refine(rJ _ _ _ _).m ?_;rintro e w'⟨rfl,rfl⟩)
 all_goals (go_ret;refine⟨?_,(li _ _).a (dk _) _⟩;simp_all [eK,bO];try omega)
def AI(a b:Int)(w:ad)(c : -90<=a)(d:a<=90):bd PL 95 #[qv #[qr rQ a,qr rQ b]] w (aO (qr rQ (max b (-a))) w):=by
 go_enter (fx ao hG),Tryz.ntmps95;go_wp2
 all_goals (go_ret;refine⟨aC ab,(li _ _).a (dk _) _⟩)
def Ew(h:bO q 97 122=kY)(w:ad):bd PL 123 #[qr .u8 q] w λe w'=>e=r7 (qq kY)/\w=w':=by
 have:=yu q w;rw[h]at this;exact this.m λ_ _⟨a,b⟩=>⟨a,b.y⟩
def yw(h:bO q 97 122=kS)(w:ad):bd PL 123 #[qr .u8 q] w λe w'=>e=r7 (qq kS)/\w=w':=by
 have:=yu q w;rw[h]at this;exact this.m λ_ _⟨a,b⟩=>⟨a,b.y⟩
def Vf(h:bO q 48 57=kY)(w:ad):bd PL 124 #[qr .u8 q] w λe w'=>e=r7 (qq kY)/\w=w':=by
 have:=AH q w;rw[h]at this;exact this.m λ_ _⟨a,b⟩=>⟨a,b.y⟩
def Vg(h:bO q 48 57=kS)(w:ad):bd PL 124 #[qr .u8 q] w λe w'=>e=r7 (qq kS)/\w=w':=by
 have:=AH q w;rw[h]at this;exact this.m λ_ _⟨a,b⟩=>⟨a,b.y⟩
def kH{a b:Int}(h:bO O a b=kY)(w:ad):bd PL 43 #[qr rQ O,qr rQ a,qr rQ b] w λe w'=>e=r7 (qq kY)/\w=w':=by
 have:=rJ O a b w;rw[h]at this;exact this.m λ_ _⟨a,b⟩=>⟨a,b.y⟩
def vQ{a b:Int}(h:bO O a b=kS)(w:ad):bd PL 43 #[qr rQ O,qr rQ a,qr rQ b] w λe w'=>e=r7 (qq kS)/\w=w':=by
 have:=rJ O a b w;rw[h]at this;exact this.m λ_ _⟨a,b⟩=>⟨a,b.y⟩
def AJ(h:q<L.size):jv L q=(L[q]'h).toNat:=by simp[jv,h]
def vv(s:ByteArray)(w:ad)(hs:s.size<=100):bd PL 94 #[qt s] w λe w'=>e=r7 (qq (ku s))/\w=w':=by
 by_cases g:bO (↑s.size) 1 12=kY
 .have o:0<s.size:=by simp[bO]at g;omega
  have d:=nV g;clear g;by_cases n:bO ((s[0]'o).toNat:Int) 97 122=kY
  .have l:=nV n;clear n;go_enter (fx ao h6),jt
   go_wp2_with (first|(go_at_call 43;refine(kH d.o _).m ?_;rintro e w'⟨rfl,rfl⟩)|(go_at_call 123;refine(Ew l.o _).m ?_;rintro e w'⟨rfl,rfl⟩))
   go_loop [3] (λv=>∃k:Nat,k<=s.size/\v=qr rQ k/\∀j,j<k->wA (jv s j) j=kY) (λv=>s.size-(intOf v).toNat)
   case atStart=>exact⟨0,eF _,rfl,λj b=>absurd b (eI _)⟩
   case round=>
    obtain⟨k,u,rfl,r⟩:=hrel;have p:=nV r;clear r;by_cases f:k<s.size
    .have hb:=AJ f;have q:=nV hb;clear hb;by_cases hl:bO ((s[k]'f).toNat:Int) 97 122=kY
     .have c:=nV hl;clear hl
      go_wp2_with (go_at_call 123;refine(Ew c.o _).m ?_;rintro e w'⟨rfl,rfl⟩)
      refine⟨⟨k+1,f,by go_num,λj b=>?_⟩,by simp[intOf];omega⟩
      rcases fg.1 b with h|h
      .exact p.o j h
      .rw[h,q.o];simp[wA,c.o]
     .have c:=nV (aV hl);clear hl;have t:k≠0:=λe=>by
       subst e;have a:=c.o;rw[l.o]at a;cases a
      by_cases hd:bO ((s[k]'f).toNat:Int) 48 57=kY
      .have m:=nV hd;clear hd
       go_wp2_with (first|(go_at_call 123;refine(yw c.o _).m ?_;rintro e w'⟨rfl,rfl⟩)|(go_at_call 124;refine(Vf m.o _).m ?_;rintro e w'⟨rfl,rfl⟩))
       refine⟨⟨k+1,f,by go_num,λj b=>?_⟩,by simp[intOf];omega⟩
       rcases fg.1 b with h|h
       .exact p.o j h
       .rw[h,q.o];simp[wA,m.o,t]
      .have m:=nV (aV hd);clear hd
       go_wp2_with (first|(go_at_call 123;refine(yw c.o _).m ?_;rintro e w'⟨rfl,rfl⟩)|(go_at_call 124;refine(Vg m.o _).m ?_;rintro e w'⟨rfl,rfl⟩))
       go_ret;exact⟨by rw[qd f (by rw[q.o];simp[wA,c.o,m.o])];rfl,rfl⟩
    .obtain rfl:k=s.size:=ab;go_wp2;go_ret;refine⟨?_,rfl⟩;have:((lL s.size).all λi=>wA (jv s i) i)=kY:=by
      rw[df];intro j b;exact p.o j (dv.1 b)
     simp[ku,this,d.o]
  .have l:=nV (aV n);clear n;go_enter (fx ao h6),jt
   go_wp2_with (first|(go_at_call 43;refine(kH d.o _).m ?_;rintro e w'⟨rfl,rfl⟩)|(go_at_call 123;refine(yw l.o _).m ?_;rintro e w'⟨rfl,rfl⟩))
   go_ret;exact⟨by rw[qd o (by rw[AJ o];simp[wA,l.o])];rfl,rfl⟩
 .have d:=nV (aV g);clear g;go_enter (fx ao h6),jt
  go_wp2_with (go_at_call 43;refine(vQ d.o _).m ?_;rintro e w'⟨rfl,rfl⟩)
  go_ret;exact⟨by simp[ku,d.o],rfl⟩
def dr{w:ad}(h:Below q C w)(n:Nat):Below q C (m9 w n):=⟨h.os,h.tape,h.output,h.z,h.k⟩
def Vh(b:Option bi)(k o n c m:Nat)(x:Nat->Int)(w:ad)(D:n<=20)(E:m<=20)(t:0<n->k<w.heap.size)(hs:0<n->b=ek ⟨k,o,el⟩)(u:∀i,i<n->mm w ⟨k,o+i,el⟩=ek (qr rQ (x i))) :
 bd PL 96 #[qu b n c,qr rQ (m:Int)] w (aO (qr rQ (ia n (fy m x))) w):=by
 have v:=nV u;have B:=nV hs;clear u hs;go_enter (fx ao fR),Tryz.ntmps96;go_wp2
 go_loopw [5] (λi wr=>∃q:Nat,q<=n/\i=qr rQ q/\(∀j,j<q->fy m x j=0)/\bL w wr) (λi _=>n-(intOf i).toNat)
 case atStart=>exact⟨0,eF _,rfl,λj g=>absurd g (eI _),li _ _⟩
 case round=>
  obtain⟨q,F,rfl,y,d⟩:=hrel;have l:=nV y;clear y;by_cases f:q<n
  .obtain rfl:=B.o ab;have C:=(d.c (p:=⟨k,o+q,el⟩) (t ab)).t (v.o q f);by_cases hi:bO (x q) 0 (m-1)=kY
   .have a:=nV hi;clear hi;by_cases r:0<q
    .have H:=(d.c (p:=⟨k,o+(q-1),el⟩) (t ab)).t (v.o (q-1) ab);have I:(0:Int)<q:=ab;have J:(q:Int)<n:=ab;have K:(q:Int)-1<n:=ab;have L:(0:Int)<=(q:Int)-1:=ab
     go_wp2_with (go_at_call 43;refine(kH a.o _).m ?_;rintro e w'⟨rfl,rfl⟩)
     go_quiet (fail)
     go_wp2
     .have z:fy m x q=7:=by
       have t2:x q<=x (q-1):=bo;simp only[fy];rw[if_pos a.o,if_pos ⟨r,t2⟩]
      go_ret;exact⟨aC ((eG l.o f (by rw[z];decide)).t z),dr d _⟩
     .have s:fy m x q=0:=by
       have t2:x (q-1)<x q:=bo;simp only[fy];rw[if_pos a.o,if_neg ab]
      refine⟨⟨q+1,f,by go_num,λj g=>?_,dr d _⟩,by simp[intOf];omega⟩
      rcases fg.1 g with h|h
      .exact l.o j h
      .rw[h];exact s
    .obtain rfl:q=0:=ab;rw[eQ]at C
     go_wp2_with (go_at_call 43;refine(kH a.o _).m ?_;rintro e w'⟨rfl,rfl⟩)
     go_quiet (fail)
     go_wp2;have s:fy m x 0=0:=by
      simp only[fy];rw[if_pos a.o,if_neg ab]
     refine⟨⟨1,f,by go_num,λj g=>?_,dr d _⟩,by simp[intOf];omega⟩;obtain rfl:j=0:=ab;exact s
   .have a:=nV (aV hi);clear hi
    go_wp2_with (go_at_call 43;refine(vQ a.o _).m ?_;rintro e w'⟨rfl,rfl⟩)
    have A:fy m x q=6:=by simp only[fy];rw[a.o];rfl
    go_ret;exact⟨aC ((eG l.o f (by rw[A];decide)).t A),d⟩
  .obtain rfl:q=n:=ab;go_wp2;go_ret;exact⟨aC (cz l.o),d⟩
def Ex{b c d:Int}:eB O b=eB c d↔(O=c/\b=d)\/(O=d/\b=c):=by
 simp only[eB,ma];omega
def aao{x1 x2:aP}(h:C.heap[q]?=ek (rP #[M,x1,x2] R)):mm C ⟨q,0,el⟩=ek M/\mm C ⟨q,1,el⟩=ek x1/\mm C ⟨q,2,el⟩=ek x2:=by
 simp[mm,h]
def getElem?_lt'{b:Type}{a:Array b}{x:b}(h:a[q]?=ek x):q<a.size:=(bR.1 h).1
def Ic(l p:Int)(b:Option bi)(k o n c:Nat)(x:Nat->Int×Int×Int)(J K v5:aP)(w:ad)(hn:n<=20)(J0:1<=p)(tL:p<=6)(t:k<w.heap.size)(hs:0<n->b=ek ⟨k,o,el⟩)
 (Q:∀i,i<n->mm w ⟨k,o+i*3,el⟩=ek (qr rQ (x i).1)) (C:∀i,i<n->mm w ⟨k,o+i*3+1,el⟩=ek (qr rQ (x i).2.1)) (D:∀i,i<n->mm w ⟨k,o+i*3+2,el⟩=ek (qr rQ (x i).2.2)) :
 bd PL 68 #[qv #[qr rQ l,qr rQ p,J,qu b n c,K,v5]] w (aO (qr rQ (kz p n x)) w):=by
 have R:=nV Q;have S:=nV C;have T:=nV D;have HS:=nV hs;clear Q C D hs;by_cases hb:9<n
 .go_enter (fx ao g4),jw;go_wp2;go_ret;exact⟨by simp[kz,hb],(li _ _).a (dk _) _⟩
 .go_enter (fx ao g4),jw;go_wp2
  go_loopw [3] (λi wr=>∃m:Nat,m<=n/\i=qr rQ m/\(∀j,j<m->fQ p x j=0)/\wr.heap[w.heap.size]?=ek (rP #[qr rQ l,qr rQ p,J,qu b n c,K,v5] 27)/\bL w wr) (λi _=>n-(intOf i).toNat)
  case atStart=>exact⟨0,eF _,rfl,λj r=>absurd r (eI _),au _ _,(li _ _).a (dk _) _⟩
  case round=>
   obtain⟨m,U,rfl,V,W,u⟩:=hrel;have s:=nV V;have L:=nV W;clear V W;obtain⟨y,rfl⟩:=bs wr;obtain⟨d0,d1,d2,d3,d4,d5⟩:=bf L.o;have mF:w.heap.size<y.heap.size:=getElem?_lt' L.o;by_cases f:m<n
   .obtain rfl:=HS.o ab;have c0:=(u.c (p:=⟨k,o+m*3,el⟩) t).t (R.o m f);have c1:=(u.c (p:=⟨k,o+m*3+1,el⟩) t).t (S.o m f);have c2:=(u.c (p:=⟨k,o+m*3+2,el⟩) t).t (T.o m f);have B:bL w (mG y (rP #[qr rQ (x m).1,qr rQ (x m).2.1,qr rQ (x m).2.2] 93)):=u.a u.z _;by_cases F:bO (x m).1 0 (p-1)=kY
    .have a:=nV F;clear F;by_cases H:bO (x m).2.1 0 (p-1)=kY
     .have d:=nV H;clear H;by_cases z:(x m).1=(x m).2.1
      .have E:=nV z;have Xo:((x m).1==(x m).2.1)=kY:=by simpa using z
       clear z
       go_wp2_with (first|(go_at_call 43;((with_reducible refine(kH a.o _).m ?_);rintro e w'⟨rfl,rfl⟩))|(go_at_call 43;((with_reducible refine(kH d.o _).m ?_);rintro e w'⟨rfl,rfl⟩)))
       go_ret;exact⟨aC (dh (v:=8) hb s.o f (by simp[fQ,a.o,d.o,E.o]) ao),B⟩
      .have E:=nV z;have Xo:((x m).1==(x m).2.1)=kS:=by simpa using z
       clear z;by_cases I:bO (x m).2.2 1 999=kY
       .have A:=nV I;clear I
        go_wp2_with (first|(go_at_call 43;((with_reducible refine(kH a.o _).m ?_);rintro e w'⟨rfl,rfl⟩))|(go_at_call 43;((with_reducible refine(kH d.o _).m ?_);rintro e w'⟨rfl,rfl⟩))|(go_at_call 43;((with_reducible refine(kH A.o _).m ?_);rintro e w'⟨rfl,rfl⟩)))
        go_loopw [5] (λi M=>∃q:Nat,q<=m/\i=qr rQ q/\(∀j,j<q->eB (x j).1 (x j).2.1≠eB (x m).1 (x m).2.1)/\M.heap[w.heap.size]?=ek (rP #[qr rQ l,qr rQ p,J,qu (ek ⟨k,o,el⟩) n c,K,v5] 27)/\M.heap[y.heap.size]?=ek (rP #[qr rQ (x m).1,qr rQ (x m).2.1,qr rQ (x m).2.2] 93)/\bL w M) (λi _=>m-(intOf i).toNat)
        case atStart=>exact⟨0,eF _,rfl,λj r=>absurd r (eI _),(lm _ _ _ mF).t L.o,au _ _,B⟩
        case round=>
         obtain⟨q,hq,rfl,X,Y,Z,g⟩:=hrel;have HJ:=nV X;have N:=nV Y;have O:=nV Z;clear X Y Z;obtain⟨f0,f1,f2,f3,f4,f5⟩:=bf N.o;obtain⟨g0,g1,g2⟩:=aao O.o;have dx:y.heap.size<wr.heap.size:=getElem?_lt' O.o;have wD:w.heap.size<wr.heap.size:=ab;by_cases qN:q<m
         .have k0:=(g.c (p:=⟨k,o+q*3,el⟩) t).t (R.o q ab);have k1:=(g.c (p:=⟨k,o+q*3+1,el⟩) t).t (S.o q ab);have k2:=(g.c (p:=⟨k,o+q*3+2,el⟩) t).t (T.o q ab);have i2:(q:Int)<n:=ab;go_wp2
          any_goals (
           go_ret;have P:eB (x q).1 (x q).2.1=eB (x m).1 (x m).2.1:=Ex.2 bp;have nt:eB (x m).1 (x m).2.1∈(lL m).map (λj=>eB (x j).1 (x j).2.1):=j3.2 ⟨q,dv.2 qN,P⟩
           exact⟨aC (dh (v:=5) hb s.o f (by simp only[fQ];rw[a.o,d.o,A.o,if_neg E.o,if_pos nt];rfl) ao),g.a g.z _⟩)
          all_goals (
           have P:eB (x q).1 (x q).2.1≠eB (x m).1 (x m).2.1:=λe=>by
            have e2:=Ex.1 e;have e3:=E.o;simp_all
           refine⟨⟨q+1,qN,by go_num,λj r=>?_,(lm _ _ _ wD).t N.o,(lm _ _ _ dx).t O.o,g.a g.z _⟩,by simp[intOf];omega⟩
           rcases fg.1 r with h|h
           .exact HJ.o j h
           .rw[h];exact P)
         .obtain rfl:q=m:=ab;go_wp2;refine⟨⟨q+1,f,by go_num,λj r=>?_,N.o,g⟩,by simp[intOf];omega⟩
          rcases fg.1 r with h|h
          .exact s.o j h
          .have uB:eB (x q).1 (x q).2.1∉(lL q).map (λj=>eB (x j).1 (x j).2.1):=λU=>by
            obtain⟨j,C,D⟩:=j3.1 U;exact HJ.o j (dv.1 C) D
           rw[h];simp only[fQ];rw[a.o,d.o,A.o,if_neg E.o,if_neg uB];rfl
       .have A:=nV (aV I);clear I
        go_wp2_with (first|(go_at_call 43;((with_reducible refine(kH a.o _).m ?_);rintro e w'⟨rfl,rfl⟩))|(go_at_call 43;((with_reducible refine(kH d.o _).m ?_);rintro e w'⟨rfl,rfl⟩))|(go_at_call 43;((with_reducible refine(vQ A.o _).m ?_);rintro e w'⟨rfl,rfl⟩)))
        go_ret;exact⟨aC (dh (v:=1) hb s.o f (by simp[fQ,a.o,d.o,E.o,A.o]) ao),B⟩
     .have d:=nV (aV H);clear H
      go_wp2_with (first|(go_at_call 43;((with_reducible refine(kH a.o _).m ?_);rintro e w'⟨rfl,rfl⟩))|(go_at_call 43;((with_reducible refine(vQ d.o _).m ?_);rintro e w'⟨rfl,rfl⟩)))
      go_ret;exact⟨aC (dh (v:=6) hb s.o f (by simp[fQ,a.o,d.o]) ao),B⟩
    .have a:=nV (aV F);clear F
     go_wp2_with (first|(go_at_call 43;((with_reducible refine(vQ a.o _).m ?_);rintro e w'⟨rfl,rfl⟩)))
     go_ret;exact⟨aC (dh (v:=6) hb s.o f (by simp[fQ,a.o]) ao),B⟩
   .obtain rfl:m=n:=ab;go_wp2;go_ret;exact⟨aC (by rw[kz,if_neg hb];exact cz s.o),u⟩
def J9(h:ku L=kY)(w:ad)(hs:L.size<=100):bd PL 94 #[qt L] w λe w'=>e=r7 (qq kY)/\w=w':=by
 have:=vv L w hs;rwa[h]at this
def Ka(h:ku L=kS)(w:ad)(hs:L.size<=100):bd PL 94 #[qt L] w λe w'=>e=r7 (qq kS)/\w=w':=by
 have:=vv L w hs;rwa[h]at this
def sZ(a b:ByteArray):(a.toList==b.toList)=decide (a=b):=by rw[<-beq_toListBytes,bytes_beq]
def yx(C:CD)(m:Nat)(w:ad)(h:C.At w)(b:m<C.n5):bd PL 70 #[qv C.val,qr rQ (m:Int)] w (aO (qr rQ (iI C.n4 C.x5 m)) w):=by
 have H:=nV h;have c0:=h.FI m b;have c1:=h.HU m b;have c2:=h.J6 m b;have Z:=h.s5 ab;have L:=h.h5;have M:=h.nm5 m b;have m5:=h.m5;have m4:=h.m4;clear h;obtain⟨l,p,N,k2,o2,O,P,x2,Q,k3,o3,R,S,x3,T,k4,o4,I,U,x4,b5,u,v,d,V,a⟩:=C;simp only at c0 c1 c2 Z L M m5 m4 b ⊢;subst Z;have hmi:(m:Int)<d:=ab;by_cases c:ku (a m).1=kY
 .have n:=nV c;clear c;go_enter (fx ao g7),jz
  go_wp2_with (go_at_call 94;refine(J9 n.o _ M).m ?_;rintro e w'⟨rfl,rfl⟩)
  go_loopw [6] (λi wr=>∃q:Nat,q<=m/\i=qr rQ q/\(∀j,j<q->(a j).1≠(a m).1)/\wr.heap[w.heap.size]?=ek (rP #[qr rQ l,qr rQ p,qu N O P,qu Q R S,qu T I U,qu (ek ⟨u,v,el⟩) d V] 27)/\wr.heap[w.heap.size+1]?=ek (rP #[qt (a m).1,qr rQ (a m).2.1,qr rQ (a m).2.2] 51)/\bL w wr) (λi _=>m-(intOf i).toNat)
  case atStart=>
   refine⟨0,eF _,rfl,λj f=>absurd f (eI _),(lm _ _ _ ar).t (au _ _),?_,((li _ _).a (dk _) _).a ar _⟩;have:=au (mG w (rP #[qr rQ l,qr rQ p,qu N O P,qu Q R S,qu T I U,qu (ek ⟨u,v,el⟩) d V] 27)) (rP #[qt (a m).1,qr rQ (a m).2.1,qr rQ (a m).2.2] 51);simpa using this
  case round=>
   obtain⟨q,hq,rfl,x,y,z,A⟩:=hrel;have HJ:=nV x;have o:=nV y;have s:=nV z;clear x y z;obtain⟨f0,f1,f2,f3,f4,f5⟩:=bf o.o;obtain⟨g0,g1,g2⟩:=aao s.o;by_cases qN:q<m
   .have k0:=(A.c (p:=⟨u,v+q*3,el⟩) L).t (H.o.FI q (by show q<d;omega));simp only at k0;have i2:(q:Int)<d:=ab;go_wp2
    go_quiet (fail)
    go_wp2
    .have g:(a q).1=(a m).1:=by
      have t:((a q).1.toList==(a m).1.toList)=kY:=bo;rw[sZ]at t;simpa using t
     have W:(a m).1∈(lL m).map (λj=>(a j).1):=j3.2 ⟨q,dv.2 qN,g⟩;go_ret;exact⟨aC (by simp[iI,iH,n.o,W]),dr A _⟩
    .have g:(a q).1≠(a m).1:=by
      have t:((a q).1.toList==(a m).1.toList)=kS:=bo;rw[sZ]at t;simpa using t
     refine⟨⟨q+1,qN,by go_num,λj f=>?_,o.o,s.o,dr A _⟩,by simp[intOf];omega⟩
     rcases fg.1 f with h|h
     .exact HJ.o j h
     .rw[h];exact g
   .obtain rfl:q=m:=ab;have DR:iH (a q).1 ((lL q).map λj=>(a j).1)=0:=by
     have c:(a q).1∉(lL q).map (λj=>(a j).1):=λb=>by
      obtain⟨j,X,Y⟩:=j3.1 b;exact HJ.o j (dv.1 X) Y
     simp only[iH];rw[if_pos n.o,if_neg c]
    have J:=nV DR;clear DR;by_cases K:bO (a q).2.1 0 (I-1)=kY
    .have k:=nV K;clear K;obtain⟨wo,rfl⟩:=bs wr
     go_wp2_with (first|(go_at_call 43;((with_reducible refine(kH k.o _).m ?_);rintro e w'⟨rfl,rfl⟩)))
     go_loopw [7] (λi wr=>∃r:Nat,r<=q/\i=qr rQ r/\(∀j,j<r->(a j).2.1≠(a q).2.1)/\wr.heap[w.heap.size]?=ek (rP #[qr rQ l,qr rQ p,qu N O P,qu Q R S,qu T I U,qu (ek ⟨u,v,el⟩) d V] 27)/\wr.heap[w.heap.size+1]?=ek (rP #[qt (a q).1,qr rQ (a q).2.1,qr rQ (a q).2.2] 51)/\bL w wr) (λi _=>q-(intOf i).toNat)
     case atStart=>exact⟨0,eF _,rfl,λj f=>absurd f (eI _),o.o,s.o,A⟩
     case round=>
      obtain⟨r,hr,rfl,x,y,z,B⟩:=hrel;have HK:=nV x;have o:=nV y;have s:=nV z;clear x y z;obtain⟨f0,f1,f2,f3,f4,f5⟩:=bf o.o;obtain⟨g0,g1,g2⟩:=aao s.o;by_cases E:r<q
      .have k1:=(B.c (p:=⟨u,v+r*3+1,el⟩) L).t (H.o.HU r (by show r<d;omega));simp only at k1;have i2:(r:Int)<d:=ab;go_wp2
       go_quiet (fail)
       go_wp2
       .have g:(a r).2.1=(a q).2.1:=by
         have t:((a r).2.1==(a q).2.1)=kY:=bo;simpa using t
        have W:(a q).2.1∈(lL q).map (λj=>(a j).2.1):=j3.2 ⟨r,dv.2 E,g⟩;go_ret;exact⟨aC (by simp only[iI];rw[if_pos J.o,k.o,if_pos W];rfl),dr B _⟩
       .have g:(a r).2.1≠(a q).2.1:=by
         have t:((a r).2.1==(a q).2.1)=kS:=bo;simpa using t
        refine⟨⟨r+1,E,by go_num,λj f=>?_,o.o,s.o,dr B _⟩,by simp[intOf];omega⟩
        rcases fg.1 f with h|h
        .exact HK.o j h
        .rw[h];exact g
      .obtain rfl:r=q:=ab;have c:(a r).2.1∉(lL r).map (λj=>(a j).2.1):=λb=>by
        obtain⟨j,X,Y⟩:=j3.1 b;exact HK.o j (dv.1 X) Y
       have F:=nV c;clear c;by_cases hd:bO (a r).2.2 0 12=kY
       .have D:=nV hd;clear hd
        go_wp2_with (first|(go_at_call 43;((with_reducible refine(kH D.o _).m ?_);rintro e w'⟨rfl,rfl⟩)))
        go_ret;exact⟨aC (by simp only[iI];rw[if_pos J.o,k.o,if_neg F.o,D.o];rfl),B⟩
       .have D:=nV (aV hd);clear hd
        go_wp2_with (first|(go_at_call 43;((with_reducible refine(vQ D.o _).m ?_);rintro e w'⟨rfl,rfl⟩)))
        go_ret;exact⟨aC (by simp only[iI];rw[if_pos J.o,k.o,if_neg F.o,D.o];rfl),B⟩
    .have k:=nV (aV K);clear K
     go_wp2_with (first|(go_at_call 43;((with_reducible refine(vQ k.o _).m ?_);rintro e w'⟨rfl,rfl⟩)))
     go_ret;exact⟨aC (by simp only[iI];rw[if_pos J.o,k.o];rfl),A⟩
 .have n:=nV (aV c);clear c;go_enter (fx ao g7),jz
  go_wp2_with (go_at_call 94;refine(Ka n.o _ M).m ?_;rintro e w'⟨rfl,rfl⟩)
  go_ret;exact⟨aC (by simp[iI,iH,n.o]),((li _ _).a (dk _) _).a ar _⟩
def Ey{b low c:Int}(h:eK O b low c=kY)(w:ad):bd PL 50 #[qv #[qr rQ O,qr rQ b],qr rQ low,qr rQ c] w (aO (qq kY) w):=by
 have:=kB O b low c w;rwa[h]at this
def Ez{b low c:Int}(h:eK O b low c=kS)(w:ad):bd PL 50 #[qv #[qr rQ O,qr rQ b],qr rQ low,qr rQ c] w (aO (qq kS) w):=by
 have:=kB O b low c w;rwa[h]at this
def Vi(n a b:Int)(w:ad):bd PL 43 #[qr rQ n,qr rQ a,qr rQ b] w λe w'=>e=r7 (qq (bO n a b))/\w=w':=(rJ n a b w).m λ_ _⟨a,b⟩=>⟨a,b.y⟩
def gx{x1 x2 x3 x4 a b c d e f g:aP}(h:C.heap[q]?=ek (rP #[M,x1,x2,x3,x4,a,b,c,d,e,f,g] R)) :
 mm C ⟨q,0,el⟩=ek M/\mm C ⟨q,1,el⟩=ek x1/\mm C ⟨q,2,el⟩=ek x2/\mm C ⟨q,3,el⟩=ek x3/\mm C ⟨q,4,el⟩=ek x4/\mm C ⟨q,5,el⟩=ek a/\mm C ⟨q,6,el⟩=ek b/\mm C ⟨q,7,el⟩=ek c/\mm C ⟨q,8,el⟩=ek d/\mm C ⟨q,9,el⟩=ek e/\mm C ⟨q,10,el⟩=ek f/\mm C ⟨q,11,el⟩=ek g:=by
 simp[mm,h]
def aap{x1 x2 x3 x4 a b c d e f g:aP}(h:C.heap[q]?=ek (rP #[M,x1,x2,x3,x4,a,b,c,d,e,f,g] R)):mm C ⟨q,0,el⟩=ek M:=(gx h).1
def Xq{w W:ad}{x0 x1 x2 x3 x4 a c d e f g i:aP}{B:Array aP}{t u:ac}(h:W.heap[w.heap.size+1]?=ek (rP #[x0,x1,x2,x3,x4,a,c,d,e,f,g,i] t))(k:W.heap[w.heap.size]?=ek (rP B u))(b:bL w W) :
 mm W ⟨w.heap.size+1,1,el⟩=ek x1/\mm W ⟨w.heap.size+1,3,el⟩=ek x3/\mm W ⟨w.heap.size+1,4,el⟩=ek x4/\(W.heap[w.heap.size]?=ek (rP B u)/\W.heap[w.heap.size+1]?=ek (rP #[x0,x1,x2,x3,x4,a,c,d,e,f,g,i] t)/\bL w W):=
 ⟨(gx h).2.1,(gx h).2.2.2.1,(gx h).2.2.2.2.1,k,h,b⟩
def aaq{W a:ad}{x1 x2 x3 x4 d e f g i j l:aP}{B:Array aP}{u:ac}(m:mm W ⟨C.heap.size+1,1,el⟩=ek x1)(n:mm W ⟨C.heap.size+1,3,el⟩=ek x3)(o:mm W ⟨C.heap.size+1,4,el⟩=ek x4)(k:W.heap[C.heap.size]?=ek (rP B u))(h:W.heap[C.heap.size+1]?=ek (rP #[M,x1,x2,x3,x4,d,e,f,g,i,j,l] R))(b:bL C W)(c:bL W a) :
 mm a ⟨C.heap.size+1,1,el⟩=ek x1/\mm a ⟨C.heap.size+1,3,el⟩=ek x3/\mm a ⟨C.heap.size+1,4,el⟩=ek x4/\(a.heap[C.heap.size]?=ek (rP B u)/\a.heap[C.heap.size+1]?=ek (rP #[M,x1,x2,x3,x4,d,e,f,g,i,j,l] R)/\bL C a):=
 Xq ((c.k _ (getElem?_lt' h)).t h) ((c.k _ (getElem?_lt' k)).t k) (Below.on b c)
def ED(C:CD)(m:Nat)(w:ad)(h:C.At w)(b:m<C.n4)(J0:1<=C.p)(u:C.p<=6):bd PL 69 #[qv C.val,qr rQ (m:Int)] w (aO (qr rQ (gM C.p C.n2 C.n3 C.x4 m)) w):=by
 have H:=nV h;have c0:=h.AD m b;have c1:=h.dB m b 1 ab ab;have c2:=h.dB m b 2 ab ab;have c3:=h.dB m b 3 ab ab;have c4:=h.dB m b 4 ab ab;have c5:=h.dB m b 5 ab ab;have c6:=h.dB m b 6 ab ab;have c7:=h.dB m b 7 ab ab;have c8:=h.dB m b 8 ab ab;have c9:=h.dB m b 9 ab ab;have V:=h.dB m b 10 ab ab;have X:=h.nj m b;have s4:=h.s4 ab;have h4:=h.h4;have Y:=(h.cu m b).1;have Tl:=(h.cu m b).2;have m4:=h.m4;have m2:=h.m2;have m3:=h.m3;clear h;obtain⟨l,p,J,k2,o2,v,K,x2,L,k3,o3,M,N,x3,b4,z,A,o,O,x4,P,k5,o5,Q,R,x5⟩:=C;simp only at c0 c1 c2 c3 c4 c5 c6 c7 c8 c9 V X s4 h4 Y Tl m4 m2 m3 b J0 u ⊢;subst s4;have hmi:(m:Int)<o:=ab;by_cases x:ku (x4 m).name=kY
 .have y:=nV x;clear x;go_enter (fx ao g6),jQ
  go_wp2_with (go_at_call 94;refine(J9 y.o _ Y).m ?_;rintro e w'⟨rfl,rfl⟩)
  go_loopw [6] (λi wr=>∃q:Nat,q<=m/\i=qr rQ q/\(∀j,j<q->(x4 j).name≠(x4 m).name)/\wr.heap[w.heap.size]?=ek (rP #[qr rQ l,qr rQ p,qu J v K,qu L M N,qu (ek ⟨z,A,el⟩) o O,qu P Q R] 27)/\wr.heap[w.heap.size+1]?=ek (rP #[qt (x4 m).name,qr rQ ((x4 m).n 1),qr rQ ((x4 m).n 2),qr rQ ((x4 m).n 3),qr rQ ((x4 m).n 4),qr rQ ((x4 m).n 5),qr rQ ((x4 m).n 6),qr rQ ((x4 m).n 7),qr rQ ((x4 m).n 8),qr rQ ((x4 m).n 9),qr rQ ((x4 m).n 10),qu (x4 m).lb (x4 m).ln (x4 m).lc] 49)/\bL w wr) (λi _=>m-(intOf i).toNat)
  case atStart=>
   refine⟨0,eF _,rfl,λj Z=>absurd Z (eI _),(lm _ _ _ ar).t (au _ _),?_,((li _ _).a (dk _) _).a ar _⟩;have:=au (mG w (rP #[qr rQ l,qr rQ p,qu J v K,qu L M N,qu (ek ⟨z,A,el⟩) o O,qu P Q R] 27)) (rP #[qt (x4 m).name,qr rQ ((x4 m).n 1),qr rQ ((x4 m).n 2),qr rQ ((x4 m).n 3),qr rQ ((x4 m).n 4),qr rQ ((x4 m).n 5),qr rQ ((x4 m).n 6),qr rQ ((x4 m).n 7),qr rQ ((x4 m).n 8),qr rQ ((x4 m).n 9),qr rQ ((x4 m).n 10),qu (x4 m).lb (x4 m).ln (x4 m).lc] 49);simpa using this
  case round=>
   obtain⟨q,hq,rfl,vw,jM,NU,S⟩:=hrel;have HJ:=nV vw;have Ce:=nV jM;have B:=nV NU;clear vw jM NU;obtain⟨f0,f1,f2,f3,f4,f5⟩:=bf Ce.o;have g0:=aap B.o;by_cases qN:q<m
   .have k0:=(S.c (p:=⟨z,A+q*12,el⟩) h4).t (H.o.AD q (by show q<o;omega));simp only at k0;have i2:(q:Int)<o:=ab;go_wp2
    go_quiet (fail)
    go_wp2
    .have he:(x4 q).name=(x4 m).name:=by
      have t:((x4 q).name.toList==(x4 m).name.toList)=kY:=bo;rw[sZ]at t;simpa using t
     have nt:(x4 m).name∈(lL m).map (λj=>(x4 j).name):=j3.2 ⟨q,dv.2 qN,he⟩;go_ret;exact⟨aC (by simp[gM,iH,y.o,nt]),dr S _⟩
    .have he:(x4 q).name≠(x4 m).name:=by
      have t:((x4 q).name.toList==(x4 m).name.toList)=kS:=bo;rw[sZ]at t;simpa using t
     refine⟨⟨q+1,qN,by go_num,λj Z=>?_,Ce.o,B.o,dr S _⟩,by simp[intOf];omega⟩
     rcases fg.1 Z with h|h
     .exact HJ.o j h
     .rw[h];exact he
   .obtain rfl:q=m:=ab;have DR:iH (x4 q).name ((lL q).map λj=>(x4 j).name)=0:=by
     have x:(x4 q).name∉(lL q).map (λj=>(x4 j).name):=λb=>by
      obtain⟨j,h1,h2⟩:=j3.1 b;exact HJ.o j (dv.1 h1) h2
     simp only[iH];rw[if_pos y.o,if_neg x]
    have Xp:=nV DR;clear DR;obtain⟨T,rfl⟩:=bs wr;have c:=S;have g:=Ce;have k:=B;have d:w.heap.size+1<T.heap.size:=getElem?_lt' B.o;have f:w.heap.size<T.heap.size:=ab;obtain⟨a0,a1,a2,a3,a4,a5,a6,a7,a8,a9,zm,zM⟩:=gx B.o;have LB:=nV (λhl=>(H.o.l4 q b hl).1);have FH:0<(x4 q).ln->(x4 q).lk<w.heap.size:=λhl=>(H.o.l4 q b hl).2;by_cases D:eK ((x4 q).n 3) ((x4 q).n 4) (-90) 90=kY
    .have E:=nV D;have Q8 : -90<=(x4 q).n 3/\(x4 q).n 3<=90:=by
      simp only[eK,dd,decide_eq_true_eq]at D;omega
     obtain⟨Q8,hr4⟩:=Q8;clear D
     go_wp2_with (first|(go_at_call 50;((with_reducible refine(Ey E.o _).m ?_);rintro e w1⟨rfl,a⟩;obtain⟨F,I⟩:=cW a;have c:=Below.on c a;have g:=nV ((a.k _ f).t g.o);have k:=nV ((a.k _ d).t k.o);have d:=bT d a.z;have f:=bT f a.z))|(go_at_call 50;refine(kB _ _ _ _ _).m ?_;rintro e w1⟨rfl,a⟩;obtain⟨F,I⟩:=cW a;have c:=Below.on c a;have g:=nV ((a.k _ f).t g.o);have k:=nV ((a.k _ d).t k.o);have d:=bT d a.z;have f:=bT f a.z))
     .have hS:=Xq (W:=w1.drew) k.o g.o c.d;clear F I
      go_region_held3 (λW=>mm W ⟨w.heap.size+1,1,el⟩=ek (qr rQ ((x4 q).n 1))/\mm W ⟨w.heap.size+1,3,el⟩=ek (qr rQ ((x4 q).n 3))/\mm W ⟨w.heap.size+1,4,el⟩=ek (qr rQ ((x4 q).n 4))/\(W.heap[w.heap.size]?=ek (rP #[qr rQ l,qr rQ p,qu J v K,qu L M N,qu (ek ⟨z,A,el⟩) o O,qu P Q R] 27)/\W.heap[w.heap.size+1]?=ek (rP #[qt (x4 q).name,qr rQ ((x4 q).n 1),qr rQ ((x4 q).n 2),qr rQ ((x4 q).n 3),qr rQ ((x4 q).n 4),qr rQ ((x4 q).n 5),qr rQ ((x4 q).n 6),qr rQ ((x4 q).n 7),qr rQ ((x4 q).n 8),qr rQ ((x4 q).n 9),qr rQ ((x4 q).n 10),qu (x4 q).lb (x4 q).ln (x4 q).lc] 49)/\bL w W)) (first|exact hS|(go_split_ands;refine aaq ‹_› ‹_› ‹_› ‹_› ‹_› ‹_› qA)|go_keep) ((go_at_call 95;refine(AI _ _ _ Q8 hr4).m ?_;rintro e w2⟨rfl,qA⟩))
      have hS2:mm w2 ⟨w.heap.size+1,1,el⟩=ek (qr rQ ((x4 q).n 1))/\mm w2 ⟨w.heap.size+1,3,el⟩=ek (qr rQ ((x4 q).n 3))/\mm w2 ⟨w.heap.size+1,4,el⟩=ek (qr rQ ((x4 q).n 4))/\(w2.heap[w.heap.size]?=ek (rP #[qr rQ l,qr rQ p,qu J v K,qu L M N,qu (ek ⟨z,A,el⟩) o O,qu P Q R] 27)/\w2.heap[w.heap.size+1]?=ek (rP #[qt (x4 q).name,qr rQ ((x4 q).n 1),qr rQ ((x4 q).n 2),qr rQ ((x4 q).n 3),qr rQ ((x4 q).n 4),qr rQ ((x4 q).n 5),qr rQ ((x4 q).n 6),qr rQ ((x4 q).n 7),qr rQ ((x4 q).n 8),qr rQ ((x4 q).n 9),qr rQ ((x4 q).n 10),qu (x4 q).lb (x4 q).ln (x4 q).lc] 49)/\bL w w2):=bo;obtain⟨_,_,_,NV,u,c⟩:=hS2;have g:=nV NV;have k:=nV u;have d:w.heap.size+1<w2.heap.size:=getElem?_lt' u;have f:w.heap.size<w2.heap.size:=ab;obtain⟨a0,a1,a2,a3,a4,a5,a6,a7,a8,a9,zm,zM⟩:=gx u;obtain⟨f0,f1,f2,f3,f4,f5⟩:=bf NV;clear NV u
      go_wp2_with (first|(go_at_call 43;refine(Vi _ _ _ _).m ?_;rintro e w'⟨rfl,rfl⟩)|(go_at_call 50;refine(kB _ _ _ _ _).m ?_;rintro e w1⟨rfl,a⟩;obtain⟨F,I⟩:=cW a;have c:=Below.on c a;have g:=nV ((a.k _ f).t g.o);have k:=nV ((a.k _ d).t k.o);have d:=bT d a.z;have f:=bT f a.z)|(go_at_call 96;refine(Vh _ (x4 q).lk (x4 q).lo _ _ _ (x4 q).lane _ Tl m3 (λhl=>bT (FH hl) c.z) LB.o (λi hi=>(c.c (p:=⟨(x4 q).lk,(x4 q).lo+i,el⟩) (FH ab)).t (H.o.J5 q b i hi))).m ?_;rintro e w1⟨rfl,a⟩;have c:=Below.on c a))
      all_goals (
       go_ret;have P1:eK ((x4 q).n 1) ((x4 q).n 2) 1 90=kY:=bo;refine⟨aC ?_,c⟩;simp only[gM];rw[if_pos Xp.o,P1,E.o]
       first
        |(have t:(x4 q).n 1<max ((x4 q).n 4) (-(x4 q).n 3):=by assumption
          rw[if_pos (by rfl),if_pos ab];done)
        |(have t:max ((x4 q).n 4) (-(x4 q).n 3)<=(x4 q).n 1:=by assumption
          rw[if_pos (by rfl),if_neg ab]
          first
           |(have t1:¬bO ((x4 q).n 5) 0 (↑v-1)=kY:=by assumption
             rw[aV t1];rfl)
           |(have t1:bO ((x4 q).n 5) 0 (↑v-1)=kY:=by assumption
             first
              |(have t2:(!bO ((x4 q).n 6) 0 (p-1))=kY:=by assumption
                have r:bO ((x4 q).n 6) 0 (p-1)=kS:=by simpa using t2
                rw[t1,r];rfl)
              |(have t2:(!bO ((x4 q).n 6) 0 (p-1))=kS:=by assumption
                have r:bO ((x4 q).n 6) 0 (p-1)=kY:=by simpa using t2
                rw[t1,r,if_pos (by rfl)]
                first
                 |(have U:¬eK ((x4 q).n 7) ((x4 q).n 8) 1 60=kY:=by assumption
                   rw[aV U];rfl)
                 |(have U:eK ((x4 q).n 7) ((x4 q).n 8) 1 60=kY:=by assumption
                   first
                    |(have t4:(!eK ((x4 q).n 9) ((x4 q).n 10) 0 60)=kY:=by assumption
                      have s:eK ((x4 q).n 9) ((x4 q).n 10) 0 60=kS:=by simpa using t4
                      rw[U,s];rfl)
                    |(have t4:(!eK ((x4 q).n 9) ((x4 q).n 10) 0 60)=kS:=by assumption
                      have s:eK ((x4 q).n 9) ((x4 q).n 10) 0 60=kY:=by simpa using t4
                      rw[U,s,if_pos (by rfl)])))))
       done)
     .go_ret;have t:¬eK ((x4 q).n 1) ((x4 q).n 2) 1 90=kY:=bo;exact⟨aC (by simp only[gM];rw[if_pos Xp.o,aV t];simp),c⟩
    .have E:=nV (aV D);clear D
     go_wp2_with (first|(go_at_call 50;((with_reducible refine(Ez E.o _).m ?_);rintro e w1⟨rfl,a⟩;obtain⟨F,I⟩:=cW a;have c:=Below.on c a;have g:=nV ((a.k _ f).t g.o);have k:=nV ((a.k _ d).t k.o);have d:=bT d a.z;have f:=bT f a.z))|(go_at_call 50;refine(kB _ _ _ _ _).m ?_;rintro e w1⟨rfl,a⟩;obtain⟨F,I⟩:=cW a;have c:=Below.on c a;have g:=nV ((a.k _ f).t g.o);have k:=nV ((a.k _ d).t k.o);have d:=bT d a.z;have f:=bT f a.z))
     all_goals (
      go_ret
      exact⟨aC (by simp only[gM];rw[if_pos Xp.o,E.o];simp),c⟩)
 .have y:=nV (aV x);clear x;go_enter (fx ao g6),jQ
  go_wp2_with (go_at_call 94;refine(Ka y.o _ Y).m ?_;rintro e w'⟨rfl,rfl⟩)
  go_ret;exact⟨aC (by simp[gM,iH,y.o]),((li _ _).a (dk _) _).a ar _⟩
def EE(C:CD)(w:ad)(h:C.At w)(a:C.dP 0=0):bd PL 68 #[qv C.val] w (aO (qr rQ (C.dP 2)) w):=
 Ic _ _ _ _ _ _ _ _ _ _ _ _ h.m3 (cK a).1 (cK a).2 h.h3 h.s3 h.Es h.Et h.Eu
def EF(C:CD)(w:ad)(h:C.At w)(a:C.dP 0=0)(b:C.dP 2=0):bd PL 68 #[qv C.val] w (aO (qr rQ 0) w):=by
 have:=EE C w h a;rwa[b]at this
def aar(C:CD)(m:Nat)(w:ad)(h:C.At w)(a:m<C.n4)(b:1<=C.p)(c:C.p<=6)(d:gM C.p C.n2 C.n3 C.x4 m=0):bd PL 69 #[qv C.val,qr rQ (m:Int)] w (aO (qr rQ 0) w):=by
 have:=ED C m w h a b c;rwa[d]at this
def Rh(C:CD)(m:Nat)(w:ad)(h:C.At w)(a:m<C.n5)(b:iI C.n4 C.x5 m=0):bd PL 70 #[qv C.val,qr rQ (m:Int)] w (aO (qr rQ 0) w):=by
 have:=yx C m w h a;rwa[b]at this
def rK(C:CD)(w:ad)(h:C.At w):bd PL 33 #[qv C.val] w (aO (qr rQ C.cx) w):=by
 have H:=nV h;have m2:=h.m2;have m4:=h.m4;have m5:=h.m5;have S:=h.h2;have S2:=nV h.s2;clear h;by_cases hl:bO C.l 1 999=kY
 case neg=>
  have L:=nV (aV hl);clear hl;go_enter (fx ao fc),j4
  go_wp2_with (first|(go_at_call 43;((with_reducible refine(vQ L.o _).m ?_);rintro e w'⟨rfl,rfl⟩)))
  go_ret;have v:C.dP 0=1:=by simp[CD.dP,jd,L.o]
  exact⟨aC ((cR (m:=0) (λj b=>absurd b (eI _)) ab (by rw[v];decide)).t v),(li _ _).a (dk _) _⟩
 case pos=>
 have L:=nV hl;clear hl;by_cases J:bO C.p 1 6=kY
 case neg=>
  have P:=nV (aV J);clear J;go_enter (fx ao fc),j4
  go_wp2_with (first|(go_at_call 43;((with_reducible refine(kH L.o _).m ?_);rintro e w'⟨rfl,rfl⟩))|(go_at_call 43;((with_reducible refine(vQ P.o _).m ?_);rintro e w'⟨rfl,rfl⟩)))
  go_ret;have v:C.dP 0=1:=by simp[CD.dP,jd,L.o,P.o]
  exact⟨aC ((cR (m:=0) (λj b=>absurd b (eI _)) ab (by rw[v];decide)).t v),(li _ _).a (dk _) _⟩
 case pos=>
 have P:=nV J;clear J;have z0:C.dP 0=0:=by simp[CD.dP,jd,L.o,P.o]
 have n:=nV z0;clear z0;by_cases B:bO C.n2 1 3=kY
 case neg=>
  have y:=nV (aV B);clear B;go_enter (fx ao fc),j4
  go_wp2_with (first|(go_at_call 43;((with_reducible refine(kH L.o _).m ?_);rintro e w'⟨rfl,rfl⟩))|(go_at_call 43;((with_reducible refine(kH P.o _).m ?_);rintro e w'⟨rfl,rfl⟩))|(go_at_call 43;((with_reducible refine(vQ y.o _).m ?_);rintro e w'⟨rfl,rfl⟩)))
  go_ret;have v:C.dP 1=2:=by simp[CD.dP,pq,y.o]
  exact⟨aC ((cR (m:=1) (λj b=>by(obtain rfl:j=0:=by omega);exact n.o) ab (by rw[v];decide)).t v),(li _ _).a (dk _) _⟩
 case pos=>
 have y:=nV B;have vI:0<C.n2:=by simp[bO]at B;omega
 clear B;go_enter (fx ao fc),j4
 go_wp2_with (first|(go_at_call 43;((with_reducible refine(kH L.o _).m ?_);rintro e w'⟨rfl,rfl⟩))|(go_at_call 43;((with_reducible refine(kH P.o _).m ?_);rintro e w'⟨rfl,rfl⟩))|(go_at_call 43;((with_reducible refine(kH y.o _).m ?_);rintro e w'⟨rfl,rfl⟩)))
 have K:=S2.o vI;rw[K];have Kf:=nV K;clear K
 go_loopw [3] (λi wr=>∃q:Nat,q<=C.n2/\i=qr rQ q/\(∀j,j<q->eK (C.x2 j).1 (C.x2 j).2 0 90=kY)/\wr.heap[w.heap.size]?=ek (rP C.val 27)/\bL w wr) (λi _=>C.n2-(intOf i).toNat)
 case atStart=>exact⟨0,eF _,rfl,λj b=>absurd b (eI _),au _ _,(li _ _).a (dk _) _⟩
 case round=>
  obtain⟨q,T,rfl,x,o,c⟩:=hrel;have U:=nV x;have d:=nV o;have f:w.heap.size<wr.heap.size:=getElem?_lt' o;clear x o;obtain⟨V,W,M,X,f4,Y⟩:=bf d.o;by_cases g:q<C.n2
  .have k0:=(c.c (p:=⟨C.k2,C.o2+q*2,el⟩) S).t (H.o.Ep q g);have k1:=(c.c (p:=⟨C.k2,C.o2+q*2+1,el⟩) S).t (H.o.Er q g);have i2:(q:Int)<C.n2:=ab;rw[Kf.o]at M;by_cases hi:eK (C.x2 q).1 (C.x2 q).2 0 90=kY
   .have D:=nV hi;clear hi
    go_wp2_with (go_at_call 50;refine(Ey D.o _).m ?_;rintro e w1⟨rfl,a⟩)
    refine⟨⟨q+1,g,by go_num,λj b=>?_,(a.k _ f).t d.o,Below.on c a⟩,by simp[intOf];omega⟩
    rcases fg.1 b with h|h
    .exact U.o j h
    .rw[h];exact D.o
   .have D:=nV (aV hi);clear hi
    go_wp2_with (go_at_call 50;refine(Ez D.o _).m ?_;rintro e w1⟨rfl,a⟩)
    go_ret;have e1:C.dP 1=1:=by
     have:((lL C.n2).all λi=>eK (C.x2 i).1 (C.x2 i).2 0 90)=kS:=by
      rw[lM];exact⟨q,dv.2 g,by simp[D.o]⟩
     simp[CD.dP,pq,y.o,this]
    exact⟨aC ((cR (m:=1) (λj b=>by(obtain rfl:j=0:=by omega);exact n.o) ab (by rw[e1];decide)).t e1),Below.on c a⟩
  .obtain rfl:q=C.n2:=ab;have z1:C.dP 1=0:=by
    have:((lL C.n2).all λi=>eK (C.x2 i).1 (C.x2 i).2 0 90)=kY:=by
     rw[df];intro j b;exact U.o j (dv.1 b)
    simp[CD.dP,pq,y.o,this]
   have z:=nV z1;clear z1;have k:=c;by_cases E:C.dP 2=0
   case neg=>
    have t:=nV E;have arE:(C.dP 2 != 0)=kY:=by simpa using E
    clear E
    go_wp2_with (go_at_call 68;refine(EE C _ (H.o.below k) n.o).m ?_;rintro e w1⟨rfl,a⟩;obtain⟨Z,lR⟩:=cW a;have k:=Below.on k a;have d:=nV ((a.k _ f).t d.o);have f:=bT f a.z)
    go_ret
    exact⟨aC (cR (m:=2) (λj b=>by
     obtain rfl|rfl:j=0\/j=1:=ab
     .exact n.o
     .exact z.o) ab t.o),k⟩
   case pos=>
   have t:=nV E;clear E;by_cases u:bO C.n4 2 5=kY
   case neg=>
    have A:=nV (aV u);clear u
    go_wp2_with (first|(go_at_call 68;refine(EF C _ (H.o.below k) n.o t.o).m ?_;rintro e w1⟨rfl,a⟩;obtain⟨Z,lR⟩:=cW a;have k:=Below.on k a;have d:=nV ((a.k _ f).t d.o);have f:=bT f a.z)|(go_at_call 43;((with_reducible refine(vQ A.o _).m ?_);rintro e w'⟨rfl,rfl⟩)))
    go_ret;have F:C.dP 3=2:=by simp[CD.dP,kA,A.o]
    exact⟨aC ((cR (m:=3) (λj b=>by
     obtain rfl|rfl|rfl:j=0\/j=1\/j=2:=ab
     .exact n.o
     .exact z.o
     .exact t.o) ab (by rw[F];decide)).t F),k⟩
   case pos=>
   have A:=nV u;clear u
   go_wp2_with (first|(go_at_call 68;refine(EF C _ (H.o.below k) n.o t.o).m ?_;rintro e w1⟨rfl,a⟩;obtain⟨Z,lR⟩:=cW a;have k:=Below.on k a;have d:=nV ((a.k _ f).t d.o);have f:=bT f a.z)|(go_at_call 43;((with_reducible refine(kH A.o _).m ?_);rintro e w'⟨rfl,rfl⟩)))
   have Xi:=cK (l:=C.l) n.o;obtain⟨J0,tL⟩:=Xi;have HX1:=d;have arF:=k;obtain⟨wo,rfl⟩:=bs w1
   go_loopw [5] (λi wr=>∃q:Nat,q<=C.n4/\i=qr rQ q/\(∀j,j<q->gM C.p C.n2 C.n3 C.x4 j=0)/\wr.heap[w.heap.size]?=ek (rP C.val 27)/\bL w wr) (λi _=>C.n4-(intOf i).toNat)
   case atStart=>exact⟨0,eF _,rfl,λj b=>absurd b (eI _),d.o,k⟩
   case round=>
    obtain⟨q,T,rfl,x,o,c⟩:=hrel;have N:=nV x;have d:=nV o;have f:w.heap.size<wr.heap.size:=getElem?_lt' o;clear x o;obtain⟨V,W,M,X,f4,Y⟩:=bf d.o;by_cases g:q<C.n4
    .by_cases r:gM C.p C.n2 C.n3 C.x4 q=0
     .have s:=nV r;clear r
      go_wp2_with (go_at_call 69;refine(aar C q _ (H.o.below c) g J0 tL s.o).m ?_;rintro e w1⟨rfl,a⟩)
      refine⟨⟨q+1,g,by go_num,λj b=>?_,(a.k _ f).t d.o,Below.on c a⟩,by simp[intOf];omega⟩
      rcases fg.1 b with h|h
      .exact N.o j h
      .rw[h];exact s.o
     .have s:=nV r;have Yt:(gM C.p C.n2 C.n3 C.x4 q != 0)=kY:=by simpa using r
      clear r
      go_wp2_with (go_at_call 69;refine(ED C q _ (H.o.below c) g J0 tL).m ?_;rintro e w1⟨rfl,a⟩)
      go_ret;have F:C.dP 3=gM C.p C.n2 C.n3 C.x4 q:=dI A.o N.o g rfl s.o
      exact⟨aC ((cR (m:=3) (λj b=>by
      obtain rfl|rfl|rfl:j=0\/j=1\/j=2:=ab
      .exact n.o
      .exact z.o
      .exact t.o) ab (by rw[F];exact s.o)).t F),Below.on c a⟩
    .obtain rfl:q=C.n4:=ab;have z3:C.dP 3=0:=by
      show kA _ _ _ _ _=0;rw[kA,if_pos A.o];exact cz N.o
     have O:=nV z3;clear z3;by_cases Q:3<C.n5
     .go_wp2;go_ret;have I:C.dP 4=2:=by simp[CD.dP,pE,Q]
      exact⟨aC ((cR (m:=4) (λj b=>by
      obtain rfl|rfl|rfl|rfl:j=0\/j=1\/j=2\/j=3:=ab
      .exact n.o
      .exact z.o
      .exact t.o
      .exact O.o) ab (by rw[I];decide)).t I),c⟩
     .obtain⟨wp,rfl⟩:=bs wr;go_wp2
      go_loopw [7] (λi wr=>∃q:Nat,q<=C.n5/\i=qr rQ q/\(∀j,j<q->iI C.n4 C.x5 j=0)/\wr.heap[w.heap.size]?=ek (rP C.val 27)/\bL w wr) (λi _=>C.n5-(intOf i).toNat)
      case atStart=>exact⟨0,eF _,rfl,λj b=>absurd b (eI _),d.o,c⟩
      case round=>
       obtain⟨q,T,rfl,x,o,c⟩:=hrel;have R:=nV x;have d:=nV o;have f:w.heap.size<wr.heap.size:=getElem?_lt' o;clear x o;obtain⟨V,W,M,X,f4,Y⟩:=bf d.o;by_cases g:q<C.n5
       .by_cases r:iI C.n4 C.x5 q=0
        .have s:=nV r;clear r
         go_wp2_with (go_at_call 70;refine(Rh C q _ (H.o.below c) g s.o).m ?_;rintro e w1⟨rfl,a⟩)
         refine⟨⟨q+1,g,by go_num,λj b=>?_,(a.k _ f).t d.o,Below.on c a⟩,by simp[intOf];omega⟩
         rcases fg.1 b with h|h
         .exact R.o j h
         .rw[h];exact s.o
        .have s:=nV r;have Yt:(iI C.n4 C.x5 q != 0)=kY:=by simpa using r
         clear r
         go_wp2_with (go_at_call 70;refine(yx C q _ (H.o.below c) g).m ?_;rintro e w1⟨rfl,a⟩)
         go_ret;have I:C.dP 4=iI C.n4 C.x5 q:=ic Q R.o g rfl s.o
         exact⟨aC ((cR (m:=4) (λj b=>by
      obtain rfl|rfl|rfl|rfl:j=0\/j=1\/j=2\/j=3:=ab
      .exact n.o
      .exact z.o
      .exact t.o
      .exact O.o) ab (by rw[I];exact s.o)).t I),Below.on c a⟩
       .obtain rfl:q=C.n5:=ab;go_wp2;go_ret;have z4:C.dP 4=0:=by
         show pE _ _ _=0;rw[pE,if_neg Q];exact cz R.o
        refine⟨aC (cz λj b=>?_),c⟩;obtain rfl|rfl|rfl|rfl|rfl:j=0\/j=1\/j=2\/j=3\/j=4:=ab
        .exact n.o
        .exact z.o
        .exact t.o
        .exact O.o
        .exact z4
def EH(k:Y.At C)(h:Y.cx=0):bd PL 33 #[qv Y.val] C (aO (qr rQ 0) C):=by
 have:=rK Y C k;rwa[h]at this
def uE(C:CD)(n:Int)(w:ad)(h:C.At w):bd PL 49 #[qv C.val,qr rQ n] w (aO (qr rQ (C.b6 (bO n 0 (C.n4-1)))) w):=by
 have f:=λw1 j=>h.below (w':=w1) j;have d:=nV f;have m4:=h.m4;clear f h;by_cases hc:C.cx=0
 .have b:=nV hc;clear hc;by_cases hb:bO n 0 (C.n4-1)=kY
  .have c:=nV hb;clear hb;go_enter (fx ao ht),j5
   go_wp2_with (first|(go_at_call 33;refine(EH (d.o _ ((li _ _).a (dk _) _)) b.o).m ?_;rintro e w1⟨rfl,a⟩;obtain⟨g,i⟩:=cW a)|(go_at_call 43;refine(kH c.o _).m ?_;rintro e w'⟨rfl,rfl⟩))
   go_ret;exact⟨aC (by simp[CD.b6,b.o,c.o]),Below.on ((li _ _).a (dk _) _) a⟩
  .have c:=nV (aV hb);clear hb;go_enter (fx ao ht),j5
   go_wp2_with (first|(go_at_call 33;refine(EH (d.o _ ((li _ _).a (dk _) _)) b.o).m ?_;rintro e w1⟨rfl,a⟩;obtain⟨g,i⟩:=cW a)|(go_at_call 43;refine(vQ c.o _).m ?_;rintro e w'⟨rfl,rfl⟩))
   go_ret;exact⟨aC (by simp[CD.b6,b.o,c.o]),Below.on ((li _ _).a (dk _) _) a⟩
 .have b:=nV hc;have k:(C.cx != 0)=kY:=by simpa using hc
  clear hc;go_enter (fx ao ht),j5
  go_wp2_with (go_at_call 33;refine(rK C _ (d.o _ ((li _ _).a (dk _) _))).m ?_;rintro e w1⟨rfl,a⟩;obtain⟨g,i⟩:=cW a)
  go_ret;exact⟨aC (by simp[CD.b6,b.o]),Below.on ((li _ _).a (dk _) _) a⟩
structure CD.Mem(C:CD)(w:ad):Prop where
 h2:C.k2<w.heap.size
 h3:C.k3<w.heap.size
 h4:C.k4<w.heap.size
 h5:C.k5<w.heap.size
 s2:0<C.n2->C.b2=ek ⟨C.k2,C.o2,el⟩
 s3:0<C.n3->C.b3=ek ⟨C.k3,C.o3,el⟩
 s4:0<C.n4->C.b4=ek ⟨C.k4,C.o4,el⟩
 s5:0<C.n5->C.b5=ek ⟨C.k5,C.o5,el⟩
 Ep:∀i,i<C.n2->mm w ⟨C.k2,C.o2+i*2,el⟩=ek (qr rQ (C.x2 i).1)
 Er:∀i,i<C.n2->mm w ⟨C.k2,C.o2+i*2+1,el⟩=ek (qr rQ (C.x2 i).2)
 Es:∀i,i<C.n3->mm w ⟨C.k3,C.o3+i*3,el⟩=ek (qr rQ (C.x3 i).1)
 Et:∀i,i<C.n3->mm w ⟨C.k3,C.o3+i*3+1,el⟩=ek (qr rQ (C.x3 i).2.1)
 Eu:∀i,i<C.n3->mm w ⟨C.k3,C.o3+i*3+2,el⟩=ek (qr rQ (C.x3 i).2.2)
 AD:∀i,i<C.n4->mm w ⟨C.k4,C.o4+i*12,el⟩=ek (qt (C.x4 i).name)
 dB:∀i,i<C.n4->∀j,1<=j->j<=10->mm w ⟨C.k4,C.o4+i*12+j,el⟩=ek (qr rQ ((C.x4 i).n j))
 nj:∀i,i<C.n4->mm w ⟨C.k4,C.o4+i*12+11,el⟩=ek (qu (C.x4 i).lb (C.x4 i).ln (C.x4 i).lc)
 l4:∀i,i<C.n4->0<(C.x4 i).ln->(C.x4 i).lb=ek ⟨(C.x4 i).lk,(C.x4 i).lo,el⟩/\(C.x4 i).lk<w.heap.size
 J5:∀i,i<C.n4->∀j,j<(C.x4 i).ln->mm w ⟨(C.x4 i).lk,(C.x4 i).lo+j,el⟩=ek (qr rQ ((C.x4 i).lane j))
 FI:∀i,i<C.n5->mm w ⟨C.k5,C.o5+i*3,el⟩=ek (qt (C.x5 i).1)
 HU:∀i,i<C.n5->mm w ⟨C.k5,C.o5+i*3+1,el⟩=ek (qr rQ (C.x5 i).2.1)
 J6:∀i,i<C.n5->mm w ⟨C.k5,C.o5+i*3+2,el⟩=ek (qr rQ (C.x5 i).2.2)
def CD.small(C:CD):Bool:=decide (C.n2<=20)&&decide (C.n3<=20)&&decide (C.n4<=20)&&decide (C.n5<=20)&&((lL C.n4).all λi=>decide ((C.x4 i).name.size<=100)&&decide ((C.x4 i).ln<=20))&&((lL C.n5).all λi=>decide ((C.x5 i).1.size<=100))
def CD.At.Ri(h:Y.Mem C)(hs:Y.small=kY):Y.At C:=by
 simp only[CD.small,dd,decide_eq_true_eq,df,dv]at hs;obtain⟨⟨⟨⟨⟨m2,m3⟩,m4⟩,m5⟩,n4⟩,n5⟩:=hs;obtain⟨h2,h3,h4,h5,s2,s3,s4,s5,Ep,Er,Es,Et,Eu,AD,dB,nj,l4,J5,FI,HU,J6⟩:=h;exact⟨m2,m3,m4,m5,h2,h3,h4,h5,s2,s3,s4,s5,Ep,Er,Es,Et,Eu,n4,AD,dB,nj,l4,J5,n5,FI,HU,J6⟩
def AK(C:CD)(w:ad)(h:C.Mem w):bd PL 4 #[qv C.val] w (aO (qq (!C.small)) w):=by
 have H:=nV h;have r:=h.h4;have x:=h.h5;clear h;by_cases hc:C.n2<=20/\C.n3<=20/\C.n4<=20/\C.n5<=20
 case neg=>
  have a:C.small=kS:=by
   cases c:C.small with
   |false=>rfl
   |true=>
    simp only[CD.small,dd,decide_eq_true_eq]at c;omega
  have SM:=nV a;clear a;go_enter (fx ao eP),j6;go_wp2
  any_goals (
   go_ret
   exact⟨by rw[SM.o];rfl,(li _ _).a (dk _) _⟩)
 case pos=>
 obtain⟨m2,m3,m4,m5⟩:=hc;go_enter (fx ao eP),j6;go_wp2;have y:=nV H.o.s4;have z:=nV H.o.s5
 go_loopw [3] (λi wr=>∃q:Nat,q<=C.n4/\i=qr rQ q/\(∀j,j<q->(C.x4 j).name.size<=100/\(C.x4 j).ln<=20)/\wr.heap[w.heap.size]?=ek (rP C.val 27)/\bL w wr) (λi _=>C.n4-(intOf i).toNat)
 case atStart=>exact⟨0,eF _,rfl,λj e=>absurd e (eI _),au _ _,(li _ _).a (dk _) _⟩
 case round=>
  obtain⟨q,c,rfl,k,l,b⟩:=hrel;have s:=nV k;have f:=nV l;clear k l;obtain⟨A,B,D,E,f4,t⟩:=bf f.o;by_cases d:q<C.n4
  .rw[y.o ab]at f4;have k0:=(b.c (p:=⟨C.k4,C.o4+q*12,el⟩) r).t (H.o.AD q d);have k1:=(b.c (p:=⟨C.k4,C.o4+q*12+11,el⟩) r).t (H.o.nj q d);have F:(q:Int)<C.n4:=ab;by_cases g:(C.x4 q).name.size<=100/\(C.x4 q).ln<=20
   .obtain⟨m,n⟩:=g;go_wp2;refine⟨⟨q+1,d,by go_num,λj e=>?_,f.o,b⟩,by simp[intOf];omega⟩
    rcases fg.1 e with h|h
    .exact s.o j h
    .rw[h];exact⟨m,n⟩
   .have a:C.small=kS:=by
     cases c:C.small with
     |false=>rfl
     |true=>
      simp only[CD.small,dd,decide_eq_true_eq,df,dv]at c;exact absurd (c.1.2 q d) g
    have SM:=nV a;have o:100<(C.x4 q).name.size\/20<(C.x4 q).ln:=ab;clear a g;by_cases m:(C.x4 q).name.size<=100
    .have n:20<(C.x4 q).ln:=ab;clear o;go_wp2;go_ret;exact⟨by rw[SM.o];rfl,b⟩
    .clear o;go_wp2;go_ret;exact⟨by rw[SM.o];rfl,b⟩
  .obtain rfl:q=C.n4:=ab;obtain⟨u,rfl⟩:=bs wr;go_wp2
   go_loopw [4] (λi wr=>∃q:Nat,q<=C.n5/\i=qr rQ q/\(∀j,j<q->(C.x5 j).1.size<=100)/\wr.heap[w.heap.size]?=ek (rP C.val 27)/\bL w wr) (λi _=>C.n5-(intOf i).toNat)
   case atStart=>exact⟨0,eF _,rfl,λj e=>absurd e (eI _),f.o,b⟩
   case round=>
    obtain⟨q,c,rfl,k,l,b⟩:=hrel;have v:=nV k;have f:=nV l;clear k l;obtain⟨A,B,D,E,f4,t⟩:=bf f.o;by_cases d:q<C.n5
    .rw[z.o ab]at t;have k0:=(b.c (p:=⟨C.k5,C.o5+q*3,el⟩) x).t (H.o.FI q d);have F:(q:Int)<C.n5:=ab;by_cases g:(C.x5 q).1.size<=100
     .go_wp2;refine⟨⟨q+1,d,by go_num,λj e=>?_,f.o,b⟩,by simp[intOf];omega⟩
      rcases fg.1 e with h|h
      .exact v.o j h
      .rw[h];exact g
     .have a:C.small=kS:=by
       cases c:C.small with
       |false=>rfl
       |true=>
        simp only[CD.small,dd,decide_eq_true_eq,df,dv]at c;exact absurd (c.2 q d) g
      have SM:=nV a;clear a;go_wp2;go_ret;exact⟨by rw[SM.o];rfl,b⟩
    .obtain rfl:q=C.n5:=ab;have a:C.small=kY:=by
      simp only[CD.small,dd,decide_eq_true_eq,df,dv];exact⟨⟨⟨⟨⟨m2,m3⟩,m4⟩,m5⟩,s.o⟩,v.o⟩
     have SM:=nV a;clear a;go_wp2;go_ret;exact⟨by rw[SM.o];rfl,b⟩
open Go.bJ Go.Deep
section
variable {H:Type}{enc:ac×aP->H}{W:ad}
def Td(enc:ac×aP->H)(W:ad)(t:ac)(cs:List aP):Prop:=∃n x,DataW.trod enc eN W 0 (λ_=>kY) kY n t cs=ek x
def pF(cs:List aP)(o:Nat):Prop:=∃m,cs[o]?=ek (qr rQ m)
def Td.int{cs:List aP}(h:Td enc W 3 cs):∃m,cs=[qr rQ m]:=by
 obtain⟨n,x,h⟩:=h;grind[DataW.trod_int,Tryz.underlying3]
def Td.str(h:Td enc W 9 J):∃s,J=[qt s]:=by
 obtain⟨n,x,h⟩:=h;grind[DataW.trod_string,Tryz.underlying9]
def Td.field{t:ac}{fs:Array Field}(a:ed eN t=ek (.struct fs)){cs:List aP}(h:Td enc W t cs){i:Nat}{f:Field}(hi:fs[i]?=ek f):Td enc W f.type ((cs.drop f.offset).take (eg eN f.type)):=by
 obtain⟨n,x,h⟩:=h;obtain⟨xs,m,_,_,_,hl,hf⟩:=DataW.trod_struct a h;have e:=hf i f hi;have b:i<xs.length:=aS;rw[cC b]at e;exact⟨m,_,e⟩
def Td.len{t:ac}{fs:Array Field}(a:ed eN t=ek (.struct fs)){cs:List aP}(h:Td enc W t cs):cs.length=eg eN t:=by
 obtain⟨n,x,h⟩:=h;obtain⟨xs,m,_,_,hl,_⟩:=DataW.trod_struct a h;exact hl
def Kg{cs:List aP}{o n:Nat}{l:List aP}(h:(cs.drop o).take n=l){j:Nat}(a:j<n):cs[o+j]?=l[j]?:=by
 grind
def Rk:eg eN 3=1:=ae
def aat:eg eN 9=1:=ae
def Kh:eg eN 30=2:=ae
def Vl:eg eN 93=3:=ae
def Ki:eg eN 49=12:=ae
def Vm:eg eN 51=3:=ae
theorem Vn:eg eN 28=1:=ae
def Vo:eg eN 27=6:=ae
def Vp:eg eN 22=1:=ae
def Vq:eg eN 23=1:=ae
def Vr:eg eN 24=1:=ae
def Vs:eg eN 25=1:=ae
def kC(h:Td enc W 3 ((J.drop q).take (eg eN 3))):pF J q:=by
 rw[Rk]at h;obtain⟨m,e⟩:=h.int;exact⟨m,by simpa using Kg e (j:=0) ao⟩
def Rm(h:Td enc W 9 ((J.drop q).take (eg eN 9))):∃s,J[q]?=ek (qt s):=by
 rw[aat]at h;obtain⟨m,e⟩:=h.str;exact⟨m,by simpa using Kg e (j:=0) ao⟩
def yy(h:Td enc W 30 J):pF J 0/\pF J 1:=⟨kC (h.field ka (i:=0) rfl),kC (h.field ka (i:=1) rfl)⟩
def wF(h:Td enc W 30 ((J.drop q).take (eg eN 30))):pF J q/\pF J (q+1):=by
 obtain⟨⟨a,c⟩,⟨b,hb⟩⟩:=yy h;rw[Kh]at c hb;exact⟨⟨a,aS⟩,⟨b,aS⟩⟩
def Ie(h:Td enc W 93 J):pF J 0/\pF J 1/\pF J 2:=
 ⟨kC (h.field kc (i:=0) rfl),kC (h.field kc (i:=1) rfl),kC (h.field kc (i:=2) rfl)⟩
def EI(h:Td enc W 51 J):(∃s,J[0]?=ek (qt s))/\pF J 1/\pF J 2:=
 ⟨Rm (h.field kd (i:=0) rfl),kC (h.field kd (i:=1) rfl),kC (h.field kd (i:=2) rfl)⟩
def Ni(h:Td enc W 49 J):(∃s,J[0]?=ek (qt s))/\(∀j,1<=j->j<=10->pF J j)/\∃u,J[11]?=ek u/\Td enc W 28 [u]:=by
 have c:=wF (h.field ke (i:=1) rfl);have d:=wF (h.field ke (i:=2) rfl);have g:=kC (h.field ke (i:=3) rfl);have k:=kC (h.field ke (i:=4) rfl);have e:=wF (h.field ke (i:=5) rfl);have f:=wF (h.field ke (i:=6) rfl);have l:=h.field ke (i:=7) rfl;have hl:=h.len ke;rw[Ki]at hl;refine⟨Rm (h.field ke (i:=0) rfl),λj a b=>?_,?_⟩
 .match j,a,b with
  |1,_,_=>exact c.1
  |2,_,_=>exact c.2
  |3,_,_=>exact d.1
  |4,_,_=>exact d.2
  |5,_,_=>exact g
  |6,_,_=>exact k
  |7,_,_=>exact e.1
  |8,_,_=>exact e.2
  |9,_,_=>exact f.1
  |10,_,_=>exact f.2
  |n+11,_,b=>exact absurd b ab
 .have hd:((J.drop 11).take (eg eN 28))=[J[11]' ab]:=by
   grind[Vn,lW]
  simp_all
theorem aau(k o n:Nat):(⟨k,o,el⟩:bi).add n=⟨k,o+n,el⟩:=by
 unfold ro;grind
def Rn{e d:Nat}(z:ed eN q=ek (.slice e))(hc:eg eN e=d)(hs:0<d)(h:Td enc W q [M]) :
 ∃(b:Option bi)(n c k o:Nat),M=qu b n c/\n<=c/\(b=el\/(∃a,b=ek a/\Sb W a.block)\/(n=0/\c=0))/\(0<c->b=ek ⟨k,o,el⟩)/\k<W.heap.size+1/\
  ∀i,i<n->∃cs,Td enc W e cs/\∀j,j<d->mm W ⟨k,o+i*d+j,el⟩=cs[j]?:=by
 obtain⟨fuel,x,h⟩:=h
 rcases open_slice z h with⟨e1,_⟩|⟨a,len,cap,m,n,D,I,e1,_,hl,_,A,_,r⟩
 .cases e1;exact⟨el,0,0,0,0,rfl,dk _,r8 rfl,λh=>absurd h (dt _),ab,λi hi=>absurd hi (eI _)⟩
 .cases e1;obtain rfl:m=cap:=A;rw[hc]at r
  rcases cd m with g|g
  .subst g;obtain rfl:len=0:=ab;exact⟨ek a,0,0,0,0,rfl,dk _,r9 (r9 ⟨rfl,rfl⟩),λh=>absurd h (dt _),ab,λi hi=>absurd hi (eI _)⟩
  .have cell:∀i,i<m->∃cs,Td enc W e cs/\cs.length=d/\∀j,j<d->mm W (a.add (i*d+j))=cs[j]?:=by
    intro i hi;obtain⟨cs,B,C⟩:=r i hi;obtain⟨_,v,l⟩:=World.cells?_some B;exact⟨cs,⟨n,_,C⟩,v,λj E=>by rw[<-l j E,Deep.add_add]⟩
   obtain⟨p,_,v,l⟩:=cell 0 g;have w:=l 0 hs;rw[cC ab]at w;have f:mm W a=ek p[0]:=by rw[<-w];unfold ro;simp
   obtain⟨k,o,s⟩:=a;have u:s=el:=by
    cases s with
    |none=>rfl
    |some _=>
     unfold mm at f;split at f<;>cases f
   subst u;have y:=(xA (F:=FF) f).2;have J:k<W.heap.size:=by
    obtain⟨_,_,_,hb⟩:=y;exact bE hb
   refine⟨ek ⟨k,o,el⟩,len,m,k,o,rfl,hl,r9 (r8 ⟨_,rfl,y⟩),λ_=>rfl,ab,λi hi=>?_⟩;obtain⟨cs,K,_,L⟩:=cell i ab;grind[aau,n7]
theorem afv(a:C.heap=(cV FF W).heap){o:Nat}(h:mm W ⟨q,o,el⟩=ek M):mm C ⟨q,o,el⟩=ek (rep FF W M):=by
 have e:mm C ⟨q,o,el⟩=mm (cV FF W) ⟨q,o,el⟩:=by unfold mm;rw[a]
 rw[e];exact(xA h).1
def iT(n:Int):rep FF W (qr rQ n)=qr rQ n:=(oy FF W _).int _ _ rfl
def Kj(s:ByteArray):rep FF W (qt s)=qt s:=(oy FF W _).str _ rfl
instance:Inhabited iJ:=⟨⟨ByteArray.empty,λ_=>0,el,0,0,0,0,λ_=>0⟩⟩
def kD{e a:Nat}(d:ed eN q=ek (.slice e))(hc:eg eN e=a)(hs:0<a)(h:Td enc W q [M]) :
 ∃(b:Option bi)(n c k o:Nat),rep FF W M=qu b n c/\(0<n->b=ek ⟨k,o,el⟩)/\k<(cV FF W).heap.size/\
  ∀i,i<n->∃cs,Td enc W e cs/\∀j v,j<a->cs[j]?=ek v->∀w:ad,w.heap=(cV FF W).heap->mm w ⟨k,o+i*a+j,el⟩=ek (rep FF W v):=by
 obtain⟨b,n,c,k,o,rfl,hl,hb,l,f,g⟩:=Rn d hc hs h;obtain⟨b',e,m⟩:=(oy FF W (qu b n c)).sl b n c rfl hb;refine⟨b',n,c,k,o,e,λh=>aS,by rw[mT];exact f,λi hi=>?_⟩;obtain⟨cs,p,u⟩:=g i hi;grind[afv]
def EJ{cs:List aP}(h:Td enc W 27 cs):∃C:CD,C.val=(cs.map (rep FF W)).toArray/\∀w:ad,w.heap=(cV FF W).heap->C.Mem w:=by
 have hl:=h.len kf;rw[Vo]at hl;obtain⟨c0,c1,B,c3,D,E,rfl⟩:∃a b c d e f,cs=[a,b,c,d,e,f]:=by
  match cs,hl with
  |[a,b,c,d,e,f],_=>grind
 obtain⟨l,K⟩:=kC (h.field kf (i:=0) rfl);obtain⟨p,L⟩:=kC (h.field kf (i:=1) rfl);have Y:Td enc W 22 [B]:=by
  have:Td enc W 22 (([c0,c1,B,c3,D,E].drop 2).take (eg eN 22)):=h.field kf (i:=2) rfl;rw[Vp]at this;exact this
 have Z:Td enc W 23 [c3]:=by
  have:Td enc W 23 (([c0,c1,B,c3,D,E].drop 3).take (eg eN 23)):=h.field kf (i:=3) rfl;rw[Vq]at this;exact this
 have s4:Td enc W 24 [D]:=by
  have:Td enc W 24 (([c0,c1,B,c3,D,E].drop 4).take (eg eN 24)):=h.field kf (i:=4) rfl;rw[Vr]at this;exact this
 have s5:Td enc W 25 [E]:=by
  have:Td enc W 25 (([c0,c1,B,c3,D,E].drop 5).take (eg eN 25)):=h.field kf (i:=5) rfl;rw[Vs]at this;exact this
 obtain rfl:c0=qr rQ l:=by simpa using K
 obtain rfl:c1=qr rQ p:=by simpa using L
 obtain⟨b2,S,q2,k2,F,e2,p2,h2,a2⟩:=kD Tryz.underlying22 Kh ao Y;obtain⟨b3,T,q3,k3,s,e3,p3,h3,a3⟩:=kD Tryz.underlying23 Vl ao Z;obtain⟨b4,U,q4,t,v,e4,p4,h4,a4⟩:=kD Tryz.underlying24 Ki ao s4;obtain⟨b5,V,q5,y,z,e5,p5,h5,a5⟩:=kD Tryz.underlying25 Vm ao s5;obtain⟨x2,X⟩:∃x2:Nat->Int×Int,∀i,i<S->∀w:ad,w.heap=(cV FF W).heap->mm w ⟨k2,F+i*2,el⟩=ek (qr rQ (x2 i).1)/\mm w ⟨k2,F+i*2+1,el⟩=ek (qr rQ (x2 i).2):=by
  refine rr (p:=λi(x:Int×Int)=>∀w:ad,w.heap=(cV FF W).heap->mm w ⟨k2,F+i*2,el⟩=ek (qr rQ x.1)/\mm w ⟨k2,F+i*2+1,el⟩=ek (qr rQ x.2)) λi hi=>?_;obtain⟨cs,r,q⟩:=a2 i hi;obtain⟨⟨a,A⟩,⟨b,hb⟩⟩:=yy r;exact⟨(a,b),λw g=>⟨by have:=q 0 _ ao A w g;rwa[iT]at this,by have:=q 1 _ ao hb w g;rwa[iT]at this⟩⟩
 obtain⟨x3,M⟩:∃x3:Nat->Int×Int×Int,∀i,i<T->∀w:ad,w.heap=(cV FF W).heap->mm w ⟨k3,s+i*3,el⟩=ek (qr rQ (x3 i).1)/\mm w ⟨k3,s+i*3+1,el⟩=ek (qr rQ (x3 i).2.1)/\mm w ⟨k3,s+i*3+2,el⟩=ek (qr rQ (x3 i).2.2):=by
  refine rr (p:=λi(x:Int×Int×Int)=>∀w:ad,w.heap=(cV FF W).heap->mm w ⟨k3,s+i*3,el⟩=ek (qr rQ x.1)/\mm w ⟨k3,s+i*3+1,el⟩=ek (qr rQ x.2.1)/\mm w ⟨k3,s+i*3+2,el⟩=ek (qr rQ x.2.2)) λi hi=>?_;obtain⟨cs,r,q⟩:=a3 i hi;obtain⟨⟨a,A⟩,⟨b,hb⟩,⟨c,hc⟩⟩:=Ie r;exact⟨(a,b,c),λw g=>⟨by have:=q 0 _ ao A w g;rwa[iT]at this,by have:=q 1 _ ao hb w g;rwa[iT]at this,by have:=q 2 _ ao hc w g;rwa[iT]at this⟩⟩
 obtain⟨I,N⟩:∃I:Nat->ByteArray×Int×Int,∀i,i<V->∀w:ad,w.heap=(cV FF W).heap->mm w ⟨y,z+i*3,el⟩=ek (qt (I i).1)/\mm w ⟨y,z+i*3+1,el⟩=ek (qr rQ (I i).2.1)/\mm w ⟨y,z+i*3+2,el⟩=ek (qr rQ (I i).2.2):=by
  refine rr (p:=λi(x:ByteArray×Int×Int)=>∀w:ad,w.heap=(cV FF W).heap->mm w ⟨y,z+i*3,el⟩=ek (qt x.1)/\mm w ⟨y,z+i*3+1,el⟩=ek (qr rQ x.2.1)/\mm w ⟨y,z+i*3+2,el⟩=ek (qr rQ x.2.2)) λi hi=>?_;obtain⟨cs,r,q⟩:=a5 i hi;obtain⟨⟨a,A⟩,⟨b,hb⟩,⟨c,hc⟩⟩:=EI r;exact⟨(a,b,c),λw g=>⟨by have:=q 0 _ ao A w g;rwa[Kj]at this,by have:=q 1 _ ao hb w g;rwa[iT]at this,by have:=q 2 _ ao hc w g;rwa[iT]at this⟩⟩
 obtain⟨x4,f4⟩:∃x4:Nat->iJ,∀i,i<U->∀w:ad,w.heap=(cV FF W).heap->mm w ⟨t,v+i*12,el⟩=ek (qt (x4 i).name)/\(∀j,1<=j->j<=10->mm w ⟨t,v+i*12+j,el⟩=ek (qr rQ ((x4 i).n j)))/\
  mm w ⟨t,v+i*12+11,el⟩=ek (qu (x4 i).lb (x4 i).ln (x4 i).lc)/\(0<(x4 i).ln->(x4 i).lb=ek ⟨(x4 i).lk,(x4 i).lo,el⟩/\(x4 i).lk<w.heap.size)/\∀j,j<(x4 i).ln->mm w ⟨(x4 i).lk,(x4 i).lo+j,el⟩=ek (qr rQ ((x4 i).lane j)):=by
  refine rr (p:=λi(x:iJ)=>∀w:ad,w.heap=(cV FF W).heap->mm w ⟨t,v+i*12,el⟩=ek (qt x.name)/\(∀j,1<=j->j<=10->mm w ⟨t,v+i*12+j,el⟩=ek (qr rQ (x.n j)))/\
   mm w ⟨t,v+i*12+11,el⟩=ek (qu x.lb x.ln x.lc)/\(0<x.ln->x.lb=ek ⟨x.lk,x.lo,el⟩/\x.lk<w.heap.size)/\∀j,j<x.ln->mm w ⟨x.lk,x.lo+j,el⟩=ek (qr rQ (x.lane j))) λi hi=>?_
  obtain⟨cs,r,q⟩:=a4 i hi;obtain⟨⟨a,A⟩,hn,⟨u,hu,J4⟩⟩:=Ni r;obtain⟨O,P⟩:∃O:Nat->Int,∀j,j<11->1<=j->cs[j]?=ek (qr rQ (O j)):=rr (p:=λj(m:Int)=>1<=j->cs[j]?=ek (qr rQ m)) λj J=>by
   by_cases h1:1<=j
   .obtain⟨m,hm⟩:=hn j h1 ab;exact⟨m,λ_=>hm⟩
   grind
  obtain⟨b,n,c,k,o,e,pz,hk,al⟩:=kD Tryz.underlying28 Rk ao J4;obtain⟨Q,R⟩:∃Q:Nat->Int,∀j,j<n->∀w:ad,w.heap=(cV FF W).heap->mm w ⟨k,o+j,el⟩=ek (qr rQ (Q j)):=rr (p:=λj(m:Int)=>∀w:ad,w.heap=(cV FF W).heap->mm w ⟨k,o+j,el⟩=ek (qr rQ m)) λj J=>by
   obtain⟨cs,r,q⟩:=al j J;obtain⟨m,rfl⟩:=r.int;exact⟨m,λw g=>by have:=q 0 _ ao rfl w g;rw[iT,jR]at this;exact this⟩
  exact⟨⟨a,O,b,n,c,k,o,Q⟩,λw g=>⟨by have:=q 0 _ ao A w g;rwa[Kj]at this,λj j1 j2=>by have:=q j _ ab (P j ab j1) w g;rwa[iT]at this,
   by grind,λh=>⟨pz h,by rw[g];exact hk⟩,λj J=>R j J w g⟩⟩
 refine⟨⟨l,p,b2,k2,F,S,q2,x2,b3,k3,s,T,q3,x3,b4,t,v,U,q4,x4,b5,y,z,V,q5,I⟩,?_,λw g=>?_⟩
 .simp only[hZ,kh,iT,e2,e3,e4,e5]
 .exact⟨by rw[g];exact h2,by rw[g];exact h3,by rw[g];exact h4,by rw[g];exact h5,p2,p3,p4,p5,λi hi=>(X i hi w g).1,λi hi=>(X i hi w g).2,λi hi=>(M i hi w g).1,λi hi=>(M i hi w g).2.1,λi hi=>(M i hi w g).2.2,
   λi hi=>(f4 i hi w g).1,λi hi=>(f4 i hi w g).2.1,λi hi=>(f4 i hi w g).2.2.1,λi hi=>(f4 i hi w g).2.2.2.1,λi hi=>(f4 i hi w g).2.2.2.2,λi hi=>(N i hi w g).1,λi hi=>(N i hi w g).2.1,λi hi=>(N i hi w g).2.2⟩
end
end Go.Proofs
namespace Go
variable {O:bv}{C J:Nat}{L:Nat->Bool}{q:(Nat->aP)->Act}{M:List bv}{Y:aP->ad->Prop}{R:ad}
section
variable {P:aa}{ops:Array bv}
def Region.fZ(ops:Array bv)(i:Nat):Option Tmp:=(ops[i]?).bind (·.dst)
def cS(ops:Array bv)(vs:Nat->aP):List Nat->Act->Act
 |[],a=>a
 |i::l,a=>cS ops vs l (a.put (Region.fZ ops i) (vs i))
def EK(a:Act)(d:Option Tmp)(v:aP):(a.put d v).tmps.size=a.tmps.size:=by
 cases d<;>simp[Act.put]
def put_defers(a:Act)(d:Option Tmp)(v:aP):(a.put d v).defers=a.defers:=by
 cases d<;>rfl
def Cg(a:Act)(d:Option Tmp)(v:aP)(t:Nat):(a.put d v).tmps[t]?=if d=ek t/\t<a.tmps.size then ek v else a.tmps[t]?:=by
 cases d with
 |none=>simp[Act.put]
 |some d=>
  simp only[Act.put,eh,kj];grind
def uF(vs:Nat->aP):∀(l:List Nat)(a:Act),(cS ops vs l a).tmps.size=a.tmps.size
 |[],_=>rfl
 |i::l,a=>by rw[cS,uF vs l,EK]
def pG(vs:Nat->aP):∀(l:List Nat)(a:Act),(cS ops vs l a).defers=a.defers
 |[],_=>rfl
 |i::l,a=>by rw[cS,pG vs l,put_defers]
def gI(vs:Nat->aP)(t:Nat):∀(l:List Nat)(a:Act),(∀j∈l,Region.fZ ops j≠ek t)->(cS ops vs l a).tmps[t]?=a.tmps[t]?
 |[],_,_=>rfl
 |i::l,a,h=>by rw[cS,gI vs t l _ λj b=>h j (o9 _ b),Cg,if_neg λe=>h i (pr ..) e.1]
def gJ(vs:Nat->aP)(t j:Nat)(hd:∀k,Region.fZ ops k=ek t->k=j)(b:Region.fZ ops j=ek t):∀(l:List Nat)(a:Act),j∈l->(cS ops vs l a).tmps[t]?=if t<a.tmps.size then ek (vs j) else el
 |i::l,a,h=>by
  rw[cS];by_cases hl:j∈l
  .rw[gJ vs t j hd b l _ hl,EK]
  .obtain rfl:i=j:=aS;rw[gI vs t l _ λk c e=>hl (hd k e▸c),Cg,b];grind
def Oper.dz(o:bv):Array Edge:=o.after.filter (rs .any)
theorem cH{e:Edge}:e∈O.dz↔e∈O.after/\rs .any e=kY:=by simp[Oper.dz]
def qf(P:aa)(K:aP->ad->Prop):Result Next->Prop
 |qi (rS v) w=>K v w
 |qi r6 w=>K undef w
 |qi (rR f args) w=>bd P f args w λe w'=>∃v,e=r7 v/\K v w'
 |_=>False
@[go_sem] def Tm(K:aP->ad->Prop)(v:aP)(w:ad):qf P K (qi (rS v) w)=K v w:=rfl
@[go_sem] def Vt(K:aP->ad->Prop)(w:ad):qf P K (qi r6 w)=K undef w:=rfl
@[go_sem] def Tn(K:aP->ad->Prop)(f:aJ)(args:Array aP)(w:ad):qf P K (qi (rR f args) w)=bd P f args w λe w'=>∃v,e=r7 v/\K v w':=rfl
@[go_sem] def fC(P:aa)(ops:Array bv)(K:aP->ad->Prop)(o:bv)(b:Act)(w:ad):Prop:=
 if rt o (co ops b.tmps) then qf P K ((ch b.eval o).run P w) else K undef w
def Region.Ig(ops:Array bv):Bool:=
 (lL ops.size).all λi=>match ops[i]? with
  |none=>kY
  |some o=>(match o.op with | .select ..=>kS|_=>kY)&&(o.dz.toList.all λe=>decide (e.on<i)&&rs .any e) &&
   (lL ops.size).all λj=>match Region.fZ ops j with
    |none=>kY
    |some d=>(j==i||o.dst != ek d)&&(!(o.looksAt ops).contains d||o.dz.toList.any λe=>e.on==j)
structure tf(ops:Array bv):Prop where
 sel:∀(i:Nat)(o:bv),ops[i]?=ek o->∀cs b,o.op≠Op.select cs b
 edge:∀(i:Nat)(o:bv),ops[i]?=ek o->∀e∈o.dz,e.on<i/\rs .any e=kY
 one:∀i j t,Region.fZ ops i=ek t->Region.fZ ops j=ek t->i=j
 look:∀(i:Nat)(o:bv),ops[i]?=ek o->∀j t,Region.fZ ops j=ek t->t∈o.looksAt ops->∃e∈o.dz,e.on=j
def yz(h:Region.fZ ops J=ek C):J<ops.size:=by
 rcases n8 J ops.size with b|b
 .exact b
 .simp[Region.fZ,eq b]at h
def Ro(h:Region.Ig ops=kY):tf ops:=by
 have key:∀(i:Nat)(o:bv),ops[i]?=ek o->(match o.op with | .select ..=>kS|_=>kY)=kY/\(∀e∈o.dz,e.on<i/\rs .any e=kY)/\∀j,j<ops.size->∀d,Region.fZ ops j=ek d->(j=i\/o.dst≠ek d)/\(d∈o.looksAt ops->∃e∈o.dz,e.on=j):=by
  intro i o c;have hi:i<ops.size:=(bR.1 c).1;simp only[Region.Ig,df,dv]at h;grind
 refine⟨λi o c cs b e=>?_,λi o c=>(key i o c).2.1,λi j t hi f=>?_,λi o c j t f hl=>((key i o c).2.2 j (yz f) t f).2 hl⟩
 .grind
 .have g:=yz hi;have c:ops[i]?=ek ops[i]:=eu g;have hd:ops[i].dst=ek t:=by simpa[Region.fZ,c]using hi
  rcases((key i _ c).2.2 j (yz f) t f).1 with e|e
  .exact e.y
  .exact absurd hd e
section
variable {C:ad->Prop}{Le:ad->ad->Prop}{Φ:Nat->(Nat->aP)->ad->Prop}{a:Act}{Q:bC->Act->ad->Prop}
def upd(vs:Nat->aP)(i:Nat)(v:aP):Nat->aP:=λj=>if j=i then v else vs j
def cO(ops:Array bv)(listed:Array Bool):List Nat:=(lL ops.size).filter λi=>listed.getD i kY
def AL{o:bv}{i:Nat}(c:tf ops)(f:ops[i]?=ek o){l:List Nat}(hl:∀e∈o.dz,e.on∈l)(vs:Nat->aP)(t:Nat)(m:t∈o.looksAt ops) :
 (cS ops vs l a).tmps[t]?=(cS ops vs (lL i) a).tmps[t]?:=by
 by_cases h:∃j,Region.fZ ops j=ek t
 .obtain⟨j,b⟩:=h;obtain⟨e,g,rfl⟩:=c.look i o f j t b m;rw[gJ vs t e.on (λk d=>c.one _ _ _ d b) b l a (hl e g),gJ vs t e.on (λk d=>c.one _ _ _ d b) b _ a (dv.2 (c.edge i o f e g).1)]
 .rw[gI vs t l a λj _ e=>h ⟨j,e⟩,gI vs t _ a λj _ e=>h ⟨j,e⟩]
def Nj{o:bv}{i:Nat}(b:tf ops)(c:ops[i]?=ek o){l:List Nat}(hl:∀e∈o.dz,e.on∈l)(vs:Nat->aP) :
 ch (cS ops vs l a).eval o=ch (cS ops vs (lL i) a).eval o:=by
 refine ct o (b.sel i o c) λx d=>?_
 cases x with
 |tmp t=>
  have f:t∈o.looksAt ops:=l1 _ (List.mem_filterMap.2 ⟨.tmp t,by simpa using d,rfl⟩);simp only[Act.eval,bM,AL b c hl vs t f]
 |_=>rfl
def EL{o:bv}{i:Nat}(b:tf ops)(c:ops[i]?=ek o){l:List Nat}(hl:∀e∈o.dz,e.on∈l)(vs:Nat->aP) :
 rt o (co ops (cS ops vs l a).tmps)=rt o (co ops (cS ops vs (lL i) a).tmps):=by
 unfold rt
 cases hg:o.guard with
 |none=>rfl
 |some d=>
  obtain⟨g,want⟩:=d;have hy:co ops (cS ops vs l a).tmps g=co ops (cS ops vs (lL i) a).tmps g:=by
   unfold co
   cases f:(ops[g]?).bind (·.dst) with
   |none=>rfl
   |some t=>
    have:=AL (a:=a) b c hl vs t (by simp[Oper.looksAt,hg,f]);grind
  simp only[hy]
def Rp(g:tf ops)(q:ops[J]?=ek O){listed:Array Bool}(hs:listed.size=ops.size)(s:listed.getD J kY=kS)(vs:Nat->aP)(v:aP) :
 (cS ops vs (cO ops listed) a).put O.dst v=cS ops (upd vs J v) (cO ops (em listed J kY)) a:=by
 have hi:J<ops.size:=(bR.1 q).1;have l:Region.fZ ops J=O.dst:=by simp[Region.fZ,q]
 have r:∀j,j∈cO ops (em listed J kY)↔j=J\/j∈cO ops listed:=by
  intro j;simp only[cO,lu,dv];by_cases e:J=j
  .subst e;simp[hi,hs]
  .have:(em listed J kY).getD j kY=listed.getD j kY:=bp;grind
 have u:J∉cO ops listed:=λh=>by
  have:=(lu.1 h).2;rw[s]at this;cases this
 obtain⟨x,m⟩:=bs ((cS ops vs (cO ops listed) a).put O.dst v);obtain⟨y,hy⟩:=bs (cS ops (upd vs J v) (cO ops (em listed J kY)) a);have z:x.defers=y.defers:=by rw[m,hy,put_defers,pG,pG]
 have A:x.tmps=y.tmps:=by
  apply eV;intro t;rw[m,hy,Cg,uF];by_cases n:O.dst=ek t
  .have d:Region.fZ ops J=ek t:=l.t n;rw[gJ _ t J (λk f=>g.one _ _ _ f d) d _ a ((r J).2 (r8 rfl)),upd,if_pos rfl];by_cases p:t<a.tmps.size
   .simp[n,p]
   .rw[if_neg λe=>p e.2,if_neg p,eq (by rw[uF];omega)]
  .rw[if_neg λe=>n e.1];by_cases h:∃j,Region.fZ ops j=ek t/\j∈cO ops listed
   .obtain⟨j,b,c⟩:=h;have w:j≠J:=λe=>u (e▸c);rw[gJ _ t j (λk f=>g.one _ _ _ f b) b _ a c,gJ _ t j (λk f=>g.one _ _ _ f b) b _ a ((r j).2 (r9 c)),upd,if_neg w]
   .rw[gI _ t _ a λj b e=>h ⟨j,e,b⟩,gI _ t _ a λj b e=>?_];grind
 rw[<-m,<-hy];obtain⟨B,D⟩:=x;simp_all
section
variable (P:aa)(ops:Array bv)(C:ad->Prop)(Le:ad->ad->Prop)(E:Nat->Bool)(Φ:Nat->(Nat->aP)->ad->Prop)(Q:bC->Act->ad->Prop)
def cL:Nat->List bv->((Nat->aP)->Act)->Prop
 |i,[],b=>∀vs W,C W->(∀j,j<i->E j=kS->Φ j vs W)->Q sd (b vs) W
 |i,o::l,b=>@la (λ_=>Prop)
  ((∀vs W,C W->(∀e∈o.dz,E e.on=kS->Φ e.on vs W)->fC P ops (λu c=>C c/\Le W c/\Φ i (upd vs i u) c) o (b vs) W)/\cL (i+1) l λvs=>(b vs).put o.dst (vs i))
  (∃v,(∀vs W,C W->(∀e∈o.dz,E e.on=kS->Φ e.on vs W)->fC P ops (λu c=>u=v/\C c/\Le W c) o (b vs) W)/\cL (i+1) l λvs=>(b vs).put o.dst v) (E i)
end
def cP(h:∀vs W,C W->(∀j,j<J->L j=kS->Φ j vs W)->Q sd (q vs) W):cL P ops C Le L Φ Q J [] q:=h
def EM(v:aP)(hE:L J=kY)
 (h:∀vs W,C W->(∀e∈O.dz,L e.on=kS->Φ e.on vs W)->fC P ops (λu c=>u=v/\C c/\Le W c) O (q vs) W) (d:cL P ops C Le L Φ Q (J+1) M λvs=>(q vs).put O.dst v):cL P ops C Le L Φ Q J (O::M) q:=by
 rw[cL,hE];exact⟨v,h,d⟩
def EN(hE:L J=kS)
 (h:∀vs W,C W->(∀e∈O.dz,L e.on=kS->Φ e.on vs W)->fC P ops (λu c=>C c/\Le W c/\Φ J (upd vs J u) c) O (q vs) W) (d:cL P ops C Le L Φ Q (J+1) M λvs=>(q vs).put O.dst (vs J)):cL P ops C Le L Φ Q J (O::M) q:=by
 rw[cL,hE];exact⟨h,d⟩
def aY{E:Nat->Bool}{i:Nat}{o:bv}{l:List bv}{b b':(Nat->aP)->Act}(v:aP)(hE:E i=kY)
 (h:∀vs W,C W->(∀e∈o.dz,E e.on=kS->Φ e.on vs W)->fC P ops (λu c=>u=v/\C c/\Le W c) o (b vs) W) (hb:∀vs,(b vs).put o.dst v=b' vs) (d:cL P ops C Le E Φ Q (i+1) l b'):cL P ops C Le E Φ Q i (o::l) b:=
 EM v hE h ((funext hb:(λvs=>(b vs).put o.dst v)=b')▸d)
def eH{b':(Nat->aP)->Act}(hE:L J=kS)
 (h:∀vs W,C W->(∀e∈O.dz,L e.on=kS->Φ e.on vs W)->fC P ops (λu c=>C c/\Le W c/\Φ J (upd vs J u) c) O (q vs) W) (hb:∀vs,(q vs).put O.dst (vs J)=b' vs) (d:cL P ops C Le L Φ Q (J+1) M b'):cL P ops C Le L Φ Q J (O::M) q:=
 EN hE h ((funext hb:(λvs=>(q vs).put O.dst (vs J))=b')▸d)
def E0{p:Prop}(h:p:=by intro vs;simp only[Act.put,List.setIfInBounds_toArray,List.set_cons_zero,List.set_cons_succ];rfl):p:=h
def uG(vs:Nat->aP)(i:Nat):∀(l:List Nat)(a:Act),cS ops vs (l++[i]) a=(cS ops vs l a).put (Region.fZ ops i) (vs i)
 |[],_=>rfl
 |j::l,a=>by simp only[fY,cS];exact uG vs i l _
def yA{vs b:Nat->aP}:∀(l:List Nat)(a:Act),(∀j∈l,vs j=b j)->cS ops vs l a=cS ops b l a
 |[],_,_=>rfl
 |j::l,a,h=>by simp only[cS];rw[h j (pr ..)];exact yA l _ λk c=>h k (o9 _ c)
def vR(E:Nat->Bool)(V vs:Nat->aP):Nat->aP:=λj=>if E j then V j else vs j
def Ch{d:aP->ad->Prop}(h:∀v W,Y v W->d v W):∀{r:Result Next},qf P Y r->qf P d r:=by
 intro r H
 match r,H with
 |qi (rS v) b,H=>exact h v b H
 |qi r6 b,H=>exact h undef b H
 |qi (rR f args) b,H=>exact Calls.mono H λe c⟨v,g,i⟩=>⟨v,g,h v c i⟩
def nu{c:aP->ad->Prop}(h:∀v R,Y v R->c v R){b:Act}(H:fC P ops Y O b R):fC P ops c O b R:=by
 unfold fC at *;split
 .rename_i d;rw[if_pos d]at H;exact Ch h H
 grind
def EO{o:bv}{i:Nat}(c:tf ops)(g:ops[i]?=ek o){vs d:Nat->aP}(hv:∀e∈o.dz,vs e.on=d e.on)(t:Nat)(n:t∈o.looksAt ops) :
 (cS ops vs (lL i) a).tmps[t]?=(cS ops d (lL i) a).tmps[t]?:=by
 by_cases h:∃j,Region.fZ ops j=ek t
 .obtain⟨j,b⟩:=h;obtain⟨e,l,rfl⟩:=c.look i o g j t b n;have m:=dv.2 (c.edge i o g e l).1;rw[gJ vs t e.on (λk f=>c.one _ _ _ f b) b _ a m,gJ d t e.on (λk f=>c.one _ _ _ f b) b _ a m,hv e l]
 .rw[gI vs t _ a λj _ e=>h ⟨j,e⟩,gI d t _ a λj _ e=>h ⟨j,e⟩]
def Nk(c:tf ops)(d:ops[J]?=ek O){vs b:Nat->aP}(hv:∀e∈O.dz,vs e.on=b e.on)
 (H:fC P ops Y O (cS ops vs (lL J) a) R):fC P ops Y O (cS ops b (lL J) a) R:=by
 have e1:ch (cS ops b (lL J) a).eval O=ch (cS ops vs (lL J) a).eval O:=by
  refine ct O (c.sel J O d) λx h=>?_
  cases x with
  |tmp t=>
   have f:t∈O.looksAt ops:=l1 _ (List.mem_filterMap.2 ⟨.tmp t,by simpa using h,rfl⟩);simp only[Act.eval,bM,EO (a:=a) c d hv t f]
  |_=>rfl
 have j:rt O (co ops (cS ops b (lL J) a).tmps)=rt O (co ops (cS ops vs (lL J) a).tmps):=by
  unfold rt
  cases hg:O.guard with
  |none=>rfl
  |some k=>
   obtain⟨g,want⟩:=k;have hy:co ops (cS ops b (lL J) a).tmps g=co ops (cS ops vs (lL J) a).tmps g:=by
    unfold co
    cases f:(ops[g]?).bind (·.dst) with
    |none=>rfl
    |some t=>
     have:=EO (a:=a) c d hv t (by simp[Oper.looksAt,hg,f]);grind
   simp only[hy]
 unfold fC at H ⊢;rw[e1,j];exact H
end
end
section
variable {P:aa}{ops:Array bv}{C:ad->Prop}{Le:ad->ad->Prop}{Φ:Nat->(Nat->aP)->ad->Prop}{a:Act}{Q:bC->Act->ad->Prop}
def Region.Ih(ops:Array bv)(i:Nat):List Nat:=match ops[i]? with
 |none=>[]
 |some o=>o.dz.toList.map Edge.on
def Region.Ci(ops:Array bv):Nat->List Nat->List Nat
 |0,s=>s
 |f+1,s=>Region.Ci ops f (s++s.flatMap (Region.Ih ops)).eraseDups
def AM(p:Nat->Prop)(b:∀i,p i->∀j∈Region.Ih ops i,p j):∀(f:Nat)(s:List Nat),(∀i∈s,p i)->∀i∈Region.Ci ops f s,p i
 |0,_,h=>h
 |f+1,s,h=>AM p b f _ λi hi=>by
  grind [List.mem_eraseDups]
structure Late(ops:Array bv)(k:Nat):Prop where
 all:∀(i:Nat)(o:bv),ops[i]?=ek o->k<=i->∀j,j<k->j∈Region.Ci ops 4 (Region.Ih ops i)
 one:∀(i:Nat)(o:bv),ops[i]?=ek o->k<i->∃e∈o.dz,e.on+1=i
def Region.Kk(ops:Array bv)(k:Nat):Bool:=decide (k<=ops.size)&&(lL ops.size).all λi=>match ops[i]? with
 |none=>kY
 |some o=>decide (i<k)||(((lL k).all λj=>(Region.Ci ops 4 (Region.Ih ops i)).contains j)&&(i==k||o.dz.toList.any λe=>e.on+1==i))
def Kl(h:Region.Kk ops J=kY):J<=ops.size/\Late ops J:=by
 simp only[Region.Kk,dd,decide_eq_true_eq,df,dv]at h;obtain⟨c,h⟩:=h;refine⟨c,λi o b hi j d=>?_,λi o b hi=>?_⟩
 .have:=h i (bR.1 b).1;rw[b]at this;simp only[gD,decide_eq_true_eq,dd,df,dv,List.any_eq_true,beq_iff_eq]at this;grind
 grind
def yB(p:tf ops){k:Nat}(q:Late ops k):∀(fuel m:Nat)(listed:Array Bool)(b:Act)(W:ad),listed.size=ops.size->k<=m->m+fuel=ops.size->(∀j,j<ops.size->listed.getD j kY=decide (j<m))->
 ce P ops Q (ops.toList.drop m) b W->wpAny P .any ops Q fuel listed b W
 |0,m,listed,b,W,hs,t,u,hl,h=>by
  have e:ops.toList.drop m=[]:=List.drop_eq_nil_of_le (by simp;omega);rw[e]at h;refine⟨List.filter_eq_nil_iff.2 λi hi=>?_,h⟩;grind
 |fuel+1,m,listed,b,W,hs,t,u,hl,h=>by
  have f:m<ops.size:=ab;have l:ops[m]?=ek ops[m]:=eu f;have hd:ops.toList.drop m=ops[m]::ops.toList.drop (m+1):=by
   rw[lW (by simpa using f)];simp
  have r:m∈rx .any ops listed:=by
   refine lu.2 ⟨dv.2 f,?_⟩;rw[hl m f];simp only[dt,decide_false,gG,js,l,il,du,eA];intro e s
   cases hb:rs .any e with
   |false=>rfl
   |true=>
    have v:=(p.edge m _ l e (cH.2 ⟨s,hb⟩)).1;grind
  refine⟨λw=>(by rw[w]at r;cases r),λi hi=>?_⟩;have n:i=m:=by
   obtain⟨x,o⟩:=lu.1 hi;have c:=dv.1 x;have d:ops[i]?=ek ops[i]:=eu c;rw[d,hl i c]at o;simp only[dd,ld,decide_eq_false_iff_not,il,du,eA]at o;obtain⟨D,E⟩:=o
   rcases n8 m i with v|F
   .obtain⟨e,s,y⟩:=q.one i _ d ab;grind[cH]
   .omega
  subst n;rw[hd]at h;unfold wpOp;simp only[l];have next:∀b' g,ce P ops Q (ops.toList.drop (i+1)) b' g->wpAny P .any ops Q fuel (em listed i kY) b' g:=λb' g z=>by
   refine yB p q fuel (i+1) _ b' g (by simpa using hs) ab ab (λj A=>?_) z;by_cases e:i=j
   .subst e;simp[hs,A]
   .have:(em listed i kY).getD j kY=listed.getD j kY:=bp;grind
  rw[ce]at h;split
  .rename_i B;rw[if_pos B]at h;exact h.imp (Oper.wp_mono next) id
  grind
end
section
variable {P:aa}{ops:Array bv}{C:Bool->ad->Prop}{Le:ad->ad->Prop}{Φ:Bool->Nat->(Nat->aP)->ad->Prop}{X:Nat->Nat->aP->aP->Prop}{a:Act}{Q:bC->Act->ad->Prop}
set_option maxHeartbeats 4000000 in
def Cj{m:Nat}(hO:tf ops){k:Nat}(hL:Late ops k)(By:k<=ops.size)(hX:∀i j u v,X i j u v->X j i v u)(rL:∀(i:Nat)(o:bv),ops[i]?=ek o->∀vs eX W,vs i=eX i->(∀e∈o.dz,vs e.on=eX e.on)->∀b,Φ b i vs W->Φ b i eX W)
 (aB:∀(i:Nat)(o:bv),ops[i]?=ek o->i<k->∀vs W(D:List Nat)(b:Bool),(i=m->b=kS)->C b W->(∀e∈o.dz,e.on∈D)->i∉D->(∀j∈D,j<ops.size)->(∀j∈D,∀o,ops[j]?=ek o->∀e∈o.dz,e.on∈D)->(∀j∈D,Φ b j vs W)->(∀j∈D,∀k∈D,j≠k->X j k (vs j) (vs k))->fC P ops (λv W'=>C (b||decide (i=m)) W'/\(∀j∈D,Φ (b||decide (i=m)) j vs W')/\Φ (b||decide (i=m)) i (upd vs i v) W'/\∀j∈D,X j i (vs j) v) o (cS ops vs (lL i) a) W)
 (hQ:∀vs W b,(m<k->b=kY)->C b W->(∀i,i<k->Φ b i vs W)->(∀i j,i<k->j<k->i≠j->X i j (vs i) (vs j))->ce P ops Q (ops.toList.drop k) (cS ops vs (lL k) a) W) :
 ∀(fuel:Nat)(listed:Array Bool)(vs:Nat->aP)(W:ad),listed.size=ops.size->(lL ops.size).countP (λi=>!listed.getD i kY)=fuel->C (listed.getD m kS) W->(∀i∈cO ops listed,Φ (listed.getD m kS) i vs W)->(∀i∈cO ops listed,∀j∈cO ops listed,i≠j->X i j (vs i) (vs j))->(∀i∈cO ops listed,∀o,ops[i]?=ek o->∀e∈o.dz,e.on∈cO ops listed)->(∀i,k<=i->i<ops.size->listed.getD i kY=kS)->
  wpAny P .any ops Q fuel listed (cS ops vs (cO ops listed) a) W:=by
 have fin:∀(fuel:Nat)(listed:Array Bool)(vs:Nat->aP)(W:ad),listed.size=ops.size->(lL ops.size).countP (λi=>!listed.getD i kY)=fuel->(∀i,i<k->listed.getD i kY=kY)->(∀i,k<=i->i<ops.size->listed.getD i kY=kS)->C (listed.getD m kS) W->(∀i∈cO ops listed,Φ (listed.getD m kS) i vs W)->(∀i∈cO ops listed,∀j∈cO ops listed,i≠j->X i j (vs i) (vs j))->wpAny P .any ops Q fuel listed (cS ops vs (cO ops listed) a) W:=by
  intro fuel listed vs W hs hc oh AO hC FL hP;have aaw:∀j,j<ops.size->listed.getD j kY=decide (j<k):=λj hj=>by
   grind
  have e:cO ops listed=lL k:=by
   unfold cO;have:(lL ops.size).filter (λi=>listed.getD i kY)=(lL ops.size).filter (λi=>decide (i<k)):=l6 λi hi=>aaw i (dv.1 hi);rw[this];have e2:lL ops.size=lL k++(lL (ops.size-k)).map (k + ·):=by
    rw[<-l2];congr 1;omega
   rw[e2,ki,List.filter_eq_self.2 λi hi=>aS,List.filter_eq_nil_iff.2 λi hi=>?_,l7];grind
  have afx:k+fuel=ops.size:=by
   rw[<-hc];have:(lL ops.size).countP (λi=>!listed.getD i kY)=(lL ops.size).countP (λi=>decide (¬i<k)):=l3 λi hi=>aS;rw[this];have e2:lL ops.size=lL k++(lL (ops.size-k)).map (k + ·):=by
    rw[<-l2];congr 1;omega
   rw[e2,List.countP_append,List.countP_eq_zero.2 λi hi=>?_,List.countP_eq_length.2 λi hi=>?_]
   .simp;omega
   .grind
   grind
  rw[e]at FL hP ⊢;exact yB hO hL fuel k listed _ W hs (dk _) afx aaw (hQ vs W _ (λhmk=>aS) hC (λi hi=>FL i (dv.2 hi)) λi j hi hj=>hP i (dv.2 hi) j (dv.2 hj))
 have nil:∀(listed:Array Bool),listed.size=ops.size->rx .any ops listed=[]->∀i,i<ops.size->listed.getD i kY=kY:=by
  intro listed hs hr i
  induction i using n9 with
  |_ i ih=>
   intro hi;by_cases hu:listed.getD i kY=kY
   .exact hu
   .have nt:i∈rx .any ops listed:=by
     refine lu.2 ⟨dv.2 hi,?_⟩;have ho:ops[i]?=ek ops[i]:=eu hi;have hu':listed.getD i kY=kS:=by simpa using hu
     simp only[hu',gG,js,ho,il,du,eA];intro e he
     cases hb:rs .any e with
     |false=>rfl
     |true=>
      have aH:=(hO.edge i _ ho e (cH.2 ⟨he,hb⟩)).1;grind
    grind
 intro fuel
 induction fuel with
 |zero=>
  intro listed vs W hs hc hC FL hP _ AO;refine fin 0 listed vs W hs hc (λi hi=>?_) AO hC FL hP;have:=List.countP_eq_zero.1 hc i (dv.2 ab);simpa using this
 |succ fuel ih=>
  intro listed vs W hs hc hC FL hP hdc AO;by_cases Rq:∀i,i<k->listed.getD i kY=kY
  .grind
  refine⟨λhr=>absurd (λi hi=>nil listed hs hr i ab) Rq,λi hi=>?_⟩;obtain⟨Gu,Xj⟩:=lu.1 hi;have hil:=dv.1 Gu;have ho:ops[i]?=ek ops[i]:=eu hil;rw[ho]at Xj;simp only[dd,ld,il,du,eA]at Xj;obtain⟨vG,oh⟩:=Xj;have EP:∀e∈ops[i].dz,e.on∈cO ops listed:=λe he=>by
   have:=oh e (cH.1 he).1;have hb:=hO.edge i _ ho e he;rw[hb.2]at this;have Fz:e.on<listed.size:=ab;simp[Fz]at this;exact lu.2 ⟨dv.2 ab,by simp[Fz,this]⟩
  have hik:i<k:=by
   rcases n8 i k with h|h
   .exact h
   .refine absurd (λj hj=>?_) Rq;have key:=AM (ops:=ops) (λx=>x∈cO ops listed) (λx hx y hy=>?_) 4 (Region.Ih ops i) (λy hy=>?_) j (hL.all i _ ho h j hj)
    .exact(lu.1 key).2
    .have hxo:ops[x]?=ek ops[x]!:=by
      have:=dv.1 (lu.1 hx).1;simp[this]
     unfold Region.Ih at hy;grind
    .unfold Region.Ih at hy;grind
  have ald:i∉cO ops listed:=λhj=>by
   have:=(lu.1 hj).2;rw[vG]at this;cases this
  have H:=aB i _ ho hik vs W (cO ops listed) (listed.getD m kS) (λe=>aS) hC EP ald (λj hj=>dv.1 (lu.1 hj).1) hdc FL hP;have next:∀v W',(C (listed.getD m kS||decide (i=m)) W'/\(∀j∈cO ops listed,Φ (listed.getD m kS||decide (i=m)) j vs W')/\Φ (listed.getD m kS||decide (i=m)) i (upd vs i v) W'/\∀j∈cO ops listed,X j i (vs j) v)->wpAny P .any ops Q fuel (em listed i kY) ((cS ops vs (cO ops listed) a).put ops[i].dst v) W':=by
   rintro v W'⟨hC0,hle,hv,hx⟩;have hC':C ((em listed i kY).getD m kS) W':=by
    have e:(em listed i kY).getD m kS=(listed.getD m kS||decide (i=m)):=by
     by_cases e:i=m
     .subst e;have h2:i<listed.size:=ab;simp[h2]
     .simp[ep e,e]
    rw[e];exact hC0
   have e0:(listed.getD m kS||decide (i=m))=(em listed i kY).getD m kS:=by
    by_cases e:i=m
    .subst e;have h2:i<listed.size:=ab;simp[h2]
    .simp[ep e,e]
   rw[e0]at hle hv;rw[Rp hO ho hs vG vs v];have nt:∀j,j∈cO ops (em listed i kY)->j=i\/j∈cO ops listed:=λj hj=>by
    obtain⟨h1,h2⟩:=lu.1 hj;by_cases e:j=i
    .exact r8 e
    .exact r9 (lu.2 ⟨h1,by simpa[ep (gr e)]using h2⟩)
   have Xs:∀j,j∈cO ops listed->j∈cO ops (em listed i kY):=λj hj=>by
    obtain⟨h1,h2⟩:=lu.1 hj;by_cases e:j=i
    .grind
    .exact lu.2 ⟨h1,by simpa[ep (gr e)]using h2⟩
   have Xr:∀j,j∈cO ops listed->j≠i:=λj hj e=>by
    grind
   refine ih _ _ W' (by simpa using hs) ?_ hC' (λj hj=>?_) (λj hj k hk Wk=>?_) (λj hj o' qx e he=>?_) (λj hj hjn=>by have bu:i≠j:=ab;simpa[ep bu]using AO j hj hjn)
   .have h1:(lL ops.size).countP (λj=>!listed.getD j kY)=(lL ops.size).countP (λj=>!(em listed i kY).getD j kY)+1:=by
     have key:∀l:List Nat,l.Nodup->i∈l->l.countP (λj=>!listed.getD j kY)=l.countP (λj=>!(em listed i kY).getD j kY)+1:=by
      intro l hn
      induction l with
      |nil=>intro h;cases h
      |cons k l ih=>
       intro h;obtain⟨hk,TH⟩:=List.nodup_cons.1 hn;by_cases e:k=i
       .subst e;have same:l.countP (λj=>!listed.getD j kY)=l.countP (λj=>!(em listed k kY).getD j kY):=by
         refine l3 λj hj=>?_;have bu:k≠j:=λe=>hk (e▸hj);simp[ep bu]
        have hks:k<listed.size:=ab;rw[l5,l5,same,vG];simp[hks]
       .have hil:i∈l:=aS;have bu:i≠k:=λe'=>e e'.y;rw[l5,l5,ih TH hil];have:(em listed i kY).getD k kY=listed.getD k kY:=by simp[ep bu]
        grind
     exact key _ List.nodup_range Gu
    omega
   .rcases nt j hj with rfl|zK
    .exact hv
    .have hjo:ops[j]?=ek ops[j]!:=by
      have:=dv.1 (lu.1 zK).1;simp[this]
     refine rL j _ hjo vs _ W' ?_ (λe he=>?_) _ (hle j zK)
     .simp only[upd];rw[if_neg (Xr j zK)]
     .have:=Xr _ (hdc j zK _ hjo e he);simp only[upd];rw[if_neg this]
   .rcases nt j hj with rfl|zK
    .rcases nt k hk with rfl|rm
     .exact absurd rfl Wk
     .simp only[upd,if_pos,if_neg (Xr k rm)];exact hX _ _ _ _ (hx k rm)
    .rcases nt k hk with rfl|rm
     .simp only[upd,if_pos,if_neg (Xr j zK)];exact hx j zK
     .simp only[upd,if_neg (Xr j zK),if_neg (Xr k rm)];exact hP j zK k rm Wk
   grind
  unfold wpOp;simp only[ho];unfold fC at H;rw[<-EL (a:=a) hO ho EP vs,<-Nj (a:=a) hO ho EP vs]at H;split
  .rename_i hw;rw[if_pos hw]at H;left;unfold Oper.wp;generalize(ch (cS ops vs (cO ops listed) a).eval ops[i]).run P W=r at H ⊢
   match r,H with
   |qi (rS v) W',H=>exact next v W' H
   |qi r6 W',H=>exact next undef W' H
   |qi (rR f args) W',H=>exact Calls.mono H λe W''⟨v,he,hk⟩=>by subst he;exact next v W'' hk
  grind
section
variable (P:aa)(ops:Array bv)(m:Nat)(C:Bool->ad->Prop)(Le:ad->ad->Prop)(E:Nat->Bool)(Φ:Bool->Nat->(Nat->aP)->ad->Prop)(X:Nat->Nat->aP->aP->Prop)(Q:bC->Act->ad->Prop)
def cr:Nat->List bv->((Nat->aP)->Act)->Prop
 |i,[],b=>∀vs W c,(m<i->c=kY)->C c W->(∀j,j<i->E j=kS->Φ c j vs W)->(∀j k,j<i->k<i->j≠k->E j=kS->E k=kS->X j k (vs j) (vs k))->Q sd (b vs) W
 |i,o::l,b=>@la (λ_=>Prop)
  ((∀vs W(D:List Nat)(c:Bool),(i=m->c=kS)->C c W->(∀e∈o.dz,e.on∈D)->i∉D->(∀j∈D,∀o,ops[j]?=ek o->∀e∈o.dz,e.on∈D)->(∀j∈D,E j=kS->Φ c j vs W)->(∀j∈D,∀k∈D,j≠k->E j=kS->E k=kS->X j k (vs j) (vs k))->fC P ops (λu d=>C (c||decide (i=m)) d/\(∀j∈D,E j=kS->Φ (c||decide (i=m)) j vs d)/\Φ (c||decide (i=m)) i (upd vs i u) d/\∀j∈D,E j=kS->X j i (vs j) u) o (b vs) W)/\cr (i+1) l λvs=>(b vs).put o.dst (vs i))
  (∃v,(∀vs W c,C c W->(∀e∈o.dz,E e.on=kS->Φ c e.on vs W)->fC P ops (λu d=>u=v/\C c d/\Le W d) o (b vs) W)/\cr (i+1) l λvs=>(b vs).put o.dst v) (E i)
end
def nv{i:Nat}(h:∀vs W c,(J<i->c=kY)->C c W->(∀j,j<i->L j=kS->Φ c j vs W)->(∀j k,j<i->k<i->j≠k->L j=kS->L k=kS->X j k (vs j) (vs k))->Q sd (q vs) W):cr P ops J C Le L Φ X Q i [] q:=h
def Ck{i:Nat}(v:aP)(hE:L i=kY)
 (h:∀vs W c,C c W->(∀e∈O.dz,L e.on=kS->Φ c e.on vs W)->fC P ops (λu d=>u=v/\C c d/\Le W d) O (q vs) W) (f:cr P ops J C Le L Φ X Q (i+1) M λvs=>(q vs).put O.dst v):cr P ops J C Le L Φ X Q i (O::M) q:=by
 rw[cr,hE];exact⟨v,h,f⟩
def Cl{i:Nat}(hE:L i=kS)
 (h:∀vs W(D:List Nat)(c:Bool),(i=J->c=kS)->C c W->(∀e∈O.dz,e.on∈D)->i∉D->(∀j∈D,∀O,ops[j]?=ek O->∀e∈O.dz,e.on∈D)->(∀j∈D,L j=kS->Φ c j vs W)->(∀j∈D,∀k∈D,j≠k->L j=kS->L k=kS->X j k (vs j) (vs k))->fC P ops (λu d=>C (c||decide (i=J)) d/\(∀j∈D,L j=kS->Φ (c||decide (i=J)) j vs d)/\Φ (c||decide (i=J)) i (upd vs i u) d/\∀j∈D,L j=kS->X j i (vs j) u) O (q vs) W) (f:cr P ops J C Le L Φ X Q (i+1) M λvs=>(q vs).put O.dst (vs i)):cr P ops J C Le L Φ X Q i (O::M) q:=by
 rw[cr,hE];exact⟨h,f⟩
def iK{i:Nat}{b':(Nat->aP)->Act}(v:aP)(hE:L i=kY)
 (h:∀vs W c,C c W->(∀e∈O.dz,L e.on=kS->Φ c e.on vs W)->fC P ops (λu d=>u=v/\C c d/\Le W d) O (q vs) W) (hb:∀vs,(q vs).put O.dst v=b' vs) (f:cr P ops J C Le L Φ X Q (i+1) M b'):cr P ops J C Le L Φ X Q i (O::M) q:=
 Ck v hE h ((funext hb:(λvs=>(q vs).put O.dst v)=b')▸f)
def ey{i:Nat}{b':(Nat->aP)->Act}(hE:L i=kS)
 (h:∀vs W(D:List Nat)(c:Bool),(i=J->c=kS)->C c W->(∀e∈O.dz,e.on∈D)->i∉D->(∀j∈D,∀O,ops[j]?=ek O->∀e∈O.dz,e.on∈D)->(∀j∈D,L j=kS->Φ c j vs W)->(∀j∈D,∀k∈D,j≠k->L j=kS->L k=kS->X j k (vs j) (vs k))->fC P ops (λu d=>C (c||decide (i=J)) d/\(∀j∈D,L j=kS->Φ (c||decide (i=J)) j vs d)/\Φ (c||decide (i=J)) i (upd vs i u) d/\∀j∈D,L j=kS->X j i (vs j) u) O (q vs) W) (hb:∀vs,(q vs).put O.dst (vs i)=b' vs) (f:cr P ops J C Le L Φ X Q (i+1) M b'):cr P ops J C Le L Φ X Q i (O::M) q:=
 Cl hE h ((funext hb:(λvs=>(q vs).put O.dst (vs i))=b')▸f)
def ny{E:Nat->Bool}{m:Nat}(L:E m=kS)(M:∀b i vs W r,Le W r->Φ b i vs W->Φ b i vs r):∀(l:List bv)(i:Nat)(b:(Nat->aP)->Act),(∀j,j<l.length->l[j]?=ops[i+j]?)->cr P ops m C Le E Φ X Q i l b->
 ∃V:Nat->aP,(∀(j:Nat)(o:bv),i<=j->j<i+l.length->ops[j]?=ek o->∃s:(Nat->aP)->Act,(∀vs(a0:Act),(∀k,i<=k->E k=kY->vs k=V k)->b vs=cS ops vs (lL i) a0->s vs=cS ops vs (lL j) a0)/\
  (∀vs W(D:List Nat)(c:Bool),(j=m->c=kS)->C c W->(∀e∈o.dz,e.on∈D)->j∉D->(∀j∈D,∀o,ops[j]?=ek o->∀e∈o.dz,e.on∈D)->(∀j∈D,E j=kS->Φ c j vs W)->(∀j∈D,∀k∈D,j≠k->E j=kS->E k=kS->X j k (vs j) (vs k))->fC P ops (λu r=>(E j=kY->u=V j)/\C (c||decide (j=m)) r/\(∀k∈D,E k=kS->Φ (c||decide (j=m)) k vs r)/\(E j=kS->Φ (c||decide (j=m)) j (upd vs j u) r)/\∀k∈D,E k=kS->E j=kS->X k j (vs k) u) o (s vs) W))/\
  (∀vs W(a0:Act),(∀k,i<=k->E k=kY->vs k=V k)->b vs=cS ops vs (lL i) a0->∀c,(m<i+l.length->c=kY)->C c W->(∀j,j<i+l.length->E j=kS->Φ c j vs W)->(∀j k,j<i+l.length->k<i+l.length->j≠k->E j=kS->E k=kS->X j k (vs j) (vs k))->Q sd (cS ops vs (lL (i+l.length)) a0) W)
 |[],i,b,hl,h=>by
  refine⟨λ_=>undef,λj o z x R=>?_,λvs W a0 _ hb c f d t g=>by rw[ly,eQ,<-hb];exact h vs W c (by simpa using f) d t g⟩;grind
 |o::l,i,b,hl,h=>by
  have hlen:i+(o::l).length=i+1+l.length:=aS;rw[hlen];have A:ops[i]?=ek o:=by simpa using(hl 0 ar).y
  have hd:Region.fZ ops i=o.dst:=by simp[Region.fZ,A]
  have N:∀j,j<l.length->l[j]?=ops[i+1+j]?:=λj z=>by have:=hl (j+1) aS;grind
  cases w:E i with
  |true=>
   rw[cr,w]at h;obtain⟨v,O,B⟩:=h;obtain⟨V,k1,k2⟩:=ny L M l (i+1) _ N B;have step:∀vs(a0:Act),(∀k,i<=k->E k=kY->vs k=(λj=>if j=i then v else V j) k)->b vs=cS ops vs (lL i) a0->(b vs).put o.dst v=cS ops vs (lL (i+1)) a0:=λvs a0 hv hb=>by
    rw[lS,uG,<-hb,hd,hv i (dk _) w];simp
   refine⟨λj=>if j=i then v else V j,λj F z x n=>?_,λvs W a0 hv hb c f d t g=>k2 vs W a0 (λk H p=>aS) (step vs a0 hv hb) c f d t g⟩;by_cases e:j=i
   .subst e;rw[A]at n;cases n;refine⟨b,λvs a0 _ hb=>hb,λvs W D c f d y q I hd g=>?_⟩;refine nu ?_ (O vs W c d λe p w=>hd _ (y e p) w);grind
   .obtain⟨s,J,K⟩:=k1 j F ab x n;refine⟨s,λvs a0 hv hb=>J vs a0 (λk H p=>aS) (step vs a0 hv hb),λvs W D c f d y q I hd g=>?_⟩;have:=K vs W D c f d y q I hd g;grind
  |false=>
   rw[cr,w]at h;obtain⟨O,B⟩:=h;obtain⟨V,k1,k2⟩:=ny L M l (i+1) _ N B;have step:∀vs(a0:Act),b vs=cS ops vs (lL i) a0->(b vs).put o.dst (vs i)=cS ops vs (lL (i+1)) a0:=λvs a0 hb=>by
    rw[lS,uG,<-hb,hd]
   refine⟨V,λj F z x n=>?_,λvs W a0 hv hb c f d t g=>k2 vs W a0 (λk H p=>hv k ab p) (step vs a0 hb) c f d t g⟩;by_cases e:j=i
   .subst e;rw[A]at n;cases n;refine⟨b,λvs a0 _ hb=>hb,λvs W D c f d y q I hd g=>?_⟩;grind
   .obtain⟨s,J,K⟩:=k1 j F ab x n;exact⟨s,λvs a0 hv hb=>J vs a0 (λk H p=>hv k ab p) (step vs a0 hb),K⟩
def abG(k:Nat){w:ad}(m:Nat)(C:Bool->ad->Prop)(Le:ad->ad->Prop)(E:Nat->Bool)(Φ:Bool->Nat->(Nat->aP)->ad->Prop)(X:Nat->Nat->aP->aP->Prop)(O:∀i j u v,X i j u v->X j i v u)(R:Region.Ig ops=kY)(S:k<=ops.size/\Late ops k)
 (T:E m=kS) (U:∀b i vs W p,Le W p->Φ b i vs W->Φ b i vs p) (x:∀(i:Nat)(o:bv),ops[i]?=ek o->∀vs q W,vs i=q i->(∀e∈o.dz,vs e.on=q e.on)->∀b,Φ b i vs W->Φ b i q W) (r:C kS w.drew)
 (H:cr P ops m C Le E Φ X (λ_ b W=>ce P ops Q (ops.toList.drop k) b W) 0 (ops.toList.take k) λ_=>a):wpAny P .any ops Q ops.size (eD ops.size kS) a w.drew:=by
 have s:=Ro R;obtain⟨Y,Z⟩:=S;obtain⟨V,K,L⟩:=ny T U (ops.toList.take k) 0 _ (λj d=>aS) H;have FH:0+(ops.toList.take k).length=k:=by simp;omega
 rw[FH]at K L;have hd:cO ops (eD ops.size kS)=[]:=by
  refine List.filter_eq_nil_iff.2 λi hi=>?_;have:=dv.1 hi;simp[this]
 have start:=Cj (P:=P) (a:=a) (Q:=Q) (m:=m) (C:=C) (X:=λi j u v=>E i=kS->E j=kS->X i j u v) (Φ:=λb i vs W=>(E i=kY->vs i=V i)/\(∀o,ops[i]?=ek o->∀e∈o.dz,E e.on=kY->vs e.on=V e.on)/\(E i=kS->Φ b i vs W)) s Z Y (λi j u v h d hi=>O _ _ _ _ (h hi d))
  (λi o g vs q W e1 e2 b h=>⟨λe=>e1▸h.1 e,λo' l e f n=>aS,λe=>x i o g vs q W e1 e2 b (h.2.2 e)⟩) (λi o g y vs W D z A r M B F sB hd hP=>?_) (λvs W z A r FL hP=>?_) ops.size (eD ops.size kS) (λ_=>undef) w.drew ar (by
   rw[List.countP_eq_length.2]
   .simp
   .intro i hi;have:=dv.1 hi
    simp[this]) (by have e:(eD ops.size kS).getD m kS=kS:=(by rw[bM,o7];split<;>rfl);rw[e];exact r) (by rw[hd];intro i hi;cases hi) (by rw[hd];intro i hi;cases hi) (by rw[hd];intro i hi;cases hi) (λi _ hi=>by simp[hi])
 .rw[hd]at start;exact start
 .obtain⟨bj,g1,g2⟩:=K i o (eF _) y g;have vz:∀k∈D,vR E V vs k=vs k:=λk c=>by
   unfold vR;grind
  have I:∀e∈o.dz,vR E V vs e.on=vs e.on:=λe f=>vz _ (M e f);have hb:=g1 (vR E V vs) a (λk _ f=>by simp[vR,f]) rfl;have t:∀k∈D,∀b W,Φ b k (vR E V vs) W↔Φ b k vs W:=λk c b W=>by
   have l:ops[k]?=ek ops[k]!:=by simp[F k c]
   grind
  have:=g2 (vR E V vs) W D z A r M B sB (λk c n=>(t k c _ W).2 ((hd k c).2.2 n)) (λj d k c Wk J N=>aS);rw[hb]at this;refine nu ?_ (Nk s g I this);rintro v p⟨a1,a2,a3,a4,a5⟩;refine⟨a2,λk c=>⟨(hd k c).1,(hd k c).2.1,λn=>(t k c _ p).1 (a3 k c n)⟩,⟨λe=>by simp[upd,a1 e],λo' l e f n=>?_,λe=>?_⟩,λk c N hiE=>aS⟩
  .rw[g]at l;cases l;have:=(s.edge i o g e f).1;simp only[upd];grind
  refine x i o g _ _ p (by simp[upd]) (λe' Xo=>?_) _ (a4 e);have:=(s.edge i o g e' Xo).1;simp only[upd];grind
 .have hv:∀j,j<k->vR E V vs j=vs j:=λj d=>by
   unfold vR;grind
  rw[<-yA (vs:=vR E V vs) _ _ λj d=>hv j (dv.1 d)];refine L (vR E V vs) W a (λk _ f=>by simp[vR,f]) rfl z A r (λj d n=>?_) (λj k d c Wk J N=>aS);have l:ops[j]?=ek ops[j]!:=aS;refine x j _ l vs _ W (hv j d).y (λe f=>(hv e.on (by have:=(s.edge j _ l e f).1;omega)).y) _ ((FL j d).2.2 n)
def mA(k:Nat)(m:Nat)(C:Bool->ad->Prop)(Le:ad->ad->Prop)(E:Nat->Bool)(Φ:Bool->Nat->(Nat->aP)->ad->Prop)(X:Nat->Nat->aP->aP->Prop)(f:∀i j u v,X i j u v->X j i v u)(g:P.follows se=kY)(h:Region.Ig ops=kY)(l:k<=ops.size/\Late ops k)
 (n:E m=kS) (p:∀b i vs W d,Le W d->Φ b i vs W->Φ b i vs d) (q:∀(i:Nat)(o:bv),ops[i]?=ek o->∀vs c W,vs i=c i->(∀e∈o.dz,vs e.on=c e.on)->∀b,Φ b i vs W->Φ b i c W) (r:C kS R.drew)
 (H:cr P ops m C Le E Φ X (λ_ b W=>ce P ops Q (ops.toList.drop k) b W) 0 (ops.toList.take k) λ_=>a):(rI J ops kY).wp P Q a R:=
 wp_region_any g (abG k m C Le E Φ X f h l n p q r H)
def iL(k:Nat)(m:Nat)(C:Bool->ad->Prop)(Le:ad->ad->Prop)(E:Nat->Bool)(Φ:Bool->Nat->(Nat->aP)->ad->Prop)(X:Nat->Nat->aP->aP->Prop)(f:∀i j u v,X i j u v->X j i v u)(g:P.follows se=kY)(h:Region.Ig ops=kY)(l:Region.Kk ops k=kY)
 (n:E m=kS) (p:∀b i vs W d,Le W d->Φ b i vs W->Φ b i vs d) (q:∀(i:Nat)(o:bv),ops[i]?=ek o->∀vs c W,vs i=c i->(∀e∈o.dz,vs e.on=c e.on)->∀b,Φ b i vs W->Φ b i c W) (r:C kS R.drew)
 (H:cr P ops m C Le E Φ X (λ_ b W=>ce P ops Q (ops.toList.drop k) b W) 0 (ops.toList.take k) λ_=>a):(rI J ops kY).wp P Q a R:=
 mA k m C Le E Φ X f g h (Kl l) n p q r H
section
variable {C:ad->Prop}{Φ:Nat->(Nat->aP)->ad->Prop}
def uH{E:Nat->Bool}{n:Nat}(p:∀i vs W f,Le W f->Φ i vs W->Φ i vs f):∀(l:List bv)(i:Nat)(b:(Nat->aP)->Act),i+l.length<=n->cL P ops C Le E Φ Q i l b->
 cr P ops n (λ_=>C) Le (λj=>E j&&decide (j<n)) (λ_=>Φ) (λ_ _ _ _=>True) Q i l b
 |[],i,b,_,h=>λvs W _ _ c hd _=>h vs W c λj q g=>hd j q (by simp[g])
 |o::l,i,b,hl,h=>by
  have hi:i<n:=by simp at hl;omega
  have s:i+1+l.length<=n:=by simp at hl;omega
  rw[cL]at h;rw[cr]
  cases g:E i with
  |true=>
   simp only[g,decide_eq_true hi,Bool.and_self]at h⊢;obtain⟨v,u,w⟩:=h;exact⟨v,λvs W _ c hd=>u vs W c λe r d=>hd e r (by simp[d]),uH p l _ _ s w⟩
  |false=>
   simp only[g,iY]at h⊢;refine⟨λvs W D _ _ c x _ _ t _=>?_,uH p l _ _ s h.2⟩;exact nu (λv f k=>⟨k.1,λj q d=>p j vs W f k.2.1 (t j q d),k.2.2,λ_ _ _=>trivial⟩) (h.1 vs W c λe r d=>t e.on (x e r) (by simp[d]))
def mB(k:Nat)(C:ad->Prop)(Le:ad->ad->Prop)(E:Nat->Bool)(Φ:Nat->(Nat->aP)->ad->Prop)(g:P.follows se=kY)(h:Region.Ig ops=kY)(l:k<=ops.size/\Late ops k)
 (d:∀i vs W f,Le W f->Φ i vs W->Φ i vs f) (n:∀(i:Nat)(o:bv),ops[i]?=ek o->∀vs c W,vs i=c i->(∀e∈o.dz,vs e.on=c e.on)->Φ i vs W->Φ i c W) (p:C R.drew)
 (H:cL P ops C Le E Φ (λ_ b W=>ce P ops Q (ops.toList.drop k) b W) 0 (ops.toList.take k) λ_=>a):(rI J ops kY).wp P Q a R:=
 mA k ops.size (λ_=>C) Le (λj=>E j&&decide (j<ops.size)) (λ_=>Φ) (λ_ _ _ _=>True) (λ_ _ _ _ _=>trivial) g h l ar (λ_=>d) (λi o q vs c W e1 r _=>n i o q vs c W e1 r) p
  (uH d _ _ _ (by simp;omega) H)
def cT(k:Nat)(C:ad->Prop)(Le:ad->ad->Prop)(E:Nat->Bool)(Φ:Nat->(Nat->aP)->ad->Prop)(f:P.follows se=kY)(g:Region.Ig ops=kY)(h:Region.Kk ops k=kY)
 (j:∀i vs W d,Le W d->Φ i vs W->Φ i vs d) (l:∀(i:Nat)(o:bv),ops[i]?=ek o->∀vs c W,vs i=c i->(∀e∈o.dz,vs e.on=c e.on)->Φ i vs W->Φ i c W) (n:C R.drew)
 (H:cL P ops C Le E Φ (λ_ b W=>ce P ops Q (ops.toList.drop k) b W) 0 (ops.toList.take k) λ_=>a):(rI J ops kY).wp P Q a R:=
 mB k C Le E Φ f g (Kl h) j l n H
def uI{E:Nat->Bool}{c:bC->Act->ad->Prop}(h:∀b W,Q sd b W->c sd b W):∀(l:List bv)(i:Nat)(b:(Nat->aP)->Act),cL P ops C Le E Φ Q i l b->cL P ops C Le E Φ c i l b
 |[],_,_,k=>λvs W e hd=>h _ _ (k vs W e hd)
 |o::l,i,b,k=>by
  rw[cL]at k ⊢
  cases d:E i with
  |true=>simp only[d]at k ⊢;obtain⟨v,f,g⟩:=k;exact⟨v,f,uI h l _ _ g⟩
  |false=>simp only[d]at k ⊢;exact⟨k.1,uI h l _ _ k.2⟩
def ig(C:ad->Prop)(Le:ad->ad->Prop)(E:Nat->Bool)(Φ:Nat->(Nat->aP)->ad->Prop)(g:P.follows se=kY)(j:Region.Ig ops=kY)
 (k:∀i vs W f,Le W f->Φ i vs W->Φ i vs f) (l:∀(i:Nat)(o:bv),ops[i]?=ek o->∀vs d W,vs i=d i->(∀e∈o.dz,vs e.on=d e.on)->Φ i vs W->Φ i d W) (n:C R.drew)
 (H:cL P ops C Le E Φ Q 0 ops.toList λ_=>a):(rI J ops kY).wp P Q a R:=by
 have no:∀{i:Nat}{o:bv},ops[i]?=ek o->¬ops.size<=i:=λc=>Nat.not_le.2 (bR.1 c).1;refine mB ops.size C Le E Φ g j ⟨dk _,λi o c hi=>absurd hi (no c),λi o c hi=>absurd (mH hi) (no c)⟩ k l n ?_;rw[List.take_of_length_le ar];refine uI (λb W h=>?_) _ _ _ H;rw[List.drop_of_length_le ar];exact h
end
end
end Go
namespace Go.Proofs
open Go.RowKit Go.Shelf
attribute [local go_sem] Oper.semAt_some
variable {q:Nat}{Y:ad}{L:Bool}{J:aP}{O:ac}{M R:Int}
variable {C:CD}
def lv(s r:Int):Int:=lvl s r s.toNat
def fD(s a:Int)(b:Nat):List Int:=(lL b).map λj=>lv s (a+(j:Nat))
def cJ(a b:Int)(c d:Nat):List Int:=(lL c).flatMap fun(k:Nat)=>fD (a+k) b d
def AP(s b:Int)(a:Nat):(fD s b a).length=a:=by simp[fD]
def AQ(c d:Int)(b:Nat):∀a:Nat,(cJ c d a b).length=a*b
 |0=>by simp[cJ]
 |a+1=>by
  have:=AQ c d b a;unfold cJ at this⊢;rw[lS,iU,dC,this];simp[AP,oj]
def nA(s a:Int)(j:Nat):fD s a (j+1)=fD s a j++[lv s (a+(j:Nat))]:=by
 simp[fD,lS]
def kE(a b:Int)(c d:Nat):cJ a b (c+1) d=cJ a b c d++fD (a+(c:Nat)) b d:=by
 simp[cJ,lS]
def Nl(s a:Int)(b:Nat):∀j:Nat,j<=b->fD s a j <+: fD s a b:=by
 intro j c;unfold fD;exact(List.map_take ..▸List.take_range ..▸by rw[my c]:(List.take j ((lL b).map λj=>lv s (a+(j:Nat))))=(lL j).map λj=>lv s (a+(j:Nat)))▸List.take_prefix _ _
def AU(a b:Int)(c:Nat)(k:Nat):∀d:Nat,cJ a b k c <+: cJ a b (k+d) c
 |0=>List.prefix_rfl
 |d+1=>by rw[<-n7,kE];exact(AU a b c k d).trans (List.prefix_append _ _)
def Nm(a b:Int)(c d k j:Nat)(g:k<c)(h:j<d):cJ a b k d++fD (a+(k:Nat)) b j++[lv (a+(k:Nat)) (b+(j:Nat))] <+: cJ a b c d:=by
 rw[dT,<-nA];obtain⟨t,e⟩:=Nl (a+(k:Nat)) b d (j+1) ab;obtain⟨u,f⟩:=AU a b d (k+1) (c-(k+1));rw[show k+1+(c-(k+1))=c by omega,kE,<-e]at f;grind
def Rr(s r:Int)(w:ad)(f:1<=s)(g:s<=90)(c : -s<=r)(d:r<=s):bd PL 53 #[qr rQ s,qr rQ r] w λe w'=>e=r7 (qr rQ (lv s r))/\w=w':=by
 obtain⟨n,rfl⟩:=rk (a:=s) ab;exact(AG n r w ab ab c d).m λ_ _⟨a,b⟩=>⟨a,b.y⟩
def yC(B:Nat)(W a:ad):Prop:=∀o:Nat,mm a ⟨B,o,el⟩=mm W ⟨B,o,el⟩
def Ii(n:Nat)(C:1<=n)(l g:Nat)(a b:Int)(d c:Nat)(D:1<=a)(E:a+d<=91)(F:1<=d)(H : -a<=b)(I:b+c<=a+1)(K:1<=c)(J r:List Int->ad->Prop)
 (s:∀f x W,J f W->f.length<d*c->YieldAt Fence.wide (n-1) PL l #[qr rQ x] W λe h=>
   (e=r7 (qq kY)/\J (f++[x]) h/\yC g W h)\/(e=r7 (qq kS)/\r (f++[x]) h))
 (W:ad) (c1:mm W ⟨g,1,el⟩=ek (qr rQ a)) (t:mm W ⟨g,2,el⟩=ek (qr rQ (a+d-1))) (c3:mm W ⟨g,3,el⟩=ek (qr rQ b)) (u:mm W ⟨g,4,el⟩=ek (qr rQ (b+c-1))) (w:J [] W) :
 CallsIn Fence.wide n PL 82 #[qU (.yield l) #[] #[],qG (ek ⟨g,0,el⟩)] W λe h=>(∃v,e=r7 v)/\
  ((∃ys,ys=cJ a b d c/\J ys h)\/(∃f,f <+: cJ a b d c/\r f h)):=by
 refine callsIn_of_wp (fx ao kg) rfl trivial ?_ rfl;simp only[Tryz.ntmps82,eS,fo,ly,ob,ol,pD,pC,pT,pf,gB,fY]
 gi_wp2
 gi_loopw [3] (λv wr=>∃k:Nat,k<=d/\v=qr rQ (a+k)/\J (cJ a b k c) wr/\(mm wr ⟨g,1,el⟩=ek (qr rQ a)/\mm wr ⟨g,2,el⟩=ek (qr rQ (a+d-1))/\mm wr ⟨g,3,el⟩=ek (qr rQ b)/\mm wr ⟨g,4,el⟩=ek (qr rQ (b+c-1)))) (λv _=>(a+d-intOf v).toNat)
 case atStart=>exact⟨0,eF _,ar,w,c1,t,c3,u⟩
 case round=>
  obtain⟨k,i,rfl,m,d1,d2,d3,d4⟩:=hrel;by_cases y:k<d
  .have z:a+(k:Int)<=a+d-1:=ab
   gi_wp2
   gi_loopw [4] (λv wr=>∃j:Nat,j<=c/\v=qr rQ (b+j)/\J (cJ a b k c++fD (a+(k:Nat)) b j) wr/\(mm wr ⟨g,1,el⟩=ek (qr rQ a)/\mm wr ⟨g,2,el⟩=ek (qr rQ (a+d-1))/\mm wr ⟨g,3,el⟩=ek (qr rQ b)/\mm wr ⟨g,4,el⟩=ek (qr rQ (b+c-1)))) (λv _=>(b+c-intOf v).toNat)
   case atStart=>exact⟨0,eF _,ar,by simpa[fD]using m,d1,d2,d3,d4⟩
   case round=>
    obtain⟨j,L,rfl,m,d1,d2,d3,d4⟩:=hrel;by_cases o:j<c
    .have A:b+(j:Int)<=b+c-1:=ab;have hlen:(cJ a b k c++fD (a+(k:Nat)) b j).length<d*c:=by
      rw[dC,AQ,AP];have:=im c (show k+1<=d by omega);grind
     obtain⟨fn,tmps,assign,body,hy,B⟩:=s _ (lv (a+(k:Nat)) (b+(j:Nat))) wr m hlen
     gi_wp2_with (refine⟨trivial,?_⟩;refine(callsIn_wide.2 (Rr _ _ _ ab ab ab ab)).mono ?_;rintro e w'⟨rfl,rfl⟩)
     refine B.mono ?_;rintro e h(⟨rfl,p,i⟩|⟨rfl,q⟩)
     .gi_wp2
      refine⟨⟨j+1,ab,by congr 1;push_cast;omega,by rw[nA,<-dT];exact p,(i 1).t d1,(i 2).t d2,(i 3).t d3,(i 4).t d4⟩,?_⟩;simp only[intOf];omega
     .gi_wp2
      refine ci (results_none rfl _ _ _) rfl ⟨⟨_,rfl⟩,r9 ⟨_,Nm a b d c k j y o,q⟩⟩
    .have A:b+(c:Int)-1<b+j:=ab;obtain rfl:j=c:=ab
     gi_wp2
     refine⟨⟨k+1,ab,by congr 1;push_cast;omega,by rw[kE];exact m,d1,d2,d3,d4⟩,?_⟩;simp only[intOf];omega
  .have z:a+(d:Int)-1<a+k:=ab;obtain rfl:k=d:=ab
   gi_wp2
   go_end0
   grind
def Km{X Z:ad}(h:yC q X Y)(k:yC q Y Z):yC q X Z:=λo=>(k o).t (h o)
def Ko{s:Nat}(a:q<s)(W:ad)(l:Nat)(o o':Obj)(hl:s<=l)(_:W.heap[l]?=ek o)(_:o.isCells=kS)(_:o.isWalk=kS):yC q W (na W l o'):=λB=>by
 have:(na W l o').heap[q]?=W.heap[q]?:=by
  simp only[na];grind
 simp[mm,this]
def tg(n:Nat)(i:1<=n)(a:Nat)(b d:Int)(e f:Nat)(j:1<=b)(k:b+e<=91)(m:1<=e)(o : -b<=d)(q:d+f<=b+1)(r:1<=f)(w:ad)(c:a<w.heap.size)
 (c1:mm w ⟨a,1,el⟩=ek (qr rQ b)) (s:mm w ⟨a,2,el⟩=ek (qr rQ (b+e-1))) (c3:mm w ⟨a,3,el⟩=ek (qr rQ d)) (t:mm w ⟨a,4,el⟩=ek (qr rQ (d+f-1))) :
 SeqStopsK Fence.wide n PL 82 #[qG (ek ⟨a,0,el⟩)] (λx:Int=>#[qr rQ x]) (yC a) (λys=>ys=cJ b d e f) (λh=>h <+: cJ b d e f) (e*f) w:=λl J u W g _ _ v y=>
 Ii n i l a b d e f j k m o q r J u v W ((g.c (p:=⟨a,1,el⟩) c).t c1) ((g.c (p:=⟨a,2,el⟩) c).t s) ((g.c (p:=⟨a,3,el⟩) c).t c3) ((g.c (p:=⟨a,4,el⟩) c).t t) y
def iJ.NY(q:iJ):List Int:=cJ (q.n 1) (q.n 3) (q.n 2-q.n 1+1).toNat (q.n 4-q.n 3+1).toNat
def iJ.low(q:iJ):Int:=q.NY.foldl min 90
def iJ.high(q:iJ):Int:=q.NY.foldl max 0
structure iJ.Ok(q:iJ):Prop where
 a1:1<=q.n 1
 a2:q.n 1<=q.n 2
 a3:q.n 2<=90
 a4 : -q.n 1<=q.n 3
 a5:q.n 3<=q.n 4
 a6:q.n 4<=q.n 1
def ck{f:Nat->Int}(h:ia q f=0):∀j,j<q->f j=0:=by
 intro j
 induction j using n9 with
 |_ j a=>
  intro b;by_cases hf:f j=0
  .exact hf
  .have:=eG (m:=j) (λi hi=>a i hi ab) b hf;omega
def Kq(hc:C.cx=0)(hi:q<C.n4):(C.x4 q).Ok:=by
 have b:kA C.p C.n2 C.n3 C.n4 C.x4=0:=ck hc 3 ab;unfold kA at b;split at b
 case isFalse=>cases b
 have a:=ck b q hi;unfold gM at a;split at a
 case isFalse h=>exact absurd a h
 split at a
 case isFalse=>cases a
 rename_i c;split at a
 .cases a
 rename_i d;simp only[eK,dd,decide_eq_true_eq]at c;exact⟨ab,ab,ab,ab,ab,ab⟩
def Kr(h:C.b6 L≠0)(k:C.At Y):bd PL 31 #[qv C.val,qq L] Y (aO (qH #[qv #[qr rQ 0,qr rQ 0,qu el 0 0,qu el 0 0,qu el 0 0,qu el 0 0],qr rQ (C.b6 L)]) Y):=by
 have:=Ev C L Y k;rwa[CD.sX,if_neg h]at this
def kF(h:C.b6 L=0)(k:C.At Y):bd PL 31 #[qv C.val,qq L] Y (aO (qH #[qv C.val,qr rQ 0]) Y):=by
 have:=Ev C L Y k;rwa[CD.sX,if_pos h,h]at this
structure CD.Box(C:CD)(B:Nat)(W0:ad):Prop where
 Tj:W0.heap[B]?=ek (rP C.val 27)
def uJ{x1:aP}(h:Y.heap[q]?=ek (rP #[J,x1] O)):mm Y ⟨q,0,el⟩=ek J/\mm Y ⟨q,1,el⟩=ek x1/\m7 Y ⟨q,0,el⟩=kS/\m7 Y ⟨q,1,el⟩=kS:=by
 simp[mm,m7,h]
def yD{W:ad}{k:Nat}{x y u v:aP}(a0:mm W ⟨k,0,el⟩=ek x)(a1:mm W ⟨k,1,el⟩=ek y) :
 mm (m8 (m8 W ⟨k,0,el⟩ u) ⟨k,1,el⟩ v) ⟨k,0,el⟩=ek u/\mm (m8 (m8 W ⟨k,0,el⟩ u) ⟨k,1,el⟩ v) ⟨k,1,el⟩=ek v/\
 (∀b o,b≠k->mm (m8 (m8 W ⟨k,0,el⟩ u) ⟨k,1,el⟩ v) ⟨b,o,el⟩=mm W ⟨b,o,el⟩)/\(∀p,m7 (m8 (m8 W ⟨k,0,el⟩ u) ⟨k,1,el⟩ v) p=m7 W p):=by
 refine⟨?_,?_,λb o hb=>?_,λp=>?_⟩
 .exact(nb _ _ _ _ ar).t (ni _ _ _ (by rw[a0];rfl))
 .exact ni _ _ _ (by rw[(nb _ _ _ _ ar).t a1];rfl)
 .exact(nb _ _ _ _ (λh=>hb (congrArg rq h).y)).t (nb _ _ _ _ (λh=>hb (congrArg rq h).y))
 .rw[nk,nk]
def Rs{W:ad}{B r:Nat}(e:B≠q)(b:r≠q)(c:Y.heap.size<=q){u v d v':Int}{y1:aP}(a0:mm W ⟨q,0,el⟩=ek (qr rQ R))(a1:mm W ⟨q,1,el⟩=ek (qr rQ M))(a2:m7 W ⟨q,0,el⟩=kS)(a3:m7 W ⟨q,1,el⟩=kS)
 (a4:mm W ⟨r,0,el⟩=ek J) (f:mm W ⟨r,1,el⟩=ek y1) (g:m7 W ⟨r,0,el⟩=kS) (h:m7 W ⟨r,1,el⟩=kS) (i:bL Y W) (j:u=d) (hv:v=v') :
 KeepsOthers W (m8 (m8 W ⟨q,0,el⟩ (qr rQ u)) ⟨q,1,el⟩ (qr rQ v))/\yC B W (m8 (m8 W ⟨q,0,el⟩ (qr rQ u)) ⟨q,1,el⟩ (qr rQ v))/\
 ((mm (m8 (m8 W ⟨q,0,el⟩ (qr rQ u)) ⟨q,1,el⟩ (qr rQ v)) ⟨q,0,el⟩=ek (qr rQ d)/\mm (m8 (m8 W ⟨q,0,el⟩ (qr rQ u)) ⟨q,1,el⟩ (qr rQ v)) ⟨q,1,el⟩=ek (qr rQ v')/\m7 (m8 (m8 W ⟨q,0,el⟩ (qr rQ u)) ⟨q,1,el⟩ (qr rQ v)) ⟨q,0,el⟩=kS/\m7 (m8 (m8 W ⟨q,0,el⟩ (qr rQ u)) ⟨q,1,el⟩ (qr rQ v)) ⟨q,1,el⟩=kS/\
 mm (m8 (m8 W ⟨q,0,el⟩ (qr rQ u)) ⟨q,1,el⟩ (qr rQ v)) ⟨r,0,el⟩=ek J/\mm (m8 (m8 W ⟨q,0,el⟩ (qr rQ u)) ⟨q,1,el⟩ (qr rQ v)) ⟨r,1,el⟩=ek y1/\m7 (m8 (m8 W ⟨q,0,el⟩ (qr rQ u)) ⟨q,1,el⟩ (qr rQ v)) ⟨r,0,el⟩=kS/\m7 (m8 (m8 W ⟨q,0,el⟩ (qr rQ u)) ⟨q,1,el⟩ (qr rQ v)) ⟨r,1,el⟩=kS)/\
 bL Y (m8 (m8 W ⟨q,0,el⟩ (qr rQ u)) ⟨q,1,el⟩ (qr rQ v))):=by
 subst j hv;obtain⟨c0,c1,a,c3⟩:=yD (u:=qr rQ u) (v:=qr rQ v) a0 a1;exact⟨(rN _ _ _).trans (rN _ _ _),λo=>a _ _ e,⟨c0,c1,(c3 _).t a2,(c3 _).t a3,(a _ _ b).t a4,(a _ _ b).t f,(c3 _).t g,(c3 _).t h⟩,(i.s (p:=⟨q,0,el⟩) c _).s (p:=⟨q,1,el⟩) c _⟩
abbrev iJ.val(q:iJ):Array aP:=#[qt q.name,qr rQ (q.n 1),qr rQ (q.n 2),qr rQ (q.n 3),qr rQ (q.n 4),qr rQ (q.n 5),qr rQ (q.n 6),qr rQ (q.n 7),qr rQ (q.n 8),qr rQ (q.n 9),qr rQ (q.n 10),qu q.lb q.ln q.lc]
def yF(q:iJ)(w:ad):bd PL 54 #[qv q.val] w λe w'=>e=r7 (qU (.func 82) #[] #[qG (ek ⟨w.heap.size,0,el⟩)])/\w'=mG w (rP q.val 49):=by
 go_enter (fx ao hh),Tryz.ntmps54;go_wp2;go_ret;exact⟨rfl,rfl⟩
def CD.kR(C:CD)(n:Int):aP:=if C.b6 (bO n 0 (C.n4-1))=0 then qH #[qv #[qr rQ (C.x4 n.toNat).low,qr rQ (C.x4 n.toNat).high],qr rQ 0] else qH #[qv #[qr rQ 0,qr rQ 0],qr rQ (C.b6 (bO n 0 (C.n4-1)))]
def nB(C:CD)(n:Int)(w:ad)(h:C.At w):bd PL 21 #[qv C.val,qr rQ n] w (aO (C.kR n) w):=by
 have H:=nV (λw1 o=>h.below (w':=w1) o);have m4:=h.m4;obtain⟨S,T,U,V,X,Y,Z,c3,b4,n4,c4,b5,n5,c5,hO⟩:∃(S T:Int)(U:Option bi)(V X:Nat)(Y:Option bi)(Z c3:Nat)(b4:Option bi)(n4 c4:Nat)(b5:Option bi)(n5 c5:Nat),∀W,C.At W->bd PL 31 #[qv C.val,qq (bO n 0 (C.n4-1))] W (aO (qH #[qv #[qr rQ S,qr rQ T,qu U V X,qu Y Z c3,qu b4 n4 c4,qu b5 n5 c5],qr rQ (C.b6 (bO n 0 (C.n4-1)))]) W):=by
  by_cases hf:C.b6 (bO n 0 (C.n4-1))=0
  .exact⟨_,_,_,_,_,_,_,_,_,_,_,_,_,_,λW L=>by rw[hf];exact kF hf L⟩
  .exact⟨_,_,_,_,_,_,_,_,_,_,_,_,_,_,λW L=>Kr hf L⟩
 have HO:=nV hO;have H1:=nV h;clear h hO;refine(cv (n:=9)).1 (db (fx ao fm) rfl trivial ?_ rfl);simp only[Tryz.ntmps21,eS,fo,ly,ob,ol,pD,pC,pT,pf,gB,fY];refine wpIn_wide.2 ?_;go_wp2;obtain⟨a,q⟩:=bs (mG (mG w (rP C.val 27)) (rP #[qr rQ 0,qr rQ 0] 30));have y:bL w a:=by rw[q];exact((li _ _).a (dk _) _).a ar _
 have z:Hid (C.Box w.heap.size a):=nV ⟨by rw[q];exact((((li (mG w (rP C.val 27)).heap.size _).a (dk _) _)).k _ ar).t (au w _)⟩;have M:Hid (a.heap[w.heap.size+1]?=ek (rP #[qr rQ 0,qr rQ 0] 30)):=nV (by rw[q];have:=au (mG w (rP C.val 27)) (rP #[qr rQ 0,qr rQ 0] 30);rwa[nl]at this);rw[<-q];clear q;obtain⟨f0,f1,f2,f3,f4,f5⟩:=bf z.o.Tj;have E:w.heap.size<a.heap.size:=getElem?_lt' z.o.Tj;have XZ:w.heap.size<a.heap.size+1:=ab
 go_cut [6,7] from 10 to 17 (fun(v6:aP)(v7:aP)(wx:ad)=>v7=qr rQ (C.b6 (bO n 0 (C.n4-1)))/\bL a wx)
 case first=>
  refine dc ?_
  go_region_with (first|(go_at_call 46;refine(AE C n _ m4).m ?_;rintro e w1⟨rfl,F⟩;obtain⟨lp,lR⟩:=cW F;(first|(with_reducible have d:=Below.on ((li a.heap.size a).d) F)|(have d:=Below.on ((li a.heap.size a).d.a (li a.heap.size a).d.z _) F;have aH:a.heap.size<w1.heap.size:=by have:=F.z;simp at this;omega));have dx:=d.z;obtain⟨g0,g1,g2,g3,N,g5⟩:=bf ((d.k _ E).t z.o.Tj);have hzw:w.heap.size<w1.heap.size:=bT E dx)|(go_at_call 31;refine(HO.o _ (H.o _ (Below.on y ?hb))).m ?_;(with_reducible case hb=>first|exact d|exact d.a d.z _);rintro e w2⟨rfl,O⟩;obtain⟨hc2,hf2⟩:=cW O;(with_reducible first|have t:=Below.on d O|have t:=Below.on (d.a d.z _) O)))
  all_goals (refine NoPanic.normal ?_;go_wp2_with fail;go_meet;case rel=>refine⟨rfl,?_⟩;with_reducible first|exact Below.zQ t (dk _) _ _ _ _ _ _|exact Below.zQ t dx _ _ _ _ _ _|exact t.a t.z _)
 case rest=>
  obtain⟨rfl,f⟩:=hcut;have b:w.heap.size+1<a.heap.size:=getElem?_lt' M.o;obtain⟨I,J,q0,q1⟩:=uJ ((f.k _ b).t M.o);by_cases hf:C.b6 (bO n 0 (C.n4-1))=0
  .have hA:=H.o wc (Below.on y f);have P:C.cx=0/\bO n 0 (C.n4-1)=kY:=by
    unfold CD.b6 at hf;split at hf
    .split at hf
     .exact⟨bo,bo⟩
     .cases hf
    .exact absurd hf bo
   obtain⟨hk,hb⟩:=P;have jH:0<=n/\n<=(C.n4:Int)-1:=by simpa[bO]using hb
   obtain⟨i,rfl⟩:=rk jH.1;have hi:i<C.n4:=ab;have mS:(i:Int)<C.n4:=ab;have OK:=nV (Kq hk hi);obtain⟨g0,g1,g2,g3,N,g5⟩:=bf ((f.k _ E).t z.o.Tj);rw[hA.s4 ab]at N;have k0:=hA.AD i hi;have k1:=hA.dB i hi 1 ab ab;have k2:=hA.dB i hi 2 ab ab;have k3:=hA.dB i hi 3 ab ab;have k4:=hA.dB i hi 4 ab ab;have k5:=hA.dB i hi 5 ab ab;have k6:=hA.dB i hi 6 ab ab;have k7:=hA.dB i hi 7 ab ab;have k8:=hA.dB i hi 8 ab ab;have k9:=hA.dB i hi 9 ab ab;have CG:=hA.dB i hi 10 ab ab;have CH:=hA.nj i hi;have ER:=hA.h4;have wD:w.heap.size<wc.heap.size:=bT E f.z;rw[hf];clear hA hk hb jH f0 f1 f2 f3 f4 f5
   go_wp2_with (go_at_call 54;refine(yF (C.x4 i) _).m ?_;rintro e w'⟨rfl,rfl⟩)
   obtain⟨j,m⟩:=bs (mG (mG wc (rP #[qr rQ 90,qr rQ 0] 30)) (rP (C.x4 i).val 49));have vL:j.heap.size=wc.heap.size+2:=by rw[m];simp
   have d:bL wc j:=by rw[m];exact((li _ _).a (dk _) _).a ar _
   have hp:j.heap[wc.heap.size+1]?=ek (rP (C.x4 i).val 49):=by
    have:=au (mG wc (rP #[qr rQ 90,qr rQ 0] 30)) (rP (C.x4 i).val 49);rw[nl]at this;rw[m];exact this
   have hq:j.heap[wc.heap.size]?=ek (rP #[qr rQ 90,qr rQ 0] 30):=by
    rw[m];exact((((li (mG wc (rP #[qr rQ 90,qr rQ 0] 30)).heap.size _).a (dk _) _)).k _ ar).t (au wc _)
   have Yc:=(d.k _ (bT b f.z)).t ((f.k _ b).t M.o);have hrw:w.heap.size+1<wc.heap.size:=bT b f.z;have k:bL w j:=Below.on (Below.on y f) d;rw[<-m];clear m k0 k1 k2 k3 k4 k5 k6 k7 k8 k9 CG CH g0 g1 g2 g3 N g5 I J q0 q1;obtain⟨p0,p1,p2,p3,p4,p5,p6,p7,p8,p9,Cz,Fy⟩:=gx hp;obtain⟨I,J,q0,q1⟩:=uJ Yc;obtain⟨t0,t1,u0,u1⟩:=uJ hq;obtain⟨o1,o2,o3,o4,o5,o6⟩:=OK.o;refine(wpIn_wide (n:=9)).1 ?_;refine dL rfl ab (gf:=82) (lb:=#[qG (ek ⟨wc.heap.size+1,0,el⟩)]) rfl trivial (enters_of (fx ao kg) ae rfl)
    (tg 8 ab (wc.heap.size+1) ((C.x4 i).n 1) ((C.x4 i).n 3) ((C.x4 i).n 2-(C.x4 i).n 1+1).toNat ((C.x4 i).n 4-(C.x4 i).n 3+1).toNat o1 ab ab o4 ab ab j ab p1 (by rw[p2];congr 2;omega) p3 (by rw[p4];congr 2;omega))
    Km (Ko ab) (li _ _) (λ_=>rfl)
    (λg W=>(mm W ⟨wc.heap.size,0,el⟩=ek (qr rQ (g.foldl min 90))/\mm W ⟨wc.heap.size,1,el⟩=ek (qr rQ (g.foldl max 0))/\m7 W ⟨wc.heap.size,0,el⟩=kS/\m7 W ⟨wc.heap.size,1,el⟩=kS/\mm W ⟨w.heap.size+1,0,el⟩=ek (qr rQ 0)/\mm W ⟨w.heap.size+1,1,el⟩=ek (qr rQ 0)/\m7 W ⟨w.heap.size+1,0,el⟩=kS/\m7 W ⟨w.heap.size+1,1,el⟩=kS)/\bL w W)
    (λ_ _ _=>False)
    (OwnFrom.and (Own.from (λs A B row hs hg b=>⟨dO hs.1 hg b,dO hs.2.1 hg b,(dQ hs.1 hg b).t hs.2.2.1,(dQ hs.2.1 hg b).t hs.2.2.2.1,dO hs.2.2.2.2.1 hg b,dO hs.2.2.2.2.2.1 hg b,(dQ hs.2.2.2.2.1 hg b).t hs.2.2.2.2.2.2.1,(dQ hs.2.2.2.2.2.1 hg b).t hs.2.2.2.2.2.2.2⟩) _) (dU (dk _) (by have:=k.z;omega)))
    (λ_ _ _ _ _ hs _ _=>hs)
    ⟨⟨t0,t1,u0,u1,I,J,q0,q1⟩,k⟩
    (λx=>{ tmps:=#[qv C.val,qr rQ i,qG (ek ⟨w.heap.size,0,el⟩),undef,qG (ek ⟨w.heap.size+1,0,el⟩),qr rQ 0,u6,qr rQ 0,qG (ek ⟨wc.heap.size,0,el⟩),qr rQ x,u10,u11,u12,u13,u14,u15,u16,u17,qr rQ 0,qq kS,undef,undef,qv #[qr rQ 90,qr rQ 0],qG (ek ⟨w.heap.size,4,el⟩),qu (ek ⟨C.k4,C.o4,el⟩) C.n4 C.c4,qr rQ i,qG (ek ⟨C.k4,C.o4+i*12,el⟩),qv (C.x4 i).val,qU (.func 82) #[] #[qG (ek ⟨wc.heap.size+1,0,el⟩)],qr rQ x,undef,undef,undef,undef,undef,undef,undef,undef,undef,undef,undef],defers:=[] }) ?assign ?body ?done ?stop
   case assign=>
    intro l x W K Q
    gi_wp2
    exact Q
   case body=>
    rintro l g x W⟨⟨a0,a1,a2,a3,a4,R,a6,a7⟩,o⟩_
    gi_wp2
    all_goals (
     refine Rs ab ab ab a0 a1 a2 a3 a4 R a6 a7 o ?_ ?_
     .rw[lh];simp only[cB,mc];omega
     .rw[lh];simp only[cB,mc];omega)
   case done=>
    rintro D ys W hD rfl⟨⟨a0,a1,a2,a3,a4,R,a6,a7⟩,o⟩Q;replace a0:mm W ⟨wc.heap.size,0,el⟩=ek (qr rQ (C.x4 i).low):=a0;replace a1:mm W ⟨wc.heap.size,1,el⟩=ek (qr rQ (C.x4 i).high):=a1;go_wp2;have hK':=((rN W ⟨w.heap.size+1,0,el⟩ (qr rQ (C.x4 i).low)).trans (rN _ ⟨w.heap.size+1,1,el⟩ (qr rQ (C.x4 i).high))).same D _ Q rfl;obtain⟨d0,d1,_,_⟩:=yD (u:=qr rQ (C.x4 i).low) (v:=qr rQ (C.x4 i).high) a4 R;have e0:=dO d0 (d8 _ D (.deferred el)) (λr e=>by cases e;exact⟨_,hK',rfl⟩);have e1:=dO d1 (d8 _ D (.deferred el)) (λr e=>by cases e;exact⟨_,hK',rfl⟩);refine⟨ar,r8 ⟨_,_,rfl,d9 hK',?_⟩⟩;refine⟨C.kR i,?_,rfl,(((o.s (p:=⟨w.heap.size+1,0,el⟩) (n1 _) _).s (p:=⟨w.heap.size+1,1,el⟩) (n1 _) _)).t (belowK_b (w:=w) (dk _) _ D _ _ (by have:=k.z;omega) hK' rfl rfl)⟩;rw[CD.kR,if_pos hf];simp[cl,kp,go_sem,e0,e1]
   case stop=>
    rintro D c g W _ _ h _;exact h.elim
  .have hn:(C.b6 (bO n 0 (C.n4-1)) != 0)=kY:=by simpa using hf
   have HF:=nV hf;clear hf f0 f1 f2 f3 f4 f5;go_wp2;refine⟨C.kR n,?_,rfl,?_⟩
   .rw[CD.kR,if_neg HF.o];simp[cl,kp,go_sem,I,J]
   .exact((Below.on y f).s (p:=⟨w.heap.size+1,0,el⟩) (n1 _) _).s (p:=⟨w.heap.size+1,1,el⟩) (n1 _) _
def Rt(hc:C.cx=0)(hi:q<C.n4):0<=(C.x4 q).n 5/\(C.x4 q).n 5<C.n2:=by
 have b:kA C.p C.n2 C.n3 C.n4 C.x4=0:=ck hc 3 ab;unfold kA at b;split at b
 case isFalse=>cases b
 have a:=ck b q hi;unfold gM at a;split at a
 case isFalse h=>exact absurd a h
 split at a
 case isFalse=>cases a
 split at a
 .cases a
 split at a
 case isFalse=>cases a
 rename_i c;simp only[bO,dd,decide_eq_true_eq]at c;omega
def ij(n a b:Int)(w:ad):bd PL 52 #[qr rQ n,qr rQ a,qr rQ b] w λe w'=>e=r7 (qq (bO n a b))/\w=w':=(bG n a b w).m λ_ _⟨a,b⟩=>⟨a,b.y⟩
def rM{b:Int}(h:bO M R b=kY)(w:ad):bd PL 52 #[qr rQ M,qr rQ R,qr rQ b] w λe w'=>e=r7 (qq kY)/\w=w':=by
 have:=ij M R b w;rwa[h]at this
def yG{b:Int}(h:bO M R b=kS)(w:ad):bd PL 52 #[qr rQ M,qr rQ R,qr rQ b] w λe w'=>e=r7 (qq kS)/\w=w':=by
 have:=ij M R b w;rwa[h]at this
def yH(a b:Bool)(w:ad):bd PL 55 #[qq a,qq b] w λe w'=>e=r7 (qr rQ (Ej a b))/\w=w':=(U5 a b w).m λ_ _⟨a,b⟩=>⟨a,b.y⟩
def aaA(h:Y.heap[q]?=ek (rP #[J] O)):mm Y ⟨q,0,el⟩=ek J/\m7 Y ⟨q,0,el⟩=kS:=by
 simp[mm,m7,h]
def CD.sz(C:CD)(i:Nat):Int×Int:=C.x2 ((C.x4 i).n 5).toNat
def CD.zR(C:CD)(i:Nat)(x:Int):Bool:=bO x (C.sz i).1 (C.sz i).2
def CD.Cm(C:CD)(i:Nat):Int:=Ej ((C.x4 i).NY.any (C.zR i)) ((C.x4 i).NY.any λx=>!C.zR i x)
def CD.iq(C:CD)(n:Int):aP:=if C.b6 (bO n 0 (C.n4-1))=0 then qH #[qr rQ (C.Cm n.toNat),qr rQ 0] else qH #[qr rQ 0,qr rQ (C.b6 (bO n 0 (C.n4-1)))]
def pH(C:CD)(n:Int)(w:ad)(h:C.At w):bd PL 22 #[qv C.val,qr rQ n] w (aO (C.iq n) w):=by
 have H:=nV (λw1 y=>h.below (w':=w1) y);have m4:=h.m4;obtain⟨i0,i1,b2,n2,c2,b3,n3,c3,b4,n4,c4,b5,n5,c5,hO⟩:∃(i0 i1:Int)(b2:Option bi)(n2 c2:Nat)(b3:Option bi)(n3 c3:Nat)(b4:Option bi)(n4 c4:Nat)(b5:Option bi)(n5 c5:Nat),∀W,C.At W->bd PL 31 #[qv C.val,qq (bO n 0 (C.n4-1))] W (aO (qH #[qv #[qr rQ i0,qr rQ i1,qu b2 n2 c2,qu b3 n3 c3,qu b4 n4 c4,qu b5 n5 c5],qr rQ (C.b6 (bO n 0 (C.n4-1)))]) W):=by
  by_cases hf:C.b6 (bO n 0 (C.n4-1))=0
  .exact⟨_,_,_,_,_,_,_,_,_,_,_,_,_,_,λW Y=>by rw[hf];exact kF hf Y⟩
  .exact⟨_,_,_,_,_,_,_,_,_,_,_,_,_,_,λW Y=>Kr hf Y⟩
 have HO:=nV hO;have H1:=nV h;clear h hO;refine(cv (n:=9)).1 (db (fx ao fp) rfl trivial ?_ rfl);simp only[Tryz.ntmps22,eS,fo,ly,ob,ol,pD,pC,pT,pf,gB,fY];refine wpIn_wide.2 ?_;go_wp2;obtain⟨d,R⟩:=bs (mG w (rP C.val 27));have J:bL w d:=by rw[R];exact(li _ _).a (dk _) _
 have S:Hid (C.Box w.heap.size d):=nV ⟨by rw[R];exact au w _⟩;rw[<-R];clear R;obtain⟨f0,f1,f2,f3,f4,f5⟩:=bf S.o.Tj;have T:w.heap.size<d.heap.size:=getElem?_lt' S.o.Tj;have XZ:w.heap.size<d.heap.size+1:=ab
 go_cut [6,7] from 12 to 19 (fun(v6:aP)(v7:aP)(Z:ad)=>v7=qr rQ (C.b6 (bO n 0 (C.n4-1)))/\bL d Z)
 case first=>
  refine dc ?_
  go_region_with (first|(go_at_call 46;refine(AE C n _ m4).m ?_;rintro e w1⟨rfl,U⟩;obtain⟨lp,lR⟩:=cW U;(first|(with_reducible have j:=Below.on ((li d.heap.size d).d) U)|(have j:=Below.on ((li d.heap.size d).d.a (li d.heap.size d).d.z _) U;have aH:d.heap.size<w1.heap.size:=by have:=U.z;simp at this;omega));have dx:=j.z;obtain⟨g0,g1,g2,g3,L,g5⟩:=bf ((j.k _ T).t S.o.Tj);have hzw:w.heap.size<w1.heap.size:=bT T dx)|(go_at_call 31;refine(HO.o _ (H.o _ (Below.on J ?hb))).m ?_;(with_reducible case hb=>first|exact j|exact j.a j.z _);rintro e w2⟨rfl,qA⟩;obtain⟨hc2,hf2⟩:=cW qA;(with_reducible first|have b:=Below.on j qA|have b:=Below.on (j.a j.z _) qA)))
  all_goals (refine NoPanic.normal ?_;go_wp2_with fail;go_meet;case rel=>refine⟨rfl,?_⟩;with_reducible first|exact Below.zQ b (dk _) _ _ _ _ _ _|exact Below.zQ b dx _ _ _ _ _ _|exact b.a b.z _)
 case rest=>
  obtain⟨rfl,z⟩:=hcut;by_cases hf:C.b6 (bO n 0 (C.n4-1))=0
  .have hA:=H.o wc (Below.on J z);have hck:C.cx=0/\bO n 0 (C.n4-1)=kY:=by
    unfold CD.b6 at hf;split at hf
    .split at hf
     .exact⟨bo,bo⟩
     .cases hf
    .exact absurd hf bo
   obtain⟨hk,hb⟩:=hck;have jH:0<=n/\n<=(C.n4:Int)-1:=by simpa[bO]using hb
   obtain⟨i,rfl⟩:=rk jH.1;have hi:i<C.n4:=ab;have mS:(i:Int)<C.n4:=ab;have OK:=nV (Kq hk hi);obtain⟨z1,z2⟩:=Rt hk hi;have r:((C.x4 i).n 5).toNat<C.n2:=ab;obtain⟨g0,g1,g2,g3,L,g5⟩:=bf ((z.k _ T).t S.o.Tj);rw[hA.s4 ab]at L;rw[hA.s2 ab]at g2;have k0:=hA.AD i hi;have k1:=hA.dB i hi 1 ab ab;have k2:=hA.dB i hi 2 ab ab;have k3:=hA.dB i hi 3 ab ab;have k4:=hA.dB i hi 4 ab ab;have k5:=hA.dB i hi 5 ab ab;have k6:=hA.dB i hi 6 ab ab;have k7:=hA.dB i hi 7 ab ab;have k8:=hA.dB i hi 8 ab ab;have k9:=hA.dB i hi 9 ab ab;have CG:=hA.dB i hi 10 ab ab;have CH:=hA.nj i hi;have y0:=hA.Ep _ r;have y1:=hA.Er _ r;have g:=hA.h4;have ND:=hA.h2;have wD:w.heap.size<wc.heap.size:=bT T z.z;rw[hf];clear hA hk hb jH f0 f1 f2 f3 f4 f5 r
   go_upto_region 4 with fail
   go_cut [8] from 23 to 32 (fun(v8:aP)(Z:ad)=>v8=qG (ek ⟨wc.heap.size,0,el⟩)/\Z=mG wc.drew (rP #[qr rQ (C.x2 ((C.x4 i).n 5).toNat).1,qr rQ (C.x2 ((C.x4 i).n 5).toNat).2] 30))
   case first=>
    refine dc ?_
    go_region
    all_goals (refine NoPanic.normal ?_;go_wp2_with fail;go_meet;case rel=>exact⟨rfl,rfl⟩)
   case rest=>
    obtain⟨rfl,rfl⟩:=hcut;obtain⟨a,M⟩:=bs (mG wc.drew (rP #[qr rQ (C.x2 ((C.x4 i).n 5).toNat).1,qr rQ (C.x2 ((C.x4 i).n 5).toNat).2] 30));have b:bL wc a:=by rw[M];exact(li wc.heap.size wc).d.a (li wc.heap.size wc).d.z _
    have N:a.heap[wc.heap.size]?=ek (rP #[qr rQ (C.x2 ((C.x4 i).n 5).toNat).1,qr rQ (C.x2 ((C.x4 i).n 5).toNat).2] 30):=by
     have:=au wc.drew (rP #[qr rQ (C.x2 ((C.x4 i).n 5).toNat).1,qr rQ (C.x2 ((C.x4 i).n 5).toNat).2] 30);rw[M];exact this
    have E:a.heap.size=wc.heap.size+1:=by rw[M,nl];rfl
    rw[<-M];clear M;replace L:=(b.c (p:=⟨w.heap.size,4,el⟩) wD).t L;replace k0:=(b.c (p:=⟨C.k4,C.o4+i*12,el⟩) g).t k0;replace k1:=(b.c (p:=⟨C.k4,C.o4+i*12+1,el⟩) g).t k1;replace k2:=(b.c (p:=⟨C.k4,C.o4+i*12+2,el⟩) g).t k2;replace k3:=(b.c (p:=⟨C.k4,C.o4+i*12+3,el⟩) g).t k3;replace k4:=(b.c (p:=⟨C.k4,C.o4+i*12+4,el⟩) g).t k4;replace k5:=(b.c (p:=⟨C.k4,C.o4+i*12+5,el⟩) g).t k5;replace k6:=(b.c (p:=⟨C.k4,C.o4+i*12+6,el⟩) g).t k6;replace k7:=(b.c (p:=⟨C.k4,C.o4+i*12+7,el⟩) g).t k7;replace k8:=(b.c (p:=⟨C.k4,C.o4+i*12+8,el⟩) g).t k8;replace k9:=(b.c (p:=⟨C.k4,C.o4+i*12+9,el⟩) g).t k9;replace CG:=(b.c (p:=⟨C.k4,C.o4+i*12+10,el⟩) g).t CG;replace CH:=(b.c (p:=⟨C.k4,C.o4+i*12+11,el⟩) g).t CH;replace g:C.k4<a.heap.size:=ab;replace wD:w.heap.size<a.heap.size:=by omega
    clear g0 g1 g2 g3 g5 y0 y1;have k:=nV E;have HQ2:=nV N;clear E N
    go_wp2_with (go_at_call 54;refine(yF (C.x4 i) _).m ?_;rintro e w'⟨rfl,rfl⟩)
    obtain⟨m,t⟩:=bs (mG (mG (mG a (rP #[qq kS] 4)) (rP #[qq kS] 4)) (rP (C.x4 i).val 49));have V:m.heap.size=a.heap.size+3:=by rw[t];simp
    have j:bL a m:=by rw[t];exact(((li _ _).a (dk _) _).a ar _).a (by simp;omega) _
    have hp:m.heap[a.heap.size+1+1]?=ek (rP (C.x4 i).val 49):=by
     have:=au (mG (mG a (rP #[qq kS] 4)) (rP #[qq kS] 4)) (rP (C.x4 i).val 49);rw[nl,nl]at this;rw[t];exact this
    have YH:m.heap[a.heap.size]?=ek (rP #[qq kS] 4):=by
     rw[t];exact((((li (mG a (rP #[qq kS] 4)).heap.size _).a (dk _) _).a ar _).k _ ar).t (au a _)
    have ht1:m.heap[a.heap.size+1]?=ek (rP #[qq kS] 4):=by
     have h1:=au (mG a (rP #[qq kS] 4)) (rP #[qq kS] 4);rw[nl]at h1;rw[t];exact(((li (mG (mG a (rP #[qq kS] 4)) (rP #[qq kS] 4)).heap.size _).a (dk _) _).k _ ar).t h1
    have E:=k.o;have hqq:=(j.k _ ab).t HQ2.o;have u:bL w m:=Below.on (Below.on (Below.on J z) b) j;have O:w.heap.size<=a.heap.size:=(Below.on (Below.on J z) b).z;rw[<-t];clear t k0 k1 k2 k3 k4 k5 k6 k7 k8 k9 CG CH L;obtain⟨p0,p1,p2,p3,p4,p5,p6,p7,p8,p9,Cz,Fy⟩:=gx hp;obtain⟨t0,t1,u0,u1⟩:=uJ hqq;obtain⟨v0,x0⟩:=aaA YH;obtain⟨v1,x1⟩:=aaA ht1;obtain⟨o1,o2,o3,o4,o5,o6⟩:=OK.o;have HS1:=nV V;refine(wpIn_wide (n:=9)).1 ?_;refine dL rfl ab (gf:=82) (lb:=#[qG (ek ⟨a.heap.size+1+1,0,el⟩)]) rfl trivial (enters_of (fx ao kg) ae rfl)
     (tg 8 ab (a.heap.size+1+1) ((C.x4 i).n 1) ((C.x4 i).n 3) ((C.x4 i).n 2-(C.x4 i).n 1+1).toNat ((C.x4 i).n 4-(C.x4 i).n 3+1).toNat o1 ab ab o4 ab ab m ab p1 (by rw[p2];congr 2;omega) p3 (by rw[p4];congr 2;omega))
     Km (Ko ab) (li _ _) (λ_=>rfl)
     (λq W=>(mm W ⟨wc.heap.size,0,el⟩=ek (qr rQ (C.sz i).1)/\mm W ⟨wc.heap.size,1,el⟩=ek (qr rQ (C.sz i).2)/\mm W ⟨a.heap.size,0,el⟩=ek (qq (q.any (C.zR i)))/\mm W ⟨a.heap.size+1,0,el⟩=ek (qq (q.any λx=>!C.zR i x))/\m7 W ⟨a.heap.size,0,el⟩=kS/\m7 W ⟨a.heap.size+1,0,el⟩=kS)/\bL w W)
     (λ_ _ _=>False)
     (OwnFrom.and (Own.from (λs A B row hs hg F=>⟨dO hs.1 hg F,dO hs.2.1 hg F,dO hs.2.2.1 hg F,dO hs.2.2.2.1 hg F,(dQ hs.2.2.1 hg F).t hs.2.2.2.2.1,(dQ hs.2.2.2.1 hg F).t hs.2.2.2.2.2⟩) _) (dU (dk _) (by have:=u.z;omega)))
     (λ_ _ _ _ _ hs _ _=>hs)
     ⟨⟨t0,t1,v0,v1,x0,x1⟩,u⟩
     (λx=>{ tmps:=#[qv C.val,qr rQ i,qG (ek ⟨w.heap.size,0,el⟩),undef,qr rQ 0,qr rQ 0,u6,qr rQ 0,qG (ek ⟨wc.heap.size,0,el⟩),qG (ek ⟨a.heap.size,0,el⟩),qG (ek ⟨a.heap.size+1,0,el⟩),qr rQ x,u12,u13,u14,u15,u16,u17,u18,u19,qr rQ 0,qq kS,undef,u23,u24,u25,u26,u27,u28,u29,u30,u31,u32,qG (ek ⟨w.heap.size,4,el⟩),qu (ek ⟨C.k4,C.o4,el⟩) C.n4 C.c4,qr rQ i,qG (ek ⟨C.k4,C.o4+i*12,el⟩),qv (C.x4 i).val,qU (.func 82) #[] #[qG (ek ⟨a.heap.size+1+1,0,el⟩)],qr rQ x,undef,undef,undef,undef,undef,undef,undef,undef,undef],defers:=[] }) ?assign ?body ?done ?stop
    case assign=>
     intro l x W K X;clear E V
     gi_wp2
     exact X
    case body=>
     rintro l q x W⟨⟨a0,a1,a2,a3,a4,a5⟩,y⟩_;clear E V;have bu:a.heap.size≠wc.heap.size:=by have:=k.o;omega
     by_cases I:C.zR i x=kY
     .have P:=nV I;have Q:bO x (C.sz i).1 (C.sz i).2=kY:=I;have v:=nV Q;clear I Q
      gi_wp2_with (refine⟨trivial,?_⟩;gi_at_call 52;refine(CallsIn.inRound l (callsIn_wide.2 (rM v.o _))).mono ?_;rintro e w'⟨rfl,rfl⟩)
      refine⟨rN _ _ _,λo=>nb _ _ _ _ (λh=>by have f:=congrArg rq h;have:=k.o;simp only at f;omega),⟨(nb _ _ _ _ (λh=>by have f:=congrArg rq h;have:=k.o;simp only at f;omega)).t a0,(nb _ _ _ _ (λh=>by have f:=congrArg rq h;have:=k.o;simp only at f;omega)).t a1,?_,(nb _ _ _ _ (λh=>by have f:=congrArg rq h;have:=k.o;simp only at f;omega)).t (by rw[a3];simp[P.o]),by rw[nk];exact a4,by rw[nk];exact a5⟩,y.s (p:=⟨a.heap.size,0,el⟩) O _⟩;rw[ni _ _ _ (by rw[a2];rfl)];simp[P.o]
     .have P:=nV (aV I);have Q:bO x (C.sz i).1 (C.sz i).2=kS:=aV I;have v:=nV Q;clear I Q
      gi_wp2_with (refine⟨trivial,?_⟩;gi_at_call 52;refine(CallsIn.inRound l (callsIn_wide.2 (yG v.o _))).mono ?_;rintro e w'⟨rfl,rfl⟩)
      refine⟨rN _ _ _,λo=>nb _ _ _ _ (λh=>by have f:=congrArg rq h;have:=k.o;simp only at f;omega),⟨(nb _ _ _ _ (λh=>by have f:=congrArg rq h;have:=k.o;simp only at f;omega)).t a0,(nb _ _ _ _ (λh=>by have f:=congrArg rq h;have:=k.o;simp only at f;omega)).t a1,(nb _ _ _ _ (λh=>by have f:=congrArg rq h;have:=k.o;simp only at f;omega)).t (by rw[a2];simp[P.o]),?_,by rw[nk];exact a4,by rw[nk];exact a5⟩,y.s (p:=⟨a.heap.size+1,0,el⟩) (n0 O) _⟩;rw[ni _ _ _ (by rw[a3];rfl)];simp[P.o]
    case done=>
     rintro D ys W hD rfl⟨⟨a0,a1,a2,a3,a4,a5⟩,y⟩X;replace a2:mm W ⟨a.heap.size,0,el⟩=ek (qq ((C.x4 i).NY.any (C.zR i))):=a2;replace a3:mm W ⟨a.heap.size+1,0,el⟩=ek (qq ((C.x4 i).NY.any λx=>!C.zR i x)):=a3;clear E V
     go_wp2_with (go_at_call 55;refine(yH _ _ _).m ?_;rintro e w'⟨rfl,rfl⟩)
     refine⟨ar,r8 ⟨_,_,rfl,d9 X,?_⟩⟩;refine⟨C.iq i,?_,rfl,y.t (belowK_b (w:=w) (dk _) _ D _ _ (by have:=u.z;omega) X rfl rfl)⟩;rw[CD.iq,if_pos hf];simp[cl,kq,go_sem,CD.Cm]
    case stop=>
     rintro D c q W _ _ h _;exact h.elim
  .have hn:(C.b6 (bO n 0 (C.n4-1)) != 0)=kY:=by simpa using hf
   have HF:=nV hf;clear hf f0 f1 f2 f3 f4 f5;go_wp2;refine⟨C.iq n,?_,rfl,?_⟩
   .rw[CD.iq,if_neg HF.o];simp[cl,kq,go_sem]
   .exact Below.on J z
end Go.Proofs
namespace Go.Proofs
set_option maxHeartbeats 1000000
open Go.RowKit
variable {L:CD}
variable {O q:ad}{C Y:Nat}{J:aP}{R:List aP}{M:List Int}
def Kt{n:Int}(h:L.b6 (bO n 0 (L.n4-1))=0)(k:L.At q):bd PL 49 #[qv L.val,qr rQ n] q (aO (qr rQ 0) q):=by
 have:=uE L n q k;rwa[h]at this
def yK(h:L.At q)(hi:C<L.n4):L.b4=ek ⟨L.k4,L.o4,el⟩/\mm q ⟨L.k4,L.o4+C*12,el⟩=ek (qt (L.x4 C).name)/\mm q ⟨L.k4,L.o4+C*12+1,el⟩=ek (qr rQ ((L.x4 C).n 1))/\mm q ⟨L.k4,L.o4+C*12+2,el⟩=ek (qr rQ ((L.x4 C).n 2))/\mm q ⟨L.k4,L.o4+C*12+3,el⟩=ek (qr rQ ((L.x4 C).n 3))/\mm q ⟨L.k4,L.o4+C*12+4,el⟩=ek (qr rQ ((L.x4 C).n 4))/\mm q ⟨L.k4,L.o4+C*12+5,el⟩=ek (qr rQ ((L.x4 C).n 5))/\mm q ⟨L.k4,L.o4+C*12+6,el⟩=ek (qr rQ ((L.x4 C).n 6))/\mm q ⟨L.k4,L.o4+C*12+7,el⟩=ek (qr rQ ((L.x4 C).n 7))/\mm q ⟨L.k4,L.o4+C*12+8,el⟩=ek (qr rQ ((L.x4 C).n 8))/\mm q ⟨L.k4,L.o4+C*12+9,el⟩=ek (qr rQ ((L.x4 C).n 9))/\mm q ⟨L.k4,L.o4+C*12+10,el⟩=ek (qr rQ ((L.x4 C).n 10))/\mm q ⟨L.k4,L.o4+C*12+11,el⟩=ek (qu (L.x4 C).lb (L.x4 C).ln (L.x4 C).lc)/\L.k4<q.heap.size:=⟨h.s4 ab,h.AD C hi,h.dB C hi 1 ab ab,h.dB C hi 2 ab ab,h.dB C hi 3 ab ab,h.dB C hi 4 ab ab,h.dB C hi 5 ab ab,h.dB C hi 6 ab ab,h.dB C hi 7 ab ab,h.dB C hi 8 ab ab,h.dB C hi 9 ab ab,h.dB C hi 10 ab ab,h.nj C hi,h.h4⟩
def yL{W:ad}{r:Nat}{x y u v:aP}{t:ac}(h:W.heap[r]?=ek (rP #[x,y] t)):(m8 (m8 W ⟨r,0,el⟩ u) ⟨r,1,el⟩ v).heap[r]?=ek (rP #[u,v] t):=by
 simp only[m8,dq,if_pos,h,il];rfl
def tv{v:aP}(hb:Y≠C):(m8 (m8 q ⟨C,0,el⟩ J) ⟨C,1,el⟩ v).heap[Y]?=q.heap[Y]?:=by
 simp only[m8,dq,if_neg (gr hb)]
def below_drewN(h:Below C q O):∀k,Below C q (m9 O k):=λk=>by
 obtain⟨a,b,c,d,e⟩:=h;exact⟨a,b,c,d,e⟩
def yM:PL.stoodInHeld 30=kS:=ae
def Co:PL.eqGuardType PL.depth 30=kS:=ae
structure KB(C:CD)(w W:ad):Prop where
 box:W.heap[w.heap.size]?=ek (rP C.val 27)
 low:bL w W
def KB.on{C:CD}{w W a:ad}(h:KB C w W)(b:bL W a):KB C w a:=
 ⟨(b.k _ (getElem?_lt' h.box)).t h.box,Below.on h.low b⟩
def KB.alloc(h:KB L q O)(o:Obj):KB L q (mG O o):=h.on ((li _ _).a (dk _) _)
def KB.lt(h:KB L q O):q.heap.size<O.heap.size:=getElem?_lt' h.box
def CD.Mem.below{C:CD}{w w':ad}(h:C.Mem w)(a:bL w w'):C.Mem w':=by
 have s:=a.z;have d:∀o,mm w' ⟨C.k2,o,el⟩=mm w ⟨C.k2,o,el⟩:=λo=>a.c (p:=⟨C.k2,o,el⟩) h.h2;have b:∀o,mm w' ⟨C.k3,o,el⟩=mm w ⟨C.k3,o,el⟩:=λo=>a.c (p:=⟨C.k3,o,el⟩) h.h3;have c:∀o,mm w' ⟨C.k4,o,el⟩=mm w ⟨C.k4,o,el⟩:=λo=>a.c (p:=⟨C.k4,o,el⟩) h.h4;have e5:∀o,mm w' ⟨C.k5,o,el⟩=mm w ⟨C.k5,o,el⟩:=λo=>a.c (p:=⟨C.k5,o,el⟩) h.h5;obtain⟨h2,h3,h4,h5,s2,s3,s4,s5,Ep,Er,Es,Et,Eu,AD,dB,nj,l4,J5,FI,HU,J6⟩:=h
 exact⟨ab,ab,ab,ab,s2,s3,s4,s5,λi hi=>(d _).t (Ep i hi),λi hi=>(d _).t (Er i hi),λi hi=>(b _).t (Es i hi),λi hi=>(b _).t (Et i hi),λi hi=>(b _).t (Eu i hi),
  λi hi=>(c _).t (AD i hi),λi hi j e h2=>(c _).t (dB i hi j e h2),λi hi=>(c _).t (nj i hi),λi hi hl=>⟨(l4 i hi hl).1,bT (l4 i hi hl).2 s⟩,
  λi hi j f=>(a.c (p:=⟨(C.x4 i).lk,(C.x4 i).lo+j,el⟩) (l4 i hi ab).2).t (J5 i hi j f),λi hi=>(e5 _).t (FI i hi),λi hi=>(e5 _).t (HU i hi),λi hi=>(e5 _).t (J6 i hi)⟩
def Reads(W:ad)(v:aP)(n m:Nat)(f:Nat->aP):Prop:=∃b c,v=qu b n c/\(0<n->∃k o,b=ek ⟨k,o,el⟩/\k<W.heap.size/\∀j,j<n*m->mm W ⟨k,o+j,el⟩=ek (f j))
def Reads.on{f:Nat->aP}(h:Reads q J C Y f)(d:bL q O):Reads O J C Y f:=by
 obtain⟨b,c,e,h⟩:=h;refine⟨b,c,e,λi=>?_⟩;obtain⟨k,o,e1,g,hc⟩:=h i;exact⟨k,o,e1,bT g d.z,λj l=>(d.c (p:=⟨k,o+j,el⟩) g).t (hc j l)⟩
def aaC:PL.stoodInHeld 73=kS:=ae
def Vy:PL.eqGuardType PL.depth 73=kS:=ae
def Rw:PL.stoodInHeld 76=kS:=ae
def Kv:PL.eqGuardType PL.depth 76=kS:=ae
def pI(a b:aP)(n:Nat)(f:Nat->Int)(w:ad)(c:Reads w a n 1 λj=>qr rQ (f j))(hb:Reads w b n 1 λj=>qr rQ (f j))(h:n<=20):bd PL 13 #[a,b] w (aO (qq kY) w):=by
 obtain⟨r,s,rfl,c⟩:=c;obtain⟨t,u,rfl,hb⟩:=hb
 rcases cd n with rfl|e
 .clear c hb h;go_enter (fx ao fA),kt;go_wp2
  go_loop [5] (λv=>v=qr rQ 0) (λ_=>0)
  case atStart=>rfl
  case round=>
   subst hrel;go_wp2;go_ret;exact⟨rfl,li _ _⟩
 .obtain⟨k,o,rfl,i,c⟩:=c e;obtain⟨k',g,rfl,l,hb⟩:=hb e;have A:=nV c;have B:=nV hb;clear c hb;go_enter (fx ao fA),kt;go_wp2
  go_loopw [5] (λv wr=>∃q:Nat,q<=n/\v=qr rQ q/\bL w wr) (λv _=>n-(intOf v).toNat)
  case atStart=>exact⟨0,eF _,rfl,li _ _⟩
  case round=>
   obtain⟨q,x,rfl,d⟩:=hrel;by_cases m:q<n
   .have y:(q:Int)<n:=ab;have a0:mm wr ⟨k,o+q,el⟩=ek (qr rQ (f q)):=(d.c (p:=⟨k,o+q,el⟩) i).t (A.o q ab);have b0:mm wr ⟨k',g+q,el⟩=ek (qr rQ (f q)):=(d.c (p:=⟨k',g+q,el⟩) l).t (B.o q ab);go_wp2
    go_quiet (fail)
    go_wp2;refine⟨⟨q+1,m,by go_num,below_drewN d _⟩,by simp only[intOf];omega⟩
   .obtain rfl:q=n:=ab;go_wp2;go_ret;exact⟨rfl,d⟩
def Cp(a b:aP)(n:Nat)(f:Nat->Int)(w:ad)(c:Reads w a n 1 λj=>qr rQ (f j))(hb:Reads w b n 1 λj=>qr rQ (f j))(h:n<=20):bd PL 30 #[a,b] w (aO (qq kY) w):=by
 obtain⟨r,s,rfl,c⟩:=c;obtain⟨t,u,rfl,hb⟩:=hb
 rcases cd n with rfl|e
 .clear c hb h;go_enter (fx ao f6),kw;go_wp2
  go_loop [5] (λv=>v=qr rQ 0) (λ_=>0)
  case atStart=>rfl
  case round=>
   subst hrel;go_wp2;go_ret;exact⟨rfl,li _ _⟩
 .obtain⟨k,o,rfl,i,c⟩:=c e;obtain⟨k',g,rfl,l,hb⟩:=hb e;have A:=nV c;have B:=nV hb;clear c hb;go_enter (fx ao f6),kw;go_wp2
  go_loopw [5] (λv wr=>∃q:Nat,q<=n/\v=qr rQ q/\bL w wr) (λv _=>n-(intOf v).toNat)
  case atStart=>exact⟨0,eF _,rfl,li _ _⟩
  case round=>
   obtain⟨q,x,rfl,d⟩:=hrel;by_cases m:q<n
   .have y:(q:Int)<n:=ab;have a0:mm wr ⟨k,o+q,el⟩=ek (qr rQ (f q)):=(d.c (p:=⟨k,o+q,el⟩) i).t (A.o q ab);have b0:mm wr ⟨k',g+q,el⟩=ek (qr rQ (f q)):=(d.c (p:=⟨k',g+q,el⟩) l).t (B.o q ab);go_wp2
    go_quiet (fail)
    go_wp2;refine⟨⟨q+1,m,by go_num,below_drewN d _⟩,by simp only[intOf];omega⟩
   .obtain rfl:q=n:=ab;go_wp2;go_ret;exact⟨rfl,d⟩
def zT(a b:aP)(n:Nat)(f:Nat->Int)(w:ad)(e:Reads w a n 5 λj=>qr rQ (f j))(hb:Reads w b n 5 λj=>qr rQ (f j))(l:n<=20):bd PL 29 #[a,b] w (aO (qq kY) w):=by
 obtain⟨r,s,rfl,e⟩:=e;obtain⟨t,u,rfl,hb⟩:=hb;have q1:=aaC;have q2:=Vy;have q3:=yM
 rcases cd n with rfl|i
 .clear e hb l;go_enter (fx ao f7),kx;go_wp2
  go_loop [5] (λv=>v=qr rQ 0) (λ_=>0)
  case atStart=>rfl
  case round=>
   subst hrel;go_wp2;go_ret;exact⟨rfl,li _ _⟩
 .obtain⟨k,o,rfl,g,e⟩:=e i;obtain⟨k',d,rfl,h,hb⟩:=hb i;have A:=nV e;have B:=nV hb;clear e hb;go_enter (fx ao f7),kx;go_wp2
  go_loopw [5] (λv wr=>∃q:Nat,q<=n/\v=qr rQ q/\bL w wr) (λv _=>n-(intOf v).toNat)
  case atStart=>exact⟨0,eF _,rfl,li _ _⟩
  case round=>
   obtain⟨q,x,rfl,c⟩:=hrel;by_cases m:q<n
   .have y:(q:Int)<n:=ab;have a0:mm wr ⟨k,o+q*5,el⟩=ek (qr rQ (f (q*5))):=(c.c (p:=⟨k,o+q*5,el⟩) g).t ((by have:=A.o (q*5) ab;simpa using this));have a1:mm wr ⟨k,o+q*5+1,el⟩=ek (qr rQ (f (q*5+1))):=(c.c (p:=⟨k,o+q*5+1,el⟩) g).t ((by have:=A.o (q*5+1) ab;rwa[<-n7]at this));have a2:mm wr ⟨k,o+q*5+2,el⟩=ek (qr rQ (f (q*5+2))):=(c.c (p:=⟨k,o+q*5+2,el⟩) g).t ((by have:=A.o (q*5+2) ab;rwa[<-n7]at this));have a3:mm wr ⟨k,o+q*5+3,el⟩=ek (qr rQ (f (q*5+3))):=(c.c (p:=⟨k,o+q*5+3,el⟩) g).t ((by have:=A.o (q*5+3) ab;rwa[<-n7]at this));have a4:mm wr ⟨k,o+q*5+4,el⟩=ek (qr rQ (f (q*5+4))):=(c.c (p:=⟨k,o+q*5+4,el⟩) g).t ((by have:=A.o (q*5+4) ab;rwa[<-n7]at this));have b0:mm wr ⟨k',d+q*5,el⟩=ek (qr rQ (f (q*5))):=(c.c (p:=⟨k',d+q*5,el⟩) h).t ((by have:=B.o (q*5) ab;simpa using this));have z:mm wr ⟨k',d+q*5+1,el⟩=ek (qr rQ (f (q*5+1))):=(c.c (p:=⟨k',d+q*5+1,el⟩) h).t ((by have:=B.o (q*5+1) ab;rwa[<-n7]at this));have C:mm wr ⟨k',d+q*5+2,el⟩=ek (qr rQ (f (q*5+2))):=(c.c (p:=⟨k',d+q*5+2,el⟩) h).t ((by have:=B.o (q*5+2) ab;rwa[<-n7]at this));have D:mm wr ⟨k',d+q*5+3,el⟩=ek (qr rQ (f (q*5+3))):=(c.c (p:=⟨k',d+q*5+3,el⟩) h).t ((by have:=B.o (q*5+3) ab;rwa[<-n7]at this))
    have E:mm wr ⟨k',d+q*5+4,el⟩=ek (qr rQ (f (q*5+4))):=(c.c (p:=⟨k',d+q*5+4,el⟩) h).t ((by have:=B.o (q*5+4) ab;rwa[<-n7]at this));go_wp2
    go_quiet (fail)
    go_wp2;refine⟨⟨q+1,m,by go_num,below_drewN c _⟩,by simp only[intOf];omega⟩
   .obtain rfl:q=n:=ab;go_wp2;go_ret;exact⟨rfl,c⟩
def vS(a b:aP)(n:Nat)(f:Nat->Int)(w:ad)(e:Reads w a n 5 λj=>qr rQ (f j))(hb:Reads w b n 5 λj=>qr rQ (f j))(l:n<=20):bd PL 8 #[a,b] w (aO (qq kY) w):=by
 obtain⟨r,s,rfl,e⟩:=e;obtain⟨t,u,rfl,hb⟩:=hb;have q1:=Rw;have q2:=Kv;have q3:=yM
 rcases cd n with rfl|i
 .clear e hb l;go_enter (fx ao f8),kG;go_wp2
  go_loop [5] (λv=>v=qr rQ 0) (λ_=>0)
  case atStart=>rfl
  case round=>
   subst hrel;go_wp2;go_ret;exact⟨rfl,li _ _⟩
 .obtain⟨k,o,rfl,g,e⟩:=e i;obtain⟨k',d,rfl,h,hb⟩:=hb i;have A:=nV e;have B:=nV hb;clear e hb;go_enter (fx ao f8),kG;go_wp2
  go_loopw [5] (λv wr=>∃q:Nat,q<=n/\v=qr rQ q/\bL w wr) (λv _=>n-(intOf v).toNat)
  case atStart=>exact⟨0,eF _,rfl,li _ _⟩
  case round=>
   obtain⟨q,x,rfl,c⟩:=hrel;by_cases m:q<n
   .have y:(q:Int)<n:=ab;have a0:mm wr ⟨k,o+q*5,el⟩=ek (qr rQ (f (q*5))):=(c.c (p:=⟨k,o+q*5,el⟩) g).t ((by have:=A.o (q*5) ab;simpa using this));have a1:mm wr ⟨k,o+q*5+1,el⟩=ek (qr rQ (f (q*5+1))):=(c.c (p:=⟨k,o+q*5+1,el⟩) g).t ((by have:=A.o (q*5+1) ab;rwa[<-n7]at this));have a2:mm wr ⟨k,o+q*5+2,el⟩=ek (qr rQ (f (q*5+2))):=(c.c (p:=⟨k,o+q*5+2,el⟩) g).t ((by have:=A.o (q*5+2) ab;rwa[<-n7]at this));have a3:mm wr ⟨k,o+q*5+3,el⟩=ek (qr rQ (f (q*5+3))):=(c.c (p:=⟨k,o+q*5+3,el⟩) g).t ((by have:=A.o (q*5+3) ab;rwa[<-n7]at this));have a4:mm wr ⟨k,o+q*5+4,el⟩=ek (qr rQ (f (q*5+4))):=(c.c (p:=⟨k,o+q*5+4,el⟩) g).t ((by have:=A.o (q*5+4) ab;rwa[<-n7]at this));have b0:mm wr ⟨k',d+q*5,el⟩=ek (qr rQ (f (q*5))):=(c.c (p:=⟨k',d+q*5,el⟩) h).t ((by have:=B.o (q*5) ab;simpa using this));have z:mm wr ⟨k',d+q*5+1,el⟩=ek (qr rQ (f (q*5+1))):=(c.c (p:=⟨k',d+q*5+1,el⟩) h).t ((by have:=B.o (q*5+1) ab;rwa[<-n7]at this));have C:mm wr ⟨k',d+q*5+2,el⟩=ek (qr rQ (f (q*5+2))):=(c.c (p:=⟨k',d+q*5+2,el⟩) h).t ((by have:=B.o (q*5+2) ab;rwa[<-n7]at this));have D:mm wr ⟨k',d+q*5+3,el⟩=ek (qr rQ (f (q*5+3))):=(c.c (p:=⟨k',d+q*5+3,el⟩) h).t ((by have:=B.o (q*5+3) ab;rwa[<-n7]at this))
    have E:mm wr ⟨k',d+q*5+4,el⟩=ek (qr rQ (f (q*5+4))):=(c.c (p:=⟨k',d+q*5+4,el⟩) h).t ((by have:=B.o (q*5+4) ab;rwa[<-n7]at this));go_wp2
    go_quiet (fail)
    go_wp2;refine⟨⟨q+1,m,by go_num,below_drewN c _⟩,by simp only[intOf];omega⟩
   .obtain rfl:q=n:=ab;go_wp2;go_ret;exact⟨rfl,c⟩
def fU(a b:Int)(w:ad):bd PL 28 #[qr rQ a,qr rQ b] w (aO (qv #[qr rQ a,qr rQ b]) w):=by
 go_enter (fx ao fJ),Tryz.ntmps28;go_wp2;refine ci (v:=qv #[qr rQ a,qr rQ b]) ?_ rfl ⟨rfl,(li _ _).a (dk _) _⟩;simp[cl,Tryz.results28,go_sem]
structure Lay(w W:ad)(l:List (Nat×Obj)):Prop where
 iM:∀p∈l,W.heap[p.1]?=ek p.2
 low:bL w W
def Lay.on{w W a:ad}{l:List (Nat×Obj)}(h:Lay w W l)(b:bL W a):Lay w a l:=
 ⟨λp c=>(b.k _ (getElem?_lt' (h.iM p c))).t (h.iM p c),Below.on h.low b⟩
def Lay.alloc{l:List (Nat×Obj)}(h:Lay q O l)(o:Obj):Lay q (mG O o) ((O.heap.size,o)::l):=
 ⟨λp a=>by
   rcases dp.1 a with rfl|a
   .exact au O o
   .exact(((li O.heap.size O).a (dk _) o).k _ (getElem?_lt' (h.iM p a))).t (h.iM p a),h.low.a h.low.z o⟩
def Lay.nil(w:ad):Lay w w []:=⟨λ_ h=>(by cases h),li _ _⟩
theorem Lay.set{w W:ad}{l:List (Nat×Obj)}(h:Lay w W l){R:Nat}(b:w.heap.size<=R)(hl:∀p∈l,R≠p.1)(o:Nat)(v:aP):Lay w (m8 W ⟨R,o,el⟩ v) l:=
 ⟨λp a=>by
   have:(m8 W ⟨R,o,el⟩ v).heap[p.1]?=W.heap[p.1]?:=by simp only[m8,dq,if_neg (hl p a)]
   rw[this];exact h.iM p a,h.low.s (p:=⟨R,o,el⟩) b v⟩
def Lay.init{w W:ad}{l:List (Nat×Obj)}{p:Nat×Obj}(h:Lay w W (l++[p])):Lay w W l:=⟨λq a=>h.iM q (l1 _ a),h.low⟩
def tO{c:Array aP}{t:ac}(h:q.heap[C]?=ek (rP c t)):∀o,m7 q ⟨C,o,el⟩=kS:=λo=>by simp[m7,h]
def exN:Nat->Nat->Int
 |0,1=>20|0,2=>20|0,3=>0|0,4=>12|0,5=>1|0,6=>1|0,7=>4|0,8=>6|0,9=>2|0,10=>3
 |1,1=>13|1,2=>13|1,3=>5|1,4=>5|1,5=>0|1,6=>2|1,7=>4|1,8=>5|1,9=>3|1,10=>3
 |2,1=>25|2,2=>25|2,3=>-7|2,4=>7|2,5=>1|2,6=>3|2,7=>5|2,8=>5|2,9=>2|2,10=>4
 |_,_=>0
def Vz(a ca lb b:Nat):Nat->iJ
 |0=>{ name:=⟨#[97]⟩,n:=exN 0,lb:=ek ⟨a,0,el⟩,ln:=1,lc:=ca,lk:=a,lo:=0,lane:=λ_=>1 }
 |1=>{ name:=⟨#[98]⟩,n:=exN 1,lb:=ek ⟨lb,0,el⟩,ln:=1,lc:=b,lk:=lb,lo:=0,lane:=λ_=>2 }
 |_=>{ name:=⟨#[99]⟩,n:=exN 2,lb:=el,ln:=0,lc:=0,lk:=0,lo:=0,lane:=λ_=>0 }
def alj:Nat->Int×Int
 |0=>(5,15)|_=>(10,18)
def zU:Nat->Int×Int×Int
 |0=>(0,1,40)|1=>(1,2,30)|2=>(2,3,30)|_=>(0,3,80)
def alk(d:Int):Nat->ByteArray×Int×Int
 |0=>(⟨#[114,101,100]⟩,0,0)|_=>(⟨#[98,108,117,101]⟩,1,d)
def ir(k2 c k3 c3 a e b f g ca lb h:Nat)(d:Int):CD:=
 { l:=60,p:=4,b2:=ek ⟨k2,0,el⟩,k2:=k2,o2:=0,n2:=2,c2:=c,x2:=alj,b3:=ek ⟨k3,0,el⟩,k3:=k3,o3:=0,n3:=4,c3:=c3,x3:=zU,
   b4:=ek ⟨a,0,el⟩,k4:=a,o4:=0,n4:=3,c4:=e,x4:=Vz g ca lb h,b5:=ek ⟨b,0,el⟩,k5:=b,o5:=0,n5:=2,c5:=f,x5:=alk d }
def VB(d:Int)(C:CD):Prop:=∃k2 a k3 c3 b c e f g h lb i,C=ir k2 a k3 c3 b c e f g h lb i d
abbrev bh(n:Int):aP:=qr rQ n
def vT:List aP:=[bh 5,bh 15,bh 10,bh 18]
def vU:List aP:=[bh 0,bh 1,bh 40,bh 1,bh 2,bh 30,bh 2,bh 3,bh 30,bh 0,bh 3,bh 80]
def rO(a ca lb b:Nat):List aP:=[qt ⟨#[97]⟩,bh 20,bh 20,bh 0,bh 12,bh 1,bh 1,bh 4,bh 6,bh 2,bh 3,qu (ek ⟨a,0,el⟩) 1 ca,qt ⟨#[98]⟩,bh 13,bh 13,bh 5,bh 5,bh 0,bh 2,bh 4,bh 5,bh 3,bh 3,qu (ek ⟨lb,0,el⟩) 1 b,qt ⟨#[99]⟩,bh 25,bh 25,bh (-7),bh 7,bh 1,bh 3,bh 5,bh 5,bh 2,bh 4,qu el 0 0]
def qB(d:Int):List aP:=[qt ⟨#[114,101,100]⟩,bh 0,bh 0,qt ⟨#[98,108,117,101]⟩,bh 1,bh d]
def Row(W:ad)(k:Nat)(l:List aP):Prop:=k<W.heap.size/\∀(j:Nat)v,l[j]?=ek v->mm W ⟨k,j,el⟩=ek v
def Row.of{W:ad}{k:Nat}{l:List aP}{c:Array aP}{t:ac}{a:Nat×Nat}(h:W.heap[k]?=ek (rP c t a))(hl:∀(j:Nat)v,l[j]?=ek v->c[j]?=ek v):Row W k l:=
 ⟨getElem?_lt' h,λj v e=>by simp[mm,h,hl j v e]⟩
def Row.on(h:Row q C R)(b:bL q O):Row O C R:=
 ⟨bT h.1 b.z,λj v e=>(b.c (p:=⟨C,j,el⟩) h.1).t (h.2 j v e)⟩
def Lay.row{w W:ad}{L:List (Nat×Obj)}(h:Lay w W L){k:Nat}{c:Array aP}{t:ac}{l:List aP}(a:(k,rP c t)∈L)(e:c.toList=l):Row W k l:=
 Row.of (h.iM _ a) λj v hv=>by rw[<-e]at hv;simpa using hv
def Rx{k3 c3 k k2 m r h ca lb l:Nat}{d:Int}(b:Row q C vT)(a:Row q k3 vU)(c:Row q k (rO h ca lb l))(f:Row q m (qB d))(s:Row q h [bh 1])(hb:Row q lb [bh 2]) :
 (ir C Y k3 c3 k k2 m r h ca lb l d).At q:=by
 refine⟨fi rfl,fi rfl,fi rfl,fi rfl,b.1,a.1,c.1,f.1,λ_=>rfl,λ_=>rfl,λ_=>rfl,λ_=>rfl,λi hi=>?_,λi hi=>?_,λi hi=>?_,λi hi=>?_,λi hi=>?_,λi hi=>?_,λi hi=>?_,λi hi j o b=>?_,λi hi=>?_,λi hi hl=>?_,λi hi j g=>?_,λi hi=>?_,λi hi=>?_,λi hi=>?_,λi hi=>?_⟩
 .match i,hi with
  |0,_=>exact b.2 0 _ rfl
  |1,_=>exact b.2 2 _ rfl
 .match i,hi with
  |0,_=>exact b.2 1 _ rfl
  |1,_=>exact b.2 3 _ rfl
 .match i,hi with
  |0,_=>exact a.2 0 _ rfl
  |1,_=>exact a.2 3 _ rfl
  |2,_=>exact a.2 6 _ rfl
  |3,_=>exact a.2 9 _ rfl
 .match i,hi with
  |0,_=>exact a.2 1 _ rfl
  |1,_=>exact a.2 4 _ rfl
  |2,_=>exact a.2 7 _ rfl
  |3,_=>exact a.2 10 _ rfl
 .match i,hi with
  |0,_=>exact a.2 2 _ rfl
  |1,_=>exact a.2 5 _ rfl
  |2,_=>exact a.2 8 _ rfl
  |3,_=>exact a.2 11 _ rfl
 .match i,hi with
  |0,_=>exact⟨fi rfl,fi rfl⟩
  |1,_=>exact⟨fi rfl,fi rfl⟩
  |2,_=>exact⟨fi rfl,fi rfl⟩
 .match i,hi with
  |0,_=>exact c.2 0 _ rfl
  |1,_=>exact c.2 12 _ rfl
  |2,_=>exact c.2 24 _ rfl
 .have key:∀i,i<3->∀j,1<=j->j<=10->(rO h ca lb l)[i*12+j]?=ek (bh (exN i j)):=by
   intro i hi j o b
   match i,j,hi,o,b with
   |0,1,_,_,_|0,2,_,_,_|0,3,_,_,_|0,4,_,_,_|0,5,_,_,_|0,6,_,_,_|0,7,_,_,_|0,8,_,_,_|0,9,_,_,_|0,10,_,_,_=>rfl
   |1,1,_,_,_|1,2,_,_,_|1,3,_,_,_|1,4,_,_,_|1,5,_,_,_|1,6,_,_,_|1,7,_,_,_|1,8,_,_,_|1,9,_,_,_|1,10,_,_,_=>rfl
   |2,1,_,_,_|2,2,_,_,_|2,3,_,_,_|2,4,_,_,_|2,5,_,_,_|2,6,_,_,_|2,7,_,_,_|2,8,_,_,_|2,9,_,_,_|2,10,_,_,_=>rfl
  have e:((ir C Y k3 c3 k k2 m r h ca lb l d).x4 i).n j=exN i j:=by
   match i,hi with
   |0,_=>rfl
   |1,_=>rfl
   |2,_=>rfl
  rw[e];show mm q ⟨k,0+i*12+j,el⟩=_;rw[ei];exact c.2 _ _ (key i hi j o b)
 .match i,hi with
  |0,_=>exact c.2 11 _ rfl
  |1,_=>exact c.2 23 _ rfl
  |2,_=>exact c.2 35 _ rfl
 .match i,hi,hl with
  |0,_,_=>exact⟨rfl,s.1⟩
  |1,_,_=>exact⟨rfl,hb.1⟩
  |2,_,hl=>exact absurd hl (dt 0)
 .match i,hi,j,g with
  |0,_,0,_=>exact s.2 0 _ rfl
  |1,_,0,_=>exact hb.2 0 _ rfl
  |0,_,j+1,g=>exact absurd g (by simp[ir,Vz])
  |1,_,j+1,g=>exact absurd g (by simp[ir,Vz])
  |2,_,j,g=>exact absurd g (by simp[ir,Vz])
 .match i,hi with
  |0,_=>exact fi rfl
  |1,_=>exact fi rfl
 .match i,hi with
  |0,_=>exact f.2 0 _ rfl
  |1,_=>exact f.2 3 _ rfl
 .match i,hi with
  |0,_=>exact f.2 1 _ rfl
  |1,_=>exact f.2 4 _ rfl
 .match i,hi with
  |0,_=>exact f.2 2 _ rfl
  |1,_=>exact f.2 5 _ rfl
def EV(w:ad):bd PL 19 #[] w λe w'=>∃k2 X k3 c3 L Y M j q ca lb N,e=r7 (qv (ir k2 X k3 c3 L Y M j q ca lb N 0).val)/\(Row w' k2 vT/\Row w' k3 vU/\Row w' L (rO q ca lb N)/\Row w' M (qB 0)/\Row w' q [bh 1]/\Row w' lb [bh 2])/\bL w w':=by
 go_enter (fx ao gc),Tryz.ntmps19
 go_wp2_with (first|(go_at_call 28;have _:=h;refine(fU _ _ _).m ?_;rintro e b⟨rfl,a⟩;have i:=nV (((h.o).on a));clear a;have r:=getElem?_lt' (i.o.iM (w.heap.size,rP #[qr rQ 0,qr rQ 0,qu el 0 0,qu el 0 0,qu el 0 0,qu el 0 0] 27) ar);simp only at r;have O:=tO (i.o.iM (w.heap.size,rP #[qr rQ 0,qr rQ 0,qu el 0 0,qu el 0 0,qu el 0 0,qu el 0 0] 27) ar);simp only at O;obtain⟨s,u,x,y,f4,z⟩:=bf (i.o.iM (w.heap.size,rP #[qr rQ 0,qr rQ 0,qu el 0 0,qu el 0 0,qu el 0 0,qu el 0 0] 27) ar);skip)|(go_at_call 28;have _:=A;refine(fU _ _ _).m ?_;rintro e Z⟨rfl,a⟩;have h:=nV (((A.o).on a));clear a;skip)|(go_at_call 28;have _:=B;refine(fU _ _ _).m ?_;rintro e w12⟨rfl,a⟩;have A:=nV (((B.o).on a));clear a;skip)|(go_at_call 28;have _:=l;refine(fU _ _ _).m ?_;rintro e w11⟨rfl,a⟩;have B:=nV ((((l.o).alloc _).on a));clear a;skip)|(go_at_call 28;have _:=C;refine(fU _ _ _).m ?_;rintro e d⟨rfl,a⟩;have l:=nV (((C.o).on a));clear a;skip)|(go_at_call 28;have _:=D;refine(fU _ _ _).m ?_;rintro e w9⟨rfl,a⟩;have C:=nV (((D.o).on a));clear a;skip)|(go_at_call 28;have _:=E;refine(fU _ _ _).m ?_;rintro e w8⟨rfl,a⟩;have D:=nV (((E.o).on a));clear a;skip)|(go_at_call 28;have _:=m;refine(fU _ _ _).m ?_;rintro e w7⟨rfl,a⟩;have E:=nV ((((m.o).alloc _).on a));clear a;skip)|(go_at_call 28;have _:=F;refine(fU _ _ _).m ?_;rintro e w6⟨rfl,a⟩;have m:=nV (((F.o).on a));clear a;skip)|(go_at_call 28;have _:=H;refine(fU _ _ _).m ?_;rintro e w5⟨rfl,a⟩;have F:=nV (((H.o).on a));clear a;skip)|(go_at_call 28;have _:=I;refine(fU _ _ _).m ?_;rintro e w4⟨rfl,a⟩;have H:=nV (((I.o).on a));clear a;skip)|(go_at_call 28;have _:=n;refine(fU _ _ _).m ?_;rintro e w3⟨rfl,a⟩;have I:=nV (((((n.o).alloc _).alloc _).on a));clear a;skip)|(go_at_call 28;have _:=J;refine(fU _ _ _).m ?_;rintro e w2⟨rfl,a⟩;have n:=nV (((J.o).on a));clear a;skip)|(go_at_call 28;refine(fU _ _ _).m ?_;rintro e w1⟨rfl,a⟩;have J:=nV ((((Lay.nil w).alloc _).on a));clear a;skip))
 obtain⟨W,k⟩:=bs (m8 (m8 (m8 (m8 (m8 (m8 b ⟨w.heap.size,0,el⟩ (qr rQ 60)) ⟨w.heap.size,1,el⟩ (qr rQ 4)) ⟨w.heap.size,2,el⟩ (qu (ek ⟨w2.heap.size,0,el⟩) 2 2)) ⟨w.heap.size,3,el⟩ (qu (ek ⟨w2.heap.size+1,0,el⟩) 4 4)) ⟨w.heap.size,4,el⟩ (qu (ek ⟨b.heap.size,0,el⟩) 3 3)) ⟨w.heap.size,5,el⟩ (qu (ek ⟨b.heap.size+1,0,el⟩) 2 2));have z2:w.heap.size<w2.heap.size:=getElem?_lt' (n.o.iM (w.heap.size,rP #[qr rQ 0,qr rQ 0,qu el 0 0,qu el 0 0,qu el 0 0,qu el 0 0] 27) ar);have z6:w.heap.size<w6.heap.size:=getElem?_lt' (m.o.iM (w.heap.size,rP #[qr rQ 0,qr rQ 0,qu el 0 0,qu el 0 0,qu el 0 0,qu el 0 0] 27) ar);have UZ:w.heap.size<d.heap.size:=getElem?_lt' (l.o.iM (w.heap.size,rP #[qr rQ 0,qr rQ 0,qu el 0 0,qu el 0 0,qu el 0 0,qu el 0 0] 27) ar);have j:W.heap.size=b.heap.size:=by rw[k];simp only[lj]
 have o:W.heap[w.heap.size]?=ek (rP #[qr rQ 60,qr rQ 4,qu (ek ⟨w2.heap.size,0,el⟩) 2 2,qu (ek ⟨w2.heap.size+1,0,el⟩) 4 4,qu (ek ⟨b.heap.size,0,el⟩) 3 3,qu (ek ⟨b.heap.size+1,0,el⟩) 2 2] 27):=by
  have g:=i.o.iM (w.heap.size,rP #[qr rQ 0,qr rQ 0,qu el 0 0,qu el 0 0,qu el 0 0,qu el 0 0] 27) ar;simp only at g;rw[k];simp[m8,dq,g]
 have LW:Lay w W [(d.heap.size,rP #[qr rQ 2] 3),(w6.heap.size,rP #[qr rQ 1] 3),(w2.heap.size+1,rP (qr rQ 0::qr rQ 1::qr rQ 40::qr rQ 1::qr rQ 2::qr rQ 30::qr rQ 2::qr rQ 3::qr rQ 30::qr rQ 0::qr rQ 3::qr rQ 80::[]).toArray 93),(w2.heap.size,rP #[qr rQ 5,qr rQ 15,qr rQ 10,qr rQ 18] 30)]:=by
  have hl:∀p∈[(d.heap.size,rP #[qr rQ 2] 3),(w6.heap.size,rP #[qr rQ 1] 3),(w2.heap.size+1,rP (qr rQ 0::qr rQ 1::qr rQ 40::qr rQ 1::qr rQ 2::qr rQ 30::qr rQ 2::qr rQ 3::qr rQ 30::qr rQ 0::qr rQ 3::qr rQ 80::[]).toArray 93),(w2.heap.size,rP #[qr rQ 5,qr rQ 15,qr rQ 10,qr rQ 18] 30)],w.heap.size≠p.1:=by
   intro p P;simp only[dp,eW,or_false]at P
   rcases P with rfl|rfl|rfl|rfl<;>simp only<;>omega
  rw[k];have K:=i.o;simp only[nl]at K;exact((((((Lay.init (p:=(w.heap.size,rP #[qr rQ 0,qr rQ 0,qu el 0 0,qu el 0 0,qu el 0 0,qu el 0 0] 27)) K).set (dk _) hl 0 _).set (dk _) hl 1 _).set (dk _) hl 2 _).set (dk _) hl 3 _).set (dk _) hl 4 _).set (dk _) hl 5 _
 rw[<-k];clear k i h A B l C D E m F H I n J s u x y f4 z O;rw[<-j];rw[<-j]at o;have f:Lay w (mG (mG W (rP (qt ⟨#[97]⟩::qr rQ 20::qr rQ 20::qr rQ 0::qr rQ 12::qr rQ 1::qr rQ 1::qr rQ 4::qr rQ 6::qr rQ 2::qr rQ 3::qu (ek ⟨w6.heap.size,0,el⟩) 1 1::qt ⟨#[98]⟩::qr rQ 13::qr rQ 13::qr rQ 5::qr rQ 5::qr rQ 0::qr rQ 2::qr rQ 4::qr rQ 5::qr rQ 3::qr rQ 3::qu (ek ⟨d.heap.size,0,el⟩) 1 1::qt ⟨#[99]⟩::qr rQ 25::qr rQ 25::qr rQ (-7)::qr rQ 7::qr rQ 1::qr rQ 3::qr rQ 5::qr rQ 5::qr rQ 2::qr rQ 4::qu el 0 0::[]).toArray 49)) (rP #[qt ⟨#[114,101,100]⟩,qr rQ 0,qr rQ 0,qt ⟨#[98,108,117,101]⟩,qr rQ 1,qr rQ 0] 51)) _:=(LW.alloc (rP (qt ⟨#[97]⟩::qr rQ 20::qr rQ 20::qr rQ 0::qr rQ 12::qr rQ 1::qr rQ 1::qr rQ 4::qr rQ 6::qr rQ 2::qr rQ 3::qu (ek ⟨w6.heap.size,0,el⟩) 1 1::qt ⟨#[98]⟩::qr rQ 13::qr rQ 13::qr rQ 5::qr rQ 5::qr rQ 0::qr rQ 2::qr rQ 4::qr rQ 5::qr rQ 3::qr rQ 3::qu (ek ⟨d.heap.size,0,el⟩) 1 1::qt ⟨#[99]⟩::qr rQ 25::qr rQ 25::qr rQ (-7)::qr rQ 7::qr rQ 1::qr rQ 3::qr rQ 5::qr rQ 5::qr rQ 2::qr rQ 4::qu el 0 0::[]).toArray 49)).alloc (rP #[qt ⟨#[114,101,100]⟩,qr rQ 0,qr rQ 0,qt ⟨#[98,108,117,101]⟩,qr rQ 1,qr rQ 0] 51)
 have Q:Row _ w2.heap.size vT:=f.row (c:=#[qr rQ 5,qr rQ 15,qr rQ 10,qr rQ 18]) (t:=30) ar rfl;have R:Row _ (w2.heap.size+1) vU:=f.row (c:=(qr rQ 0::qr rQ 1::qr rQ 40::qr rQ 1::qr rQ 2::qr rQ 30::qr rQ 2::qr rQ 3::qr rQ 30::qr rQ 0::qr rQ 3::qr rQ 80::[]).toArray) (t:=93) ar rfl;have S:Row _ w6.heap.size [bh 1]:=f.row (c:=#[qr rQ 1]) (t:=3) ar rfl;have T:Row _ d.heap.size [bh 2]:=f.row (c:=#[qr rQ 2]) (t:=3) ar rfl;have U:Row _ W.heap.size (rO w6.heap.size 1 d.heap.size 1):=f.row (c:=(qt ⟨#[97]⟩::qr rQ 20::qr rQ 20::qr rQ 0::qr rQ 12::qr rQ 1::qr rQ 1::qr rQ 4::qr rQ 6::qr rQ 2::qr rQ 3::qu (ek ⟨w6.heap.size,0,el⟩) 1 1::qt ⟨#[98]⟩::qr rQ 13::qr rQ 13::qr rQ 5::qr rQ 5::qr rQ 0::qr rQ 2::qr rQ 4::qr rQ 5::qr rQ 3::qr rQ 3::qu (ek ⟨d.heap.size,0,el⟩) 1 1::qt ⟨#[99]⟩::qr rQ 25::qr rQ 25::qr rQ (-7)::qr rQ 7::qr rQ 1::qr rQ 3::qr rQ 5::qr rQ 5::qr rQ 2::qr rQ 4::qu el 0 0::[]).toArray) (t:=49) ar rfl
 have V:Row _ (W.heap.size+1) (qB 0):=f.row (c:=#[qt ⟨#[114,101,100]⟩,qr rQ 0,qr rQ 0,qt ⟨#[98,108,117,101]⟩,qr rQ 1,qr rQ 0]) (t:=51) ar rfl;obtain⟨s,u,x,y,f4,z⟩:=bf o;have low:=f.low;have r:w.heap.size<W.heap.size:=getElem?_lt' o;clear LW f o j;refine ci (v:=qv (ir w2.heap.size 2 (w2.heap.size+1) 4 W.heap.size 3 (W.heap.size+1) 2 w6.heap.size 1 d.heap.size 1 0).val) ?_ rfl ⟨_,_,_,_,_,_,_,_,_,_,_,_,rfl,⟨Q,R,U,V,S,T⟩,low⟩;clear Q R U V S T low;simp[cl,Tryz.results19,go_sem,s,u,x,y,f4,z,r,ir]
def Np(a:Int)(w:ad):bd PL 93 #[qr rQ a] w λe w'=>e=r7 (qq kS)/\w=w':=by
 go_enter (fx ao ip),Tryz.ntmps93;go_wp2;go_ret;exact⟨rfl,rfl⟩
def Ip(a b:Int):Int:=if a<b then -1 else if b<a then 1 else 0
def Kw(a b:Int)(w:ad):bd PL 67 #[qr rQ a,qr rQ b] w λe w'=>e=r7 (qr rQ (Ip a b))/\w=w':=by
 go_enter (fx ao h7),Tryz.ntmps67
 go_wp2_with (go_at_call 93;refine(Np _ _).m ?_;rintro e w'⟨rfl,rfl⟩)
 all_goals (go_ret;refine⟨aC ?_,rfl⟩;simp only[Ip];split<;>(try split)<;>omega)
def EW(f g:Nat->Int)(n m:Nat):Nat->Nat->Int
 |0,_=>if n<m then -1 else 0
 |k+1,q=>if m<=q then 1 else if Ip (f q) (g q)≠0 then Ip (f q) (g q) else EW f g n m k (q+1)
def aaE(f g:Nat->Int)(n m:Nat):Int:=EW f g n m n 0
def EX(a b:aP)(n m:Nat)(f g:Nat->Int)(w:ad)(h:Reads w a n 1 λj=>qr rQ (f j))(hb:Reads w b m 1 λj=>qr rQ (g j))(y:n<=20)(z:m<=20) :
 bd PL 64 #[a,b] w λe w'=>e=r7 (qr rQ (aaE f g n m))/\w=w':=by
 obtain⟨C,D,rfl,h⟩:=h;obtain⟨F,H,rfl,hb⟩:=hb;have A:=nV h;have B:=nV hb;clear h hb;go_enter (fx ao hI),Tryz.ntmps64;go_wp2
 go_loop [11] (λv=>∃q:Nat,q<=n/\v=qr rQ q/\aaE f g n m=EW f g n m (n-q) q) (λv=>n-(intOf v).toNat)
 case atStart=>exact⟨0,eF _,rfl,rfl⟩
 case round=>
  obtain⟨q,I,rfl,i⟩:=hrel;by_cases r:q<n
  .have E:=nV i;clear i;obtain⟨k,o,rfl,J,hc⟩:=A.o ab;have a0:mm w ⟨k,o+q,el⟩=ek (qr rQ (f q)):=hc q ab;clear hc;have l:(q:Int)<n:=ab;have es:n-q=(n-(q+1))+1:=ab;by_cases s:q<m
   .obtain⟨k',t,rfl,K,d⟩:=B.o ab;have b0:mm w ⟨k',t+q,el⟩=ek (qr rQ (g q)):=d q ab;clear d;have u:(q:Int)<m:=ab;by_cases c:Ip (f q) (g q)=0
    .have x:(Ip (f q) (g q) != 0)=kS:=by simp[c]
     have Z:=nV c;clear c
     go_wp2_with (go_at_call 67;refine(Kw _ _ _).m ?_;rintro e w'⟨rfl,rfl⟩)
     refine⟨⟨q+1,r,by go_num,?_⟩,by simp only[intOf];omega⟩;rw[E.o,es,EW,if_neg ab,if_neg (by simp[Z.o])]
    .have x:(Ip (f q) (g q) != 0)=kY:=by simp[c]
     have Z:=nV c;clear c
     go_wp2_with (go_at_call 67;refine(Kw _ _ _).m ?_;rintro e w'⟨rfl,rfl⟩)
     go_ret;refine⟨aC ?_,rfl⟩;rw[E.o,es,EW,if_neg ab,if_pos Z.o]
   .have u:(m:Int)<=q:=ab;go_wp2;go_ret;refine⟨aC ?_,rfl⟩;rw[E.o,es,EW,if_pos ab]
  .obtain rfl:q=n:=ab;have E:=nV i;clear i;by_cases p:q<m
   .have l:(q:Int)<m:=ab;go_wp2;go_ret;refine⟨aC ?_,rfl⟩;rw[E.o,eM,EW,if_pos p]
   .have l:(m:Int)<=q:=ab;go_wp2;go_ret;refine⟨aC ?_,rfl⟩;rw[E.o,eM,EW,if_neg p]
def bB(W:ad)(v:aP)(l:List Int):Prop:=Reads W v l.length 1 λj=>qr rQ (l.getD j 0)
def tw(W:ad)(base:Nat)(v:aP)(l:List Int):Prop:=nq W base 3 1 v l.length (l.map λx=>qr rQ x)
def tw.reads{base:Nat}(h:tw q base J M):bB q J M:=by
 obtain⟨_,h⟩:=h
 rcases h with⟨rfl,a⟩|⟨g,cap,b,rfl,hb,hg,hc,d,hs,c⟩
 .exact⟨el,0,by rw[a],λh=>ab⟩
 .refine⟨_,_,rfl,λa=>⟨g,0,rfl,getElem?_lt' hg,λj f=>?_⟩⟩;have e:(M.map λx=>qr rQ x)[j]?=ek (qr rQ (M.getD j 0)):=by
   rw[eT,cC ab];simp[et,cC (show j<M.length by omega)]
  rw[<-c,e6 ab]at e;simp only[mm,hg,ei];simpa using e
def bB.on{W a:ad}{v:aP}{l:List Int}(h:bB W v l)(b:bL W a):bB a v l:=Reads.on h b
def Rz:ed PL 28=ek (.slice 3):=ae
def RE:(PL.info? 3).map (λi=>(i.zero,i.size,i.bytes))=ek (ek (qr rQ 0),1,8):=ae
def afG(l m:List Int):Int:=aaE (λj=>l.getD j 0) (λj=>m.getD j 0) l.length m.length
def RF{m:List Int}{b:aP}(c:bB q J M)(hb:bB q b m)(d:M.length<=20)(f:m.length<=20):bd PL 64 #[J,b] q λe w'=>e=r7 (qr rQ (afG M m))/\q=w':=
 EX J b _ _ _ _ q c hb d f
def tw.alloc{W:ad}{base:Nat}{v:aP}{l:List Int}(h:tw W base v l)(o:Obj):tw (mG W o) base v l:=World.ownsRow.alloc h o
def cZ{base size:Nat}(h:nq q base C size J Y R):∀k,J.ownBlock=ek k->base<=k:=by
 intro k a;obtain⟨_,⟨rfl,_⟩|⟨g,cap,b,rfl,hb,_⟩⟩:=h
 .cases a
 .cases a;exact hb
def EY{ops:Array bv}{rest:List bv}{o:bv}{a:Act}{Q:bC->Act->ad->Prop}(f:o.guard=el)(s x:b9)
 (g:o.op=.call { callee:=.builtin .append,args:=#[s,x],argTypes:=#[28,28] }) (base:Nat) (v:aP) (l:List Int) (j:Int) (b:Nat) (hs:a.eval s=v) (c:tw q base v l)
 (i:a.eval x=qu (ek ⟨b,0,el⟩) 1 1) (hc:mm q ⟨b,0,el⟩=ek (qr rQ j)) (hl:l.length<=1000) (d:base<=q.heap.size)
 (h:∀v' w',tw w' base v' (l++[j])->Below base q w'->ce PL ops Q rest (a.put o.dst v') w'):ce PL ops Q (o::rest) a q:=by
 obtain⟨m,hi,n,p,w⟩:=info_parts RE;refine wpList_append_own _ f s x 28 g base 3 m (qr rQ 0) 1 8 Rz hi n p w rfl ao v l.length _ hs c ⟨b,0,el⟩ 1 1 [qr rQ j] i rfl (λk u e=>?_) (by simp[Value.oneCell']) (by simp only[maxLen];omega) ab d λv' w' r t _=>?_
 .match k,e with
  |0,e=>cases e;exact hc
 .refine h v' w' ?_ ((li base q).grown t d (cZ c));unfold tw;rw[dC,lT];exact r
def zV(s j:Nat):Bool:=s / 2 ^ j % 2==1
def pJ(s:Nat):Nat->List Int
 |0=>[]
 |j+1=>if zV s j then pJ s j++[(j:Int)] else pJ s j
def qj(s:Nat):∀j,(pJ s j).length<=j
 |0=>dk _
 |j+1=>by
  have:=qj s j;rw[pJ];split
  .simp;omega
  .omega
def Iq(C:CD)(s i:Nat):Bool:=zV s (C.x3 i).1.toNat||zV s (C.x3 i).2.1.toNat
def RG(C:CD)(s:Nat):Bool:=(lL C.n3).all (Iq C s)
def AW(l b:List Int):Bool:=decide (b.length<l.length)||(decide (l.length=b.length)&&decide (0<afG l b))
def kT(C:CD)(p:Nat)(a:Option (List Int))(s:Nat):Option (List Int):=
 if a.any (AW (pJ s p)) then a else if RG C s then ek (pJ s p) else a
def qC(C:CD)(p:Nat):Nat->Option (List Int)
 |0=>el
 |q+1=>kT C p (qC C p q) q
def E3(C:CD)(p:Nat):∀q,((qC C p q).getD []).length<=p
 |0=>eF _
 |q+1=>by
  have:=E3 C p q;rw[qC,kT];split
  .exact this
  .split
   .exact qj q p
   .exact this
def RH(h:C<=6):wrap64 ((2:Int) ^ C)=((2 ^ C:Nat):Int):=by
 match C,h with
 |0,_|1,_|2,_|3,_|4,_|5,_|6,_=>decide +kernel
def VE:((lL 64).all λq=>(lL 6).all λj=>bits BinOp.and rQ ((q:Int) / 2 ^ j) 1==(if zV q j then 1 else 0))=kY:=by decide +kernel
def Cq(q:Nat)(a:q<64)(j:Nat)(b:j<6):bits BinOp.and rQ ((q:Int) / 2 ^ j) 1=if zV q j then 1 else 0:=by
 have:=VE;simp only[df,dv,beq_iff_eq]at this;exact this q a j b
def aaF(hc:L.cx=0)(f:L.p=C)(hi:Y<L.n3):∃a b:Nat,(L.x3 Y).1=a/\(L.x3 Y).2.1=b/\a<C/\b<C:=by
 have c:kz L.p L.n3 L.x3=0:=ck hc 2 ab;unfold kz at c;split at c
 .cases c
 have d:=ck c Y hi;unfold fQ at d;split at d
 case isFalse=>cases d
 rename_i e;simp only[bO,dd,decide_eq_true_eq]at e;exact⟨(L.x3 Y).1.toNat,(L.x3 Y).2.1.toNat,ab,ab,ab,ab⟩
def ark:aP->Prop
 |qu _ n c=>n<=c
 |_=>True
def aby(W:ad)(v:aP)(l:List Int):Prop:=bB W v l/\ark v
def aby.on{W a:ad}{v:aP}{l:List Int}(h:aby W v l)(b:bL W a):aby a v l:=⟨h.1.on b,h.2⟩
def tw.aoN{base:Nat}(h:tw q base J M):aby q J M:=by
 refine⟨h.reads,?_⟩;obtain⟨_,h⟩:=h
 rcases h with⟨rfl,b⟩|⟨g,cap,a,rfl,hb,hg,hc,c,hs,d⟩
 .exact dk 0
 .exact hc
def afS(C:CD)(w:ad)(h:C.At w)(hc:C.cx=0):bd PL 27 #[qv C.val] w λe w'=>∃v,e=r7 (qH #[v,qr rQ 0])/\aby w' v ((qC C C.p.toNat (2 ^ C.p.toNat)).getD [])/\bL w w':=by
 have HA:=nV h;have K0:Hid (KB C w (mG w (rP C.val 27))):=nV ⟨au _ _,(li _ _).a (dk _) _⟩;obtain⟨p,hp⟩:∃p:Nat,C.p=p:=⟨C.p.toNat,by have:=cK (ck hc 0 ab);omega⟩
 have m:p<=6:=by have:=cK (ck hc 0 ab);omega
 have HC:=nV hc;have Y:=nV hp;clear h hc hp;go_enter (fx ao fB),Tryz.ntmps27;go_wp2
 go_step3
 go_wp2_with (go_at_call 37;refine(sY HC.o (HA.o.below K0.o.low)).m ?_;rintro e w1⟨rfl,aL⟩;have K1:=nV (K0.o.on aL);clear aL;have hz:=K1.o.lt;obtain⟨M,t,O,H,f4,P⟩:=bf K1.o.box)
 go_step3
 rw[Y.o]at t;have q0:(0:Int)<=p:=ab;have q1:(p:Int)<=6:=ab;have hN:=RH m;obtain⟨N,o⟩:=bs (2 ^ p:Nat);rw[<-o]at hN;have as5:N<=64:=by rw[o];exact Nat.pow_le_pow_right (n:=2) ab m
 have HN:=nV o;clear o
 go_upto_region 7 with fail
 rw[hN];clear hN;clear M t O H f4 P
 go_loopw [5,6,20] (λv5 v6 u wr=>∃q:Nat,q<=N/\u=qr rQ q/\v6=qq (qC C p q).isSome/\aby wr v5 ((qC C p q).getD [])/\KB C w wr) (λ_ _ u _=>N-(intOf u).toNat)
 case atStart=>exact⟨0,eF _,rfl,rfl,⟨⟨el,0,rfl,λh=>absurd h (by simp[qC])⟩,dk 0⟩,K1.o⟩
 case round=>
  obtain⟨q,hq,rfl,rfl,I,hK⟩:=hrel;obtain⟨Z,Kx⟩:=bs (qC C p q);have hbl:(Z.getD []).length<=6:=by rw[Kx];exact da (E3 C p q) m
  rw[<-Kx]at I ⊢;have x:=nV Kx;have HR:=nV I;have HK:=nV hK;clear Kx I hK;by_cases aH:q<N
  .have i2:(q:Int)<N:=ab;have hz:=HK.o.lt;obtain⟨M,t,O,H,f4,P⟩:=bf HK.o.box;rw[Y.o]at t;obtain⟨Wq,rfl⟩:=bs wr
   go_upto_region 11 with fail
   go_loopw [8,25] (λv8 y wr=>∃j:Nat,j<=p/\y=qr rQ j/\tw wr Wq.heap.size v8 (pJ q j)/\bL Wq wr) (λ_ y _=>p-(intOf y).toNat)
   case atStart=>exact⟨0,eF _,rfl,⟨rfl,r8 ⟨rfl,rfl⟩⟩,li _ _⟩
   case round=>
    obtain⟨j,hj,rfl,hO,g⟩:=hrel;have HO:=nV hO;have Q:=nV g;clear hO g M t O H f4 P;by_cases R:j<p
    .have i3:(j:Int)<p:=ab;have i4:¬((j:Int)<0):=ab;have RI:=Cq q ab j ab;by_cases J:zV q j=kY
     .rw[if_pos J]at RI;have z:=nV J;clear J;have Tl:=qj q j;have fW:=Q.o.z
      go_wp2_with (at_builtin;(refine EY rfl _ _ rfl Wq.heap.size _ _ j wr.heap.size rfl (HO.o.alloc _) rfl (cell_one_new _ _ _ 0 _ rfl) ab (by simp;omega) ?_;intro v' w2 fO S))
      refine⟨⟨j+1,R,by go_num,?_,(Q.o.a fW _).t S⟩,by simp only[intOf];omega⟩;rw[pJ,if_pos z.o];exact fO
     .rw[if_neg J]at RI;have z:=nV (aV J);clear J;go_wp2;refine⟨⟨j+1,R,by go_num,?_,Q.o⟩,by simp only[intOf];omega⟩;rw[pJ,if_neg (by simp[z.o])];exact HO.o
    .obtain rfl:j=p:=ab;have T:=HR.o.on (Q.o);have U:=HO.o.aoN;have Tl:(pJ q j).length<=6:=da (qj q j) m;have r:=nV (HK.o.on Q.o);have RB:=nV T;have RL:=nV U;obtain⟨⟨b5,c5,e5,_⟩,_⟩:=T;obtain⟨⟨b8,c8,e8,_⟩,_⟩:=U;subst e5 e8;obtain⟨l,hl⟩:=bs (pJ q j);rw[<-hl]at Tl RL ⊢;have d:=nV hl;clear hl;clear HO;obtain⟨V,rfl⟩:=bs wr
     go_upto_region 16 with fail
     go_cut [58] from 38 to 57 (fun(v58:aP)(wx:ad)=>v58=qq (Z.any (AW l))/\wx=V)
     case first=>
      cases Z with
      |none=>
       go_wp2_with fail
       go_meet
       case rel=>exact⟨rfl,rfl⟩
      |some b=>
       have as7:b.length<=6:=hbl;have RB':Hid (bB V (qu b5 b.length c5) b):=nV RB.o.1;by_cases h1:b.length<l.length
       .have i4:(b.length:Int)<l.length:=ab
        go_wp2_with fail
        go_meet
        case rel=>exact⟨by simp[AW,h1],rfl⟩
       .have i4:¬(b.length:Int)<l.length:=ab;by_cases h2:l.length=b.length
        .have i5:(l.length:Int)=b.length:=ab;have i6:((l.length:Int)==b.length)=kY:=by simp[h2]
         have H2:=nV h2;clear i5 h2 h1
         go_wp2_with (go_at_call 64;refine(RF RL.o.1 RB'.o ab ab).m ?_;rintro e w'⟨rfl,rfl⟩)
         go_meet
         case rel=>exact⟨by simp[AW,H2.o],rfl⟩
        .have i6:((l.length:Int)==b.length)=kS:=by simp;omega
         go_wp2_with fail
         go_meet
         case rel=>exact⟨by simp[AW,h2,h1],rfl⟩
     case rest=>
      obtain⟨rfl,rfl⟩:=hcut;obtain⟨V,rfl⟩:=bs wc;have hz:=r.o.lt;obtain⟨M,t,O,H,f4,P⟩:=bf r.o.box;by_cases K:Z.any (AW l)=kY
      .rw[K];go_wp2;refine⟨⟨q+1,aH,by go_num,?_,?_,r.o⟩,by simp only[intOf];omega⟩
       .rw[qC,kT,<-x.o,<-d.o,if_pos K]
       .rw[qC,kT,<-x.o,<-d.o,if_pos K];exact RB.o
      .rw[aV K];have s:=nV K;clear K;obtain⟨bb,iC⟩:=bs C.b3;rw[<-iC]at H;have alo:=nV iC;clear iC
       go_upto_region 18 with fail
       go_loopw [62] (λA wr=>∃i:Nat,i<=C.n3/\A=qr rQ i/\(∀k,k<i->Iq C q k=kY)/\bL V wr) (λA _=>C.n3-(intOf A).toNat)
       case atStart=>exact⟨0,eF _,rfl,λk B=>absurd B (eI _),li _ _⟩
       case round=>
        obtain⟨i,hi,rfl,X,g⟩:=hrel;have D:=nV X;clear X M t O H f4 P;have E:=nV (r.o.on g);have m3:C.n3<=20:=HA.o.m3;by_cases c:i<C.n3
        .have i7:(i:Int)<C.n3:=ab;have hA:=HA.o.below E.o.low;have e3:=alo.o.t (hA.s3 ab);have k0:=hA.Es i c;have k1:=hA.Et i c;have k2:=hA.Eu i c;have hk3:=hA.h3;clear hA;obtain⟨a,b,ea,eb,D8,NU⟩:=aaF HC.o Y.o c;have F:Hid (Iq C q i=(zV q a||zV q b)):=nV (by rw[Iq,ea,eb];rfl);rw[ea]at k0;rw[eb]at k1;subst e3;clear ea eb;have lq:=Cq q ab a ab;have S:=Cq q ab b ab;by_cases L:zV q a=kY
         .rw[if_pos L]at lq;have hc:=nV (F.o.t (by rw[L];rfl):Iq C q i=kY);clear L S;go_wp2;refine⟨⟨i+1,c,by go_num,λk B=>?_,(g.a g.z _)⟩,by simp only[intOf];omega⟩
          rcases fg.1 B with h|h
          .exact D.o k h
          .rw[h];exact hc.o
         .rw[if_neg L]at lq;have ha':=aV L;clear L;by_cases hb:zV q b=kY
          .rw[if_pos hb]at S;have hc:=nV (F.o.t (by rw[ha',hb];rfl):Iq C q i=kY);clear ha' hb;go_wp2;refine⟨⟨i+1,c,by go_num,λk B=>?_,(g.a g.z _)⟩,by simp only[intOf];omega⟩
           rcases fg.1 B with h|h
           .exact D.o k h
           .rw[h];exact hc.o
          .rw[if_neg hb]at S;have hc:=nV (F.o.t (by rw[ha',aV hb];rfl):Iq C q i=kS)
           have f:Hid (RG C q=kS):=nV (by
            rw[RG,lM]
            exact⟨i,dv.2 c,by simp[hc.o]⟩)
           clear ha' hb;go_wp2;refine⟨⟨q+1,aH,by go_num,?_,?_,E.o.alloc _⟩,by simp only[intOf];omega⟩
           .rw[qC,kT,<-x.o,<-d.o,if_neg s.o,if_neg (by simp[f.o])]
           .rw[qC,kT,<-x.o,<-d.o,if_neg s.o,if_neg (by simp[f.o])];exact(RB.o.on g).on ((li _ _).a (dk _) _)
        .obtain rfl:i=C.n3:=ab
         have f:Hid (RG C q=kY):=nV (by
          rw[RG,df]
          exact λk B=>D.o k (dv.1 B))
         go_wp2;refine⟨⟨q+1,aH,by go_num,?_,?_,E.o⟩,by simp only[intOf];omega⟩
         .rw[qC,kT,<-x.o,<-d.o,if_neg s.o,if_pos f.o];rfl
         .rw[qC,kT,<-x.o,<-d.o,if_neg s.o,if_pos f.o];exact RL.o.on g
  .obtain rfl:q=N:=ab;have I:=HR.o;have fin:aby wr u5 ((qC C C.p.toNat (2 ^ C.p.toNat)).getD []):=by
    have e:C.p.toNat=p:=by rw[Y.o];rfl
    rw[e,<-HN.o,<-x.o];exact I
   have FIN:=nV fin;clear fin I;go_wp2;rw[Exit.noGoto_ret];refine ci (v:=qH #[u5,qr rQ 0]) ?_ rfl ⟨_,rfl,FIN.o,HK.o.low⟩;simp[cl,Tryz.results27,go_sem]
def Cr(C:CD)(w:ad)(h:C.At w)(hc:C.cx=0):bd PL 27 #[qv C.val] w λe w'=>∃v,e=r7 (qH #[v,qr rQ 0])/\bB w' v ((qC C C.p.toNat (2 ^ C.p.toNat)).getD [])/\bL w w':=
 (afS C w h hc).m λ_ _⟨v,e,a,b⟩=>⟨v,e,a.1,b⟩
end Go.Proofs
