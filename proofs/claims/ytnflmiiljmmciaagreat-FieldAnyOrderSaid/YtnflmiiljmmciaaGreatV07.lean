/- Part of the proof of FieldAnyOrder. -/
import Derived.Test.YtnflmiiljmmciaaGreatV06
import Derived.Maps.AppendAt
import Derived.Maps.RangeWalk
import Derived.WalkMore
set_option linter.all false
open Go renaming World->ac,Value->ad,Calls->ag,bodyPost_ret->ai,results->aI,TypeId->aJ,Oper->aP,Exit->aT,Operand->bi,wpList->bj,info_parts->bm,wpList_append_own->bq,maxLen->bv,cell_one_new->bC,Addr->bL,wpList_plain->bM,execOp->bR,wp_region_noPanic->bT,MapEntry->b1,underlying->b9,callsIn_wide->cd,callsIn_of_wp_marks->ce,run_takeDeferred->cf,grownBy_putObj'->ch
open Nat renaming lt_of_lt_of_le->ci,eq_zero_or_pos->cl,zero_le->cm,add_assoc->co,le_refl->cq,le_of_ble_eq_true->ct,zero_add->cv,lt_irrefl->cB,sub_self->cC,le_trans->cQ,not_lt_zero->c9,mul_comm->da,succ_mul->db,mul_le_mul_right->dd,mul_one->df,mul_add_div->dk,div_eq_of_lt->dp,le_succ->dq,reduceAdd->dt,reduceSub->du
open Go.Proofs.Tryz renaming func13->dv,ntmps13->dC,func12->dL,ntmps12->dO,func25->dQ,ntmps25->dT,func26->dU,ntmps26->d8,func35->d9,ntmps35->ec,func104->eh,ntmps104->ei,func105->ej,ntmps105->ek,func106->el,ntmps106->em,func107->ep,ntmps107->eq,func34->et,ntmps34->eu,func73->eA
open Go.RowKit.Below renaming refl->eD
open Go.Lib renaming hid->eE
open Go.Proofs renaming getElem?_lt'->eF
open Go.Proofs.Below renaming on->eI,zQ->eM
open Go.World renaming setCell->eN,cell?->eQ,size_setCell->eS,size_alloc->eT,setRow->eV,putObj->eW,grownBy_alloc->e6,putObj_heap_same->e7,putObj_heap_other->fg
open Array renaming getElem?_modify->fi,length_toList->fm,mem_filter->fo,ext_getElem?->fp,replicate_succ->ft,replicate_zero->fA
open List renaming mem_append_left->fB,mem_cons->fJ,not_mem_nil->fP,getElem?_map->fR,getElem?_eq_getElem->fY,getD_eq_getElem?_getD->f6,getElem?_take_of_lt->f7,length_append->f8,map_append->f9,range->gc,all_eq_true->ge,mem_range->gj,getElem?_toArray->gl,append_assoc->gp,getElem?_append_right->gr,getElem?_append_left->gt,getElem?_take->gw,mem_toArray->gy,mem_map->gB,range_succ->gD,flatMap_cons->gG,length->gL,cons_append->g7,take_succ_cons->g8,take_zero->g9,drop_succ_cons->hh,drop_zero->hk,drop_eq_nil_of_le->hm,drop_eq_getElem_cons->ht,append_inj'->hu,append_nil->hG,getElem_of_mem->hH,mem_append_right->hM,ext_getElem->hT,mem_mapIdx->hV,filter_filter->hX,map_cons->hZ,mem_of_getElem?->h6,mem_or_eq_of_mem_set->h7,find?_isSome->h8,mem_map_of_mem->ib,size_toArray->ih,length_cons->ii,length_nil->ik,push_toArray->il,append_toArray->im,nil_append->io,getElem?_cons_succ->ip,getElem?_cons_zero->ix
open Go.Obj renaming cells->iB,map->iN,mapIter->iP,deferred->iU,loop->iY
open Go.Value renaming int->i9,string->jf,slice->jk,oneCell'->jl,bool->jn,agg->jp,tuple->jr,pointer->js,map->jt,func->jw
open Go.World.ownsRow renaming alloc->jx
open Go.IntKind renaming i64->jz
open Bool renaming and_eq_true->jD,or_eq_true->jH
open Go.Instr renaming field->jQ,build->jR,findNow->jX,sameNow->j3,findKey->j4,lookup->j5,mapUpdate->j6,keyThatStays->ka
open Option renaming map_some->kb,none->kc,some->kd
open Go.Addr renaming add->ke
open Go.MapKept renaming run_getObj_map->kf,run_setObj_map->kh
open Go.Result renaming andThen->ki,ok->kj
open Go.KeepsOthers renaming alloc->km,of_grownBy->ko,setCell->kp
open Go.Ending renaming returned->kq
open Go.TypeDesc renaming slice->ks
open Or renaming inl->kt,inr->kv
set_option maxHeartbeats 4000000
set_option maxRecDepth 100000
namespace Go.Proofs
open Go.RowKit
def Reads(W:ac)(v:ad)(n m:Nat)(f:Nat->ad):Prop:=∃b c,v=jk b n c/\(0<n->∃k o,b=some ⟨k,o,none⟩/\k<W.heap.size/\∀j,j<n*m->W.cell? ⟨k,o+j,none⟩=some (f j))
def Reads.on{W a:ac}{v:ad}{n m:Nat}{f:Nat->ad}(h:Reads W v n m f)(d:bA W a):Reads a v n m f:=by
 obtain⟨b,c,e,h⟩:=h;refine⟨b,c,e,λi=>?_⟩;obtain⟨k,o,e1,g,hc⟩:=h i;exact⟨k,o,e1,ci g d.size,λj l=>(d.cell (p:=⟨k,o+j,none⟩) g).trans (hc j l)⟩
def aaC:PL.stoodInHeld 72=false:=ae
def Vy:PL.eqGuardType PL.depth 72=false:=ae
def Rw:PL.stoodInHeld 75=false:=ae
def Kv:PL.eqGuardType PL.depth 75=false:=ae
def pI(a b:ad)(n:Nat)(f:Nat->Int)(w:ac)(c:Reads w a n 1 λj=>i9 jz (f j))(hb:Reads w b n 1 λj=>i9 jz (f j))(h:n<=20):ag PL 13 #[a,b] w (aO (jn true) w):=by
 obtain⟨r,s,rfl,c⟩:=c;obtain⟨t,u,rfl,hb⟩:=hb
 rcases cl n with rfl|e
 .clear c hb h;go_enter (fx ao dv),dC;go_wp2
  go_loop [5] (λv=>v=i9 jz 0) (λ_=>0)
  case atStart=>rfl
  case round=>
   subst hrel;go_wp2;go_ret;exact⟨rfl,eD _ _⟩
 .obtain⟨k,o,rfl,i,c⟩:=c e;obtain⟨k',g,rfl,l,hb⟩:=hb e;have A:=eE c;have B:=eE hb;clear c hb;go_enter (fx ao dv),dC;go_wp2
  go_loopw [5] (λv wr=>∃q:Nat,q<=n/\v=i9 jz q/\bA w wr) (λv _=>n-(intOf v).toNat)
  case atStart=>exact⟨0,cm _,rfl,eD _ _⟩
  case round=>
   obtain⟨q,x,rfl,d⟩:=hrel;by_cases m:q<n
   .have y:(q:Int)<n:=ab;have a0:wr.cell? ⟨k,o+q,none⟩=some (i9 jz (f q)):=(d.cell (p:=⟨k,o+q,none⟩) i).trans (A.out q ab);have b0:wr.cell? ⟨k',g+q,none⟩=some (i9 jz (f q)):=(d.cell (p:=⟨k',g+q,none⟩) l).trans (B.out q ab);go_wp2
    go_quiet (fail)
    go_wp2;refine⟨⟨q+1,m,by go_num,below_drewN d _⟩,by simp only[intOf];omega⟩
   .obtain rfl:q=n:=ab;go_wp2;go_ret;exact⟨rfl,d⟩
def Cp(a b:ad)(n:Nat)(f:Nat->Int)(w:ac)(c:Reads w a n 1 λj=>i9 jz (f j))(hb:Reads w b n 1 λj=>i9 jz (f j))(h:n<=20):ag PL 12 #[a,b] w (aO (jn true) w):=by
 obtain⟨r,s,rfl,c⟩:=c;obtain⟨t,u,rfl,hb⟩:=hb
 rcases cl n with rfl|e
 .clear c hb h;go_enter (fx ao dL),dO;go_wp2
  go_loop [5] (λv=>v=i9 jz 0) (λ_=>0)
  case atStart=>rfl
  case round=>
   subst hrel;go_wp2;go_ret;exact⟨rfl,eD _ _⟩
 .obtain⟨k,o,rfl,i,c⟩:=c e;obtain⟨k',g,rfl,l,hb⟩:=hb e;have A:=eE c;have B:=eE hb;clear c hb;go_enter (fx ao dL),dO;go_wp2
  go_loopw [5] (λv wr=>∃q:Nat,q<=n/\v=i9 jz q/\bA w wr) (λv _=>n-(intOf v).toNat)
  case atStart=>exact⟨0,cm _,rfl,eD _ _⟩
  case round=>
   obtain⟨q,x,rfl,d⟩:=hrel;by_cases m:q<n
   .have y:(q:Int)<n:=ab;have a0:wr.cell? ⟨k,o+q,none⟩=some (i9 jz (f q)):=(d.cell (p:=⟨k,o+q,none⟩) i).trans (A.out q ab);have b0:wr.cell? ⟨k',g+q,none⟩=some (i9 jz (f q)):=(d.cell (p:=⟨k',g+q,none⟩) l).trans (B.out q ab);go_wp2
    go_quiet (fail)
    go_wp2;refine⟨⟨q+1,m,by go_num,below_drewN d _⟩,by simp only[intOf];omega⟩
   .obtain rfl:q=n:=ab;go_wp2;go_ret;exact⟨rfl,d⟩
def zT(a b:ad)(n:Nat)(f:Nat->Int)(w:ac)(e:Reads w a n 5 λj=>i9 jz (f j))(hb:Reads w b n 5 λj=>i9 jz (f j))(l:n<=20):ag PL 25 #[a,b] w (aO (jn true) w):=by
 obtain⟨r,s,rfl,e⟩:=e;obtain⟨t,u,rfl,hb⟩:=hb;have q1:=aaC;have q2:=Vy;have q3:=yM
 rcases cl n with rfl|i
 .clear e hb l;go_enter (fx ao dQ),dT;go_wp2
  go_loop [5] (λv=>v=i9 jz 0) (λ_=>0)
  case atStart=>rfl
  case round=>
   subst hrel;go_wp2;go_ret;exact⟨rfl,eD _ _⟩
 .obtain⟨k,o,rfl,g,e⟩:=e i;obtain⟨k',d,rfl,h,hb⟩:=hb i;have A:=eE e;have B:=eE hb;clear e hb;go_enter (fx ao dQ),dT;go_wp2
  go_loopw [5] (λv wr=>∃q:Nat,q<=n/\v=i9 jz q/\bA w wr) (λv _=>n-(intOf v).toNat)
  case atStart=>exact⟨0,cm _,rfl,eD _ _⟩
  case round=>
   obtain⟨q,x,rfl,c⟩:=hrel;by_cases m:q<n
   .have y:(q:Int)<n:=ab;have a0:wr.cell? ⟨k,o+q*5,none⟩=some (i9 jz (f (q*5))):=(c.cell (p:=⟨k,o+q*5,none⟩) g).trans ((by have:=A.out (q*5) ab;simpa using this));have a1:wr.cell? ⟨k,o+q*5+1,none⟩=some (i9 jz (f (q*5+1))):=(c.cell (p:=⟨k,o+q*5+1,none⟩) g).trans ((by have:=A.out (q*5+1) ab;rwa[<-co]at this));have a2:wr.cell? ⟨k,o+q*5+2,none⟩=some (i9 jz (f (q*5+2))):=(c.cell (p:=⟨k,o+q*5+2,none⟩) g).trans ((by have:=A.out (q*5+2) ab;rwa[<-co]at this));have a3:wr.cell? ⟨k,o+q*5+3,none⟩=some (i9 jz (f (q*5+3))):=(c.cell (p:=⟨k,o+q*5+3,none⟩) g).trans ((by have:=A.out (q*5+3) ab;rwa[<-co]at this));have a4:wr.cell? ⟨k,o+q*5+4,none⟩=some (i9 jz (f (q*5+4))):=(c.cell (p:=⟨k,o+q*5+4,none⟩) g).trans ((by have:=A.out (q*5+4) ab;rwa[<-co]at this));have b0:wr.cell? ⟨k',d+q*5,none⟩=some (i9 jz (f (q*5))):=(c.cell (p:=⟨k',d+q*5,none⟩) h).trans ((by have:=B.out (q*5) ab;simpa using this));have z:wr.cell? ⟨k',d+q*5+1,none⟩=some (i9 jz (f (q*5+1))):=(c.cell (p:=⟨k',d+q*5+1,none⟩) h).trans ((by have:=B.out (q*5+1) ab;rwa[<-co]at this));have C:wr.cell? ⟨k',d+q*5+2,none⟩=some (i9 jz (f (q*5+2))):=(c.cell (p:=⟨k',d+q*5+2,none⟩) h).trans ((by have:=B.out (q*5+2) ab;rwa[<-co]at this));have D:wr.cell? ⟨k',d+q*5+3,none⟩=some (i9 jz (f (q*5+3))):=(c.cell (p:=⟨k',d+q*5+3,none⟩) h).trans ((by have:=B.out (q*5+3) ab;rwa[<-co]at this));have E:wr.cell? ⟨k',d+q*5+4,none⟩=some (i9 jz (f (q*5+4))):=(c.cell (p:=⟨k',d+q*5+4,none⟩) h).trans ((by have:=B.out (q*5+4) ab;rwa[<-co]at this))
    go_wp2
    go_quiet (fail)
    go_wp2;refine⟨⟨q+1,m,by go_num,below_drewN c _⟩,by simp only[intOf];omega⟩
   .obtain rfl:q=n:=ab;go_wp2;go_ret;exact⟨rfl,c⟩
def vS(a b:ad)(n:Nat)(f:Nat->Int)(w:ac)(e:Reads w a n 5 λj=>i9 jz (f j))(hb:Reads w b n 5 λj=>i9 jz (f j))(l:n<=20):ag PL 26 #[a,b] w (aO (jn true) w):=by
 obtain⟨r,s,rfl,e⟩:=e;obtain⟨t,u,rfl,hb⟩:=hb;have q1:=Rw;have q2:=Kv;have q3:=yM
 rcases cl n with rfl|i
 .clear e hb l;go_enter (fx ao dU),d8;go_wp2
  go_loop [5] (λv=>v=i9 jz 0) (λ_=>0)
  case atStart=>rfl
  case round=>
   subst hrel;go_wp2;go_ret;exact⟨rfl,eD _ _⟩
 .obtain⟨k,o,rfl,g,e⟩:=e i;obtain⟨k',d,rfl,h,hb⟩:=hb i;have A:=eE e;have B:=eE hb;clear e hb;go_enter (fx ao dU),d8;go_wp2
  go_loopw [5] (λv wr=>∃q:Nat,q<=n/\v=i9 jz q/\bA w wr) (λv _=>n-(intOf v).toNat)
  case atStart=>exact⟨0,cm _,rfl,eD _ _⟩
  case round=>
   obtain⟨q,x,rfl,c⟩:=hrel;by_cases m:q<n
   .have y:(q:Int)<n:=ab;have a0:wr.cell? ⟨k,o+q*5,none⟩=some (i9 jz (f (q*5))):=(c.cell (p:=⟨k,o+q*5,none⟩) g).trans ((by have:=A.out (q*5) ab;simpa using this));have a1:wr.cell? ⟨k,o+q*5+1,none⟩=some (i9 jz (f (q*5+1))):=(c.cell (p:=⟨k,o+q*5+1,none⟩) g).trans ((by have:=A.out (q*5+1) ab;rwa[<-co]at this));have a2:wr.cell? ⟨k,o+q*5+2,none⟩=some (i9 jz (f (q*5+2))):=(c.cell (p:=⟨k,o+q*5+2,none⟩) g).trans ((by have:=A.out (q*5+2) ab;rwa[<-co]at this));have a3:wr.cell? ⟨k,o+q*5+3,none⟩=some (i9 jz (f (q*5+3))):=(c.cell (p:=⟨k,o+q*5+3,none⟩) g).trans ((by have:=A.out (q*5+3) ab;rwa[<-co]at this));have a4:wr.cell? ⟨k,o+q*5+4,none⟩=some (i9 jz (f (q*5+4))):=(c.cell (p:=⟨k,o+q*5+4,none⟩) g).trans ((by have:=A.out (q*5+4) ab;rwa[<-co]at this));have b0:wr.cell? ⟨k',d+q*5,none⟩=some (i9 jz (f (q*5))):=(c.cell (p:=⟨k',d+q*5,none⟩) h).trans ((by have:=B.out (q*5) ab;simpa using this));have z:wr.cell? ⟨k',d+q*5+1,none⟩=some (i9 jz (f (q*5+1))):=(c.cell (p:=⟨k',d+q*5+1,none⟩) h).trans ((by have:=B.out (q*5+1) ab;rwa[<-co]at this));have C:wr.cell? ⟨k',d+q*5+2,none⟩=some (i9 jz (f (q*5+2))):=(c.cell (p:=⟨k',d+q*5+2,none⟩) h).trans ((by have:=B.out (q*5+2) ab;rwa[<-co]at this));have D:wr.cell? ⟨k',d+q*5+3,none⟩=some (i9 jz (f (q*5+3))):=(c.cell (p:=⟨k',d+q*5+3,none⟩) h).trans ((by have:=B.out (q*5+3) ab;rwa[<-co]at this));have E:wr.cell? ⟨k',d+q*5+4,none⟩=some (i9 jz (f (q*5+4))):=(c.cell (p:=⟨k',d+q*5+4,none⟩) h).trans ((by have:=B.out (q*5+4) ab;rwa[<-co]at this))
    go_wp2
    go_quiet (fail)
    go_wp2;refine⟨⟨q+1,m,by go_num,below_drewN c _⟩,by simp only[intOf];omega⟩
   .obtain rfl:q=n:=ab;go_wp2;go_ret;exact⟨rfl,c⟩
def fU(a b:Int)(w:ac):ag PL 24 #[i9 jz a,i9 jz b] w (aO (jp #[i9 jz a,i9 jz b]) w):=by
 go_enter (fx ao Tryz.func24),Tryz.ntmps24;go_wp2;refine ai (v:=jp #[i9 jz a,i9 jz b]) ?_ rfl ⟨rfl,(eD _ _).alloc (cq _) _⟩;simp[aI,Tryz.results24,go_sem]
structure Lay(w W:ac)(l:List (Nat×Obj)):Prop where
 iM:∀p∈l,W.heap[p.1]?=some p.2
 low:bA w W
def Lay.on{w W a:ac}{l:List (Nat×Obj)}(h:Lay w W l)(b:bA W a):Lay w a l:=
 ⟨λp c=>(b.block _ (eF (h.iM p c))).trans (h.iM p c),eI h.low b⟩
def Lay.alloc{w W:ac}{l:List (Nat×Obj)}(h:Lay w W l)(o:Obj):Lay w (W.alloc o) ((W.heap.size,o)::l):=
 ⟨λp a=>by
   rcases List.mem_cons.1 a with rfl|a
   .exact au W o
   .exact(((eD W.heap.size W).alloc (cq _) o).block _ (eF (h.iM p a))).trans (h.iM p a),h.low.alloc h.low.size o⟩
def Lay.nil(w:ac):Lay w w []:=⟨λ_ h=>(by cases h),eD _ _⟩
theorem Lay.set{w W:ac}{l:List (Nat×Obj)}(h:Lay w W l){R:Nat}(b:w.heap.size<=R)(hl:∀p∈l,R≠p.1)(o:Nat)(v:ad):Lay w (W.setCell ⟨R,o,none⟩ v) l:=
 ⟨λp a=>by
   have:(W.setCell ⟨R,o,none⟩ v).heap[p.1]?=W.heap[p.1]?:=by simp only[eN,fi,if_neg (hl p a)]
   rw[this];exact h.iM p a,h.low.setCell (p:=⟨R,o,none⟩) b v⟩
def Lay.init{w W:ac}{l:List (Nat×Obj)}{p:Nat×Obj}(h:Lay w W (l++[p])):Lay w W l:=⟨λq a=>h.iM q (fB _ a),h.low⟩
def tO{W:ac}{k:Nat}{c:Array ad}{t:aJ}(h:W.heap[k]?=some (iB c t)):∀o,W.frozen? ⟨k,o,none⟩=false:=λo=>by simp[World.frozen?,h]
def exN:Nat->Nat->Int
 |0,1=>20|0,2=>20|0,3=>0|0,4=>12|0,5=>1|0,6=>1|0,7=>4|0,8=>6|0,9=>2|0,10=>3
 |1,1=>13|1,2=>13|1,3=>5|1,4=>5|1,5=>0|1,6=>2|1,7=>4|1,8=>5|1,9=>3|1,10=>3
 |2,1=>25|2,2=>25|2,3=>-7|2,4=>7|2,5=>1|2,6=>3|2,7=>5|2,8=>5|2,9=>2|2,10=>4
 |_,_=>0
def Vz(a ca lb b:Nat):Nat->iJ
 |0=>{ name:=⟨#[97]⟩,n:=exN 0,lb:=some ⟨a,0,none⟩,ln:=1,lc:=ca,lk:=a,lo:=0,lane:=λ_=>1 }
 |1=>{ name:=⟨#[98]⟩,n:=exN 1,lb:=some ⟨lb,0,none⟩,ln:=1,lc:=b,lk:=lb,lo:=0,lane:=λ_=>2 }
 |_=>{ name:=⟨#[99]⟩,n:=exN 2,lb:=none,ln:=0,lc:=0,lk:=0,lo:=0,lane:=λ_=>0 }
def alj:Nat->Int×Int
 |0=>(5,15)|_=>(10,18)
def zU:Nat->Int×Int×Int
 |0=>(0,1,40)|1=>(1,2,30)|2=>(2,3,30)|_=>(0,3,80)
def alk(d:Int):Nat->ByteArray×Int×Int
 |0=>(⟨#[114,101,100]⟩,0,0)|_=>(⟨#[98,108,117,101]⟩,1,d)
def ir(k2 c k3 c3 a e b f g ca lb h:Nat)(d:Int):CD:=
 { l:=60,p:=4,b2:=some ⟨k2,0,none⟩,k2:=k2,o2:=0,n2:=2,c2:=c,x2:=alj,b3:=some ⟨k3,0,none⟩,k3:=k3,o3:=0,n3:=4,c3:=c3,x3:=zU,
   b4:=some ⟨a,0,none⟩,k4:=a,o4:=0,n4:=3,c4:=e,x4:=Vz g ca lb h,b5:=some ⟨b,0,none⟩,k5:=b,o5:=0,n5:=2,c5:=f,x5:=alk d }
def VB(d:Int)(C:CD):Prop:=∃k2 a k3 c3 b c e f g h lb i,C=ir k2 a k3 c3 b c e f g h lb i d
abbrev bh(n:Int):ad:=i9 jz n
def vT:List ad:=[bh 5,bh 15,bh 10,bh 18]
def vU:List ad:=[bh 0,bh 1,bh 40,bh 1,bh 2,bh 30,bh 2,bh 3,bh 30,bh 0,bh 3,bh 80]
def rO(a ca lb b:Nat):List ad:=[jf ⟨#[97]⟩,bh 20,bh 20,bh 0,bh 12,bh 1,bh 1,bh 4,bh 6,bh 2,bh 3,jk (some ⟨a,0,none⟩) 1 ca,jf ⟨#[98]⟩,bh 13,bh 13,bh 5,bh 5,bh 0,bh 2,bh 4,bh 5,bh 3,bh 3,jk (some ⟨lb,0,none⟩) 1 b,jf ⟨#[99]⟩,bh 25,bh 25,bh (-7),bh 7,bh 1,bh 3,bh 5,bh 5,bh 2,bh 4,jk none 0 0]
def qB(d:Int):List ad:=[jf ⟨#[114,101,100]⟩,bh 0,bh 0,jf ⟨#[98,108,117,101]⟩,bh 1,bh d]
def Row(W:ac)(k:Nat)(l:List ad):Prop:=k<W.heap.size/\∀(j:Nat)v,l[j]?=some v->W.cell? ⟨k,j,none⟩=some v
def Row.of{W:ac}{k:Nat}{l:List ad}{c:Array ad}{t:aJ}{a:Nat×Nat}(h:W.heap[k]?=some (iB c t a))(hl:∀(j:Nat)v,l[j]?=some v->c[j]?=some v):Row W k l:=
 ⟨eF h,λj v e=>by simp[eQ,h,hl j v e]⟩
def Row.on{W a:ac}{k:Nat}{l:List ad}(h:Row W k l)(b:bA W a):Row a k l:=
 ⟨ci h.1 b.size,λj v e=>(b.cell (p:=⟨k,j,none⟩) h.1).trans (h.2 j v e)⟩
def Lay.row{w W:ac}{L:List (Nat×Obj)}(h:Lay w W L){k:Nat}{c:Array ad}{t:aJ}{l:List ad}(a:(k,iB c t)∈L)(e:c.toList=l):Row W k l:=
 Row.of (h.iM _ a) λj v hv=>by rw[<-e]at hv;simpa using hv
def Rx{W:ac}{k2 p k3 c3 k q m r h ca lb l:Nat}{d:Int}(b:Row W k2 vT)(a:Row W k3 vU)(c:Row W k (rO h ca lb l))(f:Row W m (qB d))(s:Row W h [bh 1])(hb:Row W lb [bh 2]) :
 (ir k2 p k3 c3 k q m r h ca lb l d).At W:=by
 refine⟨ct rfl,ct rfl,ct rfl,ct rfl,b.1,a.1,c.1,f.1,λ_=>rfl,λ_=>rfl,λ_=>rfl,λ_=>rfl,λi hi=>?_,λi hi=>?_,λi hi=>?_,λi hi=>?_,λi hi=>?_,λi hi=>?_,λi hi=>?_,λi hi j o b=>?_,λi hi=>?_,λi hi hl=>?_,λi hi j g=>?_,λi hi=>?_,λi hi=>?_,λi hi=>?_,λi hi=>?_⟩
 .match i,hi with
  |0,_=>exact b.2 0 _ rfl
  |1,_=>exact b.2 2 _ rfl
 .match i,hi with
  |0,_=>exact b.2 1 _ rfl
  |1,_=>exact b.2 3 _ rfl
 .match i,hi with
  |0,_=>exact a.2 0 _ rfl
  |1,_=>exact a.2 3 _ rfl
  |2,_=>exact a.2 6 _ rfl
  |3,_=>exact a.2 9 _ rfl
 .match i,hi with
  |0,_=>exact a.2 1 _ rfl
  |1,_=>exact a.2 4 _ rfl
  |2,_=>exact a.2 7 _ rfl
  |3,_=>exact a.2 10 _ rfl
 .match i,hi with
  |0,_=>exact a.2 2 _ rfl
  |1,_=>exact a.2 5 _ rfl
  |2,_=>exact a.2 8 _ rfl
  |3,_=>exact a.2 11 _ rfl
 .match i,hi with
  |0,_=>exact⟨ct rfl,ct rfl⟩
  |1,_=>exact⟨ct rfl,ct rfl⟩
  |2,_=>exact⟨ct rfl,ct rfl⟩
 .match i,hi with
  |0,_=>exact c.2 0 _ rfl
  |1,_=>exact c.2 12 _ rfl
  |2,_=>exact c.2 24 _ rfl
 .have key:∀i,i<3->∀j,1<=j->j<=10->(rO h ca lb l)[i*12+j]?=some (bh (exN i j)):=by
   intro i hi j o b
   match i,j,hi,o,b with
   |0,1,_,_,_|0,2,_,_,_|0,3,_,_,_|0,4,_,_,_|0,5,_,_,_|0,6,_,_,_|0,7,_,_,_|0,8,_,_,_|0,9,_,_,_|0,10,_,_,_=>rfl
   |1,1,_,_,_|1,2,_,_,_|1,3,_,_,_|1,4,_,_,_|1,5,_,_,_|1,6,_,_,_|1,7,_,_,_|1,8,_,_,_|1,9,_,_,_|1,10,_,_,_=>rfl
   |2,1,_,_,_|2,2,_,_,_|2,3,_,_,_|2,4,_,_,_|2,5,_,_,_|2,6,_,_,_|2,7,_,_,_|2,8,_,_,_|2,9,_,_,_|2,10,_,_,_=>rfl
  have e:((ir k2 p k3 c3 k q m r h ca lb l d).x4 i).n j=exN i j:=by
   match i,hi with
   |0,_=>rfl
   |1,_=>rfl
   |2,_=>rfl
  rw[e];show W.cell? ⟨k,0+i*12+j,none⟩=_;rw[cv];exact c.2 _ _ (key i hi j o b)
 .match i,hi with
  |0,_=>exact c.2 11 _ rfl
  |1,_=>exact c.2 23 _ rfl
  |2,_=>exact c.2 35 _ rfl
 .match i,hi,hl with
  |0,_,_=>exact⟨rfl,s.1⟩
  |1,_,_=>exact⟨rfl,hb.1⟩
  |2,_,hl=>exact absurd hl (cB 0)
 .match i,hi,j,g with
  |0,_,0,_=>exact s.2 0 _ rfl
  |1,_,0,_=>exact hb.2 0 _ rfl
  |0,_,j+1,g=>exact absurd g (by simp[ir,Vz])
  |1,_,j+1,g=>exact absurd g (by simp[ir,Vz])
  |2,_,j,g=>exact absurd g (by simp[ir,Vz])
 .match i,hi with
  |0,_=>exact ct rfl
  |1,_=>exact ct rfl
 .match i,hi with
  |0,_=>exact f.2 0 _ rfl
  |1,_=>exact f.2 3 _ rfl
 .match i,hi with
  |0,_=>exact f.2 1 _ rfl
  |1,_=>exact f.2 4 _ rfl
 .match i,hi with
  |0,_=>exact f.2 2 _ rfl
  |1,_=>exact f.2 5 _ rfl
def EV(w:ac):ag PL 16 #[] w λe w'=>∃k2 X k3 c3 L Y M j q ca lb N,e=kq (jp (ir k2 X k3 c3 L Y M j q ca lb N 0).val)/\(Row w' k2 vT/\Row w' k3 vU/\Row w' L (rO q ca lb N)/\Row w' M (qB 0)/\Row w' q [bh 1]/\Row w' lb [bh 2])/\bA w w':=by
 go_enter (fx ao Tryz.func16),Tryz.ntmps16
 go_wp2_with (first|(go_at_call 24;have _:=h;refine(fU _ _ _).mono ?_;rintro e b⟨rfl,a⟩;have i:=eE (((h.out).on a));clear a;have r:=eF (i.out.iM (w.heap.size,iB #[i9 jz 0,i9 jz 0,jk none 0 0,jk none 0 0,jk none 0 0,jk none 0 0] 27) ar);simp only at r;have O:=tO (i.out.iM (w.heap.size,iB #[i9 jz 0,i9 jz 0,jk none 0 0,jk none 0 0,jk none 0 0,jk none 0 0] 27) ar);simp only at O;obtain⟨s,u,x,y,f4,z⟩:=bf (i.out.iM (w.heap.size,iB #[i9 jz 0,i9 jz 0,jk none 0 0,jk none 0 0,jk none 0 0,jk none 0 0] 27) ar);skip)|(go_at_call 24;have _:=A;refine(fU _ _ _).mono ?_;rintro e Z⟨rfl,a⟩;have h:=eE (((A.out).on a));clear a;skip)|(go_at_call 24;have _:=B;refine(fU _ _ _).mono ?_;rintro e w12⟨rfl,a⟩;have A:=eE (((B.out).on a));clear a;skip)|(go_at_call 24;have _:=l;refine(fU _ _ _).mono ?_;rintro e w11⟨rfl,a⟩;have B:=eE ((((l.out).alloc _).on a));clear a;skip)|(go_at_call 24;have _:=C;refine(fU _ _ _).mono ?_;rintro e d⟨rfl,a⟩;have l:=eE (((C.out).on a));clear a;skip)|(go_at_call 24;have _:=D;refine(fU _ _ _).mono ?_;rintro e w9⟨rfl,a⟩;have C:=eE (((D.out).on a));clear a;skip)|(go_at_call 24;have _:=E;refine(fU _ _ _).mono ?_;rintro e w8⟨rfl,a⟩;have D:=eE (((E.out).on a));clear a;skip)|(go_at_call 24;have _:=m;refine(fU _ _ _).mono ?_;rintro e w7⟨rfl,a⟩;have E:=eE ((((m.out).alloc _).on a));clear a;skip)|(go_at_call 24;have _:=F;refine(fU _ _ _).mono ?_;rintro e w6⟨rfl,a⟩;have m:=eE (((F.out).on a));clear a;skip)|(go_at_call 24;have _:=H;refine(fU _ _ _).mono ?_;rintro e w5⟨rfl,a⟩;have F:=eE (((H.out).on a));clear a;skip)|(go_at_call 24;have _:=I;refine(fU _ _ _).mono ?_;rintro e w4⟨rfl,a⟩;have H:=eE (((I.out).on a));clear a;skip)|(go_at_call 24;have _:=n;refine(fU _ _ _).mono ?_;rintro e w3⟨rfl,a⟩;have I:=eE (((((n.out).alloc _).alloc _).on a));clear a;skip)|(go_at_call 24;have _:=J;refine(fU _ _ _).mono ?_;rintro e w2⟨rfl,a⟩;have n:=eE (((J.out).on a));clear a;skip)|(go_at_call 24;refine(fU _ _ _).mono ?_;rintro e w1⟨rfl,a⟩;have J:=eE ((((Lay.nil w).alloc _).on a));clear a;skip))
 obtain⟨W,k⟩:=br ((((((b.setCell ⟨w.heap.size,0,none⟩ (i9 jz 60)).setCell ⟨w.heap.size,1,none⟩ (i9 jz 4)).setCell ⟨w.heap.size,2,none⟩ (jk (some ⟨w2.heap.size,0,none⟩) 2 2)).setCell ⟨w.heap.size,3,none⟩ (jk (some ⟨w2.heap.size+1,0,none⟩) 4 4)).setCell ⟨w.heap.size,4,none⟩ (jk (some ⟨b.heap.size,0,none⟩) 3 3)).setCell ⟨w.heap.size,5,none⟩ (jk (some ⟨b.heap.size+1,0,none⟩) 2 2));have z2:w.heap.size<w2.heap.size:=eF (n.out.iM (w.heap.size,iB #[i9 jz 0,i9 jz 0,jk none 0 0,jk none 0 0,jk none 0 0,jk none 0 0] 27) ar);have z6:w.heap.size<w6.heap.size:=eF (m.out.iM (w.heap.size,iB #[i9 jz 0,i9 jz 0,jk none 0 0,jk none 0 0,jk none 0 0,jk none 0 0] 27) ar);have UZ:w.heap.size<d.heap.size:=eF (l.out.iM (w.heap.size,iB #[i9 jz 0,i9 jz 0,jk none 0 0,jk none 0 0,jk none 0 0,jk none 0 0] 27) ar);have j:W.heap.size=b.heap.size:=by rw[k];simp only[eS]
 have o:W.heap[w.heap.size]?=some (iB #[i9 jz 60,i9 jz 4,jk (some ⟨w2.heap.size,0,none⟩) 2 2,jk (some ⟨w2.heap.size+1,0,none⟩) 4 4,jk (some ⟨b.heap.size,0,none⟩) 3 3,jk (some ⟨b.heap.size+1,0,none⟩) 2 2] 27):=by
  have g:=i.out.iM (w.heap.size,iB #[i9 jz 0,i9 jz 0,jk none 0 0,jk none 0 0,jk none 0 0,jk none 0 0] 27) ar;simp only at g;rw[k];simp[eN,fi,g]
 have LW:Lay w W [(d.heap.size,iB #[i9 jz 2] 3),(w6.heap.size,iB #[i9 jz 1] 3),(w2.heap.size+1,iB (i9 jz 0::i9 jz 1::i9 jz 40::i9 jz 1::i9 jz 2::i9 jz 30::i9 jz 2::i9 jz 3::i9 jz 30::i9 jz 0::i9 jz 3::i9 jz 80::[]).toArray 94),(w2.heap.size,iB #[i9 jz 5,i9 jz 15,i9 jz 10,i9 jz 18] 56)]:=by
  have hl:∀p∈[(d.heap.size,iB #[i9 jz 2] 3),(w6.heap.size,iB #[i9 jz 1] 3),(w2.heap.size+1,iB (i9 jz 0::i9 jz 1::i9 jz 40::i9 jz 1::i9 jz 2::i9 jz 30::i9 jz 2::i9 jz 3::i9 jz 30::i9 jz 0::i9 jz 3::i9 jz 80::[]).toArray 94),(w2.heap.size,iB #[i9 jz 5,i9 jz 15,i9 jz 10,i9 jz 18] 56)],w.heap.size≠p.1:=by
   intro p P;simp only[fJ,fP,or_false]at P
   rcases P with rfl|rfl|rfl|rfl<;>simp only<;>omega
  rw[k];have K:=i.out;simp only[eT]at K;exact((((((Lay.init (p:=(w.heap.size,iB #[i9 jz 0,i9 jz 0,jk none 0 0,jk none 0 0,jk none 0 0,jk none 0 0] 27)) K).set (cq _) hl 0 _).set (cq _) hl 1 _).set (cq _) hl 2 _).set (cq _) hl 3 _).set (cq _) hl 4 _).set (cq _) hl 5 _
 rw[<-k];clear k i h A B l C D E m F H I n J s u x y f4 z O;rw[<-j];rw[<-j]at o;have f:Lay w ((W.alloc (iB (jf ⟨#[97]⟩::i9 jz 20::i9 jz 20::i9 jz 0::i9 jz 12::i9 jz 1::i9 jz 1::i9 jz 4::i9 jz 6::i9 jz 2::i9 jz 3::jk (some ⟨w6.heap.size,0,none⟩) 1 1::jf ⟨#[98]⟩::i9 jz 13::i9 jz 13::i9 jz 5::i9 jz 5::i9 jz 0::i9 jz 2::i9 jz 4::i9 jz 5::i9 jz 3::i9 jz 3::jk (some ⟨d.heap.size,0,none⟩) 1 1::jf ⟨#[99]⟩::i9 jz 25::i9 jz 25::i9 jz (-7)::i9 jz 7::i9 jz 1::i9 jz 3::i9 jz 5::i9 jz 5::i9 jz 2::i9 jz 4::jk none 0 0::[]).toArray 88)).alloc (iB #[jf ⟨#[114,101,100]⟩,i9 jz 0,i9 jz 0,jf ⟨#[98,108,117,101]⟩,i9 jz 1,i9 jz 0] 32)) _:=(LW.alloc (iB (jf ⟨#[97]⟩::i9 jz 20::i9 jz 20::i9 jz 0::i9 jz 12::i9 jz 1::i9 jz 1::i9 jz 4::i9 jz 6::i9 jz 2::i9 jz 3::jk (some ⟨w6.heap.size,0,none⟩) 1 1::jf ⟨#[98]⟩::i9 jz 13::i9 jz 13::i9 jz 5::i9 jz 5::i9 jz 0::i9 jz 2::i9 jz 4::i9 jz 5::i9 jz 3::i9 jz 3::jk (some ⟨d.heap.size,0,none⟩) 1 1::jf ⟨#[99]⟩::i9 jz 25::i9 jz 25::i9 jz (-7)::i9 jz 7::i9 jz 1::i9 jz 3::i9 jz 5::i9 jz 5::i9 jz 2::i9 jz 4::jk none 0 0::[]).toArray 88)).alloc (iB #[jf ⟨#[114,101,100]⟩,i9 jz 0,i9 jz 0,jf ⟨#[98,108,117,101]⟩,i9 jz 1,i9 jz 0] 32)
 have Q:Row _ w2.heap.size vT:=f.row (c:=#[i9 jz 5,i9 jz 15,i9 jz 10,i9 jz 18]) (t:=56) ar rfl;have R:Row _ (w2.heap.size+1) vU:=f.row (c:=(i9 jz 0::i9 jz 1::i9 jz 40::i9 jz 1::i9 jz 2::i9 jz 30::i9 jz 2::i9 jz 3::i9 jz 30::i9 jz 0::i9 jz 3::i9 jz 80::[]).toArray) (t:=94) ar rfl;have S:Row _ w6.heap.size [bh 1]:=f.row (c:=#[i9 jz 1]) (t:=3) ar rfl;have T:Row _ d.heap.size [bh 2]:=f.row (c:=#[i9 jz 2]) (t:=3) ar rfl;have U:Row _ W.heap.size (rO w6.heap.size 1 d.heap.size 1):=f.row (c:=(jf ⟨#[97]⟩::i9 jz 20::i9 jz 20::i9 jz 0::i9 jz 12::i9 jz 1::i9 jz 1::i9 jz 4::i9 jz 6::i9 jz 2::i9 jz 3::jk (some ⟨w6.heap.size,0,none⟩) 1 1::jf ⟨#[98]⟩::i9 jz 13::i9 jz 13::i9 jz 5::i9 jz 5::i9 jz 0::i9 jz 2::i9 jz 4::i9 jz 5::i9 jz 3::i9 jz 3::jk (some ⟨d.heap.size,0,none⟩) 1 1::jf ⟨#[99]⟩::i9 jz 25::i9 jz 25::i9 jz (-7)::i9 jz 7::i9 jz 1::i9 jz 3::i9 jz 5::i9 jz 5::i9 jz 2::i9 jz 4::jk none 0 0::[]).toArray) (t:=88) ar rfl
 have V:Row _ (W.heap.size+1) (qB 0):=f.row (c:=#[jf ⟨#[114,101,100]⟩,i9 jz 0,i9 jz 0,jf ⟨#[98,108,117,101]⟩,i9 jz 1,i9 jz 0]) (t:=32) ar rfl;obtain⟨s,u,x,y,f4,z⟩:=bf o;have low:=f.low;have r:w.heap.size<W.heap.size:=eF o;clear LW f o j;refine ai (v:=jp (ir w2.heap.size 2 (w2.heap.size+1) 4 W.heap.size 3 (W.heap.size+1) 2 w6.heap.size 1 d.heap.size 1 0).val) ?_ rfl ⟨_,_,_,_,_,_,_,_,_,_,_,_,rfl,⟨Q,R,U,V,S,T⟩,low⟩;clear Q R U V S T low;simp[aI,Tryz.results16,go_sem,s,u,x,y,f4,z,r,ir]
def Np(a:Int)(w:ac):ag PL 97 #[i9 jz a] w λe w'=>e=kq (jn false)/\w=w':=by
 go_enter (fx ao Tryz.func97),Tryz.ntmps97;go_wp2;go_ret;exact⟨rfl,rfl⟩
def Ip(a b:Int):Int:=if a<b then -1 else if b<a then 1 else 0
def Kw(a b:Int)(w:ac):ag PL 62 #[i9 jz a,i9 jz b] w λe w'=>e=kq (i9 jz (Ip a b))/\w=w':=by
 go_enter (fx ao Tryz.func62),Tryz.ntmps62
 go_wp2_with (go_at_call 97;refine(Np _ _).mono ?_;rintro e w'⟨rfl,rfl⟩)
 all_goals (go_ret;refine⟨aC ?_,rfl⟩;simp only[Ip];split<;>(try split)<;>omega)
def EW(f g:Nat->Int)(n m:Nat):Nat->Nat->Int
 |0,_=>if n<m then -1 else 0
 |k+1,q=>if m<=q then 1 else if Ip (f q) (g q)≠0 then Ip (f q) (g q) else EW f g n m k (q+1)
def aaE(f g:Nat->Int)(n m:Nat):Int:=EW f g n m n 0
def EX(a b:ad)(n m:Nat)(f g:Nat->Int)(w:ac)(h:Reads w a n 1 λj=>i9 jz (f j))(hb:Reads w b m 1 λj=>i9 jz (g j))(y:n<=20)(z:m<=20) :
 ag PL 37 #[a,b] w λe w'=>e=kq (i9 jz (aaE f g n m))/\w=w':=by
 obtain⟨C,D,rfl,h⟩:=h;obtain⟨F,H,rfl,hb⟩:=hb;have A:=eE h;have B:=eE hb;clear h hb;go_enter (fx ao Tryz.func37),Tryz.ntmps37;go_wp2
 go_loop [11] (λv=>∃q:Nat,q<=n/\v=i9 jz q/\aaE f g n m=EW f g n m (n-q) q) (λv=>n-(intOf v).toNat)
 case atStart=>exact⟨0,cm _,rfl,rfl⟩
 case round=>
  obtain⟨q,I,rfl,i⟩:=hrel;by_cases r:q<n
  .have E:=eE i;clear i;obtain⟨k,o,rfl,J,hc⟩:=A.out ab;have a0:w.cell? ⟨k,o+q,none⟩=some (i9 jz (f q)):=hc q ab;clear hc;have l:(q:Int)<n:=ab;have es:n-q=(n-(q+1))+1:=ab;by_cases s:q<m
   .obtain⟨k',t,rfl,K,d⟩:=B.out ab;have b0:w.cell? ⟨k',t+q,none⟩=some (i9 jz (g q)):=d q ab;clear d;have u:(q:Int)<m:=ab;by_cases c:Ip (f q) (g q)=0
    .have x:(Ip (f q) (g q) != 0)=false:=by simp[c]
     have Z:=eE c;clear c
     go_wp2_with (go_at_call 62;refine(Kw _ _ _).mono ?_;rintro e w'⟨rfl,rfl⟩)
     refine⟨⟨q+1,r,by go_num,?_⟩,by simp only[intOf];omega⟩;rw[E.out,es,EW,if_neg ab,if_neg (by simp[Z.out])]
    .have x:(Ip (f q) (g q) != 0)=true:=by simp[c]
     have Z:=eE c;clear c
     go_wp2_with (go_at_call 62;refine(Kw _ _ _).mono ?_;rintro e w'⟨rfl,rfl⟩)
     go_ret;refine⟨aC ?_,rfl⟩;rw[E.out,es,EW,if_neg ab,if_pos Z.out]
   .have u:(m:Int)<=q:=ab;go_wp2;go_ret;refine⟨aC ?_,rfl⟩;rw[E.out,es,EW,if_pos ab]
  .obtain rfl:q=n:=ab;have E:=eE i;clear i;by_cases p:q<m
   .have l:(q:Int)<m:=ab;go_wp2;go_ret;refine⟨aC ?_,rfl⟩;rw[E.out,cC,EW,if_pos p]
   .have l:(m:Int)<=q:=ab;go_wp2;go_ret;refine⟨aC ?_,rfl⟩;rw[E.out,cC,EW,if_neg p]
def bB(W:ac)(v:ad)(l:List Int):Prop:=Reads W v l.length 1 λj=>i9 jz (l.getD j 0)
def tw(W:ac)(base:Nat)(v:ad)(l:List Int):Prop:=W.ownsRow base 3 1 v l.length (l.map λx=>i9 jz x)
def tw.reads{W:ac}{base:Nat}{v:ad}{l:List Int}(h:tw W base v l):bB W v l:=by
 obtain⟨_,h⟩:=h
 rcases h with⟨rfl,a⟩|⟨g,cap,b,rfl,hb,hg,hc,d,hs,c⟩
 .exact⟨none,0,by rw[a],λh=>ab⟩
 .refine⟨_,_,rfl,λa=>⟨g,0,rfl,eF hg,λj f=>?_⟩⟩;have e:(l.map λx=>i9 jz x)[j]?=some (i9 jz (l.getD j 0)):=by
   rw[fR,fY ab];simp[f6,fY (show j<l.length by omega)]
  rw[<-c,f7 ab]at e;simp only[eQ,hg,cv];simpa using e
def bB.on{W a:ac}{v:ad}{l:List Int}(h:bB W v l)(b:bA W a):bB a v l:=Reads.on h b
def Rz:PL.underlying 42=some (ks 3):=ae
def RE:(PL.info? 3).map (λi=>(i.zero,i.size,i.bytes))=some (some (i9 jz 0),1,8):=ae
def afG(l m:List Int):Int:=aaE (λj=>l.getD j 0) (λj=>m.getD j 0) l.length m.length
def RF{l m:List Int}{a b:ad}{w:ac}(c:bB w a l)(hb:bB w b m)(d:l.length<=20)(f:m.length<=20):ag PL 37 #[a,b] w λe w'=>e=kq (i9 jz (afG l m))/\w=w':=
 EX a b _ _ _ _ w c hb d f
def tw.alloc{W:ac}{base:Nat}{v:ad}{l:List Int}(h:tw W base v l)(o:Obj):tw (W.alloc o) base v l:=jx h o
def cZ{W:ac}{base e size n:Nat}{v:ad}{xs:List ad}(h:W.ownsRow base e size v n xs):∀k,v.ownBlock=some k->base<=k:=by
 intro k a;obtain⟨_,⟨rfl,_⟩|⟨g,cap,b,rfl,hb,_⟩⟩:=h
 .cases a
 .cases a;exact hb
def EY{ops:Array aP}{rest:List aP}{o:aP}{a:Act}{Q:aT->Act->ac->Prop}{w:ac}(f:o.guard=none)(s x:bi)
 (g:o.op=.call { callee:=.builtin .append,args:=#[s,x],argTypes:=#[42,42] }) (base:Nat) (v:ad) (l:List Int) (j:Int) (b:Nat) (hs:a.eval s=v) (c:tw w base v l)
 (i:a.eval x=jk (some ⟨b,0,none⟩) 1 1) (hc:w.cell? ⟨b,0,none⟩=some (i9 jz j)) (hl:l.length<=1000) (d:base<=w.heap.size)
 (h:∀v' w',tw w' base v' (l++[j])->Below base w w'->bj PL ops Q rest (a.put o.dst v') w'):bj PL ops Q (o::rest) a w:=by
 obtain⟨m,hi,n,p,q⟩:=bm RE;refine bq _ f s x 42 g base 3 m (i9 jz 0) 1 8 Rz hi n p q rfl ao v l.length _ hs c ⟨b,0,none⟩ 1 1 [i9 jz j] i rfl (λk u e=>?_) (by simp[jl]) (by simp only[bv];omega) ab d λv' w' r t _=>?_
 .match k,e with
  |0,e=>cases e;exact hc
 .refine h v' w' ?_ ((eD base w).grown t d (cZ c));unfold tw;rw[f8,f9];exact r
def zV(s j:Nat):Bool:=s / 2 ^ j % 2==1
def pJ(s:Nat):Nat->List Int
 |0=>[]
 |j+1=>if zV s j then pJ s j++[(j:Int)] else pJ s j
def qj(s:Nat):∀j,(pJ s j).length<=j
 |0=>cq _
 |j+1=>by
  have:=qj s j;rw[pJ];split
  .simp;omega
  .omega
def Iq(C:CD)(s i:Nat):Bool:=zV s (C.x3 i).1.toNat||zV s (C.x3 i).2.1.toNat
def RG(C:CD)(s:Nat):Bool:=(gc C.n3).all (Iq C s)
def AW(l b:List Int):Bool:=decide (b.length<l.length)||(decide (l.length=b.length)&&decide (0<afG l b))
def kT(C:CD)(p:Nat)(a:Option (List Int))(s:Nat):Option (List Int):=
 if a.any (AW (pJ s p)) then a else if RG C s then some (pJ s p) else a
def qC(C:CD)(p:Nat):Nat->Option (List Int)
 |0=>none
 |q+1=>kT C p (qC C p q) q
def E3(C:CD)(p:Nat):∀q,((qC C p q).getD []).length<=p
 |0=>cm _
 |q+1=>by
  have:=E3 C p q;rw[qC,kT];split
  .exact this
  .split
   .exact qj q p
   .exact this
def RH{p:Nat}(h:p<=6):wrap64 ((2:Int) ^ p)=((2 ^ p:Nat):Int):=by
 match p,h with
 |0,_|1,_|2,_|3,_|4,_|5,_|6,_=>decide +kernel
def VE:((gc 64).all λq=>(gc 6).all λj=>bits BinOp.and jz ((q:Int) / 2 ^ j) 1==(if zV q j then 1 else 0))=true:=by decide +kernel
def Cq(q:Nat)(a:q<64)(j:Nat)(b:j<6):bits BinOp.and jz ((q:Int) / 2 ^ j) 1=if zV q j then 1 else 0:=by
 have:=VE;simp only[ge,gj,beq_iff_eq]at this;exact this q a j b
def aaF{C:CD}{p:Nat}(hc:C.cx=0)(f:C.p=p){i:Nat}(hi:i<C.n3):∃a b:Nat,(C.x3 i).1=a/\(C.x3 i).2.1=b/\a<p/\b<p:=by
 have c:kz C.p C.n3 C.x3=0:=ck hc 2 ab;unfold kz at c;split at c
 .cases c
 have d:=ck c i hi;unfold fQ at d;split at d
 case isFalse=>cases d
 rename_i e;simp only[bO,jD,decide_eq_true_eq]at e;exact⟨(C.x3 i).1.toNat,(C.x3 i).2.1.toNat,ab,ab,ab,ab⟩
def apk:ad->Prop
 |jk _ n c=>n<=c
 |_=>True
def aax(W:ac)(v:ad)(l:List Int):Prop:=bB W v l/\apk v
def aax.on{W a:ac}{v:ad}{l:List Int}(h:aax W v l)(b:bA W a):aax a v l:=⟨h.1.on b,h.2⟩
def tw.an6{W:ac}{base:Nat}{v:ad}{l:List Int}(h:tw W base v l):aax W v l:=by
 refine⟨h.reads,?_⟩;obtain⟨_,h⟩:=h
 rcases h with⟨rfl,b⟩|⟨g,cap,a,rfl,hb,hg,hc,c,hs,d⟩
 .exact cq 0
 .exact hc
def acu(C:CD)(w:ac)(h:C.At w)(hc:C.cx=0):ag PL 11 #[jp C.val] w λe w'=>∃v,e=kq (jr #[v,i9 jz 0])/\aax w' v ((qC C C.p.toNat (2 ^ C.p.toNat)).getD [])/\bA w w':=by
 have HA:=eE h;have K0:Hid (KB C w (w.alloc (iB C.val 27))):=eE ⟨au _ _,(eD _ _).alloc (cq _) _⟩;obtain⟨p,hp⟩:∃p:Nat,C.p=p:=⟨C.p.toNat,by have:=cK (ck hc 0 ab);omega⟩
 have m:p<=6:=by have:=cK (ck hc 0 ab);omega
 have HC:=eE hc;have Y:=eE hp;clear h hc hp;go_enter (fx ao Tryz.func11),Tryz.ntmps11;go_wp2
 go_step3
 go_wp2_with (go_at_call 36;refine(sY HC.out (HA.out.below K0.out.low)).mono ?_;rintro e w1⟨rfl,aL⟩;have K1:=eE (K0.out.on aL);clear aL;have hz:=K1.out.lt;obtain⟨M,t,O,H,f4,P⟩:=bf K1.out.box)
 go_step3
 rw[Y.out]at t;have q0:(0:Int)<=p:=ab;have q1:(p:Int)<=6:=ab;have hN:=RH m;obtain⟨N,o⟩:=br (2 ^ p:Nat);rw[<-o]at hN;have as5:N<=64:=by rw[o];exact Nat.pow_le_pow_right (n:=2) ab m
 have HN:=eE o;clear o
 go_upto_region 7 with fail
 rw[hN];clear hN;clear M t O H f4 P
 go_loopw [5,6,20] (λv5 v6 u wr=>∃q:Nat,q<=N/\u=i9 jz q/\v6=jn (qC C p q).isSome/\aax wr v5 ((qC C p q).getD [])/\KB C w wr) (λ_ _ u _=>N-(intOf u).toNat)
 case atStart=>exact⟨0,cm _,rfl,rfl,⟨⟨none,0,rfl,λh=>absurd h (by simp[qC])⟩,cq 0⟩,K1.out⟩
 case round=>
  obtain⟨q,hq,rfl,rfl,I,hK⟩:=hrel;obtain⟨Z,Kx⟩:=br (qC C p q);have hbl:(Z.getD []).length<=6:=by rw[Kx];exact cQ (E3 C p q) m
  rw[<-Kx]at I ⊢;have x:=eE Kx;have HR:=eE I;have HK:=eE hK;clear Kx I hK;by_cases aH:q<N
  .have i2:(q:Int)<N:=ab;have hz:=HK.out.lt;obtain⟨M,t,O,H,f4,P⟩:=bf HK.out.box;rw[Y.out]at t;obtain⟨Wq,rfl⟩:=br wr
   go_upto_region 11 with fail
   go_loopw [8,25] (λv8 y wr=>∃j:Nat,j<=p/\y=i9 jz j/\tw wr Wq.heap.size v8 (pJ q j)/\bA Wq wr) (λ_ y _=>p-(intOf y).toNat)
   case atStart=>exact⟨0,cm _,rfl,⟨rfl,kt ⟨rfl,rfl⟩⟩,eD _ _⟩
   case round=>
    obtain⟨j,hj,rfl,hO,g⟩:=hrel;have HO:=eE hO;have Q:=eE g;clear hO g M t O H f4 P;by_cases R:j<p
    .have i3:(j:Int)<p:=ab;have i4:¬((j:Int)<0):=ab;have RI:=Cq q ab j ab;by_cases J:zV q j=true
     .rw[if_pos J]at RI;have z:=eE J;clear J;have Tl:=qj q j;have fW:=Q.out.size
      go_wp2_with (at_builtin;(refine EY rfl _ _ rfl Wq.heap.size _ _ j wr.heap.size rfl (HO.out.alloc _) rfl (bC _ _ _ 0 _ rfl) ab (by simp;omega) ?_;intro v' w2 fO S))
      refine⟨⟨j+1,R,by go_num,?_,(Q.out.alloc fW _).trans S⟩,by simp only[intOf];omega⟩;rw[pJ,if_pos z.out];exact fO
     .rw[if_neg J]at RI;have z:=eE (aV J);clear J;go_wp2;refine⟨⟨j+1,R,by go_num,?_,Q.out⟩,by simp only[intOf];omega⟩;rw[pJ,if_neg (by simp[z.out])];exact HO.out
    .obtain rfl:j=p:=ab;have T:=HR.out.on (Q.out);have U:=HO.out.an6;have Tl:(pJ q j).length<=6:=cQ (qj q j) m;have r:=eE (HK.out.on Q.out);have RB:=eE T;have RL:=eE U;obtain⟨⟨b5,c5,e5,_⟩,_⟩:=T;obtain⟨⟨b8,c8,e8,_⟩,_⟩:=U;subst e5 e8;obtain⟨l,hl⟩:=br (pJ q j);rw[<-hl]at Tl RL ⊢;have d:=eE hl;clear hl;clear HO;obtain⟨V,rfl⟩:=br wr
     go_upto_region 16 with fail
     go_cut [58] from 38 to 57 (fun(v58:ad)(wx:ac)=>v58=jn (Z.any (AW l))/\wx=V)
     case first=>
      cases Z with
      |none=>
       go_wp2_with fail
       go_meet
       case rel=>exact⟨rfl,rfl⟩
      |some b=>
       have as7:b.length<=6:=hbl;have RB':Hid (bB V (jk b5 b.length c5) b):=eE RB.out.1;by_cases h1:b.length<l.length
       .have i4:(b.length:Int)<l.length:=ab
        go_wp2_with fail
        go_meet
        case rel=>exact⟨by simp[AW,h1],rfl⟩
       .have i4:¬(b.length:Int)<l.length:=ab;by_cases h2:l.length=b.length
        .have i5:(l.length:Int)=b.length:=ab;have i6:((l.length:Int)==b.length)=true:=by simp[h2]
         have H2:=eE h2;clear i5 h2 h1
         go_wp2_with (go_at_call 37;refine(RF RL.out.1 RB'.out ab ab).mono ?_;rintro e w'⟨rfl,rfl⟩)
         go_meet
         case rel=>exact⟨by simp[AW,H2.out],rfl⟩
        .have i6:((l.length:Int)==b.length)=false:=by simp;omega
         go_wp2_with fail
         go_meet
         case rel=>exact⟨by simp[AW,h2,h1],rfl⟩
     case rest=>
      obtain⟨rfl,rfl⟩:=hcut;obtain⟨V,rfl⟩:=br wc;have hz:=r.out.lt;obtain⟨M,t,O,H,f4,P⟩:=bf r.out.box;by_cases K:Z.any (AW l)=true
      .rw[K];go_wp2;refine⟨⟨q+1,aH,by go_num,?_,?_,r.out⟩,by simp only[intOf];omega⟩
       .rw[qC,kT,<-x.out,<-d.out,if_pos K]
       .rw[qC,kT,<-x.out,<-d.out,if_pos K];exact RB.out
      .rw[aV K];have s:=eE K;clear K;obtain⟨bb,iC⟩:=br C.b3;rw[<-iC]at H;have alo:=eE iC;clear iC
       go_upto_region 18 with fail
       go_loopw [62] (λA wr=>∃i:Nat,i<=C.n3/\A=i9 jz i/\(∀k,k<i->Iq C q k=true)/\bA V wr) (λA _=>C.n3-(intOf A).toNat)
       case atStart=>exact⟨0,cm _,rfl,λk B=>absurd B (c9 _),eD _ _⟩
       case round=>
        obtain⟨i,hi,rfl,X,g⟩:=hrel;have D:=eE X;clear X M t O H f4 P;have E:=eE (r.out.on g);have m3:C.n3<=20:=HA.out.m3;by_cases c:i<C.n3
        .have i7:(i:Int)<C.n3:=ab;have hA:=HA.out.below E.out.low;have e3:=alo.out.trans (hA.s3 ab);have k0:=hA.Es i c;have k1:=hA.Et i c;have k2:=hA.Eu i c;have hk3:=hA.h3;clear hA;obtain⟨a,b,ea,eb,D8,NU⟩:=aaF HC.out Y.out c;have F:Hid (Iq C q i=(zV q a||zV q b)):=eE (by rw[Iq,ea,eb];rfl);rw[ea]at k0;rw[eb]at k1;subst e3;clear ea eb;have lq:=Cq q ab a ab;have S:=Cq q ab b ab;by_cases L:zV q a=true
         .rw[if_pos L]at lq;have hc:=eE (F.out.trans (by rw[L];rfl):Iq C q i=true);clear L S;go_wp2;refine⟨⟨i+1,c,by go_num,λk B=>?_,(g.alloc g.size _)⟩,by simp only[intOf];omega⟩
          rcases Nat.lt_succ_iff_lt_or_eq.1 B with h|h
          .exact D.out k h
          .rw[h];exact hc.out
         .rw[if_neg L]at lq;have ha':=aV L;clear L;by_cases hb:zV q b=true
          .rw[if_pos hb]at S;have hc:=eE (F.out.trans (by rw[ha',hb];rfl):Iq C q i=true);clear ha' hb;go_wp2;refine⟨⟨i+1,c,by go_num,λk B=>?_,(g.alloc g.size _)⟩,by simp only[intOf];omega⟩
           rcases Nat.lt_succ_iff_lt_or_eq.1 B with h|h
           .exact D.out k h
           .rw[h];exact hc.out
          .rw[if_neg hb]at S;have hc:=eE (F.out.trans (by rw[ha',aV hb];rfl):Iq C q i=false)
           have f:Hid (RG C q=false):=eE (by
            rw[RG,List.all_eq_false]
            exact⟨i,List.mem_range.2 c,by simp[hc.out]⟩)
           clear ha' hb;go_wp2;refine⟨⟨q+1,aH,by go_num,?_,?_,E.out.alloc _⟩,by simp only[intOf];omega⟩
           .rw[qC,kT,<-x.out,<-d.out,if_neg s.out,if_neg (by simp[f.out])]
           .rw[qC,kT,<-x.out,<-d.out,if_neg s.out,if_neg (by simp[f.out])];exact(RB.out.on g).on ((eD _ _).alloc (cq _) _)
        .obtain rfl:i=C.n3:=ab
         have f:Hid (RG C q=true):=eE (by
          rw[RG,ge]
          exact λk B=>D.out k (List.mem_range.1 B))
         go_wp2;refine⟨⟨q+1,aH,by go_num,?_,?_,E.out⟩,by simp only[intOf];omega⟩
         .rw[qC,kT,<-x.out,<-d.out,if_neg s.out,if_pos f.out];rfl
         .rw[qC,kT,<-x.out,<-d.out,if_neg s.out,if_pos f.out];exact RL.out.on g
  .obtain rfl:q=N:=ab;have I:=HR.out;have fin:aax wr u5 ((qC C C.p.toNat (2 ^ C.p.toNat)).getD []):=by
    have e:C.p.toNat=p:=by rw[Y.out];rfl
    rw[e,<-HN.out,<-x.out];exact I
   have FIN:=eE fin;clear fin I;go_wp2;rw[Exit.noGoto_ret];refine ai (v:=jr #[u5,i9 jz 0]) ?_ rfl ⟨_,rfl,FIN.out,HK.out.low⟩;simp[aI,Tryz.results11,go_sem]
def Cr(C:CD)(w:ac)(h:C.At w)(hc:C.cx=0):ag PL 11 #[jp C.val] w λe w'=>∃v,e=kq (jr #[v,i9 jz 0])/\bB w' v ((qC C C.p.toNat (2 ^ C.p.toNat)).getD [])/\bA w w':=
 (acu C w h hc).mono λ_ _⟨v,e,a,b⟩=>⟨v,e,a.1,b⟩
def E7(a0 a1 a2 a3 a4 a:ad)(W:ac):(jQ 77 (jp #[a0,a1,a2,a3,a4,a]) 0).run PL W=kj (jp #[a0,a1,a2,a3,a4,a]) W:=ae
def Ky(a0 a1 a2 a3 a4 a:ad)(W:ac):(jQ 27 (jp #[a0,a1,a2,a3,a4,a]) 0).run PL W=kj (a0) W:=ae
def Kz(a0 a1 a2 a3 a4 a:ad)(W:ac):(jQ 27 (jp #[a0,a1,a2,a3,a4,a]) 1).run PL W=kj (a1) W:=ae
def KC(a0 a1 a2 a3 a4 a:ad)(W:ac):(jQ 27 (jp #[a0,a1,a2,a3,a4,a]) 2).run PL W=kj (a2) W:=ae
def KF(a0 a1 a2 a3 a4 a:ad)(W:ac):(jQ 27 (jp #[a0,a1,a2,a3,a4,a]) 3).run PL W=kj (a3) W:=ae
def KG(a0 a1 a2 a3 a4 a:ad)(W:ac):(jQ 27 (jp #[a0,a1,a2,a3,a4,a]) 4).run PL W=kj (a4) W:=ae
def KH(a0 a1 a2 a3 a4 a:ad)(W:ac):(jQ 27 (jp #[a0,a1,a2,a3,a4,a]) 5).run PL W=kj (a) W:=ae
def KL(a0 a1 a2 a3 a4 a b c d e f g:ad)(W:ac):(jQ 88 (jp #[a0,a1,a2,a3,a4,a,b,c,d,e,f,g]) 0).run PL W=kj (a0) W:=ae
def KM(a0 a1 a2 a3 a4 a b c d e f g:ad)(W:ac):(jQ 88 (jp #[a0,a1,a2,a3,a4,a,b,c,d,e,f,g]) 1).run PL W=kj (jp #[a1,a2]) W:=ae
def KN(a0 a1 a2 a3 a4 a b c d e f g:ad)(W:ac):(jQ 88 (jp #[a0,a1,a2,a3,a4,a,b,c,d,e,f,g]) 2).run PL W=kj (jp #[a3,a4]) W:=ae
def KS(a0 a1 a2 a3 a4 a b c d e f g:ad)(W:ac):(jQ 88 (jp #[a0,a1,a2,a3,a4,a,b,c,d,e,f,g]) 3).run PL W=kj (a) W:=ae
def KU(a0 a1 a2 a3 a4 b a c d e f g:ad)(W:ac):(jQ 88 (jp #[a0,a1,a2,a3,a4,b,a,c,d,e,f,g]) 4).run PL W=kj (a) W:=ae
def KV(a0 a1 a2 a3 a4 c d a b e f g:ad)(W:ac):(jQ 88 (jp #[a0,a1,a2,a3,a4,c,d,a,b,e,f,g]) 5).run PL W=kj (jp #[a,b]) W:=ae
def KW(a0 a1 a2 a3 a4 c d e f a b g:ad)(W:ac):(jQ 88 (jp #[a0,a1,a2,a3,a4,c,d,e,f,a,b,g]) 6).run PL W=kj (jp #[a,b]) W:=ae
def KX(a0 a1 a2 a3 a4 b c d e f g a:ad)(W:ac):(jQ 88 (jp #[a0,a1,a2,a3,a4,b,c,d,e,f,g,a]) 7).run PL W=kj (a) W:=ae
def KY(a0 a1 a2:ad)(W:ac):(jQ 32 (jp #[a0,a1,a2]) 0).run PL W=kj (a0) W:=ae
def KZ(a0 a1 a2:ad)(W:ac):(jQ 32 (jp #[a0,a1,a2]) 1).run PL W=kj (a1) W:=ae
def La(a0 a1 a2:ad)(W:ac):(jQ 32 (jp #[a0,a1,a2]) 2).run PL W=kj (a2) W:=ae
def Lb(a0 a1:ad)(W:ac):(jQ 56 (jp #[a0,a1]) 0).run PL W=kj (a0) W:=ae
def Lc(a0 a1:ad)(W:ac):(jQ 56 (jp #[a0,a1]) 1).run PL W=kj (a1) W:=ae
def Xw(a:bL)(n c:Nat)(W:ac):(binOp .eql 24 (jk (some a) n c) (jk none 0 0)).run PL W=kj (jn false) W:=ae
def Xx(a:bL)(n c:Nat)(W:ac):(binOp .eql 25 (jk (some a) n c) (jk none 0 0)).run PL W=kj (jn false) W:=ae
def apl(a b:Int)(W:ac):(jR 56 #[(0,i9 jz a),(1,i9 jz b)]).run PL W=kj (jp #[i9 jz a,i9 jz b]) W:=ae
def apm(p a b c d:Int)(W:ac):(jR 72 #[(0,i9 jz p),(1,jp #[i9 jz a,i9 jz b]),(2,jp #[i9 jz c,i9 jz d])]).run PL W=kj (jp #[i9 jz p,i9 jz a,i9 jz b,i9 jz c,i9 jz d]) W:=ae
def E8:nS.ntmps=98:=rfl
def h_.In.below{T:h_}{w w':ac}(h:T.In w)(a:bA w w'):T.In w':=
 ⟨h.lo,ci h.h4 a.size,λc=>⟨(h.h5 c).1,ci (h.h5 c).2 a.size⟩,h.st,λi hi j b=>(a.cell (p:=⟨T.k4,_,none⟩) h.h4).trans (h.c4 i hi j b),λk d j b=>(a.cell (p:=⟨T.k5,_,none⟩) (h.h5 ab).2).trans (h.c5 k d j b)⟩
def h_.In.ahE{T:h_}{w:ac}(h:T.In w){i:Nat}(hi:i<T.np):w.cell? ⟨T.k4,T.o4+i*12,none⟩=some (jf (T.nm i))/\w.cell? ⟨T.k4,T.o4+i*12+1,none⟩=some (i9 jz (T.pn i 1))/\w.cell? ⟨T.k4,T.o4+i*12+2,none⟩=some (i9 jz (T.pn i 2))/\w.cell? ⟨T.k4,T.o4+i*12+3,none⟩=some (i9 jz (T.pn i 3))/\w.cell? ⟨T.k4,T.o4+i*12+4,none⟩=some (i9 jz (T.pn i 4))/\w.cell? ⟨T.k4,T.o4+i*12+5,none⟩=some (i9 jz (T.pn i 5))/\w.cell? ⟨T.k4,T.o4+i*12+6,none⟩=some (i9 jz (T.pn i 6))/\
 w.cell? ⟨T.k4,T.o4+i*12+7,none⟩=some (i9 jz (T.pn i 7))/\w.cell? ⟨T.k4,T.o4+i*12+8,none⟩=some (i9 jz (T.pn i 8))/\w.cell? ⟨T.k4,T.o4+i*12+9,none⟩=some (i9 jz (T.pn i 9))/\w.cell? ⟨T.k4,T.o4+i*12+10,none⟩=some (i9 jz (T.pn i 10))/\w.cell? ⟨T.k4,T.o4+i*12+11,none⟩=some (jk (T.lb i) (T.ll i) (T.lc i)):=
 ⟨h.c4 i hi 0 ab,h.c4 i hi 1 ab,h.c4 i hi 2 ab,h.c4 i hi 3 ab,h.c4 i hi 4 ab,h.c4 i hi 5 ab,h.c4 i hi 6 ab,h.c4 i hi 7 ab,h.c4 i hi 8 ab,h.c4 i hi 9 ab,h.c4 i hi 10 ab,h.c4 i hi 11 ab⟩
def h_.In.ahF{T:h_}{w:ac}(h:T.In w){k:Nat}(a:k<T.n):w.cell? ⟨T.k5,T.o5+k*3,none⟩=some (jf (T.gn k))/\w.cell? ⟨T.k5,T.o5+k*3+1,none⟩=some (i9 jz (T.S k:Int))/\w.cell? ⟨T.k5,T.o5+k*3+2,none⟩=some (i9 jz (T.dl k)):=
 ⟨h.c5 k a 0 ab,h.c5 k a 1 ab,h.c5 k a 2 ab⟩
def P0(x:Int):wrap64 x=IntKind.i64.wrap x:=(IntWalk.i64_left x).symm
def alB{o:Nat}(h:o<75):(Array.replicate 75 (i9 jz 0))[o]?=some (i9 jz 0):=by
 rw[Array.getElem?_eq_getElem (by simpa using h)];simp
def abI{ops:Array aP}{rest:List aP}{o:aP}{a:Act}{Q:aT->Act->ac->Prop}{w:ac}(r:o.guard=none)(X Y:bi)(s:o.op=.store 72 X Y)(base b off:Nat)(cur c:Array ad)(m:a.eval X=js (some ⟨b,off,none⟩))(hy:a.eval Y=jp c)
 (hb:w.heap[b]?=some (iB cur 113)) (d:c.size=5) (hl:off+5<=cur.size) (t:∀v∈c,v.oneCell'=true) (B:base<=b)
 (h:∀f w',w'.heap[b]?=some (iB f 113)->f.size=cur.size->(∀j,j<5->f[off+j]?=c[j]?)->(∀j,(j<off\/off+5<=j)->f[j]?=cur[j]?)->Below base w w'->w'.heap.size=w.heap.size->bj PL ops Q rest (a.put o.dst undef) w'):bj PL ops Q (o::rest) a w:=by
 refine bM r λK u=>?_;have e:(Tryz.prog.info? 72).map (·.size)=some 5:=ae;have hc:(Value.agg c).cells=c:=rfl
 cases n:Tryz.prog.info? 72 with
 |none=>rw[n]at e;cases e
 |some i=>
  have y:i.size=5:=by rw[n]at e;exact Option.some.inj e
  have z:=run_storeCells_at PL b off 113 c.toList 0 cur w hb (by simp[d];omega) (λx m=>t x (by simpa using m));obtain⟨f,l⟩:=br ((cur.toList.take off++c.toList++cur.toList.drop (off+c.size)).toArray);have A:(storeVar 72 ⟨b,off,none⟩ (jp c)).run PL w=kj () (w.setRow b f):=by
   rw[l];simp[storeVar,sizeOf,typeInfo,n,y,z,hc,d]
  unfold Oper.wp bR;simp only[s,m,hy,Instr.storeAt,Instr.sureAddr,Sem.run_bind,Sem.run_pure,Result.andThen_ok,A];refine u _ _ (h f _ (setRow_heap _ _ _ _ _ _ hb) ?_ (λj g=>?_) (λj g=>?_) ⟨rfl,rfl,rfl,by simp[eV],λk C=>setRow_other _ _ _ _ ab⟩ (by simp[eV]))
  .rw[l];simp[d];omega
  .rw[l];simp only[gl];have p:(cur.toList.take off).length=off:=by simp;omega
   rw[gp,gr ab,p,gt (by simp[d];omega)];simp
  .rw[l];simp only[gl,d];have p:(cur.toList.take off).length=off:=by simp;omega
   rcases g with g|g
   .rw[gp,gt ab,gw,if_pos g];simp
   .rw[gp,gr ab,p,gr (by simp[d];omega)];simp only[List.getElem?_drop,fm,d];have:off+5+(j-off-5)=j:=ab;rw[this];simp
def ahg(T:h_)(w:ac)(h:T.In w)(uB:∀i,i<T.np->(T.nm i).size<=1000)(B:∀k,k<T.n->(T.gn k).size<=1000):ag PL 29 #[jp T.arr] w λe w'=>∃k cs,e=kq (js (some ⟨k,0,none⟩))/\w'.heap[k]?=some (iB cs 113)/\dc T.pn T.np T.S T.dl T.n 0 cs/\bA w w':=by
 have d:=eE h;have M:=eE uB;have N:=eE B;clear uB B;obtain⟨l2,l5,l3⟩:=h.lo;clear h;have i2:(2:Int)<=T.np:=ab;have i5:(T.np:Int)<=5:=ab;have i3:(T.n:Int)<=3:=ab;obtain⟨J,O⟩:=br T.b5;have wC:=eE O;simp only[h_.arr];rw[<-O];clear O;go_enter Cc,E8;simp only[nS,sU,aeo,ac6,adS,amH,amI,ahD,aen,ap2,amJ,opsL,al8,agX,amK,ap3,aD];have q0:=E7;have q1:=Ky;have q2:=Kz;have q3:=KC;have q4:=KF;have q5:=KG;have q6:=KH;have q7:=KL;have q8:=KM;have q9:=KN;have q10:=KS;have q11:=KU;have q12:=KV;have q13:=KW;have q14:=KX;have q15:=KY;have q16:=KZ;have q17:=La;have q18:=Lb;have q19:=Lc;have q25:=Xw;have q26:=Xx;have q27:=apl;have q28:=apm;go_wp2
 go_loopw [20] (λl wr=>∃q:Nat,q<=T.np/\l=i9 jz q/\w=wr) (λl _=>T.np-(intOf l).toNat)
 case atStart=>exact⟨0,cm _,rfl,rfl⟩
 case round=>
  obtain⟨q,hq,rfl,rfl⟩:=hrel;by_cases a:q<T.np
  .have i4:(q:Int)<T.np:=ab;obtain⟨a0,a1,a2,a3,a4,a5,a6,a7,a8,a9,zm,zM⟩:=d.out.ahE a;have hz:=M.out q a;go_wp2;refine⟨⟨q+1,a,by go_num,trivial⟩,by simp only[intOf];omega⟩
  .obtain rfl:q=T.np:=ab;go_wp2
   go_loopw [21] (λm wr=>∃q:Nat,q<=T.n/\m=i9 jz q/\w=wr) (λm _=>T.n-(intOf m).toNat)
   case atStart=>exact⟨0,cm _,rfl,rfl⟩
   case round=>
    obtain⟨q,hq,rfl,rfl⟩:=hrel;by_cases a:q<T.n
    .have i4:(q:Int)<T.n:=ab;obtain rfl:J=_:=wC.out.trans (d.out.h5 ab).1;obtain⟨a0,a1,a2⟩:=d.out.ahF a;have hz:=N.out q a;have vL:(T.S q:Int)<T.np:=by have:=d.out.st q a;omega
     have hs0:(0:Int)<=T.S q:=ab;go_wp2;refine⟨⟨q+1,a,by go_num,trivial⟩,by simp only[intOf];omega⟩
    .obtain rfl:q=T.n:=ab;go_wp2
     go_loopw [67] (λs wr=>∃g:Nat,g<=T.n/\s=i9 jz g/\∃cs,wr.heap[w.heap.size]?=some (iB cs 113)/\dc T.pn T.np T.S T.dl g 0 cs/\bA w wr) (λs _=>T.n-(intOf s).toNat)
     case atStart=>exact⟨0,cm _,rfl,_,au _ _,dc.zero rfl (λo K=>alB K),(eD _ _).alloc (cq _) _⟩
     case round=>
      obtain⟨g,hg,rfl,cs,hcs,C,P⟩:=hrel;have D:=eE hcs;have E:=eE C;have Q:=eE P;have hTB:=P.size;have B4:=eF hcs;clear hcs C P;by_cases a:g<T.n
      .have i6:(g:Int)<T.n:=ab;have i7:(g:Int)<3:=ab;obtain⟨e5,hk5⟩:=d.out.h5 ab;obtain rfl:J=_:=wC.out.trans e5;clear e5;obtain⟨a0,a1,a2⟩:=(d.out.below Q.out).ahF a;go_wp2;have aF:=d.out.st g a;obtain⟨Wg,rfl⟩:=br wr
       go_loopw [71,72,73,74] (λR U V t wr=>∃r:Nat,r<=T.np/\R=i9 jz ((j8 T.np (T.S g) r:Nat):Int)/\U=i9 jz (cmV T.pn T.np (T.S g) (T.dl g) r).1/\V=i9 jz (cmV T.pn T.np (T.S g) (T.dl g) r).2/\t=i9 jz (r:Int)/\
        ∃cs,wr.heap[w.heap.size]?=some (iB cs 113)/\dc T.pn T.np T.S T.dl g r cs/\bA w wr) (λ_ _ _ t _=>T.np-(intOf t).toNat)
       case atStart=>exact⟨0,cm _,by rw[j8,Nat.add_zero,Nat.mod_eq_of_lt aF],rfl,rfl,rfl,cs,D.out,E.out,Q.out⟩
       case round=>
        clear a0 a1 a2;obtain⟨r,hr,rfl,rfl,rfl,rfl,u,x,F,X⟩:=hrel;have H:=eE x;have b:=eE F;have Y:=eE X;have azo:=X.size;have ajj:=eF x;clear x F X;by_cases I:r<T.np
        .have i8:(r:Int)<T.np:=ab;obtain⟨p,L⟩:=br (j8 T.np (T.S g) r);obtain⟨c1,Z⟩:=br ((cmV T.pn T.np (T.S g) (T.dl g) r).1);obtain⟨c2,y⟩:=br ((cmV T.pn T.np (T.S g) (T.dl g) r).2);have Wf:p<T.np:=by rw[L];exact ab5 ab
         have j1:(p:Int)<T.np:=ab;have j2:(p:Int)<5:=ab;rw[<-L,<-Z,<-y];have f:=eE L;have z:=eE Z;have A:=eE y;clear L Z y;obtain⟨a0,a1,a2,a3,a4,a5,a6,a7,a8,a9,zm,zM⟩:=(d.out.below Y.out).ahE Wf;have agb:g*25+p*5+5<=u.size:=by have:=b.out.size;omega
         by_cases hw:p+1=T.np
         all_goals
          go_wp2_with (refine abI rfl (.tmp 90) (.tmp 88) rfl w.heap.size w.heap.size (g*25+p*5) u _ rfl rfl H.out rfl agb (by intro v hv;simp only[gy,fJ,fP,or_false]at hv;rcases hv with rfl|rfl|rfl|rfl|rfl<;>rfl) (cq _) ?_;intro cs3 w3 g1 g2 g3 g4 g5 g6)
          refine⟨⟨r+1,I,?_,?_,?_,by go_num,cs3,g1,b.out.next I l5 (g2.trans b.out.size) (λj hj=>?_) (λo K=>?_),Y.out.trans g5⟩,by simp only[intOf];omega⟩
          .rw[abk ab,<-f.out]
           first|(rw[if_pos hw];rfl)|(rw[if_neg hw];rfl)|(rw[if_neg hw];go_num)
          .rw[cmV,<-z.out,<-f.out,P0,P0]
          .rw[cmV,<-A.out,<-f.out,P0,P0]
          .rw[<-f.out,g3 j hj];obtain rfl|rfl|rfl|rfl|rfl:j=0\/j=1\/j=2\/j=3\/j=4:=ab
           .simp only[vsV,<-f.out];rfl
           .simp only[vsV,<-z.out];rfl
           .simp only[vsV,<-A.out];rfl
           .simp only[vsV,<-z.out,<-f.out,<-P0];rfl
           .simp only[vsV,<-A.out,<-f.out,<-P0];rfl
          .rw[<-f.out]at K;exact g4 o K
        .obtain rfl:r=T.np:=ab;go_wp2;exact⟨⟨g+1,a,by go_num,u,H.out,b.out.done,Y.out⟩,by simp only[intOf];omega⟩
      .obtain rfl:g=T.n:=ab;go_wp2;refine ai (v:=js (some ⟨w.heap.size,0,none⟩)) ?_ rfl ⟨w.heap.size,cs,rfl,D.out,E.out,Q.out⟩;simp[aI,Tryz.results29,go_sem]
def acv{n a b:Int}:bO n a b=true↔a<=n/\n<=b:=by simp[bO]
def ni{C:CD}(hc:C.cx=0):2<=C.n4/\C.n4<=5:=by
 have a:kA C.p C.n2 C.n3 C.n4 C.x4=0:=ck hc 3 ab;unfold kA at a;split at a
 case isFalse=>cases a
 rename_i hb;have:=acv.1 hb;omega
def fc{C:CD}(hc:C.cx=0):C.n5<=3:=by
 have a:pE C.n4 C.n5 C.x5=0:=ck hc 4 ab;unfold pE at a;split at a
 .cases a
 .omega
def ahU{C:CD}(hc:C.cx=0){k:Nat}(b:k<C.n5):(0<=(C.x5 k).2.1/\(C.x5 k).2.1<C.n4)/\(0<=(C.x5 k).2.2/\(C.x5 k).2.2<=12)/\(∀j,j<k->(C.x5 j).2.1≠(C.x5 k).2.1):=by
 have a:pE C.n4 C.n5 C.x5=0:=ck hc 4 ab;unfold pE at a;split at a
 .cases a
 have hg:=ck a k b;unfold iI at hg;split at hg
 case isFalse h=>exact absurd hg h
 split at hg
 case isFalse=>cases hg
 rename_i hb;split at hg
 .cases hg
 rename_i c;split at hg
 case isFalse=>cases hg
 rename_i hd;have g:=acv.1 hb;have d:=acv.1 hd;refine⟨ab,d,λj f e=>c ?_⟩;simp only[gB,gj];exact⟨j,f,e⟩
abbrev CD.S(C:CD)(k:Nat):Nat:=(C.x5 k).2.1.toNat
abbrev CD.pn(C:CD)(i j:Nat):Int:=(C.x4 i).n j
abbrev CD.dl(C:CD)(k:Nat):Int:=(C.x5 k).2.2
def CD.td(C:CD):h_:=
 { l:=C.l,p:=C.p,b2:=C.b2,n2:=C.n2,c2:=C.c2,b3:=C.b3,n3:=C.n3,c3:=C.c3,k4:=C.k4,o4:=C.o4,np:=C.n4,c4:=C.c4,b5:=C.b5,k5:=C.k5,o5:=C.o5,n:=C.n5,c5:=C.c5,
   pn:=C.pn,S:=C.S,dl:=C.dl,nm:=λi=>(C.x4 i).name,gn:=λk=>(C.x5 k).1,lb:=λi=>(C.x4 i).lb,ll:=λi=>(C.x4 i).ln,lc:=λi=>(C.x4 i).lc }
def CD.an9{C:CD}{w:ac}(h:C.At w)(a:0<C.n4):C.td.arr=C.val:=by
 simp only[h_.arr,CD.td,CD.val,h.s4 a]
def CD.apq{C:CD}{w:ac}(h:C.At w)(c:2<=C.n4/\C.n4<=5)(d:C.n5<=3)(hs:∀k,k<C.n5->0<=(C.x5 k).2.1/\(C.x5 k).2.1<C.n4):C.td.In w:=by
 refine⟨⟨c.1,c.2,d⟩,h.h4,λe=>⟨h.s5 e,h.h5⟩,λk a=>?_,λi hi j b=>?_,λk a j b=>?_⟩
 .have:=hs k a;show(C.x5 k).2.1.toNat<C.n4;omega
 .match j,b with
  |0,_=>exact h.AD i hi
  |11,_=>exact h.nj i hi
  |1,_=>exact h.dB i hi 1 ab ab
  |2,_=>exact h.dB i hi 2 ab ab
  |3,_=>exact h.dB i hi 3 ab ab
  |4,_=>exact h.dB i hi 4 ab ab
  |5,_=>exact h.dB i hi 5 ab ab
  |6,_=>exact h.dB i hi 6 ab ab
  |7,_=>exact h.dB i hi 7 ab ab
  |8,_=>exact h.dB i hi 8 ab ab
  |9,_=>exact h.dB i hi 9 ab ab
  |10,_=>exact h.dB i hi 10 ab ab
 .have f:=hs k a
  match j,b with
  |0,_=>exact h.FI k a
  |1,_=>
   refine(h.HU k a).trans ?_;show some (i9 jz (C.x5 k).2.1)=some (i9 jz ((C.x5 k).2.1.toNat:Int));rw[Int.toNat_of_nonneg f.1]
  |2,_=>exact h.J6 k a
def agc(a:Nat->Nat->Int)(np:Nat)(S:Nat->Nat)(dl:Nat->Int)(n o:Nat):Int:=
 if o / 25<n/\o % 25 / 5<np then vsV a np (S (o / 25)) (dl (o / 25)) (ag9 np (S (o / 25)) (o % 25 / 5)) (o % 5) else 0
def ac2(a:Nat->Nat->Int)(np:Nat)(S:Nat->Nat)(dl:Nat->Int)(n:Nat):List Int:=(gc 75).map (agc a np S dl n)
def dc.lit{b:Nat->Nat->Int}{np n:Nat}{S:Nat->Nat}{dl:Nat->Int}{cs:Array ad}(h:dc b np S dl n 0 cs)(i:np<=5)(d:∀k,k<n->S k<np):cs.toList=(ac2 b np S dl n).map bh:=by
 apply List.ext_getElem?;intro o;rw[Array.getElem?_toList]
 rcases Nat.lt_or_ge o 75 with a|a
 .have e:((ac2 b np S dl n).map bh)[o]?=some (bh (agc b np S dl n o)):=by
   simp only[ac2,fR,List.getElem?_range a,kb]
  rw[e];by_cases hc:o / 25<n/\o % 25 / 5<np
  .rw[agc,if_pos hc,<-h.at (k:=o / 25) (p:=o % 25 / 5) (j:=o % 5) hc.1 hc.2 (d _ hc.1) ab,show o / 25*25+o % 25 / 5*5+o % 5=o by omega]
  .rw[agc,if_neg hc];refine h.rest o a λk r c hv=>hc ?_
   have f:k<n/\r<np:=by rcases c with c|c<;>omega
   have:=ab5 (np:=np) (s:=S k) (r:=r) ab;obtain⟨l,m⟩:=hv;have e1:o / 25=k:=ab;have g:o % 25 / 5=j8 np (S k) r:=ab;rw[e1,g];exact⟨f.1,this⟩
 .rw[Array.getElem?_eq_none (by rw[h.size];exact a),List.getElem?_eq_none (by simp[ac2];exact a)]
abbrev CD.yd(C:CD):List Int:=ac2 C.pn C.n4 C.S C.dl C.n5
def Row.ofl{W:ac}{k:Nat}{c:Array ad}{t:aJ}{l:List ad}(h:W.heap[k]?=some (iB c t))(e:c.toList=l):Row W k l:=Row.of h λj v hv=>by rw[<-e]at hv;simpa using hv
def aeC{C:CD}{w:ac}(h:C.At w)(b:2<=C.n4/\C.n4<=5)(c:C.n5<=3)(hs:∀k,k<C.n5->0<=(C.x5 k).2.1/\(C.x5 k).2.1<C.n4):ag PL 29 #[jp C.val] w λe w'=>∃k,e=kq (js (some ⟨k,0,none⟩))/\Row w' k (C.yd.map bh)/\bA w w':=by
 rw[<-C.an9 h ab];refine(ahg C.td w (CD.apq h b c hs) (λi hi=>?_) λk a=>?_).mono ?_
 .have:=(h.cu i hi).1;show(C.x4 i).name.size<=1000;omega
 .have:=h.nm5 k a;show(C.x5 k).1.size<=1000;omega
 .rintro e w'⟨k,cs,rfl,d,f,g⟩;refine⟨k,rfl,Row.ofl d ?_,g⟩;refine f.lit b.2 λk a=>?_;have:=hs k a;show(C.x5 k).2.1.toNat<C.n4;omega
def acw{C:CD}{w:ac}(h:C.At w)(hc:C.cx=0):ag PL 29 #[jp C.val] w λe w'=>∃k,e=kq (js (some ⟨k,0,none⟩))/\Row w' k (C.yd.map bh)/\bA w w':=
 aeC h (ni hc) (fc hc) λk a=>(ahU hc a).1
def je:List Int:=[0,0,0,4,6,1,6,9,10,14,2,13,17,18,22,0,0,0,0,0,0,0,0,0,0,0,14,17,18,23,1,0,0,4,5,2,7,8,12,13,0,0,0,0,0,0,0,0,0,0,0,0,0,0,0,0,0,0,0,0,0,0,0,0,0,0,0,0,0,0,0,0,0,0,0]
def RJ:List Int:=[0,0,0,4,6,1,6,9,10,14,2,13,17,18,22,0,0,0,0,0,0,0,0,0,0,0,15,18,19,24,1,1,1,5,6,2,8,9,13,14,0,0,0,0,0,0,0,0,0,0,0,0,0,0,0,0,0,0,0,0,0,0,0,0,0,0,0,0,0,0,0,0,0,0,0]
def mC(d:Int):List Int:=if d=0 then je else RJ
def acy{k2 a k3 c3 b c d e f ca lb g:Nat}:(ir k2 a k3 c3 b c d e f ca lb g 0).yd=je:=ae
def ana{k2 a k3 c3 b c d e f ca lb g:Nat}:(ir k2 a k3 c3 b c d e f ca lb g 1).yd=RJ:=ae
def asJ{k2 a k3 c3 b c e f g ca lb h:Nat}{d:Int}:∀k,k<2->0<=((ir k2 a k3 c3 b c e f g ca lb h d).x5 k).2.1/\((ir k2 a k3 c3 b c e f g ca lb h d).x5 k).2.1<(3:Nat):=by
 intro k i;obtain rfl|rfl:k=0\/k=1:=ab
 .exact⟨by show(0:Int)<=0;omega,by show(0:Int)<3;omega⟩
 .exact⟨by show(0:Int)<=1;omega,by show(1:Int)<3;omega⟩
def tA{d:Int}{C:CD}{w:ac}(hd:d=0\/d=1)(a:VB d C)(h:C.At w):ag PL 29 #[jp C.val] w λe w'=>∃k,e=kq (js (some ⟨k,0,none⟩))/\Row w' k ((mC d).map bh)/\bA w w':=by
 obtain⟨k2,b,k3,c3,c,f,g,i,j,l,lb,m,rfl⟩:=a;have:=aeC h ⟨by show 2<=3;omega,by show 3<=5;omega⟩ (by show 2<=3;omega) asJ
 rcases hd with rfl|rfl
 .rwa[acy]at this
 .rwa[ana]at this
def kU(L:List Int)(p:Nat)(m:Int):Nat->Nat->Bool->Int
 |0,_,can=>Ej can true
 |k+1,g,can=>if bO m (L.getD (g*25+p*5+2) 0) (L.getD (g*25+p*5+3) 0-1) then 1 else kU L p m k (g+1) (can||bO m (L.getD (g*25+p*5+1) 0) (L.getD (g*25+p*5+4) 0-1))
structure Ir(L:List Int):Prop where
 len:L.length=75
 lo:∀j,-10000<=L.getD j 0
 hi:∀j,L.getD j 0<=10000
def Row.getD{W:ac}{k:Nat}{L:List Int}(h:Row W k (L.map bh)){j:Nat}(a:j<L.length):W.cell? ⟨k,j,none⟩=some (i9 jz (L.getD j 0)):=
 h.2 j _ (by rw[fR,fY a,f6,fY a];rfl)
def Fa(C:CD)(k p:Nat)(m:Int)(L:List Int)(t:Ir L)(w:ac)(u:Row w k (L.map bh))(U:C.n5<=3)(V:p<5) :
 ag PL 30 #[jp C.val,js (some ⟨k,0,none⟩),i9 jz p,i9 jz m] w (aO (i9 jz (kU L p m C.n5 0 false)) w):=by
 have H:=eE u;have a:=eE t;clear u t;have I:(p:Int)<5:=ab;go_enter (fx ao Tryz.func30),Tryz.ntmps30;go_wp2;obtain⟨l,n⟩:=br (w.alloc (iB C.val 77));have v:l.heap[w.heap.size]?=some (iB C.val 77):=by rw[n];exact au _ _
 have y:bA w l:=by rw[n];exact(eD _ _).alloc (cq _) _
 rw[<-n];clear n;have J:=eE v;have o:=eE y;clear v y
 go_loopw [9,16] (λK b wr=>∃(g:Nat)(can:Bool),g<=C.n5/\b=i9 jz g/\K=jn can/\kU L p m C.n5 0 false=kU L p m (C.n5-g) g can/\wr.heap[w.heap.size]?=some (iB C.val 77)/\bA w wr) (λ_ b _=>C.n5-(intOf b).toNat)
 case atStart=>exact⟨0,false,cm _,rfl,rfl,rfl,J.out,o.out⟩
 case round=>
  obtain⟨g,can,hg,rfl,rfl,z,A,i⟩:=hrel;have E:=eE z;have B:=eE A;clear z A;by_cases M:g<C.n5
  .have W:(g:Int)<C.n5:=ab;have X:(g:Int)<3:=ab;have c:=H.out.on i;have N:wr.cell? ⟨k,g*25+p*5,none⟩=some (i9 jz (L.getD (g*25+p*5) 0)):=c.getD (by rw[a.out.len];omega);have t1:wr.cell? ⟨k,g*25+p*5+1,none⟩=some (i9 jz (L.getD (g*25+p*5+1) 0)):=c.getD (by rw[a.out.len];omega);have t2:wr.cell? ⟨k,g*25+p*5+2,none⟩=some (i9 jz (L.getD (g*25+p*5+2) 0)):=c.getD (by rw[a.out.len];omega);have O:wr.cell? ⟨k,g*25+p*5+3,none⟩=some (i9 jz (L.getD (g*25+p*5+3) 0)):=c.getD (by rw[a.out.len];omega);have P:wr.cell? ⟨k,g*25+p*5+4,none⟩=some (i9 jz (L.getD (g*25+p*5+4) 0)):=c.getD (by rw[a.out.len];omega);have Q:=a.out.lo (g*25+p*5+3);have q:=a.out.hi (g*25+p*5+3);have R:=a.out.lo (g*25+p*5+4);have r:=a.out.hi (g*25+p*5+4);have S:=c.1;have es:C.n5-g=(C.n5-(g+1))+1:=ab;have T:=eE es;clear c es;obtain⟨x1,d⟩:=br (L.getD (g*25+p*5+1) 0);obtain⟨x2,s⟩:=br (L.getD (g*25+p*5+2) 0);obtain⟨x3,f⟩:=br (L.getD (g*25+p*5+3) 0);obtain⟨x4,h⟩:=br (L.getD (g*25+p*5+4) 0);obtain⟨x0,D⟩:=br (L.getD (g*25+p*5) 0);rw[<-D]at N;rw[<-d]at t1;rw[<-s]at t2;rw[<-f]at O Q q;rw[<-h]at P R r;have F:Hid (kU L p m C.n5 0 false=if bO m x2 (x3-1) then 1 else kU L p m (C.n5-(g+1)) (g+1) (can||bO m x1 (x4-1))):=eE (by rw[E.out,T.out,kU,<-d,<-s,<-f,<-h]);clear D d s f h;by_cases hy:bO m x2 (x3-1)=true
   .have j:=eE hy;clear hy
    go_wp2_with (go_at_call 33;refine(rM j.out _).mono ?_;rintro e w'⟨rfl,rfl⟩)
    go_ret;exact⟨aC (by rw[F.out,if_pos j.out]),i.alloc i.size _⟩
   .have j:=eE (aV hy);clear hy E;cases can
    all_goals (
     go_wp2_with (first|(go_at_call 33;(with_reducible refine(yG j.out _).mono ?_);rintro e w'⟨rfl,rfl⟩)|(go_at_call 33;refine(ij _ _ _ _).mono ?_;rintro e w'⟨rfl,rfl⟩))
     refine⟨⟨g+1,_,M,by go_num,rfl,?_,(((eD wr.heap.size wr).alloc (cq _) _).block _ (eF B.out)).trans B.out,i.alloc i.size _⟩,by simp only[intOf];omega⟩;rw[F.out,if_neg (by simp[j.out])]
     rfl)
  .obtain rfl:g=C.n5:=ab;have fin:Hid (kU L p m C.n5 0 false=Ej can true):=eE (by rw[E.out,cC,kU]);clear E
   go_wp2_with (go_at_call 46;refine(yH _ _ _).mono ?_;rintro e w'⟨rfl,rfl⟩)
   go_ret;exact⟨aC fin.out,i⟩
def Cs(m:Int)(w:ac):ag PL 28 #[i9 jz m] w λe w'=>e=kq (jn (bO m 0 999))/\w=w':=by
 go_enter (fx ao Tryz.func28),Tryz.ntmps28
 go_wp2_with (go_at_call 33;refine(ij _ _ _ _).mono ?_;rintro e w'⟨rfl,rfl⟩)
 go_ret;exact⟨rfl,rfl⟩
def yO{m:Int}(h:bO m 0 999=true)(w:ac):ag PL 28 #[i9 jz m] w λe w'=>e=kq (jn true)/\w=w':=by
 have:=Cs m w;rwa[h]at this
def afJ:PL.underlying 33=some (ks 59):=ae
def aaI:(PL.info? 59).map (λi=>(i.zero,i.size,i.bytes))=some (some (i9 jz 0),1,8):=ae
def eO(e:aJ)(W:ac)(base:Nat)(v:ad)(l:List Int):Prop:=W.ownsRow base e 1 v l.length (l.map λx=>i9 jz x)
def eO.reads{e:aJ}{W:ac}{base:Nat}{v:ad}{l:List Int}(h:eO e W base v l):bB W v l:=by
 obtain⟨_,h⟩:=h
 rcases h with⟨rfl,a⟩|⟨g,cap,b,rfl,hb,hg,hc,d,hs,c⟩
 .exact⟨none,0,by rw[a],λh=>ab⟩
 .refine⟨_,_,rfl,λa=>⟨g,0,rfl,eF hg,λj f=>?_⟩⟩;have e:(l.map λx=>i9 jz x)[j]?=some (i9 jz (l.getD j 0)):=by
   rw[fR,fY ab];simp[f6,fY (show j<l.length by omega)]
  rw[<-c,f7 ab]at e;simp only[eQ,hg,cv];simpa using e
def eO.alloc{e:aJ}{W:ac}{base:Nat}{v:ad}{l:List Int}(h:eO e W base v l)(o:Obj):eO e (W.alloc o) base v l:=jx h o
def eO.on{e:aJ}{W b:ac}{base:Nat}{v:ad}{l:List Int}(h:eO e W base v l)(d:bA W b):eO e b base v l:=by
 obtain⟨c,h⟩:=h
 rcases h with h|⟨g,cap,a,e1,hb,hg,f⟩
 .exact⟨c,kt h⟩
 .exact⟨c,kv ⟨g,cap,a,e1,hb,(d.block _ (eF hg)).trans hg,f⟩⟩
def Fb{T e:aJ}(f:PL.underlying T=some (ks e))(g:(PL.info? e).map (λi=>(i.zero,i.size,i.bytes))=some (some (i9 jz 0),1,8)){ops:Array aP}{rest:List aP}{o:aP}{a:Act}{Q:aT->Act->ac->Prop}{w:ac}(m:o.guard=none)(s x:bi)
 (n:o.op=.call { callee:=.builtin .append,args:=#[s,x],argTypes:=#[T,T] }) (base:Nat) (v:ad) (l:List Int) (j:Int) (b:Nat) (hs:a.eval s=v) (c:eO e w base v l)
 (p:a.eval x=jk (some ⟨b,0,none⟩) 1 1) (hc:w.cell? ⟨b,0,none⟩=some (i9 jz j)) (hl:l.length<=1000) (d:base<=w.heap.size)
 (h:∀v' w',eO e w' base v' (l++[j])->Below base w w'->bj PL ops Q rest (a.put o.dst v') w'):bj PL ops Q (o::rest) a w:=by
 obtain⟨q,hi,r,t,y⟩:=bm g;refine bq _ m s x T n base e q (i9 jz 0) 1 8 f hi r t y rfl ao v l.length _ hs c ⟨b,0,none⟩ 1 1 [i9 jz j] p rfl (λk u e=>?_) (by simp[jl]) (by simp only[bv];omega) ab d λv' w' z A _=>?_
 .match k,e with
  |0,e=>cases e;exact hc
 .refine h v' w' ?_ ((eD base w).grown A d (cZ c));unfold eO;rw[f8,f9];exact z
def tB(L:List Int)(m:Int)(a p:Nat):List Int:=(gc p).map λj=>kU L j m a 0 false
def Iu(L:List Int)(m:Int)(a p:Nat):tB L m a (p+1)=tB L m a p++[kU L p m a 0 false]:=by simp[tB,gD]
def Nt(L:List Int)(m:Int)(a p:Nat):(tB L m a p).length=p:=by simp[tB]
def RO(C:CD)(m:Int)(L:List Int)(n:Ir L)(w:ac)(h:C.At w)(hf:C.b6 true=0)(h4:C.n4<=5)(D:C.n5<=3)(o:bO m 0 999=true)
 (q:∀W,C.At W->ag PL 29 #[jp C.val] W λe w'=>∃k,e=kq (js (some ⟨k,0,none⟩))/\Row w' k (L.map bh)/\bA W w') :
 ag PL 6 #[jp C.val,i9 jz m] w λe w'=>∃v,e=kq (jr #[v,i9 jz 0])/\bB w' v (tB L m C.n5 C.n4)/\bA w w':=by
 have r:=eE h;have s:Hid (KB C w (w.alloc (iB C.val 27))):=eE ⟨au _ _,(eD _ _).alloc (cq _) _⟩;have E:=eE hf;have F:=eE o;have d:=eE q;have H:=eE n;clear h hf o q n;go_enter (fx ao Tryz.func6),Tryz.ntmps6
 go_wp2_with (first
  |(go_at_call 27;refine(kF E.out (r.out.below s.out.low)).mono ?_;rintro e w1⟨rfl,t⟩;have u:=eE (s.out.on t);clear t)
  |(go_at_call 28;refine(yO F.out _).mono ?_;rintro e w'⟨rfl,rfl⟩)
  |(go_at_call 29;refine(d.out _ (r.out.below (u.out.alloc (iB C.val 77)).low)).mono ?_;rintro e w2⟨k,rfl,x,f⟩;have g:=eE ((u.out.alloc (iB C.val 77)).on f);have i:=eE ((f.block w1.heap.size ar).trans (au w1 (iB C.val 77)));have I:=eE x;clear f x;have J:=g.out.lt;have K:=eF i.out;obtain⟨M,N,O,P,f4,Q⟩:=bf g.out.box;obtain⟨d0,d1,d2,d3,d4,d5⟩:=bf i.out))
 go_loopw [9,27] (λR a wr=>∃p:Nat,p<=C.n4/\a=i9 jz p/\eO 59 wr w2.heap.size R (tB L m C.n5 p)/\bA w2 wr) (λ_ a _=>C.n4-(intOf a).toNat)
 case atStart=>exact⟨0,cm _,rfl,⟨rfl,kt ⟨rfl,rfl⟩⟩,eD _ _⟩
 case round=>
  obtain⟨p,hp,rfl,y,b⟩:=hrel;clear M N O P f4 Q d0 d1 d2 d3 d4 d5 J;have z:=eE y;have S:=eE (g.out.on b);have A:=eE ((b.block _ K).trans i.out);have T:=eE (I.out.on b);have U:=eE b;have wD:=eF A.out;have V:=b.size;clear y b;by_cases X:p<C.n4
  .have i2:(p:Int)<C.n4:=ab;obtain⟨d0,d1,d2,d3,d4,d5⟩:=bf A.out;have B:(tB L m C.n5 p).length=p:=Nt _ _ _ _;have j:=eE B;clear B
   go_wp2_with (first
    |(go_at_call 30;refine(Fa C k p m L H.out _ T.out D ab).mono ?_;rintro e w3⟨rfl,c⟩;have Y:=c.size;have Z:=eE (z.out.on c);have H3:=eE (U.out.trans (c.mono V));clear c)
    |(at_builtin;refine Fb afJ aaI rfl _ _ rfl w2.heap.size _ _ (kU L p m C.n5 0 false) w3.heap.size rfl (Z.out.alloc _) rfl (bC _ _ _ 0 _ rfl) (by rw[j.out];omega) (by simp;omega) ?_;intro v' w4 fO l))
   refine⟨⟨p+1,X,by go_num,by rw[Iu];exact fO,(H3.out.alloc ab _).trans l⟩,by simp only[intOf];omega⟩
  .obtain rfl:p=C.n4:=ab;go_wp2;refine ai (v:=jr #[u9,i9 jz 0]) ?_ rfl ⟨_,rfl,z.out.reads,S.out.low⟩;simp[aI,Tryz.results6,go_sem]
def j7{T e:aJ}{z:ad}{m bytes:Nat}(k:PL.underlying T=some (ks e))(l:(PL.info? e).map (λi=>(i.zero,i.size,i.bytes))=some (some z,m,bytes))(p:z.cells.size=m)(q:0<m)(d:bytes<=1000){ops:Array aP}{rest:List aP}{o:aP}{a:Act}{Q:aT->Act->ac->Prop}{w:ac}(r:o.guard=none)(s x:bi)
 (t:o.op=.call { callee:=.builtin .append,args:=#[s,x],argTypes:=#[T,T] }) (base g:Nat) (hs:a.eval s=jk (some ⟨g,0,none⟩) 0 0) (hg:w.heap[g]?=some (iB #[] e)) (hb:base<=g)
 (A:bL) (n c:Nat) (b:List ad) (v:a.eval x=jk (some A) n c) (hl:b.length=n*m) (hc:∀j u,b[j]?=some u->w.cell? (A.add j)=some u) (y:∀u∈b,u.oneCell'=true) (B:n<=1000)
 (h:∀v' w',w'.ownsRow base e m v' n b->v'≠jk none 0 0->Below base w w'->bj PL ops Q rest (a.put o.dst v') w'):bj PL ops Q (o::rest) a w:=by
 obtain⟨C,hi,D,E,F⟩:=bm l;have f:w.ownsRow base e m (jk (some ⟨g,0,none⟩) 0 0) 0 []:=⟨ar,kv ⟨g,0,#[],rfl,hb,hg,cq _,cm _,ar,ar⟩⟩
 have H:=eF hg;refine bq _ r s x T t base e C z m bytes k hi D E F p q (jk (some ⟨g,0,none⟩) 0 0) 0 [] hs f A n c b v hl hc y (by simp only[bv];omega) (by have:=Nat.mul_le_mul B d;rw[cv];omega) ab λv' w' I J K=>?_;refine h v' w' (by simpa using I) (λe=>?_) ((eD base w).grown J ab (cZ f));have:=K.1 e;simp at this
def abl{w:ac}{k off:Nat}{a:List ad}(hc:∀j u,a[j]?=some u->w.cell? ⟨k,off+j,none⟩=some u):∀j u,a[j]?=some u->w.cell? ((⟨k,off,none⟩:bL).add j)=some u:=λj u e=>by
 have:=hc j u e;by_cases b:j=0
 .subst b;simpa[ke]using this
 .simpa[ke,b]using this
def ga{T e:aJ}{z:ad}{m bytes:Nat}(f:PL.underlying T=some (ks e))(l:(PL.info? e).map (λi=>(i.zero,i.size,i.bytes))=some (some z,m,bytes))(p:z.cells.size=m)(q:0<m)(d:bytes<=1000){ops:Array aP}{rest:List aP}{o:aP}{a:Act}{Q:aT->Act->ac->Prop}{w:ac}(r:o.guard=none)(s x:bi)
 (t:o.op=.call { callee:=.builtin .append,args:=#[s,x],argTypes:=#[T,T] }) (base g:Nat) (hs:a.eval s=jk (some ⟨g,0,none⟩) 0 0) (hg:w.heap[g]?=some (iB #[] e)) (hb:base<=g)
 (k off n c:Nat) (b:List ad) (v:a.eval x=jk (some ⟨k,off,none⟩) n c) (hl:b.length=n*m) (hc:∀j u,b[j]?=some u->w.cell? ⟨k,off+j,none⟩=some u) (y:∀u∈b,u.oneCell'=true) (A:n<=1000)
 (h:∀v' w',w'.ownsRow base e m v' n b->v'≠jk none 0 0->Below base w w'->bj PL ops Q rest (a.put o.dst v') w'):bj PL ops Q (o::rest) a w:=
 j7 f l p q d r s x t base g hs hg hb _ n c b v hl (abl hc) y A h
def Fc(w W:ac)(e m:Nat)(v:ad)(n:Nat)(l:List ad):Prop:=W.ownsRow w.heap.size e m v n l/\v≠jk none 0 0
def Fc.form{w W:ac}{e m n:Nat}{v:ad}{l:List ad}(h:Fc w W e m v n l):∃g cap cur,v=jk (some ⟨g,0,none⟩) n cap/\w.heap.size<=g/\W.heap[g]?=some (iB cur e)/\cur.toList.take (n*m)=l:=by
 obtain⟨⟨_,h⟩,hv⟩:=h
 rcases h with⟨rfl,_⟩|⟨g,cap,cur,e1,hb,hg,_,_,_,a⟩
 .exact absurd rfl hv
 .exact⟨g,cap,cur,e1,hb,hg,a⟩
structure G0(w:ac)(b:Option bL)(n m:Nat)(row:List ad):Prop where
 len:row.length=n*m
 le:n<=1000
 one:∀u∈row,u.oneCell'=true
 cells:0<n->∃k o,b=some ⟨k,o,none⟩/\k<w.heap.size/\∀j u,row[j]?=some u->w.cell? ⟨k,o+j,none⟩=some u
def G0.on{w W:ac}{b:Option bL}{n m:Nat}{row:List ad}(h:G0 w b n m row)(a:bA w W):G0 W b n m row:=
 ⟨h.len,h.le,h.one,λd=>by
   obtain⟨k,o,f,c,g⟩:=h.cells d
   exact⟨k,o,f,ci c a.size,λj u e=>(a.cell (p:=⟨k,o+j,none⟩) c).trans (g j u e)⟩⟩
def G0.nil{w:ac}{n m:Nat}{row:List ad}(h:G0 w none n m row):n=0:=by
 by_cases a:0<n
 .obtain⟨k,o,b,_⟩:=h.cells a;cases b
 .omega
def G0.add{w:ac}{A:bL}{n m:Nat}{row:List ad}(h:G0 w (some A) n m row):∀j u,row[j]?=some u->w.cell? (A.add j)=some u:=λj u e=>by
 by_cases a:0<n
 .obtain⟨k,o,b,_,c⟩:=h.cells a;cases b;exact abl c j u e
 .have:=h.len;obtain rfl:n=0:=ab;rw[Nat.zero_mul]at this;rw[List.length_eq_zero_iff.1 this]at e;cases e
def Clo(w W:ac)(e m n:Nat)(row:List ad)(b:Option bL)(v:ad):Prop:=∃b' c,v=jk b' n c/\(b=none->b'=none/\c=0)/\(0<n->∃g a,b'=some ⟨g,0,none⟩/\w.heap.size<=g/\W.heap[g]?=some (iB a e)/\a.toList.take (n*m)=row)
def Clo.on{w W d:ac}{e m n:Nat}{row:List ad}{b:Option bL}{v:ad}(h:Clo w W e m n row b v)(i:bA W d):Clo w d e m n row b v:=by
 obtain⟨b',c,hv,j,h⟩:=h;exact⟨b',c,hv,j,λk=>by obtain⟨g,a,l,o,f,p⟩:=h k;exact⟨g,a,l,o,(i.block _ (eF f)).trans f,p⟩⟩
def Clo.low{w0 w W:ac}{e m n:Nat}{row:List ad}{b:Option bL}{v:ad}(h:Clo w W e m n row b v)(hs:w0.heap.size<=w.heap.size):Clo w0 W e m n row b v:=by
 obtain⟨b',c,hv,d,h⟩:=h;exact⟨b',c,hv,d,λf=>by obtain⟨g,a,i,j,k,l⟩:=h f;exact⟨g,a,i,cQ hs j,k,l⟩⟩
def Clo.of{w W:ac}{e m n:Nat}{row:List ad}{A:bL}{v:ad}(h:W.ownsRow w.heap.size e m v n row)(hv:v≠jk none 0 0):Clo w W e m n row (some A) v:=by
 obtain⟨g,c,a,rfl,b,d,f⟩:=Fc.form (w:=w) ⟨h,hv⟩;exact⟨_,c,rfl,λe=>(by cases e),λ_=>⟨g,a,rfl,b,d,f⟩⟩
def Clo.nil{w W:ac}{e m n:Nat}{row:List ad}{b:Option bL}(a:n=0):Clo w W e m n row b (jk none 0 0):=by
 subst a;exact⟨none,0,rfl,λ_=>⟨rfl,rfl⟩,λh=>absurd h (cB _)⟩
def VF:PL.underlying 42=some (ks 3):=ae
def VG:(PL.info? 3).map (λi=>(i.zero,i.size,i.bytes))=some (some (i9 jz 0),1,8):=ae
def aaK(a:bL)(n c:Nat)(W:ac):(binOp .eql 42 (jk (some a) n c) (jk none 0 0)).run PL W=kj (jn false) W:=ae
def aaP(c:Nat)(W:ac):(binOp .eql 42 (jk none 0 c) (jk none 0 0)).run PL W=kj (jn true) W:=ae
def ahh(b:Option bL)(n c:Nat)(row:List ad)(w:ac)(h:G0 w b n 1 row):ag PL 35 #[jk b n c] w λe w'=>∃v,e=kq v/\Clo w w' 3 1 n row b v/\bA w w':=by
 have H:=eE h;clear h
 cases b with
 |none=>
  obtain rfl:n=0:=H.out.nil;have q1:=aaP;go_enter (fx ao d9),ec;go_wp2;go_ret;exact⟨_,rfl,Clo.nil rfl,eD _ _⟩
 |some A=>
  have q1:=aaK;have a:=eE ((eD w.heap.size w).alloc (cq _) (iB #[] 3));go_enter (fx ao d9),ec
  go_wp2_with (at_builtin;refine j7 VF VG rfl ao ao rfl _ _ rfl w.heap.size w.heap.size rfl (au w (iB #[] 3)) (cq _) A n c row rfl H.out.len (H.out.on a.out).add H.out.one H.out.le ?_;intro v' w2 d hv f)
  go_ret;exact⟨_,rfl,Clo.of d hv,a.out.trans f⟩
def VH:PL.underlying 22=some (ks 56):=ae
def VI:(PL.info? 56).map (λi=>(i.zero,i.size,i.bytes))=some (some (jp #[i9 jz 0,i9 jz 0]),2,16):=ae
def aaL(a:bL)(n c:Nat)(W:ac):(binOp .eql 22 (jk (some a) n c) (jk none 0 0)).run PL W=kj (jn false) W:=ae
def anc(c:Nat)(W:ac):(binOp .eql 22 (jk none 0 c) (jk none 0 0)).run PL W=kj (jn true) W:=ae
def ahi(b:Option bL)(n c:Nat)(row:List ad)(w:ac)(h:G0 w b n 2 row):ag PL 104 #[jk b n c] w λe w'=>∃v,e=kq v/\Clo w w' 56 2 n row b v/\bA w w':=by
 have H:=eE h;clear h
 cases b with
 |none=>
  obtain rfl:n=0:=H.out.nil;have q1:=anc;go_enter (fx ao eh),ei;go_wp2;go_ret;exact⟨_,rfl,Clo.nil rfl,eD _ _⟩
 |some A=>
  have q1:=aaL;have a:=eE ((eD w.heap.size w).alloc (cq _) (iB #[] 56));go_enter (fx ao eh),ei
  go_wp2_with (at_builtin;refine j7 VH VI rfl ao ao rfl _ _ rfl w.heap.size w.heap.size rfl (au w (iB #[] 56)) (cq _) A n c row rfl H.out.len (H.out.on a.out).add H.out.one H.out.le ?_;intro v' w2 d hv f)
  go_ret;exact⟨_,rfl,Clo.of d hv,a.out.trans f⟩
def VJ:PL.underlying 23=some (ks 94):=ae
def VK:(PL.info? 94).map (λi=>(i.zero,i.size,i.bytes))=some (some (jp #[i9 jz 0,i9 jz 0,i9 jz 0]),3,24):=ae
def aaM(a:bL)(n c:Nat)(W:ac):(binOp .eql 23 (jk (some a) n c) (jk none 0 0)).run PL W=kj (jn false) W:=ae
def ane(c:Nat)(W:ac):(binOp .eql 23 (jk none 0 c) (jk none 0 0)).run PL W=kj (jn true) W:=ae
def ahj(b:Option bL)(n c:Nat)(row:List ad)(w:ac)(h:G0 w b n 3 row):ag PL 105 #[jk b n c] w λe w'=>∃v,e=kq v/\Clo w w' 94 3 n row b v/\bA w w':=by
 have H:=eE h;clear h
 cases b with
 |none=>
  obtain rfl:n=0:=H.out.nil;have q1:=ane;go_enter (fx ao ej),ek;go_wp2;go_ret;exact⟨_,rfl,Clo.nil rfl,eD _ _⟩
 |some A=>
  have q1:=aaM;have a:=eE ((eD w.heap.size w).alloc (cq _) (iB #[] 94));go_enter (fx ao ej),ek
  go_wp2_with (at_builtin;refine j7 VJ VK rfl ao ao rfl _ _ rfl w.heap.size w.heap.size rfl (au w (iB #[] 94)) (cq _) A n c row rfl H.out.len (H.out.on a.out).add H.out.one H.out.le ?_;intro v' w2 d hv f)
  go_ret;exact⟨_,rfl,Clo.of d hv,a.out.trans f⟩
def VL:PL.underlying 24=some (ks 88):=ae
def VM:(PL.info? 88).map (λi=>(i.zero,i.size,i.bytes))=some (some (jp #[jf ByteArray.empty,i9 jz 0,i9 jz 0,i9 jz 0,i9 jz 0,i9 jz 0,i9 jz 0,i9 jz 0,i9 jz 0,i9 jz 0,i9 jz 0,jk none 0 0]),12,120):=ae
def aaN(a:bL)(n c:Nat)(W:ac):(binOp .eql 24 (jk (some a) n c) (jk none 0 0)).run PL W=kj (jn false) W:=ae
def anf(c:Nat)(W:ac):(binOp .eql 24 (jk none 0 c) (jk none 0 0)).run PL W=kj (jn true) W:=ae
def ahk(b:Option bL)(n c:Nat)(row:List ad)(w:ac)(h:G0 w b n 12 row):ag PL 106 #[jk b n c] w λe w'=>∃v,e=kq v/\Clo w w' 88 12 n row b v/\bA w w':=by
 have H:=eE h;clear h
 cases b with
 |none=>
  obtain rfl:n=0:=H.out.nil;have q1:=anf;go_enter (fx ao el),em;go_wp2;go_ret;exact⟨_,rfl,Clo.nil rfl,eD _ _⟩
 |some A=>
  have q1:=aaN;have a:=eE ((eD w.heap.size w).alloc (cq _) (iB #[] 88));go_enter (fx ao el),em
  go_wp2_with (at_builtin;refine j7 VL VM rfl ao ao rfl _ _ rfl w.heap.size w.heap.size rfl (au w (iB #[] 88)) (cq _) A n c row rfl H.out.len (H.out.on a.out).add H.out.one H.out.le ?_;intro v' w2 d hv f)
  go_ret;exact⟨_,rfl,Clo.of d hv,a.out.trans f⟩
def VN:PL.underlying 25=some (ks 32):=ae
def VO:(PL.info? 32).map (λi=>(i.zero,i.size,i.bytes))=some (some (jp #[jf ByteArray.empty,i9 jz 0,i9 jz 0]),3,32):=ae
def aaO(a:bL)(n c:Nat)(W:ac):(binOp .eql 25 (jk (some a) n c) (jk none 0 0)).run PL W=kj (jn false) W:=ae
def ang(c:Nat)(W:ac):(binOp .eql 25 (jk none 0 c) (jk none 0 0)).run PL W=kj (jn true) W:=ae
def ahl(b:Option bL)(n c:Nat)(row:List ad)(w:ac)(h:G0 w b n 3 row):ag PL 107 #[jk b n c] w λe w'=>∃v,e=kq v/\Clo w w' 32 3 n row b v/\bA w w':=by
 have H:=eE h;clear h
 cases b with
 |none=>
  obtain rfl:n=0:=H.out.nil;have q1:=ang;go_enter (fx ao ep),eq;go_wp2;go_ret;exact⟨_,rfl,Clo.nil rfl,eD _ _⟩
 |some A=>
  have q1:=aaO;have a:=eE ((eD w.heap.size w).alloc (cq _) (iB #[] 32));go_enter (fx ao ep),eq
  go_wp2_with (at_builtin;refine j7 VN VO rfl ao ao rfl _ _ rfl w.heap.size w.heap.size rfl (au w (iB #[] 32)) (cq _) A n c row rfl H.out.len (H.out.on a.out).add H.out.one H.out.le ?_;intro v' w2 d hv f)
  go_ret;exact⟨_,rfl,Clo.of d hv,a.out.trans f⟩
def tC(k off n c:Nat)(a:List ad)(w:ac)(hl:a.length=n*1)(hc:∀j u,a[j]?=some u->w.cell? ⟨k,off+j,none⟩=some u)(d:∀u∈a,u.oneCell'=true)(f:n<=1000)(g:k<w.heap.size) :
 ag PL 35 #[jk (some ⟨k,off,none⟩) n c] w λe w'=>∃v,e=kq v/\v≠jk none 0 0/\w'.ownsRow w.heap.size 3 1 v n a/\bA w w':=by
 have h:=eE hc;have q1:=aaK;clear hc;have b:=eE ((eD w.heap.size w).alloc (cq _) (iB #[] 3));go_enter (fx ao d9),ec
 go_wp2_with (at_builtin;refine ga VF VG rfl ao ao rfl _ _ rfl w.heap.size w.heap.size rfl (au w (iB #[] 3)) (cq _) k off n c a rfl hl (λj u e=>(b.out.cell (p:=⟨k,off+j,none⟩) g).trans (h.out j u e)) d f ?_;intro v' w2 i hv l)
 go_ret;exact⟨_,rfl,hv,i,b.out.trans l⟩
def dJ{W:ac}{b b' e m n:Nat}{v:ad}{l:List ad}(h:W.ownsRow b e m v n l)(hb:b'<=b):W.ownsRow b' e m v n l:=by
 obtain⟨c,h⟩:=h
 rcases h with h|⟨g,cap,a,e1,d,hg,f⟩
 .exact⟨c,kt h⟩
 .exact⟨c,kv ⟨g,cap,a,e1,cQ hb d,hg,f⟩⟩
def iu{W:ac}{a b:Nat}{x y:Array ad}{t u:aJ}(h:W.heap[a]?=some (iB x t))(k:W.heap[b]?=some (iB y u))(c:t≠u):a≠b:=λe=>by
 grind
def Fe{W:ac}{b o:Nat}{v:ad}{c:Array ad}{t:aJ}(h:W.heap[b]?=some (iB c t)):(W.setCell ⟨b,o,none⟩ v).heap[b]?=some (iB (c.setIfInBounds o v) t):=by
 simp only[eN,fi,if_pos,h,kb];rfl
def aZ{W:ac}{b o k:Nat}{v:ad}(h:b≠k):(W.setCell ⟨b,o,none⟩ v).heap[k]?=W.heap[k]?:=by
 simp only[eN,fi,if_neg h]
def nC{W:ac}{r:Nat}{x0 x1 x2 x3 x4 a u0 u1 u2 u3 u4 u5:ad}{t:aJ}(h:W.heap[r]?=some (iB #[x0,x1,x2,x3,x4,a] t)):((((((W.setCell ⟨r,0,none⟩ u0).setCell ⟨r,1,none⟩ u1).setCell ⟨r,2,none⟩ u2).setCell ⟨r,3,none⟩ u3).setCell ⟨r,4,none⟩ u4).setCell ⟨r,5,none⟩ u5).heap[r]?=some (iB #[u0,u1,u2,u3,u4,u5] t):=by
 simp only[eN,fi,if_pos,h,kb];rfl
def cM{W:ac}{r b:Nat}{u0 u1 u2 u3 u4 u5:ad}(hb:b≠r):((((((W.setCell ⟨r,0,none⟩ u0).setCell ⟨r,1,none⟩ u1).setCell ⟨r,2,none⟩ u2).setCell ⟨r,3,none⟩ u3).setCell ⟨r,4,none⟩ u4).setCell ⟨r,5,none⟩ u5).heap[b]?=W.heap[b]?:=by
 simp only[eN,fi,if_neg (Ne.symm hb)]
def wJ{W:ac}{K o x:Nat}{v:ad}{cur:Array ad}{t:aJ}(h:W.heap[K]?=some (iB cur t))(a:o<cur.size):(W.setCell ⟨K,o,none⟩ v).cell? ⟨K,x,none⟩=if x=o then some v else W.cell? ⟨K,x,none⟩:=by
 simp only[eQ,Fe h,h,Array.getElem?_setIfInBounds];grind
def alD{W:ac}{K o b x:Nat}{v:ad}(hb:K≠b):(W.setCell ⟨K,o,none⟩ v).cell? ⟨b,x,none⟩=W.cell? ⟨b,x,none⟩:=by
 simp only[eQ,aZ hb]
def anh{a b:Type}(f:a->List b)(m:Nat)(c:∀x,(f x).length=m)(l:List a)(i j:Nat)(hi:i<l.length)(d:j<m):(l.flatMap f)[i*m+j]?=(f l[i])[j]?:=by
 induction l generalizing i with
 |nil=>cases hi
 |cons x l e=>
  rw[gG]
  match i with
  |0=>grind
  |i+1=>
   grind
def rowOf(f:Nat->List ad)(n:Nat):List ad:=(gc n).flatMap f
def abJ{f:Nat->List ad}{n m i j:Nat}(a:∀i,(f i).length=m)(hi:i<n)(b:j<m):(rowOf f n)[i*m+j]?=(f i)[j]?:=by
 have:=anh f m a (gc n) i j (by simpa using hi) b;unfold rowOf;simpa using this
def R1{f:Nat->List ad}{m:Nat}(a:∀i,(f i).length=m)(n:Nat):(rowOf f n).length=n*m:=by
 have:∀l:List Nat,(l.flatMap f).length=l.length*m:=λl=>by
  induction l with
  |nil=>simp
  |cons x l b=>grind
 unfold rowOf;rw[this,List.length_range]
def b7(w:ac)(k o n m:Nat)(f:Nat->List ad):Prop:=∀i,i<n->∀q,q<m->w.cell? ⟨k,o+i*m+q,none⟩=(f i)[q]?
def b7.get{w:ac}{k o n m:Nat}{f:Nat->List ad}(c:∀i,(f i).length=m)(hc:b7 w k o n m f):∀j u,(rowOf f n)[j]?=some u->w.cell? ⟨k,o+j,none⟩=some u:=λj u e=>by
 have a:=(List.getElem?_eq_some_iff.1 e).1;rw[R1 c]at a;have b:0<m:=Nat.pos_of_ne_zero λh=>by subst h;simp at a
 obtain⟨i,q,hi,d,rfl⟩:∃i q,i<n/\q<m/\j=i*m+q:=⟨j / m,j % m,Nat.div_lt_of_lt_mul (by rw[da];exact a),Nat.mod_lt j b,by rw[da];exact(Nat.div_add_mod j m).symm⟩
 rw[abJ c hi d]at e;rw[<-co];exact(hc i hi q d).trans e
def G0.mk'{w:ac}{b:Option bL}{k o n m:Nat}{f:Nat->List ad}(a:∀i,(f i).length=m)(c:n<=1000)(d:∀i,∀u∈f i,u.oneCell'=true)(hs:0<n->b=some ⟨k,o,none⟩)(e:0<n->k<w.heap.size)(hc:b7 w k o n m f):G0 w b n m (rowOf f n):=by
 refine⟨R1 a n,c,λu g=>?_,λh=>⟨k,o,hs h,e h,hc.get a⟩⟩;obtain⟨i,_,h⟩:=List.mem_flatMap.1 g;exact d i u h
def b7.of{W:ac}{g n m e:Nat}{f:Nat->List ad}{cur:Array ad}(a:∀i,(f i).length=m)(h:W.heap[g]?=some (iB cur e))(b:cur.toList.take (n*m)=rowOf f n):b7 W g 0 n m f/\n*m<=cur.size:=by
 have hl:=congrArg gL b;rw[R1 a,List.length_take,fm]at hl;refine⟨λi hi q c=>?_,ab⟩;have d:i*m+q<n*m:=by
  have:i*m+m<=n*m:=by rw[<-db];exact dd m hi
  omega
 rw[<-abJ a hi c,<-b,f7 d,cv];simp[eQ,h]
def ani(x:Int×Int):List ad:=[i9 jz x.1,i9 jz x.2]
def ahm(x:Int×Int×Int):List ad:=[i9 jz x.1,i9 jz x.2.1,i9 jz x.2.2]
def acz(x:ByteArray×Int×Int):List ad:=[jf x.1,i9 jz x.2.1,i9 jz x.2.2]
def F5(x:iJ):List ad:=jf x.name::((gc 10).map λj=>i9 jz (x.n (j+1)))++[jk x.lb x.ln x.lc]
def abm(x:iJ)(j:Nat):List ad:=[i9 jz (x.lane j)]
def H8(x:iJ):(F5 x).length=12:=by simp[F5]
def R9(x:iJ){q:Nat}(a:1<=q)(b:q<=10):(F5 x)[q]?=some (i9 jz (x.n q)):=by
 obtain⟨q,rfl⟩:∃k,q=k+1:=⟨q-1,ab⟩
 have hl:q<10:=ab;simp[F5,gt,hl]
def aeP(x:iJ):∀u∈F5 x,u.oneCell'=true:=by
 intro u h;simp only[F5,g7,fJ,List.mem_append,gB,fP,or_false]at h
 rcases h with rfl|⟨j,_,rfl⟩|rfl<;>rfl
structure sx(C:CD)(w:ac):Prop where
 m2:C.n2<=20
 m3:C.n3<=20
 m4:C.n4<=20
 m5:C.n5<=20
 h2:C.k2<w.heap.size
 h3:C.k3<w.heap.size
 h4:C.k4<w.heap.size
 h5:C.k5<w.heap.size
 s2:0<C.n2->C.b2=some ⟨C.k2,C.o2,none⟩
 s3:0<C.n3->C.b3=some ⟨C.k3,C.o3,none⟩
 s4:0<C.n4->C.b4=some ⟨C.k4,C.o4,none⟩
 s5:0<C.n5->C.b5=some ⟨C.k5,C.o5,none⟩
 r2:b7 w C.k2 C.o2 C.n2 2 λi=>ani (C.x2 i)
 r3:b7 w C.k3 C.o3 C.n3 3 λi=>ahm (C.x3 i)
 r4:b7 w C.k4 C.o4 C.n4 12 λi=>F5 (C.x4 i)
 r5:b7 w C.k5 C.o5 C.n5 3 λi=>acz (C.x5 i)
 cu:∀i,i<C.n4->(C.x4 i).name.size<=100/\(C.x4 i).ln<=20
 nm5:∀i,i<C.n5->(C.x5 i).1.size<=100
 l4:∀i,i<C.n4->0<(C.x4 i).ln->(C.x4 i).lb=some ⟨(C.x4 i).lk,(C.x4 i).lo,none⟩/\(C.x4 i).lk<w.heap.size
 rl:∀i,i<C.n4->b7 w (C.x4 i).lk (C.x4 i).lo (C.x4 i).ln 1 (abm (C.x4 i))
def CD.At.rows{C:CD}{w:ac}(h:C.At w):sx C w:=by
 obtain⟨m2,m3,m4,m5,h2,h3,h4,h5,s2,s3,s4,s5,Ep,Er,Es,Et,Eu,cu,AD,dB,nj,l4,J5,nm5,FI,HU,J6⟩:=h;refine⟨m2,m3,m4,m5,h2,h3,h4,h5,s2,s3,s4,s5,λi hi q a=>?_,λi hi q a=>?_,λi hi q a=>?_,λi hi q a=>?_,cu,nm5,l4,λi hi j b q a=>?_⟩
 .match q,a with
  |0,_=>exact Ep i hi
  |1,_=>exact Er i hi
 .match q,a with
  |0,_=>exact Es i hi
  |1,_=>exact Et i hi
  |2,_=>exact Eu i hi
 .by_cases c:q=0
  .subst c;exact AD i hi
  .by_cases d:q=11
   .subst d;exact nj i hi
   .rw[R9 _ ab ab];grind
 .match q,a with
  |0,_=>exact FI i hi
  |1,_=>exact HU i hi
  |2,_=>exact J6 i hi
 .obtain rfl:q=0:=ab;have:=J5 i hi j b;rw[df];exact this
def sx.at_{C:CD}{w:ac}(h:sx C w):C.At w:=by
 obtain⟨m2,m3,m4,m5,h2,h3,h4,h5,s2,s3,s4,s5,r2,r3,r4,r5,cu,nm5,l4,rl⟩:=h
 exact⟨m2,m3,m4,m5,h2,h3,h4,h5,s2,s3,s4,s5,λi hi=>r2 i hi 0 ab,λi hi=>r2 i hi 1 ab,λi hi=>r3 i hi 0 ab,λi hi=>r3 i hi 1 ab,λi hi=>r3 i hi 2 ab,cu,λi hi=>r4 i hi 0 ab,
  λi hi j a h2=>(r4 i hi j ab).trans (R9 _ a h2),λi hi=>r4 i hi 11 ab,l4,λi hi j b=>by have:=rl i hi j b 0 ab;rw[df]at this;exact this,nm5,λi hi=>r5 i hi 0 ab,λi hi=>r5 i hi 1 ab,λi hi=>r5 i hi 2 ab⟩
abbrev CD.apt(C:CD):List ad:=rowOf (λi=>ani (C.x2 i)) C.n2
abbrev CD.apu(C:CD):List ad:=rowOf (λi=>ahm (C.x3 i)) C.n3
abbrev CD.ac3(C:CD):List ad:=rowOf (λi=>F5 (C.x4 i)) C.n4
abbrev CD.adP(C:CD):List ad:=rowOf (λi=>acz (C.x5 i)) C.n5
def CD.alE(C:CD){i j:Nat}(hi:i<C.n4)(a:j<12):C.ac3[i*12+j]?=(F5 (C.x4 i))[j]?:=abJ (λ_=>H8 _) hi a
def CD.abK(C:CD):C.ac3.length=C.n4*12:=R1 (λ_=>H8 _) _
def sx.asQ{C:CD}{w:ac}(h:sx C w):G0 w C.b2 C.n2 2 C.apt:=.mk' (λ_=>rfl) (cQ h.m2 ao) (λi u a=>by simp only[ani,fJ,fP,or_false]at a;rcases a with rfl|rfl<;>rfl) h.s2 (λ_=>h.h2) h.r2
def sx.asR{C:CD}{w:ac}(h:sx C w):G0 w C.b3 C.n3 3 C.apu:=.mk' (λ_=>rfl) (cQ h.m3 ao) (λi u a=>by simp only[ahm,fJ,fP,or_false]at a;rcases a with rfl|rfl|rfl<;>rfl) h.s3 (λ_=>h.h3) h.r3
def sx.apv{C:CD}{w:ac}(h:sx C w):G0 w C.b4 C.n4 12 C.ac3:=.mk' (λ_=>H8 _) (cQ h.m4 ao) (λi=>aeP _) h.s4 (λ_=>h.h4) h.r4
def sx.asS{C:CD}{w:ac}(h:sx C w):G0 w C.b5 C.n5 3 C.adP:=.mk' (λ_=>rfl) (cQ h.m5 ao) (λi u a=>by simp only[acz,fJ,fP,or_false]at a;rcases a with rfl|rfl|rfl<;>rfl) h.s5 (λ_=>h.h5) h.r5
def sx.asT{C:CD}{w:ac}(h:sx C w){i:Nat}(hi:i<C.n4):G0 w (C.x4 i).lb (C.x4 i).ln 1 (rowOf (abm (C.x4 i)) (C.x4 i).ln):=.mk' (λ_=>rfl) (cQ (h.cu i hi).2 ao) (λj u a=>by simp only[abm,List.mem_singleton]at a;subst a;rfl) (λhl=>(h.l4 i hi hl).1) (λhl=>(h.l4 i hi hl).2) (h.rl i hi)
def CD.At.ac3{C:CD}{w:ac}(h:C.At w):∀j u,C.ac3[j]?=some u->w.cell? ⟨C.k4,C.o4+j,none⟩=some u:=by
 intro j u e;by_cases h4:0<C.n4
 .obtain⟨k,o,hb,_,hc⟩:=h.rows.apv.cells h4;rw[h.s4 h4]at hb;cases hb;exact hc j u e
 .have:=(List.getElem?_eq_some_iff.1 e).1;rw[C.abK]at this;omega
structure abL(x y:iJ):Prop where
 name:y.name=x.name
 n:y.n=x.n
 ln:y.ln=x.ln
 lane:y.lane=x.lane
 nil:x.lb=none->x.lc=0->y.lb=none/\y.lc=0
def Typ(W:ac)(k e:Nat):Prop:=∃a,W.heap[k]?=some (iB a e)
def Typ.on{W a:ac}{k e:Nat}(h:Typ W k e)(b:bA W a):Typ a k e:=h.imp λ_ h=>(b.block _ (eF h)).trans h
def Typ.ne{W:ac}{k k' e e':Nat}(h:Typ W k e)(a:Typ W k' e')(b:e≠e'):k≠k':=by
 obtain⟨_,h⟩:=h;obtain⟨_,a⟩:=a;exact iu h a b
theorem Typ.set{W:ac}{k e K o:Nat}{v:ad}(h:Typ W k e):Typ (W.setCell ⟨K,o,none⟩ v) k e:=by
 obtain⟨c,h⟩:=h;by_cases a:K=k
 .subst a;exact⟨_,Fe h⟩
 .exact⟨c,(aZ a).trans h⟩
structure nk(n0 i:Nat)(D:CD)(W:ac):Prop where
 mem:sx D W
 t2:0<D.n2->Typ W D.k2 56
 t3:0<D.n3->Typ W D.k3 94
 t4:n0<=D.k4/\D.o4=0/\∃cur,W.heap[D.k4]?=some (iB cur 88)/\D.n4*12<=cur.size
 t5:0<D.n5->n0<=D.k5/\D.o5=0/\∃cur,W.heap[D.k5]?=some (iB cur 32)/\D.n5*3<=cur.size
 tl:∀j,j<D.n4->0<(D.x4 j).ln->(j<i->Typ W (D.x4 j).lk 3)/\(i<=j->(D.x4 j).lk<n0)
def sx.on{C:CD}{w W:ac}(h:sx C w)(a:bA w W):sx C W:=(h.at_.below a).rows
def nk.on{n0 i:Nat}{D:CD}{W c:ac}(h:nk n0 i D W)(b:bA W c):nk n0 i D c:=
 ⟨h.mem.on b,λa=>(h.t2 a).on b,λa=>(h.t3 a).on b,⟨h.t4.1,h.t4.2.1,h.t4.2.2.imp λ_ k=>⟨(b.block _ (eF k.1)).trans k.1,k.2⟩⟩,
   λa=>⟨(h.t5 a).1,(h.t5 a).2.1,(h.t5 a).2.2.imp λ_ k=>⟨(b.block _ (eF k.1)).trans k.1,k.2⟩⟩,λj d hl=>⟨λhi=>((h.tl j d hl).1 hi).on b,(h.tl j d hl).2⟩⟩
def b7.other{W:ac}{K O k o n m:Nat}{v:ad}{f:Nat->List ad}(h:b7 W k o n m f)(a:0<n->K≠k):b7 (W.setCell ⟨K,O,none⟩ v) k o n m f:=λi hi q b=>(alD (a ab)).trans (h i hi q b)
def b7.put{W:ac}{K n m p r:Nat}{v:ad}{f g:Nat->List ad}{cur:Array ad}{t:aJ}(h:b7 W K 0 n m f)(d:W.heap[K]?=some (iB cur t))(hs:n*m<=cur.size)(j:p<n)(b:r<m)(k:∀i,i≠p->g i=f i)(s:∀q,q<m->(g p)[q]?=if q=r then some v else(f p)[q]?):b7 (W.setCell ⟨K,p*m+r,none⟩ v) K 0 n m g:=λi hi q a=>by
 have key:∀i,i<n->∀q,q<m->i*m+q<n*m:=λi hi q a=>by
  have:i*m+m<=n*m:=by rw[<-db];exact dd m hi
  omega
 have c:=h i hi q a;rw[cv]at c⊢;rw[wJ d (by have:=key p j r b;omega)];by_cases e:i=p
 .grind
 .rw[k i e,if_neg ?_,c];intro l;have o:(i*m+q) / m=(p*m+r) / m:=by rw[l]
  rw[da i,da p,dk ab,dk ab,dp a,dp b]at o;exact e ab
def nk.asU{n0 i:Nat}{D:CD}{W:ac}(h:nk n0 i D W){p:Nat}(s:p<D.n5)(d:Int):nk n0 i { D with x5:=λj=>if j=p then((D.x5 j).1,(D.x5 j).2.1,d) else D.x5 j } (W.setCell ⟨D.k5,p*3+2,none⟩ (i9 jz d)):=by
 have l:0<D.n5:=ab;obtain⟨t,n,u,hc,hs⟩:=h.t5 l;have T5:Typ W D.k5 32:=⟨_,hc⟩
 have r:Typ W D.k4 88:=h.t4.2.2.imp λ_ k=>k.1;have m:=h.mem;have o:b7 W D.k5 0 D.n5 3 λi=>acz (D.x5 i):=n▸m.r5;have v:∀j,j<D.n4->0<(D.x4 j).ln->D.k5≠(D.x4 j).lk:=λj g hl=>by
  by_cases w:j<i
  .exact T5.ne ((h.tl j g hl).1 w) ao
  .have:=(h.tl j g hl).2 ab;omega
 refine⟨⟨m.m2,m.m3,m.m4,m.m5,by rw[eS];exact m.h2,by rw[eS];exact m.h3,by rw[eS];exact m.h4,by rw[eS];exact m.h5,m.s2,m.s3,m.s4,m.s5,m.r2.other λl=>T5.ne (h.t2 l) ao,m.r3.other λl=>T5.ne (h.t3 l) ao,m.r4.other λ_=>T5.ne r ao,?_,m.cu,λj g=>?_,λj g hl=>⟨(m.l4 j g hl).1,by rw[eS];exact(m.l4 j g hl).2⟩,λj g=>(m.rl j g).other λhl=>v j g hl⟩,λl=>(h.t2 l).set,λl=>(h.t3 l).set,?_,λ_=>⟨t,n,_,Fe hc,aS⟩,λj g hl=>⟨λhi=>((h.tl j g hl).1 hi).set,(h.tl j g hl).2⟩⟩
 .show b7 _ D.k5 D.o5 D.n5 3 _;rw[n];refine o.put hc hs s ao (λj g=>?_) (λq x=>?_)
  .grind
  .show(acz (if p=p then _ else _))[q]?=_;rw[if_pos rfl]
   match q,x with
   |0,_=>rfl
   |1,_=>rfl
   |2,_=>rfl
 .show(if j=p then((D.x5 j).1,(D.x5 j).2.1,d) else D.x5 j).1.size<=100;split
  .exact m.nm5 j g
  .exact m.nm5 j g
 .obtain⟨a,b,c,e,f⟩:=h.t4;exact⟨a,b,c,(aZ (T5.ne r ao)).trans e,f⟩
def nk.asV{n0 i l:Nat}{D:CD}{W:ac}(h:nk n0 i D W){f:Nat->iJ}{p r:Nat}{v:ad}(y:p<D.n4)(z:r<12)(o:∀j,j≠p->f j=D.x4 j)(A:∀q,q<12->(F5 (f p))[q]?=if q=r then some v else(F5 (D.x4 p))[q]?)
 (d:(f p).name=(D.x4 p).name/\(f p).ln=(D.x4 p).ln) (hl:0<(f p).ln->(f p).lb=some ⟨(f p).lk,(f p).lo,none⟩/\(f p).lk<W.heap.size) (s:b7 W (f p).lk (f p).lo (f p).ln 1 (abm (f p))) (t:∀j,j<D.n4->0<(f j).ln->(j<l->Typ W (f j).lk 3)/\(l<=j->(f j).lk<n0)) :
 nk n0 l { D with x4:=f } (W.setCell ⟨D.k4,p*12+r,none⟩ v):=by
 obtain⟨B,u,C,hc,hs⟩:=h.t4;have n:Typ W D.k4 88:=⟨_,hc⟩
 have m:=h.mem;have w:b7 W D.k4 0 D.n4 12 λi=>F5 (D.x4 i):=u▸m.r4;have E:∀j,j<D.n4->0<(f j).ln->D.k4≠(f j).lk:=λj g hl=>by
  by_cases F:j<l
  .exact n.ne ((t j g hl).1 F) ao
  grind
 have T5:0<D.n5->D.k4≠D.k5:=λd=>n.ne ((h.t5 d).2.2.imp λ_ k=>k.1) ao;refine⟨⟨m.m2,m.m3,m.m4,m.m5,by rw[eS];exact m.h2,by rw[eS];exact m.h3,by rw[eS];exact m.h4,by rw[eS];exact m.h5,m.s2,m.s3,m.s4,m.s5,m.r2.other λd=>n.ne (h.t2 d) ao,m.r3.other λd=>n.ne (h.t3 d) ao,?_,m.r5.other T5,λj g=>?_,m.nm5,λj g hl=>?_,λj g=>?_⟩,λd=>(h.t2 d).set,λd=>(h.t3 d).set,⟨B,u,_,Fe hc,aS⟩,λd=>?_,λj g hl=>⟨λhi=>((t j g hl).1 hi).set,(t j g hl).2⟩⟩
 .show b7 _ D.k4 D.o4 D.n4 12 _;rw[u];exact w.put hc hs y z (λj g=>aS) A
 .show(f j).name.size<=100/\(f j).ln<=20;by_cases e:j=p
  .subst e;rw[d.1,d.2];exact m.cu j g
  .rw[o j e];exact m.cu j g
 .rw[eS];have x:0<(f j).ln:=hl;show(f j).lb=some ⟨(f j).lk,(f j).lo,none⟩/\(f j).lk<W.heap.size;by_cases e:j=p
  .subst e;exact hl x
  .rw[o j e]at x ⊢;exact m.l4 j g x
 .have:=λhl=>E j g hl;show b7 _ (f j).lk (f j).lo (f j).ln 1 (abm (f j));refine b7.other ?_ this;by_cases e:j=p
  .subst e;exact s
  .rw[o j e];exact m.rl j g
 .obtain⟨a,b,c,e,f⟩:=h.t5 d;exact⟨a,b,c,(aZ (T5 d)).trans e,f⟩
def nk.other{n0 i:Nat}{D:CD}{W:ac}(h:nk n0 i D W){K:Nat}(c:Typ W K 27)(o:Nat)(v:ad)(hl:n0<=K):nk n0 i D (W.setCell ⟨K,o,none⟩ v):=by
 have m:=h.mem;have d:K≠D.k4:=c.ne (h.t4.2.2.imp λ_ k=>k.1) ao;have T5:0<D.n5->K≠D.k5:=λa=>c.ne ((h.t5 a).2.2.imp λ_ k=>k.1) ao;have e:∀j,j<D.n4->0<(D.x4 j).ln->K≠(D.x4 j).lk:=λj b hl=>by
  by_cases f:j<i
  .exact c.ne ((h.tl j b hl).1 f) ao
  .have:=(h.tl j b hl).2 ab;omega
 exact⟨⟨m.m2,m.m3,m.m4,m.m5,by rw[eS];exact m.h2,by rw[eS];exact m.h3,by rw[eS];exact m.h4,by rw[eS];exact m.h5,m.s2,m.s3,m.s4,m.s5,m.r2.other λa=>c.ne (h.t2 a) ao,m.r3.other λa=>c.ne (h.t3 a) ao,m.r4.other λ_=>d,m.r5.other T5,m.cu,m.nm5,λj b hl=>⟨(m.l4 j b hl).1,by rw[eS];exact(m.l4 j b hl).2⟩,λj b=>(m.rl j b).other λhl=>e j b hl⟩,λa=>(h.t2 a).set,λa=>(h.t3 a).set,⟨h.t4.1,h.t4.2.1,h.t4.2.2.imp λ_ k=>⟨(aZ d).trans k.1,k.2⟩⟩,λa=>⟨(h.t5 a).1,(h.t5 a).2.1,(h.t5 a).2.2.imp λ_ k=>⟨(aZ (T5 a)).trans k.1,k.2⟩⟩,λj b hl=>⟨λhi=>((h.tl j b hl).1 hi).set,(h.tl j b hl).2⟩⟩
structure afk where
 B2:Option bL
 K2:Nat
 p2:Nat
 B3:Option bL
 K3:Nat
 p3:Nat
 K4:Nat
 p4:Nat
 B5:Option bL
 K5:Nat
 p5:Nat
abbrev CD.L0(C:CD)(Y:afk)(f:Nat->iJ):CD:=
 { C with b2:=Y.B2,k2:=Y.K2,o2:=0,c2:=Y.p2,b3:=Y.B3,k3:=Y.K3,o3:=0,c3:=Y.p3,b4:=some ⟨Y.K4,0,none⟩,k4:=Y.K4,o4:=0,c4:=Y.p4,x4:=f,b5:=Y.B5,k5:=Y.K5,o5:=0,c5:=Y.p5 }
def abL.refl(x:iJ):abL x x:=⟨rfl,rfl,rfl,rfl,λh k=>⟨h,k⟩⟩
def nk.asX{n0 i g c:Nat}{D:CD}{W:ac}{b':Option bL}(h:nk n0 i D W)(hi:i<D.n4)(hv:(0<(D.x4 i).ln->b'=some ⟨g,0,none⟩/\∃cur,W.heap[g]?=some (iB cur 3)/\cur.toList.take ((D.x4 i).ln*1)=rowOf (abm (D.x4 i)) (D.x4 i).ln)) :
 nk n0 (i+1) { D with x4:=λj=>if j=i then { D.x4 j with lb:=b',lk:=g,lo:=0,lc:=c } else D.x4 j } (W.setCell ⟨D.k4,i*12+11,none⟩ (jk b' (D.x4 i).ln c)):=by
 refine h.asV hi ao (λj a=>if_neg a) (λq l=>?_) aS (λhl=>?_) ?_ (λj a hl=>?_)
 .rw[if_pos rfl];by_cases e:q=11
  .subst e;rfl
  .rw[if_neg e];by_cases d:q=0
   .subst d;rfl
   .rw[R9 _ ab ab,R9 _ ab ab]
 .grind
 .rw[if_pos rfl];by_cases hl:0<(D.x4 i).ln
  .obtain⟨_,cur,b,f⟩:=hv hl;exact(b7.of (m:=1) (λ_=>rfl) b f).1
  .intro j a;grind
 .by_cases e:j=i
  .subst e;rw[if_pos rfl]at hl ⊢;obtain⟨_,cur,b,_⟩:=hv hl;exact⟨λ_=>⟨cur,b⟩,λh=>ab⟩
  .rw[if_neg e]at hl ⊢;exact⟨λk=>(h.tl j a hl).1 ab,λk=>(h.tl j a hl).2 ab⟩
abbrev RX:Array ad:=#[i9 jz 0,i9 jz 0,jk none 0 0,jk none 0 0,jk none 0 0,jk none 0 0]
structure KO(V:Array ad)(w W:ac):Prop where
 box:W.heap[w.heap.size]?=some (iB V 27)
 res:W.heap[w.heap.size+1]?=some (iB RX 27)
 low:bA w W
def KO.on{V:Array ad}{w W b:ac}(h:KO V w W)(a:bA W b):KO V w b:=
 ⟨(a.block _ (eF h.box)).trans h.box,(a.block _ (eF h.res)).trans h.res,eI h.low a⟩
def KO.start(V:Array ad)(w:ac):KO V w ((w.alloc (iB V 27)).alloc (iB RX 27)):=by
 refine⟨?_,?_,((eD _ _).alloc (cq _) _).alloc ar _⟩
 .exact(((eD (w.alloc (iB V 27)).heap.size _).alloc (cq _) _).block _ ar).trans (au w _)
 .have a:=au (w.alloc (iB V 27)) (iB RX 27);rw[eT]at a;exact a
def RY(C:CD)(w:ac)(i:Nat)(vs:Nat->ad)(W:ac):Prop:=
 (i=2->Clo w W 56 2 C.n2 C.apt C.b2 (vs 2))/\(i=5->Clo w W 94 3 C.n3 C.apu C.b3 (vs 5))/\(i=8->Clo w W 88 12 C.n4 C.ac3 C.b4 (vs 8))/\(i=11->Clo w W 32 3 C.n5 C.adP C.b5 (vs 11))
def VP{C:CD}{w W b:ac}{i:Nat}{vs:Nat->ad}(a:bA W b)(h:RY C w i vs W):RY C w i vs b:=
 ⟨λe=>(h.1 e).on a,λe=>(h.2.1 e).on a,λe=>(h.2.2.1 e).on a,λe=>(h.2.2.2 e).on a⟩
def RZ{C:CD}{w W:ac}{i:Nat}{vs b:Nat->ad}(a:vs i=b i)(h:RY C w i vs W):RY C w i b W:=
 ⟨λe=>by subst e;rw[<-a];exact h.1 rfl,λe=>by subst e;rw[<-a];exact h.2.1 rfl,λe=>by subst e;rw[<-a];exact h.2.2.1 rfl,λe=>by subst e;rw[<-a];exact h.2.2.2 rfl⟩
def Clo.pick{w W:ac}{e m n d:Nat}{row:List ad}{b:Option bL}{v:ad}(h:Clo w W e m n row b v)(hd:d<W.heap.size):∃B c K,v=jk B n c/\(b=none->B=none/\c=0)/\K<W.heap.size/\(0<n->B=some ⟨K,0,none⟩/\w.heap.size<=K/\∃cur,W.heap[K]?=some (iB cur e)/\cur.toList.take (n*m)=row):=by
 obtain⟨B,c,hv,a,i⟩:=h;by_cases f:0<n
 .obtain⟨g,cur,a1,a2,a3,a4⟩:=i f;exact⟨B,c,g,hv,a,eF a3,λ_=>⟨a1,a2,cur,a3,a4⟩⟩
 .exact⟨B,c,d,hv,a,hd,λh=>absurd h f⟩
def aay{W:ac}{n m e K:Nat}{B:Option bL}{f:Nat->List ad}{n0:Nat}(a:∀i,(f i).length=m)(h:0<n->B=some ⟨K,0,none⟩/\n0<=K/\∃cur,W.heap[K]?=some (iB cur e)/\cur.toList.take (n*m)=rowOf f n):b7 W K 0 n m f:=by
 by_cases b:0<n
 .obtain⟨_,_,cur,c,d⟩:=h b;exact(b7.of a c d).1
 .intro i hi;omega
def ahn(C:CD)(f:Nat->iJ):Prop:=(∀j,abL (C.x4 j) (f j))/\∀j,j<C.n4->(f j).lo=0
structure KI(C:CD)(Y:afk)(w:ac)(i:Nat)(f:Nat->iJ)(W:ac):Prop where
 box:W.heap[w.heap.size]?=some (iB (C.L0 Y f).val 27)
 res:W.heap[w.heap.size+1]?=some (iB RX 27)
 low:bA w W
 own:nk w.heap.size i (C.L0 Y f) W
 L0:∀j,abL (C.x4 j) (f j)
 old:∀j,i<=j->f j=C.x4 j
 zero:∀j,j<i->(f j).lo=0
def KI.on{C:CD}{Y:afk}{w:ac}{i:Nat}{f:Nat->iJ}{W b:ac}(h:KI C Y w i f W)(a:bA W b):KI C Y w i f b:=
 ⟨(a.block _ (eF h.box)).trans h.box,(a.block _ (eF h.res)).trans h.res,eI h.low a,h.own.on a,h.L0,h.old,h.zero⟩
def KI.lane{C:CD}{Y:afk}{w wr:ac}{i:Nat}{f:Nat->iJ}{W:ac}(h:KI C Y w i f W)(hi:i<C.n4){B:Option bL}{c K:Nat}(l:(f i).lb=none->B=none/\c=0)(d:0<(f i).ln->B=some ⟨K,0,none⟩/\wr.heap.size<=K/\∃cur,W.heap[K]?=some (iB cur 3)/\cur.toList.take ((f i).ln*1)=rowOf (abm (f i)) (f i).ln) :
 KI C Y w (i+1) (λj=>if j=i then { f j with lb:=B,lk:=K,lo:=0,lc:=c } else f j) (W.setCell ⟨Y.K4,i*12+11,none⟩ (jk B (f i).ln c)):=by
 have g:Typ W Y.K4 88:=h.own.t4.2.2.imp λ_ k=>k.1;have m:w.heap.size<=Y.K4:=h.own.t4.1;refine⟨(aZ (g.ne ⟨_,h.box⟩ ao)).trans h.box,(aZ (g.ne ⟨_,h.res⟩ ao)).trans h.res,h.low.setCell (p:=⟨Y.K4,_,none⟩) m _,h.own.asX hi λhl=>⟨(d hl).1,(d hl).2.2⟩,λj=>?_,λj o=>?_,λj o=>?_⟩
 .by_cases e:j=i
  .subst e;rw[if_pos rfl];have k:=h.L0 j;have q:=h.old j (cq _);exact⟨k.name,k.n,k.ln,k.lane,λa b=>l (by rw[q];exact a)⟩
  .rw[if_neg e];exact h.L0 j
 .rw[if_neg ab];exact h.old j ab
 .by_cases e:j=i
  .rw[if_pos e]
  .rw[if_neg e];exact h.zero j ab
def nk.agr{n0 i:Nat}{D:CD}{W:ac}(h:nk n0 i D W){K:Nat}(a:Typ W K 27)(hl:n0<=K)(u0 u1 u2 u3 u4 u5:ad):nk n0 i D ((((((W.setCell ⟨K,0,none⟩ u0).setCell ⟨K,1,none⟩ u1).setCell ⟨K,2,none⟩ u2).setCell ⟨K,3,none⟩ u3).setCell ⟨K,4,none⟩ u4).setCell ⟨K,5,none⟩ u5):=
 (((((h.other a 0 u0 hl).other a.set 1 u1 hl).other a.set.set 2 u2 hl).other a.set.set.set 3 u3 hl).other a.set.set.set.set 4 u4 hl).other a.set.set.set.set.set 5 u5 hl
def alF(C:CD)(w:ac)(h:C.At w)(h4:0<C.n4):ag PL 75 #[jp C.val] w λe w'=>∃Y f,e=kq (jp (C.L0 Y f).val)/\ahn C f/\nk w.heap.size C.n4 (C.L0 Y f) w'/\bA w w':=by
 have HX:Hid (∀W,bA w W->sx C W):=eE λW d=>(h.below d).rows;have HL:Hid (∀j,j<C.n4->0<(C.x4 j).ln->(C.x4 j).lk<w.heap.size):=eE λj L hl=>(h.l4 j L hl).2;have K0:=eE (KO.start C.val w);have m4:=h.m4;clear h;go_enter (fx ao Tryz.func75),Tryz.ntmps75;go_wp2;refine bT ?_;refine cT 13 (KO C.val w) (λW r=>bA W r) (λj=>j % 3 != 2||j==12) (RY C w) rfl ae ae (λ_ _ _ _ D h=>VP D h) (λ_ _ _ _ _ _ he _ h=>RZ he h) ?_ ?_
 .exact K0.out.on (eD _ _).drew
 .simp only[g8,g9]
  iterate 13 (
   first
   |(apply aY
     case hE=>rfl
     case h=>
      intro vs W b hd;obtain⟨s,t,u,y,f4,z⟩:=bf b.box;go_simp;exact⟨rfl,eD _ _⟩
     case hb=>exact KD)
   |(apply eH
     case hE=>rfl
     case h=>
      intro vs W b hd;have Q:=HX.out W b.low;have hs:=b.low.size;go_simp
      first
      |(go_at_call 104;refine(ahi _ _ _ _ _ Q.asQ).mono ?_;rintro e r⟨v,rfl,q,d⟩;exact⟨_,rfl,b.on d,d,⟨(λ_=>q.low hs),(bp),(bp),(bp)⟩⟩)
      |(go_at_call 105;refine(ahj _ _ _ _ _ Q.asR).mono ?_;rintro e r⟨v,rfl,q,d⟩;exact⟨_,rfl,b.on d,d,⟨(bp),(λ_=>q.low hs),(bp),(bp)⟩⟩)
      |(go_at_call 106;refine(ahk _ _ _ _ _ Q.apv).mono ?_;rintro e r⟨v,rfl,q,d⟩;exact⟨_,rfl,b.on d,d,⟨(bp),(bp),(λ_=>q.low hs),(bp)⟩⟩)
      |(go_at_call 107;refine(ahl _ _ _ _ _ Q.asS).mono ?_;rintro e r⟨v,rfl,q,d⟩;exact⟨_,rfl,b.on d,d,⟨(bp),(bp),(bp),(λ_=>q.low hs)⟩⟩)
     case hb=>exact KD))
  refine cP λvs W b hd=>?_;have h2:=((hd 2 ab rfl).1 rfl)
  have h3:=((hd 5 ab rfl).2.1 rfl)
  have M:=((hd 8 ab rfl).2.2.1 rfl)
  have h5:=((hd 11 ab rfl).2.2.2 rfl)
  have A:=eE b;have N:=eF b.box;clear hd b;obtain⟨R,S,K2,e2,_,l2,q2⟩:=h2.pick N;obtain⟨T,U,g,e3,_,l3,q3⟩:=h3.pick N;obtain⟨B4,V,X,e4,_,l4,q4⟩:=M.pick N;obtain⟨B5,Z,K5,e5,_,l5,q5⟩:=h5.pick N;obtain⟨rfl,g4,q4⟩:=q4 h4;rw[e2,e3,e4,e5];obtain⟨Y,hY⟩:=br (⟨R,K2,S,T,g,U,X,V,B5,K5,Z⟩:afk)
  have KK:Hid (KI C Y w 0 C.x4 ((((W.setCell ⟨w.heap.size,2,none⟩ (jk R C.n2 S)).setCell ⟨w.heap.size,3,none⟩ (jk T C.n3 U)).setCell ⟨w.heap.size,4,none⟩ (jk (some ⟨X,0,none⟩) C.n4 V)).setCell ⟨w.heap.size,5,none⟩ (jk B5 C.n5 Z))):=eE (by
   subst hY;have m:=HX.out W A.out.low;have T0:Typ W w.heap.size 27:=⟨_,A.out.box⟩
   have O0:nk w.heap.size 0 (C.L0 ⟨R,K2,S,T,g,U,X,V,B5,K5,Z⟩ C.x4) W:=by
    obtain⟨c4,E,O⟩:=q4;refine⟨⟨m.m2,m.m3,m.m4,m.m5,l2,l3,l4,l5,λn=>(q2 n).1,λn=>(q3 n).1,λ_=>rfl,λn=>(q5 n).1,aay (λ_=>rfl) q2,aay (λ_=>rfl) q3,(b7.of (λ_=>H8 _) E O).1,aay (λ_=>rfl) q5,m.cu,m.nm5,m.l4,m.rl⟩,λn=>(q2 n).2.2.imp λ_ k=>k.1,λn=>(q3 n).2.2.imp λ_ k=>k.1,⟨g4,rfl,c4,E,(b7.of (λ_=>H8 _) E O).2⟩,λn=>?_,λj L hl=>⟨λh=>absurd h (c9 _),λ_=>HL.out j L hl⟩⟩;obtain⟨_,a,c,e,k⟩:=q5 n;exact⟨a,rfl,c,e,(b7.of (m:=3) (λ_=>rfl) e k).2⟩
   have ne:w.heap.size≠w.heap.size+1:=ab;refine⟨Fe (Fe (Fe (Fe A.out.box))),?_,(((A.out.low.setCell (p:=⟨w.heap.size,2,none⟩) (cq _) _).setCell (p:=⟨w.heap.size,3,none⟩) (cq _) _).setCell (p:=⟨w.heap.size,4,none⟩) (cq _) _).setCell (p:=⟨w.heap.size,5,none⟩) (cq _) _,(((O0.other T0 2 _ (cq _)).other T0.set 3 _ (cq _)).other T0.set.set 4 _ (cq _)).other T0.set.set.set 5 _ (cq _),λj=>abL.refl _,λ_ _=>rfl,λj L=>absurd L (c9 _)⟩
   rw[aZ ne,aZ ne,aZ ne,aZ ne];exact A.out.res)
  obtain⟨s,t,u,y,f4,z⟩:=bf A.out.box;have fz:=tO A.out.box;clear h2 h3 M h5 q2 q3 q4 q5 e2 e3 e4 e5 l2 l3 l4 l5 g4;simp only[hh,hk]
  go_upto_region 2 with fail
  refine NoPanic.normal ?_;obtain⟨W1,mG⟩:=br ((((W.setCell ⟨w.heap.size,2,none⟩ (jk R C.n2 S)).setCell ⟨w.heap.size,3,none⟩ (jk T C.n3 U)).setCell ⟨w.heap.size,4,none⟩ (jk (some ⟨X,0,none⟩) C.n4 V)).setCell ⟨w.heap.size,5,none⟩ (jk B5 C.n5 Z));rw[<-mG]at KK ⊢;have P:Hid (W1.heap[w.heap.size]?=some (iB #[i9 jz C.l,i9 jz C.p,jk Y.B2 C.n2 Y.p2,jk Y.B3 C.n3 Y.p3,jk (some ⟨Y.K4,0,none⟩) C.n4 Y.p4,jk Y.B5 C.n5 Y.p5] 27)):=eE KK.out.box;clear mG s t u y f4 z fz N A hY;obtain⟨s,t,u,y,f4,z⟩:=bf P.out
  go_upto_region 3 with fail
  go_loopw [23] (λF wr=>∃(i:Nat)(f:Nat->iJ),i<=C.n4/\F=i9 jz i/\KI C Y w i f wr) (λF _=>C.n4-(intOf F).toNat)
  case atStart=>exact⟨0,C.x4,cm _,rfl,KK.out⟩
  case round=>
   obtain⟨i,f,hi,rfl,hK⟩:=hrel;have g:=eE hK;clear hK s t u y f4 z P KK;have H:Hid (∀W,KI C Y w i f W->W.heap[w.heap.size]?=some (iB #[i9 jz C.l,i9 jz C.p,jk Y.B2 C.n2 Y.p2,jk Y.B3 C.n3 Y.p3,jk (some ⟨Y.K4,0,none⟩) C.n4 Y.p4,jk Y.B5 C.n5 Y.p5] 27)):=eE λW h=>h.box;by_cases aH:i<C.n4
   .have i1:(i:Int)<C.n4:=ab;obtain⟨x,hx⟩:=br (f i);have FL:Hid (∀W,KI C Y w i f W->W.cell? ⟨Y.K4,i*12+11,none⟩=some (jk x.lb x.ln x.lc)):=eE λW h=>by
     have:=h.own.mem.r4 i aH 11 ao;have e:(⟨(C.L0 Y f).k4,(C.L0 Y f).o4+i*12+11,none⟩:bL)=⟨Y.K4,i*12+11,none⟩:=by show(⟨Y.K4,0+i*12+11,none⟩:bL)=_;rw[cv]
     rw[e]at this;rw[this,hx];rfl
    have SL:Hid (∀W,KI C Y w i f W->G0 W x.lb x.ln 1 (rowOf (abm x) x.ln)):=eE λW h=>by rw[hx];exact h.own.mem.asT aH
    have I:=eE hx;clear hx
    go_upto_region 5 with fail
    refine bT ?_;refine cT 10 (λW=>KI C Y w i f W/\wr.heap.size<=W.heap.size) (λW r=>bA W r) (λj=>j != 9) (λj vs W=>j=9->Clo wr W 3 1 x.ln (rowOf (abm x) x.ln) x.lb (vs 9)) rfl ae ae (λ_ _ _ _ D h e=>(h e).on D) (λj _ _ vs eX W he _ h e=>by subst e;rw[<-he];exact h rfl) ?_ ?_
    .exact⟨g.out.on (eD _ _).drew,cq _⟩
    simp only[g8,g9]
    iterate 10 (
     first
     |(apply aY
       case hE=>rfl
       case h=>
        rintro vs W⟨b,Cu⟩hd;obtain⟨s,t,u,y,f4,z⟩:=bf (H.out W b);have fl:=FL.out W b;go_simp
        first
        |exact⟨rfl,b,eD _ _⟩
        |exact⟨rfl,eD _ _⟩
        |exact rfl
       case hb=>exact KD)
     |(apply eH
       case hE=>rfl
       case h=>
        rintro vs W⟨b,Cu⟩hd;have hS:=SL.out W b;go_simp
        (go_at_call 35;refine(ahh _ _ _ _ _ hS).mono ?_;rintro e r⟨v,rfl,q,d⟩;exact⟨_,rfl,⟨b.on d,cQ Cu d.size⟩,d,q.low Cu⟩)
       case hb=>exact KD))
    refine cP λvs W b hd=>?_;obtain⟨b,Cu⟩:=b;have h9:=hd 9 ab rfl rfl;have K4':=eE b;obtain⟨s,t,u,y,f4,z⟩:=bf (H.out W b);have fl:=FL.out W b;have fz:∀o,W.frozen? ⟨Y.K4,o,none⟩=false:=b.own.t4.2.2.elim λ_ k=>tO k.1;obtain⟨B,c,K,e9,h0,_,hq⟩:=h9.pick (eF b.box);rw[e9];have HQ:=eE (And.intro h0 hq);clear h9 hd b e9 h0 hq;simp only[hh,hk]
    go_upto_region 6 with fail
    refine NoPanic.normal ?_;have KN:=eE (K4'.out.lane (B:=B) (c:=c) (K:=K) aH (by rw[<-I.out];exact HQ.out.1) (by rw[<-I.out];exact HQ.out.2));rw[<-I.out]at KN;clear s t u y f4 z fl fz;go_wp2;exact⟨⟨i+1,_,aH,by go_num,KN.out⟩,by simp only[intOf];omega⟩
   .obtain rfl:i=C.n4:=ab;obtain⟨s,t,u,y,f4,z⟩:=bf (H.out _ g.out);have J:=g.out.res;obtain⟨y0,y1,y2,y3,y4,y5⟩:=bf J;have fz:=tO J;have hzr:=eF J;clear J;go_wp2;have J:=g.out.res;have hWF:=nC (u0:=i9 jz C.l) (u1:=i9 jz C.p) (u2:=jk Y.B2 C.n2 Y.p2) (u3:=jk Y.B3 C.n3 Y.p3) (u4:=jk (some ⟨Y.K4,0,none⟩) C.n4 Y.p4) (u5:=jk Y.B5 C.n5 Y.p5) J;refine ai (v:=jp (C.L0 Y f).val) ?_ rfl ⟨Y,f,rfl,⟨g.out.L0,g.out.zero⟩,g.out.own.agr ⟨_,J⟩ (dq _) _ _ _ _ _ _,eM g.out.low ab _ _ _ _ _ _⟩;obtain⟨a0,a1,a2,a3,a4,a5⟩:=bf hWF;simp[aI,Tryz.results75,go_sem,a0,a1,a2,a3,a4,a5]
abbrev CD.aaz(C:CD)(ds:List Int):CD:={ C with x5:=λi=>((C.x5 i).1,(C.x5 i).2.1,ds.getD i (C.x5 i).2.2) }
def nk.zu{n0 a:Nat}{D:CD}{W:ac}(h:nk n0 D.n4 D W)(b:a<=n0):nk a D.n4 D W:=
 ⟨h.mem,h.t2,h.t3,⟨cQ b h.t4.1,h.t4.2⟩,λk=>⟨cQ b (h.t5 k).1,(h.t5 k).2⟩,λj c hl=>⟨(h.tl j c hl).1,λhi=>ab⟩⟩
structure KJ(C:CD)(Y:afk)(f:Nat->iJ)(w:ac)(B:Nat)(ds:List Int)(i:Nat)(W:ac):Prop where
 own:nk w.heap.size C.n4 ((C.aaz (ds.take i)).L0 Y f) W
 box:W.heap[B]?=some (iB (C.L0 Y f).val 27)
 res:W.heap[w.heap.size+1]?=some (iB RX 27)
 low:bA w W
def alG(C:CD)(ds:List Int){i:Nat}(hi:i<ds.length):(λj=>if j=i then(((C.aaz (ds.take i)).x5 j).1,((C.aaz (ds.take i)).x5 j).2.1,ds.getD i 0) else(C.aaz (ds.take i)).x5 j)=(C.aaz (ds.take (i+1))).x5:=by
 funext j;by_cases e:j=i
 .subst e;rw[if_pos rfl];simp[f6,gw,hi]
 .rw[if_neg e];simp only[f6,gw];by_cases h:j<i
  .rw[if_pos h,if_pos ab]
  .rw[if_neg h,if_neg ab]
def KJ.next{C:CD}{Y:afk}{f:Nat->iJ}{w:ac}{B:Nat}{ds:List Int}{i:Nat}{W:ac}(h:KJ C Y f w B ds i W)(hi:i<ds.length)(a:i<C.n5):KJ C Y f w B ds (i+1) (W.setCell ⟨Y.K5,i*3+2,none⟩ (i9 jz (ds.getD i 0))):=by
 have b:0<C.n5:=ab;obtain⟨c,_,d,hc,_⟩:=h.own.t5 b;have o:=h.own.asU a (ds.getD i 0);have e:=alG C ds hi;refine⟨?_,(aZ (iu hc h.box ao)).trans h.box,(aZ (iu hc h.res ao)).trans h.res,h.low.setCell (p:=⟨Y.K5,_,none⟩) c _⟩;rw[show((C.aaz (ds.take (i+1))).L0 Y f)={ (C.aaz (ds.take i)).L0 Y f with x5:=(C.aaz (ds.take (i+1))).x5 } from rfl,<-e];exact o
def abu(C:CD)(ds:List Int)(v:ad)(w:ac)(h:C.At w)(X:0<C.n4)(hv:bB w v ds)(hd:ds.length<=C.n5):ag PL 52 #[jp C.val,v] w λe w'=>∃Y f,e=kq (jp (C.L0 Y f).val)/\ahn C f/\nk w.heap.size C.n4 ((C.aaz ds).L0 Y f) w'/\bA w w':=by
 obtain⟨b,c,rfl,N⟩:=hv;obtain⟨q,s,t⟩:∃q s,0<ds.length->b=some ⟨q,s,none⟩/\q<w.heap.size/\∀j,j<ds.length->w.cell? ⟨q,s+j,none⟩=some (i9 jz (ds.getD j 0)):=by
  by_cases r:0<ds.length
  .obtain⟨k,o,e,Z,hc⟩:=N r;exact⟨k,o,λ_=>⟨e,Z,λj hj=>hc j ab⟩⟩
  .exact⟨0,0,λh=>absurd h r⟩
 have O:=eE t;have m5:=h.m5;have OW:Hid (∀W,bA w W->ag PL 75 #[jp C.val] W λe w'=>∃Y f,e=kq (jp (C.L0 Y f).val)/\ahn C f/\nk W.heap.size C.n4 (C.L0 Y f) w'/\bA W w'):=eE λW hB=>alF C W (h.below hB) X;have d:=eE (KO.start C.val w);obtain⟨n,r⟩:=br ds.length;rw[<-r]at O ⊢;have hd':n<=C.n5:=ab;have P:=eE r;clear h N t r hd;go_enter (fx ao Tryz.func52),Tryz.ntmps52
 go_upto_region 1 with fail
 obtain⟨f0,f1,f2,f3,f4,f5⟩:=bf d.out.box;have Q:=eF d.out.res
 go_upto_region 2 with(go_at_call 75;refine(OW.out _ d.out.low).mono ?_;rintro e w1⟨Y,f,rfl,u,R,A⟩;have HP:=eE u;have HO:=eE R;have z:=eE A;clear u R)
 have B:Hid (KJ C Y f w w1.heap.size ds 0 (w1.alloc (iB (C.L0 Y f).val 27))):=eE (by
  have E:bA w1 (w1.alloc (iB (C.L0 Y f).val 27)):=(eD _ _).alloc (cq _) _;refine⟨?_,au _ _,((z.out.trans (E.mono z.out.size)).block _ Q).trans d.out.res,d.out.low.trans ((z.out.trans (E.mono z.out.size)).mono d.out.low.size)⟩;rw[g9]
  exact nk.zu (D:=C.L0 Y f) (HO.out.on E) d.out.low.size)
 obtain⟨F,H⟩:=br (w1.alloc (iB (C.L0 Y f).val 27));have Z1:w.heap.size+1<w1.heap.size:=ci Q A.size;rw[<-H]at B;rw[show w1.alloc (iB #[i9 jz C.l,i9 jz C.p,jk Y.B2 C.n2 Y.p2,jk Y.B3 C.n3 Y.p3,jk (some ⟨Y.K4,0,none⟩) C.n4 Y.p4,jk Y.B5 C.n5 Y.p5] 27)=F from H.symm];clear H f0 f1 f2 f3 f4 f5 A;have BX:Hid (∀i W,KJ C Y f w w1.heap.size ds i W->W.heap[w1.heap.size]?=some (iB #[i9 jz C.l,i9 jz C.p,jk Y.B2 C.n2 Y.p2,jk Y.B3 C.n3 Y.p3,jk (some ⟨Y.K4,0,none⟩) C.n4 Y.p4,jk Y.B5 C.n5 Y.p5] 27)):=eE λi W h=>h.box
 go_upto_region 3 with fail
 go_loopw [12] (λg wr=>∃i:Nat,i<=n/\g=i9 jz i/\KJ C Y f w w1.heap.size ds i wr) (λg _=>n-(intOf g).toNat)
 case atStart=>exact⟨0,cm _,rfl,B.out⟩
 case round=>
  obtain⟨i,hi,rfl,S⟩:=hrel;have a:=eE S;clear S B;obtain⟨g0,g1,g2,g3,g4,g5⟩:=bf (BX.out _ _ a.out);by_cases I:i<n
  .have i1:(i:Int)<n:=ab;have i5:(i:Int)<C.n5:=ab;obtain⟨rfl,VQ,T⟩:=O.out ab;obtain⟨x,J⟩:=br (ds.getD i 0);have ed:wr.cell? ⟨q,s+i,none⟩=some (i9 jz x):=by rw[J];exact(a.out.low.cell (p:=⟨q,s+i,none⟩) VQ).trans (T i I)
   have y:=eE J;have U:Y.B5=some ⟨Y.K5,0,none⟩:=a.out.own.mem.s5 (by show 0<C.n5;omega);rw[U]at g5;obtain⟨_,_,K,hc,_⟩:=a.out.own.t5 (by show 0<C.n5;omega);have hc:wr.heap[Y.K5]?=some (iB K 32):=hc;have fz:=tO hc;obtain⟨V,hdd⟩:∃V,wr.cell? ⟨Y.K5,i*3+2,none⟩=some (i9 jz V):=by
    have:=a.out.own.mem.r5 i (by show i<C.n5;omega) 2 ao;have e:(⟨((C.aaz (ds.take i)).L0 Y f).k5,((C.aaz (ds.take i)).L0 Y f).o5+i*3+2,none⟩:bL)=⟨Y.K5,i*3+2,none⟩:=by show(⟨Y.K5,0+i*3+2,none⟩:bL)=_;rw[cv]
    rw[e]at this;exact⟨_,this⟩
   have KN:=eE (a.out.next (by rw[<-P.out];exact I) ab);rw[<-y.out]at KN;clear J T hc U y;go_wp2;exact⟨⟨i+1,I,by go_num,KN.out⟩,by simp only[intOf];omega⟩
  .obtain rfl:i=n:=ab;have m:=a.out.res;obtain⟨y0,y1,y2,y3,y4,y5⟩:=bf m;have fz:=tO m;have hzr:=eF m;clear m;go_wp2;have m:=a.out.res;have L:=nC (u0:=i9 jz C.l) (u1:=i9 jz C.p) (u2:=jk Y.B2 C.n2 Y.p2) (u3:=jk Y.B3 C.n3 Y.p3) (u4:=jk (some ⟨Y.K4,0,none⟩) C.n4 Y.p4) (u5:=jk Y.B5 C.n5 Y.p5) m;have M:=a.out.own;rw[P.out,List.take_length]at M;refine ai (v:=jp (C.L0 Y f).val) ?_ rfl ⟨Y,f,rfl,HP.out,M.agr ⟨_,m⟩ (dq _) _ _ _ _ _ _,eM a.out.low ab _ _ _ _ _ _⟩;clear M;obtain⟨a0,a1,a2,a3,a4,a5⟩:=bf L;simp[aI,Tryz.results52,go_sem,a0,a1,a2,a3,a4,a5]
def uK{n:Int}(h:bO n 0 12=true)(w:ac):ag PL 51 #[i9 jz n] w λe w'=>e=kq (jn true)/\w=w':=by
 have:=o8 n w;rw[h]at this;exact this.mono λ_ _ k=>⟨k.1,k.2.symm⟩
def afl(C:CD)(ds:List Int)(v:ad)(w:ac)(h:C.At w)(R:0<C.n4)(hc:C.cx=0)(hv:bB w v ds)(hd:ds.length=C.n5)(hb:∀i,i<ds.length->bO (ds.getD i 0) 0 12=true):ag PL 22 #[jp C.val,v] w λe w'=>∃Y f,e=kq (jr #[jp (C.L0 Y f).val,i9 jz 0])/\ahn C f/\nk w.heap.size C.n4 ((C.aaz ds).L0 Y f) w'/\bA w w':=by
 have t:Hid (∀W,bA w W->bB W v ds):=eE λW g=>hv.on g;obtain⟨b,c,rfl,B⟩:=hv;obtain⟨m,n,a⟩:∃m n,0<ds.length->b=some ⟨m,n,none⟩/\m<w.heap.size/\∀j,j<ds.length->w.cell? ⟨m,n+j,none⟩=some (i9 jz (ds.getD j 0)):=by
  by_cases E:0<ds.length
  .obtain⟨k,o,e,S,hc⟩:=B E;exact⟨k,o,λ_=>⟨e,S,λj hj=>hc j ab⟩⟩
  .exact⟨0,0,λh=>absurd h E⟩
 rw[hd]at hb a t ⊢;have T:=eE a;have U:=eE hb;have m5:=h.m5;have V:Hid (∀W,bA w W->ag PL 36 #[jp C.val] W (aO (i9 jz 0) W)):=eE λW g=>sY hc (h.below g);have X:Hid (∀W,bA w W->ag PL 52 #[jp C.val,jk b C.n5 c] W λe w'=>∃Y f,e=kq (jp (C.L0 Y f).val)/\ahn C f/\nk W.heap.size C.n4 ((C.aaz ds).L0 Y f) w'/\bA W w'):=eE λW g=>abu C ds _ W (h.below g) R (t.out W g) (Nat.le_of_eq hd);have u:=eE (KO.start C.val w);clear h hc B a hb hd t;go_enter (fx ao Tryz.func22),Tryz.ntmps22
 go_upto_region 1 with fail
 obtain⟨F,H,I,J,f4,K⟩:=bf u.out.box
 go_upto_region 7 with(go_at_call 36;refine(V.out _ u.out.low).mono ?_;rintro e w1⟨rfl,L⟩;have q:=eE (u.out.on L);clear L F H I J f4 K;obtain⟨F,H,I,J,f4,K⟩:=bf q.out.box)
 go_loop [24] (λd=>∃i:Nat,i<=C.n5/\d=i9 jz i) (λd=>C.n5-(intOf d).toNat)
 case atStart=>exact⟨0,cm _,rfl⟩
 case round=>
  obtain⟨i,hi,rfl⟩:=hrel;by_cases y:i<C.n5
  .have Z:(i:Int)<C.n5:=ab;obtain⟨rfl,VQ,M⟩:=T.out ab;obtain⟨x,z⟩:=br (ds.getD i 0);have ed:w1.cell? ⟨m,n+i,none⟩=some (i9 jz x):=by rw[z];exact(q.out.low.cell (p:=⟨m,n+i,none⟩) VQ).trans (M i y)
   have jM:Hid (bO x 0 12=true):=eE (by rw[z];exact U.out i y);clear z M
   go_wp2_with (go_at_call 51;refine(uK jM.out _).mono ?_;rintro e w'⟨rfl,rfl⟩)
   exact⟨⟨i+1,y,by go_num⟩,by simp only[intOf];omega⟩
  .have Z:¬((i:Int)<C.n5):=ab
   go_wp2_with (go_at_call 52;refine(X.out _ q.out.low).mono ?_;rintro e w2⟨Y,f,rfl,r,N,O⟩;have HP:=eE r;have HO:=eE N;have s:=eE (q.out.on O);clear r N O;obtain⟨y0,y1,y2,y3,y4,y5⟩:=bf s.out.res;have fz:=tO s.out.res)
   have P:=s.out.res;have A:=nC (u0:=i9 jz C.l) (u1:=i9 jz C.p) (u2:=jk Y.B2 C.n2 Y.p2) (u3:=jk Y.B3 C.n3 Y.p3) (u4:=jk (some ⟨Y.K4,0,none⟩) C.n4 Y.p4) (u5:=jk Y.B5 C.n5 Y.p5) P;have Q:=nk.zu (D:=(C.aaz ds).L0 Y f) HO.out q.out.low.size;refine ai (v:=jr #[jp (C.L0 Y f).val,i9 jz 0]) ?_ rfl ⟨Y,f,rfl,HP.out,Q.agr ⟨_,P⟩ (dq _) _ _ _ _ _ _,eM s.out.low ab _ _ _ _ _ _⟩;clear Q;obtain⟨a0,a1,a2,a3,a4,a5⟩:=bf A;simp[aI,Tryz.results22,go_sem,a0,a1,a2,a3,a4,a5]
structure CJ(W:ac)(k2 k3 k4 k5 la ca lb cb:Nat)(d:Int):Prop where
 r2:Row W k2 vT
 r3:Row W k3 vU
 r4:Row W k4 (rO la ca lb cb)
 r5:Row W k5 (qB d)
 ra:Row W la [bh 1]
 rb:Row W lb [bh 2]
def CJ.on{W b:ac}{k2 k3 c e f ca lb g:Nat}{d:Int}(h:CJ W k2 k3 c e f ca lb g d)(a:bA W b):CJ b k2 k3 c e f ca lb g d:=
 ⟨h.r2.on a,h.r3.on a,h.r4.on a,h.r5.on a,h.ra.on a,h.rb.on a⟩
def CJ.at{W:ac}{k2 f k3 c3 a g b i c ca lb e:Nat}{d:Int}(h:CJ W k2 k3 a b c ca lb e d):(ir k2 f k3 c3 a g b i c ca lb e d).At W:=Rx h.r2 h.r3 h.r4 h.r5 h.ra h.rb
def yQ{k2 a k3 c3 b c e f g ca lb h:Nat}{d:Int}(hd:d=0\/d=1):(ir k2 a k3 c3 b c e f g ca lb h d).cx=0:=by
 rcases hd with rfl|rfl<;>kernel_rfl
def b7.row{W:ac}{k n m:Nat}{f:Nat->List ad}{l:List ad}(h:b7 W k 0 n m f)(a:∀i,(f i).length=m)(b:k<W.heap.size)(e:rowOf f n=l):Row W k l:=
 ⟨b,λj v hv=>by have:=h.get a j v (by rw[e];exact hv);rwa[cv]at this⟩
structure Made(w W:ac)(k2 k3 k4 k5 la ca lb cb:Nat)(d:Int):Prop where
 rows:CJ W k2 k3 k4 k5 la ca lb cb d
 low:bA w W
def agI{k2 e k3 c3 g i j k l ca lb o:Nat}{d y:Int}{Y:afk}{f:Nat->iJ}{w W:ac}{n0:Nat}(hf:ahn (ir k2 e k3 c3 g i j k l ca lb o d) f)(h:nk n0 3 (((ir k2 e k3 c3 g i j k l ca lb o d).aaz [0,y]).L0 Y f) W)(B:bA w W) :
 ∃p C q D r E s F t u v x,((ir k2 e k3 c3 g i j k l ca lb o d).L0 Y f).val=(ir p C q D r E s F t u v x y).val/\Made w W p q r s t u v x y:=by
 have m:=h.mem;have H:Y.B2=some ⟨Y.K2,0,none⟩:=m.s2 (ct rfl);have I:Y.B3=some ⟨Y.K3,0,none⟩:=m.s3 (ct rfl);have J:Y.B5=some ⟨Y.K5,0,none⟩:=m.s5 (ct rfl);have a:=hf.1 0;have b:=hf.1 1;have c:=hf.1 2;have z:=m.l4 0 (ct rfl) (by show 0<(f 0).ln;rw[a.ln];exact ct rfl);have A:=m.l4 1 (ct rfl) (by show 0<(f 1).ln;rw[b.ln];exact ct rfl);have a0:(f 0).lb=some ⟨(f 0).lk,(f 0).lo,none⟩:=z.1;have a1:(f 1).lb=some ⟨(f 1).lk,(f 1).lo,none⟩:=A.1;have z0:=hf.2 0 (ct rfl);have z1:=hf.2 1 (ct rfl);obtain⟨K,d2⟩:=c.nil rfl rfl;have q0:b7 W (f 0).lk (f 0).lo (f 0).ln 1 (abm (f 0)):=m.rl 0 (ct rfl);have q1:b7 W (f 1).lk (f 1).lo (f 1).ln 1 (abm (f 1)):=m.rl 1 (ct rfl);rw[z0]at a0 q0;rw[z1]at a1 q1;refine⟨Y.K2,Y.p2,Y.K3,Y.p3,Y.K4,Y.p4,Y.K5,Y.p5,(f 0).lk,(f 0).lc,(f 1).lk,(f 1).lc,?_,⟨m.r2.row (λ_=>rfl) m.h2 rfl,m.r3.row (λ_=>rfl) m.h3 rfl,m.r4.row (λ_=>H8 _) m.h4 ?_,m.r5.row (λ_=>rfl) m.h5 rfl,q0.row (λ_=>rfl) z.2 ?_,q1.row (λ_=>rfl) A.2 ?_⟩,B⟩
 .show #[(_:ad),_,jk Y.B2 _ _,jk Y.B3 _ _,_,jk Y.B5 _ _]=_;rw[H,I,J];rfl
 .show F5 (f 0)++(F5 (f 1)++(F5 (f 2)++[]))=_;unfold F5;rw[a.name,a.n,a.ln,a0,b.name,b.n,b.ln,a1,c.name,c.n,c.ln,K,d2];rfl
 .rw[a.ln];show[i9 jz ((f 0).lane 0)]=_;rw[a.lane];rfl
 .rw[b.ln];show[i9 jz ((f 1).lane 0)]=_;rw[b.lane];rfl
def yP{k2 i k3 c3 a j b k c ca lb g:Nat}{d y:Int}{v:ad}(w:ac)(h:CJ w k2 k3 a b c ca lb g d)(hv:bB w v [0,y]):ag PL 52 #[jp (ir k2 i k3 c3 a j b k c ca lb g d).val,v] w λe w'=>∃l t m u n x o z p q r s,e=kq (jp (ir l t m u n x o z p q r s y).val)/\Made w w' l m n o p q r s y:=
 (abu (ir k2 i k3 c3 a j b k c ca lb g d) [0,y] v w h.at (ct rfl) hv (ct rfl)).mono λe w'⟨Y,f,C,hf,A,B⟩=>by
  obtain⟨q2,D,q3,E,q4,F,q5,H,I,J,K,L,hval,M⟩:=agI hf A B;grind
def Iw{k2 g k3 c3 a j b k c ca lb d:Nat}{v:ad}(w:ac)(h:CJ w k2 k3 a b c ca lb d 0)(hv:bB w v [0,1]):ag PL 22 #[jp (ir k2 g k3 c3 a j b k c ca lb d 0).val,v] w λe w'=>∃l u m x n y o z p q r s,e=kq (jr #[jp (ir l u m x n y o z p q r s 1).val,i9 jz 0])/\CJ w' l m n o p q r s 1/\bA w w':=
 (afl (ir k2 g k3 c3 a j b k c ca lb d 0) [0,1] v w h.at (ct rfl) (yQ (kt rfl)) hv rfl λi hi=>by
   match i,hi with
   |0,_=>rfl
   |1,_=>rfl).mono λe w'⟨Y,f,A,hf,B,C⟩=>by
   obtain⟨q2,D,q3,E,q4,F,q5,H,I,J,K,L,hval,t⟩:=agI hf B C;exact⟨q2,D,q3,E,q4,F,q5,H,I,J,K,L,by rw[A,hval],t.rows,t.low⟩
open Go.Shelf
attribute [local go_sem] Oper.semAt_some
structure aaR(B:Nat)(w w':ac):Prop where
 os:w'.os=w.os
 tape:w'.tape=w.tape
 output:w'.output=w.output
 size:w.heap.size<=w'.heap.size
 block:∀k,k<w.heap.size->k≠B->w'.heap[k]?=w.heap[k]?
def uL(B:Nat)(a hi x y:Int)(w:ac)(h:w.heap[B]?=some (iB #[i9 jz a,i9 jz hi] 56))(b : -10000<=a/\a<=10000)(c : -10000<=hi/\hi<=10000)(d:0<=x/\x<=100)(f:0<=y/\y<=100) :
 ag PL 74 #[jp #[i9 jz x,i9 jz y],js (some ⟨B,0,none⟩)] w λe w'=>e=kq (jp #[i9 jz (a+x),i9 jz (hi+y)])/\w'.heap[B]?=some (iB #[i9 jz (a+x),i9 jz (hi+y)] 56)/\aaR B w w':=by
 obtain⟨n,t1,u0,u1⟩:=uJ h;have o:=eF h;have H:=eE h;clear h;obtain⟨b,p⟩:=b;obtain⟨c,q⟩:=c;obtain⟨d,i⟩:=d;obtain⟨f,j⟩:=f;go_enter (fx ao Tryz.func74),Tryz.ntmps74;go_wp2;have g:=yL (u:=i9 jz (a+x)) (v:=i9 jz (hi+y)) H.out;refine ai (v:=jp #[i9 jz (a+x),i9 jz (hi+y)]) ?_ rfl ⟨rfl,?_,rfl,rfl,rfl,by simp;omega,λk l m=>?_⟩
 .simp[aI,Tryz.results74,go_sem]
 .have hl:=eF g;exact(((eD _ _).alloc (cq _) _).alloc ar _ |>.block B hl).trans g
 .have hl:k<((w.setCell ⟨B,0,none⟩ (i9 jz (a+x))).setCell ⟨B,1,none⟩ (i9 jz (hi+y))).heap.size:=by simpa using l
  exact(((eD _ _).alloc (cq _) _).alloc ar _ |>.block k hl).trans (tv m)
def Ff(C:CD)(p:Nat):Nat:=if p+1=C.n4 then 0 else p+1
def nT(C:CD)(g:Nat):Nat->Nat×Int×Int
 |0=>((C.x5 g).2.1.toNat,(C.x5 g).2.2,(C.x5 g).2.2)
 |k+1=>(Ff C (nT C g k).1,(nT C g k).2.1+(C.x4 (nT C g k).1).n 7+(C.x4 (nT C g k).1).n 9,(nT C g k).2.2+(C.x4 (nT C g k).1).n 8+(C.x4 (nT C g k).1).n 10)
abbrev nR:=Nat×Int×Int×Int×Int
def Nu(C:CD)(g k:Nat):nR:=((nT C g k).1,(nT C g k).2.1,(nT C g k).2.2,(nT C g k).2.1+(C.x4 (nT C g k).1).n 7,(nT C g k).2.2+(C.x4 (nT C g k).1).n 8)
def mD(C:CD)(g n:Nat):List nR:=(gc n).map (Nu C g)
def uM(C:CD)(g n:Nat):mD C g (n+1)=mD C g n++[Nu C g n]:=by simp[mD,gD]
def R7(C:CD)(g n:Nat):(mD C g n).length=n:=by simp[mD]
def R8(C:CD)(g:Nat){k n:Nat}(h:k<n):mD C g k++[Nu C g k] <+: mD C g n:=by
 rw[<-uM];have e:gc n=gc (k+1)++(gc (n-(k+1))).map (k+1 + ·):=by
  rw[<-List.range_add];congr 1;omega
 unfold mD;rw[e,f9];exact List.prefix_append _ _
structure yR(C:CD)(g:Nat):Prop where
 g5:g<C.n5
 p4:∀k,(nT C g k).1<C.n4
 m4:C.n4<=5
 lo:∀k,k<=C.n4->0<=(nT C g k).2.1/\(nT C g k).2.1<=12+120*k
 hi:∀k,k<=C.n4->0<=(nT C g k).2.2/\(nT C g k).2.2<=12+120*k
 nn:∀i,i<C.n4->(0<=(C.x4 i).n 7/\(C.x4 i).n 7<=60)/\(0<=(C.x4 i).n 8/\(C.x4 i).n 8<=60)/\(0<=(C.x4 i).n 9/\(C.x4 i).n 9<=60)/\(0<=(C.x4 i).n 10/\(C.x4 i).n 10<=60)
 start:(C.x5 g).2.1=((C.x5 g).2.1.toNat:Int)
def Sa(C:CD)(hc:C.cx=0){g:Nat}(hg:g<C.n5):yR C g:=by
 have d:kA C.p C.n2 C.n3 C.n4 C.x4=0:=ck hc 3 ab;have e:pE C.n4 C.n5 C.x5=0:=ck hc 4 ab;unfold kA at d;split at d
 case isFalse=>cases d
 rename_i hb;simp only[bO,jD,decide_eq_true_eq]at hb;have j:∀i,i<C.n4->(0<=(C.x4 i).n 7/\(C.x4 i).n 7<=60)/\(0<=(C.x4 i).n 8/\(C.x4 i).n 8<=60)/\(0<=(C.x4 i).n 9/\(C.x4 i).n 9<=60)/\(0<=(C.x4 i).n 10/\(C.x4 i).n 10<=60):=by
  intro i hi;have a:=ck d i hi;unfold gM at a;split at a
  case isFalse h=>exact absurd a h
  split at a
  case isFalse=>cases a
  split at a
  .cases a
  split at a
  case isFalse=>cases a
  split at a
  case isFalse=>cases a
  rename_i m;simp only[eK,jD,decide_eq_true_eq]at m;omega
 obtain⟨hs,s,o⟩:(0<=(C.x5 g).2.1/\(C.x5 g).2.1<C.n4)/\0<=(C.x5 g).2.2/\(C.x5 g).2.2<=12:=by
  unfold pE at e;split at e
  .cases e
  have a:=ck e g hg;unfold iI at a;split at a
  case isFalse h=>exact absurd a h
  split at a
  case isFalse=>cases a
  rename_i q;split at a
  .cases a
  split at a
  case isFalse=>cases a
  rename_i r;simp only[bO,jD,decide_eq_true_eq]at q r;omega
 have c:∀k,(nT C g k).1<C.n4:=by
  intro k
  induction k with
  |zero=>simp only[nT];omega
  |succ k l=>
   simp only[nT,Ff];split<;>omega
 have b:∀k,k<=C.n4->(0<=(nT C g k).2.1/\(nT C g k).2.1<=12+120*k)/\(0<=(nT C g k).2.2/\(nT C g k).2.2<=12+120*k):=by
  intro k
  induction k with
  |zero=>intro _;simp only[nT];omega
  |succ k l=>
   intro f;have:=l ab;have:=j _ (c k);simp only[nT]
   push_cast
   omega
 exact⟨hg,c,ab,λk f=>(b k f).1,λk f=>(b k f).2,j,ab⟩
def Fg(n0:Nat)(W a:ac):Prop:=(∀k:Nat,k<n0->a.heap[k]?=W.heap[k]?)/\(∀(k:Nat)(c:Array ad)(t:aJ),W.heap[k]?=some (iB c t)->t≠72->t≠62->a.heap[k]?=some (iB c t))/\W.heap.size<=a.heap.size
def Li{n:Nat}{X Y Z:ac}(h:Fg n X Y)(k:Fg n Y Z):Fg n X Z:=
 ⟨λb hb=>(k.1 b hb).trans (h.1 b hb),λb c t e a d=>k.2.1 b c t (h.2.1 b c t e a d) a d,cQ h.2.2 k.2.2⟩
def Lj{n s:Nat}(d:n<=s)(W:ac)(l:Nat)(o o':Obj)(hl:s<=l)(b:W.heap[l]?=some o)(hc:o.isCells=false)(_:o.isWalk=false):Fg n W (W.putObj l o'):=by
 have a:∀k,l≠k->(W.putObj l o').heap[k]?=W.heap[k]?:=λk h=>by
  simp only[eW];exact Array.getElem?_setIfInBounds_ne h
 refine⟨λk f=>a k ab,λk c t e _ _=>(a k λh=>?_).trans e,by simp[eW]⟩;rw[<-h,b]at e;cases e;cases hc
def CD.At.keep{C:CD}{w w':ac}(h:C.At w)(f:∀k,k<w.heap.size->w'.heap[k]?=w.heap[k]?)(s:w.heap.size<=w'.heap.size):C.At w':=by
 have cell:∀b o,b<w.heap.size->w'.cell? ⟨b,o,none⟩=w.cell? ⟨b,o,none⟩:=λb o hb=>by simp[eQ,f b hb]
 have e:∀o,w'.cell? ⟨C.k2,o,none⟩=w.cell? ⟨C.k2,o,none⟩:=λo=>cell _ _ h.h2;have a:∀o,w'.cell? ⟨C.k3,o,none⟩=w.cell? ⟨C.k3,o,none⟩:=λo=>cell _ _ h.h3;have c:∀o,w'.cell? ⟨C.k4,o,none⟩=w.cell? ⟨C.k4,o,none⟩:=λo=>cell _ _ h.h4;have d:∀o,w'.cell? ⟨C.k5,o,none⟩=w.cell? ⟨C.k5,o,none⟩:=λo=>cell _ _ h.h5;obtain⟨m2,m3,m4,m5,h2,h3,h4,h5,s2,s3,s4,s5,Ep,Er,Es,Et,Eu,cu,AD,dB,nj,l4,J5,nm5,FI,HU,J6⟩:=h
 exact⟨m2,m3,m4,m5,ab,ab,ab,ab,s2,s3,s4,s5,λi hi=>(e _).trans (Ep i hi),λi hi=>(e _).trans (Er i hi),λi hi=>(a _).trans (Es i hi),λi hi=>(a _).trans (Et i hi),λi hi=>(a _).trans (Eu i hi),cu,
  λi hi=>(c _).trans (AD i hi),λi hi j g h2=>(c _).trans (dB i hi j g h2),λi hi=>(c _).trans (nj i hi),λi hi hl=>⟨(l4 i hi hl).1,ci (l4 i hi hl).2 s⟩,
  λi hi j l=>(cell _ _ (l4 i hi ab).2).trans (J5 i hi j l),nm5,λi hi=>(d _).trans (FI i hi),λi hi=>(d _).trans (HU i hi),λi hi=>(d _).trans (J6 i hi)⟩
def VS(x:nR):Array ad:=#[jp #[i9 jz x.1,i9 jz x.2.1,i9 jz x.2.2.1,i9 jz x.2.2.2.1,i9 jz x.2.2.2.2]]
end Go.Proofs
namespace Go.Proofs
open Go.RowKit
def zW(b:Option bL)(m c n:Nat)(f:ad)(w:ac)(a:n<=1):ag PL 126 #[jk b m c,i9 jz 0,i9 jz n,f] w λe w'=>(∃v,e=kq v)/\w=w':=by
 have d:(n:Int)<=1:=ab;go_enter (fx ao Tryz.func126),Tryz.ntmps126;go_wp2
 go_loop [8] (λv=>v=i9 jz 1) (λ_=>0)
 case atStart=>rfl
 case round=>
  subst hrel;go_wp2
  go_end0
  exact⟨⟨_,rfl⟩,rfl⟩
def aho(l:List Int)(n:Int)(l':List Int)(n':Int):Bool:=decide (n<n')||(decide (n=n')&&decide (afG l l'<0))
def abM(b b':Option bL)(c c':Nat)(l l':List Int)(n n':Int)(w:ac)(h:bB w (jk b l.length c) l)(r:bB w (jk b' l'.length c') l')(hl:l.length<=20)(s:l'.length<=20) :
 ag PL 34 #[jp #[jk b l.length c,i9 jz n],jp #[jk b' l'.length c',i9 jz n']] w (aO (jn (aho l n l' n')) w):=by
 have g:bA w ((w.alloc (iB #[jk b l.length c,i9 jz n] 90)).alloc (iB #[jk b' l'.length c',i9 jz n'] 90)):=((eD _ _).alloc (cq _) _).alloc ar _;have d:=eE g;have H:=eE (h.on g);have o:=eE (r.on g);clear g h r;obtain⟨k,i⟩:=br l.length;obtain⟨k',m⟩:=br l'.length;rw[<-i]at hl H d ⊢;rw[<-m]at s o d ⊢;rw[<-i]at o;rw[<-m]at H;have t:=eE i;have f:=eE m;clear i m;by_cases p:n<n'
 .go_enter (fx ao et),eu;go_wp2;go_ret;exact⟨by simp[aho,p],d.out⟩
 .by_cases a:n=n'
  .have u:(n==n')=true:=by simp[a]
   have q:=eE a;clear a;go_enter (fx ao et),eu
   go_wp2_with (go_at_call 37;refine(EX _ _ k k' (λj=>l.getD j 0) (λj=>l'.getD j 0) _ (t.out▸H.out) (f.out▸o.out) hl s).mono ?_;rintro e w'⟨rfl,rfl⟩)
   go_ret;exact⟨by simp[aho,p,q.out,afG,t.out,f.out],d.out⟩
  .have u:(n==n')=false:=by simp[a]
   have q:=eE a;clear a;go_enter (fx ao et),eu;go_wp2;go_ret;exact⟨by simp[aho,p,q.out],d.out⟩
def llt:List Int->List Int->Bool
 |[],[]=>false
 |[],_::_=>true
 |_::_,[]=>false
 |x::xs,y::ys=>decide (x<y)||(decide (x=y)&&llt xs ys)
def ahV:List Int->List Int->Int
 |[],[]=>0
 |[],_::_=>-1
 |_::_,[]=>1
 |x::xs,y::ys=>if Ip x y≠0 then Ip x y else ahV xs ys
def agJ(a b:List Int):∀k q,a.length=q+k->EW (λj=>a.getD j 0) (λj=>b.getD j 0) a.length b.length k q=ahV (a.drop q) (b.drop q)
 |0,q,h=>by
  rw[hm (show a.length<=q by omega),EW];by_cases e:a.length<b.length
  .rw[if_pos e,ht (l:=b) ab];rfl
  .rw[if_neg e,hm (show b.length<=q by omega)];rfl
 |k+1,q,h=>by
  have c:q<a.length:=ab;rw[ht c,EW];by_cases e:b.length<=q
  .rw[if_pos e,hm (show b.length<=q from e)];rfl
  .have f:q<b.length:=ab;rw[if_neg e,ht f,ahV,agJ a b k (q+1) ab];grind
def afs:∀a b,decide (ahV a b<0)=llt a b
 |[],[]=>rfl
 |[],_::_=>rfl
 |_::_,[]=>rfl
 |x::xs,y::ys=>by
  rw[ahV,llt,<-afs xs ys];unfold Ip;grind
def ahW(a b:List Int):decide (afG a b<0)=llt a b:=by
 have h:=agJ a b a.length 0 ab;rw[hk,hk]at h;rw[<-afs,<-h];rfl
def acB:∀a,llt a a=false
 |[]=>rfl
 |x::xs=>by simp[llt,acB xs]
def ac7:∀{a b c},llt a b=true->llt b c=true->llt a c=true
 |[],[],_,h,_=>by cases h
 |[],_::_,[],_,h=>by cases h
 |[],_::_,_::_,_,_=>rfl
 |_::_,[],_,h,_=>by cases h
 |_::_,_::_,[],_,h=>by cases h
 |x::xs,y::ys,z::zs,e,f=>by
  simp only[llt,jH,jD,decide_eq_true_eq]at *
  rcases e with e|⟨rfl,e⟩<;>rcases f with f|⟨rfl,f⟩
  .exact kt ab
  .exact kt e
  .exact kt f
  .exact kv ⟨rfl,ac7 e f⟩
def agK:∀a b,llt a b=true\/a=b\/llt b a=true
 |[],[]=>kv (kt rfl)
 |[],_::_=>kt rfl
 |_::_,[]=>kv (kv rfl)
 |x::xs,y::ys=>by
  simp only[llt,jH,jD,decide_eq_true_eq]
  rcases Int.lt_trichotomy x y with h|rfl|h
  .exact kt (kt h)
  .rcases agK xs ys with h|rfl|h
   .grind
   .exact kv (kt rfl)
   grind
  .exact kv (kv (kt h))
def agL(u:List Int):∀{a b},llt a b=true->(∀x,b≠a++x)->llt (a++u) (b++u)=true
 |[],b,_,h=>absurd rfl (h b)
 |x::xs,[],h,_=>by cases h
 |x::xs,y::ys,h,c=>by
  simp only[llt,g7,jH,jD,decide_eq_true_eq]at *
  rcases h with h|⟨rfl,h⟩
  .exact kt h
  .exact kv ⟨rfl,agL u h λz e=>c z (by rw[e])⟩
abbrev abc:=List Int×Int
def wlt(x y:abc):Bool:=decide (x.2<y.2)||(decide (x.2=y.2)&&llt x.1 y.1)
def afw(l:List Int)(n:Int)(l':List Int)(n':Int):aho l n l' n'=wlt (l,n) (l',n'):=by
 unfold aho wlt;rw[ahW]
def wle(x y:abc):Prop:=wlt y x=false
def ac9{x y z:abc}(c:wlt x y=true)(e:wlt y z=true):wlt x z=true:=by
 simp only[wlt,jH,jD,decide_eq_true_eq]at *
 rcases c with c|⟨e1,c⟩<;>rcases e with e|⟨f,e⟩
 .exact kt ab
 .exact kt ab
 .exact kt ab
 .exact kv ⟨ab,ac7 c e⟩
def agM(x:abc):wlt x x=false:=by simp[wlt,acB]
def acC(x y:abc):wlt x y=true\/x=y\/wlt y x=true:=by
 simp only[wlt,jH,jD,decide_eq_true_eq]
 rcases Int.lt_trichotomy x.2 y.2 with h|h|h
 .exact kt (kt h)
 .rcases agK x.1 y.1 with k|k|k
  .exact kt (kv ⟨h,k⟩)
  .grind
  grind
 .exact kv (kv (kt h))
theorem s9(x:abc):wle x x:=agM x
def SH{x y:abc}(h:wlt x y=true):wle x y:=by
 unfold wle
 cases e:wlt y x with
 |false=>rfl
 |true=>have:=ac9 h e;rw[agM]at this;cases this
def s8{x y z:abc}(f:wle x y)(c:wle y z):wle x z:=by
 unfold wle at *
 cases e:wlt z x with
 |false=>rfl
 |true=>
  rcases acC x y with h|rfl|h
  .rw[ac9 e h]at c;cases c
  .rw[e]at c;cases c
  .rw[h]at f;cases f
def ahZ{x y:abc}(c:wle x y)(e:wle y x):x=y:=by
 unfold wle at *
 rcases acC x y with h|h|h
 .rw[h]at e;cases e
 .exact h
 .rw[h]at c;cases c
def afy{x y:abc}(h:wle x y):x.2<=y.2:=by
 unfold wle wlt at h;simp at h;exact h.1
theorem L1{x y:abc}(h:x.2<y.2):wle x y:=SH (by simp[wlt,h])
inductive Wlk(E:Int->Int->Int->Prop)(s:Int):List Int->Int->Int->Prop
 |start:Wlk E s [s] s 0
 |step {l a n b d}:Wlk E s l a n->E a b d->Wlk E s (l++[b]) b (n+d)
def Wlk.last{E:Int->Int->Int->Prop}{s:Int}{l:List Int}{a n:Int}(h:Wlk E s l a n):∃c,l=c++[a]:=by
 cases h with
 |start=>exact⟨[],rfl⟩
 |step _ _=>exact⟨_,rfl⟩
def Wlk.fn{E:Int->Int->Int->Prop}(hF:∀a b d d',E a b d->E a b d'->d=d'){s:Int}{l:List Int}{a n:Int}(h:Wlk E s l a n):∀{a' n'},Wlk E s l a' n'->a=a'/\n=n':=by
 induction h with
 |start=>
  intro a' n' h;generalize e:[s]=k at h
  cases h with
  |start=>exact⟨rfl,rfl⟩
  |@step f a0 i b d c j=>
   obtain⟨g,rfl⟩:=c.last;have:=congrArg gL e;simp at this
 |@step f a0 i b d c j o=>
  intro a' n' h;generalize e:f++[b]=k at h
  cases h with
  |start=>
   obtain⟨g,rfl⟩:=c.last;have:=congrArg gL e;simp at this
  |@step g a1 p q d1 r m=>
   obtain⟨rfl,t⟩:=hu e rfl;grind
def Wlk.pre{E:Int->Int->Int->Prop}(hE:∀a b d,E a b d->0<d){s:Int}{k:List Int}{a n:Int}(h:Wlk E s k a n):∀{l x},k=l++x->l≠[]->x≠[]->∃a' n',Wlk E s l a' n'/\n'<n:=by
 induction h with
 |start=>
  intro l x e hl c;have:=congrArg gL e;rw[f8]at this;have g:=List.length_pos_iff.2 hl;have i:=List.length_pos_iff.2 c;simp at this;omega
 |@step j a0 m b d o f p=>
  intro l x e hl c;obtain⟨x0,y,rfl⟩:∃x0 y,x=x0++[y]:=⟨x.dropLast,x.getLast c,(List.dropLast_concat_getLast c).symm⟩
  rw[<-gp]at e;obtain⟨e1,_⟩:=hu e rfl;have hd:=hE _ _ _ f;by_cases q:x0=[]
  .grind
  grind
def Wlk.mono{E:Int->Int->Int->Prop}(hE:∀a b d,E a b d->0<d)(hF:∀a b d d',E a b d->E a b d'->d=d'){s:Int}{l l':List Int}{a n n':Int}(h:Wlk E s l a n)(j:Wlk E s l' a n')(f:wle (l,n) (l',n'))(b d:Int):wle (l++[b],n+d) (l'++[b],n'+d):=by
 have g:=afy f;simp only at g
 rcases acC (l,n) (l',n') with c|c|c
 .simp only[wlt,jH,jD,decide_eq_true_eq]at c
  rcases c with c|⟨rfl,c⟩
  .exact L1 (by simp only;omega)
  .refine SH ?_;simp only[wlt,jH,jD,decide_eq_true_eq];refine kv ⟨trivial,agL _ c λx e=>?_⟩;have k:l≠[]:=by obtain⟨o,rfl⟩:=h.last;simp
   by_cases i:x=[]
   .subst i;rw[hG]at e;rw[e,acB]at c;cases c
   .obtain⟨p,m,k1,k2⟩:=j.pre hE e k i;have:=(h.fn hF k1).2;omega
 .cases c;exact s9 _
 .unfold wle at f;rw[c]at f;cases f
abbrev SW:=List (Int×List Int×Int)
structure Dij(E:Int->Int->Int->Prop)(s:Int)(S:SW)(L:List Int):Prop where
 key:(S.map λx=>x.1).Nodup
 walk:∀x∈S,Wlk E s x.2.1 x.1 x.2.2
 start:s∈L\/S=[(s,[s],0)]
 EZ:∀x∈S,x.1∈L->∀l n,Wlk E s l x.1 n->wle x.2 (l,n)
 sub:∀a∈L,∃x∈S,x.1=a
 Y1:∀x∈S,x.1∈L->∀b d,E x.1 b d->∃y∈S,y.1=b/\wle y.2 (x.2.1++[b],x.2.2+d)
def Dij.first(E:Int->Int->Int->Prop)(s:Int):Dij E s [(s,[s],0)] []:=
 ⟨ar,λx c=>by rw[List.mem_singleton.1 c];exact .start,kv rfl,λ_ _ h=>(by cases h),λ_ h=>(by cases h),λ_ _ h=>(by cases h)⟩
section
variable {E:Int->Int->Int->Prop}(hE:∀a b d,E a b d->0<d)(hF:∀a b d d',E a b d->E a b d'->d=d'){s:Int}{S:SW}{L:List Int}
include hE hF
def Dij.front(h:Dij E s S L){l:List Int}{a n:Int}(f:Wlk E s l a n)(g:a∉L):∃y∈S,y.1∉L/\wle y.2 (l,n):=by
 induction f with
 |start=>
  rcases h.start with c|c
  .exact absurd c g
  .exact⟨_,by rw[c];exact List.mem_singleton.2 rfl,g,s9 _⟩
 |@step l a n b d f k m=>
  by_cases e:a∈L
  .obtain⟨x,i,rfl⟩:=h.sub a e;obtain⟨y,hy,rfl,j⟩:=h.Y1 x i e b d k;exact⟨y,hy,g,s8 j ((h.walk x i).mono hE hF f (h.EZ x i e _ _ f) _ _)⟩
  .obtain⟨y,c,o,p⟩:=m e;exact⟨y,c,o,s8 p (L1 aS)⟩
def Dij.top(h:Dij E s S L){x:Int×List Int×Int}(c:x.1∉L)(e:∀y∈S,y.1∉L->wle x.2 y.2){l:List Int}{n:Int}(f:Wlk E s l x.1 n):wle x.2 (l,n):=by
 obtain⟨y,g,i,j⟩:=h.front hE hF f c;exact s8 (e y g i) j
def Dij.none(h:Dij E s S L)(c:∀y∈S,y.1∈L){a:Int}(f:∀y∈S,y.1≠a){l:List Int}{n:Int}:¬Wlk E s l a n:=λg=>by
 obtain⟨y,i,j,_⟩:=h.front hE hF g λe=>by
  obtain⟨x,k,rfl⟩:=h.sub a e;exact f x k rfl
 exact j (c y i)
end
def H9(S:SW)(x:Int×List Int×Int):SW:=if(S.find? λy=>y.1==x.1).isSome then S.map λy=>if y.1=x.1 then x else y else S++[x]
def afA{S:SW}{x y:Int×List Int×Int}(h:y∈H9 S x):y=x\/y∈S/\y.1≠x.1:=by
 unfold H9 at h;grind
def afB{S:SW}{x y:Int×List Int×Int}(h:y∈S)(c:y.1≠x.1):y∈H9 S x:=by
 unfold H9;grind
def afC(S:SW)(x:Int×List Int×Int):x∈H9 S x:=by
 unfold H9;grind
def ai2{S:SW}{x:Int×List Int×Int}(h:(S.map λy=>y.1).Nodup):((H9 S x).map λy=>y.1).Nodup:=by
 unfold H9;grind
def abn{c:Type}{l:List c}(h:l.Nodup){i j:Nat}(hi:i<l.length)(f:j<l.length)(e:l[i]=l[j]):i=j:=by
 have g:=List.pairwise_iff_getElem.1 h;grind
def ags{S:SW}(h:(S.map λy=>y.1).Nodup){x y:Int×List Int×Int}(c:x∈S)(hy:y∈S)(e:x.1=y.1):x=y:=by
 obtain⟨i,hi,rfl⟩:=hH c;obtain⟨j,f,rfl⟩:=hH hy;have:i=j:=abn h (i:=i) (j:=j) (by simpa using hi) (by simpa using f) (by simpa using e);subst this;rfl
structure Scan(E:Int->Int->Int->Prop)(s:Int)(S0:SW)(L:List Int)(xa:Int×List Int×Int)(D:Int->Int->Prop)(S:SW):Prop where
 key:(S.map λx=>x.1).Nodup
 walk:∀x∈S,Wlk E s x.2.1 x.1 x.2.2
 kept:∀x∈S0,x.1∈L->x∈S
 less:∀x∈S0,∃y∈S,y.1=x.1/\wle y.2 x.2
 done:∀b d,D b d->∃y∈S,y.1=b/\wle y.2 (xa.2.1++[b],xa.2.2+d)
def Scan.more{E:Int->Int->Int->Prop}{s:Int}{e:SW}{L:List Int}{c:Int×List Int×Int}{D:Int->Int->Prop}{S:SW}(h:Scan E s e L c D S){f:Int->Int->Prop}(g:∀b d,f b d->D b d\/∃y∈S,y.1=b/\wle y.2 (c.2.1++[b],c.2.2+d)):Scan E s e L c f S:=
 ⟨h.key,h.walk,h.kept,h.less,λb d hd=>(g b d hd).elim (h.done b d) id⟩
def Scan.put{E:Int->Int->Int->Prop}{s:Int}{m:SW}{L:List Int}{c:Int×List Int×Int}{D:Int->Int->Prop}{S:SW}(h:Scan E s m L c D S){n:Int->Int->Prop}{b d:Int}(hE:E c.1 b d)(i:c∈S)(hb:b∉L)(j:∀y∈S,y.1=b->wle (c.2.1++[b],c.2.2+d) y.2)
 (o:∀b' d',n b' d'->D b' d'\/b'=b/\d'=d):Scan E s m L c n (H9 S (b,c.2.1++[b],c.2.2+d)):=by
 have step:∀y∈S,∃z∈H9 S (b,c.2.1++[b],c.2.2+d),z.1=y.1/\wle z.2 y.2:=λy hy=>by
  by_cases e:y.1=b
  .exact⟨_,afC _ _,e.symm,j y hy e⟩
  .exact⟨y,afB hy e,rfl,s9 _⟩
 refine⟨ai2 h.key,λx f=>?_,λx f hl=>afB (h.kept x f hl) λe=>hb aS,λx f=>?_,λb' d' hd=>?_⟩
 .rcases afA f with rfl|⟨f,_⟩
  .exact(h.walk c i).step hE
  .exact h.walk x f
 .obtain⟨y,g,k,l⟩:=h.less x f;obtain⟨z,k1,k2,k3⟩:=step y g;exact⟨z,k1,k2.trans k,s8 k3 l⟩
 .rcases o b' d' hd with g|⟨rfl,rfl⟩
  .obtain⟨y,g,k,l⟩:=h.done b' d' g;obtain⟨z,k1,k2,k3⟩:=step y g;exact⟨z,k1,k2.trans k,s8 k3 l⟩
  .exact⟨_,afC _ _,rfl,s9 _⟩
def Scan.start{E:Int->Int->Int->Prop}{s:Int}{S:SW}{L:List Int}(h:Dij E s S L)(e:List Int)(f:Int×List Int×Int):Scan E s S e f (λ_ _=>False) S:=
 ⟨h.key,h.walk,λx c _=>c,λx c=>⟨x,c,rfl,s9 _⟩,λ_ _ h=>h.elim⟩
def Scan.stop{E:Int->Int->Int->Prop}(hE:∀a b d,E a b d->0<d)(hF:∀a b d d',E a b d->E a b d'->d=d'){s:Int}{j:SW}{L:List Int}{c:Int×List Int×Int}{D:Int->Int->Prop}{S:SW}(f:Dij E s j L)(g:c∈j)(t:c.1∉L)(u:∀y∈j,y.1∉L->wle c.2 y.2)
 (h:Scan E s j (L++[c.1]) c D S) (v:∀b d,E c.1 b d->D b d):Dij E s S (L++[c.1]):=by
 have m:∀x∈S,x.1∈L++[c.1]->x∈j:=λx i hl=>by
  obtain⟨y,hy,e⟩:∃y∈j,y.1=x.1:=by
   rcases List.mem_append.1 hl with hl|hl
   .exact f.sub _ hl
   grind
  have:=h.kept y hy (by rw[e];exact hl);rw[ags h.key i this e.symm];exact hy
 refine⟨h.key,h.walk,kt ?_,λx i hl l n p=>?_,λa k=>?_,λx i hl b d q=>?_⟩
 .rcases f.start with r|r
  .grind
  grind
 .have o:=m x i hl;by_cases e:x.1∈L
  .exact f.EZ x o e l n p
  .rcases List.mem_append.1 hl with hl|hl
   .exact absurd hl e
   .have e1:=List.mem_singleton.1 hl;rw[ags f.key o g e1]at p ⊢;exact f.top hE hF t u p
 .rcases List.mem_append.1 k with k|k
  .obtain⟨x,i,rfl⟩:=f.sub a k;exact⟨x,h.kept x i (fB _ k),rfl⟩
  .rw[List.mem_singleton.1 k];exact⟨c,h.kept c g (hM _ (List.mem_singleton.2 rfl)),rfl⟩
 .have o:=m x i hl;by_cases e:x.1∈L
  .obtain⟨y,r,w,A⟩:=f.Y1 x o e b d q;obtain⟨z,k1,k2,k3⟩:=h.less y r;exact⟨z,k1,k2.trans w,s8 k3 A⟩
  .rcases List.mem_append.1 hl with hl|hl
   .exact absurd hl e
   .have e1:=List.mem_singleton.1 hl;rw[ags f.key o g e1]at q ⊢;exact h.done b d (v b d q)
def abd(E:Int->Int->Int->Prop)(s a:Int)(r:Option abc):Prop:=match r with
 |none=>∀l n,¬Wlk E s l a n
 |some x=>Wlk E s x.1 a x.2/\∀l n,Wlk E s l a n->wle x (l,n)
open Go.Instr
open Go.ChangeMaps (setBlock)
abbrev WE:=Int×ad×List Int×Int
def nD(x:WE):ad:=jp #[x.2.1,i9 jz x.2.2.2]
def Cx(i:Nat)(x:WE):b1:={ key:=i9 jz x.1,val:=nD x,born:=i }
def gi(R:List WE):Array b1:=(R.mapIdx Cx).toArray
structure jy(W:ac)(b:Nat)(R:List WE):Prop where
 map:W.heap[b]?=some (iN (gi R) R.length)
 reads:∀x∈R,bB W x.2.1 x.2.2.1
 ne:∀x∈R,x.2.2.1≠[]
def jy.on{W a:ac}{b:Nat}{R:List WE}(h:jy W b R)(c:bA W a):jy a b R:=
 ⟨(c.block _ (eF h.map)).trans h.map,λx d=>(h.reads x d).on c,h.ne⟩
def jy.made(w:ac):jy (w.alloc (iN #[] 0)) w.heap.size []:=⟨au _ _,λ_ h=>(by cases h),λ_ h=>(by cases h)⟩
def yY:PL.underlying 91=some (.map 3 90):=ae
def V3(w:ac):(zeroValue 90).run PL w=kj (jp #[jk none 0 0,i9 jz 0]) w:=ae
def Sv(k:Int):∀(R:List WE)(f:Nat->WE->b1)(a:Nat),(∀i x,(f i x).key=i9 jz x.1)->(∀i x,(f i x).val=nD x)->
 ∃r,jX (.int jz) (i9 jz k) (R.mapIdx f) a=some r/\(∀x,R.find? (λx=>x.1==k)=some x->∃j,r=some (j,nD x))/\(R.find? (λx=>x.1==k)=none->r=none)
 |[],f,a,_,_=>⟨none,rfl,λx h=>by simp at h,λ_=>rfl⟩
 |y::R,f,a,b,hv=>by
  rw[List.mapIdx_cons];by_cases e:y.1=k
  .refine⟨some (a,nD y),by simp[jX,b,hv,j3,e],λx h=>?_,λh=>?_⟩
   .simp_all
   .simp[e]at h
  .obtain⟨r,c,d,g⟩:=Sv k R (λi=>f (i+1)) (a+1) (λi x=>b _ x) (λi x=>hv _ x);refine⟨r,?_,λx h=>d x ?_,λh=>g ?_⟩
   .have l:(k==y.1)=false:=by simpa using λh=>e h.symm
    simp only[jX,b,j3,l,if_true];simpa using c
   .grind
   grind
def qn(k:Int)(R:List WE)(w:ac):∃r,(j4 3 (i9 jz k) (gi R).toList).run PL w=kj r w/\(∀x,R.find? (λx=>x.1==k)=some x->∃j,r=some (j,nD x))/\(R.find? (λx=>x.1==k)=none->r=none):=by
 obtain⟨r,a,b,c⟩:=Sv k R Cx 0 (λ_ _=>rfl) (λ_ _=>rfl);exact⟨r,by simp[j4,b9,aaj,gi,a],b,c⟩
def IJ{W:ac}{b:Nat}{R:List WE}{k:Int}{x:WE}(h:W.heap[b]?=some (iN (gi R) R.length))(a:R.find? (λx=>x.1==k)=some x):(j5 91 (jt (some b)) (i9 jz k) false).run PL W=kj (nD x) W:=by
 obtain⟨r,c,d,_⟩:=qn k R W;obtain⟨j,rfl⟩:=d x a;simp[j5,b9,yY,kf h,qz.check,c]
def Sw{W:ac}{b:Nat}{R:List WE}{k:Int}{x:WE}(h:W.heap[b]?=some (iN (gi R) R.length))(a:R.find? (λx=>x.1==k)=some x):(j5 91 (jt (some b)) (i9 jz k) true).run PL W=kj (jr #[nD x,jn true]) W:=by
 obtain⟨r,c,d,_⟩:=qn k R W;obtain⟨j,rfl⟩:=d x a;simp[j5,b9,yY,kf h,qz.check,c]
def Sx{W:ac}{b:Nat}{R:List WE}{k:Int}(h:W.heap[b]?=some (iN (gi R) R.length))(c:R.find? (λx=>x.1==k)=none):(j5 91 (jt (some b)) (i9 jz k) true).run PL W=kj (jr #[jp #[jk none 0 0,i9 jz 0],jn false]) W:=by
 obtain⟨r,a,_,d⟩:=qn k R W;rw[d c]at a;simp[j5,b9,yY,kf h,qz.check,a,V3]
def jN{W d:ac}{b:Nat}{o:Obj}{v:ad}{l:List Int}(hv:bB W v l)(hl:l≠[])(h:gv W d b)(hb:W.heap[b]?=some o)(e:∀c t f,o≠iB c t f):bB d v l:=by
 obtain⟨p,c,rfl,g⟩:=hv;refine⟨p,c,rfl,λi=>?_⟩;obtain⟨k,q,rfl,m,hc⟩:=g i;have n:k≠b:=by
  rintro rfl;have:=hc 0 ab;simp only[eQ,hb]at this;cases o<;>first|exact e _ _ _ rfl|simp at this
 exact⟨k,q,rfl,by rw[h.size];exact m,λj r=>(h.cell (a:=⟨k,q+j,none⟩) n).trans (hc j r)⟩
def jy.put{W:ac}{b:Nat}{R:List WE}(h:jy W b R){x:WE}(d:R.find? (λy=>y.1==x.1)=none)(f:bB W x.2.1 x.2.2.1)(g:x.2.2.1≠[]) :
 ∃w',(j6 91 (jt (some b)) (i9 jz x.1) (nD x)).run PL W=kj () w'/\jy w' b (R++[x])/\gv W w' b:=by
 obtain⟨r,c,_,i⟩:=qn x.1 R W;rw[i d]at c;have hb:=eF h.map
 have a:gv W { W with heap:=W.heap.setIfInBounds b (iN ((gi R).push { key:=i9 jz x.1,val:=nD x,born:=R.length }) (R.length+1)) } b:=⟨rfl,rfl,rfl,ar,λk l=>by
  grind⟩
 have j:gi (R++[x])=(gi R).push { key:=i9 jz x.1,val:=nD x,born:=R.length }:=by
  simp[gi,Cx,List.mapIdx_append]
 refine⟨_,?_,⟨?_,λy hy=>?_,λy hy=>?_⟩,a⟩
 .simp[j6,b9,yY,kf h.map,qz.check,c,kh _ h.map]
 .rw[j];simp[hb]
 .rcases List.mem_append.1 hy with hy|hy
  .exact jN (h.reads y hy) (h.ne y hy) a h.map (λ_ _ _ e=>by cases e)
  .rw[List.mem_singleton.1 hy];exact jN f g a h.map (λ_ _ _ e=>by cases e)
 .rcases List.mem_append.1 hy with hy|hy
  .exact h.ne y hy
  grind
def ag6(R:List WE):(gi R).toList.map (·.born)=gc R.length:=by
 apply hT
 .simp[gi]
 .intro i a b;simp[gi,Cx]
def A5{R:List WE}{e:b1}(h:e∈(gi R).toList):∃j x,R[j]?=some x/\e=Cx j x:=by
 simp only[gi,hV]at h;grind
def tE(W:ac)(r b n:Nat)(seen:Array Nat):Prop:=W.heap[r]?=some (iP (some b) n seen n)
def V4{W:ac}{b:Nat}{R:List WE}(h:jy W b R):(Instr.range 91 (jt (some b))).run PL W=kj (js (some ⟨W.heap.size,0,none⟩)) (W.alloc (iP (some b) R.length #[] R.length)):=
 run_range_map W 91 3 90 b _ _ yY h.map
def Fs(n:Nat)(seen:Array Nat):Nat:=((gc n).filter λj=>!seen.contains j).length
def IK{n j:Nat}{seen:Array Nat}(b:j<n)(hs:seen.contains j=false):Fs n (seen.push j)<Fs n seen:=by
 unfold Fs;have a:(gc n).filter (λq=>!(seen.push j).contains q)=((gc n).filter λq=>!seen.contains q).filter λq=>decide (¬q=j):=by
  rw[hX];grind
 rw[a];refine List.length_filter_lt_length_iff_exists.2 ⟨j,?_,ar⟩;grind
def zX{ops:Array aP}{rest:List aP}{o:aP}{a:Act}{Q:aT->Act->ac->Prop}(w:ac)(hg:o.guard=none)(it:bi)(q:o.op=Op.next it false)(r b:Nat)(R:List WE)(seen:Array Nat)
 (s:a.eval it=js (some ⟨r,0,none⟩)) (g:tE w r b R.length seen) (c:jy w b R)
 (z:(∀j,j<R.length->seen.contains j=true)->bj PL ops Q rest (a.put o.dst (jr #[jn false])) w)
 (i:∀j x w',R[j]?=some x->seen.contains j=false->tE w' r b R.length (seen.push j)->gv w w' r->jy w' b R->(Instr.entry (js (some ⟨r,0,none⟩))).run PL w'=kj (jr #[i9 jz x.1,nD x]) w'->
   bj PL ops Q rest (a.put o.dst (jr #[jn true,i9 jz x.1,nD x])) w'):bj PL ops Q (o::rest) a w:=by
 refine bM hg λE hK'=>?_;unfold Oper.wp
 rcases run_next_at (P:=PL) w o.type r b R.length R.length seen (gi R) R.length g c.map (λx A=>by
  obtain⟨j,y,d,rfl⟩:=A5 A
  exact(List.getElem?_eq_some_iff.1 d).1) (cq _) with⟨hl,l⟩|⟨e,B,w1,h,l⟩
 .simp[bR,q,s,l,ki];refine hK' _ _ (z λj d=>?_);have f:Cx j R[j]∉leftOf (gi R) seen:=aS;have C:Cx j R[j]∈gi R:=by
   simp only[gi,gy,hV];exact⟨j,d,rfl⟩
  simp only[leftOf,fo,not_and]at f;have:=f C;simpa[Cx]using this
 .have m:e∈(gi R).toList/\seen.contains e.born=false:=by
   simp only[leftOf,Array.mem_toList_iff,fo]at B;grind
  obtain⟨j,x,d,rfl⟩:=A5 m.1;have hs:seen.contains j=false:=m.2;simp[bR,q,s,l,ki];have n:=eF g
  have t:w1.heap=w.heap:=by rcases h with rfl|rfl<;>rfl
  have D:b≠r:=by rintro rfl;have i:=c.map;have f:w.heap[b]?=_:=g;rw[i]at f;cases f
  have p:gv w (setBlock w1 r (iP (some b) R.length (seen.push j) R.length)) r:=by
   refine⟨by rcases h with rfl|rfl<;>rfl,by rcases h with rfl|rfl<;>rfl,by rcases h with rfl|rfl<;>rfl,by simp[setBlock,t],λk F=>?_⟩;show(w1.heap.setIfInBounds r _)[k]?=_;grind
  have u:tE (setBlock w1 r (iP (some b) R.length (seen.push j) R.length)) r b R.length (seen.push j):=by
   show(w1.heap.setIfInBounds r _)[r]?=_;rw[t];simp[n]
  have v:jy (setBlock w1 r (iP (some b) R.length (seen.push j) R.length)) b R:=⟨(p.block _ D).trans c.map,λy hy=>jN (c.reads y hy) (c.ne y hy) p g (λ_ _ _ e=>by cases e),c.ne⟩
  refine hK' _ _ (i j x _ d hs u p v ?_);exact run_entry_at _ r b R.length seen (gi R) R.length (Cx j x) u v.map m.1 (by rw[ag6];exact List.nodup_range)
def tF{ops:Array aP}{rest:List aP}{o:aP}{a:Act}{Q:aT->Act->ac->Prop}(w:ac)(hg:o.guard=none)(m x v:bi)(c:o.op=Op.mapUpdate 91 m x v\/o.op=Op.insert 91 m x v)(b:Nat)(R:List WE)(y:WE)
 (d:a.eval m=jt (some b)) (e:a.eval x=i9 jz y.1) (hv:a.eval v=nD y) (h:jy w b R) (hy:R.find? (λz=>z.1==y.1)=none) (f:bB w y.2.1 y.2.2.1) (g:y.2.2.1≠[])
 (i:∀w',jy w' b (R++[y])->gv w w' b->bj PL ops Q rest (a.put o.dst undef) w'):bj PL ops Q (o::rest) a w:=by
 refine bM hg λn hK'=>?_;obtain⟨w',j,k,l⟩:=h.put hy f g;unfold Oper.wp
 rcases c with c|c<;>
 .simp[bR,c,d,e,hv,j,ki];exact hK' _ _ (i w' k l)
def strip(x:WE):Int×List Int×Int:=(x.1,x.2.2)
def acE(k:Int):∀(es:List b1)(a:List Int)(b:Nat),es.map (·.key)=a.map (λn=>i9 jz n)->k∈a->∃j e,jX (.int jz) (i9 jz k) es b=some (some (b+j,e.val))/\es[j]?=some e/\e.key=i9 jz k/\a[j]?=some k
 |[],a,b,h,c=>by
  simp_all
 |e::es,[],b,h,c=>by cases c
 |e::es,y::a,b,h,c=>by
  rw[hZ,hZ]at h;obtain⟨d,f⟩:=List.cons.inj h;by_cases e1:y=k
  .subst e1;exact⟨0,e,by simp[jX,d,j3],rfl,d,rfl⟩
  .have g:k∈a:=by
    grind
   obtain⟨j,i,q,l,m,o⟩:=acE k es a (b+1) f g;have p:(k==y)=false:=aS;refine⟨j+1,i,?_,by simpa using l,m,by simpa using o⟩;simp only[jX,d,j3,p,if_true];grind
def afD(k:Int):sameBits 10000 (i9 jz k) (i9 jz k)=true:=by simp[sameBits]
def ahq{w:ac}{b:Nat}{l:List Int}(h:aU w (λn:Int=>i9 jz n) b l){x:Int}(r:x∈l)(s:PL.underlying 86=some (.map 3 4)) :
 ∃w',(j6 86 (jt (some b)) (i9 jz x) (jn true)).run PL w=kj () w'/\aU w' (λn:Int=>i9 jz n) b l/\gv w w' b:=by
 obtain⟨es,c,d,m,o⟩:=h;obtain⟨j,e,p,t,q,_⟩:=acE x es.toList l 0 m r;rw[cv]at p;have hf:(j4 3 (i9 jz x) es.toList).run PL w=kj (some (j,e.val)) w:=by simp[j4,b9,aaj,p]
 have a:es[j]?=some e:=aS;have u:es.modify j (λe=>{ e with key:=i9 jz x,val:=jn true })=es:=by
  apply fp;intro i;rw[fi];split
  .rename_i f;subst f;rw[a,kb];have hv:=o e (h6 t);rw[<-hv,<-q]
  .rfl
 have hb:b<w.heap.size:=(Array.getElem?_eq_some_iff.1 d).1;refine⟨{ w with heap:=w.heap.setIfInBounds b (iN es c) },?_,⟨es,c,by simp[hb],m,o⟩,rfl,rfl,rfl,ar,λk v=>?_⟩
 .have g:=afD x;simp[j6,b9,s,kf d,qz.check,hf,a,q,ka,g,kh _ d,u]
 grind
def afE{w:ac}{b:Nat}{l:List Int}(h:aU w (λn:Int=>i9 jz n) b l)(x:Int)(a:PL.underlying 86=some (.map 3 4)) :
 ∃w',(j6 86 (jt (some b)) (i9 jz x) (jn true)).run PL w=kj () w'/\(∃l',aU w' (λn:Int=>i9 jz n) b l'/\∀y,y∈l'↔y∈l\/y=x)/\gv w w' b:=by
 by_cases c:x∈l
 .obtain⟨w',d,e,f⟩:=ahq h c a;grind
 .obtain⟨w',d,e,f⟩:=h.put qz a c;grind
def abN(w:ac){ops:Array aP}{rest:List aP}{o:aP}{a:Act}{Q:aT->Act->ac->Prop}
 (hg:o.guard=none) (m x v:bi) (c:o.op=Op.mapUpdate 86 m x v) (d:PL.underlying 86=some (.map 3 4))
 (b:Nat) (l:List Int) (e:a.eval m=jt (some b)) (h:aU w (λn:Int=>i9 jz n) b l) (y:Int) (f:a.eval x=i9 jz y) (hv:a.eval v=jn true)
 (g:∀w' l',aU w' (λn:Int=>i9 jz n) b l'->(∀z,z∈l'↔z∈l\/z=y)->gv w w' b->bj PL ops Q rest (a.put o.dst undef) w'):bj PL ops Q (o::rest) a w:=by
 refine bM hg λq hK'=>?_;obtain⟨w',i,⟨l',j,k⟩,p⟩:=afE h y d;unfold Oper.wp;simp[bR,c,e,f,hv,i,ki];exact hK' _ _ (g w' l' j k p)
def ahr(R:List WE):(gi R).toList.map (·.key)=(R.map λx=>x.1).map λn=>i9 jz n:=by
 apply hT
 .simp[gi]
 .intro i a b;simp[gi,Cx]
def jy.H9{W:ac}{b:Nat}{R:List WE}(h:jy W b R)(q:(R.map λx=>x.1).Nodup){x:WE}(r:bB W x.2.1 x.2.2.1)(l:x.2.2.1≠[]) :
 ∃w' R',(j6 91 (jt (some b)) (i9 jz x.1) (nD x)).run PL W=kj () w'/\jy w' b R'/\R'.map strip=Go.Proofs.H9 (R.map strip) (strip x)/\gv W w' b:=by
 by_cases s:x.1∈R.map λx=>x.1
 .obtain⟨j,e,g,t,m,C⟩:=acE x.1 (gi R).toList (R.map λx=>x.1) 0 (ahr R) s;rw[cv]at g;have hf:(j4 3 (i9 jz x.1) (gi R).toList).run PL W=kj (some (j,e.val)) W:=by simp[j4,b9,aaj,g]
  have f:(gi R)[j]?=some e:=aS;have c:j<R.length:=by
   grind
  have u:e=Cx j R[j]:=by
   have:(gi R)[j]?=some (Cx j R[j]):=by simp[gi,c]
   grind
  have d:R[j].1=x.1:=by
   grind
  have v:(gi R).modify j (λe=>{ e with key:=i9 jz x.1,val:=nD x })=gi (R.set j x):=by
   apply fp;intro i;rw[fi];by_cases a:j=i
   .subst a;rw[if_pos rfl,f,kb,u];simp[gi,Cx,c]
   .rw[if_neg a];simp only[gi,gl,List.getElem?_mapIdx,List.getElem?_set_ne a]
  have hb:=eF h.map
  have n:gv W { W with heap:=W.heap.setIfInBounds b (iN (gi (R.set j x)) R.length) } b:=⟨rfl,rfl,rfl,ar,λk q=>by
   grind⟩
  refine⟨_,R.set j x,?_,⟨?_,λy hy=>?_,λy hy=>?_⟩,?_,n⟩
  .have o:=afD x.1;have p:e.key=i9 jz x.1:=m;simp[j6,b9,yY,kf h.map,qz.check,hf,f,p,ka,o,kh _ h.map,v]
  .simp[hb]
  .rcases h7 hy with hy|rfl
   .exact jN (h.reads y hy) (h.ne y hy) n h.map (λ_ _ _ e=>by cases e)
   .exact jN r l n h.map (λ_ _ _ e=>by cases e)
  .rcases h7 hy with hy|rfl
   .exact h.ne y hy
   .exact l
  .unfold Go.Proofs.H9;have hs:((R.map strip).find? λy=>y.1==(strip x).1).isSome=true:=by
    rw[h8];exact⟨strip R[j],ib (List.getElem_mem c),by simp[strip,d]⟩
   rw[if_pos hs,List.map_set];apply hT
   .simp
   .intro i w D;have hi:i<R.length:=by simpa using w
    by_cases a:j=i
    .subst a;simp[strip,d]
    .rw[List.getElem_set_ne a]
     have:R[i].1≠x.1:=λe=>a (by
      have:=abn q (i:=j) (j:=i) (by simpa using c) (by simpa using hi) (by simp[d,e])
      exact this)
     simp[strip,this]
 .have A:R.find? (λy=>y.1==x.1)=none:=by
   grind
  obtain⟨w',g,t,m⟩:=h.put A r l;refine⟨w',R++[x],g,t,?_,m⟩;unfold Go.Proofs.H9;rw[if_neg,f9]
  .rfl
  .rw[h8];rintro⟨y,hy,e⟩;obtain⟨z,B,rfl⟩:=List.mem_map.1 hy;exact s (List.mem_map.2 ⟨z,B,by simpa[strip]using e⟩)
def abw{ops:Array aP}{rest:List aP}{o:aP}{a:Act}{Q:aT->Act->ac->Prop}(w:ac)(hg:o.guard=none)(m x v:bi)(c:o.op=Op.mapUpdate 91 m x v\/o.op=Op.insert 91 m x v)(b:Nat)(R:List WE)(y:WE)
 (d:a.eval m=jt (some b)) (e:a.eval x=i9 jz y.1) (hv:a.eval v=nD y) (h:jy w b R) (f:(R.map λx=>x.1).Nodup) (g:bB w y.2.1 y.2.2.1) (i:y.2.2.1≠[])
 (j:∀w' R',jy w' b R'->R'.map strip=H9 (R.map strip) (strip y)->gv w w' b->bj PL ops Q rest (a.put o.dst undef) w'):bj PL ops Q (o::rest) a w:=by
 refine bM hg λq hK'=>?_;obtain⟨w',R',k,l,n,p⟩:=h.H9 f g i;unfold Oper.wp
 rcases c with c|c<;>
 .simp[bR,c,d,e,hv,k,ki];exact hK' _ _ (j w' R' l n p)
end Go.Proofs
namespace Go.Proofs
open Go.RowKit
def abe{C:CD}(hc:C.cx=0){i:Nat}(hi:i<C.n3):(0<=(C.x3 i).1/\(C.x3 i).1<C.p)/\(0<=(C.x3 i).2.1/\(C.x3 i).2.1<C.p)/\(C.x3 i).1≠(C.x3 i).2.1/\(1<=(C.x3 i).2.2/\(C.x3 i).2.2<=999)/\∀j,j<i->eB (C.x3 j).1 (C.x3 j).2.1≠eB (C.x3 i).1 (C.x3 i).2.1:=by
 have b:kz C.p C.n3 C.x3=0:=ck hc 2 ab;unfold kz at b;split at b
 .cases b
 .have a:=ck b i hi;unfold fQ at a;split at a
  .rename_i hb;split at a
   .cases a
   .rename_i c;split at a
    .rename_i hl;split at a
     .cases a
     .rename_i d;simp only[jD,bO,decide_eq_true_eq]at hb hl;grind
    .cases a
  .cases a
def agt{C:CD}(hc:C.cx=0):C.n3<=9:=by
 have a:kz C.p C.n3 C.x3=0:=ck hc 2 ab;unfold kz at a;grind
def Lf{C:CD}(hc:C.cx=0):1<=C.p/\C.p<=6:=cK (ck hc 0 ab)
def CD.edge(C:CD)(P:Int->Prop)(a b d:Int):Prop:=∃i,i<C.n3/\¬P (i:Nat)/\(C.x3 i).2.2=d/\((C.x3 i).1=a/\(C.x3 i).2.1=b\/(C.x3 i).1=b/\(C.x3 i).2.1=a)
def NI{C:CD}(hc:C.cx=0){P:Int->Prop}:∀a b d,C.edge P a b d->0<d:=λa b d⟨i,hi,_,e,_⟩=>by have:=(abe hc hi).2.2.2.1;omega
def acH{C:CD}(hc:C.cx=0){P:Int->Prop}{a b d:Int}(h:C.edge P a b d):(0<=a/\a<C.p)/\(0<=b/\b<C.p)/\d<=999/\a≠b:=by
 obtain⟨i,hi,_,e,h⟩:=h;have:=abe hc hi;omega
theorem abo(a b:Int):eB a b=eB b a:=by simp only[eB];grind
def acO{C:CD}(hc:C.cx=0){P:Int->Prop}:∀a b d d',C.edge P a b d->C.edge P a b d'->d=d':=λa b d d'⟨i,hi,_,e,h⟩⟨j,f,_,g,k⟩=>by
 have c:eB (C.x3 i).1 (C.x3 i).2.1=eB (C.x3 j).1 (C.x3 j).2.1:=by
  grind[abo]
 have:i=j:=by
  rcases Nat.lt_trichotomy i j with h|h|h
  .exact absurd c ((abe hc f).2.2.2.2 i h)
  .exact h
  .exact absurd c.symm ((abe hc hi).2.2.2.2 j h)
 subst this;omega
def acd(L:List Int):Nat:=((gc 6).filter fun(a:Nat)=>!(decide ((a:Int)∈L))).length
def abp{L:List Int}{a:Int}(c:0<=a)(d:a<6)(e:a∉L):acd (L++[a])<acd L:=by
 unfold acd;have b:((gc 6).filter fun(q:Nat)=>!(decide ((q:Int)∈L++[a])))=((gc 6).filter fun(q:Nat)=>!(decide ((q:Int)∈L))).filter fun(q:Nat)=>decide (¬(q:Int)=a):=by
  rw[hX];grind
 rw[b];refine List.length_filter_lt_length_iff_exists.2 ⟨a.toNat,?_,by simp;omega⟩;grind
structure RDx(C:CD)(P:Int->Prop)(s:Int)(R:List WE)(L:List Int):Prop where
 dij:Dij (C.edge P) s (R.map strip) L
 bd:∀x∈R,x.2.2.1.length<=L.length+1/\0<=x.2.2.2/\x.2.2.2<=999*L.length/\0<=x.1/\x.1<C.p
 lb:∀a∈L,0<a
 cnt:L.length+acd L<=6
def RDx.first{C:CD}(P:Int->Prop){s:Int}(hs:0<=s/\s<C.p)(v:ad):RDx C P s [(s,v,[s],0)] []:=
 ⟨Dij.first _ _,λx a=>aS,λ_ h=>(by cases h),ao⟩
structure Sel(L:List Int)(R:List WE)(seen:Array Nat)(cur:Option WE):Prop where
 no:cur=none->∀j x,R[j]?=some x->seen.contains j=true->x.1∈L
 yes:∀x,cur=some x->x∈R/\x.1∉L/\∀j y,R[j]?=some y->seen.contains j=true->y.1∉L->wle x.2.2 y.2.2
def apy:Option WE->Int
 |none=>-1
 |some x=>x.1
def Sel.start(L:List Int)(R:List WE):Sel L R #[] none:=⟨λ_ _ _ _ h=>by simp at h,λ_ h=>by cases h⟩
def abC{seen:Array Nat}{i j:Nat}(h:(seen.push j).contains i=true):seen.contains i=true\/i=j:=by
 grind
def Sel.skip{L:List Int}{R:List WE}{seen:Array Nat}{cur:Option WE}(h:Sel L R seen cur){j:Nat}{x:WE}(a:R[j]?=some x)(b:x.1∈L):Sel L R (seen.push j) cur:=
 ⟨λe i y hi hs=>by
   rcases abC hs with hs|rfl
   .exact h.no e i y hi hs
   grind,λy e=>by
   obtain⟨c,d,f⟩:=h.yes y e
   grind⟩
def Sel.first{L:List Int}{R:List WE}{seen:Array Nat}(h:Sel L R seen none){j:Nat}{x:WE}(a:R[j]?=some x)(b:x.1∉L):Sel L R (seen.push j) (some x):=
 ⟨λe=>by(cases e),λy e=>by
   cases e;refine⟨h6 a,b,λi z hi hs c=>?_⟩
   rcases abC hs with hs|rfl
   .exact absurd (h.no rfl i z hi hs) c
   .rw[a]at hi;cases hi;exact s9 _⟩
def Sel.better{L:List Int}{R:List WE}{seen:Array Nat}{y:WE}(h:Sel L R seen (some y)){j:Nat}{x:WE}(a:R[j]?=some x)(b:x.1∉L)(hb:wlt x.2.2 y.2.2=true):Sel L R (seen.push j) (some x):=
 ⟨λe=>by(cases e),λz e=>by
   cases e;refine⟨h6 a,b,λi z hi hs c=>?_⟩
   rcases abC hs with hs|rfl
   .exact s8 (SH hb) ((h.yes y rfl).2.2 i z hi hs c)
   .rw[a]at hi;cases hi;exact s9 _⟩
def Sel.AW{L:List Int}{R:List WE}{seen:Array Nat}{y:WE}(h:Sel L R seen (some y)){j:Nat}{x:WE}(a:R[j]?=some x)(hb:wlt x.2.2 y.2.2=false):Sel L R (seen.push j) (some y):=
 ⟨λe=>by(cases e),λz e=>by
   cases e;obtain⟨b,c,d⟩:=h.yes y rfl;refine⟨b,c,λi z hi hs f=>?_⟩
   rcases abC hs with hs|rfl
   .exact d i z hi hs f
   .rw[a]at hi;cases hi;exact hb⟩
def Sel.all{L:List Int}{R:List WE}{seen:Array Nat}{cur:Option WE}(h:Sel L R seen cur)(b:∀j,j<R.length->seen.contains j=true):(cur=none->∀x∈R,x.1∈L)/\∀x,cur=some x->x∈R/\x.1∉L/\∀y∈R,y.1∉L->wle x.2.2 y.2.2:=
 ⟨λe x c=>by
   obtain⟨j,a,rfl⟩:=hH c;exact h.no e j _ (fY a) (b j a),λx e=>by
   obtain⟨d,f,g⟩:=h.yes x e;refine⟨d,f,λy hy i=>?_⟩;obtain⟨j,a,rfl⟩:=hH hy
   grind⟩
def abO(R:List WE):((R.map strip).map λx=>x.1)=R.map λx=>x.1:=by rw[List.map_map];rfl
def RDx.nodup{C:CD}{P:Int->Prop}{s:Int}{R:List WE}{L:List Int}(h:RDx C P s R L):(R.map λx=>x.1).Nodup:=by
 have:=h.dij.key;rwa[abO]at this
def abf{R:List WE}(h:(R.map λx=>x.1).Nodup){x:WE}(a:x∈R):R.find? (λy=>y.1==x.1)=some x:=by
 cases e:R.find? (λy=>y.1==x.1) with
 |none=>
  grind
 |some y=>
  have hy:=List.mem_of_find?_eq_some e;have b:y.1=x.1:=by simpa using List.find?_some e
  obtain⟨i,hi,rfl⟩:=hH a;obtain⟨j,c,rfl⟩:=hH hy;have:j=i:=abn h (i:=j) (j:=i) (by simpa using c) (by simpa using hi) (by simpa using b);subst this;rfl
structure SCx(C:CD)(P:Int->Prop)(s:Int)(R0:List WE)(L:List Int)(x:WE)(q:Nat)(R:List WE):Prop where
 scan:Scan (C.edge P) s (R0.map strip) (L++[x.1]) (strip x) (λb d=>∃i,i<q/\i<C.n3/\¬P (i:Nat)/\(C.x3 i).2.2=d/\((C.x3 i).1=x.1/\(C.x3 i).2.1=b\/(C.x3 i).1=b/\(C.x3 i).2.1=x.1)) (R.map strip)
 bd:∀y∈R,y.2.2.1.length<=L.length+2/\0<=y.2.2.2/\y.2.2.2<=999*(L.length+1)/\0<=y.1/\y.1<C.p
section
variable {C:CD}{P:Int->Prop}{s:Int}{R0 R:List WE}{L:List Int}{x:WE}{q:Nat}
def SCx.nodup(h:SCx C P s R0 L x q R):(R.map λx=>x.1).Nodup:=by
 have:=h.scan.key;rwa[abO]at this
def SCx.start(h:RDx C P s R L)(x:WE):SCx C P s R L x 0 R:=
 ⟨(Scan.start h.dij (L++[x.1]) (strip x)).more λb d⟨i,hi,_⟩=>ab,λy hy=>by have:=h.bd y hy;omega⟩
def SCx.at_(a:x∈R0)(h:SCx C P s R0 L x q R):∃y,R.find? (λy=>y.1==x.1)=some y/\strip y=strip x:=by
 have:=h.scan.kept (strip x) (ib a) (hM _ (List.mem_singleton.2 rfl));obtain⟨y,hy,e⟩:=List.mem_map.1 this;have e1:y.1=x.1:=congrArg (λz:Int×List Int×Int=>z.1) e;have:=abf h.nodup hy;grind
def SCx.skip(h:SCx C P s R0 L x q R)(a:P (q:Nat)\/((C.x3 q).1≠x.1/\(C.x3 q).2.1≠x.1)):SCx C P s R0 L x (q+1) R:=
 ⟨h.scan.more λb d⟨i,hi,c,e,f,g⟩=>by
   grind,h.bd⟩
def agN(a:q<C.n3)(b:¬P (q:Nat))(c:(C.x3 q).1=x.1\/(C.x3 q).2.1=x.1):C.edge P x.1 ((C.x3 q).1+(C.x3 q).2.1-x.1) (C.x3 q).2.2:=by
 refine⟨q,a,b,rfl,?_⟩;grind
def acV(a:(C.x3 q).1=x.1\/(C.x3 q).2.1=x.1)(b d:Int)(h:∃i,i<q+1/\i<C.n3/\¬P (i:Nat)/\(C.x3 i).2.2=d/\((C.x3 i).1=x.1/\(C.x3 i).2.1=b\/(C.x3 i).1=b/\(C.x3 i).2.1=x.1)) :
 (∃i,i<q/\i<C.n3/\¬P (i:Nat)/\(C.x3 i).2.2=d/\((C.x3 i).1=x.1/\(C.x3 i).2.1=b\/(C.x3 i).1=b/\(C.x3 i).2.1=x.1))\/b=(C.x3 q).1+(C.x3 q).2.1-x.1/\d=(C.x3 q).2.2:=by
 grind
def SCx.old(hc:C.cx=0)(a:RDx C P s R0 L)(j:x∈R0)(h:SCx C P s R0 L x q R)(k:q<C.n3)(l:¬P (q:Nat))(c:(C.x3 q).1=x.1\/(C.x3 q).2.1=x.1)(f:(C.x3 q).1+(C.x3 q).2.1-x.1∈L++[x.1]):SCx C P s R0 L x (q+1) R:=by
 have g:=agN k l c;have i:(C.x3 q).1+(C.x3 q).2.1-x.1∈L:=by
  rcases List.mem_append.1 f with h|h
  .exact h
  .exact absurd (List.mem_singleton.1 h).symm (acH hc g).2.2.2
 obtain⟨y,hy,e⟩:=a.dij.sub _ i;refine⟨h.scan.more λb d hd=>?_,h.bd⟩
 rcases acV c b d hd with m|⟨rfl,rfl⟩
 .exact kt m
 .refine kv ⟨y,h.scan.kept y hy (by rw[e];exact f),e,a.dij.EZ y hy (by rw[e];exact i) _ _ ?_⟩;rw[e];exact(a.dij.walk _ (ib j)).step g
def SCx.AW(hc:C.cx=0)(h:SCx C P s R0 L x q R)(a:(C.x3 q).1=x.1\/(C.x3 q).2.1=x.1){y:WE}(hy:y∈R)(e:y.1=(C.x3 q).1+(C.x3 q).2.1-x.1)(hb:wlt (x.2.2.1++[(C.x3 q).1+(C.x3 q).2.1-x.1],x.2.2.2+(C.x3 q).2.2) y.2.2=false):SCx C P s R0 L x (q+1) R:=by
 refine⟨h.scan.more λb d hd=>?_,h.bd⟩
 rcases acV a b d hd with c|⟨rfl,rfl⟩
 .exact kt c
 .exact kv ⟨strip y,ib hy,e,hb⟩
def SCx.put(hc:C.cx=0)(l:RDx C P s R0 L)(i:x∈R0)(h:SCx C P s R0 L x q R)(m:q<C.n3)(n:¬P (q:Nat))(j:(C.x3 q).1=x.1\/(C.x3 q).2.1=x.1)(o:(C.x3 q).1+(C.x3 q).2.1-x.1∉L++[x.1])
 (c:∀y∈R,y.1=(C.x3 q).1+(C.x3 q).2.1-x.1->wlt (x.2.2.1++[(C.x3 q).1+(C.x3 q).2.1-x.1],x.2.2.2+(C.x3 q).2.2) y.2.2=true) {R':List WE}
 (k:R'.map strip=H9 (R.map strip) ((C.x3 q).1+(C.x3 q).2.1-x.1,x.2.2.1++[(C.x3 q).1+(C.x3 q).2.1-x.1],x.2.2.2+(C.x3 q).2.2)):SCx C P s R0 L x (q+1) R':=by
 have f:=agN m n j;have p:strip x∈R.map strip:=h.scan.kept (strip x) (ib i) (hM _ (List.mem_singleton.2 rfl));refine⟨?_,λy hy=>?_⟩
 .rw[k];refine h.scan.put (b:=(C.x3 q).1+(C.x3 q).2.1-x.1) (d:=(C.x3 q).2.2) f p o (λy hy e=>?_) (acV j);obtain⟨z,g,rfl⟩:=List.mem_map.1 hy;exact SH (c z g e)
 .have a:strip y∈R'.map strip:=ib hy;rw[k]at a
  rcases afA a with e|⟨a,_⟩
  .have e1:y.1=(C.x3 q).1+(C.x3 q).2.1-x.1:=congrArg Prod.fst e;have r:y.2.2.1=x.2.2.1++[(C.x3 q).1+(C.x3 q).2.1-x.1]:=congrArg (λz=>z.2.1) e;have t:y.2.2.2=x.2.2.2+(C.x3 q).2.2:=congrArg (λz=>z.2.2) e;have hb:=l.bd x i;have hi:=acH hc f;have u:=NI hc _ _ _ f;grind
  .obtain⟨z,g,e⟩:=List.mem_map.1 a;have hb:=h.bd z g;have e1:z.1=y.1:=congrArg (λz:Int×List Int×Int=>z.1) e;have r:z.2.2=y.2.2:=congrArg (λz:Int×List Int×Int=>z.2) e;grind
def SCx.stop(hc:C.cx=0)(e:RDx C P s R0 L)(g:x∈R0)(c:x.1∉L)(o:0<x.1)(k:∀y∈R0,y.1∉L->wle x.2.2 y.2.2)(h:SCx C P s R0 L x q R)(p:C.n3<=q):RDx C P s R (L++[x.1]):=by
 have l:=(e.bd x g).2.2.2;have r:=Lf hc;refine⟨Scan.stop (NI hc) (acO hc) e.dij (ib g) c (λy hy m=>?_) h.scan (λb d⟨i,hi,j⟩=>⟨i,ab,hi,j⟩),λy hy=>?_,λa f=>?_,?_⟩
 .obtain⟨z,n,rfl⟩:=List.mem_map.1 hy;exact k z n m
 .have:=h.bd y hy;grind
 .rcases List.mem_append.1 f with f|f
  .exact e.lb a f
  grind
 .have j:=abp (L:=L) (a:=x.1) ab ab c;have t:=e.cnt;grind
end
def RDx.none{C:CD}{P:Int->Prop}{s:Int}{R:List WE}{L:List Int}(hc:C.cx=0)(h:RDx C P s R L)(b:∀x∈R,x.1∈L):R.find? (λx=>x.1==0)=kc/\abd (C.edge P) s 0 kc:=by
 have c:∀x∈R,x.1≠0:=λx d e=>by have:=h.lb _ (b x d);omega
 refine⟨aS,λl n=>h.dij.none (NI hc) (acO hc) (λy hy=>?_) (λy hy=>?_)⟩
 .obtain⟨z,a,rfl⟩:=List.mem_map.1 hy;exact b z a
 .obtain⟨z,a,rfl⟩:=List.mem_map.1 hy;exact c z a
def RDx.some{C:CD}{P:Int->Prop}{s:Int}{R:List WE}{L:List Int}(hc:C.cx=0)(h:RDx C P s R L){x:WE}(a:x∈R)(b:x.1∉L)(e:∀y∈R,y.1∉L->wle x.2.2 y.2.2)(j:x.1<=0):R.find? (λx=>x.1==0)=kd x/\abd (C.edge P) s 0 (kd x.2.2):=by
 have c:x.1=0:=by have:=h.bd x a;omega
 have hf:=abf h.nodup a;rw[c]at hf;have d:=h.dij.walk _ (ib a);refine⟨hf,?_,λl n f=>?_⟩
 .have:(strip x).1=0:=c;rw[this]at d;exact d
 .refine h.dij.top (NI hc) (acO hc) (x:=strip x) b (λy hy g=>?_) (by rw[show(strip x).1=0 from c];exact f);obtain⟨z,i,rfl⟩:=List.mem_map.1 hy;exact e z i g
def abd.unique{E:Int->Int->Int->Prop}{s a:Int}{r b:Option abc}(h:abd E s a r)(c:abd E s a b):r=b:=by
 cases r with
 |none=>
  cases b with
  |none=>rfl
  |some y=>exact absurd c.1 (h _ _)
 |some x=>
  cases b with
  |none=>exact absurd h.1 (c _ _)
  |some y=>exact congrArg _ (ahZ (h.2 _ _ c.1) (c.2 _ _ h.1))
open Go.Shelf
def AbT{b:Type}(B:Nat)(J:b->ac->Prop):Prop:=
 ∀s W a row,J s W->W.grownBy a row->(∀r,row=some r->B<=r/\∃c t,W.heap[r]?=some (iB c t)/\t≠72/\t≠62)->J s a
def afQ{c:Type}(n:Nat)(gf:Nat)(lb:Array ad)(f:c->Array ad)(g:ac->ac->Prop)(xs:List c)(St:ac->Prop):Prop:=
 ∀(l:Nat)(J:List c->ac->Prop)(W:ac),St W->AbT W.heap.size J->
  (∀a x d,J a d->a++[x] <+: xs->YieldAt Fence.wide (n-1) PL l (f x) d λe b=>e=kq (jn true)/\J (a++[x]) b/\g d b)->
  J [] W->CallsIn Fence.wide n PL gf (#[jw (.yield l) #[] #[]]++lb) W λe b=>(∃v,e=kq v)/\J xs b
attribute [local go_sem] Oper.semAt_some
def aaR.grown{B:Nat}{w w':ac}(h:aaR B w w'):w.grownBy w' (some B):=
 ⟨h.os,h.tape,h.output,h.size,λk a b=>h.block k a (λe=>b (by rw[e]))⟩
structure StV(C:CD)(g n0 Bc Bg:Nat)(wb W:ac):Prop where
 low:∀k,k<n0->W.heap[k]?=wb.heap[k]?
 size:n0<=W.heap.size
 box:W.heap[Bc]?=some (iB C.val 77)
 PM:W.heap[Bg]?=some (iB #[i9 jz g] 3)
def yT(n:Nat)(hn:2<=n)(v w n0 g:Nat)(C:CD)(s:yR C g)(P:ac)(j:P.heap.size=n0)(hA:C.At P):afQ n 73 #[js (some ⟨v,0,none⟩),js (some ⟨w,0,none⟩)] VS (Fg n0) (mD C g C.n4) (StV C g n0 v w P):=by
 intro l J W L hJ hY h0;have HA:=eE hA;have Q:=eE s;have M:=eE L;have HJ:=eE hJ;have HY:=eE hY;have hA0:=eE (hA.keep (by rw[j];exact L.low) (by rw[j];exact L.size));have c1:=L.box;have c2:=L.PM;clear hA L hJ hY;refine callsIn_of_wp (fx ao eA) rfl trivial ?_ rfl;simp only[Tryz.ntmps73,ih,ii,ik,dt,du,ft,fA,il,im,io,g7];obtain⟨R,S,T,U,f4,N⟩:=bf c1;obtain⟨g0,g1⟩:=aaA c2;have x5:=hA0.out.s5 (by have:=s.g5;omega);have x50:=hA0.out.FI g s.g5;have x51:=hA0.out.HU g s.g5;have x52:=hA0.out.J6 g s.g5;have hg5:=s.g5;rw[x5]at N;have Ts:=eF c1;have hBg:=eF c2;have hh5:=hA0.out.h5;have y:=s.start;have HST:=eE y;clear c1 c2 s y
 gi_wp2
 obtain⟨O,kS⟩:=br ((W.alloc (iB #[jf (C.x5 g).1,i9 jz (C.x5 g).2.1,i9 jz (C.x5 g).2.2] 32)).alloc (iB #[i9 jz (C.x5 g).2.2,i9 jz (C.x5 g).2.2] 56));have b:bA W O:=by rw[kS];exact((eD _ _).alloc (cq _) _).alloc ar _
 have V:O.heap[W.heap.size+1]?=some (iB #[i9 jz (C.x5 g).2.2,i9 jz (C.x5 g).2.2] 56):=by
  grind[au,eT]
 have X:J [] O:=HJ.out [] W O none h0 (by rw[kS];exact(e6 W _ none).trans (e6 _ _ none)) (λr e=>by cases e);have HN:=eE V;have HJ0:=eE X;have HBW:=eE b;rw[<-kS];clear kS V X h0
 gi_loopw [7,28] (λv7 z wr=>∃k:Nat,k<=C.n4/\z=i9 jz k/\v7=i9 jz (nT C g k).1/\J (mD C g k) wr/\StV C g n0 v w P wr/\wr.heap[W.heap.size+1]?=some (iB #[i9 jz (nT C g k).2.1,i9 jz (nT C g k).2.2] 56)) (λ_ z _=>C.n4-(intOf z).toNat)
 case atStart=>
  refine⟨0,cm _,rfl,by rw[nT,<-HST.out],HJ0.out,⟨λk f=>(b.block k (ci f M.out.size)).trans (M.out.low k f),cQ M.out.size b.size,(b.block _ Ts).trans M.out.box,(b.block _ hBg).trans M.out.PM⟩,HN.out⟩
 case round=>
  obtain⟨k,f,rfl,rfl,Y,hS,hN⟩:=hrel;have Z:=eE Y;have t:=eE hS;have c:=eE hN;clear Y hS hN R S T U f4 N g0 g1 x5 x50 x51 x52 b;by_cases aH:k<C.n4
  .have i2:(k:Int)<C.n4:=ab;have Xi:=Q.out.p4 k;have Cu:=Q.out.lo k ab;have hhi:=Q.out.hi k ab;have hm4:=Q.out.m4;obtain⟨p,hp⟩:=br ((nT C g k).1);obtain⟨a,Sc⟩:=br ((nT C g k).2.1);obtain⟨hi,Se⟩:=br ((nT C g k).2.2);have alK:Hid (Nu C g k=(p,a,hi,a+(C.x4 p).n 7,hi+(C.x4 p).n 8)):=eE (by rw[Nu,<-hp,<-Sc,<-Se]);have y:Hid (nT C g (k+1)=(Ff C p,a+(C.x4 p).n 7+(C.x4 p).n 9,hi+(C.x4 p).n 8+(C.x4 p).n 10)):=eE (by rw[nT,<-hp,<-Sc,<-Se]);rw[<-hp]at Xi ⊢;rw[<-Sc]at Cu;rw[<-Se]at hhi;rw[<-Sc,<-Se]at c;clear hp Sc Se;obtain⟨⟨n7,n7'⟩,⟨n8,n8'⟩,⟨n9,n9'⟩,⟨n10,atn⟩⟩:=Q.out.nn p Xi;have hAk:=eE (HA.out.keep (by rw[j];exact t.out.low) (by rw[j];exact t.out.size));obtain⟨s4,y0,y1,y2,y3,y4,y5,y6,y7,y8,y9,y10,y11,ER⟩:=yK hAk.out Xi;obtain⟨R,S,T,U,f4,N⟩:=bf t.out.box;rw[s4]at f4;obtain⟨t0,t1,u0,u1⟩:=uJ c.out;have alL:=eF t.out.box;have hNl:=eF c.out;have att:(p:Int)<C.n4:=ab;have sv:Hid (((wr.alloc (iB (C.x4 p).val 88)).alloc (iB #[i9 jz p,i9 jz a,i9 jz hi,i9 jz 0,i9 jz 0] 72)).heap[W.heap.size+1]?=some (iB #[i9 jz a,i9 jz hi] 56)):=eE ((((eD wr.heap.size wr).alloc (cq _) _).alloc ar _ |>.block _ hNl).trans c.out)
   have sv2:Hid (((wr.alloc (iB (C.x4 p).val 88)).alloc (iB #[i9 jz p,i9 jz a,i9 jz hi,i9 jz 0,i9 jz 0] 72)).heap[wr.heap.size+1]?=some (iB #[i9 jz p,i9 jz a,i9 jz hi,i9 jz 0,i9 jz 0] 72)):=eE (by
    have h1:=au (wr.alloc (iB (C.x4 p).val 88)) (iB #[i9 jz p,i9 jz a,i9 jz hi,i9 jz 0,i9 jz 0] 72)
    simp_all)
   have sp:Hid (((wr.alloc (iB (C.x4 p).val 88)).alloc (iB #[i9 jz p,i9 jz a,i9 jz hi,i9 jz 0,i9 jz 0] 72)).heap[wr.heap.size]?=some (iB (C.x4 p).val 88)):=eE ((((eD (wr.alloc (iB (C.x4 p).val 88)).heap.size _).alloc (cq _) _).block _ ar).trans (au wr _));have so:Hid (∀k,k<wr.heap.size->((wr.alloc (iB (C.x4 p).val 88)).alloc (iB #[i9 jz p,i9 jz a,i9 jz hi,i9 jz 0,i9 jz 0] 72)).heap[k]?=wr.heap[k]?):=eE λk f=>(((eD wr.heap.size wr).alloc (cq _) _).alloc ar _).block k f;clear s4
   gi_wp2_with (refine⟨trivial,λ_=>ab,?_⟩;refine(callsIn_wide.2 (uL (W.heap.size+1) a hi _ _ _ sv.out ab ab ab ab)).mono ?_;rintro e w2⟨rfl,Vb,iC⟩;have yp:wr.heap.size+2<=w2.heap.size:=(by have:=iC.size;simp at this;omega);have u:=(iC.block (wr.heap.size+1) ar ab).trans sv2.out;have tL:=(iC.block wr.heap.size (by simp;omega) ab).trans sp.out;have fz:=tO u;have v0:w2.cell? ⟨wr.heap.size+1,0,none⟩=some (i9 jz p):=(by simp[eQ,u]);have v1:w2.cell? ⟨wr.heap.size+1,1,none⟩=some (i9 jz a):=(by simp[eQ,u]);have v2:w2.cell? ⟨wr.heap.size+1,2,none⟩=some (i9 jz hi):=(by simp[eQ,u]);have v3:w2.cell? ⟨wr.heap.size+1,3,none⟩=some (i9 jz 0):=(by simp[eQ,u]);have v4:w2.cell? ⟨wr.heap.size+1,4,none⟩=some (i9 jz 0):=(by simp[eQ,u]);have HN2:=eE Vb;have Kf:=eE iC;have HV2:=eE u;have HP2:=eE tL;clear Vb iC u tL;obtain⟨Wy,m⟩:=br ((w2.setCell ⟨wr.heap.size+1,3,none⟩ (i9 jz (a+(C.x4 p).n 7))).setCell ⟨wr.heap.size+1,4,none⟩ (i9 jz (hi+(C.x4 p).n 8)));have A:wr.grownBy Wy (some (W.heap.size+1)):=(by rw[m];exact⟨Kf.out.os,Kf.out.tape,Kf.out.output,by simp only[eS];omega,λk f bu=>by rw[aZ ab,aZ ab,Kf.out.block k (by simp;omega) (λe=>bu (by rw[e]))];exact so.out k f⟩);obtain⟨fn,tmps,assign,body,hy,hR⟩:=HY.out (mD C g k) (Nu C g k) Wy (HJ.out _ wr Wy _ Z.out A (λr e=>by cases e;exact⟨ab,_,_,c.out,ao,ao⟩)) (R8 C g aH);rw[alK.out,m]at hy;dsimp only[VS]at hy;have B:=eE A;have d:=eE m;clear A m)
   refine⟨λ_=>ab,?_⟩;refine RoundIn.mono (by have h:=hR;rw[d.out]at h;exact h) ?_;rintro e i⟨rfl,hJ',D⟩;rw[<-d.out]at D;have hWs:=M.out.size;have E:i.heap[W.heap.size+1]?=some (iB #[i9 jz (a+(C.x4 p).n 7),i9 jz (hi+(C.x4 p).n 8)] 56):=D.2.1 _ _ _ (by rw[d.out,aZ ab,aZ ab];exact HN2.out) ao ao;have VT:i.heap[wr.heap.size]?=some (iB (C.x4 p).val 88):=D.2.1 _ _ _ (by rw[d.out,aZ ab,aZ ab];exact HP2.out) ao ao;have sW:i.heap[v]?=some (iB C.val 77):=D.2.1 _ _ _ ((B.out.block v alL (λe=>by injection e with e;omega)).trans t.out.box) ao ao;have afU:i.heap[w]?=some (iB #[i9 jz g] 3):=D.2.1 _ _ _ ((B.out.block w (by have:=t.out.PM;exact eF this) (λe=>by injection e with e;omega)).trans t.out.PM) ao ao;have qv:Hid (∀k,k<n0->i.heap[k]?=P.heap[k]?):=eE λk f=>(D.1 k f).trans ((B.out.block k ab (λe=>by injection e with e;omega)).trans (t.out.low k f));have atv:W.heap.size+2<=i.heap.size:=by have:=eF E;omega
   have z9:i.cell? ⟨wr.heap.size,9,none⟩=some (i9 jz ((C.x4 p).n 9)):=by simp[eQ,VT]
   have UZ:i.cell? ⟨wr.heap.size,10,none⟩=some (i9 jz ((C.x4 p).n 10)):=by simp[eQ,VT]
   have fz9:=tO VT;have VU:=eE E;have Ce:=eE sW;have HGR:=eE afU;have HJ':=eE hJ';clear E VT sW afU hJ' D hR hy HY R S T U f4 N t0 t1 u0 u1 y0 y1 y2 y3 y4 y5 y6 y7 y8 y9 y10 y11 v0 v1 v2 v3 v4 fz sv sv2 sp so Kf HN2 HV2 HP2 d yp;by_cases hw:p+1=C.n4
   .have i5:((p:Int)+1=C.n4):=ab;have HW:=eE hw;clear hw
    gi_wp2_with (refine⟨trivial,λ_=>ab,?_⟩;refine(callsIn_wide.2 (uL (W.heap.size+1) (a+(C.x4 p).n 7) (hi+(C.x4 p).n 8) _ _ _ VU.out ab ab ab ab)).mono ?_;rintro e w3⟨rfl,Hr,F⟩;have H:=(F.block v ab ab).trans Ce.out;obtain⟨R,S,T,U,f4,N⟩:=bf H;have I:=eE H;have K:=eE Hr;have o:=eE F;clear H Hr F)
    refine⟨⟨k+1,aH,by go_num,by rw[y.out];simp only[Ff];rw[if_pos HW.out];rfl,?_,⟨λq hq=>(o.out.block q ab ab).trans (qv.out q hq),by have:=o.out.size;omega,I.out,(o.out.block w ab ab).trans HGR.out⟩,by rw[y.out];exact K.out⟩,by simp only[intOf];omega⟩;rw[uM];exact HJ.out _ i w3 _ HJ'.out o.out.grown (λr e=>by cases e;exact⟨ab,_,_,VU.out,ao,ao⟩)
   .have i5:¬((p:Int)+1=C.n4):=ab;have HW:=eE hw;clear hw
    gi_wp2_with (refine⟨trivial,λ_=>ab,?_⟩;refine(callsIn_wide.2 (uL (W.heap.size+1) (a+(C.x4 p).n 7) (hi+(C.x4 p).n 8) _ _ _ VU.out ab ab ab ab)).mono ?_;rintro e w3⟨rfl,Hr,F⟩;have H:=(F.block v ab ab).trans Ce.out;obtain⟨R,S,T,U,f4,N⟩:=bf H;have I:=eE H;have K:=eE Hr;have o:=eE F;clear H Hr F)
    refine⟨⟨k+1,aH,by go_num,by rw[y.out];simp only[Ff];rw[if_neg HW.out];go_num,?_,⟨λq hq=>(o.out.block q ab ab).trans (qv.out q hq),by have:=o.out.size;omega,I.out,(o.out.block w ab ab).trans HGR.out⟩,by rw[y.out];exact K.out⟩,by simp only[intOf];omega⟩;rw[uM];exact HJ.out _ i w3 _ HJ'.out o.out.grown (λr e=>by cases e;exact⟨ab,_,_,VU.out,ao,ao⟩)
  .have By:k=C.n4:=ab;have i2:¬((k:Int)<C.n4):=ab;clear aH
   gi_wp2
   go_end0
   exact⟨⟨_,rfl⟩,by have h:=Z.out;first|(rw[By]at h;exact h)|exact h⟩
def yU{m:Type}{g:bi}{ps:Array Tmp}{assign body:Code}{Q:aT->Act->ac->Prop}{a:Act}{w:ac}{n:Nat}(h1:1<=n){gf:Nat}{lb:Array ad}(hg:a.eval g=jw (.func gf) #[] lb)(eg:∀args w,(callFunc gf args).run PL w=kj (.enter gf args) w)
 {M:m->Array ad} {q:ac->ac->Prop} {xs:List m} {St:ac->Prop} (R:afQ (n-1) gf lb M q xs St) (XJ:∀W,bA w W->St W)
 (u:∀{A B C:ac},q A B->q B C->q A C) (F:∀(W:ac)(l:Nat)(o o':Obj),w.heap.size<=l->W.heap[l]?=some o->o.isCells=false->o.isWalk=false->q W (W.putObj l o')) (S:∀x,(M x).size=ps.size)
 (I:List m->ac->Prop) (H:OwnFrom w.heap.size I) (T:AbT w.heap.size I) (h0:I [] w) (A:m->Act->ac->Prop) (hA:∀x a W l o o',W.heap[l]?=some o->o.isCells=false->A x a W->A x a (W.putObj l o'))
 (U:∀{A B:ac},w.heap.size<=A.heap.size->A.grownBy B none->q A B)
 (VV:∀(l:Nat)(x:m)(W:ac)(K:Act->ac->Prop),(∀a' y,W.grownBy y none->A x a' y->K a' y)->
   assign.wpIn (Fence.wide.inRound l) (n-1-1) PL (Exit.then K (λ_ _ _=>False)) { tmps:=(ps.zip (M x)).foldl (λt(p,v)=>t.setIfInBounds p v) a.tmps,defers:=[] } W)
 (V:∀(l:Nat)(b:List m)(x:m)(a':Act)(W:ac),I b W->A x a' W->b++[x] <+: xs->body.wpIn (Fence.wide.inRound l) (n-1-1) PL (λe _ y=>match e with | .normal=>KeepsOthers W y/\q W y/\I (b++[x]) y|_=>False) a' W)
 (X:∀(D:Nat)(W:ac),w.heap.size<=D->I xs W->W.heap[D]?=some (iU (some []))->Q .normal { a with defers:={ target:=.collected D,args:=#[] }::a.defers } W) :
 (Code.rangeFunc g ps assign body).wpIn Fence.wide n PL Q a w:=by
 refine wpIn_rangeFunc λfn tK=>?_;have LJ:Fence.wide.round=none:=rfl;rw[LJ];let z:LoopState->Loop:=λst=>{ state:=st,pending:=none,fn,tmps:=a.tmps,params:=ps,assign,body,defers:=w.heap.size }
 obtain⟨d,N⟩:=br ((w.alloc (iU (some []))).alloc (iY (z .ready)));have Y:d.heap[w.heap.size+1]?=some (iY (z .ready)):=by
  grind[au,eT]
 have hb:bA w d:=by rw[N];exact((eD _ _).alloc (cq _) _).alloc ar _
 have Z:d.heap[w.heap.size]?=some (iU (some [])):=by
  rw[N];exact(((eD (w.alloc (iU (some []))).heap.size _).alloc (cq _) _).block _ ar).trans (au w _)
 refine⟨w.heap.size+1,[{ target:=.collected w.heap.size,args:=#[] }],d,{ target:=.fn (.func gf) lb,args:=#[jw (.yield (w.heap.size+1)) #[] #[]] },d,gf,#[jw (.yield (w.heap.size+1)) #[] #[]]++lb,d,?_,?_,λf' hf'=>trivial,by simp[invoke,go_sem,eg],λ_=>h1,?_⟩
 .rw[N];exact run_enterLoop_outer _ _ _ _ _
 .simp only[resolve,hg];simp[go_sem]
 .have book:∀{A B:ac}{row:Option Nat}{k:Nat}{o:Obj},A.grownBy B row->(∀r,row=some r->d.heap.size<=r/\∃c t,A.heap[r]?=some (iB c t)/\t≠72/\t≠62)->A.heap[k]?=some o->o.isCells=false->B.heap[k]?=some o:=λ{A B row k o}J E f hc=>by
   refine(J.block k (eF f) λe=>?_).trans f;obtain⟨_,c,t,h,_⟩:=E k e.symm;rw[f]at h;cases h;cases hc
  refine(R (w.heap.size+1) (λb W=>I b W/\W.heap[w.heap.size+1]?=some (iY (z .ready))/\W.heap[w.heap.size]?=some (iU (some []))) d (XJ _ hb) ?_ ?_ ⟨?_,Y,Z⟩).mono ?_
  .rintro s A B row⟨hi,hl,f⟩J E;exact⟨T s A B row hi J λr e=>⟨cQ hb.size (E r e).1,(E r e).2⟩,book J E hl rfl,book J E f rfl⟩
  .rintro b x W⟨hi,hl,f⟩Nw;refine⟨fn,_,assign,body,run_yield (P:=PL) (args:=M x) hl (S x),roundIn_of_wpIn tK (VV _ x W _ λaa O i hA1=>?_)⟩;have acY:=eF hl;replace hl:=book i (λr e=>by cases e) hl rfl;replace f:=book i (λr e=>by cases e) f rfl;replace hi:=H b W O none hi i (λr e=>by cases e);have aH:=eF hl;refine⟨_,run_beginRound hl rfl,?_⟩;have hl2:(O.putObj (w.heap.size+1) (iY (z .busy))).heap[w.heap.size+1]?=some (iY (z .busy)):=e7 aH;have ND:(O.putObj (w.heap.size+1) (iY (z .busy))).heap[w.heap.size]?=some (iU (some [])):=(fg ab).trans f;refine wpIn_mono (V _ b x aa _ (H.putObj _ hi ab hl rfl) (hA _ _ _ _ _ _ hl rfl hA1) Nw) ?_;rintro e a3 W3 hp
   cases e with
   |normal=>
    obtain⟨L,alT,hi3⟩:=hp;have j:=L.same _ _ hl2 rfl;refine⟨_,_,run_endRound (P:=PL) none j,rfl,⟨H.putObj _ hi3 ab j rfl,e7 (eF j),(fg ab).trans (L.same _ _ ND rfl)⟩,?_⟩;exact u (u (u (U ab i) (F O (w.heap.size+1) _ _ ab hl rfl rfl)) alT) (F _ _ _ _ ab j rfl rfl)
   |_=>exact hp.elim
  .exact H [] w d none h0 (by rw[N];exact(e6 w _ none).trans (e6 _ _ none)) (λr e=>by cases e)
  .rintro e W2⟨⟨v,rfl⟩,hi,hl,f⟩;exact⟨none,_,run_endLoop (P:=PL) hl (by simp[z]),X _ _ (cq _) (H.putObj _ hi ab hl rfl) ((fg ab).trans f)⟩
def Fi(C:CD)(g:Int)(m5:C.n5<=3)(w:ac):ag PL 47 #[jp C.val,i9 jz g] w λe w'=>e=kq (jn (bO g 0 (C.n5-1)))/\bA w w':=by
 obtain⟨b,c,d,f,f4,h⟩:=bf (au w (iB C.val 27));have a:=eE (((eD w.heap.size w).alloc (cq _) (iB C.val 27)));go_enter (fx ao Tryz.func47),Tryz.ntmps47
 go_wp2_with (go_at_call 33;refine(ij _ _ _ _).mono ?_;rintro e w'⟨rfl,rfl⟩)
 go_ret;exact⟨rfl,a.out⟩
def AX(C:CD)(g:Nat)(w:ac):ag PL 49 #[jp C.val,i9 jz g] w λe w'=>e=kq (jw (.func 73) #[] #[js (some ⟨w.heap.size,0,none⟩),js (some ⟨w.heap.size+1,0,none⟩)])/\w'=(w.alloc (iB C.val 77)).alloc (iB #[i9 jz g] 3):=by
 go_enter (fx ao Tryz.func49),Tryz.ntmps49;go_wp2;go_ret;exact⟨rfl,rfl⟩
def vV(x:nR):List ad:=[i9 jz x.1,i9 jz x.2.1,i9 jz x.2.2.1,i9 jz x.2.2.2.1,i9 jz x.2.2.2.2]
def AY(W:ac)(base:Nat)(v:ad)(l:List nR):Prop:=W.ownsRow base 72 5 v l.length (l.flatMap vV)
def Sf(w:ac)(a:List nR)(W:ac):Prop:=∃v,W.heap[w.heap.size]?=some (iB #[v] 62)/\AY W (w.heap.size+1) v a/\bA w W
def Fj{w W j:ac}{row:Option Nat}{a:List nR}(h:Sf w a W)(hg:W.grownBy j row)(b:∀r,row=some r->w.heap.size+1<=r/\∀c,W.heap[r]?≠some (iB c 72)):Sf w a j:=by
 obtain⟨v,hb,⟨hl,d⟩,l⟩:=h;refine⟨v,(hg.block _ (eF hb) λe=>by have:=(b _ e.symm).1;omega).trans hb,⟨hl,?_⟩,l.grown hg l.size λk e=>by have:=(b _ e).1;omega⟩
 rcases d with d|⟨g,cap,f,e1,m,i,n⟩
 .exact kt d
 .exact kv ⟨g,cap,f,e1,m,(hg.block _ (eF i) λe=>(b _ e.symm).2 _ i).trans i,n⟩
def Fl(w:ac):OwnFrom (w.heap.size+1) (Sf w):=λs W d row hs hg a=>Fj hs hg λr e=>⟨(a r e).1,λc h=>by
 obtain⟨_,o,b,hc⟩:=a r e
 rw[b]at h;cases h;cases hc⟩
def Sg(w:ac):AbT (w.heap.size+1) (Sf w):=λs W d row hs hg a=>Fj hs hg λr e=>⟨(a r e).1,λc h=>by
 obtain⟨_,f,t,b,hc,_⟩:=a r e
 rw[b]at h;cases h;exact hc rfl⟩
def qO{w:ac}{k:Nat}{x0 x1 x2 x3 x4:ad}{t:aJ}(h:w.heap[k]?=some (iB #[x0,x1,x2,x3,x4] t)) :
 w.cell? ⟨k,0,none⟩=some x0/\w.cell? ⟨k,1,none⟩=some x1/\w.cell? ⟨k,2,none⟩=some x2/\w.cell? ⟨k,3,none⟩=some x3/\w.cell? ⟨k,4,none⟩=some x4:=by
 simp[eQ,h]
def afX:PL.underlying 62=some (ks 72):=ae
def aaV:(PL.info? 72).map (λi=>(i.zero,i.size,i.bytes))=some (some (jp #[i9 jz 0,i9 jz 0,i9 jz 0,i9 jz 0,i9 jz 0]),5,40):=ae
def Ny{W:ac}{base e size n:Nat}{v:ad}{xs:List ad}(h:W.ownsRow base e size v n xs):∃b m c,v=jk b m c:=by
 rcases h.2 with⟨rfl,_⟩|⟨g,cap,a,rfl,_⟩<;>exact⟨_,_,_,rfl⟩
def qm{W:ac}{base e size n:Nat}{v:ad}{xs:List ad}(h:W.ownsRow base e size v n xs):∀j,v.ownBlock=some j->∃cur,W.heap[j]?=some (iB cur e):=by
 rcases h.2 with⟨rfl,_⟩|⟨g,cap,cur,rfl,_,hg,_⟩
 .intro j e;cases e
 .intro j e;cases e;exact⟨_,hg⟩
def yV{w:ac}{B:Nat}{x u:ad}{t:aJ}(h:w.heap[B]?=some (iB #[x] t)):(w.setCell ⟨B,0,none⟩ u).heap[B]?=some (iB #[u] t):=by
 simp only[eN,fi,if_pos,h,kb];rfl
def VW{W:ac}{b:Nat}{x:nR}(h:W.heap[b]?=some (iB #[i9 jz x.1,i9 jz x.2.1,i9 jz x.2.2.1,i9 jz x.2.2.2.1,i9 jz x.2.2.2.2] 72)):∀(j:Nat)(u:ad),(vV x)[j]?=some u->W.cell? ((⟨b,0,none⟩:bL).add j)=some u:=by
 intro j u e
 match j,e with
 |0,e=>cases e;simp[eQ,ke,h]
 |1,e=>cases e;simp[eQ,ke,h]
 |2,e=>cases e;simp[eQ,ke,h]
 |3,e=>cases e;simp[eQ,ke,h]
 |4,e=>cases e;simp[eQ,ke,h]
 |j+5,e=>simp[vV]at e
def Nz{r u:Nat}(C:CD)(g:Nat)(O:yR C g)(w:ac)(hA:C.At w)(c1:w.heap[r]?=some (iB C.val 77))(P:w.heap[u]?=some (iB #[i9 jz g] 3)) :
 ag PL 72 #[jk none 0 0,jw (.func 73) #[] #[js (some ⟨r,0,none⟩),js (some ⟨u,0,none⟩)]] w λe w'=>∃v,e=kq v/\AY w' (w.heap.size+1) v (mD C g C.n4)/\bA w w':=by
 have HA:=eE hA;have Q:=eE O;have R:=eE c1;have S:=eE P;clear hA O c1 P;refine(cd (n:=9)).1 (ce (fx ao Tryz.func72) rfl trivial ?_ rfl);simp only[Tryz.ntmps72,ih,ii,ik,dt,du,ft,fA,il,im,io,g7];refine wpIn_wide.2 ?_;go_wp2;obtain⟨i0,hi,mF,dx,wD⟩:=bm aaV;refine(wpIn_wide (n:=9)).1 ?_;refine yU ab (gf:=73) (lb:=#[js (some ⟨r,0,none⟩),js (some ⟨u,0,none⟩)]) rfl (enters_of (fx ao eA) ae rfl)
  (yT 8 ab r u w.heap.size g C Q.out w rfl HA.out)
  (λW T=>?_) Li (λW l o U hl ho hc hw=>Lj (n:=w.heap.size) (s:=w.heap.size+1) ab W l o U (by simpa using hl) ho hc hw) (λ_=>rfl)
  (Sf w) (by rw[eT];exact Fl w) (by rw[eT];exact Sg w) ⟨_,au _ _,⟨rfl,kt ⟨rfl,rfl⟩⟩,(eD _ _).alloc (cq _) _⟩
  (λx a W=>∃k,W.heap[k]?=some (iB #[i9 jz x.1,i9 jz x.2.1,i9 jz x.2.2.1,i9 jz x.2.2.2.1,i9 jz x.2.2.2.2] 72)/\a={ tmps:=#[jk none 0 0,jw (.func 73) #[] #[js (some ⟨r,0,none⟩),js (some ⟨u,0,none⟩)],js (some ⟨w.heap.size,0,none⟩),undef,jk none 0 0,js (some ⟨k,0,none⟩),jw (.func 73) #[] #[js (some ⟨r,0,none⟩),js (some ⟨u,0,none⟩)],jp #[i9 jz x.1,i9 jz x.2.1,i9 jz x.2.2.1,i9 jz x.2.2.2.1,i9 jz x.2.2.2.2],undef,undef,undef,undef,undef],defers:=[] })
  ?A ?kg ?assign ?body ?done
 .have hb:=((eD w.heap.size w).alloc (cq _) (iB #[jk none 0 0] 62))
  have e:∀k,k<w.heap.size->W.heap[k]?=w.heap[k]?:=λk d=>(T.block k (by simp;omega)).trans (hb.block k d);exact⟨e,by have:=T.size;simp at this;omega,(e _ (eF R.out)).trans R.out,(e _ (eF S.out)).trans S.out⟩
 case A=>
  rintro x a W l o U hl hc⟨k,d,ha⟩;refine⟨k,(fg (λe=>?_)).trans d,ha⟩;subst e;rw[hl]at d;cases d;cases hc
 case kg=>
  intro A B hs hg;rw[eT]at hs;exact⟨λk d=>hg.block k ab ar,λk c t h _ _=>(hg.block k (eF h) ar).trans h,hg.size⟩
 case assign=>
  intro l x W K F;dsimp only[VS]
  gi_wp2
  refine F _ _ (e6 W _ none) ⟨W.heap.size,au _ _,rfl⟩
 case body=>
  rintro l p x a W⟨v,i,V,X⟩⟨k,d,rfl⟩Nw;have hlen:p.length<5:=by have:=Nw.length_le;have:=Q.out.m4;rw[R7]at *;simp at *;omega
  have aH:=eF i;have Ll:=eF d;have b0:W.cell? ⟨w.heap.size,0,none⟩=some v:=by simp[eQ,i]
  obtain⟨k0,k1,k2,k3,k4⟩:=qO d;have fb:=tO i;have H:=eE V;have Y:=eE X;have Z:=eE i;clear i d V X
  gi_wp2_with (gi_at_builtin;refine wpListIn_append_own _ rfl _ _ _ rfl (w.heap.size+1) 72 i0 _ 5 40 afX hi mF dx wD rfl ao v p.length (p.flatMap vV) rfl (jx H.out _) ⟨W.heap.size,0,none⟩ 1 1 (vV x) rfl rfl (VW (au W _)) (by simp[vV,jl]) (by simp only[bv];omega) ab (by simp;omega) ?_;intro v' w2 m f _;have I:=cZ H.out;have J:w2.heap[w.heap.size]?=some (iB #[v] 62):=(f.block _ (by simp;omega) (λe=>by have:=I _ e.symm;omega)).trans ((((eD W.heap.size W).alloc (cq _) _).block _ aH).trans Z.out);have fb2:=tO J;have b2:w2.cell? ⟨w.heap.size,0,none⟩=some v:=(by simp[eQ,J]);obtain⟨bb,nn,cc,rfl⟩:=Ny m;have H1:=eE m;have L:=eE f;have M:=eE J;clear m f J)
  have y:∀j,v.ownBlock=some j->∃b,W.heap[j]?=some (iB b 72):=qm H.out;have I:=cZ H.out;have z:=(eD W.heap.size W).alloc (cq _) (iB #[i9 jz x.1,i9 jz x.2.1,i9 jz x.2.2.1,i9 jz x.2.2.2.1,i9 jz x.2.2.2.2] 72);have yp:W.heap.size<=w2.heap.size:=by have:=L.out.size;simp at this;omega
  have blk:∀q,q<W.heap.size->q≠w.heap.size->some q≠v.ownBlock->(w2.setCell ⟨w.heap.size,0,none⟩ (jk bb nn cc)).heap[q]?=W.heap[q]?:=λq m f h3=>by
   rw[aZ (Ne.symm f),L.out.block q (by simp;omega) h3,z.block q m]
  refine⟨(km W _).trans ((ko L.out λj o m f=>?_).trans (kp _ _ _)),⟨λq hq=>blk q ab ab (λe=>by have:=I _ e.symm;omega),λq c t h m f=>(blk q (eF h) (λe=>?_) (λe=>?_)).trans h,by simpa using yp⟩,?_⟩
  .obtain⟨b,hc⟩:=y _ m;rw[z.block _ (eF hc),hc]at f;cases f;rfl
  .subst e;rw[Z.out]at h;cases h;exact f rfl
  .obtain⟨b,hc⟩:=y _ e.symm;rw[hc]at h;cases h;exact m rfl
  .refine⟨_,yV M.out,?_,?_⟩
   .unfold AY;rw[f8,List.flatMap_append,gG,List.flatMap_nil,hG];obtain⟨e1,E⟩:=H1.out;refine⟨e1,?_⟩
    rcases E with E|⟨gg,cap,b,e2,hb,hg,E⟩
    .exact kt E
    .exact kv ⟨gg,cap,b,e2,hb,(aZ ab).trans hg,E⟩
   .exact((Y.out.alloc Y.out.size _).grown L.out (by simp;omega) (λk e=>by have:=I _ e;omega)).setCell (cq _) _
 case done=>
  intro D W hD hI F;rw[eT]at hD;have gE:=eE ((Fl w).putObj (iU none) hI ab F rfl);obtain⟨v,i,-,-⟩:=hI;have b0:W.cell? ⟨w.heap.size,0,none⟩=some v:=by simp[eQ,i]
  have Ce:=eE i;clear i;go_wp2;refine⟨ar,kt ⟨_,_,rfl,cf F,?_⟩⟩;obtain⟨v2,eP,N,qA⟩:=gE.out;have e:v=v2:=by
   have h:=(fg (by omega:w.heap.size≠D)).symm.trans eP |>.symm
   rw[Ce.out]at h;cases h;rfl
  subst e;refine⟨v,?_,v,rfl,N,qA⟩;simp[aI,Tryz.results72,go_sem]
def NA{a b:Nat}(C:CD)(g:Nat)(c:yR C g)(w:ac)(hA:C.At w)(c1:w.heap[a]?=some (iB C.val 77))(d:w.heap[b]?=some (iB #[i9 jz g] 3)) :
 ag PL 48 #[jw (.func 73) #[] #[js (some ⟨a,0,none⟩),js (some ⟨b,0,none⟩)]] w λe w'=>∃v,e=kq v/\AY w' (w.heap.size+1) v (mD C g C.n4)/\bA w w':=by
 have i:=eE hA;have j:=eE c;have k:=eE c1;have l:=eE d;clear hA c c1 d;go_enter (fx ao Tryz.func48),Tryz.ntmps48
 go_wp2_with (go_at_call 72;refine(Nz C g j.out w i.out k.out l.out).mono ?_;rintro e w'⟨v,rfl,f,h⟩;have m:=eE f;have n:=eE h;clear f h)
 go_ret;exact⟨_,rfl,m.out,n.out⟩
def Six(W:ac)(k:Nat):Prop:=∃x0 x1 x2 x3 x4 a,W.heap[k]?=some (iB #[x0,x1,x2,x3,x4,a] 77)
def Fo(C:CD)(W a:ac):Prop:=∀k:Nat,(W.heap[k]?=some (iB C.val 77)->a.heap[k]?=some (iB C.val 77))/\(Six W k->Six a k)
def Fo.on{C:CD}{W a:ac}(h:bA W a):Fo C W a:=λk=>⟨λe=>(h.block _ (eF e)).trans e,fun⟨x0,x1,x2,x3,x4,b,e⟩=>⟨x0,x1,x2,x3,x4,b,(h.block _ (eF e)).trans e⟩⟩
def alU(C:CD)(w:ac)(j:Nat)(vs:Nat->ad)(W:ac):Prop:=
 (j=8->∃k,vs 8=js (some ⟨k,0,none⟩)/\w.heap.size<k/\Six W k)/\(j=9->∃k,vs 8=js (some ⟨k,0,none⟩)/\w.heap.size<k/\W.heap[k]?=some (iB C.val 77))
def AZ(C:CD)(g:Nat)(hg:g<C.n5)(m5:C.n5<=3)(w:ac):ag PL 47 #[jp C.val,i9 jz g] w λe w'=>e=kq (jn true)/\bA w w':=by
 have h:=Fi C g m5 w;have e:bO (g:Int) 0 (C.n5-1)=true:=by simp[bO];omega
 rwa[e]at h
def IC{C:CD}{b:Bool}(h:C.b6 b=0):C.cx=0:=by
 unfold CD.b6 at h;split at h
 .rename_i a;exact a
 .rename_i a;exact absurd h a
def ID(C:CD)(g:Nat)(w:ac)(h:C.At w)(hg:g<C.n5)(m5:C.n5<=3)(hf:C.b6 true=0)(n:yR C g) :
 ag PL 20 #[jp C.val,i9 jz g] w λe w'=>∃v,e=kq (jr #[v,i9 jz 0])/\AY w' w.heap.size v (mD C g C.n4)/\bA w w':=by
 have p:=eE h;have M:=eE hf;have N:=eE n;have r:Hid (KB C w (w.alloc (iB C.val 27))):=eE ⟨au _ _,(eD _ _).alloc (cq _) _⟩;clear h hf n;go_enter (fx ao Tryz.func20),Tryz.ntmps20
 go_upto_region 1 with fail
 refine cT 10 (KB C w) (Fo C) (λj=>j != 8&&j != 9) (alU C w) rfl ae ae
  (λi vs W s f h=>⟨λe=>(h.1 e).imp λk a=>⟨a.1,a.2.1,(f k).2 a.2.2⟩,λe=>(h.2 e).imp λk a=>⟨a.1,a.2.1,(f k).1 a.2.2⟩⟩) (λi o t vs O W P hd h=>⟨λe=>?_,λe=>?_⟩) ?_ ?_
 .subst e;rw[<-P];exact h.1 rfl
 .subst e;have Q:vs 8=O 8:=by
   simp only[gl,ip,ix,Option.some.injEq]at t;subst t;exact hd ⟨8,.data⟩ (cH.2 ⟨ar,rfl⟩)
  rw[<-Q];exact h.2 rfl
 .exact⟨r.out.box,r.out.low.drew⟩
 .iterate 8 (
   apply aY
   case hE=>rfl
   case h=>
    intro vs W b hd;obtain⟨u,x,y,z,f4,A⟩:=bf b.box;go_simp
    first
    |(go_at_call 47;refine(AZ C g hg m5 _).mono ?_;rintro e s⟨rfl,d⟩;exact⟨_,rfl,rfl,b.on d,Fo.on d⟩)
    |(go_at_call 27;refine(kF M.out (p.out.below b.low)).mono ?_;rintro e s⟨rfl,d⟩;exact⟨_,rfl,rfl,b.on d,Fo.on d⟩)
    |exact⟨rfl,Fo.on (eD _ _)⟩
   case hb=>exact KD)
  apply eH
  case hE=>rfl
  case hb=>exact KD
  case h=>
   intro vs W b hd;go_simp;have d:=(eD W.heap.size W).alloc (cq _) (iB #[i9 jz 0,i9 jz 0,jk none 0 0,jk none 0 0,jk none 0 0,jk none 0 0] 77)
   first
   |exact⟨b.on d,Fo.on d,⟨λ_=>⟨W.heap.size,by simp[upd],b.lt,_,_,_,_,_,_,au W _⟩,bp⟩⟩
  apply eH
  case hE=>rfl
  case hb=>exact KD
  case h=>
   intro vs W b hd;obtain⟨k,a,B,x0,x1,x2,x3,x4,V,c⟩:=(hd ⟨8,.data⟩ (cH.2 ⟨ar,rfl⟩) rfl).1 rfl;obtain⟨u,x,y,z,f4,A⟩:=bf c;have X:=tO c;rw[a];go_simp;refine⟨⟨(cM ab).trans b.box,eM b.low ab _ _ _ _ _ _⟩,λq=>?_,⟨bp,λ_=>⟨k,by simp[upd,a],B,nC c⟩⟩⟩;by_cases m:q=k
   .subst m;exact⟨λ_=>nC c,λ_=>⟨_,_,_,_,_,_,nC c⟩⟩
   .exact⟨λe=>(cM m).trans e,fun⟨_,_,_,_,_,_,e⟩=>⟨_,_,_,_,_,_,(cM m).trans e⟩⟩
  refine cP λvs W b hd=>?_;obtain⟨k,a,B,c⟩:=(hd 9 ab rfl).2 rfl;rw[a];obtain⟨u,x,y,z,f4,A⟩:=bf c;have Y:=eE c;have D:=eE b;clear c b hd a
  go_wp2_with (first
   |(go_at_call 49;refine(AX C g _).mono ?_;rintro e w'⟨rfl,l⟩;have E:bA W w':=(by rw[l];exact((eD _ _).alloc (cq _) _).alloc ar _);have F:w'.heap[W.heap.size+1]?=some (iB #[i9 jz g] 3):=(by have H:=au (W.alloc (iB C.val 77)) (iB #[i9 jz g] 3);rw[eT]at H;rw[l];exact H);have c1:w'.heap[W.heap.size]?=some (iB C.val 77):=(by rw[l];exact(((eD (W.alloc (iB C.val 77)).heap.size _).alloc (cq _) _).block _ ar).trans (au W _));have I:=eE E;have R:=eE c1;have S:=eE F;clear l E c1 F)
   |(go_at_call 48;refine(NA C g N.out _ (p.out.below (eI D.out.low I.out)) R.out S.out).mono ?_;rintro e w3⟨v,rfl,J,K⟩;have T:=eE J;have U:=eE K;clear J K))
  have L:=eI D.out.low I.out;refine ai (v:=jr #[v,i9 jz 0]) ?_ rfl ⟨v,rfl,dJ T.out (by have:=L.size;omega),eI L U.out⟩;simp[aI,Tryz.results20,go_sem]
def tD{W:ac}{r:Nat}{x0 x1 x2 x3 x4 u0 u1 u2 u3 u4:ad}{t:aJ}(h:W.heap[r]?=some (iB #[x0,x1,x2,x3,x4] t)):(((((W.setCell ⟨r,0,none⟩ u0).setCell ⟨r,1,none⟩ u1).setCell ⟨r,2,none⟩ u2).setCell ⟨r,3,none⟩ u3).setCell ⟨r,4,none⟩ u4).heap[r]?=some (iB #[u0,u1,u2,u3,u4] t):=by
 simp only[eN,fi,if_pos,h,kb];rfl
def gh{W:ac}{r b:Nat}{u0 u1 u2 u3 u4:ad}(hb:b≠r):(((((W.setCell ⟨r,0,none⟩ u0).setCell ⟨r,1,none⟩ u1).setCell ⟨r,2,none⟩ u2).setCell ⟨r,3,none⟩ u3).setCell ⟨r,4,none⟩ u4).heap[b]?=W.heap[b]?:=by
 simp only[eN,fi,if_neg (Ne.symm hb)]
def vA(l:List nR):nR:=l.getLast?.getD (0,0,0,0,0)
abbrev aaW(x:nR):Array ad:=#[i9 jz x.1,i9 jz x.2.1,i9 jz x.2.2.1,i9 jz x.2.2.2.1,i9 jz x.2.2.2.2]
def IE(l:List nR)(x:nR):vA (l++[x])=x:=by simp[vA]
def nU(C:CD)(g:Nat):Int×Int:=(vA (mD C g C.n4)).2.2.2
structure Si(w:ac)(pre:List nR)(W:ac):Prop where
 res:W.heap[w.heap.size+1]?=some (iB #[i9 jz 0,i9 jz 0] 56)
 last:W.heap[w.heap.size+2]?=some (iB (aaW (vA pre)) 72)
 low:bA w W
def yW{w W c:ac}{row:Option Nat}{a:List nR}{B:Nat}(d:w.heap.size+3<=B)(h:Si w a W)(hg:W.grownBy c row)(b:∀r,row=some r->B<=r):Si w a c:=
 ⟨(hg.block _ (eF h.res) λe=>by have:=b _ e.symm;omega).trans h.res,(hg.block _ (eF h.last) λe=>by have:=b _ e.symm;omega).trans h.last,h.low.grown hg h.low.size λk e=>by have:=b _ e;omega⟩
def Lm(C:CD)(g:Nat)(P:yR C g)(w:ac)(hA:C.At w) :
 ag PL 50 #[jp C.val,i9 jz g] w (aO (jp #[i9 jz (nU C g).1,i9 jz (nU C g).2]) w):=by
 have U:=eE hA;have V:=eE P;clear hA P;refine(cd (n:=9)).1 (ce (fx ao Tryz.func50) rfl trivial ?_ rfl);simp only[Tryz.ntmps50,ih,ii,ik,dt,du,ft,fA,il,im,io,g7];refine wpIn_wide.2 ?_;have y:Si w [] (((w.alloc (iB C.val 77)).alloc (iB #[i9 jz 0,i9 jz 0] 56)).alloc (iB #[i9 jz 0,i9 jz 0,i9 jz 0,i9 jz 0,i9 jz 0] 72)):=by
  refine⟨?_,?_,(((eD _ _).alloc (cq _) _).alloc ar _).alloc (by simp;omega) _⟩
  .have b:=au (w.alloc (iB C.val 77)) (iB #[i9 jz 0,i9 jz 0] 56);rw[eT]at b;exact(((eD ((w.alloc (iB C.val 77)).alloc (iB #[i9 jz 0,i9 jz 0] 56)).heap.size _).alloc (cq _) _).block _ ar).trans b
  .have b:=au ((w.alloc (iB C.val 77)).alloc (iB #[i9 jz 0,i9 jz 0] 56)) (iB #[i9 jz 0,i9 jz 0,i9 jz 0,i9 jz 0,i9 jz 0] 72);simp only[eT]at b;exact b
 have z:=eE y;clear y
 go_wp2_with (go_at_call 49;refine(AX C g _).mono ?_;rintro e w'⟨rfl,m⟩)
 have X:=z.out.low;have J:=br (((w.alloc (iB C.val 77)).alloc (iB #[i9 jz 0,i9 jz 0] 56)).alloc (iB #[i9 jz 0,i9 jz 0,i9 jz 0,i9 jz 0,i9 jz 0] 72));have E:w'.heap.size=w.heap.size+5:=by rw[m];simp
 have Q:w'.heap[w.heap.size+3]?=some (iB C.val 77):=by
  rw[m];have b:=au (((w.alloc (iB C.val 77)).alloc (iB #[i9 jz 0,i9 jz 0] 56)).alloc (iB #[i9 jz 0,i9 jz 0,i9 jz 0,i9 jz 0,i9 jz 0] 72)) (iB C.val 77);simp only[eT]at b;exact((((eD (World.alloc (((w.alloc (iB C.val 77)).alloc (iB #[i9 jz 0,i9 jz 0] 56)).alloc (iB #[i9 jz 0,i9 jz 0,i9 jz 0,i9 jz 0,i9 jz 0] 72)) (iB C.val 77)).heap.size _).alloc (cq _) _).block _ ar).trans b)
 have F:w'.heap[w.heap.size+4]?=some (iB #[i9 jz g] 3):=by
  rw[m];have b:=au ((((w.alloc (iB C.val 77)).alloc (iB #[i9 jz 0,i9 jz 0] 56)).alloc (iB #[i9 jz 0,i9 jz 0,i9 jz 0,i9 jz 0,i9 jz 0] 72)).alloc (iB C.val 77)) (iB #[i9 jz g] 3);simp only[eT]at b;exact b
 have H:Si w [] w':=by
  rw[m];exact yW (cq _) z.out ((e6 _ _ none).trans (e6 _ _ none)) (λr e=>by cases e)
 have d:=eE E;have L:=eE Q;have M:=eE F;rw[<-m];clear E Q F m X J;refine(wpIn_wide (n:=9)).1 ?_;refine yU ab (gf:=73) (lb:=#[js (some ⟨w.heap.size+3,0,none⟩),js (some ⟨w.heap.size+4,0,none⟩)]) rfl (enters_of (fx ao eA) ae rfl)
  (yT 8 ab (w.heap.size+3) (w.heap.size+4) w.heap.size g C V.out w rfl U.out)
  (λW I=>?_) Li (λW l o R hl Z hc hw=>Lj (n:=w.heap.size) (s:=w.heap.size+5) ab W l o R (by have:=d.out;omega) Z hc hw) (λ_=>rfl)
  (Si w) (λs A B row hs hg N=>yW (B:=w'.heap.size) (by have:=d.out;omega) hs hg λr e=>(N r e).1) (λs A B row hs hg N=>yW (B:=w'.heap.size) (by have:=d.out;omega) hs hg λr e=>(N r e).1) H
  (λx a W=>∃k,W.heap[k]?=some (iB (aaW x) 72)/\a={ tmps:=#[jp C.val,i9 jz g,js (some ⟨w.heap.size,0,none⟩),undef,js (some ⟨w.heap.size+1,0,none⟩),js (some ⟨w.heap.size+2,0,none⟩),js (some ⟨k,0,none⟩),jp C.val,i9 jz g,jw (.func 73) #[] #[js (some ⟨w.heap.size+3,0,none⟩),js (some ⟨w.heap.size+4,0,none⟩)],jp (aaW x),undef,undef,undef],defers:=[] })
  ?A ?kg ?assign ?body ?done
 .have e:∀k,k<w.heap.size->W.heap[k]?=w.heap[k]?:=λk f=>(I.block k (by have:=d.out;omega)).trans (H.low.block k f);exact⟨e,by have:=I.size;have:=d.out;omega,(I.block _ (by have:=d.out;omega)).trans L.out,(I.block _ (by have:=d.out;omega)).trans M.out⟩
 case A=>
  rintro x a W l o R hl hc⟨k,f,ha⟩;refine⟨k,(fg (λe=>?_)).trans f,ha⟩;subst e;rw[hl]at f;cases f;cases hc
 case kg=>
  intro A B hs hg;have:=d.out;exact⟨λk f=>hg.block k ab ar,λk c t h _ _=>(hg.block k (eF h) ar).trans h,hg.size⟩
 case assign=>
  intro l x W K O;dsimp only[VS]
  gi_wp2
  refine O _ _ (e6 W _ none) ⟨W.heap.size,au _ _,rfl⟩
 case body=>
  rintro l pre x a W i⟨k,f,rfl⟩Nw;obtain⟨k0,k1,k2,k3,k4⟩:=qO f;obtain⟨l0,l1,l2,l3,l4⟩:=qO i.last;have fl:=tO i.last;have j:=eE i;clear i f
  gi_wp2
  have Cu:=eF j.out.last;refine⟨((((kp W _ _).trans (kp _ _ _)).trans (kp _ _ _)).trans (kp _ _ _)).trans (kp _ _ _),⟨λq hq=>gh ab,λq c t h b h2=>(gh (λe=>?_)).trans h,ar⟩,⟨(gh ab).trans j.out.res,by rw[IE];exact tD j.out.last,((((j.out.low.setCell (p:=⟨w.heap.size+2,0,none⟩) ar _).setCell (p:=⟨w.heap.size+2,1,none⟩) ar _).setCell (p:=⟨w.heap.size+2,2,none⟩) ar _).setCell (p:=⟨w.heap.size+2,3,none⟩) ar _).setCell (p:=⟨w.heap.size+2,4,none⟩) ar _⟩⟩;subst e;have S:=j.out.last;rw[h]at S;cases S;exact b rfl
 case done=>
  intro D W T i O;obtain⟨l0,l1,l2,l3,l4⟩:=qO i.last;obtain⟨t0,t1,u0,u1⟩:=uJ i.res;have j:=eE i;have HD:=eE T;clear i T;go_wp2;have hK':=((kp W ⟨w.heap.size+1,0,none⟩ (i9 jz (vA (mD C g C.n4)).2.2.2.1)).trans (kp _ ⟨w.heap.size+1,1,none⟩ (i9 jz (vA (mD C g C.n4)).2.2.2.2))).same D _ O rfl;obtain⟨d0,d1,_,_⟩:=yD (u:=i9 jz (vA (mD C g C.n4)).2.2.2.1) (v:=i9 jz (vA (mD C g C.n4)).2.2.2.2) t0 t1;have e0:=cell_kept d0 (ch _ D (iU none)) (λr e=>by cases e;exact⟨_,hK',rfl⟩);have e1:=cell_kept d1 (ch _ D (iU none)) (λr e=>by cases e;exact⟨_,hK',rfl⟩);refine⟨ar,kt ⟨_,_,rfl,cf hK',?_⟩⟩;refine⟨jp #[i9 jz (nU C g).1,i9 jz (nU C g).2],?_,rfl,(((j.out.low.setCell (p:=⟨w.heap.size+1,0,none⟩) (dq _) _).setCell (p:=⟨w.heap.size+1,1,none⟩) (dq _) _)).trans (belowK_b (w:=w) (cq _) _ D _ _ (by have:=HD.out;have:=d.out;omega) hK' rfl rfl)⟩;simp[aI,Tryz.results50,go_sem,e0,e1,nU]
structure KE(C:CD)(w W:ac):Prop where
 box:W.heap[w.heap.size]?=some (iB C.val 27)
 res:W.heap[w.heap.size+1]?=some (iB #[i9 jz 0,i9 jz 0] 56)
 low:bA w W
def KE.on{C:CD}{w W b:ac}(h:KE C w W)(a:bA W b):KE C w b:=
 ⟨(a.block _ (eF h.box)).trans h.box,(a.block _ (eF h.res)).trans h.res,eI h.low a⟩
def KE.lt{C:CD}{w W:ac}(h:KE C w W):w.heap.size+1<W.heap.size:=eF h.res
def alV(C:CD)(w:ac)(j:Nat)(vs:Nat->ad)(W:ac):Prop:=
 (j=8->∃k,vs 8=js (some ⟨k,0,none⟩)/\w.heap.size+1<k/\Six W k)/\(j=9->∃k,vs 8=js (some ⟨k,0,none⟩)/\w.heap.size+1<k/\W.heap[k]?=some (iB C.val 77))
def Sj(C:CD)(g:Nat)(w:ac)(h:C.At w)(hg:g<C.n5)(m5:C.n5<=3)(hf:C.b6 true=0)(x:yR C g) :
 ag PL 21 #[jp C.val,i9 jz g] w (aO (jr #[jp #[i9 jz (nU C g).1,i9 jz (nU C g).2],i9 jz 0]) w):=by
 have y:=eE h;have K:=eE hf;have L:=eE x
 have n:Hid (KE C w ((w.alloc (iB C.val 27)).alloc (iB #[i9 jz 0,i9 jz 0] 56))):=eE ⟨(((eD (w.alloc (iB C.val 27)).heap.size _).alloc (cq _) _).block _ ar).trans (au w _),by
  have z:=au (w.alloc (iB C.val 27)) (iB #[i9 jz 0,i9 jz 0] 56);rw[eT]at z
  exact z,((eD _ _).alloc (cq _) _).alloc ar _⟩
 clear h hf x;go_enter (fx ao Tryz.func21),Tryz.ntmps21
 go_upto_region 1 with fail
 refine cT 10 (KE C w) (Fo C) (λj=>j != 8&&j != 9) (alV C w) rfl ae ae
  (λi vs W A l h=>⟨λe=>(h.1 e).imp λk b=>⟨b.1,b.2.1,(l k).2 b.2.2⟩,λe=>(h.2 e).imp λk b=>⟨b.1,b.2.1,(l k).1 b.2.2⟩⟩) (λi o B vs M W N hd h=>⟨λe=>?_,λe=>?_⟩) ?_ ?_
 .subst e;rw[<-N];exact h.1 rfl
 .subst e;have O:vs 8=M 8:=by
   simp only[gl,ip,ix,Option.some.injEq]at B;subst B;exact hd ⟨8,.data⟩ (cH.2 ⟨ar,rfl⟩)
  rw[<-O];exact h.2 rfl
 .exact⟨n.out.box,n.out.res,n.out.low.drew⟩
 .iterate 8 (
   apply aY
   case hE=>rfl
   case h=>
    intro vs W a hd;obtain⟨D,E,F,H,f4,I⟩:=bf a.box;go_simp
    first
    |(go_at_call 47;refine(AZ C g hg m5 _).mono ?_;rintro e A⟨rfl,d⟩;exact⟨_,rfl,rfl,a.on d,Fo.on d⟩)
    |(go_at_call 27;refine(kF K.out (y.out.below a.low)).mono ?_;rintro e A⟨rfl,d⟩;exact⟨_,rfl,rfl,a.on d,Fo.on d⟩)
    |exact⟨rfl,Fo.on (eD _ _)⟩
   case hb=>exact KD)
  apply eH
  case hE=>rfl
  case hb=>exact KD
  case h=>
   intro vs W a hd;go_simp;have d:=(eD W.heap.size W).alloc (cq _) (iB #[i9 jz 0,i9 jz 0,jk none 0 0,jk none 0 0,jk none 0 0,jk none 0 0] 77)
   first
   |exact⟨a.on d,Fo.on d,⟨λ_=>⟨W.heap.size,by simp[upd],a.lt,_,_,_,_,_,_,au W _⟩,bp⟩⟩
  apply eH
  case hE=>rfl
  case hb=>exact KD
  case h=>
   intro vs W a hd;obtain⟨k,b,J,x0,x1,x2,x3,x4,S,c⟩:=(hd ⟨8,.data⟩ (cH.2 ⟨ar,rfl⟩) rfl).1 rfl;obtain⟨D,E,F,H,f4,I⟩:=bf c;have T:=tO c;rw[b];go_simp;refine⟨⟨(cM ab).trans a.box,(cM ab).trans a.res,eM a.low ab _ _ _ _ _ _⟩,λq=>?_,⟨bp,λ_=>⟨k,by simp[upd,b],J,nC c⟩⟩⟩;by_cases r:q=k
   .subst r;exact⟨λ_=>nC c,λ_=>⟨_,_,_,_,_,_,nC c⟩⟩
   .exact⟨λe=>(cM r).trans e,fun⟨_,_,_,_,_,_,e⟩=>⟨_,_,_,_,_,_,(cM r).trans e⟩⟩
  refine cP λvs W a hd=>?_;obtain⟨k,b,J,c⟩:=(hd 9 ab rfl).2 rfl;rw[b];obtain⟨D,E,F,H,f4,I⟩:=bf c;have U:=eE c;have f:=eE a;clear c a hd b;obtain⟨V,t1,u0,u1⟩:=uJ f.out.res;have fr:=tO f.out.res
  go_wp2_with (go_at_call 50;refine(Lm C g L.out _ (y.out.below f.out.low)).mono ?_;rintro e w3⟨rfl,s⟩;have m:=(s.block _ (eF f.out.res)).trans f.out.res;obtain⟨X,v1,Y,Z⟩:=uJ m;have P:=tO m;have Q:=eE s;have t:=eE m;clear s m)
  have R:=eI f.out.low Q.out;refine ai (v:=jr #[jp #[i9 jz (nU C g).1,i9 jz (nU C g).2],i9 jz 0]) ?_ rfl ⟨rfl,(R.setCell (p:=⟨w.heap.size+1,0,none⟩) (dq _) _).setCell (p:=⟨w.heap.size+1,1,none⟩) (dq _) _⟩;obtain⟨a0,a1,_,_⟩:=uJ (yL (u:=i9 jz (nU C g).1) (v:=i9 jz (nU C g).2) t.out);simp[aI,Tryz.results21,go_sem,a0,a1]
end Go.Proofs
