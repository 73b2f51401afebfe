/- Part of the proof of FieldAllowed. -/
import Derived.Test.YtbjbbfdekalacaaGreatX06
import Derived.Maps.AppendAt
import Derived.Shelf.SlSortCmp.InsertionK
import Derived.WalkMore
set_option linter.all false
open Go renaming World->ac,Value->ad,Calls->ag,bodyPost_ret->ai,results->aI,TypeId->aJ,Oper->aP,Exit->aT,Operand->bd,wpList->bi,info_parts->bj,wpList_append_own->bm,maxLen->bq,cell_one_new->bv,Addr->bC,wp_region_noPanic->bL,callsIn_wide->bM,callsIn_of_wp_marks->bR,run_takeDeferred->bT,grownBy_putObj'->b1
open Nat renaming lt_of_lt_of_le->b9,eq_zero_or_pos->cd,zero_le->ce,add_assoc->cf,le_refl->ch,le_of_ble_eq_true->ci,zero_add->cl,lt_irrefl->co,sub_self->cq,le_trans->ct,not_lt_zero->cv,mul_comm->cB,mod_lt->cC,succ_mul->cQ,mul_le_mul_right->c9,mul_one->da,mul_add_div->db,div_eq_of_lt->dd,le_succ->df,reduceAdd->dk,reduceSub->dp,le_of_lt->dq
open Go.Proofs.Tryz renaming func27->dt,ntmps27->du,func25->dv,ntmps25->dC,func24->dL,ntmps24->dO,func26->dQ,ntmps26->dT,func53->dU,ntmps53->d8,func108->d9,ntmps108->ec,func109->eh,ntmps109->ei,func110->ej,ntmps110->ek,func111->el,ntmps111->em,func130->ep,func63->eq,func72->et
open Go.RowKit.Below renaming refl->eu
open Go.Lib renaming hid->eA
open Go.Proofs renaming getElem?_lt'->eD
open Go.Proofs.Below renaming on->eE,zQ->eF
open Go.World renaming setCell->eI,cell?->eM,size_setCell->eN,size_alloc->eQ,setRow->eS,putObj->eT,grownBy_alloc->eV,putObj_heap_same->eW,putObj_heap_other->e6
open Array renaming getElem?_modify->e7,getElem?_eq_getElem->fc,length_toList->fg,getElem?_toList->fi,replicate_succ->fm,replicate_zero->fo
open Go.Obj renaming cells->fp,deferred->ft,loop->fA
open Go.Value renaming int->fB,string->fJ,slice->fP,oneCell'->fR,bool->fY,agg->f6,tuple->f7,pointer->f8,func->f9
open List renaming mem_cons->gc,not_mem_nil->ge,getElem?_map->gj,getElem?_eq_getElem->gl,getD_eq_getElem?_getD->gp,getElem?_take_of_lt->gr,length_append->gt,map_append->gw,range->gy,all_eq_true->gB,getElem?_toArray->gD,append_assoc->gG,getElem?_append_right->gL,getElem?_append_left->g7,getElem?_take->g8,ext_getElem?->g9,getElem?_eq_none->hh,range_succ->hk,flatMap_cons->ht,cons_append->hu,take_succ_cons->hG,take_zero->hH,drop_succ_cons->hM,drop_zero->hT,size_toArray->hV,length_cons->hZ,length_nil->h6,push_toArray->h7,append_toArray->h8,nil_append->ib,flatMap_append->ih,append_nil->ii,getElem?_cons_succ->ik,getElem?_cons_zero->il,foldl->im
open Go.World.ownsRow renaming alloc->io
open Go.IntKind renaming i64->ip
open Bool renaming and_eq_true->ix
open Go.Instr renaming field->iB,build->iN
open Option.some renaming inj->iP,injEq->iU
open Option renaming map_some->iY
open Go.Addr renaming add->i9
open Go.KeepsOthers renaming alloc->jf,of_grownBy->jk,setCell->jl
open Go.Value.slice renaming inj->jn
open Go.Ending renaming returned->jp
open Go.TypeDesc renaming slice->jr
open Or renaming inl->js,inr->jt
open Go.Result renaming ok->jx
open Go.Fn renaming yield->jz,func->jD
set_option maxHeartbeats 4000000
set_option maxRecDepth 100000
namespace Go.Proofs
open Go.RowKit
def Reads(W:ac)(v:ad)(n m:Nat)(f:Nat->ad):Prop:=∃b c,v=fP b n c/\(0<n->∃k o,b=some ⟨k,o,none⟩/\k<W.heap.size/\∀j,j<n*m->W.cell? ⟨k,o+j,none⟩=some (f j))
def Reads.on{W a:ac}{v:ad}{n m:Nat}{f:Nat->ad}(h:Reads W v n m f)(d:bA W a):Reads a v n m f:=by
 obtain⟨b,c,e,h⟩:=h;refine⟨b,c,e,λi=>?_⟩;obtain⟨k,o,e1,g,hc⟩:=h i;exact⟨k,o,e1,b9 g d.size,λj l=>(d.cell (p:=⟨k,o+j,none⟩) g).trans (hc j l)⟩
def aaC:PL.stoodInHeld 72=false:=ae
def Vy:PL.eqGuardType PL.depth 72=false:=ae
def Rw:PL.stoodInHeld 76=false:=ae
def Kv:PL.eqGuardType PL.depth 76=false:=ae
def pI(a b:ad)(n:Nat)(f:Nat->Int)(w:ac)(c:Reads w a n 1 λj=>fB ip (f j))(hb:Reads w b n 1 λj=>fB ip (f j))(h:n<=20):ag PL 27 #[a,b] w (aO (fY true) w):=by
 obtain⟨r,s,rfl,c⟩:=c;obtain⟨t,u,rfl,hb⟩:=hb
 rcases cd n with rfl|e
 .clear c hb h;go_enter (fx ao dt),du;go_wp2
  go_loop [5] (λv=>v=fB ip 0) (λ_=>0)
  case atStart=>rfl
  case round=>
   subst hrel;go_wp2;go_ret;exact⟨rfl,eu _ _⟩
 .obtain⟨k,o,rfl,i,c⟩:=c e;obtain⟨k',g,rfl,l,hb⟩:=hb e;have A:=eA c;have B:=eA hb;clear c hb;go_enter (fx ao dt),du;go_wp2
  go_loopw [5] (λv wr=>∃q:Nat,q<=n/\v=fB ip q/\bA w wr) (λv _=>n-(intOf v).toNat)
  case atStart=>exact⟨0,ce _,rfl,eu _ _⟩
  case round=>
   obtain⟨q,x,rfl,d⟩:=hrel;by_cases m:q<n
   .have y:(q:Int)<n:=ab;have a0:wr.cell? ⟨k,o+q,none⟩=some (fB ip (f q)):=(d.cell (p:=⟨k,o+q,none⟩) i).trans (A.out q ab);have b0:wr.cell? ⟨k',g+q,none⟩=some (fB ip (f q)):=(d.cell (p:=⟨k',g+q,none⟩) l).trans (B.out q ab);go_wp2
    go_quiet (fail)
    go_wp2;refine⟨⟨q+1,m,by go_num,below_drewN d _⟩,by simp only[intOf];omega⟩
   .obtain rfl:q=n:=ab;go_wp2;go_ret;exact⟨rfl,d⟩
def Cp(a b:ad)(n:Nat)(f:Nat->Int)(w:ac)(c:Reads w a n 1 λj=>fB ip (f j))(hb:Reads w b n 1 λj=>fB ip (f j))(h:n<=20):ag PL 25 #[a,b] w (aO (fY true) w):=by
 obtain⟨r,s,rfl,c⟩:=c;obtain⟨t,u,rfl,hb⟩:=hb
 rcases cd n with rfl|e
 .clear c hb h;go_enter (fx ao dv),dC;go_wp2
  go_loop [5] (λv=>v=fB ip 0) (λ_=>0)
  case atStart=>rfl
  case round=>
   subst hrel;go_wp2;go_ret;exact⟨rfl,eu _ _⟩
 .obtain⟨k,o,rfl,i,c⟩:=c e;obtain⟨k',g,rfl,l,hb⟩:=hb e;have A:=eA c;have B:=eA hb;clear c hb;go_enter (fx ao dv),dC;go_wp2
  go_loopw [5] (λv wr=>∃q:Nat,q<=n/\v=fB ip q/\bA w wr) (λv _=>n-(intOf v).toNat)
  case atStart=>exact⟨0,ce _,rfl,eu _ _⟩
  case round=>
   obtain⟨q,x,rfl,d⟩:=hrel;by_cases m:q<n
   .have y:(q:Int)<n:=ab;have a0:wr.cell? ⟨k,o+q,none⟩=some (fB ip (f q)):=(d.cell (p:=⟨k,o+q,none⟩) i).trans (A.out q ab);have b0:wr.cell? ⟨k',g+q,none⟩=some (fB ip (f q)):=(d.cell (p:=⟨k',g+q,none⟩) l).trans (B.out q ab);go_wp2
    go_quiet (fail)
    go_wp2;refine⟨⟨q+1,m,by go_num,below_drewN d _⟩,by simp only[intOf];omega⟩
   .obtain rfl:q=n:=ab;go_wp2;go_ret;exact⟨rfl,d⟩
def zT(a b:ad)(n:Nat)(f:Nat->Int)(w:ac)(e:Reads w a n 5 λj=>fB ip (f j))(hb:Reads w b n 5 λj=>fB ip (f j))(l:n<=20):ag PL 24 #[a,b] w (aO (fY true) w):=by
 obtain⟨r,s,rfl,e⟩:=e;obtain⟨t,u,rfl,hb⟩:=hb;have q1:=aaC;have q2:=Vy;have q3:=yM
 rcases cd n with rfl|i
 .clear e hb l;go_enter (fx ao dL),dO;go_wp2
  go_loop [5] (λv=>v=fB ip 0) (λ_=>0)
  case atStart=>rfl
  case round=>
   subst hrel;go_wp2;go_ret;exact⟨rfl,eu _ _⟩
 .obtain⟨k,o,rfl,g,e⟩:=e i;obtain⟨k',d,rfl,h,hb⟩:=hb i;have A:=eA e;have B:=eA hb;clear e hb;go_enter (fx ao dL),dO;go_wp2
  go_loopw [5] (λv wr=>∃q:Nat,q<=n/\v=fB ip q/\bA w wr) (λv _=>n-(intOf v).toNat)
  case atStart=>exact⟨0,ce _,rfl,eu _ _⟩
  case round=>
   obtain⟨q,x,rfl,c⟩:=hrel;by_cases m:q<n
   .have y:(q:Int)<n:=ab;have a0:wr.cell? ⟨k,o+q*5,none⟩=some (fB ip (f (q*5))):=(c.cell (p:=⟨k,o+q*5,none⟩) g).trans ((by have:=A.out (q*5) ab;simpa using this));have a1:wr.cell? ⟨k,o+q*5+1,none⟩=some (fB ip (f (q*5+1))):=(c.cell (p:=⟨k,o+q*5+1,none⟩) g).trans ((by have:=A.out (q*5+1) ab;rwa[<-cf]at this));have a2:wr.cell? ⟨k,o+q*5+2,none⟩=some (fB ip (f (q*5+2))):=(c.cell (p:=⟨k,o+q*5+2,none⟩) g).trans ((by have:=A.out (q*5+2) ab;rwa[<-cf]at this));have a3:wr.cell? ⟨k,o+q*5+3,none⟩=some (fB ip (f (q*5+3))):=(c.cell (p:=⟨k,o+q*5+3,none⟩) g).trans ((by have:=A.out (q*5+3) ab;rwa[<-cf]at this));have a4:wr.cell? ⟨k,o+q*5+4,none⟩=some (fB ip (f (q*5+4))):=(c.cell (p:=⟨k,o+q*5+4,none⟩) g).trans ((by have:=A.out (q*5+4) ab;rwa[<-cf]at this));have b0:wr.cell? ⟨k',d+q*5,none⟩=some (fB ip (f (q*5))):=(c.cell (p:=⟨k',d+q*5,none⟩) h).trans ((by have:=B.out (q*5) ab;simpa using this));have z:wr.cell? ⟨k',d+q*5+1,none⟩=some (fB ip (f (q*5+1))):=(c.cell (p:=⟨k',d+q*5+1,none⟩) h).trans ((by have:=B.out (q*5+1) ab;rwa[<-cf]at this));have C:wr.cell? ⟨k',d+q*5+2,none⟩=some (fB ip (f (q*5+2))):=(c.cell (p:=⟨k',d+q*5+2,none⟩) h).trans ((by have:=B.out (q*5+2) ab;rwa[<-cf]at this));have D:wr.cell? ⟨k',d+q*5+3,none⟩=some (fB ip (f (q*5+3))):=(c.cell (p:=⟨k',d+q*5+3,none⟩) h).trans ((by have:=B.out (q*5+3) ab;rwa[<-cf]at this));have E:wr.cell? ⟨k',d+q*5+4,none⟩=some (fB ip (f (q*5+4))):=(c.cell (p:=⟨k',d+q*5+4,none⟩) h).trans ((by have:=B.out (q*5+4) ab;rwa[<-cf]at this))
    go_wp2
    go_quiet (fail)
    go_wp2;refine⟨⟨q+1,m,by go_num,below_drewN c _⟩,by simp only[intOf];omega⟩
   .obtain rfl:q=n:=ab;go_wp2;go_ret;exact⟨rfl,c⟩
def vS(a b:ad)(n:Nat)(f:Nat->Int)(w:ac)(e:Reads w a n 5 λj=>fB ip (f j))(hb:Reads w b n 5 λj=>fB ip (f j))(l:n<=20):ag PL 26 #[a,b] w (aO (fY true) w):=by
 obtain⟨r,s,rfl,e⟩:=e;obtain⟨t,u,rfl,hb⟩:=hb;have q1:=Rw;have q2:=Kv;have q3:=yM
 rcases cd n with rfl|i
 .clear e hb l;go_enter (fx ao dQ),dT;go_wp2
  go_loop [5] (λv=>v=fB ip 0) (λ_=>0)
  case atStart=>rfl
  case round=>
   subst hrel;go_wp2;go_ret;exact⟨rfl,eu _ _⟩
 .obtain⟨k,o,rfl,g,e⟩:=e i;obtain⟨k',d,rfl,h,hb⟩:=hb i;have A:=eA e;have B:=eA hb;clear e hb;go_enter (fx ao dQ),dT;go_wp2
  go_loopw [5] (λv wr=>∃q:Nat,q<=n/\v=fB ip q/\bA w wr) (λv _=>n-(intOf v).toNat)
  case atStart=>exact⟨0,ce _,rfl,eu _ _⟩
  case round=>
   obtain⟨q,x,rfl,c⟩:=hrel;by_cases m:q<n
   .have y:(q:Int)<n:=ab;have a0:wr.cell? ⟨k,o+q*5,none⟩=some (fB ip (f (q*5))):=(c.cell (p:=⟨k,o+q*5,none⟩) g).trans ((by have:=A.out (q*5) ab;simpa using this));have a1:wr.cell? ⟨k,o+q*5+1,none⟩=some (fB ip (f (q*5+1))):=(c.cell (p:=⟨k,o+q*5+1,none⟩) g).trans ((by have:=A.out (q*5+1) ab;rwa[<-cf]at this));have a2:wr.cell? ⟨k,o+q*5+2,none⟩=some (fB ip (f (q*5+2))):=(c.cell (p:=⟨k,o+q*5+2,none⟩) g).trans ((by have:=A.out (q*5+2) ab;rwa[<-cf]at this));have a3:wr.cell? ⟨k,o+q*5+3,none⟩=some (fB ip (f (q*5+3))):=(c.cell (p:=⟨k,o+q*5+3,none⟩) g).trans ((by have:=A.out (q*5+3) ab;rwa[<-cf]at this));have a4:wr.cell? ⟨k,o+q*5+4,none⟩=some (fB ip (f (q*5+4))):=(c.cell (p:=⟨k,o+q*5+4,none⟩) g).trans ((by have:=A.out (q*5+4) ab;rwa[<-cf]at this));have b0:wr.cell? ⟨k',d+q*5,none⟩=some (fB ip (f (q*5))):=(c.cell (p:=⟨k',d+q*5,none⟩) h).trans ((by have:=B.out (q*5) ab;simpa using this));have z:wr.cell? ⟨k',d+q*5+1,none⟩=some (fB ip (f (q*5+1))):=(c.cell (p:=⟨k',d+q*5+1,none⟩) h).trans ((by have:=B.out (q*5+1) ab;rwa[<-cf]at this));have C:wr.cell? ⟨k',d+q*5+2,none⟩=some (fB ip (f (q*5+2))):=(c.cell (p:=⟨k',d+q*5+2,none⟩) h).trans ((by have:=B.out (q*5+2) ab;rwa[<-cf]at this));have D:wr.cell? ⟨k',d+q*5+3,none⟩=some (fB ip (f (q*5+3))):=(c.cell (p:=⟨k',d+q*5+3,none⟩) h).trans ((by have:=B.out (q*5+3) ab;rwa[<-cf]at this));have E:wr.cell? ⟨k',d+q*5+4,none⟩=some (fB ip (f (q*5+4))):=(c.cell (p:=⟨k',d+q*5+4,none⟩) h).trans ((by have:=B.out (q*5+4) ab;rwa[<-cf]at this))
    go_wp2
    go_quiet (fail)
    go_wp2;refine⟨⟨q+1,m,by go_num,below_drewN c _⟩,by simp only[intOf];omega⟩
   .obtain rfl:q=n:=ab;go_wp2;go_ret;exact⟨rfl,c⟩
def fU(a b:Int)(w:ac):ag PL 9 #[fB ip a,fB ip b] w (aO (f6 #[fB ip a,fB ip b]) w):=by
 go_enter (fx ao Tryz.func9),Tryz.ntmps9;go_wp2;refine ai (v:=f6 #[fB ip a,fB ip b]) ?_ rfl ⟨rfl,(eu _ _).alloc (ch _) _⟩;simp[aI,Tryz.results9,go_sem]
structure Lay(w W:ac)(l:List (Nat×Obj)):Prop where
 iM:∀p∈l,W.heap[p.1]?=some p.2
 low:bA w W
def Lay.on{w W a:ac}{l:List (Nat×Obj)}(h:Lay w W l)(b:bA W a):Lay w a l:=
 ⟨λp c=>(b.block _ (eD (h.iM p c))).trans (h.iM p c),eE h.low b⟩
def Lay.alloc{w W:ac}{l:List (Nat×Obj)}(h:Lay w W l)(o:Obj):Lay w (W.alloc o) ((W.heap.size,o)::l):=
 ⟨λp a=>by
   rcases List.mem_cons.1 a with rfl|a
   .exact au W o
   .exact(((eu W.heap.size W).alloc (ch _) o).block _ (eD (h.iM p a))).trans (h.iM p a),h.low.alloc h.low.size o⟩
def Lay.nil(w:ac):Lay w w []:=⟨λ_ h=>(by cases h),eu _ _⟩
theorem Lay.set{w W:ac}{l:List (Nat×Obj)}(h:Lay w W l){R:Nat}(b:w.heap.size<=R)(hl:∀p∈l,R≠p.1)(o:Nat)(v:ad):Lay w (W.setCell ⟨R,o,none⟩ v) l:=
 ⟨λp a=>by
   have:(W.setCell ⟨R,o,none⟩ v).heap[p.1]?=W.heap[p.1]?:=by simp only[eI,e7,if_neg (hl p a)]
   rw[this];exact h.iM p a,h.low.setCell (p:=⟨R,o,none⟩) b v⟩
def Lay.init{w W:ac}{l:List (Nat×Obj)}{p:Nat×Obj}(h:Lay w W (l++[p])):Lay w W l:=⟨λq a=>h.iM q (List.mem_append_left _ a),h.low⟩
def tO{W:ac}{k:Nat}{c:Array ad}{t:aJ}(h:W.heap[k]?=some (fp c t)):∀o,W.frozen? ⟨k,o,none⟩=false:=λo=>by simp[World.frozen?,h]
def exN:Nat->Nat->Int
 |0,1=>20|0,2=>20|0,3=>0|0,4=>12|0,5=>1|0,6=>1|0,7=>4|0,8=>6|0,9=>2|0,10=>3
 |1,1=>13|1,2=>13|1,3=>5|1,4=>5|1,5=>0|1,6=>2|1,7=>4|1,8=>5|1,9=>3|1,10=>3
 |2,1=>25|2,2=>25|2,3=>-7|2,4=>7|2,5=>1|2,6=>3|2,7=>5|2,8=>5|2,9=>2|2,10=>4
 |_,_=>0
def Vz(a ca lb b:Nat):Nat->iJ
 |0=>{ name:=⟨#[97]⟩,n:=exN 0,lb:=some ⟨a,0,none⟩,ln:=1,lc:=ca,lk:=a,lo:=0,lane:=λ_=>1 }
 |1=>{ name:=⟨#[98]⟩,n:=exN 1,lb:=some ⟨lb,0,none⟩,ln:=1,lc:=b,lk:=lb,lo:=0,lane:=λ_=>2 }
 |_=>{ name:=⟨#[99]⟩,n:=exN 2,lb:=none,ln:=0,lc:=0,lk:=0,lo:=0,lane:=λ_=>0 }
def alj:Nat->Int×Int
 |0=>(5,15)|_=>(10,18)
def zU:Nat->Int×Int×Int
 |0=>(0,1,40)|1=>(1,2,30)|2=>(2,3,30)|_=>(0,3,80)
def alk(d:Int):Nat->ByteArray×Int×Int
 |0=>(⟨#[114,101,100]⟩,0,0)|_=>(⟨#[98,108,117,101]⟩,1,d)
def ir(k2 c k3 c3 a e b f g ca lb h:Nat)(d:Int):CD:=
 { l:=60,p:=4,b2:=some ⟨k2,0,none⟩,k2:=k2,o2:=0,n2:=2,c2:=c,x2:=alj,b3:=some ⟨k3,0,none⟩,k3:=k3,o3:=0,n3:=4,c3:=c3,x3:=zU,
   b4:=some ⟨a,0,none⟩,k4:=a,o4:=0,n4:=3,c4:=e,x4:=Vz g ca lb h,b5:=some ⟨b,0,none⟩,k5:=b,o5:=0,n5:=2,c5:=f,x5:=alk d }
def VB(d:Int)(C:CD):Prop:=∃k2 a k3 c3 b c e f g h lb i,C=ir k2 a k3 c3 b c e f g h lb i d
abbrev bh(n:Int):ad:=fB ip n
def vT:List ad:=[bh 5,bh 15,bh 10,bh 18]
def vU:List ad:=[bh 0,bh 1,bh 40,bh 1,bh 2,bh 30,bh 2,bh 3,bh 30,bh 0,bh 3,bh 80]
def rO(a ca lb b:Nat):List ad:=[fJ ⟨#[97]⟩,bh 20,bh 20,bh 0,bh 12,bh 1,bh 1,bh 4,bh 6,bh 2,bh 3,fP (some ⟨a,0,none⟩) 1 ca,fJ ⟨#[98]⟩,bh 13,bh 13,bh 5,bh 5,bh 0,bh 2,bh 4,bh 5,bh 3,bh 3,fP (some ⟨lb,0,none⟩) 1 b,fJ ⟨#[99]⟩,bh 25,bh 25,bh (-7),bh 7,bh 1,bh 3,bh 5,bh 5,bh 2,bh 4,fP none 0 0]
def qB(d:Int):List ad:=[fJ ⟨#[114,101,100]⟩,bh 0,bh 0,fJ ⟨#[98,108,117,101]⟩,bh 1,bh d]
def Row(W:ac)(k:Nat)(l:List ad):Prop:=k<W.heap.size/\∀(j:Nat)v,l[j]?=some v->W.cell? ⟨k,j,none⟩=some v
def Row.of{W:ac}{k:Nat}{l:List ad}{c:Array ad}{t:aJ}{a:Nat×Nat}(h:W.heap[k]?=some (fp c t a))(hl:∀(j:Nat)v,l[j]?=some v->c[j]?=some v):Row W k l:=
 ⟨eD h,λj v e=>by simp[eM,h,hl j v e]⟩
def Row.on{W a:ac}{k:Nat}{l:List ad}(h:Row W k l)(b:bA W a):Row a k l:=
 ⟨b9 h.1 b.size,λj v e=>(b.cell (p:=⟨k,j,none⟩) h.1).trans (h.2 j v e)⟩
def Lay.row{w W:ac}{L:List (Nat×Obj)}(h:Lay w W L){k:Nat}{c:Array ad}{t:aJ}{l:List ad}(a:(k,fp c t)∈L)(e:c.toList=l):Row W k l:=
 Row.of (h.iM _ a) λj v hv=>by rw[<-e]at hv;simpa using hv
def Rx{W:ac}{k2 p k3 c3 k q m r h ca lb l:Nat}{d:Int}(b:Row W k2 vT)(a:Row W k3 vU)(c:Row W k (rO h ca lb l))(f:Row W m (qB d))(s:Row W h [bh 1])(hb:Row W lb [bh 2]) :
 (ir k2 p k3 c3 k q m r h ca lb l d).At W:=by
 refine⟨ci rfl,ci rfl,ci rfl,ci rfl,b.1,a.1,c.1,f.1,λ_=>rfl,λ_=>rfl,λ_=>rfl,λ_=>rfl,λi hi=>?_,λi hi=>?_,λi hi=>?_,λi hi=>?_,λi hi=>?_,λi hi=>?_,λi hi=>?_,λi hi j o b=>?_,λi hi=>?_,λi hi hl=>?_,λi hi j g=>?_,λi hi=>?_,λi hi=>?_,λi hi=>?_,λi hi=>?_⟩
 .match i,hi with
  |0,_=>exact b.2 0 _ rfl
  |1,_=>exact b.2 2 _ rfl
 .match i,hi with
  |0,_=>exact b.2 1 _ rfl
  |1,_=>exact b.2 3 _ rfl
 .match i,hi with
  |0,_=>exact a.2 0 _ rfl
  |1,_=>exact a.2 3 _ rfl
  |2,_=>exact a.2 6 _ rfl
  |3,_=>exact a.2 9 _ rfl
 .match i,hi with
  |0,_=>exact a.2 1 _ rfl
  |1,_=>exact a.2 4 _ rfl
  |2,_=>exact a.2 7 _ rfl
  |3,_=>exact a.2 10 _ rfl
 .match i,hi with
  |0,_=>exact a.2 2 _ rfl
  |1,_=>exact a.2 5 _ rfl
  |2,_=>exact a.2 8 _ rfl
  |3,_=>exact a.2 11 _ rfl
 .match i,hi with
  |0,_=>exact⟨ci rfl,ci rfl⟩
  |1,_=>exact⟨ci rfl,ci rfl⟩
  |2,_=>exact⟨ci rfl,ci rfl⟩
 .match i,hi with
  |0,_=>exact c.2 0 _ rfl
  |1,_=>exact c.2 12 _ rfl
  |2,_=>exact c.2 24 _ rfl
 .have key:∀i,i<3->∀j,1<=j->j<=10->(rO h ca lb l)[i*12+j]?=some (bh (exN i j)):=by
   intro i hi j o b
   match i,j,hi,o,b with
   |0,1,_,_,_|0,2,_,_,_|0,3,_,_,_|0,4,_,_,_|0,5,_,_,_|0,6,_,_,_|0,7,_,_,_|0,8,_,_,_|0,9,_,_,_|0,10,_,_,_=>rfl
   |1,1,_,_,_|1,2,_,_,_|1,3,_,_,_|1,4,_,_,_|1,5,_,_,_|1,6,_,_,_|1,7,_,_,_|1,8,_,_,_|1,9,_,_,_|1,10,_,_,_=>rfl
   |2,1,_,_,_|2,2,_,_,_|2,3,_,_,_|2,4,_,_,_|2,5,_,_,_|2,6,_,_,_|2,7,_,_,_|2,8,_,_,_|2,9,_,_,_|2,10,_,_,_=>rfl
  have e:((ir k2 p k3 c3 k q m r h ca lb l d).x4 i).n j=exN i j:=by
   match i,hi with
   |0,_=>rfl
   |1,_=>rfl
   |2,_=>rfl
  rw[e];show W.cell? ⟨k,0+i*12+j,none⟩=_;rw[cl];exact c.2 _ _ (key i hi j o b)
 .match i,hi with
  |0,_=>exact c.2 11 _ rfl
  |1,_=>exact c.2 23 _ rfl
  |2,_=>exact c.2 35 _ rfl
 .match i,hi,hl with
  |0,_,_=>exact⟨rfl,s.1⟩
  |1,_,_=>exact⟨rfl,hb.1⟩
  |2,_,hl=>exact absurd hl (co 0)
 .match i,hi,j,g with
  |0,_,0,_=>exact s.2 0 _ rfl
  |1,_,0,_=>exact hb.2 0 _ rfl
  |0,_,j+1,g=>exact absurd g (by simp[ir,Vz])
  |1,_,j+1,g=>exact absurd g (by simp[ir,Vz])
  |2,_,j,g=>exact absurd g (by simp[ir,Vz])
 .match i,hi with
  |0,_=>exact ci rfl
  |1,_=>exact ci rfl
 .match i,hi with
  |0,_=>exact f.2 0 _ rfl
  |1,_=>exact f.2 3 _ rfl
 .match i,hi with
  |0,_=>exact f.2 1 _ rfl
  |1,_=>exact f.2 4 _ rfl
 .match i,hi with
  |0,_=>exact f.2 2 _ rfl
  |1,_=>exact f.2 5 _ rfl
def EV(w:ac):ag PL 12 #[] w λe w'=>∃k2 X k3 c3 L Y M j q ca lb N,e=jp (f6 (ir k2 X k3 c3 L Y M j q ca lb N 0).val)/\(Row w' k2 vT/\Row w' k3 vU/\Row w' L (rO q ca lb N)/\Row w' M (qB 0)/\Row w' q [bh 1]/\Row w' lb [bh 2])/\bA w w':=by
 go_enter (fx ao Tryz.func12),Tryz.ntmps12
 go_wp2_with (first|(go_at_call 9;have _:=h;refine(fU _ _ _).mono ?_;rintro e b⟨rfl,a⟩;have i:=eA (((h.out).on a));clear a;have r:=eD (i.out.iM (w.heap.size,fp #[fB ip 0,fB ip 0,fP none 0 0,fP none 0 0,fP none 0 0,fP none 0 0] 27) ar);simp only at r;have O:=tO (i.out.iM (w.heap.size,fp #[fB ip 0,fB ip 0,fP none 0 0,fP none 0 0,fP none 0 0,fP none 0 0] 27) ar);simp only at O;obtain⟨s,u,x,y,f4,z⟩:=bf (i.out.iM (w.heap.size,fp #[fB ip 0,fB ip 0,fP none 0 0,fP none 0 0,fP none 0 0,fP none 0 0] 27) ar);skip)|(go_at_call 9;have _:=A;refine(fU _ _ _).mono ?_;rintro e Z⟨rfl,a⟩;have h:=eA (((A.out).on a));clear a;skip)|(go_at_call 9;have _:=B;refine(fU _ _ _).mono ?_;rintro e w12⟨rfl,a⟩;have A:=eA (((B.out).on a));clear a;skip)|(go_at_call 9;have _:=l;refine(fU _ _ _).mono ?_;rintro e w11⟨rfl,a⟩;have B:=eA ((((l.out).alloc _).on a));clear a;skip)|(go_at_call 9;have _:=C;refine(fU _ _ _).mono ?_;rintro e d⟨rfl,a⟩;have l:=eA (((C.out).on a));clear a;skip)|(go_at_call 9;have _:=D;refine(fU _ _ _).mono ?_;rintro e w9⟨rfl,a⟩;have C:=eA (((D.out).on a));clear a;skip)|(go_at_call 9;have _:=E;refine(fU _ _ _).mono ?_;rintro e w8⟨rfl,a⟩;have D:=eA (((E.out).on a));clear a;skip)|(go_at_call 9;have _:=m;refine(fU _ _ _).mono ?_;rintro e w7⟨rfl,a⟩;have E:=eA ((((m.out).alloc _).on a));clear a;skip)|(go_at_call 9;have _:=F;refine(fU _ _ _).mono ?_;rintro e w6⟨rfl,a⟩;have m:=eA (((F.out).on a));clear a;skip)|(go_at_call 9;have _:=H;refine(fU _ _ _).mono ?_;rintro e w5⟨rfl,a⟩;have F:=eA (((H.out).on a));clear a;skip)|(go_at_call 9;have _:=I;refine(fU _ _ _).mono ?_;rintro e w4⟨rfl,a⟩;have H:=eA (((I.out).on a));clear a;skip)|(go_at_call 9;have _:=n;refine(fU _ _ _).mono ?_;rintro e w3⟨rfl,a⟩;have I:=eA (((((n.out).alloc _).alloc _).on a));clear a;skip)|(go_at_call 9;have _:=J;refine(fU _ _ _).mono ?_;rintro e w2⟨rfl,a⟩;have n:=eA (((J.out).on a));clear a;skip)|(go_at_call 9;refine(fU _ _ _).mono ?_;rintro e w1⟨rfl,a⟩;have J:=eA ((((Lay.nil w).alloc _).on a));clear a;skip))
 obtain⟨W,k⟩:=br ((((((b.setCell ⟨w.heap.size,0,none⟩ (fB ip 60)).setCell ⟨w.heap.size,1,none⟩ (fB ip 4)).setCell ⟨w.heap.size,2,none⟩ (fP (some ⟨w2.heap.size,0,none⟩) 2 2)).setCell ⟨w.heap.size,3,none⟩ (fP (some ⟨w2.heap.size+1,0,none⟩) 4 4)).setCell ⟨w.heap.size,4,none⟩ (fP (some ⟨b.heap.size,0,none⟩) 3 3)).setCell ⟨w.heap.size,5,none⟩ (fP (some ⟨b.heap.size+1,0,none⟩) 2 2));have z2:w.heap.size<w2.heap.size:=eD (n.out.iM (w.heap.size,fp #[fB ip 0,fB ip 0,fP none 0 0,fP none 0 0,fP none 0 0,fP none 0 0] 27) ar);have z6:w.heap.size<w6.heap.size:=eD (m.out.iM (w.heap.size,fp #[fB ip 0,fB ip 0,fP none 0 0,fP none 0 0,fP none 0 0,fP none 0 0] 27) ar);have UZ:w.heap.size<d.heap.size:=eD (l.out.iM (w.heap.size,fp #[fB ip 0,fB ip 0,fP none 0 0,fP none 0 0,fP none 0 0,fP none 0 0] 27) ar);have j:W.heap.size=b.heap.size:=by rw[k];simp only[eN]
 have o:W.heap[w.heap.size]?=some (fp #[fB ip 60,fB ip 4,fP (some ⟨w2.heap.size,0,none⟩) 2 2,fP (some ⟨w2.heap.size+1,0,none⟩) 4 4,fP (some ⟨b.heap.size,0,none⟩) 3 3,fP (some ⟨b.heap.size+1,0,none⟩) 2 2] 27):=by
  have g:=i.out.iM (w.heap.size,fp #[fB ip 0,fB ip 0,fP none 0 0,fP none 0 0,fP none 0 0,fP none 0 0] 27) ar;simp only at g;rw[k];simp[eI,e7,g]
 have LW:Lay w W [(d.heap.size,fp #[fB ip 2] 3),(w6.heap.size,fp #[fB ip 1] 3),(w2.heap.size+1,fp (fB ip 0::fB ip 1::fB ip 40::fB ip 1::fB ip 2::fB ip 30::fB ip 2::fB ip 3::fB ip 30::fB ip 0::fB ip 3::fB ip 80::[]).toArray 88),(w2.heap.size,fp #[fB ip 5,fB ip 15,fB ip 10,fB ip 18] 39)]:=by
  have hl:∀p∈[(d.heap.size,fp #[fB ip 2] 3),(w6.heap.size,fp #[fB ip 1] 3),(w2.heap.size+1,fp (fB ip 0::fB ip 1::fB ip 40::fB ip 1::fB ip 2::fB ip 30::fB ip 2::fB ip 3::fB ip 30::fB ip 0::fB ip 3::fB ip 80::[]).toArray 88),(w2.heap.size,fp #[fB ip 5,fB ip 15,fB ip 10,fB ip 18] 39)],w.heap.size≠p.1:=by
   intro p P;simp only[gc,ge,or_false]at P
   rcases P with rfl|rfl|rfl|rfl<;>simp only<;>omega
  rw[k];have K:=i.out;simp only[eQ]at K;exact((((((Lay.init (p:=(w.heap.size,fp #[fB ip 0,fB ip 0,fP none 0 0,fP none 0 0,fP none 0 0,fP none 0 0] 27)) K).set (ch _) hl 0 _).set (ch _) hl 1 _).set (ch _) hl 2 _).set (ch _) hl 3 _).set (ch _) hl 4 _).set (ch _) hl 5 _
 rw[<-k];clear k i h A B l C D E m F H I n J s u x y f4 z O;rw[<-j];rw[<-j]at o;have f:Lay w ((W.alloc (fp (fJ ⟨#[97]⟩::fB ip 20::fB ip 20::fB ip 0::fB ip 12::fB ip 1::fB ip 1::fB ip 4::fB ip 6::fB ip 2::fB ip 3::fP (some ⟨w6.heap.size,0,none⟩) 1 1::fJ ⟨#[98]⟩::fB ip 13::fB ip 13::fB ip 5::fB ip 5::fB ip 0::fB ip 2::fB ip 4::fB ip 5::fB ip 3::fB ip 3::fP (some ⟨d.heap.size,0,none⟩) 1 1::fJ ⟨#[99]⟩::fB ip 25::fB ip 25::fB ip (-7)::fB ip 7::fB ip 1::fB ip 3::fB ip 5::fB ip 5::fB ip 2::fB ip 4::fP none 0 0::[]).toArray 82)).alloc (fp #[fJ ⟨#[114,101,100]⟩,fB ip 0,fB ip 0,fJ ⟨#[98,108,117,101]⟩,fB ip 1,fB ip 0] 84)) _:=(LW.alloc (fp (fJ ⟨#[97]⟩::fB ip 20::fB ip 20::fB ip 0::fB ip 12::fB ip 1::fB ip 1::fB ip 4::fB ip 6::fB ip 2::fB ip 3::fP (some ⟨w6.heap.size,0,none⟩) 1 1::fJ ⟨#[98]⟩::fB ip 13::fB ip 13::fB ip 5::fB ip 5::fB ip 0::fB ip 2::fB ip 4::fB ip 5::fB ip 3::fB ip 3::fP (some ⟨d.heap.size,0,none⟩) 1 1::fJ ⟨#[99]⟩::fB ip 25::fB ip 25::fB ip (-7)::fB ip 7::fB ip 1::fB ip 3::fB ip 5::fB ip 5::fB ip 2::fB ip 4::fP none 0 0::[]).toArray 82)).alloc (fp #[fJ ⟨#[114,101,100]⟩,fB ip 0,fB ip 0,fJ ⟨#[98,108,117,101]⟩,fB ip 1,fB ip 0] 84)
 have Q:Row _ w2.heap.size vT:=f.row (c:=#[fB ip 5,fB ip 15,fB ip 10,fB ip 18]) (t:=39) ar rfl;have R:Row _ (w2.heap.size+1) vU:=f.row (c:=(fB ip 0::fB ip 1::fB ip 40::fB ip 1::fB ip 2::fB ip 30::fB ip 2::fB ip 3::fB ip 30::fB ip 0::fB ip 3::fB ip 80::[]).toArray) (t:=88) ar rfl;have S:Row _ w6.heap.size [bh 1]:=f.row (c:=#[fB ip 1]) (t:=3) ar rfl;have T:Row _ d.heap.size [bh 2]:=f.row (c:=#[fB ip 2]) (t:=3) ar rfl;have U:Row _ W.heap.size (rO w6.heap.size 1 d.heap.size 1):=f.row (c:=(fJ ⟨#[97]⟩::fB ip 20::fB ip 20::fB ip 0::fB ip 12::fB ip 1::fB ip 1::fB ip 4::fB ip 6::fB ip 2::fB ip 3::fP (some ⟨w6.heap.size,0,none⟩) 1 1::fJ ⟨#[98]⟩::fB ip 13::fB ip 13::fB ip 5::fB ip 5::fB ip 0::fB ip 2::fB ip 4::fB ip 5::fB ip 3::fB ip 3::fP (some ⟨d.heap.size,0,none⟩) 1 1::fJ ⟨#[99]⟩::fB ip 25::fB ip 25::fB ip (-7)::fB ip 7::fB ip 1::fB ip 3::fB ip 5::fB ip 5::fB ip 2::fB ip 4::fP none 0 0::[]).toArray) (t:=82) ar rfl
 have V:Row _ (W.heap.size+1) (qB 0):=f.row (c:=#[fJ ⟨#[114,101,100]⟩,fB ip 0,fB ip 0,fJ ⟨#[98,108,117,101]⟩,fB ip 1,fB ip 0]) (t:=84) ar rfl;obtain⟨s,u,x,y,f4,z⟩:=bf o;have low:=f.low;have r:w.heap.size<W.heap.size:=eD o;clear LW f o j;refine ai (v:=f6 (ir w2.heap.size 2 (w2.heap.size+1) 4 W.heap.size 3 (W.heap.size+1) 2 w6.heap.size 1 d.heap.size 1 0).val) ?_ rfl ⟨_,_,_,_,_,_,_,_,_,_,_,_,rfl,⟨Q,R,U,V,S,T⟩,low⟩;clear Q R U V S T low;simp[aI,Tryz.results12,go_sem,s,u,x,y,f4,z,r,ir]
def Np(a:Int)(w:ac):ag PL 103 #[fB ip a] w λe w'=>e=jp (fY false)/\w=w':=by
 go_enter (fx ao Tryz.func103),Tryz.ntmps103;go_wp2;go_ret;exact⟨rfl,rfl⟩
def Ip(a b:Int):Int:=if a<b then -1 else if b<a then 1 else 0
def Kw(a b:Int)(w:ac):ag PL 73 #[fB ip a,fB ip b] w λe w'=>e=jp (fB ip (Ip a b))/\w=w':=by
 go_enter (fx ao Tryz.func73),Tryz.ntmps73
 go_wp2_with (go_at_call 103;refine(Np _ _).mono ?_;rintro e w'⟨rfl,rfl⟩)
 all_goals (go_ret;refine⟨aC ?_,rfl⟩;simp only[Ip];split<;>(try split)<;>omega)
def EW(f g:Nat->Int)(n m:Nat):Nat->Nat->Int
 |0,_=>if n<m then -1 else 0
 |k+1,q=>if m<=q then 1 else if Ip (f q) (g q)≠0 then Ip (f q) (g q) else EW f g n m k (q+1)
def aaE(f g:Nat->Int)(n m:Nat):Int:=EW f g n m n 0
def EX(a b:ad)(n m:Nat)(f g:Nat->Int)(w:ac)(h:Reads w a n 1 λj=>fB ip (f j))(hb:Reads w b m 1 λj=>fB ip (g j))(y:n<=20)(z:m<=20) :
 ag PL 55 #[a,b] w λe w'=>e=jp (fB ip (aaE f g n m))/\w=w':=by
 obtain⟨C,D,rfl,h⟩:=h;obtain⟨F,H,rfl,hb⟩:=hb;have A:=eA h;have B:=eA hb;clear h hb;go_enter (fx ao Tryz.func55),Tryz.ntmps55;go_wp2
 go_loop [11] (λv=>∃q:Nat,q<=n/\v=fB ip q/\aaE f g n m=EW f g n m (n-q) q) (λv=>n-(intOf v).toNat)
 case atStart=>exact⟨0,ce _,rfl,rfl⟩
 case round=>
  obtain⟨q,I,rfl,i⟩:=hrel;by_cases r:q<n
  .have E:=eA i;clear i;obtain⟨k,o,rfl,J,hc⟩:=A.out ab;have a0:w.cell? ⟨k,o+q,none⟩=some (fB ip (f q)):=hc q ab;clear hc;have l:(q:Int)<n:=ab;have es:n-q=(n-(q+1))+1:=ab;by_cases s:q<m
   .obtain⟨k',t,rfl,K,d⟩:=B.out ab;have b0:w.cell? ⟨k',t+q,none⟩=some (fB ip (g q)):=d q ab;clear d;have u:(q:Int)<m:=ab;by_cases c:Ip (f q) (g q)=0
    .have x:(Ip (f q) (g q) != 0)=false:=by simp[c]
     have Z:=eA c;clear c
     go_wp2_with (go_at_call 73;refine(Kw _ _ _).mono ?_;rintro e w'⟨rfl,rfl⟩)
     refine⟨⟨q+1,r,by go_num,?_⟩,by simp only[intOf];omega⟩;rw[E.out,es,EW,if_neg ab,if_neg (by simp[Z.out])]
    .have x:(Ip (f q) (g q) != 0)=true:=by simp[c]
     have Z:=eA c;clear c
     go_wp2_with (go_at_call 73;refine(Kw _ _ _).mono ?_;rintro e w'⟨rfl,rfl⟩)
     go_ret;refine⟨aC ?_,rfl⟩;rw[E.out,es,EW,if_neg ab,if_pos Z.out]
   .have u:(m:Int)<=q:=ab;go_wp2;go_ret;refine⟨aC ?_,rfl⟩;rw[E.out,es,EW,if_pos ab]
  .obtain rfl:q=n:=ab;have E:=eA i;clear i;by_cases p:q<m
   .have l:(q:Int)<m:=ab;go_wp2;go_ret;refine⟨aC ?_,rfl⟩;rw[E.out,cq,EW,if_pos p]
   .have l:(m:Int)<=q:=ab;go_wp2;go_ret;refine⟨aC ?_,rfl⟩;rw[E.out,cq,EW,if_neg p]
def bB(W:ac)(v:ad)(l:List Int):Prop:=Reads W v l.length 1 λj=>fB ip (l.getD j 0)
def tw(W:ac)(base:Nat)(v:ad)(l:List Int):Prop:=W.ownsRow base 3 1 v l.length (l.map λx=>fB ip x)
def tw.reads{W:ac}{base:Nat}{v:ad}{l:List Int}(h:tw W base v l):bB W v l:=by
 obtain⟨_,h⟩:=h
 rcases h with⟨rfl,a⟩|⟨g,cap,b,rfl,hb,hg,hc,d,hs,c⟩
 .exact⟨none,0,by rw[a],λh=>ab⟩
 .refine⟨_,_,rfl,λa=>⟨g,0,rfl,eD hg,λj f=>?_⟩⟩;have e:(l.map λx=>fB ip x)[j]?=some (fB ip (l.getD j 0)):=by
   rw[gj,gl ab];simp[gp,gl (show j<l.length by omega)]
  rw[<-c,gr ab]at e;simp only[eM,hg,cl];simpa using e
def bB.on{W a:ac}{v:ad}{l:List Int}(h:bB W v l)(b:bA W a):bB a v l:=Reads.on h b
def Rz:PL.underlying 63=some (jr 3):=ae
def RE:(PL.info? 3).map (λi=>(i.zero,i.size,i.bytes))=some (some (fB ip 0),1,8):=ae
def afG(l m:List Int):Int:=aaE (λj=>l.getD j 0) (λj=>m.getD j 0) l.length m.length
def RF{l m:List Int}{a b:ad}{w:ac}(c:bB w a l)(hb:bB w b m)(d:l.length<=20)(f:m.length<=20):ag PL 55 #[a,b] w λe w'=>e=jp (fB ip (afG l m))/\w=w':=
 EX a b _ _ _ _ w c hb d f
def tw.alloc{W:ac}{base:Nat}{v:ad}{l:List Int}(h:tw W base v l)(o:Obj):tw (W.alloc o) base v l:=io h o
def cZ{W:ac}{base e size n:Nat}{v:ad}{xs:List ad}(h:W.ownsRow base e size v n xs):∀k,v.ownBlock=some k->base<=k:=by
 intro k a;obtain⟨_,⟨rfl,_⟩|⟨g,cap,b,rfl,hb,_⟩⟩:=h
 .cases a
 .cases a;exact hb
def EY{ops:Array aP}{rest:List aP}{o:aP}{a:Act}{Q:aT->Act->ac->Prop}{w:ac}(f:o.guard=none)(s x:bd)
 (g:o.op=.call { callee:=.builtin .append,args:=#[s,x],argTypes:=#[63,63] }) (base:Nat) (v:ad) (l:List Int) (j:Int) (b:Nat) (hs:a.eval s=v) (c:tw w base v l)
 (i:a.eval x=fP (some ⟨b,0,none⟩) 1 1) (hc:w.cell? ⟨b,0,none⟩=some (fB ip j)) (hl:l.length<=1000) (d:base<=w.heap.size)
 (h:∀v' w',tw w' base v' (l++[j])->Below base w w'->bi PL ops Q rest (a.put o.dst v') w'):bi PL ops Q (o::rest) a w:=by
 obtain⟨m,hi,n,p,q⟩:=bj RE;refine bm _ f s x 63 g base 3 m (fB ip 0) 1 8 Rz hi n p q rfl ao v l.length _ hs c ⟨b,0,none⟩ 1 1 [fB ip j] i rfl (λk u e=>?_) (by simp[fR]) (by simp only[bq];omega) ab d λv' w' r t _=>?_
 .match k,e with
  |0,e=>cases e;exact hc
 .refine h v' w' ?_ ((eu base w).grown t d (cZ c));unfold tw;rw[gt,gw];exact r
def zV(s j:Nat):Bool:=s / 2 ^ j % 2==1
def pJ(s:Nat):Nat->List Int
 |0=>[]
 |j+1=>if zV s j then pJ s j++[(j:Int)] else pJ s j
def qj(s:Nat):∀j,(pJ s j).length<=j
 |0=>ch _
 |j+1=>by
  have:=qj s j;rw[pJ];split
  .simp;omega
  .omega
def Iq(C:CD)(s i:Nat):Bool:=zV s (C.x3 i).1.toNat||zV s (C.x3 i).2.1.toNat
def RG(C:CD)(s:Nat):Bool:=(gy C.n3).all (Iq C s)
def AW(l b:List Int):Bool:=decide (b.length<l.length)||(decide (l.length=b.length)&&decide (0<afG l b))
def kT(C:CD)(p:Nat)(a:Option (List Int))(s:Nat):Option (List Int):=
 if a.any (AW (pJ s p)) then a else if RG C s then some (pJ s p) else a
def qC(C:CD)(p:Nat):Nat->Option (List Int)
 |0=>none
 |q+1=>kT C p (qC C p q) q
def E3(C:CD)(p:Nat):∀q,((qC C p q).getD []).length<=p
 |0=>ce _
 |q+1=>by
  have:=E3 C p q;rw[qC,kT];split
  .exact this
  .split
   .exact qj q p
   .exact this
def RH{p:Nat}(h:p<=6):wrap64 ((2:Int) ^ p)=((2 ^ p:Nat):Int):=by
 match p,h with
 |0,_|1,_|2,_|3,_|4,_|5,_|6,_=>decide +kernel
def VE:((gy 64).all λq=>(gy 6).all λj=>bits BinOp.and ip ((q:Int) / 2 ^ j) 1==(if zV q j then 1 else 0))=true:=by decide +kernel
def Cq(q:Nat)(a:q<64)(j:Nat)(b:j<6):bits BinOp.and ip ((q:Int) / 2 ^ j) 1=if zV q j then 1 else 0:=by
 have:=VE;simp only[gB,List.mem_range,beq_iff_eq]at this;exact this q a j b
def aaF{C:CD}{p:Nat}(hc:C.cx=0)(f:C.p=p){i:Nat}(hi:i<C.n3):∃a b:Nat,(C.x3 i).1=a/\(C.x3 i).2.1=b/\a<p/\b<p:=by
 have c:kz C.p C.n3 C.x3=0:=ck hc 2 ab;unfold kz at c;split at c
 .cases c
 have d:=ck c i hi;unfold fQ at d;split at d
 case isFalse=>cases d
 rename_i e;simp only[bO,ix,decide_eq_true_eq]at e;exact⟨(C.x3 i).1.toNat,(C.x3 i).2.1.toNat,ab,ab,ab,ab⟩
def anP:ad->Prop
 |fP _ n c=>n<=c
 |_=>True
def aaz(W:ac)(v:ad)(l:List Int):Prop:=bB W v l/\anP v
def aaz.on{W a:ac}{v:ad}{l:List Int}(h:aaz W v l)(b:bA W a):aaz a v l:=⟨h.1.on b,h.2⟩
def tw.alr{W:ac}{base:Nat}{v:ad}{l:List Int}(h:tw W base v l):aaz W v l:=by
 refine⟨h.reads,?_⟩;obtain⟨_,h⟩:=h
 rcases h with⟨rfl,b⟩|⟨g,cap,a,rfl,hb,hg,hc,c,hs,d⟩
 .exact ch 0
 .exact hc
def abT(C:CD)(w:ac)(h:C.At w)(hc:C.cx=0):ag PL 23 #[f6 C.val] w λe w'=>∃v,e=jp (f7 #[v,fB ip 0])/\aaz w' v ((qC C C.p.toNat (2 ^ C.p.toNat)).getD [])/\bA w w':=by
 have HA:=eA h;have K0:Hid (KB C w (w.alloc (fp C.val 27))):=eA ⟨au _ _,(eu _ _).alloc (ch _) _⟩;obtain⟨p,hp⟩:∃p:Nat,C.p=p:=⟨C.p.toNat,by have:=cK (ck hc 0 ab);omega⟩
 have m:p<=6:=by have:=cK (ck hc 0 ab);omega
 have HC:=eA hc;have Y:=eA hp;clear h hc hp;go_enter (fx ao Tryz.func23),Tryz.ntmps23;go_wp2
 go_step3
 go_wp2_with (go_at_call 48;refine(sY HC.out (HA.out.below K0.out.low)).mono ?_;rintro e w1⟨rfl,aL⟩;have K1:=eA (K0.out.on aL);clear aL;have hz:=K1.out.lt;obtain⟨M,t,O,H,f4,P⟩:=bf K1.out.box)
 go_step3
 rw[Y.out]at t;have q0:(0:Int)<=p:=ab;have q1:(p:Int)<=6:=ab;have hN:=RH m;obtain⟨N,o⟩:=br (2 ^ p:Nat);rw[<-o]at hN;have as5:N<=64:=by rw[o];exact Nat.pow_le_pow_right (n:=2) ab m
 have HN:=eA o;clear o
 go_upto_region 7 with fail
 rw[hN];clear hN;clear M t O H f4 P
 go_loopw [5,6,20] (λv5 v6 u wr=>∃q:Nat,q<=N/\u=fB ip q/\v6=fY (qC C p q).isSome/\aaz wr v5 ((qC C p q).getD [])/\KB C w wr) (λ_ _ u _=>N-(intOf u).toNat)
 case atStart=>exact⟨0,ce _,rfl,rfl,⟨⟨none,0,rfl,λh=>absurd h (by simp[qC])⟩,ch 0⟩,K1.out⟩
 case round=>
  obtain⟨q,hq,rfl,rfl,I,hK⟩:=hrel;obtain⟨Z,Kx⟩:=br (qC C p q);have hbl:(Z.getD []).length<=6:=by rw[Kx];exact ct (E3 C p q) m
  rw[<-Kx]at I ⊢;have x:=eA Kx;have HR:=eA I;have HK:=eA hK;clear Kx I hK;by_cases aH:q<N
  .have i2:(q:Int)<N:=ab;have hz:=HK.out.lt;obtain⟨M,t,O,H,f4,P⟩:=bf HK.out.box;rw[Y.out]at t;obtain⟨Wq,rfl⟩:=br wr
   go_upto_region 11 with fail
   go_loopw [8,25] (λv8 y wr=>∃j:Nat,j<=p/\y=fB ip j/\tw wr Wq.heap.size v8 (pJ q j)/\bA Wq wr) (λ_ y _=>p-(intOf y).toNat)
   case atStart=>exact⟨0,ce _,rfl,⟨rfl,js ⟨rfl,rfl⟩⟩,eu _ _⟩
   case round=>
    obtain⟨j,hj,rfl,hO,g⟩:=hrel;have HO:=eA hO;have Q:=eA g;clear hO g M t O H f4 P;by_cases R:j<p
    .have i3:(j:Int)<p:=ab;have i4:¬((j:Int)<0):=ab;have RI:=Cq q ab j ab;by_cases J:zV q j=true
     .rw[if_pos J]at RI;have z:=eA J;clear J;have Tl:=qj q j;have fW:=Q.out.size
      go_wp2_with (at_builtin;(refine EY rfl _ _ rfl Wq.heap.size _ _ j wr.heap.size rfl (HO.out.alloc _) rfl (bv _ _ _ 0 _ rfl) ab (by simp;omega) ?_;intro v' w2 fO S))
      refine⟨⟨j+1,R,by go_num,?_,(Q.out.alloc fW _).trans S⟩,by simp only[intOf];omega⟩;rw[pJ,if_pos z.out];exact fO
     .rw[if_neg J]at RI;have z:=eA (aV J);clear J;go_wp2;refine⟨⟨j+1,R,by go_num,?_,Q.out⟩,by simp only[intOf];omega⟩;rw[pJ,if_neg (by simp[z.out])];exact HO.out
    .obtain rfl:j=p:=ab;have T:=HR.out.on (Q.out);have U:=HO.out.alr;have Tl:(pJ q j).length<=6:=ct (qj q j) m;have r:=eA (HK.out.on Q.out);have RB:=eA T;have RL:=eA U;obtain⟨⟨b5,c5,e5,_⟩,_⟩:=T;obtain⟨⟨b8,c8,e8,_⟩,_⟩:=U;subst e5 e8;obtain⟨l,hl⟩:=br (pJ q j);rw[<-hl]at Tl RL ⊢;have d:=eA hl;clear hl;clear HO;obtain⟨V,rfl⟩:=br wr
     go_upto_region 16 with fail
     go_cut [58] from 38 to 57 (fun(v58:ad)(wx:ac)=>v58=fY (Z.any (AW l))/\wx=V)
     case first=>
      cases Z with
      |none=>
       go_wp2_with fail
       go_meet
       case rel=>exact⟨rfl,rfl⟩
      |some b=>
       have as7:b.length<=6:=hbl;have RB':Hid (bB V (fP b5 b.length c5) b):=eA RB.out.1;by_cases h1:b.length<l.length
       .have i4:(b.length:Int)<l.length:=ab
        go_wp2_with fail
        go_meet
        case rel=>exact⟨by simp[AW,h1],rfl⟩
       .have i4:¬(b.length:Int)<l.length:=ab;by_cases h2:l.length=b.length
        .have i5:(l.length:Int)=b.length:=ab;have i6:((l.length:Int)==b.length)=true:=by simp[h2]
         have H2:=eA h2;clear i5 h2 h1
         go_wp2_with (go_at_call 55;refine(RF RL.out.1 RB'.out ab ab).mono ?_;rintro e w'⟨rfl,rfl⟩)
         go_meet
         case rel=>exact⟨by simp[AW,H2.out],rfl⟩
        .have i6:((l.length:Int)==b.length)=false:=by simp;omega
         go_wp2_with fail
         go_meet
         case rel=>exact⟨by simp[AW,h2,h1],rfl⟩
     case rest=>
      obtain⟨rfl,rfl⟩:=hcut;obtain⟨V,rfl⟩:=br wc;have hz:=r.out.lt;obtain⟨M,t,O,H,f4,P⟩:=bf r.out.box;by_cases K:Z.any (AW l)=true
      .rw[K];go_wp2;refine⟨⟨q+1,aH,by go_num,?_,?_,r.out⟩,by simp only[intOf];omega⟩
       .rw[qC,kT,<-x.out,<-d.out,if_pos K]
       .rw[qC,kT,<-x.out,<-d.out,if_pos K];exact RB.out
      .rw[aV K];have s:=eA K;clear K;obtain⟨bb,iC⟩:=br C.b3;rw[<-iC]at H;have alo:=eA iC;clear iC
       go_upto_region 18 with fail
       go_loopw [62] (λA wr=>∃i:Nat,i<=C.n3/\A=fB ip i/\(∀k,k<i->Iq C q k=true)/\bA V wr) (λA _=>C.n3-(intOf A).toNat)
       case atStart=>exact⟨0,ce _,rfl,λk B=>absurd B (cv _),eu _ _⟩
       case round=>
        obtain⟨i,hi,rfl,X,g⟩:=hrel;have D:=eA X;clear X M t O H f4 P;have E:=eA (r.out.on g);have m3:C.n3<=20:=HA.out.m3;by_cases c:i<C.n3
        .have i7:(i:Int)<C.n3:=ab;have hA:=HA.out.below E.out.low;have e3:=alo.out.trans (hA.s3 ab);have k0:=hA.Es i c;have k1:=hA.Et i c;have k2:=hA.Eu i c;have hk3:=hA.h3;clear hA;obtain⟨a,b,ea,eb,D8,NU⟩:=aaF HC.out Y.out c;have F:Hid (Iq C q i=(zV q a||zV q b)):=eA (by rw[Iq,ea,eb];rfl);rw[ea]at k0;rw[eb]at k1;subst e3;clear ea eb;have lq:=Cq q ab a ab;have S:=Cq q ab b ab;by_cases L:zV q a=true
         .rw[if_pos L]at lq;have hc:=eA (F.out.trans (by rw[L];rfl):Iq C q i=true);clear L S;go_wp2;refine⟨⟨i+1,c,by go_num,λk B=>?_,(g.alloc g.size _)⟩,by simp only[intOf];omega⟩
          rcases Nat.lt_succ_iff_lt_or_eq.1 B with h|h
          .exact D.out k h
          .rw[h];exact hc.out
         .rw[if_neg L]at lq;have ha':=aV L;clear L;by_cases hb:zV q b=true
          .rw[if_pos hb]at S;have hc:=eA (F.out.trans (by rw[ha',hb];rfl):Iq C q i=true);clear ha' hb;go_wp2;refine⟨⟨i+1,c,by go_num,λk B=>?_,(g.alloc g.size _)⟩,by simp only[intOf];omega⟩
           rcases Nat.lt_succ_iff_lt_or_eq.1 B with h|h
           .exact D.out k h
           .rw[h];exact hc.out
          .rw[if_neg hb]at S;have hc:=eA (F.out.trans (by rw[ha',aV hb];rfl):Iq C q i=false)
           have f:Hid (RG C q=false):=eA (by
            rw[RG,List.all_eq_false]
            exact⟨i,List.mem_range.2 c,by simp[hc.out]⟩)
           clear ha' hb;go_wp2;refine⟨⟨q+1,aH,by go_num,?_,?_,E.out.alloc _⟩,by simp only[intOf];omega⟩
           .rw[qC,kT,<-x.out,<-d.out,if_neg s.out,if_neg (by simp[f.out])]
           .rw[qC,kT,<-x.out,<-d.out,if_neg s.out,if_neg (by simp[f.out])];exact(RB.out.on g).on ((eu _ _).alloc (ch _) _)
        .obtain rfl:i=C.n3:=ab
         have f:Hid (RG C q=true):=eA (by
          rw[RG,gB]
          exact λk B=>D.out k (List.mem_range.1 B))
         go_wp2;refine⟨⟨q+1,aH,by go_num,?_,?_,E.out⟩,by simp only[intOf];omega⟩
         .rw[qC,kT,<-x.out,<-d.out,if_neg s.out,if_pos f.out];rfl
         .rw[qC,kT,<-x.out,<-d.out,if_neg s.out,if_pos f.out];exact RL.out.on g
  .obtain rfl:q=N:=ab;have I:=HR.out;have fin:aaz wr u5 ((qC C C.p.toNat (2 ^ C.p.toNat)).getD []):=by
    have e:C.p.toNat=p:=by rw[Y.out];rfl
    rw[e,<-HN.out,<-x.out];exact I
   have FIN:=eA fin;clear fin I;go_wp2;rw[Exit.noGoto_ret];refine ai (v:=f7 #[u5,fB ip 0]) ?_ rfl ⟨_,rfl,FIN.out,HK.out.low⟩;simp[aI,Tryz.results23,go_sem]
def Cr(C:CD)(w:ac)(h:C.At w)(hc:C.cx=0):ag PL 23 #[f6 C.val] w λe w'=>∃v,e=jp (f7 #[v,fB ip 0])/\bB w' v ((qC C C.p.toNat (2 ^ C.p.toNat)).getD [])/\bA w w':=
 (abT C w h hc).mono λ_ _⟨v,e,a,b⟩=>⟨v,e,a.1,b⟩
def E7(a0 a1 a2 a3 a4 a:ad)(W:ac):(iB 91 (f6 #[a0,a1,a2,a3,a4,a]) 0).run PL W=jx (f6 #[a0,a1,a2,a3,a4,a]) W:=ae
def Ky(a0 a1 a2 a3 a4 a:ad)(W:ac):(iB 27 (f6 #[a0,a1,a2,a3,a4,a]) 0).run PL W=jx (a0) W:=ae
def Kz(a0 a1 a2 a3 a4 a:ad)(W:ac):(iB 27 (f6 #[a0,a1,a2,a3,a4,a]) 1).run PL W=jx (a1) W:=ae
def KC(a0 a1 a2 a3 a4 a:ad)(W:ac):(iB 27 (f6 #[a0,a1,a2,a3,a4,a]) 2).run PL W=jx (a2) W:=ae
def KF(a0 a1 a2 a3 a4 a:ad)(W:ac):(iB 27 (f6 #[a0,a1,a2,a3,a4,a]) 3).run PL W=jx (a3) W:=ae
def KG(a0 a1 a2 a3 a4 a:ad)(W:ac):(iB 27 (f6 #[a0,a1,a2,a3,a4,a]) 4).run PL W=jx (a4) W:=ae
def KH(a0 a1 a2 a3 a4 a:ad)(W:ac):(iB 27 (f6 #[a0,a1,a2,a3,a4,a]) 5).run PL W=jx (a) W:=ae
def KL(a0 a1 a2 a3 a4 a b c d e f g:ad)(W:ac):(iB 82 (f6 #[a0,a1,a2,a3,a4,a,b,c,d,e,f,g]) 0).run PL W=jx (a0) W:=ae
def KM(a0 a1 a2 a3 a4 a b c d e f g:ad)(W:ac):(iB 82 (f6 #[a0,a1,a2,a3,a4,a,b,c,d,e,f,g]) 1).run PL W=jx (f6 #[a1,a2]) W:=ae
def KN(a0 a1 a2 a3 a4 a b c d e f g:ad)(W:ac):(iB 82 (f6 #[a0,a1,a2,a3,a4,a,b,c,d,e,f,g]) 2).run PL W=jx (f6 #[a3,a4]) W:=ae
def KS(a0 a1 a2 a3 a4 a b c d e f g:ad)(W:ac):(iB 82 (f6 #[a0,a1,a2,a3,a4,a,b,c,d,e,f,g]) 3).run PL W=jx (a) W:=ae
def KU(a0 a1 a2 a3 a4 b a c d e f g:ad)(W:ac):(iB 82 (f6 #[a0,a1,a2,a3,a4,b,a,c,d,e,f,g]) 4).run PL W=jx (a) W:=ae
def KV(a0 a1 a2 a3 a4 c d a b e f g:ad)(W:ac):(iB 82 (f6 #[a0,a1,a2,a3,a4,c,d,a,b,e,f,g]) 5).run PL W=jx (f6 #[a,b]) W:=ae
def KW(a0 a1 a2 a3 a4 c d e f a b g:ad)(W:ac):(iB 82 (f6 #[a0,a1,a2,a3,a4,c,d,e,f,a,b,g]) 6).run PL W=jx (f6 #[a,b]) W:=ae
def KX(a0 a1 a2 a3 a4 b c d e f g a:ad)(W:ac):(iB 82 (f6 #[a0,a1,a2,a3,a4,b,c,d,e,f,g,a]) 7).run PL W=jx (a) W:=ae
def KY(a0 a1 a2:ad)(W:ac):(iB 84 (f6 #[a0,a1,a2]) 0).run PL W=jx (a0) W:=ae
def KZ(a0 a1 a2:ad)(W:ac):(iB 84 (f6 #[a0,a1,a2]) 1).run PL W=jx (a1) W:=ae
def La(a0 a1 a2:ad)(W:ac):(iB 84 (f6 #[a0,a1,a2]) 2).run PL W=jx (a2) W:=ae
def Lb(a0 a1:ad)(W:ac):(iB 39 (f6 #[a0,a1]) 0).run PL W=jx (a0) W:=ae
def Lc(a0 a1:ad)(W:ac):(iB 39 (f6 #[a0,a1]) 1).run PL W=jx (a1) W:=ae
def Xw(a:bC)(n c:Nat)(W:ac):(binOp .eql 24 (fP (some a) n c) (fP none 0 0)).run PL W=jx (fY false) W:=ae
def Xx(a:bC)(n c:Nat)(W:ac):(binOp .eql 25 (fP (some a) n c) (fP none 0 0)).run PL W=jx (fY false) W:=ae
def anR(a b:Int)(W:ac):(iN 39 #[(0,fB ip a),(1,fB ip b)]).run PL W=jx (f6 #[fB ip a,fB ip b]) W:=ae
def anS(p a b c d:Int)(W:ac):(iN 72 #[(0,fB ip p),(1,f6 #[fB ip a,fB ip b]),(2,f6 #[fB ip c,fB ip d])]).run PL W=jx (f6 #[fB ip p,fB ip a,fB ip b,fB ip c,fB ip d]) W:=ae
def E8:nS.ntmps=98:=rfl
def h_.In.below{T:h_}{w w':ac}(h:T.In w)(a:bA w w'):T.In w':=
 ⟨h.lo,b9 h.h4 a.size,λc=>⟨(h.h5 c).1,b9 (h.h5 c).2 a.size⟩,h.st,λi hi j b=>(a.cell (p:=⟨T.k4,_,none⟩) h.h4).trans (h.c4 i hi j b),λk d j b=>(a.cell (p:=⟨T.k5,_,none⟩) (h.h5 ab).2).trans (h.c5 k d j b)⟩
def h_.In.agQ{T:h_}{w:ac}(h:T.In w){i:Nat}(hi:i<T.np):w.cell? ⟨T.k4,T.o4+i*12,none⟩=some (fJ (T.nm i))/\w.cell? ⟨T.k4,T.o4+i*12+1,none⟩=some (fB ip (T.pn i 1))/\w.cell? ⟨T.k4,T.o4+i*12+2,none⟩=some (fB ip (T.pn i 2))/\w.cell? ⟨T.k4,T.o4+i*12+3,none⟩=some (fB ip (T.pn i 3))/\w.cell? ⟨T.k4,T.o4+i*12+4,none⟩=some (fB ip (T.pn i 4))/\w.cell? ⟨T.k4,T.o4+i*12+5,none⟩=some (fB ip (T.pn i 5))/\w.cell? ⟨T.k4,T.o4+i*12+6,none⟩=some (fB ip (T.pn i 6))/\
 w.cell? ⟨T.k4,T.o4+i*12+7,none⟩=some (fB ip (T.pn i 7))/\w.cell? ⟨T.k4,T.o4+i*12+8,none⟩=some (fB ip (T.pn i 8))/\w.cell? ⟨T.k4,T.o4+i*12+9,none⟩=some (fB ip (T.pn i 9))/\w.cell? ⟨T.k4,T.o4+i*12+10,none⟩=some (fB ip (T.pn i 10))/\w.cell? ⟨T.k4,T.o4+i*12+11,none⟩=some (fP (T.lb i) (T.ll i) (T.lc i)):=
 ⟨h.c4 i hi 0 ab,h.c4 i hi 1 ab,h.c4 i hi 2 ab,h.c4 i hi 3 ab,h.c4 i hi 4 ab,h.c4 i hi 5 ab,h.c4 i hi 6 ab,h.c4 i hi 7 ab,h.c4 i hi 8 ab,h.c4 i hi 9 ab,h.c4 i hi 10 ab,h.c4 i hi 11 ab⟩
def h_.In.agR{T:h_}{w:ac}(h:T.In w){k:Nat}(a:k<T.n):w.cell? ⟨T.k5,T.o5+k*3,none⟩=some (fJ (T.gn k))/\w.cell? ⟨T.k5,T.o5+k*3+1,none⟩=some (fB ip (T.S k:Int))/\w.cell? ⟨T.k5,T.o5+k*3+2,none⟩=some (fB ip (T.dl k)):=
 ⟨h.c5 k a 0 ab,h.c5 k a 1 ab,h.c5 k a 2 ab⟩
def aag(x:Int):wrap64 x=IntKind.i64.wrap x:=(IntWalk.i64_left x).symm
def ahD{o:Nat}(h:o<75):(Array.replicate 75 (fB ip 0))[o]?=some (fB ip 0):=by
 rw[fc (by simpa using h)];simp
def abq{ops:Array aP}{rest:List aP}{o:aP}{a:Act}{Q:aT->Act->ac->Prop}{w:ac}(r:o.guard=none)(X Y:bd)(s:o.op=.store 72 X Y)(base b off:Nat)(cur c:Array ad)(m:a.eval X=f8 (some ⟨b,off,none⟩))(hy:a.eval Y=f6 c)
 (hb:w.heap[b]?=some (fp cur 127)) (d:c.size=5) (hl:off+5<=cur.size) (t:∀v∈c,v.oneCell'=true) (B:base<=b)
 (h:∀f w',w'.heap[b]?=some (fp f 127)->f.size=cur.size->(∀j,j<5->f[off+j]?=c[j]?)->(∀j,(j<off\/off+5<=j)->f[j]?=cur[j]?)->Below base w w'->w'.heap.size=w.heap.size->bi PL ops Q rest (a.put o.dst undef) w'):bi PL ops Q (o::rest) a w:=by
 refine wpList_plain r λK u=>?_;have e:(Tryz.prog.info? 72).map (·.size)=some 5:=ae;have hc:(Value.agg c).cells=c:=rfl
 cases n:Tryz.prog.info? 72 with
 |none=>rw[n]at e;cases e
 |some i=>
  have y:i.size=5:=by rw[n]at e;exact iP e
  have z:=run_storeCells_at PL b off 127 c.toList 0 cur w hb (by simp[d];omega) (λx m=>t x (by simpa using m));obtain⟨f,l⟩:=br ((cur.toList.take off++c.toList++cur.toList.drop (off+c.size)).toArray);have A:(storeVar 72 ⟨b,off,none⟩ (f6 c)).run PL w=jx () (w.setRow b f):=by
   rw[l];simp[storeVar,sizeOf,typeInfo,n,y,z,hc,d]
  unfold Oper.wp execOp;simp only[s,m,hy,Instr.storeAt,Instr.sureAddr,Sem.run_bind,Sem.run_pure,Result.andThen_ok,A];refine u _ _ (h f _ (setRow_heap _ _ _ _ _ _ hb) ?_ (λj g=>?_) (λj g=>?_) ⟨rfl,rfl,rfl,by simp[eS],λk C=>setRow_other _ _ _ _ ab⟩ (by simp[eS]))
  .rw[l];simp[d];omega
  .rw[l];simp only[gD];have p:(cur.toList.take off).length=off:=by simp;omega
   rw[gG,gL ab,p,g7 (by simp[d];omega)];simp
  .rw[l];simp only[gD,d];have p:(cur.toList.take off).length=off:=by simp;omega
   rcases g with g|g
   .rw[gG,g7 ab,g8,if_pos g];simp
   .rw[gG,gL ab,p,gL (by simp[d];omega)];simp only[List.getElem?_drop,fg,d];have:off+5+(j-off-5)=j:=ab;rw[this];simp
def agx(T:h_)(w:ac)(h:T.In w)(uB:∀i,i<T.np->(T.nm i).size<=1000)(B:∀k,k<T.n->(T.gn k).size<=1000):ag PL 45 #[f6 T.arr] w λe w'=>∃k cs,e=jp (f8 (some ⟨k,0,none⟩))/\w'.heap[k]?=some (fp cs 127)/\b7 T.pn T.np T.S T.dl T.n 0 cs/\bA w w':=by
 have d:=eA h;have M:=eA uB;have N:=eA B;clear uB B;obtain⟨l2,l5,l3⟩:=h.lo;clear h;have i2:(2:Int)<=T.np:=ab;have i5:(T.np:Int)<=5:=ab;have i3:(T.n:Int)<=3:=ab;obtain⟨J,O⟩:=br T.b5;have wC:=eA O;simp only[h_.arr];rw[<-O];clear O;go_enter Cc,E8;simp only[nS,sU,ac2,abE,ac0,ajz,ajW,agP,ac1,anu,akj,opsL,ahs,afN,akk,anv,aD];have q0:=E7;have q1:=Ky;have q2:=Kz;have q3:=KC;have q4:=KF;have q5:=KG;have q6:=KH;have q7:=KL;have q8:=KM;have q9:=KN;have q10:=KS;have q11:=KU;have q12:=KV;have q13:=KW;have q14:=KX;have q15:=KY;have q16:=KZ;have q17:=La;have q18:=Lb;have q19:=Lc;have q25:=Xw;have q26:=Xx;have q27:=anR;have q28:=anS;go_wp2
 go_loopw [20] (λl wr=>∃q:Nat,q<=T.np/\l=fB ip q/\w=wr) (λl _=>T.np-(intOf l).toNat)
 case atStart=>exact⟨0,ce _,rfl,rfl⟩
 case round=>
  obtain⟨q,hq,rfl,rfl⟩:=hrel;by_cases a:q<T.np
  .have i4:(q:Int)<T.np:=ab;obtain⟨a0,a1,a2,a3,a4,a5,a6,a7,a8,a9,zm,zM⟩:=d.out.agQ a;have hz:=M.out q a;go_wp2;refine⟨⟨q+1,a,by go_num,trivial⟩,by simp only[intOf];omega⟩
  .obtain rfl:q=T.np:=ab;go_wp2
   go_loopw [21] (λm wr=>∃q:Nat,q<=T.n/\m=fB ip q/\w=wr) (λm _=>T.n-(intOf m).toNat)
   case atStart=>exact⟨0,ce _,rfl,rfl⟩
   case round=>
    obtain⟨q,hq,rfl,rfl⟩:=hrel;by_cases a:q<T.n
    .have i4:(q:Int)<T.n:=ab;obtain rfl:J=_:=wC.out.trans (d.out.h5 ab).1;obtain⟨a0,a1,a2⟩:=d.out.agR a;have hz:=N.out q a;have vL:(T.S q:Int)<T.np:=by have:=d.out.st q a;omega
     have hs0:(0:Int)<=T.S q:=ab;go_wp2;refine⟨⟨q+1,a,by go_num,trivial⟩,by simp only[intOf];omega⟩
    .obtain rfl:q=T.n:=ab;go_wp2
     go_loopw [67] (λs wr=>∃g:Nat,g<=T.n/\s=fB ip g/\∃cs,wr.heap[w.heap.size]?=some (fp cs 127)/\b7 T.pn T.np T.S T.dl g 0 cs/\bA w wr) (λs _=>T.n-(intOf s).toNat)
     case atStart=>exact⟨0,ce _,rfl,_,au _ _,b7.zero rfl (λo K=>ahD K),(eu _ _).alloc (ch _) _⟩
     case round=>
      obtain⟨g,hg,rfl,cs,hcs,C,P⟩:=hrel;have D:=eA hcs;have E:=eA C;have Q:=eA P;have hTB:=P.size;have B4:=eD hcs;clear hcs C P;by_cases a:g<T.n
      .have i6:(g:Int)<T.n:=ab;have i7:(g:Int)<3:=ab;obtain⟨e5,hk5⟩:=d.out.h5 ab;obtain rfl:J=_:=wC.out.trans e5;clear e5;obtain⟨a0,a1,a2⟩:=(d.out.below Q.out).agR a;go_wp2;have aF:=d.out.st g a;obtain⟨Wg,rfl⟩:=br wr
       go_loopw [71,72,73,74] (λR U V t wr=>∃r:Nat,r<=T.np/\R=fB ip ((mb T.np (T.S g) r:Nat):Int)/\U=fB ip (cmV T.pn T.np (T.S g) (T.dl g) r).1/\V=fB ip (cmV T.pn T.np (T.S g) (T.dl g) r).2/\t=fB ip (r:Int)/\
        ∃cs,wr.heap[w.heap.size]?=some (fp cs 127)/\b7 T.pn T.np T.S T.dl g r cs/\bA w wr) (λ_ _ _ t _=>T.np-(intOf t).toNat)
       case atStart=>exact⟨0,ce _,by rw[mb,Nat.add_zero,Nat.mod_eq_of_lt aF],rfl,rfl,rfl,cs,D.out,E.out,Q.out⟩
       case round=>
        clear a0 a1 a2;obtain⟨r,hr,rfl,rfl,rfl,rfl,u,x,F,X⟩:=hrel;have H:=eA x;have b:=eA F;have Y:=eA X;have axL:=X.size;have ajj:=eD x;clear x F X;by_cases I:r<T.np
        .have i8:(r:Int)<T.np:=ab;obtain⟨p,L⟩:=br (mb T.np (T.S g) r);obtain⟨c1,Z⟩:=br ((cmV T.pn T.np (T.S g) (T.dl g) r).1);obtain⟨c2,y⟩:=br ((cmV T.pn T.np (T.S g) (T.dl g) r).2);have Wf:p<T.np:=by rw[L];exact ab5 ab
         have j1:(p:Int)<T.np:=ab;have j2:(p:Int)<5:=ab;rw[<-L,<-Z,<-y];have f:=eA L;have z:=eA Z;have A:=eA y;clear L Z y;obtain⟨a0,a1,a2,a3,a4,a5,a6,a7,a8,a9,zm,zM⟩:=(d.out.below Y.out).agQ Wf;have adm:g*25+p*5+5<=u.size:=by have:=b.out.size;omega
         by_cases hw:p+1=T.np
         all_goals
          go_wp2_with (refine abq rfl (.tmp 90) (.tmp 88) rfl w.heap.size w.heap.size (g*25+p*5) u _ rfl rfl H.out rfl adm (by intro v hv;simp only[List.mem_toArray,gc,ge,or_false]at hv;rcases hv with rfl|rfl|rfl|rfl|rfl<;>rfl) (ch _) ?_;intro cs3 w3 g1 g2 g3 g4 g5 g6)
          refine⟨⟨r+1,I,?_,?_,?_,by go_num,cs3,g1,b.out.next I l5 (g2.trans b.out.size) (λj hj=>?_) (λo K=>?_),Y.out.trans g5⟩,by simp only[intOf];omega⟩
          .rw[abH ab,<-f.out]
           first|(rw[if_pos hw];rfl)|(rw[if_neg hw];rfl)|(rw[if_neg hw];go_num)
          .rw[cmV,<-z.out,<-f.out,aag,aag]
          .rw[cmV,<-A.out,<-f.out,aag,aag]
          .rw[<-f.out,g3 j hj];obtain rfl|rfl|rfl|rfl|rfl:j=0\/j=1\/j=2\/j=3\/j=4:=ab
           .simp only[vsV,<-f.out];rfl
           .simp only[vsV,<-z.out];rfl
           .simp only[vsV,<-A.out];rfl
           .simp only[vsV,<-z.out,<-f.out,<-aag];rfl
           .simp only[vsV,<-A.out,<-f.out,<-aag];rfl
          .rw[<-f.out]at K;exact g4 o K
        .obtain rfl:r=T.np:=ab;go_wp2;exact⟨⟨g+1,a,by go_num,u,H.out,b.out.done,Y.out⟩,by simp only[intOf];omega⟩
      .obtain rfl:g=T.n:=ab;go_wp2;refine ai (v:=f8 (some ⟨w.heap.size,0,none⟩)) ?_ rfl ⟨w.heap.size,cs,rfl,D.out,E.out,Q.out⟩;simp[aI,Tryz.results45,go_sem]
def Q3{n a b:Int}:bO n a b=true↔a<=n/\n<=b:=by simp[bO]
def ac5{C:CD}(hc:C.cx=0):2<=C.n4/\C.n4<=5:=by
 have a:kA C.p C.n2 C.n3 C.n4 C.x4=0:=ck hc 3 ab;unfold kA at a;split at a
 case isFalse=>cases a
 rename_i hb;have:=Q3.1 hb;omega
abbrev CD.S(C:CD)(k:Nat):Nat:=(C.x5 k).2.1.toNat
abbrev CD.pn(C:CD)(i j:Nat):Int:=(C.x4 i).n j
abbrev CD.dl(C:CD)(k:Nat):Int:=(C.x5 k).2.2
def CD.td(C:CD):h_:=
 { l:=C.l,p:=C.p,b2:=C.b2,n2:=C.n2,c2:=C.c2,b3:=C.b3,n3:=C.n3,c3:=C.c3,k4:=C.k4,o4:=C.o4,np:=C.n4,c4:=C.c4,b5:=C.b5,k5:=C.k5,o5:=C.o5,n:=C.n5,c5:=C.c5,
   pn:=C.pn,S:=C.S,dl:=C.dl,nm:=λi=>(C.x4 i).name,gn:=λk=>(C.x5 k).1,lb:=λi=>(C.x4 i).lb,ll:=λi=>(C.x4 i).ln,lc:=λi=>(C.x4 i).lc }
def CD.alB{C:CD}{w:ac}(h:C.At w)(a:0<C.n4):C.td.arr=C.val:=by
 simp only[h_.arr,CD.td,CD.val,h.s4 a]
def CD.anV{C:CD}{w:ac}(h:C.At w)(c:2<=C.n4/\C.n4<=5)(d:C.n5<=3)(hs:∀k,k<C.n5->0<=(C.x5 k).2.1/\(C.x5 k).2.1<C.n4):C.td.In w:=by
 refine⟨⟨c.1,c.2,d⟩,h.h4,λe=>⟨h.s5 e,h.h5⟩,λk a=>?_,λi hi j b=>?_,λk a j b=>?_⟩
 .have:=hs k a;show(C.x5 k).2.1.toNat<C.n4;omega
 .match j,b with
  |0,_=>exact h.AD i hi
  |11,_=>exact h.nj i hi
  |1,_=>exact h.dB i hi 1 ab ab
  |2,_=>exact h.dB i hi 2 ab ab
  |3,_=>exact h.dB i hi 3 ab ab
  |4,_=>exact h.dB i hi 4 ab ab
  |5,_=>exact h.dB i hi 5 ab ab
  |6,_=>exact h.dB i hi 6 ab ab
  |7,_=>exact h.dB i hi 7 ab ab
  |8,_=>exact h.dB i hi 8 ab ab
  |9,_=>exact h.dB i hi 9 ab ab
  |10,_=>exact h.dB i hi 10 ab ab
 .have f:=hs k a
  match j,b with
  |0,_=>exact h.FI k a
  |1,_=>
   refine(h.HU k a).trans ?_;show some (fB ip (C.x5 k).2.1)=some (fB ip ((C.x5 k).2.1.toNat:Int));rw[Int.toNat_of_nonneg f.1]
  |2,_=>exact h.J6 k a
def ahF(a:Nat->Nat->Int)(np:Nat)(S:Nat->Nat)(dl:Nat->Int)(n o:Nat):Int:=
 if o / 25<n/\o % 25 / 5<np then vsV a np (S (o / 25)) (dl (o / 25)) (ad8 np (S (o / 25)) (o % 25 / 5)) (o % 5) else 0
def ah1(a:Nat->Nat->Int)(np:Nat)(S:Nat->Nat)(dl:Nat->Int)(n:Nat):List Int:=(gy 75).map (ahF a np S dl n)
def b7.lit{b:Nat->Nat->Int}{np n:Nat}{S:Nat->Nat}{dl:Nat->Int}{cs:Array ad}(h:b7 b np S dl n 0 cs)(i:np<=5)(d:∀k,k<n->S k<np):cs.toList=(ah1 b np S dl n).map bh:=by
 apply g9;intro o;rw[fi]
 rcases Nat.lt_or_ge o 75 with a|a
 .have e:((ah1 b np S dl n).map bh)[o]?=some (bh (ahF b np S dl n o)):=by
   simp only[ah1,gj,List.getElem?_range a,iY]
  rw[e];by_cases hc:o / 25<n/\o % 25 / 5<np
  .rw[ahF,if_pos hc,<-h.at (k:=o / 25) (p:=o % 25 / 5) (j:=o % 5) hc.1 hc.2 (d _ hc.1) ab,show o / 25*25+o % 25 / 5*5+o % 5=o by omega]
  .rw[ahF,if_neg hc];refine h.rest o a λk r c hv=>hc ?_
   have f:k<n/\r<np:=by rcases c with c|c<;>omega
   have:=ab5 (np:=np) (s:=S k) (r:=r) ab;obtain⟨l,m⟩:=hv;have e1:o / 25=k:=ab;have g:o % 25 / 5=mb np (S k) r:=ab;rw[e1,g];exact⟨f.1,this⟩
 .rw[Array.getElem?_eq_none (by rw[h.size];exact a),hh (by simp[ah1];exact a)]
abbrev CD.tab(C:CD):List Int:=ah1 C.pn C.n4 C.S C.dl C.n5
def Row.ofl{W:ac}{k:Nat}{c:Array ad}{t:aJ}{l:List ad}(h:W.heap[k]?=some (fp c t))(e:c.toList=l):Row W k l:=Row.of h λj v hv=>by rw[<-e]at hv;simpa using hv
def ah2{C:CD}{w:ac}(h:C.At w)(b:2<=C.n4/\C.n4<=5)(c:C.n5<=3)(hs:∀k,k<C.n5->0<=(C.x5 k).2.1/\(C.x5 k).2.1<C.n4):ag PL 45 #[f6 C.val] w λe w'=>∃k,e=jp (f8 (some ⟨k,0,none⟩))/\Row w' k (C.tab.map bh)/\bA w w':=by
 rw[<-C.alB h ab];refine(agx C.td w (CD.anV h b c hs) (λi hi=>?_) λk a=>?_).mono ?_
 .have:=(h.cu i hi).1;show(C.x4 i).name.size<=1000;omega
 .have:=h.nm5 k a;show(C.x5 k).1.size<=1000;omega
 .rintro e w'⟨k,cs,rfl,d,f,g⟩;refine⟨k,rfl,Row.ofl d ?_,g⟩;refine f.lit b.2 λk a=>?_;have:=hs k a;show(C.x5 k).2.1.toNat<C.n4;omega
def je:List Int:=[0,0,0,4,6,1,6,9,10,14,2,13,17,18,22,0,0,0,0,0,0,0,0,0,0,0,14,17,18,23,1,0,0,4,5,2,7,8,12,13,0,0,0,0,0,0,0,0,0,0,0,0,0,0,0,0,0,0,0,0,0,0,0,0,0,0,0,0,0,0,0,0,0,0,0]
def RJ:List Int:=[0,0,0,4,6,1,6,9,10,14,2,13,17,18,22,0,0,0,0,0,0,0,0,0,0,0,15,18,19,24,1,1,1,5,6,2,8,9,13,14,0,0,0,0,0,0,0,0,0,0,0,0,0,0,0,0,0,0,0,0,0,0,0,0,0,0,0,0,0,0,0,0,0,0,0]
def mC(d:Int):List Int:=if d=0 then je else RJ
def alC{k2 a k3 c3 b c d e f ca lb g:Nat}:(ir k2 a k3 c3 b c d e f ca lb g 0).tab=je:=ae
def alD{k2 a k3 c3 b c d e f ca lb g:Nat}:(ir k2 a k3 c3 b c d e f ca lb g 1).tab=RJ:=ae
def aqZ{k2 a k3 c3 b c e f g ca lb h:Nat}{d:Int}:∀k,k<2->0<=((ir k2 a k3 c3 b c e f g ca lb h d).x5 k).2.1/\((ir k2 a k3 c3 b c e f g ca lb h d).x5 k).2.1<(3:Nat):=by
 intro k i;obtain rfl|rfl:k=0\/k=1:=ab
 .exact⟨by show(0:Int)<=0;omega,by show(0:Int)<3;omega⟩
 .exact⟨by show(0:Int)<=1;omega,by show(1:Int)<3;omega⟩
def tA{d:Int}{C:CD}{w:ac}(hd:d=0\/d=1)(a:VB d C)(h:C.At w):ag PL 45 #[f6 C.val] w λe w'=>∃k,e=jp (f8 (some ⟨k,0,none⟩))/\Row w' k ((mC d).map bh)/\bA w w':=by
 obtain⟨k2,b,k3,c3,c,f,g,i,j,l,lb,m,rfl⟩:=a;have:=ah2 h ⟨by show 2<=3;omega,by show 3<=5;omega⟩ (by show 2<=3;omega) aqZ
 rcases hd with rfl|rfl
 .rwa[alC]at this
 .rwa[alD]at this
def kU(L:List Int)(p:Nat)(m:Int):Nat->Nat->Bool->Int
 |0,_,can=>Ej can true
 |k+1,g,can=>if bO m (L.getD (g*25+p*5+2) 0) (L.getD (g*25+p*5+3) 0-1) then 1 else kU L p m k (g+1) (can||bO m (L.getD (g*25+p*5+1) 0) (L.getD (g*25+p*5+4) 0-1))
structure Ir(L:List Int):Prop where
 len:L.length=75
 lo:∀j,-10000<=L.getD j 0
 hi:∀j,L.getD j 0<=10000
def Row.getD{W:ac}{k:Nat}{L:List Int}(h:Row W k (L.map bh)){j:Nat}(a:j<L.length):W.cell? ⟨k,j,none⟩=some (fB ip (L.getD j 0)):=
 h.2 j _ (by rw[gj,gl a,gp,gl a];rfl)
def Fa(C:CD)(k p:Nat)(m:Int)(L:List Int)(t:Ir L)(w:ac)(u:Row w k (L.map bh))(U:C.n5<=3)(V:p<5) :
 ag PL 46 #[f6 C.val,f8 (some ⟨k,0,none⟩),fB ip p,fB ip m] w (aO (fB ip (kU L p m C.n5 0 false)) w):=by
 have H:=eA u;have a:=eA t;clear u t;have I:(p:Int)<5:=ab;go_enter (fx ao Tryz.func46),Tryz.ntmps46;go_wp2;obtain⟨l,n⟩:=br (w.alloc (fp C.val 91));have v:l.heap[w.heap.size]?=some (fp C.val 91):=by rw[n];exact au _ _
 have y:bA w l:=by rw[n];exact(eu _ _).alloc (ch _) _
 rw[<-n];clear n;have J:=eA v;have o:=eA y;clear v y
 go_loopw [9,16] (λK b wr=>∃(g:Nat)(can:Bool),g<=C.n5/\b=fB ip g/\K=fY can/\kU L p m C.n5 0 false=kU L p m (C.n5-g) g can/\wr.heap[w.heap.size]?=some (fp C.val 91)/\bA w wr) (λ_ b _=>C.n5-(intOf b).toNat)
 case atStart=>exact⟨0,false,ce _,rfl,rfl,rfl,J.out,o.out⟩
 case round=>
  obtain⟨g,can,hg,rfl,rfl,z,A,i⟩:=hrel;have E:=eA z;have B:=eA A;clear z A;by_cases M:g<C.n5
  .have W:(g:Int)<C.n5:=ab;have X:(g:Int)<3:=ab;have c:=H.out.on i;have N:wr.cell? ⟨k,g*25+p*5,none⟩=some (fB ip (L.getD (g*25+p*5) 0)):=c.getD (by rw[a.out.len];omega);have t1:wr.cell? ⟨k,g*25+p*5+1,none⟩=some (fB ip (L.getD (g*25+p*5+1) 0)):=c.getD (by rw[a.out.len];omega);have t2:wr.cell? ⟨k,g*25+p*5+2,none⟩=some (fB ip (L.getD (g*25+p*5+2) 0)):=c.getD (by rw[a.out.len];omega);have O:wr.cell? ⟨k,g*25+p*5+3,none⟩=some (fB ip (L.getD (g*25+p*5+3) 0)):=c.getD (by rw[a.out.len];omega);have P:wr.cell? ⟨k,g*25+p*5+4,none⟩=some (fB ip (L.getD (g*25+p*5+4) 0)):=c.getD (by rw[a.out.len];omega);have Q:=a.out.lo (g*25+p*5+3);have q:=a.out.hi (g*25+p*5+3);have R:=a.out.lo (g*25+p*5+4);have r:=a.out.hi (g*25+p*5+4);have S:=c.1;have es:C.n5-g=(C.n5-(g+1))+1:=ab;have T:=eA es;clear c es;obtain⟨x1,d⟩:=br (L.getD (g*25+p*5+1) 0);obtain⟨x2,s⟩:=br (L.getD (g*25+p*5+2) 0);obtain⟨x3,f⟩:=br (L.getD (g*25+p*5+3) 0);obtain⟨x4,h⟩:=br (L.getD (g*25+p*5+4) 0);obtain⟨x0,D⟩:=br (L.getD (g*25+p*5) 0);rw[<-D]at N;rw[<-d]at t1;rw[<-s]at t2;rw[<-f]at O Q q;rw[<-h]at P R r;have F:Hid (kU L p m C.n5 0 false=if bO m x2 (x3-1) then 1 else kU L p m (C.n5-(g+1)) (g+1) (can||bO m x1 (x4-1))):=eA (by rw[E.out,T.out,kU,<-d,<-s,<-f,<-h]);clear D d s f h;by_cases hy:bO m x2 (x3-1)=true
   .have j:=eA hy;clear hy
    go_wp2_with (go_at_call 34;refine(rM j.out _).mono ?_;rintro e w'⟨rfl,rfl⟩)
    go_ret;exact⟨aC (by rw[F.out,if_pos j.out]),i.alloc i.size _⟩
   .have j:=eA (aV hy);clear hy E;cases can
    all_goals (
     go_wp2_with (first|(go_at_call 34;(with_reducible refine(yG j.out _).mono ?_);rintro e w'⟨rfl,rfl⟩)|(go_at_call 34;refine(ij _ _ _ _).mono ?_;rintro e w'⟨rfl,rfl⟩))
     refine⟨⟨g+1,_,M,by go_num,rfl,?_,(((eu wr.heap.size wr).alloc (ch _) _).block _ (eD B.out)).trans B.out,i.alloc i.size _⟩,by simp only[intOf];omega⟩;rw[F.out,if_neg (by simp[j.out])]
     rfl)
  .obtain rfl:g=C.n5:=ab;have fin:Hid (kU L p m C.n5 0 false=Ej can true):=eA (by rw[E.out,cq,kU]);clear E
   go_wp2_with (go_at_call 39;refine(yH _ _ _).mono ?_;rintro e w'⟨rfl,rfl⟩)
   go_ret;exact⟨aC fin.out,i⟩
def Cs(m:Int)(w:ac):ag PL 44 #[fB ip m] w λe w'=>e=jp (fY (bO m 0 999))/\w=w':=by
 go_enter (fx ao Tryz.func44),Tryz.ntmps44
 go_wp2_with (go_at_call 34;refine(ij _ _ _ _).mono ?_;rintro e w'⟨rfl,rfl⟩)
 go_ret;exact⟨rfl,rfl⟩
def yO{m:Int}(h:bO m 0 999=true)(w:ac):ag PL 44 #[fB ip m] w λe w'=>e=jp (fY true)/\w=w':=by
 have:=Cs m w;rwa[h]at this
def afJ:PL.underlying 55=some (jr 49):=ae
def aaI:(PL.info? 49).map (λi=>(i.zero,i.size,i.bytes))=some (some (fB ip 0),1,8):=ae
def eO(e:aJ)(W:ac)(base:Nat)(v:ad)(l:List Int):Prop:=W.ownsRow base e 1 v l.length (l.map λx=>fB ip x)
def eO.reads{e:aJ}{W:ac}{base:Nat}{v:ad}{l:List Int}(h:eO e W base v l):bB W v l:=by
 obtain⟨_,h⟩:=h
 rcases h with⟨rfl,a⟩|⟨g,cap,b,rfl,hb,hg,hc,d,hs,c⟩
 .exact⟨none,0,by rw[a],λh=>ab⟩
 .refine⟨_,_,rfl,λa=>⟨g,0,rfl,eD hg,λj f=>?_⟩⟩;have e:(l.map λx=>fB ip x)[j]?=some (fB ip (l.getD j 0)):=by
   rw[gj,gl ab];simp[gp,gl (show j<l.length by omega)]
  rw[<-c,gr ab]at e;simp only[eM,hg,cl];simpa using e
def eO.alloc{e:aJ}{W:ac}{base:Nat}{v:ad}{l:List Int}(h:eO e W base v l)(o:Obj):eO e (W.alloc o) base v l:=io h o
def eO.on{e:aJ}{W b:ac}{base:Nat}{v:ad}{l:List Int}(h:eO e W base v l)(d:bA W b):eO e b base v l:=by
 obtain⟨c,h⟩:=h
 rcases h with h|⟨g,cap,a,e1,hb,hg,f⟩
 .exact⟨c,js h⟩
 .exact⟨c,jt ⟨g,cap,a,e1,hb,(d.block _ (eD hg)).trans hg,f⟩⟩
def Fb{T e:aJ}(f:PL.underlying T=some (jr e))(g:(PL.info? e).map (λi=>(i.zero,i.size,i.bytes))=some (some (fB ip 0),1,8)){ops:Array aP}{rest:List aP}{o:aP}{a:Act}{Q:aT->Act->ac->Prop}{w:ac}(m:o.guard=none)(s x:bd)
 (n:o.op=.call { callee:=.builtin .append,args:=#[s,x],argTypes:=#[T,T] }) (base:Nat) (v:ad) (l:List Int) (j:Int) (b:Nat) (hs:a.eval s=v) (c:eO e w base v l)
 (p:a.eval x=fP (some ⟨b,0,none⟩) 1 1) (hc:w.cell? ⟨b,0,none⟩=some (fB ip j)) (hl:l.length<=1000) (d:base<=w.heap.size)
 (h:∀v' w',eO e w' base v' (l++[j])->Below base w w'->bi PL ops Q rest (a.put o.dst v') w'):bi PL ops Q (o::rest) a w:=by
 obtain⟨q,hi,r,t,y⟩:=bj g;refine bm _ m s x T n base e q (fB ip 0) 1 8 f hi r t y rfl ao v l.length _ hs c ⟨b,0,none⟩ 1 1 [fB ip j] p rfl (λk u e=>?_) (by simp[fR]) (by simp only[bq];omega) ab d λv' w' z A _=>?_
 .match k,e with
  |0,e=>cases e;exact hc
 .refine h v' w' ?_ ((eu base w).grown A d (cZ c));unfold eO;rw[gt,gw];exact z
def tB(L:List Int)(m:Int)(a p:Nat):List Int:=(gy p).map λj=>kU L j m a 0 false
def Iu(L:List Int)(m:Int)(a p:Nat):tB L m a (p+1)=tB L m a p++[kU L p m a 0 false]:=by simp[tB,hk]
def Nt(L:List Int)(m:Int)(a p:Nat):(tB L m a p).length=p:=by simp[tB]
def RO(C:CD)(m:Int)(L:List Int)(n:Ir L)(w:ac)(h:C.At w)(hf:C.b6 true=0)(h4:C.n4<=5)(D:C.n5<=3)(o:bO m 0 999=true)
 (q:∀W,C.At W->ag PL 45 #[f6 C.val] W λe w'=>∃k,e=jp (f8 (some ⟨k,0,none⟩))/\Row w' k (L.map bh)/\bA W w') :
 ag PL 18 #[f6 C.val,fB ip m] w λe w'=>∃v,e=jp (f7 #[v,fB ip 0])/\bB w' v (tB L m C.n5 C.n4)/\bA w w':=by
 have r:=eA h;have s:Hid (KB C w (w.alloc (fp C.val 27))):=eA ⟨au _ _,(eu _ _).alloc (ch _) _⟩;have E:=eA hf;have F:=eA o;have d:=eA q;have H:=eA n;clear h hf o q n;go_enter (fx ao Tryz.func18),Tryz.ntmps18
 go_wp2_with (first
  |(go_at_call 36;refine(kF E.out (r.out.below s.out.low)).mono ?_;rintro e w1⟨rfl,t⟩;have u:=eA (s.out.on t);clear t)
  |(go_at_call 44;refine(yO F.out _).mono ?_;rintro e w'⟨rfl,rfl⟩)
  |(go_at_call 45;refine(d.out _ (r.out.below (u.out.alloc (fp C.val 91)).low)).mono ?_;rintro e w2⟨k,rfl,x,f⟩;have g:=eA ((u.out.alloc (fp C.val 91)).on f);have i:=eA ((f.block w1.heap.size ar).trans (au w1 (fp C.val 91)));have I:=eA x;clear f x;have J:=g.out.lt;have K:=eD i.out;obtain⟨M,N,O,P,f4,Q⟩:=bf g.out.box;obtain⟨d0,d1,d2,d3,d4,d5⟩:=bf i.out))
 go_loopw [9,27] (λR a wr=>∃p:Nat,p<=C.n4/\a=fB ip p/\eO 49 wr w2.heap.size R (tB L m C.n5 p)/\bA w2 wr) (λ_ a _=>C.n4-(intOf a).toNat)
 case atStart=>exact⟨0,ce _,rfl,⟨rfl,js ⟨rfl,rfl⟩⟩,eu _ _⟩
 case round=>
  obtain⟨p,hp,rfl,y,b⟩:=hrel;clear M N O P f4 Q d0 d1 d2 d3 d4 d5 J;have z:=eA y;have S:=eA (g.out.on b);have A:=eA ((b.block _ K).trans i.out);have T:=eA (I.out.on b);have U:=eA b;have wD:=eD A.out;have V:=b.size;clear y b;by_cases X:p<C.n4
  .have i2:(p:Int)<C.n4:=ab;obtain⟨d0,d1,d2,d3,d4,d5⟩:=bf A.out;have B:(tB L m C.n5 p).length=p:=Nt _ _ _ _;have j:=eA B;clear B
   go_wp2_with (first
    |(go_at_call 46;refine(Fa C k p m L H.out _ T.out D ab).mono ?_;rintro e w3⟨rfl,c⟩;have Y:=c.size;have Z:=eA (z.out.on c);have H3:=eA (U.out.trans (c.mono V));clear c)
    |(at_builtin;refine Fb afJ aaI rfl _ _ rfl w2.heap.size _ _ (kU L p m C.n5 0 false) w3.heap.size rfl (Z.out.alloc _) rfl (bv _ _ _ 0 _ rfl) (by rw[j.out];omega) (by simp;omega) ?_;intro v' w4 fO l))
   refine⟨⟨p+1,X,by go_num,by rw[Iu];exact fO,(H3.out.alloc ab _).trans l⟩,by simp only[intOf];omega⟩
  .obtain rfl:p=C.n4:=ab;go_wp2;refine ai (v:=f7 #[u9,fB ip 0]) ?_ rfl ⟨_,rfl,z.out.reads,S.out.low⟩;simp[aI,Tryz.results18,go_sem]
def j9{T e:aJ}{z:ad}{m bytes:Nat}(k:PL.underlying T=some (jr e))(l:(PL.info? e).map (λi=>(i.zero,i.size,i.bytes))=some (some z,m,bytes))(p:z.cells.size=m)(q:0<m)(d:bytes<=1000){ops:Array aP}{rest:List aP}{o:aP}{a:Act}{Q:aT->Act->ac->Prop}{w:ac}(r:o.guard=none)(s x:bd)
 (t:o.op=.call { callee:=.builtin .append,args:=#[s,x],argTypes:=#[T,T] }) (base g:Nat) (hs:a.eval s=fP (some ⟨g,0,none⟩) 0 0) (hg:w.heap[g]?=some (fp #[] e)) (hb:base<=g)
 (A:bC) (n c:Nat) (b:List ad) (v:a.eval x=fP (some A) n c) (hl:b.length=n*m) (hc:∀j u,b[j]?=some u->w.cell? (A.add j)=some u) (y:∀u∈b,u.oneCell'=true) (B:n<=1000)
 (h:∀v' w',w'.ownsRow base e m v' n b->v'≠fP none 0 0->Below base w w'->bi PL ops Q rest (a.put o.dst v') w'):bi PL ops Q (o::rest) a w:=by
 obtain⟨C,hi,D,E,F⟩:=bj l;have f:w.ownsRow base e m (fP (some ⟨g,0,none⟩) 0 0) 0 []:=⟨ar,jt ⟨g,0,#[],rfl,hb,hg,ch _,ce _,ar,ar⟩⟩
 have H:=eD hg;refine bm _ r s x T t base e C z m bytes k hi D E F p q (fP (some ⟨g,0,none⟩) 0 0) 0 [] hs f A n c b v hl hc y (by simp only[bq];omega) (by have:=Nat.mul_le_mul B d;rw[cl];omega) ab λv' w' I J K=>?_;refine h v' w' (by simpa using I) (λe=>?_) ((eu base w).grown J ab (cZ f));have:=K.1 e;simp at this
def abI{w:ac}{k off:Nat}{a:List ad}(hc:∀j u,a[j]?=some u->w.cell? ⟨k,off+j,none⟩=some u):∀j u,a[j]?=some u->w.cell? ((⟨k,off,none⟩:bC).add j)=some u:=λj u e=>by
 have:=hc j u e;by_cases b:j=0
 .subst b;simpa[i9]using this
 .simpa[i9,b]using this
def ga{T e:aJ}{z:ad}{m bytes:Nat}(f:PL.underlying T=some (jr e))(l:(PL.info? e).map (λi=>(i.zero,i.size,i.bytes))=some (some z,m,bytes))(p:z.cells.size=m)(q:0<m)(d:bytes<=1000){ops:Array aP}{rest:List aP}{o:aP}{a:Act}{Q:aT->Act->ac->Prop}{w:ac}(r:o.guard=none)(s x:bd)
 (t:o.op=.call { callee:=.builtin .append,args:=#[s,x],argTypes:=#[T,T] }) (base g:Nat) (hs:a.eval s=fP (some ⟨g,0,none⟩) 0 0) (hg:w.heap[g]?=some (fp #[] e)) (hb:base<=g)
 (k off n c:Nat) (b:List ad) (v:a.eval x=fP (some ⟨k,off,none⟩) n c) (hl:b.length=n*m) (hc:∀j u,b[j]?=some u->w.cell? ⟨k,off+j,none⟩=some u) (y:∀u∈b,u.oneCell'=true) (A:n<=1000)
 (h:∀v' w',w'.ownsRow base e m v' n b->v'≠fP none 0 0->Below base w w'->bi PL ops Q rest (a.put o.dst v') w'):bi PL ops Q (o::rest) a w:=
 j9 f l p q d r s x t base g hs hg hb _ n c b v hl (abI hc) y A h
def Fc(w W:ac)(e m:Nat)(v:ad)(n:Nat)(l:List ad):Prop:=W.ownsRow w.heap.size e m v n l/\v≠fP none 0 0
def Fc.form{w W:ac}{e m n:Nat}{v:ad}{l:List ad}(h:Fc w W e m v n l):∃g cap cur,v=fP (some ⟨g,0,none⟩) n cap/\w.heap.size<=g/\W.heap[g]?=some (fp cur e)/\cur.toList.take (n*m)=l:=by
 obtain⟨⟨_,h⟩,hv⟩:=h
 rcases h with⟨rfl,_⟩|⟨g,cap,cur,e1,hb,hg,_,_,_,a⟩
 .exact absurd rfl hv
 .exact⟨g,cap,cur,e1,hb,hg,a⟩
structure L1(w:ac)(b:Option bC)(n m:Nat)(row:List ad):Prop where
 len:row.length=n*m
 le:n<=1000
 one:∀u∈row,u.oneCell'=true
 cells:0<n->∃k o,b=some ⟨k,o,none⟩/\k<w.heap.size/\∀j u,row[j]?=some u->w.cell? ⟨k,o+j,none⟩=some u
def L1.on{w W:ac}{b:Option bC}{n m:Nat}{row:List ad}(h:L1 w b n m row)(a:bA w W):L1 W b n m row:=
 ⟨h.len,h.le,h.one,λd=>by
   obtain⟨k,o,f,c,g⟩:=h.cells d
   exact⟨k,o,f,b9 c a.size,λj u e=>(a.cell (p:=⟨k,o+j,none⟩) c).trans (g j u e)⟩⟩
def L1.nil{w:ac}{n m:Nat}{row:List ad}(h:L1 w none n m row):n=0:=by
 by_cases a:0<n
 .obtain⟨k,o,b,_⟩:=h.cells a;cases b
 .omega
def L1.add{w:ac}{A:bC}{n m:Nat}{row:List ad}(h:L1 w (some A) n m row):∀j u,row[j]?=some u->w.cell? (A.add j)=some u:=λj u e=>by
 by_cases a:0<n
 .obtain⟨k,o,b,_,c⟩:=h.cells a;cases b;exact abI c j u e
 .have:=h.len;obtain rfl:n=0:=ab;rw[Nat.zero_mul]at this;rw[List.length_eq_zero_iff.1 this]at e;cases e
def Clo(w W:ac)(e m n:Nat)(row:List ad)(b:Option bC)(v:ad):Prop:=∃b' c,v=fP b' n c/\(b=none->b'=none/\c=0)/\(0<n->∃g a,b'=some ⟨g,0,none⟩/\w.heap.size<=g/\W.heap[g]?=some (fp a e)/\a.toList.take (n*m)=row)
def Clo.on{w W d:ac}{e m n:Nat}{row:List ad}{b:Option bC}{v:ad}(h:Clo w W e m n row b v)(i:bA W d):Clo w d e m n row b v:=by
 obtain⟨b',c,hv,j,h⟩:=h;exact⟨b',c,hv,j,λk=>by obtain⟨g,a,l,o,f,p⟩:=h k;exact⟨g,a,l,o,(i.block _ (eD f)).trans f,p⟩⟩
def Clo.low{w0 w W:ac}{e m n:Nat}{row:List ad}{b:Option bC}{v:ad}(h:Clo w W e m n row b v)(hs:w0.heap.size<=w.heap.size):Clo w0 W e m n row b v:=by
 obtain⟨b',c,hv,d,h⟩:=h;exact⟨b',c,hv,d,λf=>by obtain⟨g,a,i,j,k,l⟩:=h f;exact⟨g,a,i,ct hs j,k,l⟩⟩
def Clo.of{w W:ac}{e m n:Nat}{row:List ad}{A:bC}{v:ad}(h:W.ownsRow w.heap.size e m v n row)(hv:v≠fP none 0 0):Clo w W e m n row (some A) v:=by
 obtain⟨g,c,a,rfl,b,d,f⟩:=Fc.form (w:=w) ⟨h,hv⟩;exact⟨_,c,rfl,λe=>(by cases e),λ_=>⟨g,a,rfl,b,d,f⟩⟩
def Clo.nil{w W:ac}{e m n:Nat}{row:List ad}{b:Option bC}(a:n=0):Clo w W e m n row b (fP none 0 0):=by
 subst a;exact⟨none,0,rfl,λ_=>⟨rfl,rfl⟩,λh=>absurd h (co _)⟩
def VF:PL.underlying 63=some (jr 3):=ae
def VG:(PL.info? 3).map (λi=>(i.zero,i.size,i.bytes))=some (some (fB ip 0),1,8):=ae
def aaK(a:bC)(n c:Nat)(W:ac):(binOp .eql 63 (fP (some a) n c) (fP none 0 0)).run PL W=jx (fY false) W:=ae
def aaP(c:Nat)(W:ac):(binOp .eql 63 (fP none 0 c) (fP none 0 0)).run PL W=jx (fY true) W:=ae
def agy(b:Option bC)(n c:Nat)(row:List ad)(w:ac)(h:L1 w b n 1 row):ag PL 53 #[fP b n c] w λe w'=>∃v,e=jp v/\Clo w w' 3 1 n row b v/\bA w w':=by
 have H:=eA h;clear h
 cases b with
 |none=>
  obtain rfl:n=0:=H.out.nil;have q1:=aaP;go_enter (fx ao dU),d8;go_wp2;go_ret;exact⟨_,rfl,Clo.nil rfl,eu _ _⟩
 |some A=>
  have q1:=aaK;have a:=eA ((eu w.heap.size w).alloc (ch _) (fp #[] 3));go_enter (fx ao dU),d8
  go_wp2_with (at_builtin;refine j9 VF VG rfl ao ao rfl _ _ rfl w.heap.size w.heap.size rfl (au w (fp #[] 3)) (ch _) A n c row rfl H.out.len (H.out.on a.out).add H.out.one H.out.le ?_;intro v' w2 d hv f)
  go_ret;exact⟨_,rfl,Clo.of d hv,a.out.trans f⟩
def VH:PL.underlying 22=some (jr 39):=ae
def VI:(PL.info? 39).map (λi=>(i.zero,i.size,i.bytes))=some (some (f6 #[fB ip 0,fB ip 0]),2,16):=ae
def aaL(a:bC)(n c:Nat)(W:ac):(binOp .eql 22 (fP (some a) n c) (fP none 0 0)).run PL W=jx (fY false) W:=ae
def alF(c:Nat)(W:ac):(binOp .eql 22 (fP none 0 c) (fP none 0 0)).run PL W=jx (fY true) W:=ae
def agz(b:Option bC)(n c:Nat)(row:List ad)(w:ac)(h:L1 w b n 2 row):ag PL 108 #[fP b n c] w λe w'=>∃v,e=jp v/\Clo w w' 39 2 n row b v/\bA w w':=by
 have H:=eA h;clear h
 cases b with
 |none=>
  obtain rfl:n=0:=H.out.nil;have q1:=alF;go_enter (fx ao d9),ec;go_wp2;go_ret;exact⟨_,rfl,Clo.nil rfl,eu _ _⟩
 |some A=>
  have q1:=aaL;have a:=eA ((eu w.heap.size w).alloc (ch _) (fp #[] 39));go_enter (fx ao d9),ec
  go_wp2_with (at_builtin;refine j9 VH VI rfl ao ao rfl _ _ rfl w.heap.size w.heap.size rfl (au w (fp #[] 39)) (ch _) A n c row rfl H.out.len (H.out.on a.out).add H.out.one H.out.le ?_;intro v' w2 d hv f)
  go_ret;exact⟨_,rfl,Clo.of d hv,a.out.trans f⟩
def VJ:PL.underlying 23=some (jr 88):=ae
def VK:(PL.info? 88).map (λi=>(i.zero,i.size,i.bytes))=some (some (f6 #[fB ip 0,fB ip 0,fB ip 0]),3,24):=ae
def aaM(a:bC)(n c:Nat)(W:ac):(binOp .eql 23 (fP (some a) n c) (fP none 0 0)).run PL W=jx (fY false) W:=ae
def alG(c:Nat)(W:ac):(binOp .eql 23 (fP none 0 c) (fP none 0 0)).run PL W=jx (fY true) W:=ae
def agA(b:Option bC)(n c:Nat)(row:List ad)(w:ac)(h:L1 w b n 3 row):ag PL 109 #[fP b n c] w λe w'=>∃v,e=jp v/\Clo w w' 88 3 n row b v/\bA w w':=by
 have H:=eA h;clear h
 cases b with
 |none=>
  obtain rfl:n=0:=H.out.nil;have q1:=alG;go_enter (fx ao eh),ei;go_wp2;go_ret;exact⟨_,rfl,Clo.nil rfl,eu _ _⟩
 |some A=>
  have q1:=aaM;have a:=eA ((eu w.heap.size w).alloc (ch _) (fp #[] 88));go_enter (fx ao eh),ei
  go_wp2_with (at_builtin;refine j9 VJ VK rfl ao ao rfl _ _ rfl w.heap.size w.heap.size rfl (au w (fp #[] 88)) (ch _) A n c row rfl H.out.len (H.out.on a.out).add H.out.one H.out.le ?_;intro v' w2 d hv f)
  go_ret;exact⟨_,rfl,Clo.of d hv,a.out.trans f⟩
def VL:PL.underlying 24=some (jr 82):=ae
def VM:(PL.info? 82).map (λi=>(i.zero,i.size,i.bytes))=some (some (f6 #[fJ ByteArray.empty,fB ip 0,fB ip 0,fB ip 0,fB ip 0,fB ip 0,fB ip 0,fB ip 0,fB ip 0,fB ip 0,fB ip 0,fP none 0 0]),12,120):=ae
def aaN(a:bC)(n c:Nat)(W:ac):(binOp .eql 24 (fP (some a) n c) (fP none 0 0)).run PL W=jx (fY false) W:=ae
def alH(c:Nat)(W:ac):(binOp .eql 24 (fP none 0 c) (fP none 0 0)).run PL W=jx (fY true) W:=ae
def agB(b:Option bC)(n c:Nat)(row:List ad)(w:ac)(h:L1 w b n 12 row):ag PL 110 #[fP b n c] w λe w'=>∃v,e=jp v/\Clo w w' 82 12 n row b v/\bA w w':=by
 have H:=eA h;clear h
 cases b with
 |none=>
  obtain rfl:n=0:=H.out.nil;have q1:=alH;go_enter (fx ao ej),ek;go_wp2;go_ret;exact⟨_,rfl,Clo.nil rfl,eu _ _⟩
 |some A=>
  have q1:=aaN;have a:=eA ((eu w.heap.size w).alloc (ch _) (fp #[] 82));go_enter (fx ao ej),ek
  go_wp2_with (at_builtin;refine j9 VL VM rfl ao ao rfl _ _ rfl w.heap.size w.heap.size rfl (au w (fp #[] 82)) (ch _) A n c row rfl H.out.len (H.out.on a.out).add H.out.one H.out.le ?_;intro v' w2 d hv f)
  go_ret;exact⟨_,rfl,Clo.of d hv,a.out.trans f⟩
def VN:PL.underlying 25=some (jr 84):=ae
def VO:(PL.info? 84).map (λi=>(i.zero,i.size,i.bytes))=some (some (f6 #[fJ ByteArray.empty,fB ip 0,fB ip 0]),3,32):=ae
def aaO(a:bC)(n c:Nat)(W:ac):(binOp .eql 25 (fP (some a) n c) (fP none 0 0)).run PL W=jx (fY false) W:=ae
def alI(c:Nat)(W:ac):(binOp .eql 25 (fP none 0 c) (fP none 0 0)).run PL W=jx (fY true) W:=ae
def agC(b:Option bC)(n c:Nat)(row:List ad)(w:ac)(h:L1 w b n 3 row):ag PL 111 #[fP b n c] w λe w'=>∃v,e=jp v/\Clo w w' 84 3 n row b v/\bA w w':=by
 have H:=eA h;clear h
 cases b with
 |none=>
  obtain rfl:n=0:=H.out.nil;have q1:=alI;go_enter (fx ao el),em;go_wp2;go_ret;exact⟨_,rfl,Clo.nil rfl,eu _ _⟩
 |some A=>
  have q1:=aaO;have a:=eA ((eu w.heap.size w).alloc (ch _) (fp #[] 84));go_enter (fx ao el),em
  go_wp2_with (at_builtin;refine j9 VN VO rfl ao ao rfl _ _ rfl w.heap.size w.heap.size rfl (au w (fp #[] 84)) (ch _) A n c row rfl H.out.len (H.out.on a.out).add H.out.one H.out.le ?_;intro v' w2 d hv f)
  go_ret;exact⟨_,rfl,Clo.of d hv,a.out.trans f⟩
def tC(k off n c:Nat)(a:List ad)(w:ac)(hl:a.length=n*1)(hc:∀j u,a[j]?=some u->w.cell? ⟨k,off+j,none⟩=some u)(d:∀u∈a,u.oneCell'=true)(f:n<=1000)(g:k<w.heap.size) :
 ag PL 53 #[fP (some ⟨k,off,none⟩) n c] w λe w'=>∃v,e=jp v/\v≠fP none 0 0/\w'.ownsRow w.heap.size 3 1 v n a/\bA w w':=by
 have h:=eA hc;have q1:=aaK;clear hc;have b:=eA ((eu w.heap.size w).alloc (ch _) (fp #[] 3));go_enter (fx ao dU),d8
 go_wp2_with (at_builtin;refine ga VF VG rfl ao ao rfl _ _ rfl w.heap.size w.heap.size rfl (au w (fp #[] 3)) (ch _) k off n c a rfl hl (λj u e=>(b.out.cell (p:=⟨k,off+j,none⟩) g).trans (h.out j u e)) d f ?_;intro v' w2 i hv l)
 go_ret;exact⟨_,rfl,hv,i,b.out.trans l⟩
def dJ{W:ac}{b b' e m n:Nat}{v:ad}{l:List ad}(h:W.ownsRow b e m v n l)(hb:b'<=b):W.ownsRow b' e m v n l:=by
 obtain⟨c,h⟩:=h
 rcases h with h|⟨g,cap,a,e1,d,hg,f⟩
 .exact⟨c,js h⟩
 .exact⟨c,jt ⟨g,cap,a,e1,ct hb d,hg,f⟩⟩
def iu{W:ac}{a b:Nat}{x y:Array ad}{t u:aJ}(h:W.heap[a]?=some (fp x t))(k:W.heap[b]?=some (fp y u))(c:t≠u):a≠b:=λe=>by
 grind
def Fe{W:ac}{b o:Nat}{v:ad}{c:Array ad}{t:aJ}(h:W.heap[b]?=some (fp c t)):(W.setCell ⟨b,o,none⟩ v).heap[b]?=some (fp (c.setIfInBounds o v) t):=by
 simp only[eI,e7,if_pos,h,iY];rfl
def aZ{W:ac}{b o k:Nat}{v:ad}(h:b≠k):(W.setCell ⟨b,o,none⟩ v).heap[k]?=W.heap[k]?:=by
 simp only[eI,e7,if_neg h]
def nC{W:ac}{r:Nat}{x0 x1 x2 x3 x4 a u0 u1 u2 u3 u4 u5:ad}{t:aJ}(h:W.heap[r]?=some (fp #[x0,x1,x2,x3,x4,a] t)):((((((W.setCell ⟨r,0,none⟩ u0).setCell ⟨r,1,none⟩ u1).setCell ⟨r,2,none⟩ u2).setCell ⟨r,3,none⟩ u3).setCell ⟨r,4,none⟩ u4).setCell ⟨r,5,none⟩ u5).heap[r]?=some (fp #[u0,u1,u2,u3,u4,u5] t):=by
 simp only[eI,e7,if_pos,h,iY];rfl
def cM{W:ac}{r b:Nat}{u0 u1 u2 u3 u4 u5:ad}(hb:b≠r):((((((W.setCell ⟨r,0,none⟩ u0).setCell ⟨r,1,none⟩ u1).setCell ⟨r,2,none⟩ u2).setCell ⟨r,3,none⟩ u3).setCell ⟨r,4,none⟩ u4).setCell ⟨r,5,none⟩ u5).heap[b]?=W.heap[b]?:=by
 simp only[eI,e7,if_neg (Ne.symm hb)]
def wJ{W:ac}{K o x:Nat}{v:ad}{cur:Array ad}{t:aJ}(h:W.heap[K]?=some (fp cur t))(a:o<cur.size):(W.setCell ⟨K,o,none⟩ v).cell? ⟨K,x,none⟩=if x=o then some v else W.cell? ⟨K,x,none⟩:=by
 simp only[eM,Fe h,h,Array.getElem?_setIfInBounds];grind
def ahH{W:ac}{K o b x:Nat}{v:ad}(hb:K≠b):(W.setCell ⟨K,o,none⟩ v).cell? ⟨b,x,none⟩=W.cell? ⟨b,x,none⟩:=by
 simp only[eM,aZ hb]
def alJ{a b:Type}(f:a->List b)(m:Nat)(c:∀x,(f x).length=m)(l:List a)(i j:Nat)(hi:i<l.length)(d:j<m):(l.flatMap f)[i*m+j]?=(f l[i])[j]?:=by
 induction l generalizing i with
 |nil=>cases hi
 |cons x l e=>
  rw[ht]
  match i with
  |0=>grind
  |i+1=>
   grind
def rowOf(f:Nat->List ad)(n:Nat):List ad:=(gy n).flatMap f
def abc{f:Nat->List ad}{n m i j:Nat}(a:∀i,(f i).length=m)(hi:i<n)(b:j<m):(rowOf f n)[i*m+j]?=(f i)[j]?:=by
 have:=alJ f m a (gy n) i j (by simpa using hi) b;unfold rowOf;simpa using this
def L2{f:Nat->List ad}{m:Nat}(a:∀i,(f i).length=m)(n:Nat):(rowOf f n).length=n*m:=by
 have:∀l:List Nat,(l.flatMap f).length=l.length*m:=λl=>by
  induction l with
  |nil=>simp
  |cons x l b=>grind
 unfold rowOf;rw[this,List.length_range]
def j7(w:ac)(k o n m:Nat)(f:Nat->List ad):Prop:=∀i,i<n->∀q,q<m->w.cell? ⟨k,o+i*m+q,none⟩=(f i)[q]?
def j7.get{w:ac}{k o n m:Nat}{f:Nat->List ad}(c:∀i,(f i).length=m)(hc:j7 w k o n m f):∀j u,(rowOf f n)[j]?=some u->w.cell? ⟨k,o+j,none⟩=some u:=λj u e=>by
 have a:=(List.getElem?_eq_some_iff.1 e).1;rw[L2 c]at a;have b:0<m:=Nat.pos_of_ne_zero λh=>by subst h;simp at a
 obtain⟨i,q,hi,d,rfl⟩:∃i q,i<n/\q<m/\j=i*m+q:=⟨j / m,j % m,Nat.div_lt_of_lt_mul (by rw[cB];exact a),cC j b,by rw[cB];exact(Nat.div_add_mod j m).symm⟩
 rw[abc c hi d]at e;rw[<-cf];exact(hc i hi q d).trans e
def L1.mk'{w:ac}{b:Option bC}{k o n m:Nat}{f:Nat->List ad}(a:∀i,(f i).length=m)(c:n<=1000)(d:∀i,∀u∈f i,u.oneCell'=true)(hs:0<n->b=some ⟨k,o,none⟩)(e:0<n->k<w.heap.size)(hc:j7 w k o n m f):L1 w b n m (rowOf f n):=by
 refine⟨L2 a n,c,λu g=>?_,λh=>⟨k,o,hs h,e h,hc.get a⟩⟩;obtain⟨i,_,h⟩:=List.mem_flatMap.1 g;exact d i u h
def j7.of{W:ac}{g n m e:Nat}{f:Nat->List ad}{cur:Array ad}(a:∀i,(f i).length=m)(h:W.heap[g]?=some (fp cur e))(b:cur.toList.take (n*m)=rowOf f n):j7 W g 0 n m f/\n*m<=cur.size:=by
 have hl:=congrArg List.length b;rw[L2 a,List.length_take,fg]at hl;refine⟨λi hi q c=>?_,ab⟩;have d:i*m+q<n*m:=by
  have:i*m+m<=n*m:=by rw[<-cQ];exact c9 m hi
  omega
 rw[<-abc a hi c,<-b,gr d,cl];simp[eM,h]
def abz(x:Int×Int):List ad:=[fB ip x.1,fB ip x.2]
def alM(x:Int×Int×Int):List ad:=[fB ip x.1,fB ip x.2.1,fB ip x.2.2]
def ah3(x:ByteArray×Int×Int):List ad:=[fJ x.1,fB ip x.2.1,fB ip x.2.2]
def G0(x:iJ):List ad:=fJ x.name::((gy 10).map λj=>fB ip (x.n (j+1)))++[fP x.lb x.ln x.lc]
def abr(x:iJ)(j:Nat):List ad:=[fB ip (x.lane j)]
def NR(x:iJ):(G0 x).length=12:=by simp[G0]
def R1(x:iJ){q:Nat}(a:1<=q)(b:q<=10):(G0 x)[q]?=some (fB ip (x.n q)):=by
 obtain⟨q,rfl⟩:∃k,q=k+1:=⟨q-1,ab⟩
 have hl:q<10:=ab;simp[G0,g7,hl]
def ac6(x:iJ):∀u∈G0 x,u.oneCell'=true:=by
 intro u h;simp only[G0,hu,gc,List.mem_append,List.mem_map,ge,or_false]at h
 rcases h with rfl|⟨j,_,rfl⟩|rfl<;>rfl
structure u7(C:CD)(w:ac):Prop where
 m2:C.n2<=20
 m3:C.n3<=20
 m4:C.n4<=20
 m5:C.n5<=20
 h2:C.k2<w.heap.size
 h3:C.k3<w.heap.size
 h4:C.k4<w.heap.size
 h5:C.k5<w.heap.size
 s2:0<C.n2->C.b2=some ⟨C.k2,C.o2,none⟩
 s3:0<C.n3->C.b3=some ⟨C.k3,C.o3,none⟩
 s4:0<C.n4->C.b4=some ⟨C.k4,C.o4,none⟩
 s5:0<C.n5->C.b5=some ⟨C.k5,C.o5,none⟩
 r2:j7 w C.k2 C.o2 C.n2 2 λi=>abz (C.x2 i)
 r3:j7 w C.k3 C.o3 C.n3 3 λi=>alM (C.x3 i)
 r4:j7 w C.k4 C.o4 C.n4 12 λi=>G0 (C.x4 i)
 r5:j7 w C.k5 C.o5 C.n5 3 λi=>ah3 (C.x5 i)
 cu:∀i,i<C.n4->(C.x4 i).name.size<=100/\(C.x4 i).ln<=20
 nm5:∀i,i<C.n5->(C.x5 i).1.size<=100
 l4:∀i,i<C.n4->0<(C.x4 i).ln->(C.x4 i).lb=some ⟨(C.x4 i).lk,(C.x4 i).lo,none⟩/\(C.x4 i).lk<w.heap.size
 rl:∀i,i<C.n4->j7 w (C.x4 i).lk (C.x4 i).lo (C.x4 i).ln 1 (abr (C.x4 i))
def CD.At.rows{C:CD}{w:ac}(h:C.At w):u7 C w:=by
 obtain⟨m2,m3,m4,m5,h2,h3,h4,h5,s2,s3,s4,s5,Ep,Er,Es,Et,Eu,cu,AD,dB,nj,l4,J5,nm5,FI,HU,J6⟩:=h;refine⟨m2,m3,m4,m5,h2,h3,h4,h5,s2,s3,s4,s5,λi hi q a=>?_,λi hi q a=>?_,λi hi q a=>?_,λi hi q a=>?_,cu,nm5,l4,λi hi j b q a=>?_⟩
 .match q,a with
  |0,_=>exact Ep i hi
  |1,_=>exact Er i hi
 .match q,a with
  |0,_=>exact Es i hi
  |1,_=>exact Et i hi
  |2,_=>exact Eu i hi
 .by_cases c:q=0
  .subst c;exact AD i hi
  .by_cases d:q=11
   .subst d;exact nj i hi
   .rw[R1 _ ab ab];grind
 .match q,a with
  |0,_=>exact FI i hi
  |1,_=>exact HU i hi
  |2,_=>exact J6 i hi
 .obtain rfl:q=0:=ab;have:=J5 i hi j b;rw[da];exact this
def u7.at_{C:CD}{w:ac}(h:u7 C w):C.At w:=by
 obtain⟨m2,m3,m4,m5,h2,h3,h4,h5,s2,s3,s4,s5,r2,r3,r4,r5,cu,nm5,l4,rl⟩:=h
 exact⟨m2,m3,m4,m5,h2,h3,h4,h5,s2,s3,s4,s5,λi hi=>r2 i hi 0 ab,λi hi=>r2 i hi 1 ab,λi hi=>r3 i hi 0 ab,λi hi=>r3 i hi 1 ab,λi hi=>r3 i hi 2 ab,cu,λi hi=>r4 i hi 0 ab,
  λi hi j a h2=>(r4 i hi j ab).trans (R1 _ a h2),λi hi=>r4 i hi 11 ab,l4,λi hi j b=>by have:=rl i hi j b 0 ab;rw[da]at this;exact this,nm5,λi hi=>r5 i hi 0 ab,λi hi=>r5 i hi 1 ab,λi hi=>r5 i hi 2 ab⟩
abbrev CD.abA(C:CD):List ad:=rowOf (λi=>abz (C.x2 i)) C.n2
abbrev CD.anX(C:CD):List ad:=rowOf (λi=>alM (C.x3 i)) C.n3
abbrev CD.abB(C:CD):List ad:=rowOf (λi=>G0 (C.x4 i)) C.n4
abbrev CD.adP(C:CD):List ad:=rowOf (λi=>ah3 (C.x5 i)) C.n5
def CD.ahI(C:CD){i j:Nat}(hi:i<C.n4)(a:j<12):C.abB[i*12+j]?=(G0 (C.x4 i))[j]?:=abc (λ_=>NR _) hi a
def CD.abt(C:CD):C.abB.length=C.n4*12:=L2 (λ_=>NR _) _
def u7.anY{C:CD}{w:ac}(h:u7 C w):L1 w C.b2 C.n2 2 C.abA:=.mk' (λ_=>rfl) (ct h.m2 ao) (λi u a=>by simp only[abz,gc,ge,or_false]at a;rcases a with rfl|rfl<;>rfl) h.s2 (λ_=>h.h2) h.r2
def u7.ar6{C:CD}{w:ac}(h:u7 C w):L1 w C.b3 C.n3 3 C.anX:=.mk' (λ_=>rfl) (ct h.m3 ao) (λi u a=>by simp only[alM,gc,ge,or_false]at a;rcases a with rfl|rfl|rfl<;>rfl) h.s3 (λ_=>h.h3) h.r3
def u7.anZ{C:CD}{w:ac}(h:u7 C w):L1 w C.b4 C.n4 12 C.abB:=.mk' (λ_=>NR _) (ct h.m4 ao) (λi=>ac6 _) h.s4 (λ_=>h.h4) h.r4
def u7.ar7{C:CD}{w:ac}(h:u7 C w):L1 w C.b5 C.n5 3 C.adP:=.mk' (λ_=>rfl) (ct h.m5 ao) (λi u a=>by simp only[ah3,gc,ge,or_false]at a;rcases a with rfl|rfl|rfl<;>rfl) h.s5 (λ_=>h.h5) h.r5
def u7.ar8{C:CD}{w:ac}(h:u7 C w){i:Nat}(hi:i<C.n4):L1 w (C.x4 i).lb (C.x4 i).ln 1 (rowOf (abr (C.x4 i)) (C.x4 i).ln):=.mk' (λ_=>rfl) (ct (h.cu i hi).2 ao) (λj u a=>by simp only[abr,List.mem_singleton]at a;subst a;rfl) (λhl=>(h.l4 i hi hl).1) (λhl=>(h.l4 i hi hl).2) (h.rl i hi)
def CD.At.abB{C:CD}{w:ac}(h:C.At w):∀j u,C.abB[j]?=some u->w.cell? ⟨C.k4,C.o4+j,none⟩=some u:=by
 intro j u e;by_cases h4:0<C.n4
 .obtain⟨k,o,hb,_,hc⟩:=h.rows.anZ.cells h4;rw[h.s4 h4]at hb;cases hb;exact hc j u e
 .have:=(List.getElem?_eq_some_iff.1 e).1;rw[C.abt]at this;omega
structure abu(x y:iJ):Prop where
 name:y.name=x.name
 n:y.n=x.n
 ln:y.ln=x.ln
 lane:y.lane=x.lane
 nil:x.lb=none->x.lc=0->y.lb=none/\y.lc=0
def Typ(W:ac)(k e:Nat):Prop:=∃a,W.heap[k]?=some (fp a e)
def Typ.on{W a:ac}{k e:Nat}(h:Typ W k e)(b:bA W a):Typ a k e:=h.imp λ_ h=>(b.block _ (eD h)).trans h
def Typ.ne{W:ac}{k k' e e':Nat}(h:Typ W k e)(a:Typ W k' e')(b:e≠e'):k≠k':=by
 obtain⟨_,h⟩:=h;obtain⟨_,a⟩:=a;exact iu h a b
theorem Typ.set{W:ac}{k e K o:Nat}{v:ad}(h:Typ W k e):Typ (W.setCell ⟨K,o,none⟩ v) k e:=by
 obtain⟨c,h⟩:=h;by_cases a:K=k
 .subst a;exact⟨_,Fe h⟩
 .exact⟨c,(aZ a).trans h⟩
structure s8(n0 i:Nat)(D:CD)(W:ac):Prop where
 mem:u7 D W
 t2:0<D.n2->Typ W D.k2 39
 t3:0<D.n3->Typ W D.k3 88
 t4:n0<=D.k4/\D.o4=0/\∃cur,W.heap[D.k4]?=some (fp cur 82)/\D.n4*12<=cur.size
 t5:0<D.n5->n0<=D.k5/\D.o5=0/\∃cur,W.heap[D.k5]?=some (fp cur 84)/\D.n5*3<=cur.size
 tl:∀j,j<D.n4->0<(D.x4 j).ln->(j<i->Typ W (D.x4 j).lk 3)/\(i<=j->(D.x4 j).lk<n0)
def u7.on{C:CD}{w W:ac}(h:u7 C w)(a:bA w W):u7 C W:=(h.at_.below a).rows
def s8.on{n0 i:Nat}{D:CD}{W c:ac}(h:s8 n0 i D W)(b:bA W c):s8 n0 i D c:=
 ⟨h.mem.on b,λa=>(h.t2 a).on b,λa=>(h.t3 a).on b,⟨h.t4.1,h.t4.2.1,h.t4.2.2.imp λ_ k=>⟨(b.block _ (eD k.1)).trans k.1,k.2⟩⟩,
   λa=>⟨(h.t5 a).1,(h.t5 a).2.1,(h.t5 a).2.2.imp λ_ k=>⟨(b.block _ (eD k.1)).trans k.1,k.2⟩⟩,λj d hl=>⟨λhi=>((h.tl j d hl).1 hi).on b,(h.tl j d hl).2⟩⟩
def j7.other{W:ac}{K O k o n m:Nat}{v:ad}{f:Nat->List ad}(h:j7 W k o n m f)(a:0<n->K≠k):j7 (W.setCell ⟨K,O,none⟩ v) k o n m f:=λi hi q b=>(ahH (a ab)).trans (h i hi q b)
def j7.put{W:ac}{K n m p r:Nat}{v:ad}{f g:Nat->List ad}{cur:Array ad}{t:aJ}(h:j7 W K 0 n m f)(d:W.heap[K]?=some (fp cur t))(hs:n*m<=cur.size)(j:p<n)(b:r<m)(k:∀i,i≠p->g i=f i)(s:∀q,q<m->(g p)[q]?=if q=r then some v else(f p)[q]?):j7 (W.setCell ⟨K,p*m+r,none⟩ v) K 0 n m g:=λi hi q a=>by
 have key:∀i,i<n->∀q,q<m->i*m+q<n*m:=λi hi q a=>by
  have:i*m+m<=n*m:=by rw[<-cQ];exact c9 m hi
  omega
 have c:=h i hi q a;rw[cl]at c⊢;rw[wJ d (by have:=key p j r b;omega)];by_cases e:i=p
 .grind
 .rw[k i e,if_neg ?_,c];intro l;have o:(i*m+q) / m=(p*m+r) / m:=by rw[l]
  rw[cB i,cB p,db ab,db ab,dd a,dd b]at o;exact e ab
def s8.ar9{n0 i:Nat}{D:CD}{W:ac}(h:s8 n0 i D W){p:Nat}(s:p<D.n5)(d:Int):s8 n0 i { D with x5:=λj=>if j=p then((D.x5 j).1,(D.x5 j).2.1,d) else D.x5 j } (W.setCell ⟨D.k5,p*3+2,none⟩ (fB ip d)):=by
 have l:0<D.n5:=ab;obtain⟨t,n,u,hc,hs⟩:=h.t5 l;have T5:Typ W D.k5 84:=⟨_,hc⟩
 have r:Typ W D.k4 82:=h.t4.2.2.imp λ_ k=>k.1;have m:=h.mem;have o:j7 W D.k5 0 D.n5 3 λi=>ah3 (D.x5 i):=n▸m.r5;have v:∀j,j<D.n4->0<(D.x4 j).ln->D.k5≠(D.x4 j).lk:=λj g hl=>by
  by_cases w:j<i
  .exact T5.ne ((h.tl j g hl).1 w) ao
  .have:=(h.tl j g hl).2 ab;omega
 refine⟨⟨m.m2,m.m3,m.m4,m.m5,by rw[eN];exact m.h2,by rw[eN];exact m.h3,by rw[eN];exact m.h4,by rw[eN];exact m.h5,m.s2,m.s3,m.s4,m.s5,m.r2.other λl=>T5.ne (h.t2 l) ao,m.r3.other λl=>T5.ne (h.t3 l) ao,m.r4.other λ_=>T5.ne r ao,?_,m.cu,λj g=>?_,λj g hl=>⟨(m.l4 j g hl).1,by rw[eN];exact(m.l4 j g hl).2⟩,λj g=>(m.rl j g).other λhl=>v j g hl⟩,λl=>(h.t2 l).set,λl=>(h.t3 l).set,?_,λ_=>⟨t,n,_,Fe hc,aS⟩,λj g hl=>⟨λhi=>((h.tl j g hl).1 hi).set,(h.tl j g hl).2⟩⟩
 .show j7 _ D.k5 D.o5 D.n5 3 _;rw[n];refine o.put hc hs s ao (λj g=>?_) (λq x=>?_)
  .grind
  .show(ah3 (if p=p then _ else _))[q]?=_;rw[if_pos rfl]
   match q,x with
   |0,_=>rfl
   |1,_=>rfl
   |2,_=>rfl
 .show(if j=p then((D.x5 j).1,(D.x5 j).2.1,d) else D.x5 j).1.size<=100;split
  .exact m.nm5 j g
  .exact m.nm5 j g
 .obtain⟨a,b,c,e,f⟩:=h.t4;exact⟨a,b,c,(aZ (T5.ne r ao)).trans e,f⟩
def s8.arb{n0 i l:Nat}{D:CD}{W:ac}(h:s8 n0 i D W){f:Nat->iJ}{p r:Nat}{v:ad}(y:p<D.n4)(z:r<12)(o:∀j,j≠p->f j=D.x4 j)(A:∀q,q<12->(G0 (f p))[q]?=if q=r then some v else(G0 (D.x4 p))[q]?)
 (d:(f p).name=(D.x4 p).name/\(f p).ln=(D.x4 p).ln) (hl:0<(f p).ln->(f p).lb=some ⟨(f p).lk,(f p).lo,none⟩/\(f p).lk<W.heap.size) (s:j7 W (f p).lk (f p).lo (f p).ln 1 (abr (f p))) (t:∀j,j<D.n4->0<(f j).ln->(j<l->Typ W (f j).lk 3)/\(l<=j->(f j).lk<n0)) :
 s8 n0 l { D with x4:=f } (W.setCell ⟨D.k4,p*12+r,none⟩ v):=by
 obtain⟨B,u,C,hc,hs⟩:=h.t4;have n:Typ W D.k4 82:=⟨_,hc⟩
 have m:=h.mem;have w:j7 W D.k4 0 D.n4 12 λi=>G0 (D.x4 i):=u▸m.r4;have E:∀j,j<D.n4->0<(f j).ln->D.k4≠(f j).lk:=λj g hl=>by
  by_cases F:j<l
  .exact n.ne ((t j g hl).1 F) ao
  grind
 have T5:0<D.n5->D.k4≠D.k5:=λd=>n.ne ((h.t5 d).2.2.imp λ_ k=>k.1) ao;refine⟨⟨m.m2,m.m3,m.m4,m.m5,by rw[eN];exact m.h2,by rw[eN];exact m.h3,by rw[eN];exact m.h4,by rw[eN];exact m.h5,m.s2,m.s3,m.s4,m.s5,m.r2.other λd=>n.ne (h.t2 d) ao,m.r3.other λd=>n.ne (h.t3 d) ao,?_,m.r5.other T5,λj g=>?_,m.nm5,λj g hl=>?_,λj g=>?_⟩,λd=>(h.t2 d).set,λd=>(h.t3 d).set,⟨B,u,_,Fe hc,aS⟩,λd=>?_,λj g hl=>⟨λhi=>((t j g hl).1 hi).set,(t j g hl).2⟩⟩
 .show j7 _ D.k4 D.o4 D.n4 12 _;rw[u];exact w.put hc hs y z (λj g=>aS) A
 .show(f j).name.size<=100/\(f j).ln<=20;by_cases e:j=p
  .subst e;rw[d.1,d.2];exact m.cu j g
  .rw[o j e];exact m.cu j g
 .rw[eN];have x:0<(f j).ln:=hl;show(f j).lb=some ⟨(f j).lk,(f j).lo,none⟩/\(f j).lk<W.heap.size;by_cases e:j=p
  .subst e;exact hl x
  .rw[o j e]at x ⊢;exact m.l4 j g x
 .have:=λhl=>E j g hl;show j7 _ (f j).lk (f j).lo (f j).ln 1 (abr (f j));refine j7.other ?_ this;by_cases e:j=p
  .subst e;exact s
  .rw[o j e];exact m.rl j g
 .obtain⟨a,b,c,e,f⟩:=h.t5 d;exact⟨a,b,c,(aZ (T5 d)).trans e,f⟩
def s8.other{n0 i:Nat}{D:CD}{W:ac}(h:s8 n0 i D W){K:Nat}(c:Typ W K 27)(o:Nat)(v:ad)(hl:n0<=K):s8 n0 i D (W.setCell ⟨K,o,none⟩ v):=by
 have m:=h.mem;have d:K≠D.k4:=c.ne (h.t4.2.2.imp λ_ k=>k.1) ao;have T5:0<D.n5->K≠D.k5:=λa=>c.ne ((h.t5 a).2.2.imp λ_ k=>k.1) ao;have e:∀j,j<D.n4->0<(D.x4 j).ln->K≠(D.x4 j).lk:=λj b hl=>by
  by_cases f:j<i
  .exact c.ne ((h.tl j b hl).1 f) ao
  .have:=(h.tl j b hl).2 ab;omega
 exact⟨⟨m.m2,m.m3,m.m4,m.m5,by rw[eN];exact m.h2,by rw[eN];exact m.h3,by rw[eN];exact m.h4,by rw[eN];exact m.h5,m.s2,m.s3,m.s4,m.s5,m.r2.other λa=>c.ne (h.t2 a) ao,m.r3.other λa=>c.ne (h.t3 a) ao,m.r4.other λ_=>d,m.r5.other T5,m.cu,m.nm5,λj b hl=>⟨(m.l4 j b hl).1,by rw[eN];exact(m.l4 j b hl).2⟩,λj b=>(m.rl j b).other λhl=>e j b hl⟩,λa=>(h.t2 a).set,λa=>(h.t3 a).set,⟨h.t4.1,h.t4.2.1,h.t4.2.2.imp λ_ k=>⟨(aZ d).trans k.1,k.2⟩⟩,λa=>⟨(h.t5 a).1,(h.t5 a).2.1,(h.t5 a).2.2.imp λ_ k=>⟨(aZ (T5 a)).trans k.1,k.2⟩⟩,λj b hl=>⟨λhi=>((h.tl j b hl).1 hi).set,(h.tl j b hl).2⟩⟩
structure ac7 where
 B2:Option bC
 K2:Nat
 p2:Nat
 B3:Option bC
 K3:Nat
 p3:Nat
 K4:Nat
 p4:Nat
 B5:Option bC
 K5:Nat
 p5:Nat
abbrev CD.X0(C:CD)(Y:ac7)(f:Nat->iJ):CD:=
 { C with b2:=Y.B2,k2:=Y.K2,o2:=0,c2:=Y.p2,b3:=Y.B3,k3:=Y.K3,o3:=0,c3:=Y.p3,b4:=some ⟨Y.K4,0,none⟩,k4:=Y.K4,o4:=0,c4:=Y.p4,x4:=f,b5:=Y.B5,k5:=Y.K5,o5:=0,c5:=Y.p5 }
def abu.refl(x:iJ):abu x x:=⟨rfl,rfl,rfl,rfl,λh k=>⟨h,k⟩⟩
def s8.ard{n0 i g c:Nat}{D:CD}{W:ac}{b':Option bC}(h:s8 n0 i D W)(hi:i<D.n4)(hv:(0<(D.x4 i).ln->b'=some ⟨g,0,none⟩/\∃cur,W.heap[g]?=some (fp cur 3)/\cur.toList.take ((D.x4 i).ln*1)=rowOf (abr (D.x4 i)) (D.x4 i).ln)) :
 s8 n0 (i+1) { D with x4:=λj=>if j=i then { D.x4 j with lb:=b',lk:=g,lo:=0,lc:=c } else D.x4 j } (W.setCell ⟨D.k4,i*12+11,none⟩ (fP b' (D.x4 i).ln c)):=by
 refine h.arb hi ao (λj a=>if_neg a) (λq l=>?_) aS (λhl=>?_) ?_ (λj a hl=>?_)
 .rw[if_pos rfl];by_cases e:q=11
  .subst e;rfl
  .rw[if_neg e];by_cases d:q=0
   .subst d;rfl
   .rw[R1 _ ab ab,R1 _ ab ab]
 .grind
 .rw[if_pos rfl];by_cases hl:0<(D.x4 i).ln
  .obtain⟨_,cur,b,f⟩:=hv hl;exact(j7.of (m:=1) (λ_=>rfl) b f).1
  .intro j a;grind
 .by_cases e:j=i
  .subst e;rw[if_pos rfl]at hl ⊢;obtain⟨_,cur,b,_⟩:=hv hl;exact⟨λ_=>⟨cur,b⟩,λh=>ab⟩
  .rw[if_neg e]at hl ⊢;exact⟨λk=>(h.tl j a hl).1 ab,λk=>(h.tl j a hl).2 ab⟩
abbrev RX:Array ad:=#[fB ip 0,fB ip 0,fP none 0 0,fP none 0 0,fP none 0 0,fP none 0 0]
structure KO(V:Array ad)(w W:ac):Prop where
 box:W.heap[w.heap.size]?=some (fp V 27)
 res:W.heap[w.heap.size+1]?=some (fp RX 27)
 low:bA w W
def KO.on{V:Array ad}{w W b:ac}(h:KO V w W)(a:bA W b):KO V w b:=
 ⟨(a.block _ (eD h.box)).trans h.box,(a.block _ (eD h.res)).trans h.res,eE h.low a⟩
def KO.start(V:Array ad)(w:ac):KO V w ((w.alloc (fp V 27)).alloc (fp RX 27)):=by
 refine⟨?_,?_,((eu _ _).alloc (ch _) _).alloc ar _⟩
 .exact(((eu (w.alloc (fp V 27)).heap.size _).alloc (ch _) _).block _ ar).trans (au w _)
 .have a:=au (w.alloc (fp V 27)) (fp RX 27);rw[eQ]at a;exact a
def RY(C:CD)(w:ac)(i:Nat)(vs:Nat->ad)(W:ac):Prop:=
 (i=2->Clo w W 39 2 C.n2 C.abA C.b2 (vs 2))/\(i=5->Clo w W 88 3 C.n3 C.anX C.b3 (vs 5))/\(i=8->Clo w W 82 12 C.n4 C.abB C.b4 (vs 8))/\(i=11->Clo w W 84 3 C.n5 C.adP C.b5 (vs 11))
def VP{C:CD}{w W b:ac}{i:Nat}{vs:Nat->ad}(a:bA W b)(h:RY C w i vs W):RY C w i vs b:=
 ⟨λe=>(h.1 e).on a,λe=>(h.2.1 e).on a,λe=>(h.2.2.1 e).on a,λe=>(h.2.2.2 e).on a⟩
def RZ{C:CD}{w W:ac}{i:Nat}{vs b:Nat->ad}(a:vs i=b i)(h:RY C w i vs W):RY C w i b W:=
 ⟨λe=>by subst e;rw[<-a];exact h.1 rfl,λe=>by subst e;rw[<-a];exact h.2.1 rfl,λe=>by subst e;rw[<-a];exact h.2.2.1 rfl,λe=>by subst e;rw[<-a];exact h.2.2.2 rfl⟩
def Clo.pick{w W:ac}{e m n d:Nat}{row:List ad}{b:Option bC}{v:ad}(h:Clo w W e m n row b v)(hd:d<W.heap.size):∃B c K,v=fP B n c/\(b=none->B=none/\c=0)/\K<W.heap.size/\(0<n->B=some ⟨K,0,none⟩/\w.heap.size<=K/\∃cur,W.heap[K]?=some (fp cur e)/\cur.toList.take (n*m)=row):=by
 obtain⟨B,c,hv,a,i⟩:=h;by_cases f:0<n
 .obtain⟨g,cur,a1,a2,a3,a4⟩:=i f;exact⟨B,c,g,hv,a,eD a3,λ_=>⟨a1,a2,cur,a3,a4⟩⟩
 .exact⟨B,c,d,hv,a,hd,λh=>absurd h f⟩
def aaD{W:ac}{n m e K:Nat}{B:Option bC}{f:Nat->List ad}{n0:Nat}(a:∀i,(f i).length=m)(h:0<n->B=some ⟨K,0,none⟩/\n0<=K/\∃cur,W.heap[K]?=some (fp cur e)/\cur.toList.take (n*m)=rowOf f n):j7 W K 0 n m f:=by
 by_cases b:0<n
 .obtain⟨_,_,cur,c,d⟩:=h b;exact(j7.of a c d).1
 .intro i hi;omega
def agD(C:CD)(f:Nat->iJ):Prop:=(∀j,abu (C.x4 j) (f j))/\∀j,j<C.n4->(f j).lo=0
structure KI(C:CD)(Y:ac7)(w:ac)(i:Nat)(f:Nat->iJ)(W:ac):Prop where
 box:W.heap[w.heap.size]?=some (fp (C.X0 Y f).val 27)
 res:W.heap[w.heap.size+1]?=some (fp RX 27)
 low:bA w W
 own:s8 w.heap.size i (C.X0 Y f) W
 X0:∀j,abu (C.x4 j) (f j)
 old:∀j,i<=j->f j=C.x4 j
 zero:∀j,j<i->(f j).lo=0
def KI.on{C:CD}{Y:ac7}{w:ac}{i:Nat}{f:Nat->iJ}{W b:ac}(h:KI C Y w i f W)(a:bA W b):KI C Y w i f b:=
 ⟨(a.block _ (eD h.box)).trans h.box,(a.block _ (eD h.res)).trans h.res,eE h.low a,h.own.on a,h.X0,h.old,h.zero⟩
def KI.lane{C:CD}{Y:ac7}{w wr:ac}{i:Nat}{f:Nat->iJ}{W:ac}(h:KI C Y w i f W)(hi:i<C.n4){B:Option bC}{c K:Nat}(l:(f i).lb=none->B=none/\c=0)(d:0<(f i).ln->B=some ⟨K,0,none⟩/\wr.heap.size<=K/\∃cur,W.heap[K]?=some (fp cur 3)/\cur.toList.take ((f i).ln*1)=rowOf (abr (f i)) (f i).ln) :
 KI C Y w (i+1) (λj=>if j=i then { f j with lb:=B,lk:=K,lo:=0,lc:=c } else f j) (W.setCell ⟨Y.K4,i*12+11,none⟩ (fP B (f i).ln c)):=by
 have g:Typ W Y.K4 82:=h.own.t4.2.2.imp λ_ k=>k.1;have m:w.heap.size<=Y.K4:=h.own.t4.1;refine⟨(aZ (g.ne ⟨_,h.box⟩ ao)).trans h.box,(aZ (g.ne ⟨_,h.res⟩ ao)).trans h.res,h.low.setCell (p:=⟨Y.K4,_,none⟩) m _,h.own.ard hi λhl=>⟨(d hl).1,(d hl).2.2⟩,λj=>?_,λj o=>?_,λj o=>?_⟩
 .by_cases e:j=i
  .subst e;rw[if_pos rfl];have k:=h.X0 j;have q:=h.old j (ch _);exact⟨k.name,k.n,k.ln,k.lane,λa b=>l (by rw[q];exact a)⟩
  .rw[if_neg e];exact h.X0 j
 .rw[if_neg ab];exact h.old j ab
 .by_cases e:j=i
  .rw[if_pos e]
  .rw[if_neg e];exact h.zero j ab
def s8.adn{n0 i:Nat}{D:CD}{W:ac}(h:s8 n0 i D W){K:Nat}(a:Typ W K 27)(hl:n0<=K)(u0 u1 u2 u3 u4 u5:ad):s8 n0 i D ((((((W.setCell ⟨K,0,none⟩ u0).setCell ⟨K,1,none⟩ u1).setCell ⟨K,2,none⟩ u2).setCell ⟨K,3,none⟩ u3).setCell ⟨K,4,none⟩ u4).setCell ⟨K,5,none⟩ u5):=
 (((((h.other a 0 u0 hl).other a.set 1 u1 hl).other a.set.set 2 u2 hl).other a.set.set.set 3 u3 hl).other a.set.set.set.set 4 u4 hl).other a.set.set.set.set.set 5 u5 hl
def ahJ(C:CD)(w:ac)(h:C.At w)(h4:0<C.n4):ag PL 79 #[f6 C.val] w λe w'=>∃Y f,e=jp (f6 (C.X0 Y f).val)/\agD C f/\s8 w.heap.size C.n4 (C.X0 Y f) w'/\bA w w':=by
 have HX:Hid (∀W,bA w W->u7 C W):=eA λW d=>(h.below d).rows;have HL:Hid (∀j,j<C.n4->0<(C.x4 j).ln->(C.x4 j).lk<w.heap.size):=eA λj L hl=>(h.l4 j L hl).2;have K0:=eA (KO.start C.val w);have m4:=h.m4;clear h;go_enter (fx ao Tryz.func79),Tryz.ntmps79;go_wp2;refine bL ?_;refine cT 13 (KO C.val w) (λW r=>bA W r) (λj=>j % 3 != 2||j==12) (RY C w) rfl ae ae (λ_ _ _ _ D h=>VP D h) (λ_ _ _ _ _ _ he _ h=>RZ he h) ?_ ?_
 .exact K0.out.on (eu _ _).drew
 .simp only[hG,hH]
  iterate 13 (
   first
   |(apply aY
     case hE=>rfl
     case h=>
      intro vs W b hd;obtain⟨s,t,u,y,f4,z⟩:=bf b.box;go_simp;exact⟨rfl,eu _ _⟩
     case hb=>exact H9)
   |(apply eH
     case hE=>rfl
     case h=>
      intro vs W b hd;have Q:=HX.out W b.low;have hs:=b.low.size;go_simp
      first
      |(go_at_call 108;refine(agz _ _ _ _ _ Q.anY).mono ?_;rintro e r⟨v,rfl,q,d⟩;exact⟨_,rfl,b.on d,d,⟨(λ_=>q.low hs),(bp),(bp),(bp)⟩⟩)
      |(go_at_call 109;refine(agA _ _ _ _ _ Q.ar6).mono ?_;rintro e r⟨v,rfl,q,d⟩;exact⟨_,rfl,b.on d,d,⟨(bp),(λ_=>q.low hs),(bp),(bp)⟩⟩)
      |(go_at_call 110;refine(agB _ _ _ _ _ Q.anZ).mono ?_;rintro e r⟨v,rfl,q,d⟩;exact⟨_,rfl,b.on d,d,⟨(bp),(bp),(λ_=>q.low hs),(bp)⟩⟩)
      |(go_at_call 111;refine(agC _ _ _ _ _ Q.ar7).mono ?_;rintro e r⟨v,rfl,q,d⟩;exact⟨_,rfl,b.on d,d,⟨(bp),(bp),(bp),(λ_=>q.low hs)⟩⟩)
     case hb=>exact H9))
  refine cP λvs W b hd=>?_;have h2:=((hd 2 ab rfl).1 rfl)
  have h3:=((hd 5 ab rfl).2.1 rfl)
  have M:=((hd 8 ab rfl).2.2.1 rfl)
  have h5:=((hd 11 ab rfl).2.2.2 rfl)
  have A:=eA b;have N:=eD b.box;clear hd b;obtain⟨R,S,K2,e2,_,l2,q2⟩:=h2.pick N;obtain⟨T,U,g,e3,_,l3,q3⟩:=h3.pick N;obtain⟨B4,V,X,e4,_,l4,q4⟩:=M.pick N;obtain⟨B5,Z,K5,e5,_,l5,q5⟩:=h5.pick N;obtain⟨rfl,g4,q4⟩:=q4 h4;rw[e2,e3,e4,e5];obtain⟨Y,hY⟩:=br (⟨R,K2,S,T,g,U,X,V,B5,K5,Z⟩:ac7)
  have KK:Hid (KI C Y w 0 C.x4 ((((W.setCell ⟨w.heap.size,2,none⟩ (fP R C.n2 S)).setCell ⟨w.heap.size,3,none⟩ (fP T C.n3 U)).setCell ⟨w.heap.size,4,none⟩ (fP (some ⟨X,0,none⟩) C.n4 V)).setCell ⟨w.heap.size,5,none⟩ (fP B5 C.n5 Z))):=eA (by
   subst hY;have m:=HX.out W A.out.low;have T0:Typ W w.heap.size 27:=⟨_,A.out.box⟩
   have O0:s8 w.heap.size 0 (C.X0 ⟨R,K2,S,T,g,U,X,V,B5,K5,Z⟩ C.x4) W:=by
    obtain⟨c4,E,O⟩:=q4;refine⟨⟨m.m2,m.m3,m.m4,m.m5,l2,l3,l4,l5,λn=>(q2 n).1,λn=>(q3 n).1,λ_=>rfl,λn=>(q5 n).1,aaD (λ_=>rfl) q2,aaD (λ_=>rfl) q3,(j7.of (λ_=>NR _) E O).1,aaD (λ_=>rfl) q5,m.cu,m.nm5,m.l4,m.rl⟩,λn=>(q2 n).2.2.imp λ_ k=>k.1,λn=>(q3 n).2.2.imp λ_ k=>k.1,⟨g4,rfl,c4,E,(j7.of (λ_=>NR _) E O).2⟩,λn=>?_,λj L hl=>⟨λh=>absurd h (cv _),λ_=>HL.out j L hl⟩⟩;obtain⟨_,a,c,e,k⟩:=q5 n;exact⟨a,rfl,c,e,(j7.of (m:=3) (λ_=>rfl) e k).2⟩
   have ne:w.heap.size≠w.heap.size+1:=ab;refine⟨Fe (Fe (Fe (Fe A.out.box))),?_,(((A.out.low.setCell (p:=⟨w.heap.size,2,none⟩) (ch _) _).setCell (p:=⟨w.heap.size,3,none⟩) (ch _) _).setCell (p:=⟨w.heap.size,4,none⟩) (ch _) _).setCell (p:=⟨w.heap.size,5,none⟩) (ch _) _,(((O0.other T0 2 _ (ch _)).other T0.set 3 _ (ch _)).other T0.set.set 4 _ (ch _)).other T0.set.set.set 5 _ (ch _),λj=>abu.refl _,λ_ _=>rfl,λj L=>absurd L (cv _)⟩
   rw[aZ ne,aZ ne,aZ ne,aZ ne];exact A.out.res)
  obtain⟨s,t,u,y,f4,z⟩:=bf A.out.box;have fz:=tO A.out.box;clear h2 h3 M h5 q2 q3 q4 q5 e2 e3 e4 e5 l2 l3 l4 l5 g4;simp only[hM,hT]
  go_upto_region 2 with fail
  refine NoPanic.normal ?_;obtain⟨W1,mG⟩:=br ((((W.setCell ⟨w.heap.size,2,none⟩ (fP R C.n2 S)).setCell ⟨w.heap.size,3,none⟩ (fP T C.n3 U)).setCell ⟨w.heap.size,4,none⟩ (fP (some ⟨X,0,none⟩) C.n4 V)).setCell ⟨w.heap.size,5,none⟩ (fP B5 C.n5 Z));rw[<-mG]at KK ⊢;have P:Hid (W1.heap[w.heap.size]?=some (fp #[fB ip C.l,fB ip C.p,fP Y.B2 C.n2 Y.p2,fP Y.B3 C.n3 Y.p3,fP (some ⟨Y.K4,0,none⟩) C.n4 Y.p4,fP Y.B5 C.n5 Y.p5] 27)):=eA KK.out.box;clear mG s t u y f4 z fz N A hY;obtain⟨s,t,u,y,f4,z⟩:=bf P.out
  go_upto_region 3 with fail
  go_loopw [23] (λF wr=>∃(i:Nat)(f:Nat->iJ),i<=C.n4/\F=fB ip i/\KI C Y w i f wr) (λF _=>C.n4-(intOf F).toNat)
  case atStart=>exact⟨0,C.x4,ce _,rfl,KK.out⟩
  case round=>
   obtain⟨i,f,hi,rfl,hK⟩:=hrel;have g:=eA hK;clear hK s t u y f4 z P KK;have H:Hid (∀W,KI C Y w i f W->W.heap[w.heap.size]?=some (fp #[fB ip C.l,fB ip C.p,fP Y.B2 C.n2 Y.p2,fP Y.B3 C.n3 Y.p3,fP (some ⟨Y.K4,0,none⟩) C.n4 Y.p4,fP Y.B5 C.n5 Y.p5] 27)):=eA λW h=>h.box;by_cases aH:i<C.n4
   .have i1:(i:Int)<C.n4:=ab;obtain⟨x,hx⟩:=br (f i);have FL:Hid (∀W,KI C Y w i f W->W.cell? ⟨Y.K4,i*12+11,none⟩=some (fP x.lb x.ln x.lc)):=eA λW h=>by
     have:=h.own.mem.r4 i aH 11 ao;have e:(⟨(C.X0 Y f).k4,(C.X0 Y f).o4+i*12+11,none⟩:bC)=⟨Y.K4,i*12+11,none⟩:=by show(⟨Y.K4,0+i*12+11,none⟩:bC)=_;rw[cl]
     rw[e]at this;rw[this,hx];rfl
    have SL:Hid (∀W,KI C Y w i f W->L1 W x.lb x.ln 1 (rowOf (abr x) x.ln)):=eA λW h=>by rw[hx];exact h.own.mem.ar8 aH
    have I:=eA hx;clear hx
    go_upto_region 5 with fail
    refine bL ?_;refine cT 10 (λW=>KI C Y w i f W/\wr.heap.size<=W.heap.size) (λW r=>bA W r) (λj=>j != 9) (λj vs W=>j=9->Clo wr W 3 1 x.ln (rowOf (abr x) x.ln) x.lb (vs 9)) rfl ae ae (λ_ _ _ _ D h e=>(h e).on D) (λj _ _ vs eX W he _ h e=>by subst e;rw[<-he];exact h rfl) ?_ ?_
    .exact⟨g.out.on (eu _ _).drew,ch _⟩
    simp only[hG,hH]
    iterate 10 (
     first
     |(apply aY
       case hE=>rfl
       case h=>
        rintro vs W⟨b,Cu⟩hd;obtain⟨s,t,u,y,f4,z⟩:=bf (H.out W b);have fl:=FL.out W b;go_simp
        first
        |exact⟨rfl,b,eu _ _⟩
        |exact⟨rfl,eu _ _⟩
        |exact rfl
       case hb=>exact H9)
     |(apply eH
       case hE=>rfl
       case h=>
        rintro vs W⟨b,Cu⟩hd;have hS:=SL.out W b;go_simp
        (go_at_call 53;refine(agy _ _ _ _ _ hS).mono ?_;rintro e r⟨v,rfl,q,d⟩;exact⟨_,rfl,⟨b.on d,ct Cu d.size⟩,d,q.low Cu⟩)
       case hb=>exact H9))
    refine cP λvs W b hd=>?_;obtain⟨b,Cu⟩:=b;have h9:=hd 9 ab rfl rfl;have K4':=eA b;obtain⟨s,t,u,y,f4,z⟩:=bf (H.out W b);have fl:=FL.out W b;have fz:∀o,W.frozen? ⟨Y.K4,o,none⟩=false:=b.own.t4.2.2.elim λ_ k=>tO k.1;obtain⟨B,c,K,e9,h0,_,hq⟩:=h9.pick (eD b.box);rw[e9];have HQ:=eA (And.intro h0 hq);clear h9 hd b e9 h0 hq;simp only[hM,hT]
    go_upto_region 6 with fail
    refine NoPanic.normal ?_;have KN:=eA (K4'.out.lane (B:=B) (c:=c) (K:=K) aH (by rw[<-I.out];exact HQ.out.1) (by rw[<-I.out];exact HQ.out.2));rw[<-I.out]at KN;clear s t u y f4 z fl fz;go_wp2;exact⟨⟨i+1,_,aH,by go_num,KN.out⟩,by simp only[intOf];omega⟩
   .obtain rfl:i=C.n4:=ab;obtain⟨s,t,u,y,f4,z⟩:=bf (H.out _ g.out);have J:=g.out.res;obtain⟨y0,y1,y2,y3,y4,y5⟩:=bf J;have fz:=tO J;have hzr:=eD J;clear J;go_wp2;have J:=g.out.res;have hWF:=nC (u0:=fB ip C.l) (u1:=fB ip C.p) (u2:=fP Y.B2 C.n2 Y.p2) (u3:=fP Y.B3 C.n3 Y.p3) (u4:=fP (some ⟨Y.K4,0,none⟩) C.n4 Y.p4) (u5:=fP Y.B5 C.n5 Y.p5) J;refine ai (v:=f6 (C.X0 Y f).val) ?_ rfl ⟨Y,f,rfl,⟨g.out.X0,g.out.zero⟩,g.out.own.adn ⟨_,J⟩ (df _) _ _ _ _ _ _,eF g.out.low ab _ _ _ _ _ _⟩;obtain⟨a0,a1,a2,a3,a4,a5⟩:=bf hWF;simp[aI,Tryz.results79,go_sem,a0,a1,a2,a3,a4,a5]
abbrev CD.aaG(C:CD)(ds:List Int):CD:={ C with x5:=λi=>((C.x5 i).1,(C.x5 i).2.1,ds.getD i (C.x5 i).2.2) }
def s8.zu{n0 a:Nat}{D:CD}{W:ac}(h:s8 n0 D.n4 D W)(b:a<=n0):s8 a D.n4 D W:=
 ⟨h.mem,h.t2,h.t3,⟨ct b h.t4.1,h.t4.2⟩,λk=>⟨ct b (h.t5 k).1,(h.t5 k).2⟩,λj c hl=>⟨(h.tl j c hl).1,λhi=>ab⟩⟩
structure KJ(C:CD)(Y:ac7)(f:Nat->iJ)(w:ac)(B:Nat)(ds:List Int)(i:Nat)(W:ac):Prop where
 own:s8 w.heap.size C.n4 ((C.aaG (ds.take i)).X0 Y f) W
 box:W.heap[B]?=some (fp (C.X0 Y f).val 27)
 res:W.heap[w.heap.size+1]?=some (fp RX 27)
 low:bA w W
def ahK(C:CD)(ds:List Int){i:Nat}(hi:i<ds.length):(λj=>if j=i then(((C.aaG (ds.take i)).x5 j).1,((C.aaG (ds.take i)).x5 j).2.1,ds.getD i 0) else(C.aaG (ds.take i)).x5 j)=(C.aaG (ds.take (i+1))).x5:=by
 funext j;by_cases e:j=i
 .subst e;rw[if_pos rfl];simp[gp,g8,hi]
 .rw[if_neg e];simp only[gp,g8];by_cases h:j<i
  .rw[if_pos h,if_pos ab]
  .rw[if_neg h,if_neg ab]
def KJ.next{C:CD}{Y:ac7}{f:Nat->iJ}{w:ac}{B:Nat}{ds:List Int}{i:Nat}{W:ac}(h:KJ C Y f w B ds i W)(hi:i<ds.length)(a:i<C.n5):KJ C Y f w B ds (i+1) (W.setCell ⟨Y.K5,i*3+2,none⟩ (fB ip (ds.getD i 0))):=by
 have b:0<C.n5:=ab;obtain⟨c,_,d,hc,_⟩:=h.own.t5 b;have o:=h.own.ar9 a (ds.getD i 0);have e:=ahK C ds hi;refine⟨?_,(aZ (iu hc h.box ao)).trans h.box,(aZ (iu hc h.res ao)).trans h.res,h.low.setCell (p:=⟨Y.K5,_,none⟩) c _⟩;rw[show((C.aaG (ds.take (i+1))).X0 Y f)={ (C.aaG (ds.take i)).X0 Y f with x5:=(C.aaG (ds.take (i+1))).x5 } from rfl,<-e];exact o
def abj(C:CD)(ds:List Int)(v:ad)(w:ac)(h:C.At w)(X:0<C.n4)(hv:bB w v ds)(hd:ds.length<=C.n5):ag PL 50 #[f6 C.val,v] w λe w'=>∃Y f,e=jp (f6 (C.X0 Y f).val)/\agD C f/\s8 w.heap.size C.n4 ((C.aaG ds).X0 Y f) w'/\bA w w':=by
 obtain⟨b,c,rfl,N⟩:=hv;obtain⟨q,s,t⟩:∃q s,0<ds.length->b=some ⟨q,s,none⟩/\q<w.heap.size/\∀j,j<ds.length->w.cell? ⟨q,s+j,none⟩=some (fB ip (ds.getD j 0)):=by
  by_cases r:0<ds.length
  .obtain⟨k,o,e,Z,hc⟩:=N r;exact⟨k,o,λ_=>⟨e,Z,λj hj=>hc j ab⟩⟩
  .exact⟨0,0,λh=>absurd h r⟩
 have O:=eA t;have m5:=h.m5;have OW:Hid (∀W,bA w W->ag PL 79 #[f6 C.val] W λe w'=>∃Y f,e=jp (f6 (C.X0 Y f).val)/\agD C f/\s8 W.heap.size C.n4 (C.X0 Y f) w'/\bA W w'):=eA λW hB=>ahJ C W (h.below hB) X;have d:=eA (KO.start C.val w);obtain⟨n,r⟩:=br ds.length;rw[<-r]at O ⊢;have hd':n<=C.n5:=ab;have P:=eA r;clear h N t r hd;go_enter (fx ao Tryz.func50),Tryz.ntmps50
 go_upto_region 1 with fail
 obtain⟨f0,f1,f2,f3,f4,f5⟩:=bf d.out.box;have Q:=eD d.out.res
 go_upto_region 2 with(go_at_call 79;refine(OW.out _ d.out.low).mono ?_;rintro e w1⟨Y,f,rfl,u,R,A⟩;have HP:=eA u;have HO:=eA R;have z:=eA A;clear u R)
 have B:Hid (KJ C Y f w w1.heap.size ds 0 (w1.alloc (fp (C.X0 Y f).val 27))):=eA (by
  have E:bA w1 (w1.alloc (fp (C.X0 Y f).val 27)):=(eu _ _).alloc (ch _) _;refine⟨?_,au _ _,((z.out.trans (E.mono z.out.size)).block _ Q).trans d.out.res,d.out.low.trans ((z.out.trans (E.mono z.out.size)).mono d.out.low.size)⟩;rw[hH]
  exact s8.zu (D:=C.X0 Y f) (HO.out.on E) d.out.low.size)
 obtain⟨F,H⟩:=br (w1.alloc (fp (C.X0 Y f).val 27));have Z1:w.heap.size+1<w1.heap.size:=b9 Q A.size;rw[<-H]at B;rw[show w1.alloc (fp #[fB ip C.l,fB ip C.p,fP Y.B2 C.n2 Y.p2,fP Y.B3 C.n3 Y.p3,fP (some ⟨Y.K4,0,none⟩) C.n4 Y.p4,fP Y.B5 C.n5 Y.p5] 27)=F from H.symm];clear H f0 f1 f2 f3 f4 f5 A;have BX:Hid (∀i W,KJ C Y f w w1.heap.size ds i W->W.heap[w1.heap.size]?=some (fp #[fB ip C.l,fB ip C.p,fP Y.B2 C.n2 Y.p2,fP Y.B3 C.n3 Y.p3,fP (some ⟨Y.K4,0,none⟩) C.n4 Y.p4,fP Y.B5 C.n5 Y.p5] 27)):=eA λi W h=>h.box
 go_upto_region 3 with fail
 go_loopw [12] (λg wr=>∃i:Nat,i<=n/\g=fB ip i/\KJ C Y f w w1.heap.size ds i wr) (λg _=>n-(intOf g).toNat)
 case atStart=>exact⟨0,ce _,rfl,B.out⟩
 case round=>
  obtain⟨i,hi,rfl,S⟩:=hrel;have a:=eA S;clear S B;obtain⟨g0,g1,g2,g3,g4,g5⟩:=bf (BX.out _ _ a.out);by_cases I:i<n
  .have i1:(i:Int)<n:=ab;have i5:(i:Int)<C.n5:=ab;obtain⟨rfl,VQ,T⟩:=O.out ab;obtain⟨x,J⟩:=br (ds.getD i 0);have ed:wr.cell? ⟨q,s+i,none⟩=some (fB ip x):=by rw[J];exact(a.out.low.cell (p:=⟨q,s+i,none⟩) VQ).trans (T i I)
   have y:=eA J;have U:Y.B5=some ⟨Y.K5,0,none⟩:=a.out.own.mem.s5 (by show 0<C.n5;omega);rw[U]at g5;obtain⟨_,_,K,hc,_⟩:=a.out.own.t5 (by show 0<C.n5;omega);have hc:wr.heap[Y.K5]?=some (fp K 84):=hc;have fz:=tO hc;obtain⟨V,hdd⟩:∃V,wr.cell? ⟨Y.K5,i*3+2,none⟩=some (fB ip V):=by
    have:=a.out.own.mem.r5 i (by show i<C.n5;omega) 2 ao;have e:(⟨((C.aaG (ds.take i)).X0 Y f).k5,((C.aaG (ds.take i)).X0 Y f).o5+i*3+2,none⟩:bC)=⟨Y.K5,i*3+2,none⟩:=by show(⟨Y.K5,0+i*3+2,none⟩:bC)=_;rw[cl]
    rw[e]at this;exact⟨_,this⟩
   have KN:=eA (a.out.next (by rw[<-P.out];exact I) ab);rw[<-y.out]at KN;clear J T hc U y;go_wp2;exact⟨⟨i+1,I,by go_num,KN.out⟩,by simp only[intOf];omega⟩
  .obtain rfl:i=n:=ab;have m:=a.out.res;obtain⟨y0,y1,y2,y3,y4,y5⟩:=bf m;have fz:=tO m;have hzr:=eD m;clear m;go_wp2;have m:=a.out.res;have L:=nC (u0:=fB ip C.l) (u1:=fB ip C.p) (u2:=fP Y.B2 C.n2 Y.p2) (u3:=fP Y.B3 C.n3 Y.p3) (u4:=fP (some ⟨Y.K4,0,none⟩) C.n4 Y.p4) (u5:=fP Y.B5 C.n5 Y.p5) m;have M:=a.out.own;rw[P.out,List.take_length]at M;refine ai (v:=f6 (C.X0 Y f).val) ?_ rfl ⟨Y,f,rfl,HP.out,M.adn ⟨_,m⟩ (df _) _ _ _ _ _ _,eF a.out.low ab _ _ _ _ _ _⟩;clear M;obtain⟨a0,a1,a2,a3,a4,a5⟩:=bf L;simp[aI,Tryz.results50,go_sem,a0,a1,a2,a3,a4,a5]
def uK{n:Int}(h:bO n 0 12=true)(w:ac):ag PL 49 #[fB ip n] w λe w'=>e=jp (fY true)/\w=w':=by
 have:=o8 n w;rw[h]at this;exact this.mono λ_ _ k=>⟨k.1,k.2.symm⟩
def ac9(C:CD)(ds:List Int)(v:ad)(w:ac)(h:C.At w)(R:0<C.n4)(hc:C.cx=0)(hv:bB w v ds)(hd:ds.length=C.n5)(hb:∀i,i<ds.length->bO (ds.getD i 0) 0 12=true):ag PL 20 #[f6 C.val,v] w λe w'=>∃Y f,e=jp (f7 #[f6 (C.X0 Y f).val,fB ip 0])/\agD C f/\s8 w.heap.size C.n4 ((C.aaG ds).X0 Y f) w'/\bA w w':=by
 have t:Hid (∀W,bA w W->bB W v ds):=eA λW g=>hv.on g;obtain⟨b,c,rfl,B⟩:=hv;obtain⟨m,n,a⟩:∃m n,0<ds.length->b=some ⟨m,n,none⟩/\m<w.heap.size/\∀j,j<ds.length->w.cell? ⟨m,n+j,none⟩=some (fB ip (ds.getD j 0)):=by
  by_cases E:0<ds.length
  .obtain⟨k,o,e,S,hc⟩:=B E;exact⟨k,o,λ_=>⟨e,S,λj hj=>hc j ab⟩⟩
  .exact⟨0,0,λh=>absurd h E⟩
 rw[hd]at hb a t ⊢;have T:=eA a;have U:=eA hb;have m5:=h.m5;have V:Hid (∀W,bA w W->ag PL 48 #[f6 C.val] W (aO (fB ip 0) W)):=eA λW g=>sY hc (h.below g);have X:Hid (∀W,bA w W->ag PL 50 #[f6 C.val,fP b C.n5 c] W λe w'=>∃Y f,e=jp (f6 (C.X0 Y f).val)/\agD C f/\s8 W.heap.size C.n4 ((C.aaG ds).X0 Y f) w'/\bA W w'):=eA λW g=>abj C ds _ W (h.below g) R (t.out W g) (Nat.le_of_eq hd);have u:=eA (KO.start C.val w);clear h hc B a hb hd t;go_enter (fx ao Tryz.func20),Tryz.ntmps20
 go_upto_region 1 with fail
 obtain⟨F,H,I,J,f4,K⟩:=bf u.out.box
 go_upto_region 7 with(go_at_call 48;refine(V.out _ u.out.low).mono ?_;rintro e w1⟨rfl,L⟩;have q:=eA (u.out.on L);clear L F H I J f4 K;obtain⟨F,H,I,J,f4,K⟩:=bf q.out.box)
 go_loop [24] (λd=>∃i:Nat,i<=C.n5/\d=fB ip i) (λd=>C.n5-(intOf d).toNat)
 case atStart=>exact⟨0,ce _,rfl⟩
 case round=>
  obtain⟨i,hi,rfl⟩:=hrel;by_cases y:i<C.n5
  .have Z:(i:Int)<C.n5:=ab;obtain⟨rfl,VQ,M⟩:=T.out ab;obtain⟨x,z⟩:=br (ds.getD i 0);have ed:w1.cell? ⟨m,n+i,none⟩=some (fB ip x):=by rw[z];exact(q.out.low.cell (p:=⟨m,n+i,none⟩) VQ).trans (M i y)
   have jM:Hid (bO x 0 12=true):=eA (by rw[z];exact U.out i y);clear z M
   go_wp2_with (go_at_call 49;refine(uK jM.out _).mono ?_;rintro e w'⟨rfl,rfl⟩)
   exact⟨⟨i+1,y,by go_num⟩,by simp only[intOf];omega⟩
  .have Z:¬((i:Int)<C.n5):=ab
   go_wp2_with (go_at_call 50;refine(X.out _ q.out.low).mono ?_;rintro e w2⟨Y,f,rfl,r,N,O⟩;have HP:=eA r;have HO:=eA N;have s:=eA (q.out.on O);clear r N O;obtain⟨y0,y1,y2,y3,y4,y5⟩:=bf s.out.res;have fz:=tO s.out.res)
   have P:=s.out.res;have A:=nC (u0:=fB ip C.l) (u1:=fB ip C.p) (u2:=fP Y.B2 C.n2 Y.p2) (u3:=fP Y.B3 C.n3 Y.p3) (u4:=fP (some ⟨Y.K4,0,none⟩) C.n4 Y.p4) (u5:=fP Y.B5 C.n5 Y.p5) P;have Q:=s8.zu (D:=(C.aaG ds).X0 Y f) HO.out q.out.low.size;refine ai (v:=f7 #[f6 (C.X0 Y f).val,fB ip 0]) ?_ rfl ⟨Y,f,rfl,HP.out,Q.adn ⟨_,P⟩ (df _) _ _ _ _ _ _,eF s.out.low ab _ _ _ _ _ _⟩;clear Q;obtain⟨a0,a1,a2,a3,a4,a5⟩:=bf A;simp[aI,Tryz.results20,go_sem,a0,a1,a2,a3,a4,a5]
structure CJ(W:ac)(k2 k3 k4 k5 la ca lb cb:Nat)(d:Int):Prop where
 r2:Row W k2 vT
 r3:Row W k3 vU
 r4:Row W k4 (rO la ca lb cb)
 r5:Row W k5 (qB d)
 ra:Row W la [bh 1]
 rb:Row W lb [bh 2]
def CJ.on{W b:ac}{k2 k3 c e f ca lb g:Nat}{d:Int}(h:CJ W k2 k3 c e f ca lb g d)(a:bA W b):CJ b k2 k3 c e f ca lb g d:=
 ⟨h.r2.on a,h.r3.on a,h.r4.on a,h.r5.on a,h.ra.on a,h.rb.on a⟩
def CJ.at{W:ac}{k2 f k3 c3 a g b i c ca lb e:Nat}{d:Int}(h:CJ W k2 k3 a b c ca lb e d):(ir k2 f k3 c3 a g b i c ca lb e d).At W:=Rx h.r2 h.r3 h.r4 h.r5 h.ra h.rb
def yQ{k2 a k3 c3 b c e f g ca lb h:Nat}{d:Int}(hd:d=0\/d=1):(ir k2 a k3 c3 b c e f g ca lb h d).cx=0:=by
 rcases hd with rfl|rfl<;>kernel_rfl
def j7.row{W:ac}{k n m:Nat}{f:Nat->List ad}{l:List ad}(h:j7 W k 0 n m f)(a:∀i,(f i).length=m)(b:k<W.heap.size)(e:rowOf f n=l):Row W k l:=
 ⟨b,λj v hv=>by have:=h.get a j v (by rw[e];exact hv);rwa[cl]at this⟩
structure Made(w W:ac)(k2 k3 k4 k5 la ca lb cb:Nat)(d:Int):Prop where
 rows:CJ W k2 k3 k4 k5 la ca lb cb d
 low:bA w W
def afC{k2 e k3 c3 g i j k l ca lb o:Nat}{d y:Int}{Y:ac7}{f:Nat->iJ}{w W:ac}{n0:Nat}(hf:agD (ir k2 e k3 c3 g i j k l ca lb o d) f)(h:s8 n0 3 (((ir k2 e k3 c3 g i j k l ca lb o d).aaG [0,y]).X0 Y f) W)(B:bA w W) :
 ∃p C q D r E s F t u v x,((ir k2 e k3 c3 g i j k l ca lb o d).X0 Y f).val=(ir p C q D r E s F t u v x y).val/\Made w W p q r s t u v x y:=by
 have m:=h.mem;have H:Y.B2=some ⟨Y.K2,0,none⟩:=m.s2 (ci rfl);have I:Y.B3=some ⟨Y.K3,0,none⟩:=m.s3 (ci rfl);have J:Y.B5=some ⟨Y.K5,0,none⟩:=m.s5 (ci rfl);have a:=hf.1 0;have b:=hf.1 1;have c:=hf.1 2;have z:=m.l4 0 (ci rfl) (by show 0<(f 0).ln;rw[a.ln];exact ci rfl);have A:=m.l4 1 (ci rfl) (by show 0<(f 1).ln;rw[b.ln];exact ci rfl);have a0:(f 0).lb=some ⟨(f 0).lk,(f 0).lo,none⟩:=z.1;have a1:(f 1).lb=some ⟨(f 1).lk,(f 1).lo,none⟩:=A.1;have z0:=hf.2 0 (ci rfl);have z1:=hf.2 1 (ci rfl);obtain⟨K,d2⟩:=c.nil rfl rfl;have q0:j7 W (f 0).lk (f 0).lo (f 0).ln 1 (abr (f 0)):=m.rl 0 (ci rfl);have q1:j7 W (f 1).lk (f 1).lo (f 1).ln 1 (abr (f 1)):=m.rl 1 (ci rfl);rw[z0]at a0 q0;rw[z1]at a1 q1;refine⟨Y.K2,Y.p2,Y.K3,Y.p3,Y.K4,Y.p4,Y.K5,Y.p5,(f 0).lk,(f 0).lc,(f 1).lk,(f 1).lc,?_,⟨m.r2.row (λ_=>rfl) m.h2 rfl,m.r3.row (λ_=>rfl) m.h3 rfl,m.r4.row (λ_=>NR _) m.h4 ?_,m.r5.row (λ_=>rfl) m.h5 rfl,q0.row (λ_=>rfl) z.2 ?_,q1.row (λ_=>rfl) A.2 ?_⟩,B⟩
 .show #[(_:ad),_,fP Y.B2 _ _,fP Y.B3 _ _,_,fP Y.B5 _ _]=_;rw[H,I,J];rfl
 .show G0 (f 0)++(G0 (f 1)++(G0 (f 2)++[]))=_;unfold G0;rw[a.name,a.n,a.ln,a0,b.name,b.n,b.ln,a1,c.name,c.n,c.ln,K,d2];rfl
 .rw[a.ln];show[fB ip ((f 0).lane 0)]=_;rw[a.lane];rfl
 .rw[b.ln];show[fB ip ((f 1).lane 0)]=_;rw[b.lane];rfl
def yP{k2 i k3 c3 a j b k c ca lb g:Nat}{d y:Int}{v:ad}(w:ac)(h:CJ w k2 k3 a b c ca lb g d)(hv:bB w v [0,y]):ag PL 50 #[f6 (ir k2 i k3 c3 a j b k c ca lb g d).val,v] w λe w'=>∃l t m u n x o z p q r s,e=jp (f6 (ir l t m u n x o z p q r s y).val)/\Made w w' l m n o p q r s y:=
 (abj (ir k2 i k3 c3 a j b k c ca lb g d) [0,y] v w h.at (ci rfl) hv (ci rfl)).mono λe w'⟨Y,f,C,hf,A,B⟩=>by
  obtain⟨q2,D,q3,E,q4,F,q5,H,I,J,K,L,hval,M⟩:=afC hf A B;grind
def Iw{k2 g k3 c3 a j b k c ca lb d:Nat}{v:ad}(w:ac)(h:CJ w k2 k3 a b c ca lb d 0)(hv:bB w v [0,1]):ag PL 20 #[f6 (ir k2 g k3 c3 a j b k c ca lb d 0).val,v] w λe w'=>∃l u m x n y o z p q r s,e=jp (f7 #[f6 (ir l u m x n y o z p q r s 1).val,fB ip 0])/\CJ w' l m n o p q r s 1/\bA w w':=
 (ac9 (ir k2 g k3 c3 a j b k c ca lb d 0) [0,1] v w h.at (ci rfl) (yQ (js rfl)) hv rfl λi hi=>by
   match i,hi with
   |0,_=>rfl
   |1,_=>rfl).mono λe w'⟨Y,f,A,hf,B,C⟩=>by
   obtain⟨q2,D,q3,E,q4,F,q5,H,I,J,K,L,hval,t⟩:=afC hf B C;exact⟨q2,D,q3,E,q4,F,q5,H,I,J,K,L,by rw[A,hval],t.rows,t.low⟩
open Go.Shelf
attribute [local go_sem] Oper.semAt_some
structure aaR(B:Nat)(w w':ac):Prop where
 os:w'.os=w.os
 tape:w'.tape=w.tape
 output:w'.output=w.output
 size:w.heap.size<=w'.heap.size
 block:∀k,k<w.heap.size->k≠B->w'.heap[k]?=w.heap[k]?
def uL(B:Nat)(a hi x y:Int)(w:ac)(h:w.heap[B]?=some (fp #[fB ip a,fB ip hi] 39))(b : -10000<=a/\a<=10000)(c : -10000<=hi/\hi<=10000)(d:0<=x/\x<=100)(f:0<=y/\y<=100) :
 ag PL 64 #[f6 #[fB ip x,fB ip y],f8 (some ⟨B,0,none⟩)] w λe w'=>e=jp (f6 #[fB ip (a+x),fB ip (hi+y)])/\w'.heap[B]?=some (fp #[fB ip (a+x),fB ip (hi+y)] 39)/\aaR B w w':=by
 obtain⟨n,t1,u0,u1⟩:=uJ h;have o:=eD h;have H:=eA h;clear h;obtain⟨b,p⟩:=b;obtain⟨c,q⟩:=c;obtain⟨d,i⟩:=d;obtain⟨f,j⟩:=f;go_enter (fx ao Tryz.func64),Tryz.ntmps64;go_wp2;have g:=yL (u:=fB ip (a+x)) (v:=fB ip (hi+y)) H.out;refine ai (v:=f6 #[fB ip (a+x),fB ip (hi+y)]) ?_ rfl ⟨rfl,?_,rfl,rfl,rfl,by simp;omega,λk l m=>?_⟩
 .simp[aI,Tryz.results64,go_sem]
 .have hl:=eD g;exact(((eu _ _).alloc (ch _) _).alloc ar _ |>.block B hl).trans g
 .have hl:k<((w.setCell ⟨B,0,none⟩ (fB ip (a+x))).setCell ⟨B,1,none⟩ (fB ip (hi+y))).heap.size:=by simpa using l
  exact(((eu _ _).alloc (ch _) _).alloc ar _ |>.block k hl).trans (tv m)
def Ff(C:CD)(p:Nat):Nat:=if p+1=C.n4 then 0 else p+1
def nT(C:CD)(g:Nat):Nat->Nat×Int×Int
 |0=>((C.x5 g).2.1.toNat,(C.x5 g).2.2,(C.x5 g).2.2)
 |k+1=>(Ff C (nT C g k).1,(nT C g k).2.1+(C.x4 (nT C g k).1).n 7+(C.x4 (nT C g k).1).n 9,(nT C g k).2.2+(C.x4 (nT C g k).1).n 8+(C.x4 (nT C g k).1).n 10)
abbrev nR:=Nat×Int×Int×Int×Int
def Nu(C:CD)(g k:Nat):nR:=((nT C g k).1,(nT C g k).2.1,(nT C g k).2.2,(nT C g k).2.1+(C.x4 (nT C g k).1).n 7,(nT C g k).2.2+(C.x4 (nT C g k).1).n 8)
def mD(C:CD)(g n:Nat):List nR:=(gy n).map (Nu C g)
def uM(C:CD)(g n:Nat):mD C g (n+1)=mD C g n++[Nu C g n]:=by simp[mD,hk]
def R7(C:CD)(g n:Nat):(mD C g n).length=n:=by simp[mD]
def R8(C:CD)(g:Nat){k n:Nat}(h:k<n):mD C g k++[Nu C g k] <+: mD C g n:=by
 rw[<-uM];have e:gy n=gy (k+1)++(gy (n-(k+1))).map (k+1 + ·):=by
  rw[<-List.range_add];congr 1;omega
 unfold mD;rw[e,gw];exact List.prefix_append _ _
structure yR(C:CD)(g:Nat):Prop where
 g5:g<C.n5
 p4:∀k,(nT C g k).1<C.n4
 m4:C.n4<=5
 lo:∀k,k<=C.n4->0<=(nT C g k).2.1/\(nT C g k).2.1<=12+120*k
 hi:∀k,k<=C.n4->0<=(nT C g k).2.2/\(nT C g k).2.2<=12+120*k
 nn:∀i,i<C.n4->(0<=(C.x4 i).n 7/\(C.x4 i).n 7<=60)/\(0<=(C.x4 i).n 8/\(C.x4 i).n 8<=60)/\(0<=(C.x4 i).n 9/\(C.x4 i).n 9<=60)/\(0<=(C.x4 i).n 10/\(C.x4 i).n 10<=60)
 start:(C.x5 g).2.1=((C.x5 g).2.1.toNat:Int)
def Sa(C:CD)(hc:C.cx=0){g:Nat}(hg:g<C.n5):yR C g:=by
 have d:kA C.p C.n2 C.n3 C.n4 C.x4=0:=ck hc 3 ab;have e:pE C.n4 C.n5 C.x5=0:=ck hc 4 ab;unfold kA at d;split at d
 case isFalse=>cases d
 rename_i hb;simp only[bO,ix,decide_eq_true_eq]at hb;have j:∀i,i<C.n4->(0<=(C.x4 i).n 7/\(C.x4 i).n 7<=60)/\(0<=(C.x4 i).n 8/\(C.x4 i).n 8<=60)/\(0<=(C.x4 i).n 9/\(C.x4 i).n 9<=60)/\(0<=(C.x4 i).n 10/\(C.x4 i).n 10<=60):=by
  intro i hi;have a:=ck d i hi;unfold gM at a;split at a
  case isFalse h=>exact absurd a h
  split at a
  case isFalse=>cases a
  split at a
  .cases a
  split at a
  case isFalse=>cases a
  split at a
  case isFalse=>cases a
  rename_i m;simp only[eK,ix,decide_eq_true_eq]at m;omega
 obtain⟨hs,s,o⟩:(0<=(C.x5 g).2.1/\(C.x5 g).2.1<C.n4)/\0<=(C.x5 g).2.2/\(C.x5 g).2.2<=12:=by
  unfold pE at e;split at e
  .cases e
  have a:=ck e g hg;unfold iI at a;split at a
  case isFalse h=>exact absurd a h
  split at a
  case isFalse=>cases a
  rename_i q;split at a
  .cases a
  split at a
  case isFalse=>cases a
  rename_i r;simp only[bO,ix,decide_eq_true_eq]at q r;omega
 have c:∀k,(nT C g k).1<C.n4:=by
  intro k
  induction k with
  |zero=>simp only[nT];omega
  |succ k l=>
   simp only[nT,Ff];split<;>omega
 have b:∀k,k<=C.n4->(0<=(nT C g k).2.1/\(nT C g k).2.1<=12+120*k)/\(0<=(nT C g k).2.2/\(nT C g k).2.2<=12+120*k):=by
  intro k
  induction k with
  |zero=>intro _;simp only[nT];omega
  |succ k l=>
   intro f;have:=l ab;have:=j _ (c k);simp only[nT]
   push_cast
   omega
 exact⟨hg,c,ab,λk f=>(b k f).1,λk f=>(b k f).2,j,ab⟩
def Fg(n0:Nat)(W a:ac):Prop:=(∀k:Nat,k<n0->a.heap[k]?=W.heap[k]?)/\(∀(k:Nat)(c:Array ad)(t:aJ),W.heap[k]?=some (fp c t)->t≠72->t≠52->a.heap[k]?=some (fp c t))/\W.heap.size<=a.heap.size
def Li{n:Nat}{X Y Z:ac}(h:Fg n X Y)(k:Fg n Y Z):Fg n X Z:=
 ⟨λb hb=>(k.1 b hb).trans (h.1 b hb),λb c t e a d=>k.2.1 b c t (h.2.1 b c t e a d) a d,ct h.2.2 k.2.2⟩
def Lj{n s:Nat}(d:n<=s)(W:ac)(l:Nat)(o o':Obj)(hl:s<=l)(b:W.heap[l]?=some o)(hc:o.isCells=false)(_:o.isWalk=false):Fg n W (W.putObj l o'):=by
 have a:∀k,l≠k->(W.putObj l o').heap[k]?=W.heap[k]?:=λk h=>by
  simp only[eT];exact Array.getElem?_setIfInBounds_ne h
 refine⟨λk f=>a k ab,λk c t e _ _=>(a k λh=>?_).trans e,by simp[eT]⟩;rw[<-h,b]at e;cases e;cases hc
def CD.At.keep{C:CD}{w w':ac}(h:C.At w)(f:∀k,k<w.heap.size->w'.heap[k]?=w.heap[k]?)(s:w.heap.size<=w'.heap.size):C.At w':=by
 have cell:∀b o,b<w.heap.size->w'.cell? ⟨b,o,none⟩=w.cell? ⟨b,o,none⟩:=λb o hb=>by simp[eM,f b hb]
 have e:∀o,w'.cell? ⟨C.k2,o,none⟩=w.cell? ⟨C.k2,o,none⟩:=λo=>cell _ _ h.h2;have a:∀o,w'.cell? ⟨C.k3,o,none⟩=w.cell? ⟨C.k3,o,none⟩:=λo=>cell _ _ h.h3;have c:∀o,w'.cell? ⟨C.k4,o,none⟩=w.cell? ⟨C.k4,o,none⟩:=λo=>cell _ _ h.h4;have d:∀o,w'.cell? ⟨C.k5,o,none⟩=w.cell? ⟨C.k5,o,none⟩:=λo=>cell _ _ h.h5;obtain⟨m2,m3,m4,m5,h2,h3,h4,h5,s2,s3,s4,s5,Ep,Er,Es,Et,Eu,cu,AD,dB,nj,l4,J5,nm5,FI,HU,J6⟩:=h
 exact⟨m2,m3,m4,m5,ab,ab,ab,ab,s2,s3,s4,s5,λi hi=>(e _).trans (Ep i hi),λi hi=>(e _).trans (Er i hi),λi hi=>(a _).trans (Es i hi),λi hi=>(a _).trans (Et i hi),λi hi=>(a _).trans (Eu i hi),cu,
  λi hi=>(c _).trans (AD i hi),λi hi j g h2=>(c _).trans (dB i hi j g h2),λi hi=>(c _).trans (nj i hi),λi hi hl=>⟨(l4 i hi hl).1,b9 (l4 i hi hl).2 s⟩,
  λi hi j l=>(cell _ _ (l4 i hi ab).2).trans (J5 i hi j l),nm5,λi hi=>(d _).trans (FI i hi),λi hi=>(d _).trans (HU i hi),λi hi=>(d _).trans (J6 i hi)⟩
def VS(x:nR):Array ad:=#[f6 #[fB ip x.1,fB ip x.2.1,fB ip x.2.2.1,fB ip x.2.2.2.1,fB ip x.2.2.2.2]]
end Go.Proofs
namespace Go.Proofs
open Go.RowKit
def zW(b:Option bC)(m c n:Nat)(f:ad)(w:ac)(a:n<=1):ag PL 130 #[fP b m c,fB ip 0,fB ip n,f] w λe w'=>(∃v,e=jp v)/\w=w':=by
 have d:(n:Int)<=1:=ab;go_enter (fx ao ep),Tryz.ntmps130;go_wp2
 go_loop [8] (λv=>v=fB ip 1) (λ_=>0)
 case atStart=>rfl
 case round=>
  subst hrel;go_wp2
  go_end0
  exact⟨⟨_,rfl⟩,rfl⟩
open Go.Shelf
def AbT{b:Type}(B:Nat)(J:b->ac->Prop):Prop:=
 ∀s W a row,J s W->W.grownBy a row->(∀r,row=some r->B<=r/\∃c t,W.heap[r]?=some (fp c t)/\t≠72/\t≠52)->J s a
def afQ{c:Type}(n:Nat)(gf:Nat)(lb:Array ad)(f:c->Array ad)(g:ac->ac->Prop)(xs:List c)(St:ac->Prop):Prop:=
 ∀(l:Nat)(J:List c->ac->Prop)(W:ac),St W->AbT W.heap.size J->
  (∀a x d,J a d->a++[x] <+: xs->YieldAt Fence.wide (n-1) PL l (f x) d λe b=>e=jp (fY true)/\J (a++[x]) b/\g d b)->
  J [] W->CallsIn Fence.wide n PL gf (#[f9 (jz l) #[] #[]]++lb) W λe b=>(∃v,e=jp v)/\J xs b
attribute [local go_sem] Oper.semAt_some
def aaR.grown{B:Nat}{w w':ac}(h:aaR B w w'):w.grownBy w' (some B):=
 ⟨h.os,h.tape,h.output,h.size,λk a b=>h.block k a (λe=>b (by rw[e]))⟩
structure StV(C:CD)(g n0 Bc Bg:Nat)(wb W:ac):Prop where
 low:∀k,k<n0->W.heap[k]?=wb.heap[k]?
 size:n0<=W.heap.size
 box:W.heap[Bc]?=some (fp C.val 91)
 PM:W.heap[Bg]?=some (fp #[fB ip g] 3)
def yT(n:Nat)(hn:2<=n)(v w n0 g:Nat)(C:CD)(s:yR C g)(P:ac)(j:P.heap.size=n0)(hA:C.At P):afQ n 63 #[f8 (some ⟨v,0,none⟩),f8 (some ⟨w,0,none⟩)] VS (Fg n0) (mD C g C.n4) (StV C g n0 v w P):=by
 intro l J W L hJ hY h0;have HA:=eA hA;have Q:=eA s;have M:=eA L;have HJ:=eA hJ;have HY:=eA hY;have hA0:=eA (hA.keep (by rw[j];exact L.low) (by rw[j];exact L.size));have c1:=L.box;have c2:=L.PM;clear hA L hJ hY;refine callsIn_of_wp (fx ao eq) rfl trivial ?_ rfl;simp only[Tryz.ntmps63,hV,hZ,h6,dk,dp,fm,fo,h7,h8,ib,hu];obtain⟨R,S,T,U,f4,N⟩:=bf c1;obtain⟨g0,g1⟩:=aaA c2;have x5:=hA0.out.s5 (by have:=s.g5;omega);have x50:=hA0.out.FI g s.g5;have x51:=hA0.out.HU g s.g5;have x52:=hA0.out.J6 g s.g5;have hg5:=s.g5;rw[x5]at N;have Ts:=eD c1;have hBg:=eD c2;have hh5:=hA0.out.h5;have y:=s.start;have HST:=eA y;clear c1 c2 s y
 gi_wp2
 obtain⟨O,kS⟩:=br ((W.alloc (fp #[fJ (C.x5 g).1,fB ip (C.x5 g).2.1,fB ip (C.x5 g).2.2] 84)).alloc (fp #[fB ip (C.x5 g).2.2,fB ip (C.x5 g).2.2] 39));have b:bA W O:=by rw[kS];exact((eu _ _).alloc (ch _) _).alloc ar _
 have V:O.heap[W.heap.size+1]?=some (fp #[fB ip (C.x5 g).2.2,fB ip (C.x5 g).2.2] 39):=by
  grind[au,eQ]
 have X:J [] O:=HJ.out [] W O none h0 (by rw[kS];exact(eV W _ none).trans (eV _ _ none)) (λr e=>by cases e);have HN:=eA V;have HJ0:=eA X;have HBW:=eA b;rw[<-kS];clear kS V X h0
 gi_loopw [7,28] (λv7 z wr=>∃k:Nat,k<=C.n4/\z=fB ip k/\v7=fB ip (nT C g k).1/\J (mD C g k) wr/\StV C g n0 v w P wr/\wr.heap[W.heap.size+1]?=some (fp #[fB ip (nT C g k).2.1,fB ip (nT C g k).2.2] 39)) (λ_ z _=>C.n4-(intOf z).toNat)
 case atStart=>
  refine⟨0,ce _,rfl,by rw[nT,<-HST.out],HJ0.out,⟨λk f=>(b.block k (b9 f M.out.size)).trans (M.out.low k f),ct M.out.size b.size,(b.block _ Ts).trans M.out.box,(b.block _ hBg).trans M.out.PM⟩,HN.out⟩
 case round=>
  obtain⟨k,f,rfl,rfl,Y,hS,hN⟩:=hrel;have Z:=eA Y;have t:=eA hS;have c:=eA hN;clear Y hS hN R S T U f4 N g0 g1 x5 x50 x51 x52 b;by_cases aH:k<C.n4
  .have i2:(k:Int)<C.n4:=ab;have Xi:=Q.out.p4 k;have Cu:=Q.out.lo k ab;have hhi:=Q.out.hi k ab;have hm4:=Q.out.m4;obtain⟨p,hp⟩:=br ((nT C g k).1);obtain⟨a,Sc⟩:=br ((nT C g k).2.1);obtain⟨hi,Se⟩:=br ((nT C g k).2.2);have alK:Hid (Nu C g k=(p,a,hi,a+(C.x4 p).n 7,hi+(C.x4 p).n 8)):=eA (by rw[Nu,<-hp,<-Sc,<-Se]);have y:Hid (nT C g (k+1)=(Ff C p,a+(C.x4 p).n 7+(C.x4 p).n 9,hi+(C.x4 p).n 8+(C.x4 p).n 10)):=eA (by rw[nT,<-hp,<-Sc,<-Se]);rw[<-hp]at Xi ⊢;rw[<-Sc]at Cu;rw[<-Se]at hhi;rw[<-Sc,<-Se]at c;clear hp Sc Se;obtain⟨⟨n7,n7'⟩,⟨n8,n8'⟩,⟨n9,n9'⟩,⟨n10,atn⟩⟩:=Q.out.nn p Xi;have hAk:=eA (HA.out.keep (by rw[j];exact t.out.low) (by rw[j];exact t.out.size));obtain⟨s4,y0,y1,y2,y3,y4,y5,y6,y7,y8,y9,y10,y11,ER⟩:=yK hAk.out Xi;obtain⟨R,S,T,U,f4,N⟩:=bf t.out.box;rw[s4]at f4;obtain⟨t0,t1,u0,u1⟩:=uJ c.out;have alL:=eD t.out.box;have hNl:=eD c.out;have att:(p:Int)<C.n4:=ab;have sv:Hid (((wr.alloc (fp (C.x4 p).val 82)).alloc (fp #[fB ip p,fB ip a,fB ip hi,fB ip 0,fB ip 0] 72)).heap[W.heap.size+1]?=some (fp #[fB ip a,fB ip hi] 39)):=eA ((((eu wr.heap.size wr).alloc (ch _) _).alloc ar _ |>.block _ hNl).trans c.out)
   have sv2:Hid (((wr.alloc (fp (C.x4 p).val 82)).alloc (fp #[fB ip p,fB ip a,fB ip hi,fB ip 0,fB ip 0] 72)).heap[wr.heap.size+1]?=some (fp #[fB ip p,fB ip a,fB ip hi,fB ip 0,fB ip 0] 72)):=eA (by
    have h1:=au (wr.alloc (fp (C.x4 p).val 82)) (fp #[fB ip p,fB ip a,fB ip hi,fB ip 0,fB ip 0] 72)
    simp_all)
   have sp:Hid (((wr.alloc (fp (C.x4 p).val 82)).alloc (fp #[fB ip p,fB ip a,fB ip hi,fB ip 0,fB ip 0] 72)).heap[wr.heap.size]?=some (fp (C.x4 p).val 82)):=eA ((((eu (wr.alloc (fp (C.x4 p).val 82)).heap.size _).alloc (ch _) _).block _ ar).trans (au wr _));have so:Hid (∀k,k<wr.heap.size->((wr.alloc (fp (C.x4 p).val 82)).alloc (fp #[fB ip p,fB ip a,fB ip hi,fB ip 0,fB ip 0] 72)).heap[k]?=wr.heap[k]?):=eA λk f=>(((eu wr.heap.size wr).alloc (ch _) _).alloc ar _).block k f;clear s4
   gi_wp2_with (refine⟨trivial,λ_=>ab,?_⟩;refine(callsIn_wide.2 (uL (W.heap.size+1) a hi _ _ _ sv.out ab ab ab ab)).mono ?_;rintro e w2⟨rfl,Vb,iC⟩;have yp:wr.heap.size+2<=w2.heap.size:=(by have:=iC.size;simp at this;omega);have u:=(iC.block (wr.heap.size+1) ar ab).trans sv2.out;have tL:=(iC.block wr.heap.size (by simp;omega) ab).trans sp.out;have fz:=tO u;have v0:w2.cell? ⟨wr.heap.size+1,0,none⟩=some (fB ip p):=(by simp[eM,u]);have v1:w2.cell? ⟨wr.heap.size+1,1,none⟩=some (fB ip a):=(by simp[eM,u]);have v2:w2.cell? ⟨wr.heap.size+1,2,none⟩=some (fB ip hi):=(by simp[eM,u]);have v3:w2.cell? ⟨wr.heap.size+1,3,none⟩=some (fB ip 0):=(by simp[eM,u]);have v4:w2.cell? ⟨wr.heap.size+1,4,none⟩=some (fB ip 0):=(by simp[eM,u]);have HN2:=eA Vb;have Kf:=eA iC;have HV2:=eA u;have HP2:=eA tL;clear Vb iC u tL;obtain⟨Wy,m⟩:=br ((w2.setCell ⟨wr.heap.size+1,3,none⟩ (fB ip (a+(C.x4 p).n 7))).setCell ⟨wr.heap.size+1,4,none⟩ (fB ip (hi+(C.x4 p).n 8)));have A:wr.grownBy Wy (some (W.heap.size+1)):=(by rw[m];exact⟨Kf.out.os,Kf.out.tape,Kf.out.output,by simp only[eN];omega,λk f bu=>by rw[aZ ab,aZ ab,Kf.out.block k (by simp;omega) (λe=>bu (by rw[e]))];exact so.out k f⟩);obtain⟨fn,tmps,assign,body,hy,hR⟩:=HY.out (mD C g k) (Nu C g k) Wy (HJ.out _ wr Wy _ Z.out A (λr e=>by cases e;exact⟨ab,_,_,c.out,ao,ao⟩)) (R8 C g aH);rw[alK.out,m]at hy;dsimp only[VS]at hy;have B:=eA A;have d:=eA m;clear A m)
   refine⟨λ_=>ab,?_⟩;refine RoundIn.mono (by have h:=hR;rw[d.out]at h;exact h) ?_;rintro e i⟨rfl,hJ',D⟩;rw[<-d.out]at D;have hWs:=M.out.size;have E:i.heap[W.heap.size+1]?=some (fp #[fB ip (a+(C.x4 p).n 7),fB ip (hi+(C.x4 p).n 8)] 39):=D.2.1 _ _ _ (by rw[d.out,aZ ab,aZ ab];exact HN2.out) ao ao;have VT:i.heap[wr.heap.size]?=some (fp (C.x4 p).val 82):=D.2.1 _ _ _ (by rw[d.out,aZ ab,aZ ab];exact HP2.out) ao ao;have sW:i.heap[v]?=some (fp C.val 91):=D.2.1 _ _ _ ((B.out.block v alL (λe=>by injection e with e;omega)).trans t.out.box) ao ao;have afU:i.heap[w]?=some (fp #[fB ip g] 3):=D.2.1 _ _ _ ((B.out.block w (by have:=t.out.PM;exact eD this) (λe=>by injection e with e;omega)).trans t.out.PM) ao ao;have qv:Hid (∀k,k<n0->i.heap[k]?=P.heap[k]?):=eA λk f=>(D.1 k f).trans ((B.out.block k ab (λe=>by injection e with e;omega)).trans (t.out.low k f));have atv:W.heap.size+2<=i.heap.size:=by have:=eD E;omega
   have z9:i.cell? ⟨wr.heap.size,9,none⟩=some (fB ip ((C.x4 p).n 9)):=by simp[eM,VT]
   have UZ:i.cell? ⟨wr.heap.size,10,none⟩=some (fB ip ((C.x4 p).n 10)):=by simp[eM,VT]
   have fz9:=tO VT;have VU:=eA E;have Ce:=eA sW;have HGR:=eA afU;have HJ':=eA hJ';clear E VT sW afU hJ' D hR hy HY R S T U f4 N t0 t1 u0 u1 y0 y1 y2 y3 y4 y5 y6 y7 y8 y9 y10 y11 v0 v1 v2 v3 v4 fz sv sv2 sp so Kf HN2 HV2 HP2 d yp;by_cases hw:p+1=C.n4
   .have i5:((p:Int)+1=C.n4):=ab;have HW:=eA hw;clear hw
    gi_wp2_with (refine⟨trivial,λ_=>ab,?_⟩;refine(callsIn_wide.2 (uL (W.heap.size+1) (a+(C.x4 p).n 7) (hi+(C.x4 p).n 8) _ _ _ VU.out ab ab ab ab)).mono ?_;rintro e w3⟨rfl,Hr,F⟩;have H:=(F.block v ab ab).trans Ce.out;obtain⟨R,S,T,U,f4,N⟩:=bf H;have I:=eA H;have K:=eA Hr;have o:=eA F;clear H Hr F)
    refine⟨⟨k+1,aH,by go_num,by rw[y.out];simp only[Ff];rw[if_pos HW.out];rfl,?_,⟨λq hq=>(o.out.block q ab ab).trans (qv.out q hq),by have:=o.out.size;omega,I.out,(o.out.block w ab ab).trans HGR.out⟩,by rw[y.out];exact K.out⟩,by simp only[intOf];omega⟩;rw[uM];exact HJ.out _ i w3 _ HJ'.out o.out.grown (λr e=>by cases e;exact⟨ab,_,_,VU.out,ao,ao⟩)
   .have i5:¬((p:Int)+1=C.n4):=ab;have HW:=eA hw;clear hw
    gi_wp2_with (refine⟨trivial,λ_=>ab,?_⟩;refine(callsIn_wide.2 (uL (W.heap.size+1) (a+(C.x4 p).n 7) (hi+(C.x4 p).n 8) _ _ _ VU.out ab ab ab ab)).mono ?_;rintro e w3⟨rfl,Hr,F⟩;have H:=(F.block v ab ab).trans Ce.out;obtain⟨R,S,T,U,f4,N⟩:=bf H;have I:=eA H;have K:=eA Hr;have o:=eA F;clear H Hr F)
    refine⟨⟨k+1,aH,by go_num,by rw[y.out];simp only[Ff];rw[if_neg HW.out];go_num,?_,⟨λq hq=>(o.out.block q ab ab).trans (qv.out q hq),by have:=o.out.size;omega,I.out,(o.out.block w ab ab).trans HGR.out⟩,by rw[y.out];exact K.out⟩,by simp only[intOf];omega⟩;rw[uM];exact HJ.out _ i w3 _ HJ'.out o.out.grown (λr e=>by cases e;exact⟨ab,_,_,VU.out,ao,ao⟩)
  .have By:k=C.n4:=ab;have i2:¬((k:Int)<C.n4):=ab;clear aH
   gi_wp2
   go_end0
   exact⟨⟨_,rfl⟩,by have h:=Z.out;first|(rw[By]at h;exact h)|exact h⟩
def yU{m:Type}{g:bd}{ps:Array Tmp}{assign body:Code}{Q:aT->Act->ac->Prop}{a:Act}{w:ac}{n:Nat}(h1:1<=n){gf:Nat}{lb:Array ad}(hg:a.eval g=f9 (jD gf) #[] lb)(eg:∀args w,(callFunc gf args).run PL w=jx (.enter gf args) w)
 {M:m->Array ad} {q:ac->ac->Prop} {xs:List m} {St:ac->Prop} (R:afQ (n-1) gf lb M q xs St) (XJ:∀W,bA w W->St W)
 (u:∀{A B C:ac},q A B->q B C->q A C) (F:∀(W:ac)(l:Nat)(o o':Obj),w.heap.size<=l->W.heap[l]?=some o->o.isCells=false->o.isWalk=false->q W (W.putObj l o')) (S:∀x,(M x).size=ps.size)
 (I:List m->ac->Prop) (H:OwnFrom w.heap.size I) (T:AbT w.heap.size I) (h0:I [] w) (A:m->Act->ac->Prop) (hA:∀x a W l o o',W.heap[l]?=some o->o.isCells=false->A x a W->A x a (W.putObj l o'))
 (U:∀{A B:ac},w.heap.size<=A.heap.size->A.grownBy B none->q A B)
 (VV:∀(l:Nat)(x:m)(W:ac)(K:Act->ac->Prop),(∀a' y,W.grownBy y none->A x a' y->K a' y)->
   assign.wpIn (Fence.wide.inRound l) (n-1-1) PL (Exit.then K (λ_ _ _=>False)) { tmps:=(ps.zip (M x)).foldl (λt(p,v)=>t.setIfInBounds p v) a.tmps,defers:=[] } W)
 (V:∀(l:Nat)(b:List m)(x:m)(a':Act)(W:ac),I b W->A x a' W->b++[x] <+: xs->body.wpIn (Fence.wide.inRound l) (n-1-1) PL (λe _ y=>match e with | .normal=>KeepsOthers W y/\q W y/\I (b++[x]) y|_=>False) a' W)
 (X:∀(D:Nat)(W:ac),w.heap.size<=D->I xs W->W.heap[D]?=some (ft (some []))->Q .normal { a with defers:={ target:=.collected D,args:=#[] }::a.defers } W) :
 (Code.rangeFunc g ps assign body).wpIn Fence.wide n PL Q a w:=by
 refine wpIn_rangeFunc λfn tK=>?_;have LJ:Fence.wide.round=none:=rfl;rw[LJ];let z:LoopState->Loop:=λst=>{ state:=st,pending:=none,fn,tmps:=a.tmps,params:=ps,assign,body,defers:=w.heap.size }
 obtain⟨d,N⟩:=br ((w.alloc (ft (some []))).alloc (fA (z .ready)));have Y:d.heap[w.heap.size+1]?=some (fA (z .ready)):=by
  grind[au,eQ]
 have hb:bA w d:=by rw[N];exact((eu _ _).alloc (ch _) _).alloc ar _
 have Z:d.heap[w.heap.size]?=some (ft (some [])):=by
  rw[N];exact(((eu (w.alloc (ft (some []))).heap.size _).alloc (ch _) _).block _ ar).trans (au w _)
 refine⟨w.heap.size+1,[{ target:=.collected w.heap.size,args:=#[] }],d,{ target:=.fn (jD gf) lb,args:=#[f9 (jz (w.heap.size+1)) #[] #[]] },d,gf,#[f9 (jz (w.heap.size+1)) #[] #[]]++lb,d,?_,?_,λf' hf'=>trivial,by simp[invoke,go_sem,eg],λ_=>h1,?_⟩
 .rw[N];exact run_enterLoop_outer _ _ _ _ _
 .simp only[resolve,hg];simp[go_sem]
 .have book:∀{A B:ac}{row:Option Nat}{k:Nat}{o:Obj},A.grownBy B row->(∀r,row=some r->d.heap.size<=r/\∃c t,A.heap[r]?=some (fp c t)/\t≠72/\t≠52)->A.heap[k]?=some o->o.isCells=false->B.heap[k]?=some o:=λ{A B row k o}J E f hc=>by
   refine(J.block k (eD f) λe=>?_).trans f;obtain⟨_,c,t,h,_⟩:=E k e.symm;rw[f]at h;cases h;cases hc
  refine(R (w.heap.size+1) (λb W=>I b W/\W.heap[w.heap.size+1]?=some (fA (z .ready))/\W.heap[w.heap.size]?=some (ft (some []))) d (XJ _ hb) ?_ ?_ ⟨?_,Y,Z⟩).mono ?_
  .rintro s A B row⟨hi,hl,f⟩J E;exact⟨T s A B row hi J λr e=>⟨ct hb.size (E r e).1,(E r e).2⟩,book J E hl rfl,book J E f rfl⟩
  .rintro b x W⟨hi,hl,f⟩Nw;refine⟨fn,_,assign,body,run_yield (P:=PL) (args:=M x) hl (S x),roundIn_of_wpIn tK (VV _ x W _ λaa O i hA1=>?_)⟩;have acY:=eD hl;replace hl:=book i (λr e=>by cases e) hl rfl;replace f:=book i (λr e=>by cases e) f rfl;replace hi:=H b W O none hi i (λr e=>by cases e);have aH:=eD hl;refine⟨_,run_beginRound hl rfl,?_⟩;have hl2:(O.putObj (w.heap.size+1) (fA (z .busy))).heap[w.heap.size+1]?=some (fA (z .busy)):=eW aH;have ND:(O.putObj (w.heap.size+1) (fA (z .busy))).heap[w.heap.size]?=some (ft (some [])):=(e6 ab).trans f;refine wpIn_mono (V _ b x aa _ (H.putObj _ hi ab hl rfl) (hA _ _ _ _ _ _ hl rfl hA1) Nw) ?_;rintro e a3 W3 hp
   cases e with
   |normal=>
    obtain⟨L,alT,hi3⟩:=hp;have j:=L.same _ _ hl2 rfl;refine⟨_,_,run_endRound (P:=PL) none j,rfl,⟨H.putObj _ hi3 ab j rfl,eW (eD j),(e6 ab).trans (L.same _ _ ND rfl)⟩,?_⟩;exact u (u (u (U ab i) (F O (w.heap.size+1) _ _ ab hl rfl rfl)) alT) (F _ _ _ _ ab j rfl rfl)
   |_=>exact hp.elim
  .exact H [] w d none h0 (by rw[N];exact(eV w _ none).trans (eV _ _ none)) (λr e=>by cases e)
  .rintro e W2⟨⟨v,rfl⟩,hi,hl,f⟩;exact⟨none,_,run_endLoop (P:=PL) hl (by simp[z]),X _ _ (ch _) (H.putObj _ hi ab hl rfl) ((e6 ab).trans f)⟩
def Fi(C:CD)(g:Int)(m5:C.n5<=3)(w:ac):ag PL 40 #[f6 C.val,fB ip g] w λe w'=>e=jp (fY (bO g 0 (C.n5-1)))/\bA w w':=by
 obtain⟨b,c,d,f,f4,h⟩:=bf (au w (fp C.val 27));have a:=eA (((eu w.heap.size w).alloc (ch _) (fp C.val 27)));go_enter (fx ao Tryz.func40),Tryz.ntmps40
 go_wp2_with (go_at_call 34;refine(ij _ _ _ _).mono ?_;rintro e w'⟨rfl,rfl⟩)
 go_ret;exact⟨rfl,a.out⟩
def AX(C:CD)(g:Nat)(w:ac):ag PL 42 #[f6 C.val,fB ip g] w λe w'=>e=jp (f9 (jD 63) #[] #[f8 (some ⟨w.heap.size,0,none⟩),f8 (some ⟨w.heap.size+1,0,none⟩)])/\w'=(w.alloc (fp C.val 91)).alloc (fp #[fB ip g] 3):=by
 go_enter (fx ao Tryz.func42),Tryz.ntmps42;go_wp2;go_ret;exact⟨rfl,rfl⟩
def vV(x:nR):List ad:=[fB ip x.1,fB ip x.2.1,fB ip x.2.2.1,fB ip x.2.2.2.1,fB ip x.2.2.2.2]
def AY(W:ac)(base:Nat)(v:ad)(l:List nR):Prop:=W.ownsRow base 72 5 v l.length (l.flatMap vV)
def Sf(w:ac)(a:List nR)(W:ac):Prop:=∃v,W.heap[w.heap.size]?=some (fp #[v] 52)/\AY W (w.heap.size+1) v a/\bA w W
def Fj{w W j:ac}{row:Option Nat}{a:List nR}(h:Sf w a W)(hg:W.grownBy j row)(b:∀r,row=some r->w.heap.size+1<=r/\∀c,W.heap[r]?≠some (fp c 72)):Sf w a j:=by
 obtain⟨v,hb,⟨hl,d⟩,l⟩:=h;refine⟨v,(hg.block _ (eD hb) λe=>by have:=(b _ e.symm).1;omega).trans hb,⟨hl,?_⟩,l.grown hg l.size λk e=>by have:=(b _ e).1;omega⟩
 rcases d with d|⟨g,cap,f,e1,m,i,n⟩
 .exact js d
 .exact jt ⟨g,cap,f,e1,m,(hg.block _ (eD i) λe=>(b _ e.symm).2 _ i).trans i,n⟩
def Fl(w:ac):OwnFrom (w.heap.size+1) (Sf w):=λs W d row hs hg a=>Fj hs hg λr e=>⟨(a r e).1,λc h=>by
 obtain⟨_,o,b,hc⟩:=a r e
 rw[b]at h;cases h;cases hc⟩
def Sg(w:ac):AbT (w.heap.size+1) (Sf w):=λs W d row hs hg a=>Fj hs hg λr e=>⟨(a r e).1,λc h=>by
 obtain⟨_,f,t,b,hc,_⟩:=a r e
 rw[b]at h;cases h;exact hc rfl⟩
def qO{w:ac}{k:Nat}{x0 x1 x2 x3 x4:ad}{t:aJ}(h:w.heap[k]?=some (fp #[x0,x1,x2,x3,x4] t)) :
 w.cell? ⟨k,0,none⟩=some x0/\w.cell? ⟨k,1,none⟩=some x1/\w.cell? ⟨k,2,none⟩=some x2/\w.cell? ⟨k,3,none⟩=some x3/\w.cell? ⟨k,4,none⟩=some x4:=by
 simp[eM,h]
def afX:PL.underlying 52=some (jr 72):=ae
def aaV:(PL.info? 72).map (λi=>(i.zero,i.size,i.bytes))=some (some (f6 #[fB ip 0,fB ip 0,fB ip 0,fB ip 0,fB ip 0]),5,40):=ae
def Ny{W:ac}{base e size n:Nat}{v:ad}{xs:List ad}(h:W.ownsRow base e size v n xs):∃b m c,v=fP b m c:=by
 rcases h.2 with⟨rfl,_⟩|⟨g,cap,a,rfl,_⟩<;>exact⟨_,_,_,rfl⟩
def qm{W:ac}{base e size n:Nat}{v:ad}{xs:List ad}(h:W.ownsRow base e size v n xs):∀j,v.ownBlock=some j->∃cur,W.heap[j]?=some (fp cur e):=by
 rcases h.2 with⟨rfl,_⟩|⟨g,cap,cur,rfl,_,hg,_⟩
 .intro j e;cases e
 .intro j e;cases e;exact⟨_,hg⟩
def yV{w:ac}{B:Nat}{x u:ad}{t:aJ}(h:w.heap[B]?=some (fp #[x] t)):(w.setCell ⟨B,0,none⟩ u).heap[B]?=some (fp #[u] t):=by
 simp only[eI,e7,if_pos,h,iY];rfl
def VW{W:ac}{b:Nat}{x:nR}(h:W.heap[b]?=some (fp #[fB ip x.1,fB ip x.2.1,fB ip x.2.2.1,fB ip x.2.2.2.1,fB ip x.2.2.2.2] 72)):∀(j:Nat)(u:ad),(vV x)[j]?=some u->W.cell? ((⟨b,0,none⟩:bC).add j)=some u:=by
 intro j u e
 match j,e with
 |0,e=>cases e;simp[eM,i9,h]
 |1,e=>cases e;simp[eM,i9,h]
 |2,e=>cases e;simp[eM,i9,h]
 |3,e=>cases e;simp[eM,i9,h]
 |4,e=>cases e;simp[eM,i9,h]
 |j+5,e=>simp[vV]at e
def Nz{r u:Nat}(C:CD)(g:Nat)(O:yR C g)(w:ac)(hA:C.At w)(c1:w.heap[r]?=some (fp C.val 91))(P:w.heap[u]?=some (fp #[fB ip g] 3)) :
 ag PL 62 #[fP none 0 0,f9 (jD 63) #[] #[f8 (some ⟨r,0,none⟩),f8 (some ⟨u,0,none⟩)]] w λe w'=>∃v,e=jp v/\AY w' (w.heap.size+1) v (mD C g C.n4)/\bA w w':=by
 have HA:=eA hA;have Q:=eA O;have R:=eA c1;have S:=eA P;clear hA O c1 P;refine(bM (n:=9)).1 (bR (fx ao Tryz.func62) rfl trivial ?_ rfl);simp only[Tryz.ntmps62,hV,hZ,h6,dk,dp,fm,fo,h7,h8,ib,hu];refine wpIn_wide.2 ?_;go_wp2;obtain⟨i0,hi,mF,dx,wD⟩:=bj aaV;refine(wpIn_wide (n:=9)).1 ?_;refine yU ab (gf:=63) (lb:=#[f8 (some ⟨r,0,none⟩),f8 (some ⟨u,0,none⟩)]) rfl (enters_of (fx ao eq) ae rfl)
  (yT 8 ab r u w.heap.size g C Q.out w rfl HA.out)
  (λW T=>?_) Li (λW l o U hl ho hc hw=>Lj (n:=w.heap.size) (s:=w.heap.size+1) ab W l o U (by simpa using hl) ho hc hw) (λ_=>rfl)
  (Sf w) (by rw[eQ];exact Fl w) (by rw[eQ];exact Sg w) ⟨_,au _ _,⟨rfl,js ⟨rfl,rfl⟩⟩,(eu _ _).alloc (ch _) _⟩
  (λx a W=>∃k,W.heap[k]?=some (fp #[fB ip x.1,fB ip x.2.1,fB ip x.2.2.1,fB ip x.2.2.2.1,fB ip x.2.2.2.2] 72)/\a={ tmps:=#[fP none 0 0,f9 (jD 63) #[] #[f8 (some ⟨r,0,none⟩),f8 (some ⟨u,0,none⟩)],f8 (some ⟨w.heap.size,0,none⟩),undef,fP none 0 0,f8 (some ⟨k,0,none⟩),f9 (jD 63) #[] #[f8 (some ⟨r,0,none⟩),f8 (some ⟨u,0,none⟩)],f6 #[fB ip x.1,fB ip x.2.1,fB ip x.2.2.1,fB ip x.2.2.2.1,fB ip x.2.2.2.2],undef,undef,undef,undef,undef],defers:=[] })
  ?A ?kg ?assign ?body ?done
 .have hb:=((eu w.heap.size w).alloc (ch _) (fp #[fP none 0 0] 52))
  have e:∀k,k<w.heap.size->W.heap[k]?=w.heap[k]?:=λk d=>(T.block k (by simp;omega)).trans (hb.block k d);exact⟨e,by have:=T.size;simp at this;omega,(e _ (eD R.out)).trans R.out,(e _ (eD S.out)).trans S.out⟩
 case A=>
  rintro x a W l o U hl hc⟨k,d,ha⟩;refine⟨k,(e6 (λe=>?_)).trans d,ha⟩;subst e;rw[hl]at d;cases d;cases hc
 case kg=>
  intro A B hs hg;rw[eQ]at hs;exact⟨λk d=>hg.block k ab ar,λk c t h _ _=>(hg.block k (eD h) ar).trans h,hg.size⟩
 case assign=>
  intro l x W K F;dsimp only[VS]
  gi_wp2
  refine F _ _ (eV W _ none) ⟨W.heap.size,au _ _,rfl⟩
 case body=>
  rintro l p x a W⟨v,i,V,X⟩⟨k,d,rfl⟩Nw;have hlen:p.length<5:=by have:=Nw.length_le;have:=Q.out.m4;rw[R7]at *;simp at *;omega
  have aH:=eD i;have Ll:=eD d;have b0:W.cell? ⟨w.heap.size,0,none⟩=some v:=by simp[eM,i]
  obtain⟨k0,k1,k2,k3,k4⟩:=qO d;have fb:=tO i;have H:=eA V;have Y:=eA X;have Z:=eA i;clear i d V X
  gi_wp2_with (gi_at_builtin;refine wpListIn_append_own _ rfl _ _ _ rfl (w.heap.size+1) 72 i0 _ 5 40 afX hi mF dx wD rfl ao v p.length (p.flatMap vV) rfl (io H.out _) ⟨W.heap.size,0,none⟩ 1 1 (vV x) rfl rfl (VW (au W _)) (by simp[vV,fR]) (by simp only[bq];omega) ab (by simp;omega) ?_;intro v' w2 m f _;have I:=cZ H.out;have J:w2.heap[w.heap.size]?=some (fp #[v] 52):=(f.block _ (by simp;omega) (λe=>by have:=I _ e.symm;omega)).trans ((((eu W.heap.size W).alloc (ch _) _).block _ aH).trans Z.out);have fb2:=tO J;have b2:w2.cell? ⟨w.heap.size,0,none⟩=some v:=(by simp[eM,J]);obtain⟨bb,nn,cc,rfl⟩:=Ny m;have H1:=eA m;have L:=eA f;have M:=eA J;clear m f J)
  have y:∀j,v.ownBlock=some j->∃b,W.heap[j]?=some (fp b 72):=qm H.out;have I:=cZ H.out;have z:=(eu W.heap.size W).alloc (ch _) (fp #[fB ip x.1,fB ip x.2.1,fB ip x.2.2.1,fB ip x.2.2.2.1,fB ip x.2.2.2.2] 72);have yp:W.heap.size<=w2.heap.size:=by have:=L.out.size;simp at this;omega
  have blk:∀q,q<W.heap.size->q≠w.heap.size->some q≠v.ownBlock->(w2.setCell ⟨w.heap.size,0,none⟩ (fP bb nn cc)).heap[q]?=W.heap[q]?:=λq m f h3=>by
   rw[aZ (Ne.symm f),L.out.block q (by simp;omega) h3,z.block q m]
  refine⟨(jf W _).trans ((jk L.out λj o m f=>?_).trans (jl _ _ _)),⟨λq hq=>blk q ab ab (λe=>by have:=I _ e.symm;omega),λq c t h m f=>(blk q (eD h) (λe=>?_) (λe=>?_)).trans h,by simpa using yp⟩,?_⟩
  .obtain⟨b,hc⟩:=y _ m;rw[z.block _ (eD hc),hc]at f;cases f;rfl
  .subst e;rw[Z.out]at h;cases h;exact f rfl
  .obtain⟨b,hc⟩:=y _ e.symm;rw[hc]at h;cases h;exact m rfl
  .refine⟨_,yV M.out,?_,?_⟩
   .unfold AY;rw[gt,ih,ht,List.flatMap_nil,ii];obtain⟨e1,E⟩:=H1.out;refine⟨e1,?_⟩
    rcases E with E|⟨gg,cap,b,e2,hb,hg,E⟩
    .exact js E
    .exact jt ⟨gg,cap,b,e2,hb,(aZ ab).trans hg,E⟩
   .exact((Y.out.alloc Y.out.size _).grown L.out (by simp;omega) (λk e=>by have:=I _ e;omega)).setCell (ch _) _
 case done=>
  intro D W hD hI F;rw[eQ]at hD;have gE:=eA ((Fl w).putObj (ft none) hI ab F rfl);obtain⟨v,i,-,-⟩:=hI;have b0:W.cell? ⟨w.heap.size,0,none⟩=some v:=by simp[eM,i]
  have Ce:=eA i;clear i;go_wp2;refine⟨ar,js ⟨_,_,rfl,bT F,?_⟩⟩;obtain⟨v2,eP,N,qA⟩:=gE.out;have e:v=v2:=by
   have h:=(e6 (by omega:w.heap.size≠D)).symm.trans eP |>.symm
   rw[Ce.out]at h;cases h;rfl
  subst e;refine⟨v,?_,v,rfl,N,qA⟩;simp[aI,Tryz.results62,go_sem]
def NA{a b:Nat}(C:CD)(g:Nat)(c:yR C g)(w:ac)(hA:C.At w)(c1:w.heap[a]?=some (fp C.val 91))(d:w.heap[b]?=some (fp #[fB ip g] 3)) :
 ag PL 41 #[f9 (jD 63) #[] #[f8 (some ⟨a,0,none⟩),f8 (some ⟨b,0,none⟩)]] w λe w'=>∃v,e=jp v/\AY w' (w.heap.size+1) v (mD C g C.n4)/\bA w w':=by
 have i:=eA hA;have j:=eA c;have k:=eA c1;have l:=eA d;clear hA c c1 d;go_enter (fx ao Tryz.func41),Tryz.ntmps41
 go_wp2_with (go_at_call 62;refine(Nz C g j.out w i.out k.out l.out).mono ?_;rintro e w'⟨v,rfl,f,h⟩;have m:=eA f;have n:=eA h;clear f h)
 go_ret;exact⟨_,rfl,m.out,n.out⟩
def Six(W:ac)(k:Nat):Prop:=∃x0 x1 x2 x3 x4 a,W.heap[k]?=some (fp #[x0,x1,x2,x3,x4,a] 91)
def Fo(C:CD)(W a:ac):Prop:=∀k:Nat,(W.heap[k]?=some (fp C.val 91)->a.heap[k]?=some (fp C.val 91))/\(Six W k->Six a k)
def Fo.on{C:CD}{W a:ac}(h:bA W a):Fo C W a:=λk=>⟨λe=>(h.block _ (eD e)).trans e,fun⟨x0,x1,x2,x3,x4,b,e⟩=>⟨x0,x1,x2,x3,x4,b,(h.block _ (eD e)).trans e⟩⟩
def alU(C:CD)(w:ac)(j:Nat)(vs:Nat->ad)(W:ac):Prop:=
 (j=8->∃k,vs 8=f8 (some ⟨k,0,none⟩)/\w.heap.size<k/\Six W k)/\(j=9->∃k,vs 8=f8 (some ⟨k,0,none⟩)/\w.heap.size<k/\W.heap[k]?=some (fp C.val 91))
def AZ(C:CD)(g:Nat)(hg:g<C.n5)(m5:C.n5<=3)(w:ac):ag PL 40 #[f6 C.val,fB ip g] w λe w'=>e=jp (fY true)/\bA w w':=by
 have h:=Fi C g m5 w;have e:bO (g:Int) 0 (C.n5-1)=true:=by simp[bO];omega
 rwa[e]at h
def IC{C:CD}{b:Bool}(h:C.b6 b=0):C.cx=0:=by
 unfold CD.b6 at h;split at h
 .rename_i a;exact a
 .rename_i a;exact absurd h a
def ID(C:CD)(g:Nat)(w:ac)(h:C.At w)(hg:g<C.n5)(m5:C.n5<=3)(hf:C.b6 true=0)(n:yR C g) :
 ag PL 16 #[f6 C.val,fB ip g] w λe w'=>∃v,e=jp (f7 #[v,fB ip 0])/\AY w' w.heap.size v (mD C g C.n4)/\bA w w':=by
 have p:=eA h;have M:=eA hf;have N:=eA n;have r:Hid (KB C w (w.alloc (fp C.val 27))):=eA ⟨au _ _,(eu _ _).alloc (ch _) _⟩;clear h hf n;go_enter (fx ao Tryz.func16),Tryz.ntmps16
 go_upto_region 1 with fail
 refine cT 10 (KB C w) (Fo C) (λj=>j != 8&&j != 9) (alU C w) rfl ae ae
  (λi vs W s f h=>⟨λe=>(h.1 e).imp λk a=>⟨a.1,a.2.1,(f k).2 a.2.2⟩,λe=>(h.2 e).imp λk a=>⟨a.1,a.2.1,(f k).1 a.2.2⟩⟩) (λi o t vs O W P hd h=>⟨λe=>?_,λe=>?_⟩) ?_ ?_
 .subst e;rw[<-P];exact h.1 rfl
 .subst e;have Q:vs 8=O 8:=by
   simp only[gD,ik,il,iU]at t;subst t;exact hd ⟨8,.data⟩ (cH.2 ⟨ar,rfl⟩)
  rw[<-Q];exact h.2 rfl
 .exact⟨r.out.box,r.out.low.drew⟩
 .iterate 8 (
   apply aY
   case hE=>rfl
   case h=>
    intro vs W b hd;obtain⟨u,x,y,z,f4,A⟩:=bf b.box;go_simp
    first
    |(go_at_call 40;refine(AZ C g hg m5 _).mono ?_;rintro e s⟨rfl,d⟩;exact⟨_,rfl,rfl,b.on d,Fo.on d⟩)
    |(go_at_call 36;refine(kF M.out (p.out.below b.low)).mono ?_;rintro e s⟨rfl,d⟩;exact⟨_,rfl,rfl,b.on d,Fo.on d⟩)
    |exact⟨rfl,Fo.on (eu _ _)⟩
   case hb=>exact H9)
  apply eH
  case hE=>rfl
  case hb=>exact H9
  case h=>
   intro vs W b hd;go_simp;have d:=(eu W.heap.size W).alloc (ch _) (fp #[fB ip 0,fB ip 0,fP none 0 0,fP none 0 0,fP none 0 0,fP none 0 0] 91)
   first
   |exact⟨b.on d,Fo.on d,⟨λ_=>⟨W.heap.size,by simp[upd],b.lt,_,_,_,_,_,_,au W _⟩,bp⟩⟩
  apply eH
  case hE=>rfl
  case hb=>exact H9
  case h=>
   intro vs W b hd;obtain⟨k,a,B,x0,x1,x2,x3,x4,V,c⟩:=(hd ⟨8,.data⟩ (cH.2 ⟨ar,rfl⟩) rfl).1 rfl;obtain⟨u,x,y,z,f4,A⟩:=bf c;have X:=tO c;rw[a];go_simp;refine⟨⟨(cM ab).trans b.box,eF b.low ab _ _ _ _ _ _⟩,λq=>?_,⟨bp,λ_=>⟨k,by simp[upd,a],B,nC c⟩⟩⟩;by_cases m:q=k
   .subst m;exact⟨λ_=>nC c,λ_=>⟨_,_,_,_,_,_,nC c⟩⟩
   .exact⟨λe=>(cM m).trans e,fun⟨_,_,_,_,_,_,e⟩=>⟨_,_,_,_,_,_,(cM m).trans e⟩⟩
  refine cP λvs W b hd=>?_;obtain⟨k,a,B,c⟩:=(hd 9 ab rfl).2 rfl;rw[a];obtain⟨u,x,y,z,f4,A⟩:=bf c;have Y:=eA c;have D:=eA b;clear c b hd a
  go_wp2_with (first
   |(go_at_call 42;refine(AX C g _).mono ?_;rintro e w'⟨rfl,l⟩;have E:bA W w':=(by rw[l];exact((eu _ _).alloc (ch _) _).alloc ar _);have F:w'.heap[W.heap.size+1]?=some (fp #[fB ip g] 3):=(by have H:=au (W.alloc (fp C.val 91)) (fp #[fB ip g] 3);rw[eQ]at H;rw[l];exact H);have c1:w'.heap[W.heap.size]?=some (fp C.val 91):=(by rw[l];exact(((eu (W.alloc (fp C.val 91)).heap.size _).alloc (ch _) _).block _ ar).trans (au W _));have I:=eA E;have R:=eA c1;have S:=eA F;clear l E c1 F)
   |(go_at_call 41;refine(NA C g N.out _ (p.out.below (eE D.out.low I.out)) R.out S.out).mono ?_;rintro e w3⟨v,rfl,J,K⟩;have T:=eA J;have U:=eA K;clear J K))
  have L:=eE D.out.low I.out;refine ai (v:=f7 #[v,fB ip 0]) ?_ rfl ⟨v,rfl,dJ T.out (by have:=L.size;omega),eE L U.out⟩;simp[aI,Tryz.results16,go_sem]
def tD{W:ac}{r:Nat}{x0 x1 x2 x3 x4 u0 u1 u2 u3 u4:ad}{t:aJ}(h:W.heap[r]?=some (fp #[x0,x1,x2,x3,x4] t)):(((((W.setCell ⟨r,0,none⟩ u0).setCell ⟨r,1,none⟩ u1).setCell ⟨r,2,none⟩ u2).setCell ⟨r,3,none⟩ u3).setCell ⟨r,4,none⟩ u4).heap[r]?=some (fp #[u0,u1,u2,u3,u4] t):=by
 simp only[eI,e7,if_pos,h,iY];rfl
def gh{W:ac}{r b:Nat}{u0 u1 u2 u3 u4:ad}(hb:b≠r):(((((W.setCell ⟨r,0,none⟩ u0).setCell ⟨r,1,none⟩ u1).setCell ⟨r,2,none⟩ u2).setCell ⟨r,3,none⟩ u3).setCell ⟨r,4,none⟩ u4).heap[b]?=W.heap[b]?:=by
 simp only[eI,e7,if_neg (Ne.symm hb)]
def vA(l:List nR):nR:=l.getLast?.getD (0,0,0,0,0)
abbrev aaW(x:nR):Array ad:=#[fB ip x.1,fB ip x.2.1,fB ip x.2.2.1,fB ip x.2.2.2.1,fB ip x.2.2.2.2]
def IE(l:List nR)(x:nR):vA (l++[x])=x:=by simp[vA]
def nU(C:CD)(g:Nat):Int×Int:=(vA (mD C g C.n4)).2.2.2
structure Si(w:ac)(pre:List nR)(W:ac):Prop where
 res:W.heap[w.heap.size+1]?=some (fp #[fB ip 0,fB ip 0] 39)
 last:W.heap[w.heap.size+2]?=some (fp (aaW (vA pre)) 72)
 low:bA w W
def yW{w W c:ac}{row:Option Nat}{a:List nR}{B:Nat}(d:w.heap.size+3<=B)(h:Si w a W)(hg:W.grownBy c row)(b:∀r,row=some r->B<=r):Si w a c:=
 ⟨(hg.block _ (eD h.res) λe=>by have:=b _ e.symm;omega).trans h.res,(hg.block _ (eD h.last) λe=>by have:=b _ e.symm;omega).trans h.last,h.low.grown hg h.low.size λk e=>by have:=b _ e;omega⟩
def Lm(C:CD)(g:Nat)(P:yR C g)(w:ac)(hA:C.At w) :
 ag PL 43 #[f6 C.val,fB ip g] w (aO (f6 #[fB ip (nU C g).1,fB ip (nU C g).2]) w):=by
 have U:=eA hA;have V:=eA P;clear hA P;refine(bM (n:=9)).1 (bR (fx ao Tryz.func43) rfl trivial ?_ rfl);simp only[Tryz.ntmps43,hV,hZ,h6,dk,dp,fm,fo,h7,h8,ib,hu];refine wpIn_wide.2 ?_;have y:Si w [] (((w.alloc (fp C.val 91)).alloc (fp #[fB ip 0,fB ip 0] 39)).alloc (fp #[fB ip 0,fB ip 0,fB ip 0,fB ip 0,fB ip 0] 72)):=by
  refine⟨?_,?_,(((eu _ _).alloc (ch _) _).alloc ar _).alloc (by simp;omega) _⟩
  .have b:=au (w.alloc (fp C.val 91)) (fp #[fB ip 0,fB ip 0] 39);rw[eQ]at b;exact(((eu ((w.alloc (fp C.val 91)).alloc (fp #[fB ip 0,fB ip 0] 39)).heap.size _).alloc (ch _) _).block _ ar).trans b
  .have b:=au ((w.alloc (fp C.val 91)).alloc (fp #[fB ip 0,fB ip 0] 39)) (fp #[fB ip 0,fB ip 0,fB ip 0,fB ip 0,fB ip 0] 72);simp only[eQ]at b;exact b
 have z:=eA y;clear y
 go_wp2_with (go_at_call 42;refine(AX C g _).mono ?_;rintro e w'⟨rfl,m⟩)
 have X:=z.out.low;have J:=br (((w.alloc (fp C.val 91)).alloc (fp #[fB ip 0,fB ip 0] 39)).alloc (fp #[fB ip 0,fB ip 0,fB ip 0,fB ip 0,fB ip 0] 72));have E:w'.heap.size=w.heap.size+5:=by rw[m];simp
 have Q:w'.heap[w.heap.size+3]?=some (fp C.val 91):=by
  rw[m];have b:=au (((w.alloc (fp C.val 91)).alloc (fp #[fB ip 0,fB ip 0] 39)).alloc (fp #[fB ip 0,fB ip 0,fB ip 0,fB ip 0,fB ip 0] 72)) (fp C.val 91);simp only[eQ]at b;exact((((eu (World.alloc (((w.alloc (fp C.val 91)).alloc (fp #[fB ip 0,fB ip 0] 39)).alloc (fp #[fB ip 0,fB ip 0,fB ip 0,fB ip 0,fB ip 0] 72)) (fp C.val 91)).heap.size _).alloc (ch _) _).block _ ar).trans b)
 have F:w'.heap[w.heap.size+4]?=some (fp #[fB ip g] 3):=by
  rw[m];have b:=au ((((w.alloc (fp C.val 91)).alloc (fp #[fB ip 0,fB ip 0] 39)).alloc (fp #[fB ip 0,fB ip 0,fB ip 0,fB ip 0,fB ip 0] 72)).alloc (fp C.val 91)) (fp #[fB ip g] 3);simp only[eQ]at b;exact b
 have H:Si w [] w':=by
  rw[m];exact yW (ch _) z.out ((eV _ _ none).trans (eV _ _ none)) (λr e=>by cases e)
 have d:=eA E;have L:=eA Q;have M:=eA F;rw[<-m];clear E Q F m X J;refine(wpIn_wide (n:=9)).1 ?_;refine yU ab (gf:=63) (lb:=#[f8 (some ⟨w.heap.size+3,0,none⟩),f8 (some ⟨w.heap.size+4,0,none⟩)]) rfl (enters_of (fx ao eq) ae rfl)
  (yT 8 ab (w.heap.size+3) (w.heap.size+4) w.heap.size g C V.out w rfl U.out)
  (λW I=>?_) Li (λW l o R hl Z hc hw=>Lj (n:=w.heap.size) (s:=w.heap.size+5) ab W l o R (by have:=d.out;omega) Z hc hw) (λ_=>rfl)
  (Si w) (λs A B row hs hg N=>yW (B:=w'.heap.size) (by have:=d.out;omega) hs hg λr e=>(N r e).1) (λs A B row hs hg N=>yW (B:=w'.heap.size) (by have:=d.out;omega) hs hg λr e=>(N r e).1) H
  (λx a W=>∃k,W.heap[k]?=some (fp (aaW x) 72)/\a={ tmps:=#[f6 C.val,fB ip g,f8 (some ⟨w.heap.size,0,none⟩),undef,f8 (some ⟨w.heap.size+1,0,none⟩),f8 (some ⟨w.heap.size+2,0,none⟩),f8 (some ⟨k,0,none⟩),f6 C.val,fB ip g,f9 (jD 63) #[] #[f8 (some ⟨w.heap.size+3,0,none⟩),f8 (some ⟨w.heap.size+4,0,none⟩)],f6 (aaW x),undef,undef,undef],defers:=[] })
  ?A ?kg ?assign ?body ?done
 .have e:∀k,k<w.heap.size->W.heap[k]?=w.heap[k]?:=λk f=>(I.block k (by have:=d.out;omega)).trans (H.low.block k f);exact⟨e,by have:=I.size;have:=d.out;omega,(I.block _ (by have:=d.out;omega)).trans L.out,(I.block _ (by have:=d.out;omega)).trans M.out⟩
 case A=>
  rintro x a W l o R hl hc⟨k,f,ha⟩;refine⟨k,(e6 (λe=>?_)).trans f,ha⟩;subst e;rw[hl]at f;cases f;cases hc
 case kg=>
  intro A B hs hg;have:=d.out;exact⟨λk f=>hg.block k ab ar,λk c t h _ _=>(hg.block k (eD h) ar).trans h,hg.size⟩
 case assign=>
  intro l x W K O;dsimp only[VS]
  gi_wp2
  refine O _ _ (eV W _ none) ⟨W.heap.size,au _ _,rfl⟩
 case body=>
  rintro l pre x a W i⟨k,f,rfl⟩Nw;obtain⟨k0,k1,k2,k3,k4⟩:=qO f;obtain⟨l0,l1,l2,l3,l4⟩:=qO i.last;have fl:=tO i.last;have j:=eA i;clear i f
  gi_wp2
  have Cu:=eD j.out.last;refine⟨((((jl W _ _).trans (jl _ _ _)).trans (jl _ _ _)).trans (jl _ _ _)).trans (jl _ _ _),⟨λq hq=>gh ab,λq c t h b h2=>(gh (λe=>?_)).trans h,ar⟩,⟨(gh ab).trans j.out.res,by rw[IE];exact tD j.out.last,((((j.out.low.setCell (p:=⟨w.heap.size+2,0,none⟩) ar _).setCell (p:=⟨w.heap.size+2,1,none⟩) ar _).setCell (p:=⟨w.heap.size+2,2,none⟩) ar _).setCell (p:=⟨w.heap.size+2,3,none⟩) ar _).setCell (p:=⟨w.heap.size+2,4,none⟩) ar _⟩⟩;subst e;have S:=j.out.last;rw[h]at S;cases S;exact b rfl
 case done=>
  intro D W T i O;obtain⟨l0,l1,l2,l3,l4⟩:=qO i.last;obtain⟨t0,t1,u0,u1⟩:=uJ i.res;have j:=eA i;have HD:=eA T;clear i T;go_wp2;have hK':=((jl W ⟨w.heap.size+1,0,none⟩ (fB ip (vA (mD C g C.n4)).2.2.2.1)).trans (jl _ ⟨w.heap.size+1,1,none⟩ (fB ip (vA (mD C g C.n4)).2.2.2.2))).same D _ O rfl;obtain⟨d0,d1,_,_⟩:=yD (u:=fB ip (vA (mD C g C.n4)).2.2.2.1) (v:=fB ip (vA (mD C g C.n4)).2.2.2.2) t0 t1;have e0:=cell_kept d0 (b1 _ D (ft none)) (λr e=>by cases e;exact⟨_,hK',rfl⟩);have e1:=cell_kept d1 (b1 _ D (ft none)) (λr e=>by cases e;exact⟨_,hK',rfl⟩);refine⟨ar,js ⟨_,_,rfl,bT hK',?_⟩⟩;refine⟨f6 #[fB ip (nU C g).1,fB ip (nU C g).2],?_,rfl,(((j.out.low.setCell (p:=⟨w.heap.size+1,0,none⟩) (df _) _).setCell (p:=⟨w.heap.size+1,1,none⟩) (df _) _)).trans (belowK_b (w:=w) (ch _) _ D _ _ (by have:=HD.out;have:=d.out;omega) hK' rfl rfl)⟩;simp[aI,Tryz.results43,go_sem,e0,e1,nU]
structure KE(C:CD)(w W:ac):Prop where
 box:W.heap[w.heap.size]?=some (fp C.val 27)
 res:W.heap[w.heap.size+1]?=some (fp #[fB ip 0,fB ip 0] 39)
 low:bA w W
def KE.on{C:CD}{w W b:ac}(h:KE C w W)(a:bA W b):KE C w b:=
 ⟨(a.block _ (eD h.box)).trans h.box,(a.block _ (eD h.res)).trans h.res,eE h.low a⟩
def KE.lt{C:CD}{w W:ac}(h:KE C w W):w.heap.size+1<W.heap.size:=eD h.res
def alV(C:CD)(w:ac)(j:Nat)(vs:Nat->ad)(W:ac):Prop:=
 (j=8->∃k,vs 8=f8 (some ⟨k,0,none⟩)/\w.heap.size+1<k/\Six W k)/\(j=9->∃k,vs 8=f8 (some ⟨k,0,none⟩)/\w.heap.size+1<k/\W.heap[k]?=some (fp C.val 91))
def Sj(C:CD)(g:Nat)(w:ac)(h:C.At w)(hg:g<C.n5)(m5:C.n5<=3)(hf:C.b6 true=0)(x:yR C g) :
 ag PL 17 #[f6 C.val,fB ip g] w (aO (f7 #[f6 #[fB ip (nU C g).1,fB ip (nU C g).2],fB ip 0]) w):=by
 have y:=eA h;have K:=eA hf;have L:=eA x
 have n:Hid (KE C w ((w.alloc (fp C.val 27)).alloc (fp #[fB ip 0,fB ip 0] 39))):=eA ⟨(((eu (w.alloc (fp C.val 27)).heap.size _).alloc (ch _) _).block _ ar).trans (au w _),by
  have z:=au (w.alloc (fp C.val 27)) (fp #[fB ip 0,fB ip 0] 39);rw[eQ]at z
  exact z,((eu _ _).alloc (ch _) _).alloc ar _⟩
 clear h hf x;go_enter (fx ao Tryz.func17),Tryz.ntmps17
 go_upto_region 1 with fail
 refine cT 10 (KE C w) (Fo C) (λj=>j != 8&&j != 9) (alV C w) rfl ae ae
  (λi vs W A l h=>⟨λe=>(h.1 e).imp λk b=>⟨b.1,b.2.1,(l k).2 b.2.2⟩,λe=>(h.2 e).imp λk b=>⟨b.1,b.2.1,(l k).1 b.2.2⟩⟩) (λi o B vs M W N hd h=>⟨λe=>?_,λe=>?_⟩) ?_ ?_
 .subst e;rw[<-N];exact h.1 rfl
 .subst e;have O:vs 8=M 8:=by
   simp only[gD,ik,il,iU]at B;subst B;exact hd ⟨8,.data⟩ (cH.2 ⟨ar,rfl⟩)
  rw[<-O];exact h.2 rfl
 .exact⟨n.out.box,n.out.res,n.out.low.drew⟩
 .iterate 8 (
   apply aY
   case hE=>rfl
   case h=>
    intro vs W a hd;obtain⟨D,E,F,H,f4,I⟩:=bf a.box;go_simp
    first
    |(go_at_call 40;refine(AZ C g hg m5 _).mono ?_;rintro e A⟨rfl,d⟩;exact⟨_,rfl,rfl,a.on d,Fo.on d⟩)
    |(go_at_call 36;refine(kF K.out (y.out.below a.low)).mono ?_;rintro e A⟨rfl,d⟩;exact⟨_,rfl,rfl,a.on d,Fo.on d⟩)
    |exact⟨rfl,Fo.on (eu _ _)⟩
   case hb=>exact H9)
  apply eH
  case hE=>rfl
  case hb=>exact H9
  case h=>
   intro vs W a hd;go_simp;have d:=(eu W.heap.size W).alloc (ch _) (fp #[fB ip 0,fB ip 0,fP none 0 0,fP none 0 0,fP none 0 0,fP none 0 0] 91)
   first
   |exact⟨a.on d,Fo.on d,⟨λ_=>⟨W.heap.size,by simp[upd],a.lt,_,_,_,_,_,_,au W _⟩,bp⟩⟩
  apply eH
  case hE=>rfl
  case hb=>exact H9
  case h=>
   intro vs W a hd;obtain⟨k,b,J,x0,x1,x2,x3,x4,S,c⟩:=(hd ⟨8,.data⟩ (cH.2 ⟨ar,rfl⟩) rfl).1 rfl;obtain⟨D,E,F,H,f4,I⟩:=bf c;have T:=tO c;rw[b];go_simp;refine⟨⟨(cM ab).trans a.box,(cM ab).trans a.res,eF a.low ab _ _ _ _ _ _⟩,λq=>?_,⟨bp,λ_=>⟨k,by simp[upd,b],J,nC c⟩⟩⟩;by_cases r:q=k
   .subst r;exact⟨λ_=>nC c,λ_=>⟨_,_,_,_,_,_,nC c⟩⟩
   .exact⟨λe=>(cM r).trans e,fun⟨_,_,_,_,_,_,e⟩=>⟨_,_,_,_,_,_,(cM r).trans e⟩⟩
  refine cP λvs W a hd=>?_;obtain⟨k,b,J,c⟩:=(hd 9 ab rfl).2 rfl;rw[b];obtain⟨D,E,F,H,f4,I⟩:=bf c;have U:=eA c;have f:=eA a;clear c a hd b;obtain⟨V,t1,u0,u1⟩:=uJ f.out.res;have fr:=tO f.out.res
  go_wp2_with (go_at_call 43;refine(Lm C g L.out _ (y.out.below f.out.low)).mono ?_;rintro e w3⟨rfl,s⟩;have m:=(s.block _ (eD f.out.res)).trans f.out.res;obtain⟨X,v1,Y,Z⟩:=uJ m;have P:=tO m;have Q:=eA s;have t:=eA m;clear s m)
  have R:=eE f.out.low Q.out;refine ai (v:=f7 #[f6 #[fB ip (nU C g).1,fB ip (nU C g).2],fB ip 0]) ?_ rfl ⟨rfl,(R.setCell (p:=⟨w.heap.size+1,0,none⟩) (df _) _).setCell (p:=⟨w.heap.size+1,1,none⟩) (df _) _⟩;obtain⟨a0,a1,_,_⟩:=uJ (yL (u:=fB ip (nU C g).1) (v:=fB ip (nU C g).2) t.out);simp[aI,Tryz.results17,go_sem,a0,a1]
def Fp(C:CD)(R:ac->ad->Prop)(w:ac)(h:C.At w)(hf:C.b6 true=0)
 (b:∀W,C.At W->ag PL 47 #[f6 C.val] W λe w'=>∃v,e=jp v/\R w' v/\bA W w') :
 ag PL 19 #[f6 C.val] w λe w'=>∃v,e=jp (f7 #[v,fB ip 0])/\R w' v/\bA w w':=by
 have c:=eA h;have k:=eA hf;have a:=eA b;have d:Hid (KB C w (w.alloc (fp C.val 27))):=eA ⟨au _ _,(eu _ _).alloc (ch _) _⟩;clear h hf b;go_enter (fx ao Tryz.func19),Tryz.ntmps19
 go_wp2_with (first
  |(go_at_call 36;refine(kF k.out (c.out.below d.out.low)).mono ?_;rintro e w1⟨rfl,f⟩;have g:=eA (d.out.on f);clear f)
  |(go_at_call 47;refine(a.out _ (c.out.below (g.out.alloc (fp C.val 91)).low)).mono ?_;rintro e w2⟨v,rfl,i,j⟩;have l:=eA ((g.out.alloc (fp C.val 91)).on j);have m:=eA i;clear j i))
 refine ai (v:=f7 #[v,fB ip 0]) ?_ rfl ⟨v,rfl,m.out,l.out.low⟩;simp[aI,Tryz.results19,go_sem]
structure KT(C:CD)(w W:ac):Prop where
 box:W.heap[w.heap.size]?=some (fp C.val 91)
 low:bA w W
def KT.on{C:CD}{w W a:ac}(h:KT C w W)(b:bA W a):KT C w a:=
 ⟨(b.block _ (eD h.box)).trans h.box,eE h.low b⟩
def qP(C:CD)(p:Nat):Bool:=decide (∀g,g<p->(nU C g).2<=C.l)
def IF{C:CD}{p:Nat}(h:qP C p=true)(k:(nU C p).2<=C.l):qP C (p+1)=true:=by
 simp only[qP,decide_eq_true_eq]at *;intro g hg
 rcases Nat.lt_succ_iff_lt_or_eq.1 hg with a|rfl
 .exact h g a
 .exact k
def Sk{C:CD}{p n:Nat}(a:p<n)(k:¬(nU C p).2<=C.l):qP C n=false:=by
 simp only[qP,decide_eq_false_iff_not];exact λh=>k (h p a)
def ag1(a b:Int)(W:ac):Sem.run PL (iB 39 (f6 #[fB ip a,fB ip b]) 1) W=jx (fB ip b) W:=ae
def VY(C:CD)(n:Nat)(w:ac)(h:C.At w)(hc:C.cx=0)(m5:C.n5<=3)
 (q:∀W,C.At W->ag PL 47 #[f6 C.val] W λe w'=>∃b c,e=jp (fP b n c)/\bA W w') :
 ag PL 52 #[f6 C.val] w (aO (fY (qP C C.n5&&decide (n=0))) w):=by
 have r:=eA h;have j:=eA q;have v:=eA hc;have x:Hid (KT C w (w.alloc (fp C.val 91))):=eA ⟨au _ _,(eu _ _).alloc (ch _) _⟩;clear h q hc;go_enter (fx ao Tryz.func52),Tryz.ntmps52;go_wp2
 go_loopw [8] (λk wr=>∃p:Nat,p<=C.n5/\k=fB ip p/\qP C p=true/\KT C w wr) (λk _=>C.n5-(intOf k).toNat)
 case atStart=>exact⟨0,ce _,rfl,by simp[qP],x.out⟩
 case round=>
  obtain⟨p,K,rfl,hs,s⟩:=hrel;have f:=eA s;have t:=eA hs;clear s hs;by_cases i:p<C.n5
  .have y:(p:Int)<C.n5:=ab;have z:=eA (Sa C v.out i)
   go_upto_region 4 with fail
   refine ig (KT C w) (λ_ _=>True) (λ_=>true) (λ_ _ _=>True) rfl ae (λ_ _ _ _ _ _=>trivial) (λ_ _ _ _ _ _ _ _ _=>trivial) ⟨f.out.box,f.out.low.drew⟩ ?_
   iterate 8 (
    apply aY
    case hE=>rfl
    case h=>
     intro vs W d hd;obtain⟨A,B,D,E,f4,F⟩:=bf d.box;have q1:=ag1;go_simp
     first
     |(go_at_call 43;refine(Lm C p z.out _ (r.out.below d.low)).mono ?_;rintro e L⟨rfl,H⟩;exact⟨_,rfl,rfl,d.on H⟩)
     |exact rfl
    case hb=>exact H9)
   refine cP λvs W d hd=>?_;have g:=eA d;clear hd d;by_cases a:(nU C p).2<=C.l
   .have m:=eA a;have I:¬(C.l<(nU C p).2):=ab;clear a;go_wp2;exact⟨⟨p+1,i,by go_num,IF t.out m.out,g.out⟩,by simp only[intOf];omega⟩
   .have m:=eA a;have I:C.l<(nU C p).2:=ab;clear a;go_wp2;go_ret;have hs:=Sk i (Int.not_le.2 m.out);refine⟨?_,g.out.low⟩;rw[hs,Bool.false_and];rfl
  .have o:p=C.n5:=ab;have y:¬((p:Int)<C.n5):=ab;clear i;obtain⟨A,B,D,E,f4,F⟩:=bf f.out.box
   go_wp2_with (go_at_call 47;refine(j.out _ (r.out.below f.out.low)).mono ?_;rintro e w2⟨b,c,rfl,u⟩;have J:=eA (f.out.on u);clear u)
   go_ret;have hs:qP C C.n5=true:=by have h:=t.out;first|(rw[o]at h;exact h)|exact h
   have e:((n:Int)==0)=decide (n=0):=by by_cases h:n=0<;>simp[h]
   refine⟨?_,J.out.low⟩;rw[hs,e,Bool.true_and];rfl
end Go.Proofs
namespace Go.Proofs
open Go.RowKit
def ah4(l:List nR)(i j:Nat)(hi:i<l.length)(a:j<5):(l.flatMap vV)[i*5+j]?=(vV l[i])[j]?:=by
 induction l generalizing i with
 |nil=>cases hi
 |cons x l b=>
  rw[ht];have e:(vV x).length=5:=rfl;grind
def abC{a:Type}(b:a->a->Bool)(x:a):List a->List a
 |[]=>[x]
 |y::P=>if b x y then y::abC b x P else x::y::P
def abd{a:Type}(b:a->a->Bool):List a->List a:=im (λP x=>abC b x P) []
def yd{a:Type}(b:a->a->Bool)(l:List a):List a:=(abd b l).reverse
def ah5{a:Type}(b:a->a->Bool)(x:a)(P:List a):(abC b x P).length=P.length+1:=by
 induction P with
 |nil=>rfl
 |cons y P c=>rw[abC];split<;>simp[c]
def adI{a:Type}(b:a->a->Bool)(l:List a)(x:a):abd b (l++[x])=abC b x (abd b l):=by simp[abd,List.foldl_append]
def abK{a:Type}(b:a->a->Bool)(l:List a):(abd b l).length=l.length:=by
 have key:∀(l P:List a),(im (λP x=>abC b x P) P l).length=P.length+l.length:=by
  intro l
  induction l with
  |nil=>intro P;simp
  |cons x l c=>intro P;rw[List.foldl_cons,c,ah5,hZ];omega
 rw[abd,key];simp
def agE{a:Type}(b:a->a->Bool)(l:List a):(yd b l).length=l.length:=by simp[yd,abK]
def aav(x y:nR):Bool:=decide (x.2.2.2.2<y.2.2.2.2)
def adS(x y:nR)(w:ac):ag PL 72 #[f6 (aaW x),f6 (aaW y)] w λe w'=>e=jp (fB ip (Ip x.2.2.2.2 y.2.2.2.2))/\w'=(w.alloc (fp (aaW x) 76)).alloc (fp (aaW y) 76):=by
 go_enter (fx ao et),Tryz.ntmps72
 go_wp2_with (go_at_call 73;refine(Kw _ _ _).mono ?_;rintro e w'⟨rfl,rfl⟩)
 go_ret;exact⟨rfl,rfl⟩
def alQ(x y:nR):(Ip x.2.2.2.2 y.2.2.2.2<0)↔aav x y=true:=by
 unfold Ip aav;rw[decide_eq_true_iff];split
 .simp[*]
 .split<;>simp[*]
open Go.Shelf Go.Sort
def ahP{a:Type}[Inhabited a](P R:List a)(x y:a):(P++y::x::R).toArray[P.length]! = y/\(P++y::x::R).toArray[P.length+1]! = x:=by
 grind
def ah6{a:Type}[Inhabited a](P R:List a)(x y:a):swp (P++y::x::R).toArray (P.length+1) P.length=(P++x::y::R).toArray:=by
 unfold swp;simp_all
def aax{a:Type}[Inhabited a](b:a->a->Bool)(x:a):∀(P R:List a),insInner b 0 P.length (P.reverse++x::R).toArray=((abC b x P).reverse++R).toArray
 |[],R=>by rw[h6,insInner];simp[abC]
 |y::P,R=>by
  have h:(y::P).reverse++x::R=P.reverse++y::x::R:=ar;have e:=ahP P.reverse R x y;have hs:=ah6 P.reverse R x y;rw[List.length_reverse]at e hs;rw[h,hZ,insInner,e.1,e.2,abC];by_cases hl:b x y=true
  .rw[if_pos (by simp[hl]),if_pos hl,hs,aax b x P (y::R)];simp
  grind
def aay{b:Type}[Inhabited b](a:b->b->Bool)(L:List b):∀(n i:Nat),L.length-i=n->insOuter a 0 L.length i (yd a (L.take i)++L.drop i).toArray=(yd a L).toArray
 |0,i,h=>by
  grind [insOuter_stop,List.take_of_length_le,List.drop_of_length_le]
 |n+1,i,h=>by
  have hi:i<L.length:=ab;have hl:(abd a (L.take i)).length=i:=by rw[abK];simp;omega
  rw[insOuter_go _ _ _ _ _ hi,<-aay a L n (i+1) ab,List.drop_eq_getElem_cons hi];congr 1;have:=aax a L[i] (abd a (L.take i)) (L.drop (i+1));rw[hl]at this;rw[yd,this,yd,List.take_succ_eq_append_getElem hi,adI]
def aaJ{b:Type}[Inhabited b](c:b->b->Bool)(L:List b):insertionSort c L.toArray 0 L.length=(yd c L).toArray:=by
 unfold insertionSort;have:=aay c L (L.length-1) 1 rfl;have e:yd c (L.take 1)++L.drop 1=L:=by
  cases L with
  |nil=>rfl
  |cons a L=>simp[yd,abd,abC]
 rw[e]at this;exact this
def ag2:PL.underlying 58=some (jr 76):=ae
def aaX:(PL.info? 76).map (λi=>(i.zero,i.size,i.bytes))=some (some (f6 #[fB ip 0,fB ip 0,fB ip 0,fB ip 0,fB ip 0]),5,40):=ae
def kV(W:ac)(base:Nat)(v:ad)(l:List nR):Prop:=W.ownsRow base 76 5 v l.length (l.flatMap vV)
def kV.alloc{W:ac}{base:Nat}{v:ad}{l:List nR}(h:kV W base v l)(o:Obj):kV (W.alloc o) base v l:=io h o
def kV.on{W b:ac}{base:Nat}{v:ad}{l:List nR}(h:kV W base v l)(d:bA W b):kV b base v l:=by
 obtain⟨c,h⟩:=h
 rcases h with h|⟨g,cap,a,e1,hb,hg,e⟩
 .exact⟨c,js h⟩
 .exact⟨c,jt ⟨g,cap,a,e1,hb,(d.block _ (eD hg)).trans hg,e⟩⟩
def vB{W:ac}{base e size n:Nat}{v:ad}{xs:List ad}(h:W.ownsRow base e size v n xs):∃b c,v=fP b n c:=by
 rcases h.2 with⟨rfl,d⟩|⟨g,cap,a,rfl,_⟩
 .grind
 .exact⟨_,_,rfl⟩
def arv:Ren:=⟨λ_=>130,λt=>if t=24 then 76 else if t=22 then 58 else if t=25 then 144 else t,λt=>t⟩
def arw:SlLaysF0.n20 PL arv where
 mixed:=rfl
 f20:=⟨ "slices.insertionSortCmpFunc[nock/api.FieldTrouble]",ao,(fx ao ep).trans ae⟩
 t0:=ae
 a0:=by intro w;kernel_rfl
 z0:=by intro w;kernel_rfl
 v0:=by intro w;kernel_rfl
 t3:=ae
 a3:=by intro w;kernel_rfl
 z3:=by intro w;kernel_rfl
 v3:=by intro w;kernel_rfl
 t4:=ae
 a4:=by intro w;kernel_rfl
 z4:=by intro w;kernel_rfl
 v4:=by intro w;kernel_rfl
 t22:=ae
 a22:=by intro w;kernel_rfl
 z22:=by intro w;kernel_rfl
 v22:=by intro w;kernel_rfl
 t25:=ae
 a25:=by intro w;kernel_rfl
 z25:=by intro w;kernel_rfl
 v25:=by intro w;kernel_rfl
def acd(L:List nR)(t:Nat)(h:t<L.length*5):(L.flatMap vV)[t]?=some (flatK vV 5 L.toArray)[t]!:=by
 have a:t / 5<L.length:=ab;have e:=ah4 L (t / 5) (t % 5) a ab;rw[show t / 5*5+t % 5=t by omega]at e;have b:L.toArray[t / 5]! = L[t / 5]:=aS;rw[e,get_flatK _ _ _ _ (by simpa using h),b];have c:t % 5<(vV L[t / 5]).length:=cC _ ao;grind
def ace(L:List nR)(b c base:Nat)(w:ac)(h:kV w base (fP (some ⟨b,0,none⟩) L.length c) L)(hl:L.length<=20) :
 ag PL 130 #[fP (some ⟨b,0,none⟩) L.length c,fB ip 0,fB ip L.length,f9 (jD 72) #[] #[]] w λe w'=>(∃v,e=jp v)/\kV w' base (fP (some ⟨b,0,none⟩) L.length c) (yd aav L)/\Below base w w':=by
 obtain⟨F,⟨z,_⟩|⟨g,cap,a,e,hb,hg,hc,A,hs,B⟩⟩:=h
 .cases z
 obtain⟨e1,_,C⟩:=jn e;cases e1;cases C;have f:=eD hg;have D:HoldsK vV 5 w b 0 L.toArray:=by
  intro j p;have p:j<L.length*5:=by simpa using p
  refine⟨?_,tO hg _⟩;have:=acd L j p;rw[<-B,gr p]at this;simp only[eM,hg,cl];simpa using this
 have q:CmpLays PL 72 #[] vV 5 (λx y=>Ip x.2.2.2.2 y.2.2.2.2) b 0 L.toArray.size w:=λm r H hd x y=>by
  refine(adS x y _).mono ?_;rintro e w'⟨rfl,rfl⟩;exact⟨rfl,0,_,by rw[alloc_eq_grow,alloc_eq_grow,grow_grow];rfl⟩
 refine(AnyQ.insertionSortCmpFunc arw 5 (by intro w;kernel_rfl) (by intro w;kernel_rfl) vV (λ_=>rfl) (λx v hv=>by simp only[vV,gc,ge,or_false]at hv;rcases hv with rfl|rfl|rfl|rfl|rfl<;>rfl) _ 72 #[] b 0 c 0 L.length L.toArray w (JZ (fx ao et) (by decide +kernel) rfl) q D f (ce _) ar (by simp;omega)).mono ?_;rintro e w'⟨rfl,n,r,rfl⟩;have E:(ltOf λx y:nR=>Ip x.2.2.2.2 y.2.2.2.2)=aav:=by
  funext x y;have:=alQ x y;unfold ltOf;grind
 rw[E,aaJ];obtain⟨S,u⟩:=br (yd aav L);have d:S.length=L.length:=by rw[u,agE]
 rw[<-u];have hF:(flatK vV 5 S.toArray).size=L.length*5:=by simp[d]
 have i:(sortWorldK vV 5 w b 0 n S.toArray r).heap=w.heap.modify b (onCells (putCells id 0 (flatK vV 5 S.toArray)))++r:=rfl;refine⟨⟨_,rfl⟩,⟨?_,jt ⟨b,c,putCells id 0 (flatK vV 5 S.toArray) a,by rw[d],hb,?_,by rw[d];exact hc,A,?_,?_⟩⟩,?_⟩
 .have:∀l:List nR,(l.flatMap vV).length=l.length*5:=λl=>by
   induction l with
   |nil=>rfl
   |cons x l s=>rw[ht,gt,s];simp[vV];omega
  exact this S
 .rw[i,Array.getElem?_append_left (by simpa using f),e7,if_pos rfl,hg];rfl
 .simpa[putCells]using hs
 .apply g9;intro t;rw[g8];have hcs:L.length*5<=a.size:=ab;split
  .rename_i o;rw[d]at o;rw[acd S t ab];have:a[t]?=some a[t]:=fc ab;simp only[putCells,fi,Array.getElem?_mapIdx,this,iY];grind
  .rename_i o;rw[hh];have:∀l:List nR,(l.flatMap vV).length=l.length*5:=λl=>by
    induction l with
    |nil=>rfl
    |cons x l s=>rw[ht,gt,s];simp[vV];omega
   rw[this];omega
 .exact⟨rfl,rfl,rfl,by rw[i];simp,λk I=>aS⟩
end Go.Proofs
namespace Go.Proofs
open Go.RowKit Go.Shelf
attribute [local go_sem] Oper.semAt_some
def ah7(a1 a2 a3 a4 a b c d:Int):Int:=Ej (decide (a1<d)&&decide (a<a4)) (decide (a3<=b)||decide (c<=a2))
def IU(L:List Int)(a b p:Nat):nR:=(a,(b:Nat),(p:Nat),ah7 (L.getD (a*25+p*5+1) 0) (L.getD (a*25+p*5+2) 0) (L.getD (a*25+p*5+3) 0) (L.getD (a*25+p*5+4) 0) (L.getD (b*25+p*5+1) 0) (L.getD (b*25+p*5+2) 0) (L.getD (b*25+p*5+3) 0) (L.getD (b*25+p*5+4) 0),max (L.getD (a*25+p*5+1) 0) (L.getD (b*25+p*5+1) 0))
def abU(L:List Int)(a b:Nat):Nat->List nR
 |0=>[]
 |p+1=>abU L a b p++if(IU L a b p).2.2.2.1=2 then[] else[IU L a b p]
def aaS(L:List Int)(n a:Nat):Nat->List nR
 |0=>[]
 |k+1=>aaS L n a k++abU L a (a+1+k) n
def abf(L:List Int)(n m:Nat):Nat->List nR
 |0=>[]
 |a+1=>abf L n m a++aaS L n a (m-(a+1))
def ao3(L:List Int)(n m:Nat):List nR:=yd aav (abf L n m m)
def acg(L:List Int)(a b p:Nat):(abU L a b p).length<=p:=by
 induction p with
 |zero=>exact ch _
 |succ p c=>rw[abU,gt];split<;>simp<;>omega
def xu(L:List Int){n:Nat}(b:n<=5)(a k:Nat):(aaS L n a k).length<=5*k:=by
 induction k with
 |zero=>exact ch _
 |succ k c=>have:=acg L a (a+1+k) n;rw[aaS,gt];omega
def ah8(L:List Int){n m:Nat}(b:n<=5)(c:m<=3)(a:Nat):(abf L n m a).length<=15*a:=by
 induction a with
 |zero=>exact ch _
 |succ a d=>have:=xu L b a (m-(a+1));rw[abf,gt];omega
def ah9(L:List Int){n m:Nat}(a:n<=5)(c:m<=3):(abf L n m m).length<=15:=by
 match m,c with
 |0,_=>exact ce _
 |1,_=>
  have b:=xu L a 0 0;rw[show abf L n 1 1=aaS L n 0 0 from rfl];omega
 |2,_=>
  have b:=xu L a 0 1;have d:=xu L a 1 0;rw[show abf L n 2 2=aaS L n 0 1++aaS L n 1 0 from rfl,gt];omega
 |3,_=>
  have b:=xu L a 0 2;have d:=xu L a 1 1;have e:=xu L a 2 0;rw[show abf L n 3 3=aaS L n 0 2++aaS L n 1 1++aaS L n 2 0 from rfl,gt,gt];omega
def z61:Array ad:=#[fB ip 0,fB ip 0,fB ip 0,fB ip 0,fB ip 0]
def IG(n0:Nat)(A:Array ad)(j:Nat)(vs:Nat->ad)(W:ac):Prop:=
 (j=14->∃k,vs 14=f8 (some ⟨k,0,none⟩)/\n0<=k/\k<W.heap.size/\∃x0 x1 x2 x3 x4,W.heap[k]?=some (fp #[x0,x1,x2,x3,x4] 72))/\
 (j=15->∃k,vs 15=f8 (some ⟨k,0,none⟩)/\n0<=k/\k<W.heap.size/\W.heap[k]?=some (fp z61 72))/\
 (j=16->∃k,vs 14=f8 (some ⟨k,0,none⟩)/\W.heap[k]?=some (fp A 72))
def ExT(t:Nat):Bool:=t != 14&&t != 15&&t != 16
def neT(i j:Nat)(u v:ad):Prop:=(i=14/\j=15\/i=15/\j=14)->u≠v
def IG.le{n0:Nat}{A:Array ad}{j:Nat}{vs:Nat->ad}{W g:ac}(h:IG n0 A j vs W)(b:bA W g):IG n0 A j vs g:=
 ⟨λe=>(h.1 e).imp λq⟨c,f,d,x0,x1,x2,x3,x4,a⟩=>⟨c,f,b9 d b.size,x0,x1,x2,x3,x4,(b.block _ d).trans a⟩,
  λe=>(h.2.1 e).imp λq⟨c,f,d,a⟩=>⟨c,f,b9 d b.size,(b.block _ d).trans a⟩,
  λe=>(h.2.2 e).imp λq⟨c,a⟩=>⟨c,(b.block _ (eD a)).trans a⟩⟩
def Sl{n0:Nat}{A:Array ad}{W:ac}{vs:Nat->ad}{D:List Nat}{i:Nat}(f:n0<=W.heap.size)(hi:i=14\/i=15)(hd:∀j∈D,ExT j=false->IG n0 A j vs W) :
 (∀j∈D,ExT j=false->IG n0 A j vs (W.alloc (fp z61 72)))/\IG n0 A i (upd vs i (f8 (some ⟨W.heap.size,0,none⟩))) (W.alloc (fp z61 72))/\∀j∈D,ExT j=false->neT j i (vs j) (f8 (some ⟨W.heap.size,0,none⟩)):=by
 have g:=(eu W.heap.size W).alloc (ch _) (fp z61 72);refine⟨λj c d=>(hd j c d).le g,⟨λe=>⟨W.heap.size,by simp[upd,e],f,ar,_,_,_,_,_,au _ _⟩,λe=>⟨W.heap.size,by simp[upd,e],f,ar,au _ _⟩,λe=>ab⟩,λj c d e1 e=>?_⟩;obtain⟨q,a,b⟩:∃q,vs j=f8 (some ⟨q,0,none⟩)/\q<W.heap.size:=by
  rcases e1 with⟨rfl,_⟩|⟨rfl,_⟩
  .obtain⟨q,a,_,b,_⟩:=(hd _ c d).1 rfl;exact⟨q,a,b⟩
  .obtain⟨q,a,_,b,_⟩:=(hd _ c d).2.1 rfl;exact⟨q,a,b⟩
 rw[a]at e;cases e;exact co _ b
structure KR(C:CD)(w:ac)(k:Nat)(L:List Int)(B:Nat)(W:ac):Prop where
 pK:B<=W.heap.size
 kl:k<B
 bl:w.heap.size<B
 box:W.heap[w.heap.size]?=some (fp C.val 91)
 row:Row W k (L.map bh)
 low:bA w W
def KR.on{C:CD}{w W b:ac}{k:Nat}{L:List Int}{B:Nat}(h:KR C w k L B W)(a:bA W b):KR C w k L B b:=
 ⟨ct h.pK a.size,h.kl,h.bl,(a.block _ (eD h.box)).trans h.box,h.row.on a,eE h.low a⟩
def Below.ag3{B:Nat}{a w:ac}(h:Below B a w){k:Nat}(b:B<=k)(u0 u1 u2 u3 u4:ad):Below B a (((((w.setCell ⟨k,0,none⟩ u0).setCell ⟨k,1,none⟩ u1).setCell ⟨k,2,none⟩ u2).setCell ⟨k,3,none⟩ u3).setCell ⟨k,4,none⟩ u4):=
 ((((h.setCell (p:=⟨k,0,none⟩) b _).setCell (p:=⟨k,1,none⟩) b _).setCell (p:=⟨k,2,none⟩) b _).setCell (p:=⟨k,3,none⟩) b _).setCell (p:=⟨k,4,none⟩) b _
def Sm{W:ac}{b:Nat}{x:nR}{t:aJ}(h:W.heap[b]?=some (fp #[fB ip x.1,fB ip x.2.1,fB ip x.2.2.1,fB ip x.2.2.2.1,fB ip x.2.2.2.2] t)):∀(j:Nat)(u:ad),(vV x)[j]?=some u->W.cell? ((⟨b,0,none⟩:bC).add j)=some u:=by
 intro j u e
 match j,e with
 |0,e=>cases e;simp[eM,i9,h]
 |1,e=>cases e;simp[eM,i9,h]
 |2,e=>cases e;simp[eM,i9,h]
 |3,e=>cases e;simp[eM,i9,h]
 |4,e=>cases e;simp[eM,i9,h]
 |j+5,e=>simp[vV]at e
def KR.alloc{C:CD}{w W:ac}{k:Nat}{L:List Int}{B:Nat}(h:KR C w k L B W)(o:Obj):KR C w k L B (W.alloc o):=h.on ((eu _ _).alloc (ch _) o)
def aen(v:ad)(L:List nR){base:Nat}{w:ac}(h:kV w base v L)(hl:L.length<=15):ag PL 71 #[v,f9 (jD 72) #[] #[]] w λe w'=>e=jp v/\kV w' base v (yd aav L)/\Below base w w':=by
 obtain⟨n,d⟩:=br L.length;obtain⟨b,c,rfl⟩:=vB h;rw[<-d]
 have H:Hid (ag PL 130 #[fP b n c,fB ip 0,fB ip n,f9 (jD 72) #[] #[]] w λe w'=>(∃v,e=jp v)/\kV w' base (fP b n c) (yd aav L)/\Below base w w'):=eA (by
  have k:=h
  rcases h.2 with⟨e,l⟩|⟨g,cap,m,e,_⟩
  .obtain⟨rfl,_,rfl⟩:=jn e;obtain rfl:=List.length_eq_zero_iff.1 l;subst d;refine(zW none 0 0 0 _ w ab).mono ?_;rintro e w'⟨a,rfl⟩;exact⟨a,k,eu _ _⟩
  .obtain⟨rfl,_,rfl⟩:=jn e;rw[d]
   exact ace L g c base w k ab)
 rw[<-d]at hl;clear h d;have p:(n:Int)<20:=ab;have q:(n:Int)<=20:=ab
 have i:Hid (ag PL 121 #[fP b n c,fB ip n,f9 (jD 72) #[] #[]] w λe w'=>(∃v,e=jp v)/\kV w' base (fP b n c) (yd aav L)/\Below base w w'):=eA (by
  go_enter (fx ao Tryz.func121),Tryz.ntmps121;go_wp2
  go_loop [7,8] (λv7 o=>v7=fB ip 0/\o=fB ip 20) (λ_ _=>0)
  case atStart=>exact⟨rfl,rfl⟩
  case round=>
   obtain⟨rfl,rfl⟩:=hrel
   go_wp2_with (go_at_call 130;refine H.out.mono ?_;rintro e w3⟨⟨v,rfl⟩,a⟩;have f:=eA a;clear a)
   go_loop [6] (λv=>v=fB ip 20) (λ_=>0)
   case atStart=>rfl
   case round=>
    subst hrel;go_wp2
    go_end0
    exact⟨⟨_,rfl⟩,f.out⟩)
 have j:Hid (ag PL 102 #[fP b n c,f9 (jD 72) #[] #[]] w λe w'=>(∃v,e=jp v)/\kV w' base (fP b n c) (yd aav L)/\Below base w w'):=eA (by
  go_enter (fx ao Tryz.func102),Tryz.ntmps102
  go_wp2_with (go_at_call 121;refine i.out.mono ?_;rintro e w'⟨⟨v,rfl⟩,a⟩;have f:=eA a;clear a)
  go_end0
  exact⟨⟨_,rfl⟩,f.out⟩)
 go_enter (fx ao Tryz.func71),Tryz.ntmps71
 go_wp2_with (go_at_call 102;refine j.out.mono ?_;rintro e w'⟨⟨v,rfl⟩,a⟩;have f:=eA a;clear a)
 go_ret;exact⟨rfl,f.out⟩
def abV(C:CD)(L:List Int)(hL:L.length=75)(h4:C.n4<=5)(h5:C.n5<=3)(w:ac)(h:C.At w)
 (HT:∀W,C.At W->ag PL 45 #[f6 C.val] W λe w'=>∃k,e=jp (f8 (some ⟨k,0,none⟩))/\Row w' k (L.map bh)/\bA W w') :
 ag PL 47 #[f6 C.val] w λe w'=>∃v,e=jp v/\kV w' w.heap.size v (ao3 L C.n4 C.n5)/\bA w w':=by
 have HA:=eA h;have HTT:=eA HT;have HLL:=eA hL;have K0:Hid (KT C w (w.alloc (fp C.val 91))):=eA ⟨au _ _,(eu _ _).alloc (ch _) _⟩;clear h HT hL;go_enter (fx ao Tryz.func47),Tryz.ntmps47
 go_upto_region 1 with fail
 obtain⟨W0,kS⟩:=br (w.alloc (fp C.val 91));rw[<-kS]at K0 ⊢;clear kS;obtain⟨r,s,t,y,f4,z⟩:=bf K0.out.box
 go_wp2_with (go_at_call 45;refine(HTT.out _ (HA.out.below K0.out.low)).mono ?_;rintro e w2⟨k,rfl,hR,qA⟩;have k2:=K0.out.on qA;clear qA r s t y f4 z;have K2:Hid (KR C w k L w2.heap.size w2):=eA (KR.mk (ch _) hR.1 (eD k2.box) k2.box hR k2.low);clear k2 hR;obtain⟨r,s,t,y,f4,z⟩:=bf K2.out.box)
 go_loopw [4,19] (λv4 O wr=>∃a:Nat,a<=C.n5/\O=fB ip a/\kV wr w2.heap.size v4 (abf L C.n4 C.n5 a)/\KR C w k L w2.heap.size wr) (λ_ O _=>C.n5-(intOf O).toNat)
 case atStart=>exact⟨0,ce _,rfl,⟨rfl,js ⟨rfl,rfl⟩⟩,K2.out⟩
 case round=>
  obtain⟨a,ha,rfl,I,J⟩:=hrel;clear r s t y f4 z;have HO:=eA I;have HK:=eA J;clear I J K2;obtain⟨r,s,t,y,f4,z⟩:=bf HK.out.box;by_cases aH:a<C.n5
  .have i1:(a:Int)<C.n5:=ab;have i3:(a:Int)<3:=ab;clear r s t y f4 z;go_wp2
   go_loopw [4,6] (λv4 v6 wq=>∃b j:Nat,b=a+1+j/\b<=C.n5/\v6=fB ip b/\kV wq w2.heap.size v4 (abf L C.n4 C.n5 a++aaS L C.n4 a j)/\KR C w k L w2.heap.size wq) (λ_ v6 _=>C.n5-(intOf v6).toNat)
   case atStart=>exact⟨a+1,0,rfl,aH,by go_num,by simpa[aaS]using HO.out,HK.out⟩
   case round=>
    obtain⟨b,j,hb,eP,rfl,I,J⟩:=hrel;have A:=eA hb;have hab:a<b:=ab;have P:=eA I;have B:=eA J;clear I J HO HK hb;obtain⟨r,s,t,y,f4,z⟩:=bf B.out.box;by_cases arB:b<C.n5
    .have i2:(b:Int)<C.n5:=ab;have i6:(b:Int)<3:=ab;go_wp2
     go_loopw [4,36] (λv4 Q wp=>∃p:Nat,p<=C.n4/\Q=fB ip p/\kV wp w2.heap.size v4 (abf L C.n4 C.n5 a++aaS L C.n4 a j++abU L a b p)/\KR C w k L w2.heap.size wp) (λ_ Q _=>C.n4-(intOf Q).toNat)
     case atStart=>exact⟨0,ce _,rfl,by simpa[abU]using P.out,B.out⟩
     case round=>
      obtain⟨p,hp,rfl,I,J⟩:=hrel;have HO3:=eA I;have f:=eA J;clear I J P B r s t y f4 z;by_cases ao5:p<C.n4
      .have i4:(p:Int)<C.n4:=ab;have i5:(p:Int)<5:=ab;have cell:∀j,j<75->wr.cell? ⟨k,j,none⟩=some (fB ip (L.getD j 0)):=λj hj=>f.out.row.getD (by rw[HLL.out];exact hj);obtain⟨a0,ea0⟩:=br (L.getD (a*25+p*5) 0);obtain⟨a1,R⟩:=br (L.getD (a*25+p*5+1) 0);obtain⟨a2,S⟩:=br (L.getD (a*25+p*5+2) 0);obtain⟨a3,U⟩:=br (L.getD (a*25+p*5+3) 0);obtain⟨a4,V⟩:=br (L.getD (a*25+p*5+4) 0);obtain⟨b0,eb0⟩:=br (L.getD (b*25+p*5) 0);obtain⟨g,X⟩:=br (L.getD (b*25+p*5+1) 0);obtain⟨E,Y⟩:=br (L.getD (b*25+p*5+2) 0);obtain⟨K,Z⟩:=br (L.getD (b*25+p*5+3) 0);obtain⟨F,eb4⟩:=br (L.getD (b*25+p*5+4) 0)
       have T:Hid (wr.cell? ⟨k,a*25+p*5,none⟩=some (fB ip a0)/\wr.cell? ⟨k,a*25+p*5+1,none⟩=some (fB ip a1)/\wr.cell? ⟨k,a*25+p*5+2,none⟩=some (fB ip a2)/\wr.cell? ⟨k,a*25+p*5+3,none⟩=some (fB ip a3)/\wr.cell? ⟨k,a*25+p*5+4,none⟩=some (fB ip a4)/\
        wr.cell? ⟨k,b*25+p*5,none⟩=some (fB ip b0)/\wr.cell? ⟨k,b*25+p*5+1,none⟩=some (fB ip g)/\wr.cell? ⟨k,b*25+p*5+2,none⟩=some (fB ip E)/\wr.cell? ⟨k,b*25+p*5+3,none⟩=some (fB ip K)/\wr.cell? ⟨k,b*25+p*5+4,none⟩=some (fB ip F)):=eA
        ⟨by rw[ea0];exact cell _ ab,by rw[R];exact cell _ ab,by rw[S];exact cell _ ab,by rw[U];exact cell _ ab,by rw[V];exact cell _ ab,by rw[eb0];exact cell _ ab,by rw[X];exact cell _ ab,by rw[Y];exact cell _ ab,by rw[Z];exact cell _ ab,by rw[eb4];exact cell _ ab⟩
       obtain⟨mt,hmt⟩:=br (ah7 a1 a2 a3 a4 g E K F);have ET:Hid (IU L a b p=(a,(b:Int),(p:Int),mt,max a1 g)):=eA (by rw[IU,hmt,R,S,U,V,X,Y,Z,eb4]);have HMT:=eA hmt;have Ll:=f.out.row.1;clear cell ea0 R S U V eb0 X Y Z eb4 hmt;obtain⟨r,s,t,y,f4,z⟩:=bf f.out.box
       go_upto_region 12 with fail
       clear r s t y f4 z;refine iL 17 14 (λ_ W=>bA wr W) (λW W'=>bA W W') ExT (λ_=>IG wr.heap.size #[fB ip a0,fB ip a1,fB ip a2,fB ip a3,fB ip a4]) neT (λ_ _ _ _ h e=>(h (e.symm.imp And.symm And.symm)).symm) rfl ae ae rfl
        (λ_ i vs W W' hle h=>h.le hle) (λi o ho vs eX W he aaZ _ h=>⟨λe=>by subst e;rw[<-he];exact h.1 rfl,λe=>by subst e;rw[<-he];exact h.2.1 rfl,λe=>?_⟩) (eu _ _).drew ?_
       .subst e;have e14:vs 14=eX 14:=by
         simp only[gD,ik,il,iU]at ho;subst ho;exact aaZ ⟨14,.data⟩ (cH.2 ⟨ar,rfl⟩)
        rw[<-e14];exact h.2.2 rfl
       iterate 14 (
        apply iK
        case hE=>rfl
        case h=>
         intro vs W _ l hd;obtain⟨t0,t1,t2,t3,t4,t5,t6,t7,t8,t9⟩:=T.out;rw[<-l.cell (p:=⟨k,_,none⟩) Ll]at t0 t1 t2 t3 t4 t5 t6 t7 t8 t9;go_simp;exact⟨rfl,eu _ _⟩
        case hb=>exact H9)
       iterate 2 (
        apply ey
        case hE=>rfl
        case hb=>exact H9
        case h=>
         intro vs W D _ _ l _ hi _ hd hP;go_simp
         exact⟨l.alloc l.size _,Sl l.size ar hd⟩)
       apply ey
       case hE=>rfl
       case hb=>exact H9
       case h=>
        intro vs W D _ _ l jw hi _ hd hP;have m14:14∈D:=jw ⟨14,.data⟩ (cH.2 ⟨ar,rfl⟩);have m15:15∈D:=jw ⟨15,.phase⟩ (cH.2 ⟨ar,rfl⟩);obtain⟨ka,H,hla,alY,x0,x1,x2,x3,x4,M⟩:=(hd 14 m14 rfl).1 rfl;obtain⟨n,NZ,Tg,ab0,iC⟩:=(hd 15 m15 rfl).2.1 rfl;have bu:n≠ka:=λe=>hP 14 m14 15 m15 ao rfl rfl (js ⟨rfl,rfl⟩) (by rw[H,NZ,e]);have fz:=tO M;rw[H];obtain⟨y0,y1,y2,y3,y4⟩:=qO M;go_simp;refine⟨Below.ag3 l hla _ _ _ _ _,λj hj hE=>?_,⟨bp,bp,λ_=>⟨ka,by simp[upd,H],tD M⟩⟩,λj _ _ e=>ab⟩;refine⟨λe=>⟨ka,H,hla,by simpa using alY,_,_,_,_,_,tD M⟩,λe=>⟨n,NZ,Tg,by simpa using ab0,(gh bu).trans iC⟩,λe=>⟨ka,H,tD M⟩⟩
       refine nv λvs W _ _ l hd hX=>?_;obtain⟨ka,H,M⟩:=(hd 16 ab rfl).2.2 rfl;obtain⟨n,NZ,Tg,ab0,iC⟩:=(hd 15 ab rfl).2.1 rfl;have bu:ka≠n:=λe=>hX 14 15 ab ab ab rfl rfl (js ⟨rfl,rfl⟩) (by rw[H,NZ,e]);have NE:=eA bu;have HBA:=eA M;have wC:=eA iC;have HC:=eA l;have HLB:=eA Tg;obtain⟨y0,y1,y2,y3,y4⟩:=qO iC;have fz:=tO iC;rw[H,NZ];clear M iC l hd hX H NZ bu Tg
       go_upto_region 13 with fail
       obtain⟨W2,vp⟩:=br (((((W.setCell ⟨n,0,none⟩ (fB ip b0)).setCell ⟨n,1,none⟩ (fB ip g)).setCell ⟨n,2,none⟩ (fB ip E)).setCell ⟨n,3,none⟩ (fB ip K)).setCell ⟨n,4,none⟩ (fB ip F));have BA:Hid (W2.heap[ka]?=some (fp #[fB ip a0,fB ip a1,fB ip a2,fB ip a3,fB ip a4] 72)):=eA (by rw[vp];exact(gh NE.out).trans HBA.out);have BB:Hid (W2.heap[n]?=some (fp #[fB ip b0,fB ip g,fB ip E,fB ip K,fB ip F] 72)):=eA (by rw[vp];exact tD wC.out);have HB:Hid (bA wr W2):=eA (by rw[vp];exact Below.ag3 HC.out HLB.out _ _ _ _ _);rw[<-vp];clear vp y0 y1 y2 y3 y4 fz HBA wC HC HLB NE;clear T Ll
       go_cut [10] from 37 to 111 (fun(v10:ad)(wx:ac)=>v10=fB ip mt/\wx=W2)
       case first=>
        obtain⟨z0,z1,z2,z3,z4⟩:=qO BA.out;obtain⟨y0,y1,y2,y3,y4⟩:=qO BB.out;have la:=eD BA.out;have lb:=eD BB.out;have s1:(a1<F/\g<a4)\/(a1<F/\¬g<a4)\/¬a1<F:=ab;have s2:(a3<=E)\/(¬a3<=E/\K<=a2)\/(¬a3<=E/\¬K<=a2):=ab
        rcases s1 with⟨e1,e2⟩|⟨e1,e2⟩|e1<;>rcases s2 with e3|⟨e3,e4⟩|⟨e3,e4⟩
        all_goals (
         go_wp2_with (go_at_call 39;refine(yH _ _ _).mono ?_;rintro e w'⟨rfl,rfl⟩)
         go_meet
         case rel=>
          refine⟨?_,rfl⟩;rw[HMT.out,ah7]
          first|rw[show(decide (a1<F)&&decide (g<a4))=true by simp;omega]|rw[show(decide (a1<F)&&decide (g<a4))=false by simp;omega]
          first|rw[show(decide (a3<=E)||decide (K<=a2))=true by simp;omega]|rw[show(decide (a3<=E)||decide (K<=a2))=false by simp;omega])
       case rest=>
        obtain⟨rfl,rfl⟩:=hcut;obtain⟨z0,z1,z2,z3,z4⟩:=qO BA.out;obtain⟨y0,y1,y2,y3,y4⟩:=qO BB.out;have la:=eD BA.out;have lb:=eD BB.out;have q1:=Rw;have q2:=Kv;have O2:=eA (HO3.out.on HB.out);have K2:=eA (f.out.on HB.out)
        go_upto_region 16 with fail
        obtain⟨mx,hmx⟩:∃m,max a1 g=m:=⟨_,rfl⟩
        rw[hmx];have HMX:Hid (IU L a b p=(a,(b:Int),(p:Int),mt,mx)):=eA (by rw[ET.out,hmx]);clear hmx z0 z1 z2 z3 z4 y0 y1 y2 y3 y4 la lb;obtain⟨N,Sn⟩:=br ((wc.alloc (fp #[fB ip a,fB ip b,fB ip p,fB ip mt,fB ip mx] 76)).alloc (fp #[fB ip a,fB ip b,fB ip p,fB ip 2,fB ip mx] 76));have r1:N.heap[wc.heap.size]?=some (fp #[fB ip a,fB ip b,fB ip p,fB ip mt,fB ip mx] 76):=by rw[Sn];exact(((eu _ (wc.alloc _)).alloc (ch _) _).block _ ar).trans (au wc _)
        have r2:N.heap[wc.heap.size+1]?=some (fp #[fB ip a,fB ip b,fB ip p,fB ip 2,fB ip mx] 76):=by
         have h:=au (wc.alloc (fp #[fB ip a,fB ip b,fB ip p,fB ip mt,fB ip mx] 76)) (fp #[fB ip a,fB ip b,fB ip p,fB ip 2,fB ip mx] 76);rw[eQ]at h;rw[Sn];exact h
        have O4:=eA (show kV N w2.heap.size u4 _ by rw[Sn];exact(O2.out.alloc _).alloc _);have K4:Hid (KR C w k L w2.heap.size N):=eA (by rw[Sn];exact(K2.out.alloc _).alloc _);rw[<-Sn];clear Sn;have z1:=eD r1;have z2:=eD r2;obtain⟨c0,c1,c2,c3,c4⟩:=qO r1;obtain⟨d0,d1,d2,d3,d4⟩:=qO r2;clear r1 r2;by_cases hm2:mt=2
        .subst hm2;go_wp2;exact⟨⟨p+1,ao5,by go_num,by rw[abU,if_pos (by rw[HMX.out]),ii];exact O4.out,K4.out⟩,by simp only[intOf];omega⟩
        .obtain⟨i0,hi,mF,dx,wD⟩:=bj aaX;have NB:=eA K4.out.pK;have Tl:(abf L C.n4 C.n5 a++aaS L C.n4 a j++abU L a b p).length<=80:=by
          have:=ah8 L h4 h5 a;have:=xu L h4 a j;have:=acg L a b p;have:=A.out;simp only[gt];omega
         have HLN:=eA Tl;clear Tl
         go_wp2_with (at_builtin;refine bm _ rfl _ _ _ rfl w2.heap.size 76 i0 _ 5 40 ag2 hi mF dx wD rfl ao u4 _ _ rfl (O4.out.alloc _) ⟨N.heap.size,0,none⟩ 1 1 (vV (a,(b:Int),(p:Int),mt,mx)) rfl rfl (Sm (x:=(a,(b:Int),(p:Int),mt,mx)) (au N _)) (by simp[vV,fR]) (by have:=HLN.out;simp only[bq];omega) (by have:=HLN.out;omega) (by have:=NB.out;simp;omega) ?_;intro v' w4 h1 h2 _;have H1:=eA h1;have H2:=eA h2;clear h1 h2)
         have bu:=cZ O4.out;have d:=K4.out.alloc (fp #[fB ip a,fB ip b,fB ip p,fB ip mt,fB ip mx] 76);have hg:=(eu w2.heap.size _).grown H2.out d.pK bu;refine⟨⟨p+1,ao5,by go_num,?_,ct d.pK H2.out.size,d.kl,d.bl,(hg.block _ d.bl).trans d.box,⟨b9 d.row.1 H2.out.size,λj u e=>(hg.cell (p:=⟨k,j,none⟩) d.kl).trans (d.row.2 j u e)⟩,d.low.grown H2.out d.low.size λq e=>ct (dq d.bl) (bu q e)⟩,by simp only[intOf];omega⟩;rw[abU,if_neg (by rw[HMX.out];exact hm2),HMX.out,<-gG];unfold kV;rw[gt,ih];simpa using H1.out
      .obtain rfl:p=C.n4:=ab;go_wp2;exact⟨⟨b+1,j+1,by rw[A.out];rfl,arB,by go_num,by rw[aaS,<-A.out,<-gG];exact HO3.out,f.out⟩,by simp only[intOf];omega⟩
    .have hbn:b=C.n5:=ab;have i2:¬((b:Int)<C.n5):=ab;go_wp2;exact⟨⟨a+1,aH,by go_num,by rw[abf,show C.n5-(a+1)=j by have:=A.out;omega];exact P.out,B.out⟩,by simp only[intOf];omega⟩
  .obtain rfl:a=C.n5:=ab;obtain⟨b,c,rfl⟩:=vB HO.out;have hm:=ah9 L h4 h5
   go_wp2_with (go_at_call 71;refine(aen _ _ HO.out ab).mono ?_;rintro e w3⟨rfl,hO3,qi⟩)
   go_ret;exact⟨_,rfl,dJ hO3 (dq HK.out.bl),HK.out.low.trans (qi.mono (dq HK.out.bl))⟩
def Cv(d:Int)(p:Nat):List nR:=if d=1/\p=3 then[(0,1,2,0,13)] else[]
def alS{d:Int}(hd:d=0\/d=1):ao3 (mC d) 3 2=Cv d 3:=by
 rcases hd with rfl|rfl<;>decide +kernel
def vC(C:CD)(d:Int)(hd:d=0\/d=1)(a:C.n4=3)(b:C.n5=2)(w:ac)(h:C.At w)
 (c:∀W,C.At W->ag PL 45 #[f6 C.val] W λe w'=>∃k,e=jp (f8 (some ⟨k,0,none⟩))/\Row w' k ((mC d).map bh)/\bA W w') :
 ag PL 47 #[f6 C.val] w λe w'=>∃v,e=jp v/\kV w' w.heap.size v (Cv d 3)/\bA w w':=by
 have:=abV C (mC d) (by rcases hd with rfl|rfl<;>rfl) ab ab w h c;rwa[a,b,alS hd]at this
end Go.Proofs
