/- Part of the proof of FieldTroubles. -/
import Derived.Test.YtoflngejgedgbaaGreatU03
import Derived.Shelf.SlSortCmp.InsertionK
set_option linter.all false
open Go renaming Value->ac,World->ad,Addr->ag,Oper->ai,Exit->aI,Operand->aJ,wpList->aP,wpList_plain->aT,execOp->bi,Calls->bj,bodyPost_ret->bm,results->bq,TypeId->bv,info_parts->bC,wpList_append_own->b8,maxLen->b9,wp_region_noPanic->ce,resolve->cf,callsIn_wide->ch,callsIn_of_wp_marks->ci,run_takeDeferred->co,grownBy_putObj'->cq,MapEntry->ct,underlying->cv
open Go.Instr renaming field->c8,build->c9,findNow->db,lookup->dc,mapUpdate->dL
open Option renaming some->dO,none->dQ
open Bool renaming false->dU,true->d8
open Go.World renaming cell?->d9,setRow->ea,alloc->eb,ownsRow->ek,setCell->em,size_alloc->ep,putObj->eq,grownBy_alloc->eA,putObj_heap_same->eD,putObj_heap_other->eE
open Go.IntKind renaming wrap->eN,i64->fm
open Go.Value renaming int->fA,oneCell'->fB,ownBlock->fJ,agg->fR,slice->f6,bool->f7,string->f8,pointer->f9,tuple->gc,func->ge,nilFunc->gj,map->gp
open Array renaming getElem?_eq_getElem->gt,setIfInBounds->gy,getElem?_setIfInBounds_ne->gL,mem_filter->g7
open Go.Result renaming andThen_ok->g8,andThen->g9,ok->hG
open List renaming getElem?_append_right->hH,range->hV,ext_getElem?->h6,getElem?_range->h8,getElem?_eq_none->ii,map_append->io,range_succ->ip,flatMap_cons->ix,length->iP,take_succ_cons->i9,take_zero->jf,drop_succ_cons->jk,drop_zero->jn,foldl->jp,map_congr_left->jr,sum_cons->jt,find?_cons->jz,mem_mapIdx->jH,mem_of_find?_eq_some->j4
open Go.Lib renaming hid->j5
open Go.RowKit.Below renaming refl->j6
open Go.Proofs renaming getElem?_lt'->kc
open Nat renaming lt_or_ge->kd,mul_comm->ke,mod_lt->kf,mul_add_div->ks,div_eq_of_lt->kG,reduceAdd->kY,reduceSub->k6
open Go.Program renaming underlying->k7
open Go.World.ownsRow renaming alloc->k8,lt->k9,cells->ld
open Go.Addr renaming add->li
open Go.Proofs.Tryz renaming func40->lm,ntmps40->lp,func78->lq,ntmps78->lA,func79->lL,ntmps79->lM,func80->lR,ntmps80->lS,func81->lT,ntmps81->lW,func136->mc,func84->mm,func66->mn,func38->m8,ntmps38->m9,results11->nb
open Go.Proofs.Below renaming on->nt,zQ->nV
open And renaming intro->n6,symm->ob
open Go.Obj renaming cells->ol,deferred->ov,loop->ow,map->o1,mapIter->o6
open Go.KeepsOthers renaming alloc->pg,of_grownBy->ph,setCell->pi
open Go.Value.slice renaming inj->pk
open Int renaming le_refl->pm,add_zero->pp
open Go.IntWalk renaming i64_in->pu,wrap64_in->pv
open Go.MapKept renaming run_getObj_map->pz
open Go.aU renaming of_heap->qq
open Go.Ending renaming returned->qr
open Go.TypeDesc renaming slice->qt
open Or renaming inl->qu,inr->qx
open Go.Fn renaming yield->qF,func->qG
open Go.Ground renaming data->qN
set_option maxHeartbeats 4000000
set_option maxRecDepth 100000
namespace Go.Proofs
open Go.RowKit
variable {Y:ad}{O q:Nat}{M:List ac}{L:ac}{R:Option ag}{J:Nat->List ac}
def E7(a0 a1 a2 a3 a4 a:ac)(W:ad):(c8 78 (fR #[a0,a1,a2,a3,a4,a]) 0).run PL W=hG (fR #[a0,a1,a2,a3,a4,a]) W:=ae
def Ky(a0 a1 a2 a3 a4 a:ac)(W:ad):(c8 27 (fR #[a0,a1,a2,a3,a4,a]) 0).run PL W=hG (a0) W:=ae
def Kz(a0 a1 a2 a3 a4 a:ac)(W:ad):(c8 27 (fR #[a0,a1,a2,a3,a4,a]) 1).run PL W=hG (a1) W:=ae
def KC(a0 a1 a2 a3 a4 a:ac)(W:ad):(c8 27 (fR #[a0,a1,a2,a3,a4,a]) 2).run PL W=hG (a2) W:=ae
def KF(a0 a1 a2 a3 a4 a:ac)(W:ad):(c8 27 (fR #[a0,a1,a2,a3,a4,a]) 3).run PL W=hG (a3) W:=ae
def KG(a0 a1 a2 a3 a4 a:ac)(W:ad):(c8 27 (fR #[a0,a1,a2,a3,a4,a]) 4).run PL W=hG (a4) W:=ae
def KH(a0 a1 a2 a3 a4 a:ac)(W:ad):(c8 27 (fR #[a0,a1,a2,a3,a4,a]) 5).run PL W=hG (a) W:=ae
def KL(a0 a1 a2 a3 a4 a b c d e f g:ac)(W:ad):(c8 49 (fR #[a0,a1,a2,a3,a4,a,b,c,d,e,f,g]) 0).run PL W=hG (a0) W:=ae
def KM(a0 a1 a2 a3 a4 a b c d e f g:ac)(W:ad):(c8 49 (fR #[a0,a1,a2,a3,a4,a,b,c,d,e,f,g]) 1).run PL W=hG (fR #[a1,a2]) W:=ae
def KN(a0 a1 a2 a3 a4 a b c d e f g:ac)(W:ad):(c8 49 (fR #[a0,a1,a2,a3,a4,a,b,c,d,e,f,g]) 2).run PL W=hG (fR #[a3,a4]) W:=ae
def KS(a0 a1 a2 a3 a4 a b c d e f g:ac)(W:ad):(c8 49 (fR #[a0,a1,a2,a3,a4,a,b,c,d,e,f,g]) 3).run PL W=hG (a) W:=ae
def KU(a0 a1 a2 a3 a4 b a c d e f g:ac)(W:ad):(c8 49 (fR #[a0,a1,a2,a3,a4,b,a,c,d,e,f,g]) 4).run PL W=hG (a) W:=ae
def KV(a0 a1 a2 a3 a4 c d a b e f g:ac)(W:ad):(c8 49 (fR #[a0,a1,a2,a3,a4,c,d,a,b,e,f,g]) 5).run PL W=hG (fR #[a,b]) W:=ae
def KW(a0 a1 a2 a3 a4 c d e f a b g:ac)(W:ad):(c8 49 (fR #[a0,a1,a2,a3,a4,c,d,e,f,a,b,g]) 6).run PL W=hG (fR #[a,b]) W:=ae
def KX(a0 a1 a2 a3 a4 b c d e f g a:ac)(W:ad):(c8 49 (fR #[a0,a1,a2,a3,a4,b,c,d,e,f,g,a]) 7).run PL W=hG (a) W:=ae
def KY(a0 a1 a2:ac)(W:ad):(c8 51 (fR #[a0,a1,a2]) 0).run PL W=hG (a0) W:=ae
def KZ(a0 a1 a2:ac)(W:ad):(c8 51 (fR #[a0,a1,a2]) 1).run PL W=hG (a1) W:=ae
def La(a0 a1 a2:ac)(W:ad):(c8 51 (fR #[a0,a1,a2]) 2).run PL W=hG (a2) W:=ae
def Lb(a0 a1:ac)(W:ad):(c8 30 (fR #[a0,a1]) 0).run PL W=hG (a0) W:=ae
def Lc(a0 a1:ac)(W:ad):(c8 30 (fR #[a0,a1]) 1).run PL W=hG (a1) W:=ae
def Xw(a:ag)(n c:Nat)(W:ad):(binOp .eql 24 (f6 (dO a) n c) (f6 dQ 0 0)).run PL W=hG (f7 dU) W:=ae
def Xx(a:ag)(n c:Nat)(W:ad):(binOp .eql 25 (f6 (dO a) n c) (f6 dQ 0 0)).run PL W=hG (f7 dU) W:=ae
def arl(a b:Int)(W:ad):(c9 30 #[(0,fA fm a),(1,fA fm b)]).run PL W=hG (fR #[fA fm a,fA fm b]) W:=ae
def arn(p a b c d:Int)(W:ad):(c9 73 #[(0,fA fm p),(1,fR #[fA fm a,fA fm b]),(2,fR #[fA fm c,fA fm d])]).run PL W=hG (fR #[fA fm p,fA fm a,fA fm b,fA fm c,fA fm d]) W:=ae
def E8:nS.ntmps=98:=rfl
def h_.In.below{T:h_}{w w':ad}(h:T.In w)(a:bL w w'):T.In w':=
 ⟨h.lo,bT h.h4 a.z,λc=>⟨(h.h5 c).1,bT (h.h5 c).2 a.z⟩,h.st,λi hi j b=>(a.c (p:=⟨T.k4,_,dQ⟩) h.h4).t (h.c4 i hi j b),λk d j b=>(a.c (p:=⟨T.k5,_,dQ⟩) (h.h5 ab).2).t (h.c5 k d j b)⟩
def h_.In.am2{T:h_}(h:T.In Y)(hi:q<T.np):d9 Y ⟨T.k4,T.o4+q*12,dQ⟩=dO (f8 (T.nm q))/\d9 Y ⟨T.k4,T.o4+q*12+1,dQ⟩=dO (fA fm (T.pn q 1))/\d9 Y ⟨T.k4,T.o4+q*12+2,dQ⟩=dO (fA fm (T.pn q 2))/\d9 Y ⟨T.k4,T.o4+q*12+3,dQ⟩=dO (fA fm (T.pn q 3))/\d9 Y ⟨T.k4,T.o4+q*12+4,dQ⟩=dO (fA fm (T.pn q 4))/\d9 Y ⟨T.k4,T.o4+q*12+5,dQ⟩=dO (fA fm (T.pn q 5))/\d9 Y ⟨T.k4,T.o4+q*12+6,dQ⟩=dO (fA fm (T.pn q 6))/\
 d9 Y ⟨T.k4,T.o4+q*12+7,dQ⟩=dO (fA fm (T.pn q 7))/\d9 Y ⟨T.k4,T.o4+q*12+8,dQ⟩=dO (fA fm (T.pn q 8))/\d9 Y ⟨T.k4,T.o4+q*12+9,dQ⟩=dO (fA fm (T.pn q 9))/\d9 Y ⟨T.k4,T.o4+q*12+10,dQ⟩=dO (fA fm (T.pn q 10))/\d9 Y ⟨T.k4,T.o4+q*12+11,dQ⟩=dO (f6 (T.lb q) (T.ll q) (T.lc q)):=
 ⟨h.c4 q hi 0 ab,h.c4 q hi 1 ab,h.c4 q hi 2 ab,h.c4 q hi 3 ab,h.c4 q hi 4 ab,h.c4 q hi 5 ab,h.c4 q hi 6 ab,h.c4 q hi 7 ab,h.c4 q hi 8 ab,h.c4 q hi 9 ab,h.c4 q hi 10 ab,h.c4 q hi 11 ab⟩
def h_.In.am3{T:h_}(h:T.In Y)(a:q<T.n):d9 Y ⟨T.k5,T.o5+q*3,dQ⟩=dO (f8 (T.gn q))/\d9 Y ⟨T.k5,T.o5+q*3+1,dQ⟩=dO (fA fm (T.S q:Int))/\d9 Y ⟨T.k5,T.o5+q*3+2,dQ⟩=dO (fA fm (T.dl q)):=
 ⟨h.c5 q a 0 ab,h.c5 q a 1 ab,h.c5 q a 2 ab⟩
def abr(x:Int):wrap64 x=eN fm x:=(IntWalk.i64_left x).y
def anr(h:q<75):(Array.replicate 75 (fA fm 0))[q]?=dO (fA fm 0):=by
 rw[gt (by simpa using h)];simp
def acv{ops:Array ai}{rest:List ai}{o:ai}{a:Act}{Q:aI->Act->ad->Prop}(r:o.guard=dQ)(X w:aJ)(s:o.op=.store 73 X w)(base b off:Nat)(cur c:Array ac)(m:a.eval X=f9 (dO ⟨b,off,dQ⟩))(hy:a.eval w=fR c)
 (hb:Y.heap[b]?=dO (ol cur 138)) (d:c.size=5) (hl:off+5<=cur.size) (t:∀v∈c,v.oneCell'=d8) (B:base<=b)
 (h:∀f w',w'.heap[b]?=dO (ol f 138)->f.size=cur.size->(∀j,j<5->f[off+j]?=c[j]?)->(∀j,(j<off\/off+5<=j)->f[j]?=cur[j]?)->Below base Y w'->w'.heap.size=Y.heap.size->aP PL ops Q rest (a.put o.dst undef) w'):aP PL ops Q (o::rest) a Y:=by
 refine aT r λK u=>?_;have e:(Tryz.prog.info? 73).map (·.size)=dO 5:=ae;have hc:(Value.agg c).cells=c:=rfl
 cases n:Tryz.prog.info? 73 with
 |none=>rw[n]at e;cases e
 |some i=>
  have y:i.size=5:=by rw[n]at e;exact mj e
  have z:=run_storeCells_at PL b off 138 c.toList 0 cur Y hb (by simp[d];omega) (λx m=>t x (by simpa using m));obtain⟨f,l⟩:=bs ((cur.toList.take off++c.toList++cur.toList.drop (off+c.size)).toArray);have A:(storeVar 73 ⟨b,off,dQ⟩ (fR c)).run PL Y=hG () (ea Y b f):=by
   rw[l];simp[storeVar,sizeOf,typeInfo,n,y,z,hc,d]
  unfold Oper.wp bi;simp only[s,m,hy,Instr.storeAt,Instr.sureAddr,iB,Sem.run_pure,g8,A];refine u _ _ (h f _ (setRow_heap _ _ _ _ _ _ hb) ?_ (λj g=>?_) (λj g=>?_) ⟨rfl,rfl,rfl,by simp[ea],λk C=>setRow_other _ _ _ _ ab⟩ (by simp[ea]))
  .rw[l];simp[d];omega
  .rw[l];simp only[gw];have p:(cur.toList.take off).length=off:=by simp;omega
   rw[dT,hH ab,p,ej (by simp[d];omega)];simp
  .rw[l];simp only[gw,d];have p:(cur.toList.take off).length=off:=by simp;omega
   rcases g with g|g
   .rw[dT,ej ab,pw,if_pos g];simp
   .rw[dT,hH ab,p,hH (by simp[d];omega)];simp only[List.getElem?_drop,qh,d];have:off+5+(j-off-5)=j:=ab;rw[this];simp
def al5(T:h_)(w:ad)(h:T.In w)(uB:∀i,i<T.np->(T.nm i).size<=1000)(B:∀k,k<T.n->(T.gn k).size<=1000):bj PL 61 #[fR T.arr] w λe w'=>∃k cs,e=qr (f9 (dO ⟨k,0,dQ⟩))/\w'.heap[k]?=dO (ol cs 138)/\s7 T.pn T.np T.S T.dl T.n 0 cs/\bL w w':=by
 have d:=j5 h;have M:=j5 uB;have N:=j5 B;clear uB B;obtain⟨l2,l5,l3⟩:=h.lo;clear h;have i2:(2:Int)<=T.np:=ab;have i5:(T.np:Int)<=5:=ab;have i3:(T.n:Int)<=3:=ab;obtain⟨J,O⟩:=bs T.b5;have wC:=j5 O;simp only[h_.arr];rw[<-O];clear O;go_enter Cc,E8;simp only[nS,sU,agG,afw,agE,aoj,aok,am0,agF,ar1,aol,opsL,anf,aiD,aom,ar2,aD];have q0:=E7;have q1:=Ky;have q2:=Kz;have q3:=KC;have q4:=KF;have q5:=KG;have q6:=KH;have q7:=KL;have q8:=KM;have q9:=KN;have q10:=KS;have q11:=KU;have q12:=KV;have q13:=KW;have q14:=KX;have q15:=KY;have q16:=KZ;have q17:=La;have q18:=Lb;have q19:=Lc;have q25:=Xw;have q26:=Xx;have q27:=arl;have q28:=arn;go_wp2
 go_loopw [20] (λl wr=>∃q:Nat,q<=T.np/\l=fA fm q/\w=wr) (λl _=>T.np-(intOf l).toNat)
 case atStart=>exact⟨0,eF _,rfl,rfl⟩
 case round=>
  obtain⟨q,hq,rfl,rfl⟩:=hrel;by_cases a:q<T.np
  .have i4:(q:Int)<T.np:=ab;obtain⟨a0,a1,a2,a3,a4,a5,a6,a7,a8,a9,zm,zM⟩:=d.o.am2 a;have hz:=M.o q a;go_wp2;refine⟨⟨q+1,a,by go_num,trivial⟩,by simp only[intOf];omega⟩
  .obtain rfl:q=T.np:=ab;go_wp2
   go_loopw [21] (λm wr=>∃q:Nat,q<=T.n/\m=fA fm q/\w=wr) (λm _=>T.n-(intOf m).toNat)
   case atStart=>exact⟨0,eF _,rfl,rfl⟩
   case round=>
    obtain⟨q,hq,rfl,rfl⟩:=hrel;by_cases a:q<T.n
    .have i4:(q:Int)<T.n:=ab;obtain rfl:J=_:=wC.o.t (d.o.h5 ab).1;obtain⟨a0,a1,a2⟩:=d.o.am3 a;have hz:=N.o q a;have vL:(T.S q:Int)<T.np:=by have:=d.o.st q a;omega
     have hs0:(0:Int)<=T.S q:=ab;go_wp2;refine⟨⟨q+1,a,by go_num,trivial⟩,by simp only[intOf];omega⟩
    .obtain rfl:q=T.n:=ab;go_wp2
     go_loopw [67] (λs wr=>∃g:Nat,g<=T.n/\s=fA fm g/\∃cs,wr.heap[w.heap.size]?=dO (ol cs 138)/\s7 T.pn T.np T.S T.dl g 0 cs/\bL w wr) (λs _=>T.n-(intOf s).toNat)
     case atStart=>exact⟨0,eF _,rfl,_,au _ _,s7.zero rfl (λo K=>anr K),(j6 _ _).a (dk _) _⟩
     case round=>
      obtain⟨g,hg,rfl,cs,hcs,C,P⟩:=hrel;have D:=j5 hcs;have E:=j5 C;have Q:=j5 P;have hTB:=P.z;have B4:=kc hcs;clear hcs C P;by_cases a:g<T.n
      .have i6:(g:Int)<T.n:=ab;have i7:(g:Int)<3:=ab;obtain⟨e5,hk5⟩:=d.o.h5 ab;obtain rfl:J=_:=wC.o.t e5;clear e5;obtain⟨a0,a1,a2⟩:=(d.o.below Q.o).am3 a;go_wp2;have aF:=d.o.st g a;obtain⟨Wg,rfl⟩:=bs wr
       go_loopw [71,72,73,74] (λR U V t wr=>∃r:Nat,r<=T.np/\R=fA fm ((G0 T.np (T.S g) r:Nat):Int)/\U=fA fm (cmV T.pn T.np (T.S g) (T.dl g) r).1/\V=fA fm (cmV T.pn T.np (T.S g) (T.dl g) r).2/\t=fA fm (r:Int)/\
        ∃cs,wr.heap[w.heap.size]?=dO (ol cs 138)/\s7 T.pn T.np T.S T.dl g r cs/\bL w wr) (λ_ _ _ t _=>T.np-(intOf t).toNat)
       case atStart=>exact⟨0,eF _,by rw[G0,eQ,km aF],rfl,rfl,rfl,cs,D.o,E.o,Q.o⟩
       case round=>
        clear a0 a1 a2;obtain⟨r,hr,rfl,rfl,rfl,rfl,u,x,F,X⟩:=hrel;have H:=j5 x;have b:=j5 F;have Y:=j5 X;have aCp:=X.z;have ajj:=kc x;clear x F X;by_cases I:r<T.np
        .have i8:(r:Int)<T.np:=ab;obtain⟨p,L⟩:=bs (G0 T.np (T.S g) r);obtain⟨c1,Z⟩:=bs ((cmV T.pn T.np (T.S g) (T.dl g) r).1);obtain⟨c2,y⟩:=bs ((cmV T.pn T.np (T.S g) (T.dl g) r).2);have Wf:p<T.np:=by rw[L];exact abq ab
         have j1:(p:Int)<T.np:=ab;have j2:(p:Int)<5:=ab;rw[<-L,<-Z,<-y];have f:=j5 L;have z:=j5 Z;have A:=j5 y;clear L Z y;obtain⟨a0,a1,a2,a3,a4,a5,a6,a7,a8,a9,zm,zM⟩:=(d.o.below Y.o).am2 Wf;have avp:g*25+p*5+5<=u.size:=by have:=b.o.size;omega
         by_cases hw:p+1=T.np
         all_goals
          go_wp2_with (refine acv rfl (.tmp 90) (.tmp 88) rfl w.heap.size w.heap.size (g*25+p*5) u _ rfl rfl H.o rfl avp (by intro v hv;simp only[ko,dp,eW,or_false]at hv;rcases hv with rfl|rfl|rfl|rfl|rfl<;>rfl) (dk _) ?_;intro cs3 w3 g1 g2 g3 g4 g5 g6)
          refine⟨⟨r+1,I,?_,?_,?_,by go_num,cs3,g1,b.o.next I l5 (g2.t b.o.size) (λj hj=>?_) (λo K=>?_),Y.o.t g5⟩,by simp only[intOf];omega⟩
          .rw[abQ ab,<-f.o]
           first|(rw[if_pos hw];rfl)|(rw[if_neg hw];rfl)|(rw[if_neg hw];go_num)
          .rw[cmV,<-z.o,<-f.o,abr,abr]
          .rw[cmV,<-A.o,<-f.o,abr,abr]
          .rw[<-f.o,g3 j hj];obtain rfl|rfl|rfl|rfl|rfl:j=0\/j=1\/j=2\/j=3\/j=4:=ab
           .simp only[vsV,<-f.o];rfl
           .simp only[vsV,<-z.o];rfl
           .simp only[vsV,<-A.o];rfl
           .simp only[vsV,<-z.o,<-f.o,<-abr];rfl
           .simp only[vsV,<-A.o,<-f.o,<-abr];rfl
          .rw[<-f.o]at K;exact g4 o K
        .obtain rfl:r=T.np:=ab;go_wp2;exact⟨⟨g+1,a,by go_num,u,H.o,b.o.done,Y.o⟩,by simp only[intOf];omega⟩
      .obtain rfl:g=T.n:=ab;go_wp2;refine bm (v:=f9 (dO ⟨w.heap.size,0,dQ⟩)) ?_ rfl ⟨w.heap.size,cs,rfl,D.o,E.o,Q.o⟩;simp[bq,Tryz.results61,go_sem]
def afT{n a b:Int}:bO n a b=d8↔a<=n/\n<=b:=by simp[bO]
def FT{C:CD}(hc:C.cx=0):2<=C.n4/\C.n4<=5:=by
 have a:kA C.p C.n2 C.n3 C.n4 C.x4=0:=ck hc 3 ab;unfold kA at a;split at a
 case isFalse=>cases a
 rename_i hb;have:=afT.1 hb;omega
def j7{C:CD}(hc:C.cx=0):C.n5<=3:=by
 have a:pE C.n4 C.n5 C.x5=0:=ck hc 4 ab;unfold pE at a;split at a
 .cases a
 .omega
def afZ{C:CD}(hc:C.cx=0)(b:q<C.n5):(0<=(C.x5 q).2.1/\(C.x5 q).2.1<C.n4)/\(0<=(C.x5 q).2.2/\(C.x5 q).2.2<=12)/\(∀j,j<q->(C.x5 j).2.1≠(C.x5 q).2.1):=by
 have a:pE C.n4 C.n5 C.x5=0:=ck hc 4 ab;unfold pE at a;split at a
 .cases a
 have hg:=ck a q b;unfold iI at hg;split at hg
 case isFalse h=>exact absurd hg h
 split at hg
 case isFalse=>cases hg
 rename_i hb;split at hg
 .cases hg
 rename_i c;split at hg
 case isFalse=>cases hg
 rename_i hd;have g:=afT.1 hb;have d:=afT.1 hd;refine⟨ab,d,λj f e=>c ?_⟩;simp only[j3,dv];exact⟨j,f,e⟩
def acw{C:CD}(hc:C.cx=0)(hi:q<C.n4):(1<=(C.x4 q).n 7/\(C.x4 q).n 7<=(C.x4 q).n 8/\(C.x4 q).n 8<=60)/\(0<=(C.x4 q).n 9/\(C.x4 q).n 9<=(C.x4 q).n 10/\(C.x4 q).n 10<=60):=by
 have b:kA C.p C.n2 C.n3 C.n4 C.x4=0:=ck hc 3 ab;unfold kA at b;split at b
 case isFalse=>cases b
 have a:=ck b q hi;unfold gM at a;split at a
 case isFalse h=>exact absurd a h
 split at a
 case isFalse=>cases a
 split at a
 .cases a
 split at a
 case isFalse=>cases a
 split at a
 case isFalse=>cases a
 rename_i hb;simp only[eK,dd]at hb;simp[eK]at hb;omega
abbrev CD.S(C:CD)(k:Nat):Nat:=(C.x5 k).2.1.toNat
variable {C:CD}
abbrev CD.pn(C:CD)(i j:Nat):Int:=(C.x4 i).n j
abbrev CD.dl(C:CD)(k:Nat):Int:=(C.x5 k).2.2
def CD.td(C:CD):h_:=
 { l:=C.l,p:=C.p,b2:=C.b2,n2:=C.n2,c2:=C.c2,b3:=C.b3,n3:=C.n3,c3:=C.c3,k4:=C.k4,o4:=C.o4,np:=C.n4,c4:=C.c4,b5:=C.b5,k5:=C.k5,o5:=C.o5,n:=C.n5,c5:=C.c5,
   pn:=C.pn,S:=C.S,dl:=C.dl,nm:=λi=>(C.x4 i).name,gn:=λk=>(C.x5 k).1,lb:=λi=>(C.x4 i).lb,ll:=λi=>(C.x4 i).ln,lc:=λi=>(C.x4 i).lc }
def CD.aoQ(h:C.At Y)(a:0<C.n4):C.td.arr=C.val:=by
 simp only[h_.arr,CD.td,CD.val,h.s4 a]
def CD.art(h:C.At Y)(c:2<=C.n4/\C.n4<=5)(d:C.n5<=3)(hs:∀k,k<C.n5->0<=(C.x5 k).2.1/\(C.x5 k).2.1<C.n4):C.td.In Y:=by
 refine⟨⟨c.1,c.2,d⟩,h.h4,λe=>⟨h.s5 e,h.h5⟩,λk a=>?_,λi hi j b=>?_,λk a j b=>?_⟩
 .have:=hs k a;show(C.x5 k).2.1.toNat<C.n4;omega
 .match j,b with
  |0,_=>exact h.AD i hi
  |11,_=>exact h.nj i hi
  |1,_=>exact h.dB i hi 1 ab ab
  |2,_=>exact h.dB i hi 2 ab ab
  |3,_=>exact h.dB i hi 3 ab ab
  |4,_=>exact h.dB i hi 4 ab ab
  |5,_=>exact h.dB i hi 5 ab ab
  |6,_=>exact h.dB i hi 6 ab ab
  |7,_=>exact h.dB i hi 7 ab ab
  |8,_=>exact h.dB i hi 8 ab ab
  |9,_=>exact h.dB i hi 9 ab ab
  |10,_=>exact h.dB i hi 10 ab ab
 .have f:=hs k a
  match j,b with
  |0,_=>exact h.FI k a
  |1,_=>
   refine(h.HU k a).t ?_;show dO (fA fm (C.x5 k).2.1)=dO (fA fm ((C.x5 k).2.1.toNat:Int));rw[Int.toNat_of_nonneg f.1]
  |2,_=>exact h.J6 k a
def al6(a:Nat->Nat->Int)(np:Nat)(S:Nat->Nat)(dl:Nat->Int)(n o:Nat):Int:=
 if o / 25<n/\o % 25 / 5<np then vsV a np (S (o / 25)) (dl (o / 25)) (abe np (S (o / 25)) (o % 25 / 5)) (o % 5) else 0
def agK(a:Nat->Nat->Int)(np:Nat)(S:Nat->Nat)(dl:Nat->Int)(n:Nat):List Int:=(hV 75).map (al6 a np S dl n)
def s7.lit{b:Nat->Nat->Int}{np:Nat}{S:Nat->Nat}{dl:Nat->Int}{cs:Array ac}(h:s7 b np S dl q 0 cs)(i:np<=5)(d:∀k,k<q->S k<np):cs.toList=(agK b np S dl q).map bh:=by
 apply h6;intro o;rw[ib]
 rcases kd o 75 with a|a
 .have e:((agK b np S dl q).map bh)[o]?=dO (bh (al6 b np S dl q o)):=by
   simp only[agK,eT,h8 a,il]
  rw[e];by_cases hc:o / 25<q/\o % 25 / 5<np
  .rw[al6,if_pos hc,<-h.at (k:=o / 25) (p:=o % 25 / 5) (j:=o % 5) hc.1 hc.2 (d _ hc.1) ab,show o / 25*25+o % 25 / 5*5+o % 5=o by omega]
  .rw[al6,if_neg hc];refine h.rest o a λk r c hv=>hc ?_
   have f:k<q/\r<np:=by rcases c with c|c<;>omega
   have:=abq (np:=np) (s:=S k) (r:=r) ab;obtain⟨l,m⟩:=hv;have e1:o / 25=k:=ab;have g:o % 25 / 5=G0 np (S k) r:=ab;rw[e1,g];exact⟨f.1,this⟩
 .rw[Array.getElem?_eq_none (by rw[h.size];exact a),ii (by simp[agK];exact a)]
abbrev CD.tab(C:CD):List Int:=agK C.pn C.n4 C.S C.dl C.n5
def Row.ofl{c:Array ac}{t:bv}(h:Y.heap[q]?=dO (ol c t))(e:c.toList=M):Row Y q M:=Row.of h λj v hv=>by rw[<-e]at hv;simpa using hv
def agL(h:C.At Y)(b:2<=C.n4/\C.n4<=5)(c:C.n5<=3)(hs:∀k,k<C.n5->0<=(C.x5 k).2.1/\(C.x5 k).2.1<C.n4):bj PL 61 #[fR C.val] Y λe w'=>∃k,e=qr (f9 (dO ⟨k,0,dQ⟩))/\Row w' k (C.tab.map bh)/\bL Y w':=by
 rw[<-C.aoQ h ab];refine(al5 C.td Y (CD.art h b c hs) (λi hi=>?_) λk a=>?_).m ?_
 .have:=(h.cu i hi).1;show(C.x4 i).name.size<=1000;omega
 .have:=h.nm5 k a;show(C.x5 k).1.size<=1000;omega
 .rintro e w'⟨k,cs,rfl,d,f,g⟩;refine⟨k,rfl,Row.ofl d ?_,g⟩;refine f.lit b.2 λk a=>?_;have:=hs k a;show(C.x5 k).2.1.toNat<C.n4;omega
def ans(h:C.At Y)(hc:C.cx=0):bj PL 61 #[fR C.val] Y λe w'=>∃k,e=qr (f9 (dO ⟨k,0,dQ⟩))/\Row w' k (C.tab.map bh)/\bL Y w':=
 agL h (FT hc) (j7 hc) λk a=>(afZ hc a).1
def je:List Int:=[0,0,0,4,6,1,6,9,10,14,2,13,17,18,22,0,0,0,0,0,0,0,0,0,0,0,14,17,18,23,1,0,0,4,5,2,7,8,12,13,0,0,0,0,0,0,0,0,0,0,0,0,0,0,0,0,0,0,0,0,0,0,0,0,0,0,0,0,0,0,0,0,0,0,0]
def RJ:List Int:=[0,0,0,4,6,1,6,9,10,14,2,13,17,18,22,0,0,0,0,0,0,0,0,0,0,0,15,18,19,24,1,1,1,5,6,2,8,9,13,14,0,0,0,0,0,0,0,0,0,0,0,0,0,0,0,0,0,0,0,0,0,0,0,0,0,0,0,0,0,0,0,0,0,0,0]
def mC(d:Int):List Int:=if d=0 then je else RJ
def aoR{k3 c3 b c d e f ca lb g:Nat}:(ir q O k3 c3 b c d e f ca lb g 0).tab=je:=ae
def aoS{k3 c3 b c d e f ca lb g:Nat}:(ir q O k3 c3 b c d e f ca lb g 1).tab=RJ:=ae
def avr{k3 c3 b c e f g ca lb h:Nat}{d:Int}:∀k,k<2->0<=((ir q O k3 c3 b c e f g ca lb h d).x5 k).2.1/\((ir q O k3 c3 b c e f g ca lb h d).x5 k).2.1<(3:Nat):=by
 intro k i;obtain rfl|rfl:k=0\/k=1:=ab
 .exact⟨by show(0:Int)<=0;omega,by show(0:Int)<3;omega⟩
 .exact⟨by show(0:Int)<=1;omega,by show(1:Int)<3;omega⟩
def tA{d:Int}(hd:d=0\/d=1)(a:VB d C)(h:C.At Y):bj PL 61 #[fR C.val] Y λe w'=>∃k,e=qr (f9 (dO ⟨k,0,dQ⟩))/\Row w' k ((mC d).map bh)/\bL Y w':=by
 obtain⟨k2,b,k3,c3,c,f,g,i,j,l,lb,m,rfl⟩:=a;have:=agL h ⟨by show 2<=3;omega,by show 3<=5;omega⟩ (by show 2<=3;omega) avr
 rcases hd with rfl|rfl
 .rwa[aoR]at this
 .rwa[aoS]at this
def kU(L:List Int)(p:Nat)(m:Int):Nat->Nat->Bool->Int
 |0,_,can=>Ej can d8
 |k+1,g,can=>if bO m (L.getD (g*25+p*5+2) 0) (L.getD (g*25+p*5+3) 0-1) then 1 else kU L p m k (g+1) (can||bO m (L.getD (g*25+p*5+1) 0) (L.getD (g*25+p*5+4) 0-1))
structure Ir(L:List Int):Prop where
 len:L.length=75
 lo:∀j,-10000<=L.getD j 0
 hi:∀j,L.getD j 0<=10000
def Row.getD{W:ad}{k:Nat}{L:List Int}(h:Row W k (L.map bh)){j:Nat}(a:j<L.length):d9 W ⟨k,j,dQ⟩=dO (fA fm (L.getD j 0)):=
 h.2 j _ (by rw[eT,cC a,et,cC a];rfl)
def Fa(C:CD)(k p:Nat)(m:Int)(L:List Int)(t:Ir L)(w:ad)(u:Row w k (L.map bh))(U:C.n5<=3)(V:p<5) :
 bj PL 62 #[fR C.val,f9 (dO ⟨k,0,dQ⟩),fA fm p,fA fm m] w (aO (fA fm (kU L p m C.n5 0 dU)) w):=by
 have H:=j5 u;have a:=j5 t;clear u t;have I:(p:Int)<5:=ab;go_enter (fx ao Tryz.func62),Tryz.ntmps62;go_wp2;obtain⟨l,n⟩:=bs (eb w (ol C.val 78));have v:l.heap[w.heap.size]?=dO (ol C.val 78):=by rw[n];exact au _ _
 have y:bL w l:=by rw[n];exact(j6 _ _).a (dk _) _
 rw[<-n];clear n;have J:=j5 v;have o:=j5 y;clear v y
 go_loopw [9,16] (λK b wr=>∃(g:Nat)(can:Bool),g<=C.n5/\b=fA fm g/\K=f7 can/\kU L p m C.n5 0 dU=kU L p m (C.n5-g) g can/\wr.heap[w.heap.size]?=dO (ol C.val 78)/\bL w wr) (λ_ b _=>C.n5-(intOf b).toNat)
 case atStart=>exact⟨0,dU,eF _,rfl,rfl,rfl,J.o,o.o⟩
 case round=>
  obtain⟨g,can,hg,rfl,rfl,z,A,i⟩:=hrel;have E:=j5 z;have B:=j5 A;clear z A;by_cases M:g<C.n5
  .have W:(g:Int)<C.n5:=ab;have X:(g:Int)<3:=ab;have c:=H.o.on i;have N:d9 wr ⟨k,g*25+p*5,dQ⟩=dO (fA fm (L.getD (g*25+p*5) 0)):=c.getD (by rw[a.o.len];omega);have t1:d9 wr ⟨k,g*25+p*5+1,dQ⟩=dO (fA fm (L.getD (g*25+p*5+1) 0)):=c.getD (by rw[a.o.len];omega);have t2:d9 wr ⟨k,g*25+p*5+2,dQ⟩=dO (fA fm (L.getD (g*25+p*5+2) 0)):=c.getD (by rw[a.o.len];omega);have O:d9 wr ⟨k,g*25+p*5+3,dQ⟩=dO (fA fm (L.getD (g*25+p*5+3) 0)):=c.getD (by rw[a.o.len];omega);have P:d9 wr ⟨k,g*25+p*5+4,dQ⟩=dO (fA fm (L.getD (g*25+p*5+4) 0)):=c.getD (by rw[a.o.len];omega);have Q:=a.o.lo (g*25+p*5+3);have q:=a.o.hi (g*25+p*5+3);have R:=a.o.lo (g*25+p*5+4);have r:=a.o.hi (g*25+p*5+4);have S:=c.1;have es:C.n5-g=(C.n5-(g+1))+1:=ab;have T:=j5 es;clear c es;obtain⟨x1,d⟩:=bs (L.getD (g*25+p*5+1) 0);obtain⟨x2,s⟩:=bs (L.getD (g*25+p*5+2) 0);obtain⟨x3,f⟩:=bs (L.getD (g*25+p*5+3) 0);obtain⟨x4,h⟩:=bs (L.getD (g*25+p*5+4) 0);obtain⟨x0,D⟩:=bs (L.getD (g*25+p*5) 0);rw[<-D]at N;rw[<-d]at t1;rw[<-s]at t2;rw[<-f]at O Q q;rw[<-h]at P R r;have F:Hid (kU L p m C.n5 0 dU=if bO m x2 (x3-1) then 1 else kU L p m (C.n5-(g+1)) (g+1) (can||bO m x1 (x4-1))):=j5 (by rw[E.o,T.o,kU,<-d,<-s,<-f,<-h]);clear D d s f h;by_cases hy:bO m x2 (x3-1)=d8
   .have j:=j5 hy;clear hy
    go_wp2_with (go_at_call 52;refine(rM j.o _).m ?_;rintro e w'⟨rfl,rfl⟩)
    go_ret;exact⟨aC (by rw[F.o,if_pos j.o]),i.a i.z _⟩
   .have j:=j5 (aV hy);clear hy E;cases can
    all_goals (
     go_wp2_with (first|(go_at_call 52;(with_reducible refine(yG j.o _).m ?_);rintro e w'⟨rfl,rfl⟩)|(go_at_call 52;refine(ij _ _ _ _).m ?_;rintro e w'⟨rfl,rfl⟩))
     refine⟨⟨g+1,_,M,by go_num,rfl,?_,(((j6 wr.heap.size wr).a (dk _) _).k _ (kc B.o)).t B.o,i.a i.z _⟩,by simp only[intOf];omega⟩;rw[F.o,if_neg (by simp[j.o])]
     rfl)
  .obtain rfl:g=C.n5:=ab;have fin:Hid (kU L p m C.n5 0 dU=Ej can d8):=j5 (by rw[E.o,eM,kU]);clear E
   go_wp2_with (go_at_call 55;refine(yH _ _ _).m ?_;rintro e w'⟨rfl,rfl⟩)
   go_ret;exact⟨aC fin.o,i⟩
def Cs(m:Int)(w:ad):bj PL 60 #[fA fm m] w λe w'=>e=qr (f7 (bO m 0 999))/\w=w':=by
 go_enter (fx ao Tryz.func60),Tryz.ntmps60
 go_wp2_with (go_at_call 52;refine(ij _ _ _ _).m ?_;rintro e w'⟨rfl,rfl⟩)
 go_ret;exact⟨rfl,rfl⟩
def yO{m:Int}(h:bO m 0 999=d8)(w:ad):bj PL 60 #[fA fm m] w λe w'=>e=qr (f7 d8)/\w=w':=by
 have:=Cs m w;rwa[h]at this
def afJ:k7 PL 63=dO (qt 57):=ae
def aaI:(PL.info? 57).map (λi=>(i.zero,i.size,i.bytes))=dO (dO (fA fm 0),1,8):=ae
def eO(e:bv)(W:ad)(base:Nat)(v:ac)(l:List Int):Prop:=ek W base e 1 v l.length (l.map λx=>fA fm x)
def eO.reads{e:bv}{base:Nat}{l:List Int}(h:eO e Y base L l):bB Y L l:=by
 obtain⟨_,h⟩:=h
 rcases h with⟨rfl,a⟩|⟨g,cap,b,rfl,hb,hg,hc,d,hs,c⟩
 .exact⟨dQ,0,by rw[a],λh=>ab⟩
 .refine⟨_,_,rfl,λa=>⟨g,0,rfl,kc hg,λj f=>?_⟩⟩;have e:(l.map λx=>fA fm x)[j]?=dO (fA fm (l.getD j 0)):=by
   rw[eT,cC ab];simp[et,cC (show j<l.length by omega)]
  rw[<-c,e6 ab]at e;simp only[d9,hg,ei];simpa using e
def eO.alloc{e:bv}{base:Nat}{l:List Int}(h:eO e Y base L l)(o:Obj):eO e (eb Y o) base L l:=k8 h o
def eO.on{e:bv}{b:ad}{base:Nat}{l:List Int}(h:eO e Y base L l)(d:bL Y b):eO e b base L l:=by
 obtain⟨c,h⟩:=h
 rcases h with h|⟨g,cap,a,e1,hb,hg,f⟩
 .exact⟨c,qu h⟩
 .exact⟨c,qx ⟨g,cap,a,e1,hb,(d.k _ (kc hg)).t hg,f⟩⟩
def Fb{T e:bv}(f:k7 PL T=dO (qt e))(g:(PL.info? e).map (λi=>(i.zero,i.size,i.bytes))=dO (dO (fA fm 0),1,8)){ops:Array ai}{rest:List ai}{o:ai}{a:Act}{Q:aI->Act->ad->Prop}(m:o.guard=dQ)(s x:aJ)
 (n:o.op=.call { callee:=.builtin .append,args:=#[s,x],argTypes:=#[T,T] }) (base:Nat) (v:ac) (l:List Int) (j:Int) (b:Nat) (hs:a.eval s=v) (c:eO e Y base v l)
 (p:a.eval x=f6 (dO ⟨b,0,dQ⟩) 1 1) (hc:d9 Y ⟨b,0,dQ⟩=dO (fA fm j)) (hl:l.length<=1000) (d:base<=Y.heap.size)
 (h:∀v' w',eO e w' base v' (l++[j])->Below base Y w'->aP PL ops Q rest (a.put o.dst v') w'):aP PL ops Q (o::rest) a Y:=by
 obtain⟨q,hi,r,t,y⟩:=bC g;refine b8 _ m s x T n base e q (fA fm 0) 1 8 f hi r t y rfl ao v l.length _ hs c ⟨b,0,dQ⟩ 1 1 [fA fm j] p rfl (λk u e=>?_) (by simp[fB]) (by simp only[b9];omega) ab d λv' w' z A _=>?_
 .match k,e with
  |0,e=>cases e;exact hc
 .refine h v' w' ?_ ((j6 base Y).grown A d (cZ c));unfold eO;rw[dC,io];exact z
def tB(L:List Int)(m:Int)(a p:Nat):List Int:=(hV p).map λj=>kU L j m a 0 dU
def Iu(L:List Int)(m:Int)(a p:Nat):tB L m a (p+1)=tB L m a p++[kU L p m a 0 dU]:=by simp[tB,ip]
def Nt(L:List Int)(m:Int)(a p:Nat):(tB L m a p).length=p:=by simp[tB]
def RO(C:CD)(m:Int)(L:List Int)(n:Ir L)(w:ad)(h:C.At w)(hf:C.b6 d8=0)(h4:C.n4<=5)(D:C.n5<=3)(o:bO m 0 999=d8)
 (q:∀W,C.At W->bj PL 61 #[fR C.val] W λe w'=>∃k,e=qr (f9 (dO ⟨k,0,dQ⟩))/\Row w' k (L.map bh)/\bL W w') :
 bj PL 25 #[fR C.val,fA fm m] w λe w'=>∃v,e=qr (gc #[v,fA fm 0])/\bB w' v (tB L m C.n5 C.n4)/\bL w w':=by
 have r:=j5 h;have s:Hid (KB C w (eb w (ol C.val 27))):=j5 ⟨au _ _,(j6 _ _).a (dk _) _⟩;have E:=j5 hf;have F:=j5 o;have d:=j5 q;have H:=j5 n;clear h hf o q n;go_enter (fx ao Tryz.func25),Tryz.ntmps25
 go_wp2_with (first
  |(go_at_call 31;refine(kF E.o (r.o.below s.o.low)).m ?_;rintro e w1⟨rfl,t⟩;have u:=j5 (s.o.on t);clear t)
  |(go_at_call 60;refine(yO F.o _).m ?_;rintro e w'⟨rfl,rfl⟩)
  |(go_at_call 61;refine(d.o _ (r.o.below (u.o.alloc (ol C.val 78)).low)).m ?_;rintro e w2⟨k,rfl,x,f⟩;have g:=j5 ((u.o.alloc (ol C.val 78)).on f);have i:=j5 ((f.k w1.heap.size ar).t (au w1 (ol C.val 78)));have I:=j5 x;clear f x;have J:=g.o.lt;have K:=kc i.o;obtain⟨M,N,O,P,f4,Q⟩:=bf g.o.box;obtain⟨d0,d1,d2,d3,d4,d5⟩:=bf i.o))
 go_loopw [9,27] (λR a wr=>∃p:Nat,p<=C.n4/\a=fA fm p/\eO 57 wr w2.heap.size R (tB L m C.n5 p)/\bL w2 wr) (λ_ a _=>C.n4-(intOf a).toNat)
 case atStart=>exact⟨0,eF _,rfl,⟨rfl,qu ⟨rfl,rfl⟩⟩,j6 _ _⟩
 case round=>
  obtain⟨p,hp,rfl,y,b⟩:=hrel;clear M N O P f4 Q d0 d1 d2 d3 d4 d5 J;have z:=j5 y;have S:=j5 (g.o.on b);have A:=j5 ((b.k _ K).t i.o);have T:=j5 (I.o.on b);have U:=j5 b;have wD:=kc A.o;have V:=b.z;clear y b;by_cases X:p<C.n4
  .have i2:(p:Int)<C.n4:=ab;obtain⟨d0,d1,d2,d3,d4,d5⟩:=bf A.o;have B:(tB L m C.n5 p).length=p:=Nt _ _ _ _;have j:=j5 B;clear B
   go_wp2_with (first
    |(go_at_call 62;refine(Fa C k p m L H.o _ T.o D ab).m ?_;rintro e w3⟨rfl,c⟩;have Y:=c.z;have Z:=j5 (z.o.on c);have H3:=j5 (U.o.t (c.mono V));clear c)
    |(at_builtin;refine Fb afJ aaI rfl _ _ rfl w2.heap.size _ _ (kU L p m C.n5 0 dU) w3.heap.size rfl (Z.o.alloc _) rfl (cell_one_new _ _ _ 0 _ rfl) (by rw[j.o];omega) (by simp;omega) ?_;intro v' w4 fO l))
   refine⟨⟨p+1,X,by go_num,by rw[Iu];exact fO,(H3.o.a ab _).t l⟩,by simp only[intOf];omega⟩
  .obtain rfl:p=C.n4:=ab;go_wp2;refine bm (v:=gc #[u9,fA fm 0]) ?_ rfl ⟨_,rfl,z.o.reads,S.o.low⟩;simp[bq,Tryz.results25,go_sem]
def s9{T e:bv}(f:k7 PL T=dO (qt e))(k:(PL.info? e).map (λi=>(i.zero,i.size,i.bytes))=dO (dO L,q,O))(l:L.cells.size=q)(p:0<q)(b:O<=1000){ops:Array ai}{rest:List ai}{o:ai}{a:Act}{Q:aI->Act->ad->Prop}(m:o.guard=dQ)(s x:aJ)
 (r:o.op=.call { callee:=.builtin .append,args:=#[s,x],argTypes:=#[T,T] }) (base g:Nat) (hs:a.eval s=f6 (dO ⟨g,0,dQ⟩) 0 0) (hg:Y.heap[g]?=dO (ol #[] e)) (hb:base<=g)
 (A:ag) (n c:Nat) (news:List ac) (t:a.eval x=f6 (dO A) n c) (hl:news.length=n*q) (hc:∀j u,news[j]?=dO u->d9 Y (A.add j)=dO u) (v:∀u∈news,u.oneCell'=d8) (y:n<=1000)
 (h:∀v' w',ek w' base e q v' n news->v'≠f6 dQ 0 0->Below base Y w'->aP PL ops Q rest (a.put o.dst v') w'):aP PL ops Q (o::rest) a Y:=by
 obtain⟨B,hi,C,D,E⟩:=bC k;have d:ek Y base e q (f6 (dO ⟨g,0,dQ⟩) 0 0) 0 []:=⟨ar,qx ⟨g,0,#[],rfl,hb,hg,dk _,eF _,ar,ar⟩⟩
 have F:=kc hg;refine b8 _ m s x T r base e B L q O f hi C D E l p (f6 (dO ⟨g,0,dQ⟩) 0 0) 0 [] hs d A n c news t hl hc v (by simp only[b9];omega) (by have:=ns y b;rw[ei];omega) ab λv' w' H I J=>?_;refine h v' w' (by simpa using H) (λe=>?_) ((j6 base Y).grown I ab (cZ d));have:=J.1 e;simp at this
def afy{off:Nat}(hc:∀j u,M[j]?=dO u->d9 Y ⟨q,off+j,dQ⟩=dO u):∀j u,M[j]?=dO u->d9 Y ((⟨q,off,dQ⟩:ag).add j)=dO u:=λj u e=>by
 have:=hc j u e;by_cases a:j=0
 .subst a;simpa[li]using this
 .simpa[li,a]using this
def ga{T e:bv}{z:ac}{m bytes:Nat}(d:k7 PL T=dO (qt e))(f:(PL.info? e).map (λi=>(i.zero,i.size,i.bytes))=dO (dO z,m,bytes))(l:z.cells.size=m)(p:0<m)(b:bytes<=1000){ops:Array ai}{rest:List ai}{o:ai}{a:Act}{Q:aI->Act->ad->Prop}{w:ad}(q:o.guard=dQ)(s x:aJ)
 (r:o.op=.call { callee:=.builtin .append,args:=#[s,x],argTypes:=#[T,T] }) (base g:Nat) (hs:a.eval s=f6 (dO ⟨g,0,dQ⟩) 0 0) (hg:w.heap[g]?=dO (ol #[] e)) (hb:base<=g)
 (k off n c:Nat) (news:List ac) (t:a.eval x=f6 (dO ⟨k,off,dQ⟩) n c) (hl:news.length=n*m) (hc:∀j u,news[j]?=dO u->d9 w ⟨k,off+j,dQ⟩=dO u) (v:∀u∈news,u.oneCell'=d8) (y:n<=1000)
 (h:∀v' w',ek w' base e m v' n news->v'≠f6 dQ 0 0->Below base w w'->aP PL ops Q rest (a.put o.dst v') w'):aP PL ops Q (o::rest) a w:=
 s9 d f l p b q s x r base g hs hg hb _ n c news t hl (afy hc) v y h
def Fc(w W:ad)(e m:Nat)(v:ac)(n:Nat)(l:List ac):Prop:=ek W w.heap.size e m v n l/\v≠f6 dQ 0 0
def Fc.form{w W:ad}{e m n:Nat}{v:ac}{l:List ac}(h:Fc w W e m v n l):∃g cap cur,v=f6 (dO ⟨g,0,dQ⟩) n cap/\w.heap.size<=g/\W.heap[g]?=dO (ol cur e)/\cur.toList.take (n*m)=l:=by
 obtain⟨⟨_,h⟩,hv⟩:=h
 rcases h with⟨rfl,_⟩|⟨g,cap,cur,e1,hb,hg,_,_,_,a⟩
 .exact absurd rfl hv
 .exact⟨g,cap,cur,e1,hb,hg,a⟩
structure aay(w:ad)(b:Option ag)(n m:Nat)(row:List ac):Prop where
 len:row.length=n*m
 le:n<=1000
 one:∀u∈row,u.oneCell'=d8
 cells:0<n->∃k o,b=dO ⟨k,o,dQ⟩/\k<w.heap.size/\∀j u,row[j]?=dO u->d9 w ⟨k,o+j,dQ⟩=dO u
def aay.on{W:ad}(h:aay Y R q O M)(a:bL Y W):aay W R q O M:=
 ⟨h.len,h.le,h.one,λd=>by
   obtain⟨k,o,f,c,g⟩:=h.cells d
   exact⟨k,o,f,bT c a.z,λj u e=>(a.c (p:=⟨k,o+j,dQ⟩) c).t (g j u e)⟩⟩
def aay.nil(h:aay Y dQ q O M):q=0:=by
 by_cases a:0<q
 .obtain⟨k,o,b,_⟩:=h.cells a;cases b
 .omega
def aay.add{w:ad}{A:ag}{n m:Nat}{row:List ac}(h:aay w (dO A) n m row):∀j u,row[j]?=dO u->d9 w (A.add j)=dO u:=λj u e=>by
 by_cases a:0<n
 .obtain⟨k,o,b,_,c⟩:=h.cells a;cases b;exact afy c j u e
 .have:=h.len;obtain rfl:n=0:=ab;rw[jD]at this;rw[nf.1 this]at e;cases e
def Clo(w W:ad)(e m n:Nat)(row:List ac)(b:Option ag)(v:ac):Prop:=∃b' c,v=f6 b' n c/\(b=dQ->b'=dQ/\c=0)/\(0<n->∃g a,b'=dO ⟨g,0,dQ⟩/\w.heap.size<=g/\W.heap[g]?=dO (ol a e)/\a.toList.take (n*m)=row)
def Clo.on{W d:ad}{n:Nat}(h:Clo Y W q O n M R L)(i:bL W d):Clo Y d q O n M R L:=by
 obtain⟨b',c,hv,j,h⟩:=h;exact⟨b',c,hv,j,λk=>by obtain⟨g,a,l,o,f,p⟩:=h k;exact⟨g,a,l,o,(i.k _ (kc f)).t f,p⟩⟩
def Clo.low{w0 w W:ad}{e m n:Nat}{row:List ac}{b:Option ag}{v:ac}(h:Clo w W e m n row b v)(hs:w0.heap.size<=w.heap.size):Clo w0 W e m n row b v:=by
 obtain⟨b',c,hv,d,h⟩:=h;exact⟨b',c,hv,d,λf=>by obtain⟨g,a,i,j,k,l⟩:=h f;exact⟨g,a,i,da hs j,k,l⟩⟩
def Clo.of{w W:ad}{e m n:Nat}{row:List ac}{A:ag}{v:ac}(h:ek W w.heap.size e m v n row)(hv:v≠f6 dQ 0 0):Clo w W e m n row (dO A) v:=by
 obtain⟨g,c,a,rfl,b,d,f⟩:=Fc.form (w:=w) ⟨h,hv⟩;exact⟨_,c,rfl,λe=>(by cases e),λ_=>⟨g,a,rfl,b,d,f⟩⟩
def Clo.nil{W:ad}{n:Nat}(a:n=0):Clo Y W q O n M R (f6 dQ 0 0):=by
 subst a;exact⟨dQ,0,rfl,λ_=>⟨rfl,rfl⟩,λh=>absurd h (dt _)⟩
def VF:k7 PL 28=dO (qt 3):=ae
def VG:(PL.info? 3).map (λi=>(i.zero,i.size,i.bytes))=dO (dO (fA fm 0),1,8):=ae
def aaK(a:ag)(n c:Nat)(W:ad):(binOp .eql 28 (f6 (dO a) n c) (f6 dQ 0 0)).run PL W=hG (f7 dU) W:=ae
def aaP(c:Nat)(W:ad):(binOp .eql 28 (f6 dQ 0 c) (f6 dQ 0 0)).run PL W=hG (f7 d8) W:=ae
def afA(b:Option ag)(n c:Nat)(row:List ac)(w:ad)(h:aay w b n 1 row):bj PL 40 #[f6 b n c] w λe w'=>∃v,e=qr v/\Clo w w' 3 1 n row b v/\bL w w':=by
 have H:=j5 h;clear h
 cases b with
 |none=>
  obtain rfl:n=0:=H.o.nil;have q1:=aaP;go_enter (fx ao lm),lp;go_wp2;go_ret;exact⟨_,rfl,Clo.nil rfl,j6 _ _⟩
 |some A=>
  have q1:=aaK;have a:=j5 ((j6 w.heap.size w).a (dk _) (ol #[] 3));go_enter (fx ao lm),lp
  go_wp2_with (at_builtin;refine s9 VF VG rfl ao ao rfl _ _ rfl w.heap.size w.heap.size rfl (au w (ol #[] 3)) (dk _) A n c row rfl H.o.len (H.o.on a.o).add H.o.one H.o.le ?_;intro v' w2 d hv f)
  go_ret;exact⟨_,rfl,Clo.of d hv,a.o.t f⟩
def VH:k7 PL 22=dO (qt 30):=ae
def VI:(PL.info? 30).map (λi=>(i.zero,i.size,i.bytes))=dO (dO (fR #[fA fm 0,fA fm 0]),2,16):=ae
def aaL(a:ag)(n c:Nat)(W:ad):(binOp .eql 22 (f6 (dO a) n c) (f6 dQ 0 0)).run PL W=hG (f7 dU) W:=ae
def aoU(c:Nat)(W:ad):(binOp .eql 22 (f6 dQ 0 c) (f6 dQ 0 0)).run PL W=hG (f7 d8) W:=ae
def al7(b:Option ag)(n c:Nat)(row:List ac)(w:ad)(h:aay w b n 2 row):bj PL 78 #[f6 b n c] w λe w'=>∃v,e=qr v/\Clo w w' 30 2 n row b v/\bL w w':=by
 have H:=j5 h;clear h
 cases b with
 |none=>
  obtain rfl:n=0:=H.o.nil;have q1:=aoU;go_enter (fx ao lq),lA;go_wp2;go_ret;exact⟨_,rfl,Clo.nil rfl,j6 _ _⟩
 |some A=>
  have q1:=aaL;have a:=j5 ((j6 w.heap.size w).a (dk _) (ol #[] 30));go_enter (fx ao lq),lA
  go_wp2_with (at_builtin;refine s9 VH VI rfl ao ao rfl _ _ rfl w.heap.size w.heap.size rfl (au w (ol #[] 30)) (dk _) A n c row rfl H.o.len (H.o.on a.o).add H.o.one H.o.le ?_;intro v' w2 d hv f)
  go_ret;exact⟨_,rfl,Clo.of d hv,a.o.t f⟩
def VJ:k7 PL 23=dO (qt 93):=ae
def VK:(PL.info? 93).map (λi=>(i.zero,i.size,i.bytes))=dO (dO (fR #[fA fm 0,fA fm 0,fA fm 0]),3,24):=ae
def aaM(a:ag)(n c:Nat)(W:ad):(binOp .eql 23 (f6 (dO a) n c) (f6 dQ 0 0)).run PL W=hG (f7 dU) W:=ae
def aoV(c:Nat)(W:ad):(binOp .eql 23 (f6 dQ 0 c) (f6 dQ 0 0)).run PL W=hG (f7 d8) W:=ae
def al8(b:Option ag)(n c:Nat)(row:List ac)(w:ad)(h:aay w b n 3 row):bj PL 79 #[f6 b n c] w λe w'=>∃v,e=qr v/\Clo w w' 93 3 n row b v/\bL w w':=by
 have H:=j5 h;clear h
 cases b with
 |none=>
  obtain rfl:n=0:=H.o.nil;have q1:=aoV;go_enter (fx ao lL),lM;go_wp2;go_ret;exact⟨_,rfl,Clo.nil rfl,j6 _ _⟩
 |some A=>
  have q1:=aaM;have a:=j5 ((j6 w.heap.size w).a (dk _) (ol #[] 93));go_enter (fx ao lL),lM
  go_wp2_with (at_builtin;refine s9 VJ VK rfl ao ao rfl _ _ rfl w.heap.size w.heap.size rfl (au w (ol #[] 93)) (dk _) A n c row rfl H.o.len (H.o.on a.o).add H.o.one H.o.le ?_;intro v' w2 d hv f)
  go_ret;exact⟨_,rfl,Clo.of d hv,a.o.t f⟩
def VL:k7 PL 24=dO (qt 49):=ae
def VM:(PL.info? 49).map (λi=>(i.zero,i.size,i.bytes))=dO (dO (fR #[f8 ByteArray.empty,fA fm 0,fA fm 0,fA fm 0,fA fm 0,fA fm 0,fA fm 0,fA fm 0,fA fm 0,fA fm 0,fA fm 0,f6 dQ 0 0]),12,120):=ae
def aaN(a:ag)(n c:Nat)(W:ad):(binOp .eql 24 (f6 (dO a) n c) (f6 dQ 0 0)).run PL W=hG (f7 dU) W:=ae
def aoW(c:Nat)(W:ad):(binOp .eql 24 (f6 dQ 0 c) (f6 dQ 0 0)).run PL W=hG (f7 d8) W:=ae
def al9(b:Option ag)(n c:Nat)(row:List ac)(w:ad)(h:aay w b n 12 row):bj PL 80 #[f6 b n c] w λe w'=>∃v,e=qr v/\Clo w w' 49 12 n row b v/\bL w w':=by
 have H:=j5 h;clear h
 cases b with
 |none=>
  obtain rfl:n=0:=H.o.nil;have q1:=aoW;go_enter (fx ao lR),lS;go_wp2;go_ret;exact⟨_,rfl,Clo.nil rfl,j6 _ _⟩
 |some A=>
  have q1:=aaN;have a:=j5 ((j6 w.heap.size w).a (dk _) (ol #[] 49));go_enter (fx ao lR),lS
  go_wp2_with (at_builtin;refine s9 VL VM rfl ao ao rfl _ _ rfl w.heap.size w.heap.size rfl (au w (ol #[] 49)) (dk _) A n c row rfl H.o.len (H.o.on a.o).add H.o.one H.o.le ?_;intro v' w2 d hv f)
  go_ret;exact⟨_,rfl,Clo.of d hv,a.o.t f⟩
def VN:k7 PL 25=dO (qt 51):=ae
def VO:(PL.info? 51).map (λi=>(i.zero,i.size,i.bytes))=dO (dO (fR #[f8 ByteArray.empty,fA fm 0,fA fm 0]),3,32):=ae
def aaO(a:ag)(n c:Nat)(W:ad):(binOp .eql 25 (f6 (dO a) n c) (f6 dQ 0 0)).run PL W=hG (f7 dU) W:=ae
def aoX(c:Nat)(W:ad):(binOp .eql 25 (f6 dQ 0 c) (f6 dQ 0 0)).run PL W=hG (f7 d8) W:=ae
def ala(b:Option ag)(n c:Nat)(row:List ac)(w:ad)(h:aay w b n 3 row):bj PL 81 #[f6 b n c] w λe w'=>∃v,e=qr v/\Clo w w' 51 3 n row b v/\bL w w':=by
 have H:=j5 h;clear h
 cases b with
 |none=>
  obtain rfl:n=0:=H.o.nil;have q1:=aoX;go_enter (fx ao lT),lW;go_wp2;go_ret;exact⟨_,rfl,Clo.nil rfl,j6 _ _⟩
 |some A=>
  have q1:=aaO;have a:=j5 ((j6 w.heap.size w).a (dk _) (ol #[] 51));go_enter (fx ao lT),lW
  go_wp2_with (at_builtin;refine s9 VN VO rfl ao ao rfl _ _ rfl w.heap.size w.heap.size rfl (au w (ol #[] 51)) (dk _) A n c row rfl H.o.len (H.o.on a.o).add H.o.one H.o.le ?_;intro v' w2 d hv f)
  go_ret;exact⟨_,rfl,Clo.of d hv,a.o.t f⟩
def tC(k off n c:Nat)(news:List ac)(w:ad)(hl:news.length=n*1)(hc:∀j u,news[j]?=dO u->d9 w ⟨k,off+j,dQ⟩=dO u)(b:∀u∈news,u.oneCell'=d8)(d:n<=1000)(f:k<w.heap.size) :
 bj PL 40 #[f6 (dO ⟨k,off,dQ⟩) n c] w λe w'=>∃v,e=qr v/\v≠f6 dQ 0 0/\ek w' w.heap.size 3 1 v n news/\bL w w':=by
 have g:=j5 hc;have q1:=aaK;clear hc;have a:=j5 ((j6 w.heap.size w).a (dk _) (ol #[] 3));go_enter (fx ao lm),lp
 go_wp2_with (at_builtin;refine ga VF VG rfl ao ao rfl _ _ rfl w.heap.size w.heap.size rfl (au w (ol #[] 3)) (dk _) k off n c news rfl hl (λj u e=>(a.o.c (p:=⟨k,off+j,dQ⟩) f).t (g.o j u e)) b d ?_;intro v' w2 h hv i)
 go_ret;exact⟨_,rfl,hv,h,a.o.t i⟩
def dJ{e m n:Nat}(h:ek Y q e m L n M)(hb:O<=q):ek Y O e m L n M:=by
 obtain⟨c,h⟩:=h
 rcases h with h|⟨g,cap,a,e1,d,hg,f⟩
 .exact⟨c,qu h⟩
 .exact⟨c,qx ⟨g,cap,a,e1,da hb d,hg,f⟩⟩
def iu{x y:Array ac}{t u:bv}(h:Y.heap[q]?=dO (ol x t))(k:Y.heap[O]?=dO (ol y u))(c:t≠u):q≠O:=λe=>by
 grind
def Fe{c:Array ac}{t:bv}(h:Y.heap[q]?=dO (ol c t)):(em Y ⟨q,O,dQ⟩ L).heap[q]?=dO (ol (gy c O L) t):=by
 simp only[em,dq,if_pos,h,il];rfl
def aZ{k:Nat}(h:q≠k):(em Y ⟨q,O,dQ⟩ L).heap[k]?=Y.heap[k]?:=by
 simp only[em,dq,if_neg h]
def nC{W:ad}{r:Nat}{x0 x1 x2 x3 x4 a u0 u1 u2 u3 u4 u5:ac}{t:bv}(h:W.heap[r]?=dO (ol #[x0,x1,x2,x3,x4,a] t)):(em (em (em (em (em (em W ⟨r,0,dQ⟩ u0) ⟨r,1,dQ⟩ u1) ⟨r,2,dQ⟩ u2) ⟨r,3,dQ⟩ u3) ⟨r,4,dQ⟩ u4) ⟨r,5,dQ⟩ u5).heap[r]?=dO (ol #[u0,u1,u2,u3,u4,u5] t):=by
 simp only[em,dq,if_pos,h,il];rfl
def cM{u1 u2 u3 u4 u5:ac}(hb:O≠q):(em (em (em (em (em (em Y ⟨q,0,dQ⟩ L) ⟨q,1,dQ⟩ u1) ⟨q,2,dQ⟩ u2) ⟨q,3,dQ⟩ u3) ⟨q,4,dQ⟩ u4) ⟨q,5,dQ⟩ u5).heap[O]?=Y.heap[O]?:=by
 simp only[em,dq,if_neg (gr hb)]
def wJ{x:Nat}{cur:Array ac}{t:bv}(h:Y.heap[q]?=dO (ol cur t))(a:O<cur.size):d9 (em Y ⟨q,O,dQ⟩ L) ⟨q,x,dQ⟩=if x=O then dO L else Y.cell? ⟨q,x,dQ⟩:=by
 simp only[d9,Fe h,h,eh];grind
def ahR{b x:Nat}(hb:q≠b):d9 (em Y ⟨q,O,dQ⟩ L) ⟨b,x,dQ⟩=d9 Y ⟨b,x,dQ⟩:=by
 simp only[d9,aZ hb]
def aoY{a b:Type}(f:a->List b)(m:Nat)(c:∀x,(f x).length=m)(l:List a)(i j:Nat)(hi:i<l.length)(d:j<m):(l.flatMap f)[i*m+j]?=(f l[i])[j]?:=by
 induction l generalizing i with
 |nil=>cases hi
 |cons x l e=>
  rw[ix]
  match i with
  |0=>grind
  |i+1=>
   grind
def rowOf(f:Nat->List ac)(n:Nat):List ac:=(hV n).flatMap f
def acy{i j:Nat}(a:∀i,(J i).length=O)(hi:i<q)(b:j<O):(rowOf J q)[i*O+j]?=(J i)[j]?:=by
 have:=aoY J O a (hV q) i j (by simpa using hi) b;unfold rowOf;simpa using this
def abt(a:∀i,(J i).length=q)(n:Nat):(rowOf J n).length=n*q:=by
 have:∀l:List Nat,(l.flatMap J).length=l.length*q:=λl=>by
  induction l with
  |nil=>simp
  |cons x l b=>grind
 unfold rowOf;rw[this,List.length_range]
def j9(w:ad)(k o n m:Nat)(f:Nat->List ac):Prop:=∀i,i<n->∀q,q<m->d9 w ⟨k,o+i*m+q,dQ⟩=(f i)[q]?
def j9.get{n m:Nat}(c:∀i,(J i).length=m)(hc:j9 Y q O n m J):∀j u,(rowOf J n)[j]?=dO u->d9 Y ⟨q,O+j,dQ⟩=dO u:=λj u e=>by
 have a:=(cQ.1 e).1;rw[abt c]at a;have b:0<m:=ky λh=>by subst h;simp at a
 obtain⟨i,w,hi,d,rfl⟩:∃i w,i<n/\w<m/\j=i*m+w:=⟨j / m,j % m,Nat.div_lt_of_lt_mul (by rw[ke];exact a),kf j b,by rw[ke];exact(lf j m).y⟩
 rw[acy c hi d]at e;rw[<-Nat.add_assoc];exact(hc i hi w d).t e
def aay.mk'{n m:Nat}(a:∀i,(J i).length=m)(c:n<=1000)(d:∀i,∀u∈J i,u.oneCell'=d8)(hs:0<n->R=dO ⟨q,O,dQ⟩)(e:0<n->q<Y.heap.size)(hc:j9 Y q O n m J):aay Y R n m (rowOf J n):=by
 refine⟨abt a n,c,λu g=>?_,λh=>⟨q,O,hs h,e h,hc.get a⟩⟩;obtain⟨i,_,h⟩:=mf.1 g;exact d i u h
def j9.of{W:ad}{g n m e:Nat}{f:Nat->List ac}{cur:Array ac}(a:∀i,(f i).length=m)(h:W.heap[g]?=dO (ol cur e))(b:cur.toList.take (n*m)=rowOf f n):j9 W g 0 n m f/\n*m<=cur.size:=by
 have hl:=congrArg iP b;rw[abt a,List.length_take,qh]at hl;refine⟨λi hi q c=>?_,ab⟩;have d:i*m+q<n*m:=by
  have:i*m+m<=n*m:=by rw[<-oj];exact im m hi
  omega
 rw[<-acy a hi c,<-b,e6 d,ei];simp[d9,h]
def j9.on{W:ad}{n m:Nat}(h:j9 Y q O n m J)(a:q<Y.heap.size)(b:bL Y W):j9 W q O n m J:=λi hi w c=>(b.c (p:=⟨q,_,dQ⟩) a).t (h i hi w c)
def aoZ(x:Int×Int):List ac:=[fA fm x.1,fA fm x.2]
def ap0(x:Int×Int×Int):List ac:=[fA fm x.1,fA fm x.2.1,fA fm x.2.2]
def ac9(x:ByteArray×Int×Int):List ac:=[f8 x.1,fA fm x.2.1,fA fm x.2.2]
def aaD(x:iJ):List ac:=f8 x.name::((hV 10).map λj=>fA fm (x.n (j+1)))++[f6 x.lb x.ln x.lc]
def acz(x:iJ)(j:Nat):List ac:=[fA fm (x.lane j)]
def aaJ(x:iJ):(aaD x).length=12:=by simp[aaD]
def aam(x:iJ)(a:1<=q)(b:q<=10):(aaD x)[q]?=dO (fA fm (x.n q)):=by
 obtain⟨q,rfl⟩:∃k,q=k+1:=⟨q-1,ab⟩
 have hl:q<10:=ab;simp[aaD,ej,hl]
def agM(x:iJ):∀u∈aaD x,u.oneCell'=d8:=by
 intro u h;simp only[aaD,fY,dp,lx,j3,eW,or_false]at h
 rcases h with rfl|⟨j,_,rfl⟩|rfl<;>rfl
structure Q2(C:CD)(w:ad):Prop where
 m2:C.n2<=20
 m3:C.n3<=20
 m4:C.n4<=20
 m5:C.n5<=20
 h2:C.k2<w.heap.size
 h3:C.k3<w.heap.size
 h4:C.k4<w.heap.size
 h5:C.k5<w.heap.size
 s2:0<C.n2->C.b2=dO ⟨C.k2,C.o2,dQ⟩
 s3:0<C.n3->C.b3=dO ⟨C.k3,C.o3,dQ⟩
 s4:0<C.n4->C.b4=dO ⟨C.k4,C.o4,dQ⟩
 s5:0<C.n5->C.b5=dO ⟨C.k5,C.o5,dQ⟩
 r2:j9 w C.k2 C.o2 C.n2 2 λi=>aoZ (C.x2 i)
 r3:j9 w C.k3 C.o3 C.n3 3 λi=>ap0 (C.x3 i)
 r4:j9 w C.k4 C.o4 C.n4 12 λi=>aaD (C.x4 i)
 r5:j9 w C.k5 C.o5 C.n5 3 λi=>ac9 (C.x5 i)
 cu:∀i,i<C.n4->(C.x4 i).name.size<=100/\(C.x4 i).ln<=20
 nm5:∀i,i<C.n5->(C.x5 i).1.size<=100
 l4:∀i,i<C.n4->0<(C.x4 i).ln->(C.x4 i).lb=dO ⟨(C.x4 i).lk,(C.x4 i).lo,dQ⟩/\(C.x4 i).lk<w.heap.size
 rl:∀i,i<C.n4->j9 w (C.x4 i).lk (C.x4 i).lo (C.x4 i).ln 1 (acz (C.x4 i))
def CD.At.rows(h:C.At Y):Q2 C Y:=by
 obtain⟨m2,m3,m4,m5,h2,h3,h4,h5,s2,s3,s4,s5,Ep,Er,Es,Et,Eu,cu,AD,dB,nj,l4,J5,nm5,FI,HU,J6⟩:=h;refine⟨m2,m3,m4,m5,h2,h3,h4,h5,s2,s3,s4,s5,λi hi q a=>?_,λi hi q a=>?_,λi hi q a=>?_,λi hi q a=>?_,cu,nm5,l4,λi hi j b q a=>?_⟩
 .match q,a with
  |0,_=>exact Ep i hi
  |1,_=>exact Er i hi
 .match q,a with
  |0,_=>exact Es i hi
  |1,_=>exact Et i hi
  |2,_=>exact Eu i hi
 .by_cases c:q=0
  .subst c;exact AD i hi
  .by_cases d:q=11
   .subst d;exact nj i hi
   .rw[aam _ ab ab];grind
 .match q,a with
  |0,_=>exact FI i hi
  |1,_=>exact HU i hi
  |2,_=>exact J6 i hi
 .obtain rfl:q=0:=ab;have:=J5 i hi j b;rw[jR];exact this
def Q2.at_(h:Q2 C Y):C.At Y:=by
 obtain⟨m2,m3,m4,m5,h2,h3,h4,h5,s2,s3,s4,s5,r2,r3,r4,r5,cu,nm5,l4,rl⟩:=h
 exact⟨m2,m3,m4,m5,h2,h3,h4,h5,s2,s3,s4,s5,λi hi=>r2 i hi 0 ab,λi hi=>r2 i hi 1 ab,λi hi=>r3 i hi 0 ab,λi hi=>r3 i hi 1 ab,λi hi=>r3 i hi 2 ab,cu,λi hi=>r4 i hi 0 ab,
  λi hi j a h2=>(r4 i hi j ab).t (aam _ a h2),λi hi=>r4 i hi 11 ab,l4,λi hi j b=>by have:=rl i hi j b 0 ab;rw[jR]at this;exact this,nm5,λi hi=>r5 i hi 0 ab,λi hi=>r5 i hi 1 ab,λi hi=>r5 i hi 2 ab⟩
abbrev CD.arw(C:CD):List ac:=rowOf (λi=>aoZ (C.x2 i)) C.n2
abbrev CD.arx(C:CD):List ac:=rowOf (λi=>ap0 (C.x3 i)) C.n3
abbrev CD.afs(C:CD):List ac:=rowOf (λi=>aaD (C.x4 i)) C.n4
abbrev CD.adP(C:CD):List ac:=rowOf (λi=>ac9 (C.x5 i)) C.n5
def CD.ant(C:CD)(hi:q<C.n4)(a:O<12):C.afs[q*12+O]?=(aaD (C.x4 q))[O]?:=acy (λ_=>aaJ _) hi a
def CD.acB(C:CD):C.afs.length=C.n4*12:=abt (λ_=>aaJ _) _
def Q2.avx(h:Q2 C Y):aay Y C.b2 C.n2 2 C.arw:=.mk' (λ_=>rfl) (da h.m2 ao) (λi u a=>by simp only[aoZ,dp,eW,or_false]at a;rcases a with rfl|rfl<;>rfl) h.s2 (λ_=>h.h2) h.r2
def Q2.avy(h:Q2 C Y):aay Y C.b3 C.n3 3 C.arx:=.mk' (λ_=>rfl) (da h.m3 ao) (λi u a=>by simp only[ap0,dp,eW,or_false]at a;rcases a with rfl|rfl|rfl<;>rfl) h.s3 (λ_=>h.h3) h.r3
def Q2.ary(h:Q2 C Y):aay Y C.b4 C.n4 12 C.afs:=.mk' (λ_=>aaJ _) (da h.m4 ao) (λi=>agM _) h.s4 (λ_=>h.h4) h.r4
def Q2.arz(h:Q2 C Y):aay Y C.b5 C.n5 3 C.adP:=.mk' (λ_=>rfl) (da h.m5 ao) (λi u a=>by simp only[ac9,dp,eW,or_false]at a;rcases a with rfl|rfl|rfl<;>rfl) h.s5 (λ_=>h.h5) h.r5
def Q2.avz(h:Q2 C Y)(hi:q<C.n4):aay Y (C.x4 q).lb (C.x4 q).ln 1 (rowOf (acz (C.x4 q)) (C.x4 q).ln):=.mk' (λ_=>rfl) (da (h.cu q hi).2 ao) (λj u a=>by simp only[acz,jX]at a;subst a;rfl) (λhl=>(h.l4 q hi hl).1) (λhl=>(h.l4 q hi hl).2) (h.rl q hi)
def CD.At.afs{C:CD}{w:ad}(h:C.At w):∀j u,C.afs[j]?=dO u->d9 w ⟨C.k4,C.o4+j,dQ⟩=dO u:=by
 intro j u e;by_cases h4:0<C.n4
 .obtain⟨k,o,hb,_,hc⟩:=h.rows.ary.cells h4;rw[h.s4 h4]at hb;cases hb;exact hc j u e
 .have:=(cQ.1 e).1;rw[C.acB]at this;omega
structure acC(x y:iJ):Prop where
 name:y.name=x.name
 n:y.n=x.n
 ln:y.ln=x.ln
 lane:y.lane=x.lane
 nil:x.lb=dQ->x.lc=0->y.lb=dQ/\y.lc=0
def Typ(W:ad)(k e:Nat):Prop:=∃a,W.heap[k]?=dO (ol a e)
def Typ.on{a:ad}(h:Typ Y q O)(b:bL Y a):Typ a q O:=h.i λ_ h=>(b.k _ (kc h)).t h
def Typ.ne{e e':Nat}(h:Typ Y q e)(a:Typ Y O e')(b:e≠e'):q≠O:=by
 obtain⟨_,h⟩:=h;obtain⟨_,a⟩:=a;exact iu h a b
theorem Typ.set{W:ad}{k e K o:Nat}{v:ac}(h:Typ W k e):Typ (em W ⟨K,o,dQ⟩ v) k e:=by
 obtain⟨c,h⟩:=h;by_cases a:K=k
 .subst a;exact⟨_,Fe h⟩
 .exact⟨c,(aZ a).t h⟩
structure yd(n0 i:Nat)(D:CD)(W:ad):Prop where
 mem:Q2 D W
 t2:0<D.n2->Typ W D.k2 30
 t3:0<D.n3->Typ W D.k3 93
 t4:n0<=D.k4/\D.o4=0/\∃cur,W.heap[D.k4]?=dO (ol cur 49)/\D.n4*12<=cur.size
 t5:0<D.n5->n0<=D.k5/\D.o5=0/\∃cur,W.heap[D.k5]?=dO (ol cur 51)/\D.n5*3<=cur.size
 tl:∀j,j<D.n4->0<(D.x4 j).ln->(j<i->Typ W (D.x4 j).lk 3)/\(i<=j->(D.x4 j).lk<n0)
def Q2.on{W:ad}(h:Q2 C Y)(a:bL Y W):Q2 C W:=(h.at_.below a).rows
def yd.on{n0 i:Nat}{D:CD}{W c:ad}(h:yd n0 i D W)(b:bL W c):yd n0 i D c:=
 ⟨h.mem.on b,λa=>(h.t2 a).on b,λa=>(h.t3 a).on b,⟨h.t4.1,h.t4.2.1,h.t4.2.2.i λ_ k=>⟨(b.k _ (kc k.1)).t k.1,k.2⟩⟩,
   λa=>⟨(h.t5 a).1,(h.t5 a).2.1,(h.t5 a).2.2.i λ_ k=>⟨(b.k _ (kc k.1)).t k.1,k.2⟩⟩,λj d hl=>⟨λhi=>((h.tl j d hl).1 hi).on b,(h.tl j d hl).2⟩⟩
def j9.other{k o n m:Nat}(h:j9 Y k o n m J)(a:0<n->q≠k):j9 (em Y ⟨q,O,dQ⟩ L) k o n m J:=λi hi f b=>(ahR (a ab)).t (h i hi f b)
def j9.put{W:ad}{K n m p r:Nat}{v:ac}{f g:Nat->List ac}{cur:Array ac}{t:bv}(h:j9 W K 0 n m f)(d:W.heap[K]?=dO (ol cur t))(hs:n*m<=cur.size)(j:p<n)(b:r<m)(k:∀i,i≠p->g i=f i)(s:∀q,q<m->(g p)[q]?=if q=r then dO v else(f p)[q]?):j9 (em W ⟨K,p*m+r,dQ⟩ v) K 0 n m g:=λi hi q a=>by
 have key:∀i,i<n->∀q,q<m->i*m+q<n*m:=λi hi q a=>by
  have:i*m+m<=n*m:=by rw[<-oj];exact im m hi
  omega
 have c:=h i hi q a;rw[ei]at c⊢;rw[wJ d (by have:=key p j r b;omega)];by_cases e:i=p
 .grind
 .rw[k i e,if_neg ?_,c];intro l;have o:(i*m+q) / m=(p*m+r) / m:=by rw[l]
  rw[ke i,ke p,ks ab,ks ab,kG a,kG b]at o;exact e ab
def yd.avA(h:yd q O C Y){p:Nat}(s:p<C.n5)(d:Int):yd q O { C with x5:=λj=>if j=p then((C.x5 j).1,(C.x5 j).2.1,d) else C.x5 j } (em Y ⟨C.k5,p*3+2,dQ⟩ (fA fm d)):=by
 have l:0<C.n5:=ab;obtain⟨t,n,u,hc,hs⟩:=h.t5 l;have T5:Typ Y C.k5 51:=⟨_,hc⟩
 have r:Typ Y C.k4 49:=h.t4.2.2.i λ_ k=>k.1;have m:=h.mem;have o:j9 Y C.k5 0 C.n5 3 λO=>ac9 (C.x5 O):=n▸m.r5;have v:∀j,j<C.n4->0<(C.x4 j).ln->C.k5≠(C.x4 j).lk:=λj g hl=>by
  by_cases w:j<O
  .exact T5.ne ((h.tl j g hl).1 w) ao
  .have:=(h.tl j g hl).2 ab;omega
 refine⟨⟨m.m2,m.m3,m.m4,m.m5,by rw[lj];exact m.h2,by rw[lj];exact m.h3,by rw[lj];exact m.h4,by rw[lj];exact m.h5,m.s2,m.s3,m.s4,m.s5,m.r2.other λl=>T5.ne (h.t2 l) ao,m.r3.other λl=>T5.ne (h.t3 l) ao,m.r4.other λ_=>T5.ne r ao,?_,m.cu,λj g=>?_,λj g hl=>⟨(m.l4 j g hl).1,by rw[lj];exact(m.l4 j g hl).2⟩,λj g=>(m.rl j g).other λhl=>v j g hl⟩,λl=>(h.t2 l).set,λl=>(h.t3 l).set,?_,λ_=>⟨t,n,_,Fe hc,aS⟩,λj g hl=>⟨λhi=>((h.tl j g hl).1 hi).set,(h.tl j g hl).2⟩⟩
 .show j9 _ C.k5 C.o5 C.n5 3 _;rw[n];refine o.put hc hs s ao (λj g=>?_) (λD x=>?_)
  .grind
  .show(ac9 (if p=p then _ else _))[D]?=_;rw[if_pos rfl]
   match D,x with
   |0,_=>rfl
   |1,_=>rfl
   |2,_=>rfl
 .show(if j=p then((C.x5 j).1,(C.x5 j).2.1,d) else C.x5 j).1.size<=100;split
  .exact m.nm5 j g
  .exact m.nm5 j g
 .obtain⟨a,b,c,e,f⟩:=h.t4;exact⟨a,b,c,(aZ (T5.ne r ao)).t e,f⟩
def yd.arA{n0 i i':Nat}{D:CD}{W:ad}(h:yd n0 i D W){f:Nat->iJ}{p r:Nat}{v:ac}(x:p<D.n4)(y:r<12)(n:∀j,j≠p->f j=D.x4 j)(z:∀q,q<12->(aaD (f p))[q]?=if q=r then dO v else(aaD (D.x4 p))[q]?)
 (d:(f p).name=(D.x4 p).name/\(f p).ln=(D.x4 p).ln) (hl:0<(f p).ln->(f p).lb=dO ⟨(f p).lk,(f p).lo,dQ⟩/\(f p).lk<W.heap.size) (o:j9 W (f p).lk (f p).lo (f p).ln 1 (acz (f p))) (s:∀j,j<D.n4->0<(f j).ln->(j<i'->Typ W (f j).lk 3)/\(i'<=j->(f j).lk<n0)) :
 yd n0 i' { D with x4:=f } (em W ⟨D.k4,p*12+r,dQ⟩ v):=by
 obtain⟨A,t,B,hc,hs⟩:=h.t4;have l:Typ W D.k4 49:=⟨_,hc⟩
 have m:=h.mem;have u:j9 W D.k4 0 D.n4 12 λi=>aaD (D.x4 i):=t▸m.r4;have C:∀j,j<D.n4->0<(f j).ln->D.k4≠(f j).lk:=λj g hl=>by
  by_cases E:j<i'
  .exact l.ne ((s j g hl).1 E) ao
  grind
 have T5:0<D.n5->D.k4≠D.k5:=λd=>l.ne ((h.t5 d).2.2.i λ_ k=>k.1) ao;refine⟨⟨m.m2,m.m3,m.m4,m.m5,by rw[lj];exact m.h2,by rw[lj];exact m.h3,by rw[lj];exact m.h4,by rw[lj];exact m.h5,m.s2,m.s3,m.s4,m.s5,m.r2.other λd=>l.ne (h.t2 d) ao,m.r3.other λd=>l.ne (h.t3 d) ao,?_,m.r5.other T5,λj g=>?_,m.nm5,λj g hl=>?_,λj g=>?_⟩,λd=>(h.t2 d).set,λd=>(h.t3 d).set,⟨A,t,_,Fe hc,aS⟩,λd=>?_,λj g hl=>⟨λhi=>((s j g hl).1 hi).set,(s j g hl).2⟩⟩
 .show j9 _ D.k4 D.o4 D.n4 12 _;rw[t];exact u.put hc hs x y (λj g=>aS) z
 .show(f j).name.size<=100/\(f j).ln<=20;by_cases e:j=p
  .subst e;rw[d.1,d.2];exact m.cu j g
  .rw[n j e];exact m.cu j g
 .rw[lj];have w:0<(f j).ln:=hl;show(f j).lb=dO ⟨(f j).lk,(f j).lo,dQ⟩/\(f j).lk<W.heap.size;by_cases e:j=p
  .subst e;exact hl w
  .rw[n j e]at w ⊢;exact m.l4 j g w
 .have:=λhl=>C j g hl;show j9 _ (f j).lk (f j).lo (f j).ln 1 (acz (f j));refine j9.other ?_ this;by_cases e:j=p
  .subst e;exact o
  .rw[n j e];exact m.rl j g
 .obtain⟨a,b,c,e,f⟩:=h.t5 d;exact⟨a,b,c,(aZ (T5 d)).t e,f⟩
def yd.other{n0 i:Nat}{D:CD}{W:ad}(h:yd n0 i D W){K:Nat}(c:Typ W K 27)(o:Nat)(v:ac)(hl:n0<=K):yd n0 i D (em W ⟨K,o,dQ⟩ v):=by
 have m:=h.mem;have d:K≠D.k4:=c.ne (h.t4.2.2.i λ_ k=>k.1) ao;have T5:0<D.n5->K≠D.k5:=λa=>c.ne ((h.t5 a).2.2.i λ_ k=>k.1) ao;have e:∀j,j<D.n4->0<(D.x4 j).ln->K≠(D.x4 j).lk:=λj b hl=>by
  by_cases f:j<i
  .exact c.ne ((h.tl j b hl).1 f) ao
  .have:=(h.tl j b hl).2 ab;omega
 exact⟨⟨m.m2,m.m3,m.m4,m.m5,by rw[lj];exact m.h2,by rw[lj];exact m.h3,by rw[lj];exact m.h4,by rw[lj];exact m.h5,m.s2,m.s3,m.s4,m.s5,m.r2.other λa=>c.ne (h.t2 a) ao,m.r3.other λa=>c.ne (h.t3 a) ao,m.r4.other λ_=>d,m.r5.other T5,m.cu,m.nm5,λj b hl=>⟨(m.l4 j b hl).1,by rw[lj];exact(m.l4 j b hl).2⟩,λj b=>(m.rl j b).other λhl=>e j b hl⟩,λa=>(h.t2 a).set,λa=>(h.t3 a).set,⟨h.t4.1,h.t4.2.1,h.t4.2.2.i λ_ k=>⟨(aZ d).t k.1,k.2⟩⟩,λa=>⟨(h.t5 a).1,(h.t5 a).2.1,(h.t5 a).2.2.i λ_ k=>⟨(aZ (T5 a)).t k.1,k.2⟩⟩,λj b hl=>⟨λhi=>((h.tl j b hl).1 hi).set,(h.tl j b hl).2⟩⟩
structure abH where
 B2:Option ag
 K2:Nat
 p2:Nat
 B3:Option ag
 K3:Nat
 p3:Nat
 K4:Nat
 p4:Nat
 B5:Option ag
 K5:Nat
 p5:Nat
abbrev CD.KD(C:CD)(Y:abH)(f:Nat->iJ):CD:=
 { C with b2:=Y.B2,k2:=Y.K2,o2:=0,c2:=Y.p2,b3:=Y.B3,k3:=Y.K3,o3:=0,c3:=Y.p3,b4:=dO ⟨Y.K4,0,dQ⟩,k4:=Y.K4,o4:=0,c4:=Y.p4,x4:=f,b5:=Y.B5,k5:=Y.K5,o5:=0,c5:=Y.p5 }
def acC.refl(x:iJ):acC x x:=⟨rfl,rfl,rfl,rfl,λh k=>⟨h,k⟩⟩
def yd.avC{g c:Nat}(h:yd q O C Y)(hi:O<C.n4)(hv:(0<(C.x4 O).ln->R=dO ⟨g,0,dQ⟩/\∃cur,Y.heap[g]?=dO (ol cur 3)/\cur.toList.take ((C.x4 O).ln*1)=rowOf (acz (C.x4 O)) (C.x4 O).ln)) :
 yd q (O+1) { C with x4:=λj=>if j=O then { C.x4 j with lb:=R,lk:=g,lo:=0,lc:=c } else C.x4 j } (em Y ⟨C.k4,O*12+11,dQ⟩ (f6 R (C.x4 O).ln c)):=by
 refine h.arA hi ao (λj a=>if_neg a) (λb' l=>?_) aS (λhl=>?_) ?_ (λj a hl=>?_)
 .rw[if_pos rfl];by_cases e:b'=11
  .subst e;rfl
  .rw[if_neg e];by_cases d:b'=0
   .subst d;rfl
   .rw[aam _ ab ab,aam _ ab ab]
 .grind
 .rw[if_pos rfl];by_cases hl:0<(C.x4 O).ln
  .obtain⟨_,cur,b,f⟩:=hv hl;exact(j9.of (m:=1) (λ_=>rfl) b f).1
  .intro j a;grind
 .by_cases e:j=O
  .subst e;rw[if_pos rfl]at hl ⊢;obtain⟨_,cur,b,_⟩:=hv hl;exact⟨λ_=>⟨cur,b⟩,λh=>ab⟩
  .rw[if_neg e]at hl ⊢;exact⟨λk=>(h.tl j a hl).1 ab,λk=>(h.tl j a hl).2 ab⟩
def yd.avD{n0:Nat}{D:CD}{W:ad}(h:yd n0 D.n4 D W){p r:Nat}(b:p<D.n4)(d:1<=r/\r<=10)(x:Int) :
 yd n0 D.n4 { D with x4:=λj=>if j=p then { D.x4 j with n:=λq=>if q=r then x else(D.x4 j).n q } else D.x4 j } (em W ⟨D.k4,p*12+r,dQ⟩ (fA fm x)):=by
 refine h.arA (i':=D.n4) b ab (λj a=>if_neg a) (λq f=>?_) aS (λhl=>?_) ?_ (λj a hl=>?_)
 .rw[if_pos rfl];by_cases c:q=0
  .subst c;rw[if_neg ab];rfl
  .by_cases e1:q=11
   .subst e1;rw[if_neg ab];rfl
   .rw[aam _ ab ab,aam _ ab ab];grind
 .rw[if_pos rfl]at hl ⊢;exact h.mem.l4 p b hl
 .rw[if_pos rfl];exact h.mem.rl p b
 .by_cases e:j=p
  .subst e;rw[if_pos rfl]at hl ⊢;exact h.tl j a hl
  .rw[if_neg e]at hl ⊢;exact h.tl j a hl
abbrev RX:Array ac:=#[fA fm 0,fA fm 0,f6 dQ 0 0,f6 dQ 0 0,f6 dQ 0 0,f6 dQ 0 0]
structure KO(V:Array ac)(w W:ad):Prop where
 box:W.heap[w.heap.size]?=dO (ol V 27)
 res:W.heap[w.heap.size+1]?=dO (ol RX 27)
 low:bL w W
def KO.on{V:Array ac}{W b:ad}(h:KO V Y W)(a:bL W b):KO V Y b:=
 ⟨(a.k _ (kc h.box)).t h.box,(a.k _ (kc h.res)).t h.res,nt h.low a⟩
def KO.start(V:Array ac)(w:ad):KO V w (eb (eb w (ol V 27)) (ol RX 27)):=by
 refine⟨?_,?_,((j6 _ _).a (dk _) _).a ar _⟩
 .exact(((j6 (eb w (ol V 27)).heap.size _).a (dk _) _).k _ ar).t (au w _)
 .have a:=au (eb w (ol V 27)) (ol RX 27);rw[ep]at a;exact a
def RY(C:CD)(w:ad)(i:Nat)(vs:Nat->ac)(W:ad):Prop:=
 (i=2->Clo w W 30 2 C.n2 C.arw C.b2 (vs 2))/\(i=5->Clo w W 93 3 C.n3 C.arx C.b3 (vs 5))/\(i=8->Clo w W 49 12 C.n4 C.afs C.b4 (vs 8))/\(i=11->Clo w W 51 3 C.n5 C.adP C.b5 (vs 11))
def VP{W b:ad}{vs:Nat->ac}(a:bL W b)(h:RY C Y q vs W):RY C Y q vs b:=
 ⟨λe=>(h.1 e).on a,λe=>(h.2.1 e).on a,λe=>(h.2.2.1 e).on a,λe=>(h.2.2.2 e).on a⟩
def RZ{W:ad}{vs b:Nat->ac}(a:vs q=b q)(h:RY C Y q vs W):RY C Y q b W:=
 ⟨λe=>by subst e;rw[<-a];exact h.1 rfl,λe=>by subst e;rw[<-a];exact h.2.1 rfl,λe=>by subst e;rw[<-a];exact h.2.2.1 rfl,λe=>by subst e;rw[<-a];exact h.2.2.2 rfl⟩
def Clo.pick{w W:ad}{e m n d:Nat}{row:List ac}{b:Option ag}{v:ac}(h:Clo w W e m n row b v)(hd:d<W.heap.size):∃B c K,v=f6 B n c/\(b=dQ->B=dQ/\c=0)/\K<W.heap.size/\(0<n->B=dO ⟨K,0,dQ⟩/\w.heap.size<=K/\∃cur,W.heap[K]?=dO (ol cur e)/\cur.toList.take (n*m)=row):=by
 obtain⟨B,c,hv,a,i⟩:=h;by_cases f:0<n
 .obtain⟨g,cur,a1,a2,a3,a4⟩:=i f;exact⟨B,c,g,hv,a,kc a3,λ_=>⟨a1,a2,cur,a3,a4⟩⟩
 .exact⟨B,c,d,hv,a,hd,λh=>absurd h f⟩
def abz{e K:Nat}{n0:Nat}(a:∀i,(J i).length=O)(h:0<q->R=dO ⟨K,0,dQ⟩/\n0<=K/\∃cur,Y.heap[K]?=dO (ol cur e)/\cur.toList.take (q*O)=rowOf J q):j9 Y K 0 q O J:=by
 by_cases b:0<q
 .obtain⟨_,_,cur,c,d⟩:=h b;exact(j9.of a c d).1
 .intro i hi;omega
def acd(C:CD)(f:Nat->iJ):Prop:=(∀j,acC (C.x4 j) (f j))/\∀j,j<C.n4->(f j).lo=0
structure KI(C:CD)(Y:abH)(w:ad)(i:Nat)(f:Nat->iJ)(W:ad):Prop where
 box:W.heap[w.heap.size]?=dO (ol (C.KD Y f).val 27)
 res:W.heap[w.heap.size+1]?=dO (ol RX 27)
 low:bL w W
 own:yd w.heap.size i (C.KD Y f) W
 KD:∀j,acC (C.x4 j) (f j)
 old:∀j,i<=j->f j=C.x4 j
 zero:∀j,j<i->(f j).lo=0
def KI.on{C:CD}{Y:abH}{w:ad}{i:Nat}{f:Nat->iJ}{W b:ad}(h:KI C Y w i f W)(a:bL W b):KI C Y w i f b:=
 ⟨(a.k _ (kc h.box)).t h.box,(a.k _ (kc h.res)).t h.res,nt h.low a,h.own.on a,h.KD,h.old,h.zero⟩
def KI.lane{C:CD}{Y:abH}{w wr:ad}{i:Nat}{f:Nat->iJ}{W:ad}(h:KI C Y w i f W)(hi:i<C.n4){B:Option ag}{c K:Nat}(l:(f i).lb=dQ->B=dQ/\c=0)(d:0<(f i).ln->B=dO ⟨K,0,dQ⟩/\wr.heap.size<=K/\∃cur,W.heap[K]?=dO (ol cur 3)/\cur.toList.take ((f i).ln*1)=rowOf (acz (f i)) (f i).ln) :
 KI C Y w (i+1) (λj=>if j=i then { f j with lb:=B,lk:=K,lo:=0,lc:=c } else f j) (em W ⟨Y.K4,i*12+11,dQ⟩ (f6 B (f i).ln c)):=by
 have g:Typ W Y.K4 49:=h.own.t4.2.2.i λ_ k=>k.1;have m:w.heap.size<=Y.K4:=h.own.t4.1;refine⟨(aZ (g.ne ⟨_,h.box⟩ ao)).t h.box,(aZ (g.ne ⟨_,h.res⟩ ao)).t h.res,h.low.s (p:=⟨Y.K4,_,dQ⟩) m _,h.own.avC hi λhl=>⟨(d hl).1,(d hl).2.2⟩,λj=>?_,λj o=>?_,λj o=>?_⟩
 .by_cases e:j=i
  .subst e;rw[if_pos rfl];have k:=h.KD j;have q:=h.old j (dk _);exact⟨k.name,k.n,k.ln,k.lane,λa b=>l (by rw[q];exact a)⟩
  .rw[if_neg e];exact h.KD j
 .rw[if_neg ab];exact h.old j ab
 .by_cases e:j=i
  .rw[if_pos e]
  .rw[if_neg e];exact h.zero j ab
def yd.ag4(h:yd q O C Y){K:Nat}(a:Typ Y K 27)(hl:q<=K)(u0 u1 u2 u3 u4 u5:ac):yd q O C (em (em (em (em (em (em Y ⟨K,0,dQ⟩ u0) ⟨K,1,dQ⟩ u1) ⟨K,2,dQ⟩ u2) ⟨K,3,dQ⟩ u3) ⟨K,4,dQ⟩ u4) ⟨K,5,dQ⟩ u5):=
 (((((h.other a 0 u0 hl).other a.set 1 u1 hl).other a.set.set 2 u2 hl).other a.set.set.set 3 u3 hl).other a.set.set.set.set 4 u4 hl).other a.set.set.set.set.set 5 u5 hl
def ahS(C:CD)(w:ad)(h:C.At w)(h4:0<C.n4):bj PL 48 #[fR C.val] w λe w'=>∃Y f,e=qr (fR (C.KD Y f).val)/\acd C f/\yd w.heap.size C.n4 (C.KD Y f) w'/\bL w w':=by
 have HX:Hid (∀W,bL w W->Q2 C W):=j5 λW d=>(h.below d).rows;have HL:Hid (∀j,j<C.n4->0<(C.x4 j).ln->(C.x4 j).lk<w.heap.size):=j5 λj L hl=>(h.l4 j L hl).2;have K0:=j5 (KO.start C.val w);have m4:=h.m4;clear h;go_enter (fx ao Tryz.func48),Tryz.ntmps48;go_wp2;refine ce ?_;refine cT 13 (KO C.val w) (λW r=>bL W r) (λj=>j % 3 != 2||j==12) (RY C w) rfl ae ae (λ_ _ _ _ D h=>VP D h) (λ_ _ _ _ _ _ he _ h=>RZ he h) ?_ ?_
 .exact K0.o.on (j6 _ _).d
 .simp only[i9,jf]
  iterate 13 (
   first
   |(apply aY
     case hE=>rfl
     case h=>
      intro vs W b hd;obtain⟨s,t,u,y,f4,z⟩:=bf b.box;go_simp;exact⟨rfl,j6 _ _⟩
     case hb=>exact E0)
   |(apply eH
     case hE=>rfl
     case h=>
      intro vs W b hd;have Q:=HX.o W b.low;have hs:=b.low.z;go_simp
      first
      |(go_at_call 78;refine(al7 _ _ _ _ _ Q.avx).m ?_;rintro e r⟨v,rfl,q,d⟩;exact⟨_,rfl,b.on d,d,⟨(λ_=>q.low hs),(br),(br),(br)⟩⟩)
      |(go_at_call 79;refine(al8 _ _ _ _ _ Q.avy).m ?_;rintro e r⟨v,rfl,q,d⟩;exact⟨_,rfl,b.on d,d,⟨(br),(λ_=>q.low hs),(br),(br)⟩⟩)
      |(go_at_call 80;refine(al9 _ _ _ _ _ Q.ary).m ?_;rintro e r⟨v,rfl,q,d⟩;exact⟨_,rfl,b.on d,d,⟨(br),(br),(λ_=>q.low hs),(br)⟩⟩)
      |(go_at_call 81;refine(ala _ _ _ _ _ Q.arz).m ?_;rintro e r⟨v,rfl,q,d⟩;exact⟨_,rfl,b.on d,d,⟨(br),(br),(br),(λ_=>q.low hs)⟩⟩)
     case hb=>exact E0))
  refine cP λvs W b hd=>?_;have h2:=((hd 2 ab rfl).1 rfl)
  have h3:=((hd 5 ab rfl).2.1 rfl)
  have M:=((hd 8 ab rfl).2.2.1 rfl)
  have h5:=((hd 11 ab rfl).2.2.2 rfl)
  have A:=j5 b;have N:=kc b.box;clear hd b;obtain⟨R,S,K2,e2,_,l2,q2⟩:=h2.pick N;obtain⟨T,U,g,e3,_,l3,q3⟩:=h3.pick N;obtain⟨B4,V,X,e4,_,l4,q4⟩:=M.pick N;obtain⟨B5,Z,K5,e5,_,l5,q5⟩:=h5.pick N;obtain⟨rfl,g4,q4⟩:=q4 h4;rw[e2,e3,e4,e5];obtain⟨Y,hY⟩:=bs (⟨R,K2,S,T,g,U,X,V,B5,K5,Z⟩:abH)
  have KK:Hid (KI C Y w 0 C.x4 (em (em (em (em W ⟨w.heap.size,2,dQ⟩ (f6 R C.n2 S)) ⟨w.heap.size,3,dQ⟩ (f6 T C.n3 U)) ⟨w.heap.size,4,dQ⟩ (f6 (dO ⟨X,0,dQ⟩) C.n4 V)) ⟨w.heap.size,5,dQ⟩ (f6 B5 C.n5 Z))):=j5 (by
   subst hY;have m:=HX.o W A.o.low;have T0:Typ W w.heap.size 27:=⟨_,A.o.box⟩
   have O0:yd w.heap.size 0 (C.KD ⟨R,K2,S,T,g,U,X,V,B5,K5,Z⟩ C.x4) W:=by
    obtain⟨c4,E,O⟩:=q4;refine⟨⟨m.m2,m.m3,m.m4,m.m5,l2,l3,l4,l5,λn=>(q2 n).1,λn=>(q3 n).1,λ_=>rfl,λn=>(q5 n).1,abz (λ_=>rfl) q2,abz (λ_=>rfl) q3,(j9.of (λ_=>aaJ _) E O).1,abz (λ_=>rfl) q5,m.cu,m.nm5,m.l4,m.rl⟩,λn=>(q2 n).2.2.i λ_ k=>k.1,λn=>(q3 n).2.2.i λ_ k=>k.1,⟨g4,rfl,c4,E,(j9.of (λ_=>aaJ _) E O).2⟩,λn=>?_,λj L hl=>⟨λh=>absurd h (eI _),λ_=>HL.o j L hl⟩⟩;obtain⟨_,a,c,e,k⟩:=q5 n;exact⟨a,rfl,c,e,(j9.of (m:=3) (λ_=>rfl) e k).2⟩
   have ne:w.heap.size≠w.heap.size+1:=ab;refine⟨Fe (Fe (Fe (Fe A.o.box))),?_,(((A.o.low.s (p:=⟨w.heap.size,2,dQ⟩) (dk _) _).s (p:=⟨w.heap.size,3,dQ⟩) (dk _) _).s (p:=⟨w.heap.size,4,dQ⟩) (dk _) _).s (p:=⟨w.heap.size,5,dQ⟩) (dk _) _,(((O0.other T0 2 _ (dk _)).other T0.set 3 _ (dk _)).other T0.set.set 4 _ (dk _)).other T0.set.set.set 5 _ (dk _),λj=>acC.refl _,λ_ _=>rfl,λj L=>absurd L (eI _)⟩
   rw[aZ ne,aZ ne,aZ ne,aZ ne];exact A.o.res)
  obtain⟨s,t,u,y,f4,z⟩:=bf A.o.box;have fz:=tO A.o.box;clear h2 h3 M h5 q2 q3 q4 q5 e2 e3 e4 e5 l2 l3 l4 l5 g4;simp only[jk,jn]
  go_upto_region 2 with fail
  refine NoPanic.normal ?_;obtain⟨W1,mG⟩:=bs (em (em (em (em W ⟨w.heap.size,2,dQ⟩ (f6 R C.n2 S)) ⟨w.heap.size,3,dQ⟩ (f6 T C.n3 U)) ⟨w.heap.size,4,dQ⟩ (f6 (dO ⟨X,0,dQ⟩) C.n4 V)) ⟨w.heap.size,5,dQ⟩ (f6 B5 C.n5 Z));rw[<-mG]at KK ⊢;have P:Hid (W1.heap[w.heap.size]?=dO (ol #[fA fm C.l,fA fm C.p,f6 Y.B2 C.n2 Y.p2,f6 Y.B3 C.n3 Y.p3,f6 (dO ⟨Y.K4,0,dQ⟩) C.n4 Y.p4,f6 Y.B5 C.n5 Y.p5] 27)):=j5 KK.o.box;clear mG s t u y f4 z fz N A hY;obtain⟨s,t,u,y,f4,z⟩:=bf P.o
  go_upto_region 3 with fail
  go_loopw [23] (λF wr=>∃(i:Nat)(f:Nat->iJ),i<=C.n4/\F=fA fm i/\KI C Y w i f wr) (λF _=>C.n4-(intOf F).toNat)
  case atStart=>exact⟨0,C.x4,eF _,rfl,KK.o⟩
  case round=>
   obtain⟨i,f,hi,rfl,hK⟩:=hrel;have g:=j5 hK;clear hK s t u y f4 z P KK;have H:Hid (∀W,KI C Y w i f W->W.heap[w.heap.size]?=dO (ol #[fA fm C.l,fA fm C.p,f6 Y.B2 C.n2 Y.p2,f6 Y.B3 C.n3 Y.p3,f6 (dO ⟨Y.K4,0,dQ⟩) C.n4 Y.p4,f6 Y.B5 C.n5 Y.p5] 27)):=j5 λW h=>h.box;by_cases aH:i<C.n4
   .have i1:(i:Int)<C.n4:=ab;obtain⟨x,hx⟩:=bs (f i);have FL:Hid (∀W,KI C Y w i f W->d9 W ⟨Y.K4,i*12+11,dQ⟩=dO (f6 x.lb x.ln x.lc)):=j5 λW h=>by
     have:=h.own.mem.r4 i aH 11 ao;have e:(⟨(C.KD Y f).k4,(C.KD Y f).o4+i*12+11,dQ⟩:ag)=⟨Y.K4,i*12+11,dQ⟩:=by show(⟨Y.K4,0+i*12+11,dQ⟩:ag)=_;rw[ei]
     rw[e]at this;rw[this,hx];rfl
    have SL:Hid (∀W,KI C Y w i f W->aay W x.lb x.ln 1 (rowOf (acz x) x.ln)):=j5 λW h=>by rw[hx];exact h.own.mem.avz aH
    have I:=j5 hx;clear hx
    go_upto_region 5 with fail
    refine ce ?_;refine cT 10 (λW=>KI C Y w i f W/\wr.heap.size<=W.heap.size) (λW r=>bL W r) (λj=>j != 9) (λj vs W=>j=9->Clo wr W 3 1 x.ln (rowOf (acz x) x.ln) x.lb (vs 9)) rfl ae ae (λ_ _ _ _ D h e=>(h e).on D) (λj _ _ vs eX W he _ h e=>by subst e;rw[<-he];exact h rfl) ?_ ?_
    .exact⟨g.o.on (j6 _ _).d,dk _⟩
    simp only[i9,jf]
    iterate 10 (
     first
     |(apply aY
       case hE=>rfl
       case h=>
        rintro vs W⟨b,Cu⟩hd;obtain⟨s,t,u,y,f4,z⟩:=bf (H.o W b);have fl:=FL.o W b;go_simp
        first
        |exact⟨rfl,b,j6 _ _⟩
        |exact⟨rfl,j6 _ _⟩
        |exact rfl
       case hb=>exact E0)
     |(apply eH
       case hE=>rfl
       case h=>
        rintro vs W⟨b,Cu⟩hd;have hS:=SL.o W b;go_simp
        (go_at_call 40;refine(afA _ _ _ _ _ hS).m ?_;rintro e r⟨v,rfl,q,d⟩;exact⟨_,rfl,⟨b.on d,da Cu d.z⟩,d,q.low Cu⟩)
       case hb=>exact E0))
    refine cP λvs W b hd=>?_;obtain⟨b,Cu⟩:=b;have h9:=hd 9 ab rfl rfl;have K4':=j5 b;obtain⟨s,t,u,y,f4,z⟩:=bf (H.o W b);have fl:=FL.o W b;have fz:∀o,World.frozen? W ⟨Y.K4,o,dQ⟩=dU:=b.own.t4.2.2.e λ_ k=>tO k.1;obtain⟨B,c,K,e9,h0,_,hq⟩:=h9.pick (kc b.box);rw[e9];have HQ:=j5 (n6 h0 hq);clear h9 hd b e9 h0 hq;simp only[jk,jn]
    go_upto_region 6 with fail
    refine NoPanic.normal ?_;have KN:=j5 (K4'.o.lane (B:=B) (c:=c) (K:=K) aH (by rw[<-I.o];exact HQ.o.1) (by rw[<-I.o];exact HQ.o.2));rw[<-I.o]at KN;clear s t u y f4 z fl fz;go_wp2;exact⟨⟨i+1,_,aH,by go_num,KN.o⟩,by simp only[intOf];omega⟩
   .obtain rfl:i=C.n4:=ab;obtain⟨s,t,u,y,f4,z⟩:=bf (H.o _ g.o);have J:=g.o.res;obtain⟨y0,y1,y2,y3,y4,y5⟩:=bf J;have fz:=tO J;have hzr:=kc J;clear J;go_wp2;have J:=g.o.res;have hWF:=nC (u0:=fA fm C.l) (u1:=fA fm C.p) (u2:=f6 Y.B2 C.n2 Y.p2) (u3:=f6 Y.B3 C.n3 Y.p3) (u4:=f6 (dO ⟨Y.K4,0,dQ⟩) C.n4 Y.p4) (u5:=f6 Y.B5 C.n5 Y.p5) J;refine bm (v:=fR (C.KD Y f).val) ?_ rfl ⟨Y,f,rfl,⟨g.o.KD,g.o.zero⟩,g.o.own.ag4 ⟨_,J⟩ (n1 _) _ _ _ _ _ _,nV g.o.low ab _ _ _ _ _ _⟩;obtain⟨a0,a1,a2,a3,a4,a5⟩:=bf hWF;simp[bq,Tryz.results48,go_sem,a0,a1,a2,a3,a4,a5]
abbrev CD.j8(C:CD)(ds:List Int):CD:={ C with x5:=λi=>((C.x5 i).1,(C.x5 i).2.1,ds.getD i (C.x5 i).2.2) }
def yd.zu{n0 a:Nat}{D:CD}{W:ad}(h:yd n0 D.n4 D W)(b:a<=n0):yd a D.n4 D W:=
 ⟨h.mem,h.t2,h.t3,⟨da b h.t4.1,h.t4.2⟩,λk=>⟨da b (h.t5 k).1,(h.t5 k).2⟩,λj c hl=>⟨(h.tl j c hl).1,λhi=>ab⟩⟩
structure KJ(C:CD)(Y:abH)(f:Nat->iJ)(w:ad)(B:Nat)(ds:List Int)(i:Nat)(W:ad):Prop where
 own:yd w.heap.size C.n4 ((C.j8 (ds.take i)).KD Y f) W
 box:W.heap[B]?=dO (ol (C.KD Y f).val 27)
 res:W.heap[w.heap.size+1]?=dO (ol RX 27)
 low:bL w W
def ahT(C:CD)(ds:List Int){i:Nat}(hi:i<ds.length):(λj=>if j=i then(((C.j8 (ds.take i)).x5 j).1,((C.j8 (ds.take i)).x5 j).2.1,ds.getD i 0) else(C.j8 (ds.take i)).x5 j)=(C.j8 (ds.take (i+1))).x5:=by
 funext j;by_cases e:j=i
 .subst e;rw[if_pos rfl];simp[et,pw,hi]
 .rw[if_neg e];simp only[et,pw];by_cases h:j<i
  .rw[if_pos h,if_pos ab]
  .rw[if_neg h,if_neg ab]
def KJ.next{B:abH}{f:Nat->iJ}{ds:List Int}{W:ad}(h:KJ C B f Y q ds O W)(hi:O<ds.length)(a:O<C.n5):KJ C B f Y q ds (O+1) (em W ⟨B.K5,O*3+2,dQ⟩ (fA fm (ds.getD O 0))):=by
 have b:0<C.n5:=ab;obtain⟨c,_,d,hc,_⟩:=h.own.t5 b;have o:=h.own.avA a (ds.getD O 0);have e:=ahT C ds hi;refine⟨?_,(aZ (iu hc h.box ao)).t h.box,(aZ (iu hc h.res ao)).t h.res,h.low.s (p:=⟨B.K5,_,dQ⟩) c _⟩;rw[show((C.j8 (ds.take (O+1))).KD B f)={ (C.j8 (ds.take O)).KD B f with x5:=(C.j8 (ds.take (O+1))).x5 } from rfl,<-e];exact o
def ac1(C:CD)(ds:List Int)(v:ac)(w:ad)(h:C.At w)(V:0<C.n4)(hv:bB w v ds)(hd:ds.length<=C.n5):bj PL 39 #[fR C.val,v] w λe w'=>∃Y f,e=qr (fR (C.KD Y f).val)/\acd C f/\yd w.heap.size C.n4 ((C.j8 ds).KD Y f) w'/\bL w w':=by
 obtain⟨b,c,rfl,N⟩:=hv;obtain⟨q,s,t⟩:∃q s,0<ds.length->b=dO ⟨q,s,dQ⟩/\q<w.heap.size/\∀j,j<ds.length->d9 w ⟨q,s+j,dQ⟩=dO (fA fm (ds.getD j 0)):=by
  by_cases r:0<ds.length
  .obtain⟨k,o,e,X,hc⟩:=N r;exact⟨k,o,λ_=>⟨e,X,λj hj=>hc j ab⟩⟩
  .exact⟨0,0,λh=>absurd h r⟩
 have O:=j5 t;have m5:=h.m5;have Z:Hid (∀W,bL w W->bj PL 48 #[fR C.val] W λe w'=>∃Y f,e=qr (fR (C.KD Y f).val)/\acd C f/\yd W.heap.size C.n4 (C.KD Y f) w'/\bL W w'):=j5 λW hB=>ahS C W (h.below hB) V;have d:=j5 (KO.start C.val w);obtain⟨n,r⟩:=bs ds.length;rw[<-r]at O ⊢;have hd':n<=C.n5:=ab;have P:=j5 r;clear h N t r hd;go_enter (fx ao Tryz.func39),Tryz.ntmps39
 go_upto_region 1 with fail
 obtain⟨f0,f1,f2,f3,f4,f5⟩:=bf d.o.box;have Q:=kc d.o.res
 go_upto_region 2 with(go_at_call 48;refine(Z.o _ d.o.low).m ?_;rintro e w1⟨Y,f,rfl,u,R,A⟩;have HP:=j5 u;have HO:=j5 R;have z:=j5 A;clear u R)
 have B:Hid (KJ C Y f w w1.heap.size ds 0 (eb w1 (ol (C.KD Y f).val 27))):=j5 (by
  have E:bL w1 (eb w1 (ol (C.KD Y f).val 27)):=(j6 _ _).a (dk _) _;refine⟨?_,au _ _,((z.o.t (E.mono z.o.z)).k _ Q).t d.o.res,d.o.low.t ((z.o.t (E.mono z.o.z)).mono d.o.low.z)⟩;rw[jf]
  exact yd.zu (D:=C.KD Y f) (HO.o.on E) d.o.low.z)
 obtain⟨F,H⟩:=bs (eb w1 (ol (C.KD Y f).val 27));have Z1:w.heap.size+1<w1.heap.size:=bT Q A.z;rw[<-H]at B;rw[show eb w1 (ol #[fA fm C.l,fA fm C.p,f6 Y.B2 C.n2 Y.p2,f6 Y.B3 C.n3 Y.p3,f6 (dO ⟨Y.K4,0,dQ⟩) C.n4 Y.p4,f6 Y.B5 C.n5 Y.p5] 27)=F from H.y];clear H f0 f1 f2 f3 f4 f5 A;have BX:Hid (∀i W,KJ C Y f w w1.heap.size ds i W->W.heap[w1.heap.size]?=dO (ol #[fA fm C.l,fA fm C.p,f6 Y.B2 C.n2 Y.p2,f6 Y.B3 C.n3 Y.p3,f6 (dO ⟨Y.K4,0,dQ⟩) C.n4 Y.p4,f6 Y.B5 C.n5 Y.p5] 27)):=j5 λi W h=>h.box
 go_upto_region 3 with fail
 go_loopw [12] (λg wr=>∃i:Nat,i<=n/\g=fA fm i/\KJ C Y f w w1.heap.size ds i wr) (λg _=>n-(intOf g).toNat)
 case atStart=>exact⟨0,eF _,rfl,B.o⟩
 case round=>
  obtain⟨i,hi,rfl,S⟩:=hrel;have a:=j5 S;clear S B;obtain⟨g0,g1,g2,g3,g4,g5⟩:=bf (BX.o _ _ a.o);by_cases I:i<n
  .have i1:(i:Int)<n:=ab;have i5:(i:Int)<C.n5:=ab;obtain⟨rfl,VQ,T⟩:=O.o ab;obtain⟨x,J⟩:=bs (ds.getD i 0);have ed:d9 wr ⟨q,s+i,dQ⟩=dO (fA fm x):=by rw[J];exact(a.o.low.c (p:=⟨q,s+i,dQ⟩) VQ).t (T i I)
   have y:=j5 J;have e5:Y.B5=dO ⟨Y.K5,0,dQ⟩:=a.o.own.mem.s5 (by show 0<C.n5;omega);rw[e5]at g5;obtain⟨_,_,K,hc,_⟩:=a.o.own.t5 (by show 0<C.n5;omega);have hc:wr.heap[Y.K5]?=dO (ol K 51):=hc;have fz:=tO hc;obtain⟨U,hdd⟩:∃U,d9 wr ⟨Y.K5,i*3+2,dQ⟩=dO (fA fm U):=by
    have:=a.o.own.mem.r5 i (by show i<C.n5;omega) 2 ao;have e:(⟨((C.j8 (ds.take i)).KD Y f).k5,((C.j8 (ds.take i)).KD Y f).o5+i*3+2,dQ⟩:ag)=⟨Y.K5,i*3+2,dQ⟩:=by show(⟨Y.K5,0+i*3+2,dQ⟩:ag)=_;rw[ei]
    rw[e]at this;exact⟨_,this⟩
   have KN:=j5 (a.o.next (by rw[<-P.o];exact I) ab);rw[<-y.o]at KN;clear J T hc e5 y;go_wp2;exact⟨⟨i+1,I,by go_num,KN.o⟩,by simp only[intOf];omega⟩
  .obtain rfl:i=n:=ab;have m:=a.o.res;obtain⟨y0,y1,y2,y3,y4,y5⟩:=bf m;have fz:=tO m;have hzr:=kc m;clear m;go_wp2;have m:=a.o.res;have L:=nC (u0:=fA fm C.l) (u1:=fA fm C.p) (u2:=f6 Y.B2 C.n2 Y.p2) (u3:=f6 Y.B3 C.n3 Y.p3) (u4:=f6 (dO ⟨Y.K4,0,dQ⟩) C.n4 Y.p4) (u5:=f6 Y.B5 C.n5 Y.p5) m;have M:=a.o.own;rw[P.o,List.take_length]at M;refine bm (v:=fR (C.KD Y f).val) ?_ rfl ⟨Y,f,rfl,HP.o,M.ag4 ⟨_,m⟩ (n1 _) _ _ _ _ _ _,nV a.o.low ab _ _ _ _ _ _⟩;clear M;obtain⟨a0,a1,a2,a3,a4,a5⟩:=bf L;simp[bq,Tryz.results39,go_sem,a0,a1,a2,a3,a4,a5]
def uK{n:Int}(h:bO n 0 12=d8)(w:ad):bj PL 41 #[fA fm n] w λe w'=>e=qr (f7 d8)/\w=w':=by
 have:=o8 n w;rw[h]at this;exact this.m λ_ _ k=>⟨k.1,k.2.y⟩
def ac2(C:CD)(ds:List Int)(v:ac)(w:ad)(h:C.At w)(R:0<C.n4)(hc:C.cx=0)(hv:bB w v ds)(hd:ds.length=C.n5)(hb:∀i,i<ds.length->bO (ds.getD i 0) 0 12=d8):bj PL 14 #[fR C.val,v] w λe w'=>∃Y f,e=qr (gc #[fR (C.KD Y f).val,fA fm 0])/\acd C f/\yd w.heap.size C.n4 ((C.j8 ds).KD Y f) w'/\bL w w':=by
 have t:Hid (∀W,bL w W->bB W v ds):=j5 λW g=>hv.on g;obtain⟨b,c,rfl,B⟩:=hv;obtain⟨m,n,a⟩:∃m n,0<ds.length->b=dO ⟨m,n,dQ⟩/\m<w.heap.size/\∀j,j<ds.length->d9 w ⟨m,n+j,dQ⟩=dO (fA fm (ds.getD j 0)):=by
  by_cases E:0<ds.length
  .obtain⟨k,o,e,S,hc⟩:=B E;exact⟨k,o,λ_=>⟨e,S,λj hj=>hc j ab⟩⟩
  .exact⟨0,0,λh=>absurd h E⟩
 rw[hd]at hb a t ⊢;have T:=j5 a;have U:=j5 hb;have m5:=h.m5;have V:Hid (∀W,bL w W->bj PL 37 #[fR C.val] W (aO (fA fm 0) W)):=j5 λW g=>sY hc (h.below g);have X:Hid (∀W,bL w W->bj PL 39 #[fR C.val,f6 b C.n5 c] W λe w'=>∃Y f,e=qr (fR (C.KD Y f).val)/\acd C f/\yd W.heap.size C.n4 ((C.j8 ds).KD Y f) w'/\bL W w'):=j5 λW g=>ac1 C ds _ W (h.below g) R (t.o W g) (Nat.le_of_eq hd);have u:=j5 (KO.start C.val w);clear h hc B a hb hd t;go_enter (fx ao Tryz.func14),Tryz.ntmps14
 go_upto_region 1 with fail
 obtain⟨F,H,I,J,f4,K⟩:=bf u.o.box
 go_upto_region 7 with(go_at_call 37;refine(V.o _ u.o.low).m ?_;rintro e w1⟨rfl,L⟩;have q:=j5 (u.o.on L);clear L F H I J f4 K;obtain⟨F,H,I,J,f4,K⟩:=bf q.o.box)
 go_loop [24] (λd=>∃i:Nat,i<=C.n5/\d=fA fm i) (λd=>C.n5-(intOf d).toNat)
 case atStart=>exact⟨0,eF _,rfl⟩
 case round=>
  obtain⟨i,hi,rfl⟩:=hrel;by_cases y:i<C.n5
  .have Z:(i:Int)<C.n5:=ab;obtain⟨rfl,VQ,M⟩:=T.o ab;obtain⟨x,z⟩:=bs (ds.getD i 0);have ed:d9 w1 ⟨m,n+i,dQ⟩=dO (fA fm x):=by rw[z];exact(q.o.low.c (p:=⟨m,n+i,dQ⟩) VQ).t (M i y)
   have jM:Hid (bO x 0 12=d8):=j5 (by rw[z];exact U.o i y);clear z M
   go_wp2_with (go_at_call 41;refine(uK jM.o _).m ?_;rintro e w'⟨rfl,rfl⟩)
   exact⟨⟨i+1,y,by go_num⟩,by simp only[intOf];omega⟩
  .have Z:¬((i:Int)<C.n5):=ab
   go_wp2_with (go_at_call 39;refine(X.o _ q.o.low).m ?_;rintro e w2⟨Y,f,rfl,r,N,O⟩;have HP:=j5 r;have HO:=j5 N;have s:=j5 (q.o.on O);clear r N O;obtain⟨y0,y1,y2,y3,y4,y5⟩:=bf s.o.res;have fz:=tO s.o.res)
   have P:=s.o.res;have A:=nC (u0:=fA fm C.l) (u1:=fA fm C.p) (u2:=f6 Y.B2 C.n2 Y.p2) (u3:=f6 Y.B3 C.n3 Y.p3) (u4:=f6 (dO ⟨Y.K4,0,dQ⟩) C.n4 Y.p4) (u5:=f6 Y.B5 C.n5 Y.p5) P;have Q:=yd.zu (D:=(C.j8 ds).KD Y f) HO.o q.o.low.z;refine bm (v:=gc #[fR (C.KD Y f).val,fA fm 0]) ?_ rfl ⟨Y,f,rfl,HP.o,Q.ag4 ⟨_,P⟩ (n1 _) _ _ _ _ _ _,nV s.o.low ab _ _ _ _ _ _⟩;clear Q;obtain⟨a0,a1,a2,a3,a4,a5⟩:=bf A;simp[bq,Tryz.results14,go_sem,a0,a1,a2,a3,a4,a5]
structure CJ(W:ad)(k2 k3 k4 k5 la ca lb cb:Nat)(d:Int):Prop where
 r2:Row W k2 vT
 r3:Row W k3 vU
 r4:Row W k4 (rO la ca lb cb)
 r5:Row W k5 (qB d)
 ra:Row W la [bh 1]
 rb:Row W lb [bh 2]
def CJ.on{W b:ad}{k2 k3 c e f ca lb g:Nat}{d:Int}(h:CJ W k2 k3 c e f ca lb g d)(a:bL W b):CJ b k2 k3 c e f ca lb g d:=
 ⟨h.r2.on a,h.r3.on a,h.r4.on a,h.r5.on a,h.ra.on a,h.rb.on a⟩
def CJ.at{k3 c3 a g b i c ca lb e:Nat}{d:Int}(h:CJ Y q k3 a b c ca lb e d):(ir q O k3 c3 a g b i c ca lb e d).At Y:=Rx h.r2 h.r3 h.r4 h.r5 h.ra h.rb
def yQ{k3 c3 b c e f g ca lb h:Nat}{d:Int}(hd:d=0\/d=1):(ir q O k3 c3 b c e f g ca lb h d).cx=0:=by
 rcases hd with rfl|rfl<;>kernel_rfl
def j9.row{W:ad}{k n m:Nat}{f:Nat->List ac}{l:List ac}(h:j9 W k 0 n m f)(a:∀i,(f i).length=m)(b:k<W.heap.size)(e:rowOf f n=l):Row W k l:=
 ⟨b,λj v hv=>by have:=h.get a j v (by rw[e];exact hv);rwa[ei]at this⟩
structure Made(w W:ad)(k2 k3 k4 k5 la ca lb cb:Nat)(d:Int):Prop where
 rows:CJ W k2 k3 k4 k5 la ca lb cb d
 low:bL w W
def anu{k3 c3 g i j k l ca lb o:Nat}{d y:Int}{w:abH}{f:Nat->iJ}{W:ad}{n0:Nat}(hf:acd (ir q O k3 c3 g i j k l ca lb o d) f)(h:yd n0 3 (((ir q O k3 c3 g i j k l ca lb o d).j8 [0,y]).KD w f) W)(B:bL Y W) :
 ∃p C k2 D r E s F t u v x,((ir q O k3 c3 g i j k l ca lb o d).KD w f).val=(ir p C k2 D r E s F t u v x y).val/\Made Y W p k2 r s t u v x y:=by
 have m:=h.mem;have H:w.B2=dO ⟨w.K2,0,dQ⟩:=m.s2 (fi rfl);have I:w.B3=dO ⟨w.K3,0,dQ⟩:=m.s3 (fi rfl);have e5:w.B5=dO ⟨w.K5,0,dQ⟩:=m.s5 (fi rfl);have a:=hf.1 0;have b:=hf.1 1;have c:=hf.1 2;have z:=m.l4 0 (fi rfl) (by show 0<(f 0).ln;rw[a.ln];exact fi rfl);have A:=m.l4 1 (fi rfl) (by show 0<(f 1).ln;rw[b.ln];exact fi rfl);have a0:(f 0).lb=dO ⟨(f 0).lk,(f 0).lo,dQ⟩:=z.1;have a1:(f 1).lb=dO ⟨(f 1).lk,(f 1).lo,dQ⟩:=A.1;have z0:=hf.2 0 (fi rfl);have z1:=hf.2 1 (fi rfl);obtain⟨J,d2⟩:=c.nil rfl rfl;have q0:j9 W (f 0).lk (f 0).lo (f 0).ln 1 (acz (f 0)):=m.rl 0 (fi rfl);have q1:j9 W (f 1).lk (f 1).lo (f 1).ln 1 (acz (f 1)):=m.rl 1 (fi rfl);rw[z0]at a0 q0;rw[z1]at a1 q1;refine⟨w.K2,w.p2,w.K3,w.p3,w.K4,w.p4,w.K5,w.p5,(f 0).lk,(f 0).lc,(f 1).lk,(f 1).lc,?_,⟨m.r2.row (λ_=>rfl) m.h2 rfl,m.r3.row (λ_=>rfl) m.h3 rfl,m.r4.row (λ_=>aaJ _) m.h4 ?_,m.r5.row (λ_=>rfl) m.h5 rfl,q0.row (λ_=>rfl) z.2 ?_,q1.row (λ_=>rfl) A.2 ?_⟩,B⟩
 .show #[(_:ac),_,f6 w.B2 _ _,f6 w.B3 _ _,_,f6 w.B5 _ _]=_;rw[H,I,e5];rfl
 .show aaD (f 0)++(aaD (f 1)++(aaD (f 2)++[]))=_;unfold aaD;rw[a.name,a.n,a.ln,a0,b.name,b.n,b.ln,a1,c.name,c.n,c.ln,J,d2];rfl
 .rw[a.ln];show[fA fm ((f 0).lane 0)]=_;rw[a.lane];rfl
 .rw[b.ln];show[fA fm ((f 1).lane 0)]=_;rw[b.lane];rfl
def Iw{k3 c3 a j b k c ca lb d:Nat}(w:ad)(h:CJ w q k3 a b c ca lb d 0)(hv:bB w L [0,1]):bj PL 14 #[fR (ir q O k3 c3 a j b k c ca lb d 0).val,L] w λe w'=>∃l u m x n y o z p v r s,e=qr (gc #[fR (ir l u m x n y o z p v r s 1).val,fA fm 0])/\CJ w' l m n o p v r s 1/\bL w w':=
 (ac2 (ir q O k3 c3 a j b k c ca lb d 0) [0,1] L w h.at (fi rfl) (yQ (qu rfl)) hv rfl λi hi=>by
   match i,hi with
   |0,_=>rfl
   |1,_=>rfl).m λe w'⟨Y,f,A,hf,B,C⟩=>by
   obtain⟨q2,D,q3,E,q4,F,q5,H,I,J,K,k2,hval,t⟩:=anu hf B C;exact⟨q2,D,q3,E,q4,F,q5,H,I,J,K,k2,by rw[A,hval],t.rows,t.low⟩
open Go.Shelf
attribute [local go_sem] Oper.semAt_some
structure aaR(B:Nat)(w w':ad):Prop where
 os:w'.os=w.os
 tape:w'.tape=w.tape
 output:w'.output=w.output
 size:w.heap.size<=w'.heap.size
 block:∀k,k<w.heap.size->k≠B->w'.heap[k]?=w.heap[k]?
def uL(B:Nat)(a hi x y:Int)(w:ad)(h:w.heap[B]?=dO (ol #[fA fm a,fA fm hi] 30))(b : -10000<=a/\a<=10000)(c : -10000<=hi/\hi<=10000)(d:0<=x/\x<=100)(f:0<=y/\y<=100) :
 bj PL 85 #[fR #[fA fm x,fA fm y],f9 (dO ⟨B,0,dQ⟩)] w λe w'=>e=qr (fR #[fA fm (a+x),fA fm (hi+y)])/\w'.heap[B]?=dO (ol #[fA fm (a+x),fA fm (hi+y)] 30)/\aaR B w w':=by
 obtain⟨n,t1,u0,u1⟩:=uJ h;have o:=kc h;have H:=j5 h;clear h;obtain⟨b,p⟩:=b;obtain⟨c,q⟩:=c;obtain⟨d,i⟩:=d;obtain⟨f,j⟩:=f;go_enter (fx ao Tryz.func85),Tryz.ntmps85;go_wp2;have g:=yL (u:=fA fm (a+x)) (v:=fA fm (hi+y)) H.o;refine bm (v:=fR #[fA fm (a+x),fA fm (hi+y)]) ?_ rfl ⟨rfl,?_,rfl,rfl,rfl,by simp;omega,λk l m=>?_⟩
 .simp[bq,Tryz.results85,go_sem]
 .have hl:=kc g;exact(((j6 _ _).a (dk _) _).a ar _ |>.block B hl).t g
 .have hl:k<(em (em w ⟨B,0,dQ⟩ (fA fm (a+x))) ⟨B,1,dQ⟩ (fA fm (hi+y))).heap.size:=by simpa using l
  exact(((j6 _ _).a (dk _) _).a ar _ |>.block k hl).t (tv m)
def Ff(C:CD)(p:Nat):Nat:=if p+1=C.n4 then 0 else p+1
def nT(C:CD)(g:Nat):Nat->Nat×Int×Int
 |0=>((C.x5 g).2.1.toNat,(C.x5 g).2.2,(C.x5 g).2.2)
 |k+1=>(Ff C (nT C g k).1,(nT C g k).2.1+(C.x4 (nT C g k).1).n 7+(C.x4 (nT C g k).1).n 9,(nT C g k).2.2+(C.x4 (nT C g k).1).n 8+(C.x4 (nT C g k).1).n 10)
abbrev nR:=Nat×Int×Int×Int×Int
def Nu(C:CD)(g k:Nat):nR:=((nT C g k).1,(nT C g k).2.1,(nT C g k).2.2,(nT C g k).2.1+(C.x4 (nT C g k).1).n 7,(nT C g k).2.2+(C.x4 (nT C g k).1).n 8)
def mD(C:CD)(g n:Nat):List nR:=(hV n).map (Nu C g)
def uM(C:CD)(g n:Nat):mD C g (n+1)=mD C g n++[Nu C g n]:=by simp[mD,ip]
def R7(C:CD)(g n:Nat):(mD C g n).length=n:=by simp[mD]
def R8(C:CD)(g:Nat)(h:q<O):mD C g q++[Nu C g q] <+: mD C g O:=by
 rw[<-uM];have e:hV O=hV (q+1)++(hV (O-(q+1))).map (q+1 + ·):=by
  rw[<-List.range_add];congr 1;omega
 unfold mD;rw[e,io];exact List.prefix_append _ _
structure yR(C:CD)(g:Nat):Prop where
 g5:g<C.n5
 p4:∀k,(nT C g k).1<C.n4
 m4:C.n4<=5
 lo:∀k,k<=C.n4->0<=(nT C g k).2.1/\(nT C g k).2.1<=12+120*k
 hi:∀k,k<=C.n4->0<=(nT C g k).2.2/\(nT C g k).2.2<=12+120*k
 nn:∀i,i<C.n4->(0<=(C.x4 i).n 7/\(C.x4 i).n 7<=60)/\(0<=(C.x4 i).n 8/\(C.x4 i).n 8<=60)/\(0<=(C.x4 i).n 9/\(C.x4 i).n 9<=60)/\(0<=(C.x4 i).n 10/\(C.x4 i).n 10<=60)
 start:(C.x5 g).2.1=((C.x5 g).2.1.toNat:Int)
def Sa(C:CD)(hc:C.cx=0)(hg:q<C.n5):yR C q:=by
 have d:kA C.p C.n2 C.n3 C.n4 C.x4=0:=ck hc 3 ab;have e:pE C.n4 C.n5 C.x5=0:=ck hc 4 ab;unfold kA at d;split at d
 case isFalse=>cases d
 rename_i hb;simp only[bO,dd,decide_eq_true_eq]at hb;have j:∀i,i<C.n4->(0<=(C.x4 i).n 7/\(C.x4 i).n 7<=60)/\(0<=(C.x4 i).n 8/\(C.x4 i).n 8<=60)/\(0<=(C.x4 i).n 9/\(C.x4 i).n 9<=60)/\(0<=(C.x4 i).n 10/\(C.x4 i).n 10<=60):=by
  intro i hi;have a:=ck d i hi;unfold gM at a;split at a
  case isFalse h=>exact absurd a h
  split at a
  case isFalse=>cases a
  split at a
  .cases a
  split at a
  case isFalse=>cases a
  split at a
  case isFalse=>cases a
  rename_i m;simp only[eK,dd,decide_eq_true_eq]at m;omega
 obtain⟨hs,s,o⟩:(0<=(C.x5 q).2.1/\(C.x5 q).2.1<C.n4)/\0<=(C.x5 q).2.2/\(C.x5 q).2.2<=12:=by
  unfold pE at e;split at e
  .cases e
  have a:=ck e q hg;unfold iI at a;split at a
  case isFalse h=>exact absurd a h
  split at a
  case isFalse=>cases a
  rename_i g;split at a
  .cases a
  split at a
  case isFalse=>cases a
  rename_i r;simp only[bO,dd,decide_eq_true_eq]at g r;omega
 have c:∀k,(nT C q k).1<C.n4:=by
  intro k
  induction k with
  |zero=>simp only[nT];omega
  |succ k l=>
   simp only[nT,Ff];split<;>omega
 have b:∀k,k<=C.n4->(0<=(nT C q k).2.1/\(nT C q k).2.1<=12+120*k)/\(0<=(nT C q k).2.2/\(nT C q k).2.2<=12+120*k):=by
  intro k
  induction k with
  |zero=>intro _;simp only[nT];omega
  |succ k l=>
   intro f;have:=l ab;have:=j _ (c k);simp only[nT]
   push_cast
   omega
 exact⟨hg,c,ab,λk f=>(b k f).1,λk f=>(b k f).2,j,ab⟩
def Fg(n0:Nat)(W a:ad):Prop:=(∀k:Nat,k<n0->a.heap[k]?=W.heap[k]?)/\(∀(k:Nat)(c:Array ac)(t:bv),W.heap[k]?=dO (ol c t)->t≠73->t≠60->a.heap[k]?=dO (ol c t))/\W.heap.size<=a.heap.size
def Li{X Z:ad}(h:Fg q X Y)(k:Fg q Y Z):Fg q X Z:=
 ⟨λb hb=>(k.1 b hb).t (h.1 b hb),λb c t e a d=>k.2.1 b c t (h.2.1 b c t e a d) a d,da h.2.2 k.2.2⟩
def Lj{n s:Nat}(d:n<=s)(W:ad)(l:Nat)(o o':Obj)(hl:s<=l)(b:W.heap[l]?=dO o)(hc:o.isCells=dU)(_:o.isWalk=dU):Fg n W (eq W l o'):=by
 have a:∀k,l≠k->(eq W l o').heap[k]?=W.heap[k]?:=λk h=>by
  simp only[eq];exact gL h
 refine⟨λk f=>a k ab,λk c t e _ _=>(a k λh=>?_).t e,by simp[eq]⟩;rw[<-h,b]at e;cases e;cases hc
def CD.At.keep{w':ad}(h:C.At Y)(e:∀k,k<Y.heap.size->w'.heap[k]?=Y.heap[k]?)(s:Y.heap.size<=w'.heap.size):C.At w':=by
 have cell:∀b o,b<Y.heap.size->d9 w' ⟨b,o,dQ⟩=d9 Y ⟨b,o,dQ⟩:=λb o hb=>by simp[d9,e b hb]
 have d:∀o,d9 w' ⟨C.k2,o,dQ⟩=d9 Y ⟨C.k2,o,dQ⟩:=λo=>cell _ _ h.h2;have a:∀o,d9 w' ⟨C.k3,o,dQ⟩=d9 Y ⟨C.k3,o,dQ⟩:=λo=>cell _ _ h.h3;have c:∀o,d9 w' ⟨C.k4,o,dQ⟩=d9 Y ⟨C.k4,o,dQ⟩:=λo=>cell _ _ h.h4;have e5:∀o,d9 w' ⟨C.k5,o,dQ⟩=d9 Y ⟨C.k5,o,dQ⟩:=λo=>cell _ _ h.h5;obtain⟨m2,m3,m4,m5,h2,h3,h4,h5,s2,s3,s4,s5,Ep,Er,Es,Et,Eu,cu,AD,dB,nj,l4,J5,nm5,FI,HU,J6⟩:=h
 exact⟨m2,m3,m4,m5,ab,ab,ab,ab,s2,s3,s4,s5,λi hi=>(d _).t (Ep i hi),λi hi=>(d _).t (Er i hi),λi hi=>(a _).t (Es i hi),λi hi=>(a _).t (Et i hi),λi hi=>(a _).t (Eu i hi),cu,
  λi hi=>(c _).t (AD i hi),λi hi j f h2=>(c _).t (dB i hi j f h2),λi hi=>(c _).t (nj i hi),λi hi hl=>⟨(l4 i hi hl).1,bT (l4 i hi hl).2 s⟩,
  λi hi j g=>(cell _ _ (l4 i hi ab).2).t (J5 i hi j g),nm5,λi hi=>(e5 _).t (FI i hi),λi hi=>(e5 _).t (HU i hi),λi hi=>(e5 _).t (J6 i hi)⟩
def VS(x:nR):Array ac:=#[fR #[fA fm x.1,fA fm x.2.1,fA fm x.2.2.1,fA fm x.2.2.2.1,fA fm x.2.2.2.2]]
end Go.Proofs
namespace Go.Proofs
open Go.RowKit
variable {Y:Type}{R q:Nat}{C M:ad}{L:ac}{O:List ac}
variable {J:CD}
def zW(b:Option ag)(m c n:Nat)(f:ac)(w:ad)(a:n<=1):bj PL 136 #[f6 b m c,fA fm 0,fA fm n,f] w λe w'=>(∃v,e=qr v)/\w=w':=by
 have d:(n:Int)<=1:=ab;go_enter (fx ao mc),Tryz.ntmps136;go_wp2
 go_loop [8] (λv=>v=fA fm 1) (λ_=>0)
 case atStart=>rfl
 case round=>
  subst hrel;go_wp2
  go_end0
  exact⟨⟨_,rfl⟩,rfl⟩
open Go.Shelf
def AbT(B:Nat)(J:Y->ad->Prop):Prop:=
 ∀s W a row,J s W->W.grownBy a row->(∀r,row=dO r->B<=r/\∃c t,W.heap[r]?=dO (ol c t)/\t≠73/\t≠60)->J s a
def afQ(n:Nat)(gf:Nat)(lb:Array ac)(f:Y->Array ac)(g:ad->ad->Prop)(xs:List Y)(St:ad->Prop):Prop:=
 ∀(l:Nat)(J:List Y->ad->Prop)(W:ad),St W->AbT W.heap.size J->
  (∀a x d,J a d->a++[x] <+: xs->YieldAt Fence.wide (n-1) PL l (f x) d λe b=>e=qr (f7 d8)/\J (a++[x]) b/\g d b)->
  J [] W->CallsIn Fence.wide n PL gf (#[ge (qF l) #[] #[]]++lb) W λe b=>(∃v,e=qr v)/\J xs b
attribute [local go_sem] Oper.semAt_some
def aaR.grown(h:aaR q C M):C.grownBy M (dO q):=
 ⟨h.os,h.tape,h.output,h.size,λk a b=>h.block k a (λe=>b (by rw[e]))⟩
structure StV(C:CD)(g n0 Bc Bg:Nat)(wb W:ad):Prop where
 low:∀k,k<n0->W.heap[k]?=wb.heap[k]?
 size:n0<=W.heap.size
 box:W.heap[Bc]?=dO (ol C.val 78)
 PM:W.heap[Bg]?=dO (ol #[fA fm g] 3)
def yT(n:Nat)(hn:2<=n)(v w n0 g:Nat)(C:CD)(s:yR C g)(P:ad)(j:P.heap.size=n0)(hA:C.At P):afQ n 84 #[f9 (dO ⟨v,0,dQ⟩),f9 (dO ⟨w,0,dQ⟩)] VS (Fg n0) (mD C g C.n4) (StV C g n0 v w P):=by
 intro l J W L hJ hY h0;have HA:=j5 hA;have Q:=j5 s;have M:=j5 L;have HJ:=j5 hJ;have HY:=j5 hY;have hA0:=j5 (hA.keep (by rw[j];exact L.low) (by rw[j];exact L.size));have c1:=L.box;have c2:=L.PM;clear hA L hJ hY;refine callsIn_of_wp (fx ao mm) rfl trivial ?_ rfl;simp only[Tryz.ntmps84,eS,fo,ly,kY,k6,pD,pC,pT,pf,gB,fY];obtain⟨R,S,T,U,f4,N⟩:=bf c1;obtain⟨g0,g1⟩:=aaA c2;have x5:=hA0.o.s5 (by have:=s.g5;omega);have x50:=hA0.o.FI g s.g5;have x51:=hA0.o.HU g s.g5;have x52:=hA0.o.J6 g s.g5;have hg5:=s.g5;rw[x5]at N;have Ts:=kc c1;have hBg:=kc c2;have hh5:=hA0.o.h5;have y:=s.start;have HST:=j5 y;clear c1 c2 s y
 gi_wp2
 obtain⟨O,kS⟩:=bs (eb (eb W (ol #[f8 (C.x5 g).1,fA fm (C.x5 g).2.1,fA fm (C.x5 g).2.2] 51)) (ol #[fA fm (C.x5 g).2.2,fA fm (C.x5 g).2.2] 30));have b:bL W O:=by rw[kS];exact((j6 _ _).a (dk _) _).a ar _
 have V:O.heap[W.heap.size+1]?=dO (ol #[fA fm (C.x5 g).2.2,fA fm (C.x5 g).2.2] 30):=by
  grind[au,ep]
 have X:J [] O:=HJ.o [] W O dQ h0 (by rw[kS];exact(eA W _ dQ).trans (eA _ _ dQ)) (λr e=>by cases e);have HN:=j5 V;have HJ0:=j5 X;have HBW:=j5 b;rw[<-kS];clear kS V X h0
 gi_loopw [7,28] (λv7 z wr=>∃k:Nat,k<=C.n4/\z=fA fm k/\v7=fA fm (nT C g k).1/\J (mD C g k) wr/\StV C g n0 v w P wr/\wr.heap[W.heap.size+1]?=dO (ol #[fA fm (nT C g k).2.1,fA fm (nT C g k).2.2] 30)) (λ_ z _=>C.n4-(intOf z).toNat)
 case atStart=>
  refine⟨0,eF _,rfl,by rw[nT,<-HST.o],HJ0.o,⟨λk f=>(b.k k (bT f M.o.size)).t (M.o.low k f),da M.o.size b.z,(b.k _ Ts).t M.o.box,(b.k _ hBg).t M.o.PM⟩,HN.o⟩
 case round=>
  obtain⟨k,f,rfl,rfl,Y,hS,hN⟩:=hrel;have Z:=j5 Y;have t:=j5 hS;have c:=j5 hN;clear Y hS hN R S T U f4 N g0 g1 x5 x50 x51 x52 b;by_cases aH:k<C.n4
  .have i2:(k:Int)<C.n4:=ab;have Xi:=Q.o.p4 k;have Cu:=Q.o.lo k ab;have hhi:=Q.o.hi k ab;have hm4:=Q.o.m4;obtain⟨p,hp⟩:=bs ((nT C g k).1);obtain⟨a,Sc⟩:=bs ((nT C g k).2.1);obtain⟨hi,Se⟩:=bs ((nT C g k).2.2);have alK:Hid (Nu C g k=(p,a,hi,a+(C.x4 p).n 7,hi+(C.x4 p).n 8)):=j5 (by rw[Nu,<-hp,<-Sc,<-Se]);have y:Hid (nT C g (k+1)=(Ff C p,a+(C.x4 p).n 7+(C.x4 p).n 9,hi+(C.x4 p).n 8+(C.x4 p).n 10)):=j5 (by rw[nT,<-hp,<-Sc,<-Se]);rw[<-hp]at Xi ⊢;rw[<-Sc]at Cu;rw[<-Se]at hhi;rw[<-Sc,<-Se]at c;clear hp Sc Se;obtain⟨⟨n7,n7'⟩,⟨n8,n8'⟩,⟨n9,n9'⟩,⟨n10,atn⟩⟩:=Q.o.nn p Xi;have hAk:=j5 (HA.o.keep (by rw[j];exact t.o.low) (by rw[j];exact t.o.size));obtain⟨s4,y0,y1,y2,y3,y4,y5,y6,y7,y8,y9,y10,y11,ER⟩:=yK hAk.o Xi;obtain⟨R,S,T,U,f4,N⟩:=bf t.o.box;rw[s4]at f4;obtain⟨t0,t1,u0,u1⟩:=uJ c.o;have alL:=kc t.o.box;have hNl:=kc c.o;have att:(p:Int)<C.n4:=ab;have sv:Hid ((eb (eb wr (ol (C.x4 p).val 49)) (ol #[fA fm p,fA fm a,fA fm hi,fA fm 0,fA fm 0] 73)).heap[W.heap.size+1]?=dO (ol #[fA fm a,fA fm hi] 30)):=j5 ((((j6 wr.heap.size wr).a (dk _) _).a ar _ |>.block _ hNl).t c.o)
   have sv2:Hid ((eb (eb wr (ol (C.x4 p).val 49)) (ol #[fA fm p,fA fm a,fA fm hi,fA fm 0,fA fm 0] 73)).heap[wr.heap.size+1]?=dO (ol #[fA fm p,fA fm a,fA fm hi,fA fm 0,fA fm 0] 73)):=j5 (by
    have h1:=au (eb wr (ol (C.x4 p).val 49)) (ol #[fA fm p,fA fm a,fA fm hi,fA fm 0,fA fm 0] 73)
    simp_all)
   have sp:Hid ((eb (eb wr (ol (C.x4 p).val 49)) (ol #[fA fm p,fA fm a,fA fm hi,fA fm 0,fA fm 0] 73)).heap[wr.heap.size]?=dO (ol (C.x4 p).val 49)):=j5 ((((j6 (eb wr (ol (C.x4 p).val 49)).heap.size _).a (dk _) _).k _ ar).t (au wr _));have so:Hid (∀k,k<wr.heap.size->(eb (eb wr (ol (C.x4 p).val 49)) (ol #[fA fm p,fA fm a,fA fm hi,fA fm 0,fA fm 0] 73)).heap[k]?=wr.heap[k]?):=j5 λk f=>(((j6 wr.heap.size wr).a (dk _) _).a ar _).k k f;clear s4
   gi_wp2_with (refine⟨trivial,λ_=>ab,?_⟩;refine(callsIn_wide.2 (uL (W.heap.size+1) a hi _ _ _ sv.o ab ab ab ab)).mono ?_;rintro e w2⟨rfl,Vb,iC⟩;have yp:wr.heap.size+2<=w2.heap.size:=(by have:=iC.size;simp at this;omega);have u:=(iC.block (wr.heap.size+1) ar ab).t sv2.o;have tL:=(iC.block wr.heap.size (by simp;omega) ab).t sp.o;have fz:=tO u;have v0:d9 w2 ⟨wr.heap.size+1,0,dQ⟩=dO (fA fm p):=(by simp[d9,u]);have v1:d9 w2 ⟨wr.heap.size+1,1,dQ⟩=dO (fA fm a):=(by simp[d9,u]);have v2:d9 w2 ⟨wr.heap.size+1,2,dQ⟩=dO (fA fm hi):=(by simp[d9,u]);have v3:d9 w2 ⟨wr.heap.size+1,3,dQ⟩=dO (fA fm 0):=(by simp[d9,u]);have v4:d9 w2 ⟨wr.heap.size+1,4,dQ⟩=dO (fA fm 0):=(by simp[d9,u]);have HN2:=j5 Vb;have Kf:=j5 iC;have HV2:=j5 u;have HP2:=j5 tL;clear Vb iC u tL;obtain⟨Wy,m⟩:=bs (em (em w2 ⟨wr.heap.size+1,3,dQ⟩ (fA fm (a+(C.x4 p).n 7))) ⟨wr.heap.size+1,4,dQ⟩ (fA fm (hi+(C.x4 p).n 8)));have A:wr.grownBy Wy (dO (W.heap.size+1)):=(by rw[m];exact⟨Kf.o.os,Kf.o.tape,Kf.o.output,by simp only[lj];omega,λk f bu=>by rw[aZ ab,aZ ab,Kf.o.block k (by simp;omega) (λe=>bu (by rw[e]))];exact so.o k f⟩);obtain⟨fn,tmps,assign,body,hy,hR⟩:=HY.o (mD C g k) (Nu C g k) Wy (HJ.o _ wr Wy _ Z.o A (λr e=>by cases e;exact⟨ab,_,_,c.o,ao,ao⟩)) (R8 C g aH);rw[alK.o,m]at hy;dsimp only[VS]at hy;have B:=j5 A;have d:=j5 m;clear A m)
   refine⟨λ_=>ab,?_⟩;refine RoundIn.mono (by have h:=hR;rw[d.o]at h;exact h) ?_;rintro e i⟨rfl,hJ',D⟩;rw[<-d.o]at D;have hWs:=M.o.size;have E:i.heap[W.heap.size+1]?=dO (ol #[fA fm (a+(C.x4 p).n 7),fA fm (hi+(C.x4 p).n 8)] 30):=D.2.1 _ _ _ (by rw[d.o,aZ ab,aZ ab];exact HN2.o) ao ao;have VT:i.heap[wr.heap.size]?=dO (ol (C.x4 p).val 49):=D.2.1 _ _ _ (by rw[d.o,aZ ab,aZ ab];exact HP2.o) ao ao;have sW:i.heap[v]?=dO (ol C.val 78):=D.2.1 _ _ _ ((B.o.block v alL (λe=>by injection e with e;omega)).t t.o.box) ao ao;have afU:i.heap[w]?=dO (ol #[fA fm g] 3):=D.2.1 _ _ _ ((B.o.block w (by have:=t.o.PM;exact kc this) (λe=>by injection e with e;omega)).t t.o.PM) ao ao;have qv:Hid (∀k,k<n0->i.heap[k]?=P.heap[k]?):=j5 λk f=>(D.1 k f).t ((B.o.block k ab (λe=>by injection e with e;omega)).t (t.o.low k f));have atv:W.heap.size+2<=i.heap.size:=by have:=kc E;omega
   have z9:d9 i ⟨wr.heap.size,9,dQ⟩=dO (fA fm ((C.x4 p).n 9)):=by simp[d9,VT]
   have UZ:d9 i ⟨wr.heap.size,10,dQ⟩=dO (fA fm ((C.x4 p).n 10)):=by simp[d9,VT]
   have fz9:=tO VT;have VU:=j5 E;have Ce:=j5 sW;have HGR:=j5 afU;have HJ':=j5 hJ';clear E VT sW afU hJ' D hR hy HY R S T U f4 N t0 t1 u0 u1 y0 y1 y2 y3 y4 y5 y6 y7 y8 y9 y10 y11 v0 v1 v2 v3 v4 fz sv sv2 sp so Kf HN2 HV2 HP2 d yp;by_cases hw:p+1=C.n4
   .have i5:((p:Int)+1=C.n4):=ab;have HW:=j5 hw;clear hw
    gi_wp2_with (refine⟨trivial,λ_=>ab,?_⟩;refine(callsIn_wide.2 (uL (W.heap.size+1) (a+(C.x4 p).n 7) (hi+(C.x4 p).n 8) _ _ _ VU.o ab ab ab ab)).mono ?_;rintro e w3⟨rfl,Hr,F⟩;have H:=(F.block v ab ab).t Ce.o;obtain⟨R,S,T,U,f4,N⟩:=bf H;have I:=j5 H;have K:=j5 Hr;have o:=j5 F;clear H Hr F)
    refine⟨⟨k+1,aH,by go_num,by rw[y.o];simp only[Ff];rw[if_pos HW.o];rfl,?_,⟨λq hq=>(o.o.block q ab ab).t (qv.o q hq),by have:=o.o.size;omega,I.o,(o.o.block w ab ab).t HGR.o⟩,by rw[y.o];exact K.o⟩,by simp only[intOf];omega⟩;rw[uM];exact HJ.o _ i w3 _ HJ'.o o.o.grown (λr e=>by cases e;exact⟨ab,_,_,VU.o,ao,ao⟩)
   .have i5:¬((p:Int)+1=C.n4):=ab;have HW:=j5 hw;clear hw
    gi_wp2_with (refine⟨trivial,λ_=>ab,?_⟩;refine(callsIn_wide.2 (uL (W.heap.size+1) (a+(C.x4 p).n 7) (hi+(C.x4 p).n 8) _ _ _ VU.o ab ab ab ab)).mono ?_;rintro e w3⟨rfl,Hr,F⟩;have H:=(F.block v ab ab).t Ce.o;obtain⟨R,S,T,U,f4,N⟩:=bf H;have I:=j5 H;have K:=j5 Hr;have o:=j5 F;clear H Hr F)
    refine⟨⟨k+1,aH,by go_num,by rw[y.o];simp only[Ff];rw[if_neg HW.o];go_num,?_,⟨λq hq=>(o.o.block q ab ab).t (qv.o q hq),by have:=o.o.size;omega,I.o,(o.o.block w ab ab).t HGR.o⟩,by rw[y.o];exact K.o⟩,by simp only[intOf];omega⟩;rw[uM];exact HJ.o _ i w3 _ HJ'.o o.o.grown (λr e=>by cases e;exact⟨ab,_,_,VU.o,ao,ao⟩)
  .have By:k=C.n4:=ab;have i2:¬((k:Int)<C.n4):=ab;clear aH
   gi_wp2
   go_end0
   exact⟨⟨_,rfl⟩,by have h:=Z.o;first|(rw[By]at h;exact h)|exact h⟩
def yU{m:Type}{g:aJ}{ps:Array Tmp}{assign body:Code}{Q:aI->Act->ad->Prop}{a:Act}{w:ad}{n:Nat}(h1:1<=n){gf:Nat}{lb:Array ac}(hg:a.eval g=ge (qG gf) #[] lb)(eg:∀args w,(callFunc gf args).run PL w=hG (.enter gf args) w)
 {M:m->Array ac} {q:ad->ad->Prop} {xs:List m} {St:ad->Prop} (R:afQ (n-1) gf lb M q xs St) (XJ:∀W,bL w W->St W)
 (u:∀{A B C:ad},q A B->q B C->q A C) (F:∀(W:ad)(l:Nat)(o o':Obj),w.heap.size<=l->W.heap[l]?=dO o->o.isCells=dU->o.isWalk=dU->q W (eq W l o')) (S:∀x,(M x).size=ps.size)
 (I:List m->ad->Prop) (H:OwnFrom w.heap.size I) (T:AbT w.heap.size I) (h0:I [] w) (A:m->Act->ad->Prop) (hA:∀x a W l o o',W.heap[l]?=dO o->o.isCells=dU->A x a W->A x a (eq W l o'))
 (U:∀{A B:ad},w.heap.size<=A.heap.size->A.grownBy B dQ->q A B)
 (VV:∀(l:Nat)(x:m)(W:ad)(K:Act->ad->Prop),(∀a' y,W.grownBy y dQ->A x a' y->K a' y)->
   assign.wpIn (Fence.wide.inRound l) (n-1-1) PL (Exit.then K (λ_ _ _=>False)) { tmps:=(ps.zip (M x)).foldl (λt(p,v)=>gy t p v) a.tmps,defers:=[] } W)
 (V:∀(l:Nat)(b:List m)(x:m)(a':Act)(W:ad),I b W->A x a' W->b++[x] <+: xs->body.wpIn (Fence.wide.inRound l) (n-1-1) PL (λe _ y=>match e with | .normal=>KeepsOthers W y/\q W y/\I (b++[x]) y|_=>False) a' W)
 (X:∀(D:Nat)(W:ad),w.heap.size<=D->I xs W->W.heap[D]?=dO (ov (dO []))->Q .normal { a with defers:={ target:=.collected D,args:=#[] }::a.defers } W) :
 (Code.rangeFunc g ps assign body).wpIn Fence.wide n PL Q a w:=by
 refine wpIn_rangeFunc λfn tK=>?_;have LJ:Fence.wide.round=dQ:=rfl;rw[LJ];let z:LoopState->Loop:=λst=>{ state:=st,pending:=dQ,fn,tmps:=a.tmps,params:=ps,assign,body,defers:=w.heap.size }
 obtain⟨d,N⟩:=bs (eb (eb w (ov (dO []))) (ow (z .ready)));have Y:d.heap[w.heap.size+1]?=dO (ow (z .ready)):=by
  grind[au,ep]
 have hb:bL w d:=by rw[N];exact((j6 _ _).a (dk _) _).a ar _
 have Z:d.heap[w.heap.size]?=dO (ov (dO [])):=by
  rw[N];exact(((j6 (eb w (ov (dO []))).heap.size _).a (dk _) _).k _ ar).t (au w _)
 refine⟨w.heap.size+1,[{ target:=.collected w.heap.size,args:=#[] }],d,{ target:=.fn (qG gf) lb,args:=#[ge (qF (w.heap.size+1)) #[] #[]] },d,gf,#[ge (qF (w.heap.size+1)) #[] #[]]++lb,d,?_,?_,λf' hf'=>trivial,by simp[invoke,go_sem,eg],λ_=>h1,?_⟩
 .rw[N];exact run_enterLoop_outer _ _ _ _ _
 .simp only[cf,hg];simp[go_sem]
 .have book:∀{A B:ad}{row:Option Nat}{k:Nat}{o:Obj},A.grownBy B row->(∀r,row=dO r->d.heap.size<=r/\∃c t,A.heap[r]?=dO (ol c t)/\t≠73/\t≠60)->A.heap[k]?=dO o->o.isCells=dU->B.heap[k]?=dO o:=λ{A B row k o}J E f hc=>by
   refine(J.block k (kc f) λe=>?_).t f;obtain⟨_,c,t,h,_⟩:=E k e.y;rw[f]at h;cases h;cases hc
  refine(R (w.heap.size+1) (λb W=>I b W/\W.heap[w.heap.size+1]?=dO (ow (z .ready))/\W.heap[w.heap.size]?=dO (ov (dO []))) d (XJ _ hb) ?_ ?_ ⟨?_,Y,Z⟩).mono ?_
  .rintro s A B row⟨hi,hl,f⟩J E;exact⟨T s A B row hi J λr e=>⟨da hb.z (E r e).1,(E r e).2⟩,book J E hl rfl,book J E f rfl⟩
  .rintro b x W⟨hi,hl,f⟩Nw;refine⟨fn,_,assign,body,run_yield (P:=PL) (args:=M x) hl (S x),roundIn_of_wpIn tK (VV _ x W _ λaa O i hA1=>?_)⟩;have acY:=kc hl;replace hl:=book i (λr e=>by cases e) hl rfl;replace f:=book i (λr e=>by cases e) f rfl;replace hi:=H b W O dQ hi i (λr e=>by cases e);have aH:=kc hl;refine⟨_,run_beginRound hl rfl,?_⟩;have hl2:(eq O (w.heap.size+1) (ow (z .busy))).heap[w.heap.size+1]?=dO (ow (z .busy)):=eD aH;have ND:(eq O (w.heap.size+1) (ow (z .busy))).heap[w.heap.size]?=dO (ov (dO [])):=(eE ab).t f;refine wpIn_mono (V _ b x aa _ (H.putObj _ hi ab hl rfl) (hA _ _ _ _ _ _ hl rfl hA1) Nw) ?_;rintro e a3 W3 hp
   cases e with
   |normal=>
    obtain⟨L,alT,hi3⟩:=hp;have j:=L.same _ _ hl2 rfl;refine⟨_,_,run_endRound (P:=PL) dQ j,rfl,⟨H.putObj _ hi3 ab j rfl,eD (kc j),(eE ab).t (L.same _ _ ND rfl)⟩,?_⟩;exact u (u (u (U ab i) (F O (w.heap.size+1) _ _ ab hl rfl rfl)) alT) (F _ _ _ _ ab j rfl rfl)
   |_=>exact hp.elim
  .exact H [] w d dQ h0 (by rw[N];exact(eA w _ dQ).trans (eA _ _ dQ)) (λr e=>by cases e)
  .rintro e W2⟨⟨v,rfl⟩,hi,hl,f⟩;exact⟨dQ,_,run_endLoop (P:=PL) hl (by simp[z]),X _ _ (dk _) (H.putObj _ hi ab hl rfl) ((eE ab).t f)⟩
def Fi(C:CD)(g:Int)(m5:C.n5<=3)(w:ad):bj PL 56 #[fR C.val,fA fm g] w λe w'=>e=qr (f7 (bO g 0 (C.n5-1)))/\bL w w':=by
 obtain⟨b,c,d,f,f4,h⟩:=bf (au w (ol C.val 27));have a:=j5 (((j6 w.heap.size w).a (dk _) (ol C.val 27)));go_enter (fx ao Tryz.func56),Tryz.ntmps56
 go_wp2_with (go_at_call 52;refine(ij _ _ _ _).m ?_;rintro e w'⟨rfl,rfl⟩)
 go_ret;exact⟨rfl,a.o⟩
def AX(C:CD)(g:Nat)(w:ad):bj PL 58 #[fR C.val,fA fm g] w λe w'=>e=qr (ge (qG 84) #[] #[f9 (dO ⟨w.heap.size,0,dQ⟩),f9 (dO ⟨w.heap.size+1,0,dQ⟩)])/\w'=eb (eb w (ol C.val 78)) (ol #[fA fm g] 3):=by
 go_enter (fx ao Tryz.func58),Tryz.ntmps58;go_wp2;go_ret;exact⟨rfl,rfl⟩
def vV(x:nR):List ac:=[fA fm x.1,fA fm x.2.1,fA fm x.2.2.1,fA fm x.2.2.2.1,fA fm x.2.2.2.2]
def AY(W:ad)(base:Nat)(v:ac)(l:List nR):Prop:=ek W base 73 5 v l.length (l.flatMap vV)
def Sf(w:ad)(a:List nR)(W:ad):Prop:=∃v,W.heap[w.heap.size]?=dO (ol #[v] 60)/\AY W (w.heap.size+1) v a/\bL w W
def Fj{j:ad}{row:Option Nat}{a:List nR}(h:Sf C a M)(hg:M.grownBy j row)(b:∀r,row=dO r->C.heap.size+1<=r/\∀c,M.heap[r]?≠dO (ol c 73)):Sf C a j:=by
 obtain⟨v,hb,⟨hl,d⟩,l⟩:=h;refine⟨v,(hg.block _ (kc hb) λe=>by have:=(b _ e.y).1;omega).t hb,⟨hl,?_⟩,l.grown hg l.z λk e=>by have:=(b _ e).1;omega⟩
 rcases d with d|⟨g,cap,f,e1,m,i,n⟩
 .exact qu d
 .exact qx ⟨g,cap,f,e1,m,(hg.block _ (kc i) λe=>(b _ e.y).2 _ i).t i,n⟩
def Fl(w:ad):OwnFrom (w.heap.size+1) (Sf w):=λs W d row hs hg a=>Fj hs hg λr e=>⟨(a r e).1,λc h=>by
 obtain⟨_,o,b,hc⟩:=a r e
 rw[b]at h;cases h;cases hc⟩
def Sg(w:ad):AbT (w.heap.size+1) (Sf w):=λs W d row hs hg a=>Fj hs hg λr e=>⟨(a r e).1,λc h=>by
 obtain⟨_,f,t,b,hc,_⟩:=a r e
 rw[b]at h;cases h;exact hc rfl⟩
def qO{x1 x2 x3 x4:ac}{t:bv}(h:C.heap[q]?=dO (ol #[L,x1,x2,x3,x4] t)) :
 d9 C ⟨q,0,dQ⟩=dO L/\d9 C ⟨q,1,dQ⟩=dO x1/\d9 C ⟨q,2,dQ⟩=dO x2/\d9 C ⟨q,3,dQ⟩=dO x3/\d9 C ⟨q,4,dQ⟩=dO x4:=by
 simp[d9,h]
def afX:k7 PL 60=dO (qt 73):=ae
def aaV:(PL.info? 73).map (λi=>(i.zero,i.size,i.bytes))=dO (dO (fR #[fA fm 0,fA fm 0,fA fm 0,fA fm 0,fA fm 0]),5,40):=ae
def Ny{base size:Nat}(h:ek C base q size L R O):∃b m c,L=f6 b m c:=by
 rcases h.2 with⟨rfl,_⟩|⟨g,cap,a,rfl,_⟩<;>exact⟨_,_,_,rfl⟩
def qm{base size:Nat}(h:ek C base q size L R O):∀j,L.ownBlock=dO j->∃cur,C.heap[j]?=dO (ol cur q):=by
 rcases h.2 with⟨rfl,_⟩|⟨g,cap,cur,rfl,_,hg,_⟩
 .intro j q;cases q
 .intro j q;cases q;exact⟨_,hg⟩
def yV{w:ad}{B:Nat}{x u:ac}{t:bv}(h:w.heap[B]?=dO (ol #[x] t)):(em w ⟨B,0,dQ⟩ u).heap[B]?=dO (ol #[u] t):=by
 simp only[em,dq,if_pos,h,il];rfl
def VW{x:nR}(h:C.heap[q]?=dO (ol #[fA fm x.1,fA fm x.2.1,fA fm x.2.2.1,fA fm x.2.2.2.1,fA fm x.2.2.2.2] 73)):∀(j:Nat)(u:ac),(vV x)[j]?=dO u->d9 C ((⟨q,0,dQ⟩:ag).add j)=dO u:=by
 intro j u e
 match j,e with
 |0,e=>cases e;simp[d9,li,h]
 |1,e=>cases e;simp[d9,li,h]
 |2,e=>cases e;simp[d9,li,h]
 |3,e=>cases e;simp[d9,li,h]
 |4,e=>cases e;simp[d9,li,h]
 |j+5,e=>simp[vV]at e
def Nz(C:CD)(g:Nat)(O:yR C g)(w:ad)(hA:C.At w)(c1:w.heap[q]?=dO (ol C.val 78))(P:w.heap[R]?=dO (ol #[fA fm g] 3)) :
 bj PL 83 #[f6 dQ 0 0,ge (qG 84) #[] #[f9 (dO ⟨q,0,dQ⟩),f9 (dO ⟨R,0,dQ⟩)]] w λe w'=>∃v,e=qr v/\AY w' (w.heap.size+1) v (mD C g C.n4)/\bL w w':=by
 have HA:=j5 hA;have Q:=j5 O;have r:=j5 c1;have S:=j5 P;clear hA O c1 P;refine(ch (n:=9)).1 (ci (fx ao Tryz.func83) rfl trivial ?_ rfl);simp only[Tryz.ntmps83,eS,fo,ly,kY,k6,pD,pC,pT,pf,gB,fY];refine wpIn_wide.2 ?_;go_wp2;obtain⟨i0,hi,mF,dx,wD⟩:=bC aaV;refine(wpIn_wide (n:=9)).1 ?_;refine yU ab (gf:=84) (lb:=#[f9 (dO ⟨q,0,dQ⟩),f9 (dO ⟨R,0,dQ⟩)]) rfl (enters_of (fx ao mm) ae rfl)
  (yT 8 ab q R w.heap.size g C Q.o w rfl HA.o)
  (λW T=>?_) Li (λW l o U hl ho hc hw=>Lj (n:=w.heap.size) (s:=w.heap.size+1) ab W l o U (by simpa using hl) ho hc hw) (λ_=>rfl)
  (Sf w) (by rw[ep];exact Fl w) (by rw[ep];exact Sg w) ⟨_,au _ _,⟨rfl,qu ⟨rfl,rfl⟩⟩,(j6 _ _).a (dk _) _⟩
  (λx a W=>∃k,W.heap[k]?=dO (ol #[fA fm x.1,fA fm x.2.1,fA fm x.2.2.1,fA fm x.2.2.2.1,fA fm x.2.2.2.2] 73)/\a={ tmps:=#[f6 dQ 0 0,ge (qG 84) #[] #[f9 (dO ⟨q,0,dQ⟩),f9 (dO ⟨R,0,dQ⟩)],f9 (dO ⟨w.heap.size,0,dQ⟩),undef,f6 dQ 0 0,f9 (dO ⟨k,0,dQ⟩),ge (qG 84) #[] #[f9 (dO ⟨q,0,dQ⟩),f9 (dO ⟨R,0,dQ⟩)],fR #[fA fm x.1,fA fm x.2.1,fA fm x.2.2.1,fA fm x.2.2.2.1,fA fm x.2.2.2.2],undef,undef,undef,undef,undef],defers:=[] })
  ?A ?kg ?assign ?body ?done
 .have hb:=((j6 w.heap.size w).a (dk _) (ol #[f6 dQ 0 0] 60))
  have e:∀k,k<w.heap.size->W.heap[k]?=w.heap[k]?:=λk d=>(T.k k (by simp;omega)).t (hb.k k d);exact⟨e,by have:=T.z;simp at this;omega,(e _ (kc r.o)).t r.o,(e _ (kc S.o)).t S.o⟩
 case A=>
  rintro x a W l o U hl hc⟨k,d,ha⟩;refine⟨k,(eE (λe=>?_)).t d,ha⟩;subst e;rw[hl]at d;cases d;cases hc
 case kg=>
  intro A B hs hg;rw[ep]at hs;exact⟨λk d=>hg.block k ab ar,λk c t h _ _=>(hg.block k (kc h) ar).t h,hg.size⟩
 case assign=>
  intro l x W K F;dsimp only[VS]
  gi_wp2
  refine F _ _ (eA W _ dQ) ⟨W.heap.size,au _ _,rfl⟩
 case body=>
  rintro l p x a W⟨v,i,V,X⟩⟨k,d,rfl⟩Nw;have hlen:p.length<5:=by have:=Nw.length_le;have:=Q.o.m4;rw[R7]at *;simp at *;omega
  have aH:=kc i;have Ll:=kc d;have b0:d9 W ⟨w.heap.size,0,dQ⟩=dO v:=by simp[d9,i]
  obtain⟨k0,k1,k2,k3,k4⟩:=qO d;have fb:=tO i;have H:=j5 V;have Y:=j5 X;have Z:=j5 i;clear i d V X
  gi_wp2_with (gi_at_builtin;refine wpListIn_append_own _ rfl _ _ _ rfl (w.heap.size+1) 73 i0 _ 5 40 afX hi mF dx wD rfl ao v p.length (p.flatMap vV) rfl (k8 H.o _) ⟨W.heap.size,0,dQ⟩ 1 1 (vV x) rfl rfl (VW (au W _)) (by simp[vV,fB]) (by simp only[b9];omega) ab (by simp;omega) ?_;intro v' w2 m f _;have I:=cZ H.o;have J:w2.heap[w.heap.size]?=dO (ol #[v] 60):=(f.block _ (by simp;omega) (λe=>by have:=I _ e.y;omega)).t ((((j6 W.heap.size W).a (dk _) _).k _ aH).t Z.o);have fb2:=tO J;have b2:d9 w2 ⟨w.heap.size,0,dQ⟩=dO v:=(by simp[d9,J]);obtain⟨bb,nn,cc,rfl⟩:=Ny m;have H1:=j5 m;have L:=j5 f;have M:=j5 J;clear m f J)
  have y:∀j,v.ownBlock=dO j->∃b,W.heap[j]?=dO (ol b 73):=qm H.o;have I:=cZ H.o;have z:=(j6 W.heap.size W).a (dk _) (ol #[fA fm x.1,fA fm x.2.1,fA fm x.2.2.1,fA fm x.2.2.2.1,fA fm x.2.2.2.2] 73);have yp:W.heap.size<=w2.heap.size:=by have:=L.o.size;simp at this;omega
  have blk:∀u,u<W.heap.size->u≠w.heap.size->dO u≠v.ownBlock->(em w2 ⟨w.heap.size,0,dQ⟩ (f6 bb nn cc)).heap[u]?=W.heap[u]?:=λu m f h3=>by
   rw[aZ (gr f),L.o.block u (by simp;omega) h3,z.k u m]
  refine⟨(pg W _).trans ((ph L.o λj o m f=>?_).trans (pi _ _ _)),⟨λu hq=>blk u ab ab (λe=>by have:=I _ e.y;omega),λu c t h m f=>(blk u (kc h) (λe=>?_) (λe=>?_)).t h,by simpa using yp⟩,?_⟩
  .obtain⟨b,hc⟩:=y _ m;rw[z.k _ (kc hc),hc]at f;cases f;rfl
  .subst e;rw[Z.o]at h;cases h;exact f rfl
  .obtain⟨b,hc⟩:=y _ e.y;rw[hc]at h;cases h;exact m rfl
  .refine⟨_,yV M.o,?_,?_⟩
   .unfold AY;rw[dC,iU,ix,List.flatMap_nil,l7];obtain⟨e1,E⟩:=H1.o;refine⟨e1,?_⟩
    rcases E with E|⟨gg,cap,b,e2,hb,hg,E⟩
    .exact qu E
    .exact qx ⟨gg,cap,b,e2,hb,(aZ ab).t hg,E⟩
   .exact((Y.o.a Y.o.z _).grown L.o (by simp;omega) (λk e=>by have:=I _ e;omega)).s (dk _) _
 case done=>
  intro D W hD hI F;rw[ep]at hD;have gE:=j5 ((Fl w).putObj (ov dQ) hI ab F rfl);obtain⟨v,i,-,-⟩:=hI;have b0:d9 W ⟨w.heap.size,0,dQ⟩=dO v:=by simp[d9,i]
  have Ce:=j5 i;clear i;go_wp2;refine⟨ar,qu ⟨_,_,rfl,co F,?_⟩⟩;obtain⟨v2,eP,N,qA⟩:=gE.o;have e:v=v2:=by
   have h:=(eE (by omega:w.heap.size≠D)).y.t eP |>.symm
   rw[Ce.o]at h;cases h;rfl
  subst e;refine⟨v,?_,v,rfl,N,qA⟩;simp[bq,Tryz.results83,go_sem]
def NA(C:CD)(g:Nat)(c:yR C g)(w:ad)(hA:C.At w)(c1:w.heap[q]?=dO (ol C.val 78))(d:w.heap[R]?=dO (ol #[fA fm g] 3)) :
 bj PL 57 #[ge (qG 84) #[] #[f9 (dO ⟨q,0,dQ⟩),f9 (dO ⟨R,0,dQ⟩)]] w λe w'=>∃v,e=qr v/\AY w' (w.heap.size+1) v (mD C g C.n4)/\bL w w':=by
 have i:=j5 hA;have j:=j5 c;have k:=j5 c1;have l:=j5 d;clear hA c c1 d;go_enter (fx ao Tryz.func57),Tryz.ntmps57
 go_wp2_with (go_at_call 83;refine(Nz C g j.o w i.o k.o l.o).m ?_;rintro e w'⟨v,rfl,f,h⟩;have m:=j5 f;have n:=j5 h;clear f h)
 go_ret;exact⟨_,rfl,m.o,n.o⟩
def Six(W:ad)(k:Nat):Prop:=∃x0 x1 x2 x3 x4 a,W.heap[k]?=dO (ol #[x0,x1,x2,x3,x4,a] 78)
def Fo(C:CD)(W a:ad):Prop:=∀k:Nat,(W.heap[k]?=dO (ol C.val 78)->a.heap[k]?=dO (ol C.val 78))/\(Six W k->Six a k)
def Fo.on(h:bL C M):Fo J C M:=λk=>⟨λe=>(h.k _ (kc e)).t e,fun⟨x0,x1,x2,x3,x4,b,e⟩=>⟨x0,x1,x2,x3,x4,b,(h.k _ (kc e)).t e⟩⟩
def alU(C:CD)(w:ad)(j:Nat)(vs:Nat->ac)(W:ad):Prop:=
 (j=8->∃k,vs 8=f9 (dO ⟨k,0,dQ⟩)/\w.heap.size<k/\Six W k)/\(j=9->∃k,vs 8=f9 (dO ⟨k,0,dQ⟩)/\w.heap.size<k/\W.heap[k]?=dO (ol C.val 78))
def AZ(C:CD)(g:Nat)(hg:g<C.n5)(m5:C.n5<=3)(w:ad):bj PL 56 #[fR C.val,fA fm g] w λe w'=>e=qr (f7 d8)/\bL w w':=by
 have h:=Fi C g m5 w;have e:bO (g:Int) 0 (C.n5-1)=d8:=by simp[bO];omega
 rwa[e]at h
def IC{b:Bool}(h:J.b6 b=0):J.cx=0:=by
 unfold CD.b6 at h;split at h
 .rename_i a;exact a
 .rename_i a;exact absurd h a
def ID(C:CD)(g:Nat)(w:ad)(h:C.At w)(hg:g<C.n5)(m5:C.n5<=3)(hf:C.b6 d8=0)(n:yR C g) :
 bj PL 23 #[fR C.val,fA fm g] w λe w'=>∃v,e=qr (gc #[v,fA fm 0])/\AY w' w.heap.size v (mD C g C.n4)/\bL w w':=by
 have p:=j5 h;have M:=j5 hf;have N:=j5 n;have r:Hid (KB C w (eb w (ol C.val 27))):=j5 ⟨au _ _,(j6 _ _).a (dk _) _⟩;clear h hf n;go_enter (fx ao Tryz.func23),Tryz.ntmps23
 go_upto_region 1 with fail
 refine cT 10 (KB C w) (Fo C) (λj=>j != 8&&j != 9) (alU C w) rfl ae ae
  (λi vs W s f h=>⟨λe=>(h.1 e).i λk a=>⟨a.1,a.2.1,(f k).2 a.2.2⟩,λe=>(h.2 e).i λk a=>⟨a.1,a.2.1,(f k).1 a.2.2⟩⟩) (λi o t vs O W P hd h=>⟨λe=>?_,λe=>?_⟩) ?_ ?_
 .subst e;rw[<-P];exact h.1 rfl
 .subst e;have Q:vs 8=O 8:=by
   simp only[gw,fP,ft,kj]at t;subst t;exact hd ⟨8,qN⟩ (cH.2 ⟨ar,rfl⟩)
  rw[<-Q];exact h.2 rfl
 .exact⟨r.o.box,r.o.low.d⟩
 .iterate 8 (
   apply aY
   case hE=>rfl
   case h=>
    intro vs W b hd;obtain⟨u,x,y,z,f4,A⟩:=bf b.box;go_simp
    first
    |(go_at_call 56;refine(AZ C g hg m5 _).m ?_;rintro e s⟨rfl,d⟩;exact⟨_,rfl,rfl,b.on d,Fo.on d⟩)
    |(go_at_call 31;refine(kF M.o (p.o.below b.low)).m ?_;rintro e s⟨rfl,d⟩;exact⟨_,rfl,rfl,b.on d,Fo.on d⟩)
    |exact⟨rfl,Fo.on (j6 _ _)⟩
   case hb=>exact E0)
  apply eH
  case hE=>rfl
  case hb=>exact E0
  case h=>
   intro vs W b hd;go_simp;have d:=(j6 W.heap.size W).a (dk _) (ol #[fA fm 0,fA fm 0,f6 dQ 0 0,f6 dQ 0 0,f6 dQ 0 0,f6 dQ 0 0] 78)
   first
   |exact⟨b.on d,Fo.on d,⟨λ_=>⟨W.heap.size,by simp[upd],b.lt,_,_,_,_,_,_,au W _⟩,br⟩⟩
  apply eH
  case hE=>rfl
  case hb=>exact E0
  case h=>
   intro vs W b hd;obtain⟨k,a,B,x0,x1,x2,x3,x4,V,c⟩:=(hd ⟨8,qN⟩ (cH.2 ⟨ar,rfl⟩) rfl).1 rfl;obtain⟨u,x,y,z,f4,A⟩:=bf c;have X:=tO c;rw[a];go_simp;refine⟨⟨(cM ab).t b.box,nV b.low ab _ _ _ _ _ _⟩,λq=>?_,⟨br,λ_=>⟨k,by simp[upd,a],B,nC c⟩⟩⟩;by_cases m:q=k
   .subst m;exact⟨λ_=>nC c,λ_=>⟨_,_,_,_,_,_,nC c⟩⟩
   .exact⟨λe=>(cM m).t e,fun⟨_,_,_,_,_,_,e⟩=>⟨_,_,_,_,_,_,(cM m).t e⟩⟩
  refine cP λvs W b hd=>?_;obtain⟨k,a,B,c⟩:=(hd 9 ab rfl).2 rfl;rw[a];obtain⟨u,x,y,z,f4,A⟩:=bf c;have Y:=j5 c;have D:=j5 b;clear c b hd a
  go_wp2_with (first
   |(go_at_call 58;refine(AX C g _).m ?_;rintro e w'⟨rfl,l⟩;have E:bL W w':=(by rw[l];exact((j6 _ _).a (dk _) _).a ar _);have F:w'.heap[W.heap.size+1]?=dO (ol #[fA fm g] 3):=(by have H:=au (eb W (ol C.val 78)) (ol #[fA fm g] 3);rw[ep]at H;rw[l];exact H);have c1:w'.heap[W.heap.size]?=dO (ol C.val 78):=(by rw[l];exact(((j6 (eb W (ol C.val 78)).heap.size _).a (dk _) _).k _ ar).t (au W _));have I:=j5 E;have R:=j5 c1;have S:=j5 F;clear l E c1 F)
   |(go_at_call 57;refine(NA C g N.o _ (p.o.below (nt D.o.low I.o)) R.o S.o).m ?_;rintro e w3⟨v,rfl,J,K⟩;have T:=j5 J;have U:=j5 K;clear J K))
  have L:=nt D.o.low I.o;refine bm (v:=gc #[v,fA fm 0]) ?_ rfl ⟨v,rfl,dJ T.o (by have:=L.z;omega),nt L U.o⟩;simp[bq,Tryz.results23,go_sem]
def tD{W:ad}{r:Nat}{x0 x1 x2 x3 x4 u0 u1 u2 u3 u4:ac}{t:bv}(h:W.heap[r]?=dO (ol #[x0,x1,x2,x3,x4] t)):(em (em (em (em (em W ⟨r,0,dQ⟩ u0) ⟨r,1,dQ⟩ u1) ⟨r,2,dQ⟩ u2) ⟨r,3,dQ⟩ u3) ⟨r,4,dQ⟩ u4).heap[r]?=dO (ol #[u0,u1,u2,u3,u4] t):=by
 simp only[em,dq,if_pos,h,il];rfl
def gh{W:ad}{r b:Nat}{u0 u1 u2 u3 u4:ac}(hb:b≠r):(em (em (em (em (em W ⟨r,0,dQ⟩ u0) ⟨r,1,dQ⟩ u1) ⟨r,2,dQ⟩ u2) ⟨r,3,dQ⟩ u3) ⟨r,4,dQ⟩ u4).heap[b]?=W.heap[b]?:=by
 simp only[em,dq,if_neg (gr hb)]
def vA(l:List nR):nR:=l.getLast?.getD (0,0,0,0,0)
abbrev aaW(x:nR):Array ac:=#[fA fm x.1,fA fm x.2.1,fA fm x.2.2.1,fA fm x.2.2.2.1,fA fm x.2.2.2.2]
def IE(l:List nR)(x:nR):vA (l++[x])=x:=by simp[vA]
def nU(C:CD)(g:Nat):Int×Int:=(vA (mD C g C.n4)).2.2.2
structure Si(w:ad)(pre:List nR)(W:ad):Prop where
 res:W.heap[w.heap.size+1]?=dO (ol #[fA fm 0,fA fm 0] 30)
 last:W.heap[w.heap.size+2]?=dO (ol (aaW (vA pre)) 73)
 low:bL w W
def yW{w W c:ad}{row:Option Nat}{a:List nR}{B:Nat}(d:w.heap.size+3<=B)(h:Si w a W)(hg:W.grownBy c row)(b:∀r,row=dO r->B<=r):Si w a c:=
 ⟨(hg.block _ (kc h.res) λe=>by have:=b _ e.y;omega).t h.res,(hg.block _ (kc h.last) λe=>by have:=b _ e.y;omega).t h.last,h.low.grown hg h.low.z λk e=>by have:=b _ e;omega⟩
def Lm(C:CD)(g:Nat)(P:yR C g)(w:ad)(hA:C.At w) :
 bj PL 59 #[fR C.val,fA fm g] w (aO (fR #[fA fm (nU C g).1,fA fm (nU C g).2]) w):=by
 have U:=j5 hA;have V:=j5 P;clear hA P;refine(ch (n:=9)).1 (ci (fx ao Tryz.func59) rfl trivial ?_ rfl);simp only[Tryz.ntmps59,eS,fo,ly,kY,k6,pD,pC,pT,pf,gB,fY];refine wpIn_wide.2 ?_;have y:Si w [] (eb (eb (eb w (ol C.val 78)) (ol #[fA fm 0,fA fm 0] 30)) (ol #[fA fm 0,fA fm 0,fA fm 0,fA fm 0,fA fm 0] 73)):=by
  refine⟨?_,?_,(((j6 _ _).a (dk _) _).a ar _).a (by simp;omega) _⟩
  .have b:=au (eb w (ol C.val 78)) (ol #[fA fm 0,fA fm 0] 30);rw[ep]at b;exact(((j6 (eb (eb w (ol C.val 78)) (ol #[fA fm 0,fA fm 0] 30)).heap.size _).a (dk _) _).k _ ar).t b
  .have b:=au (eb (eb w (ol C.val 78)) (ol #[fA fm 0,fA fm 0] 30)) (ol #[fA fm 0,fA fm 0,fA fm 0,fA fm 0,fA fm 0] 73);simp only[ep]at b;exact b
 have z:=j5 y;clear y
 go_wp2_with (go_at_call 58;refine(AX C g _).m ?_;rintro e w'⟨rfl,m⟩)
 have X:=z.o.low;have J:=bs (eb (eb (eb w (ol C.val 78)) (ol #[fA fm 0,fA fm 0] 30)) (ol #[fA fm 0,fA fm 0,fA fm 0,fA fm 0,fA fm 0] 73));have E:w'.heap.size=w.heap.size+5:=by rw[m];simp
 have Q:w'.heap[w.heap.size+3]?=dO (ol C.val 78):=by
  rw[m];have b:=au (eb (eb (eb w (ol C.val 78)) (ol #[fA fm 0,fA fm 0] 30)) (ol #[fA fm 0,fA fm 0,fA fm 0,fA fm 0,fA fm 0] 73)) (ol C.val 78);simp only[ep]at b;exact((((j6 (eb (eb (eb (eb w (ol C.val 78)) (ol #[fA fm 0,fA fm 0] 30)) (ol #[fA fm 0,fA fm 0,fA fm 0,fA fm 0,fA fm 0] 73)) (ol C.val 78)).heap.size _).a (dk _) _).k _ ar).t b)
 have F:w'.heap[w.heap.size+4]?=dO (ol #[fA fm g] 3):=by
  rw[m];have b:=au (eb (eb (eb (eb w (ol C.val 78)) (ol #[fA fm 0,fA fm 0] 30)) (ol #[fA fm 0,fA fm 0,fA fm 0,fA fm 0,fA fm 0] 73)) (ol C.val 78)) (ol #[fA fm g] 3);simp only[ep]at b;exact b
 have H:Si w [] w':=by
  rw[m];exact yW (dk _) z.o ((eA _ _ dQ).trans (eA _ _ dQ)) (λr e=>by cases e)
 have d:=j5 E;have L:=j5 Q;have M:=j5 F;rw[<-m];clear E Q F m X J;refine(wpIn_wide (n:=9)).1 ?_;refine yU ab (gf:=84) (lb:=#[f9 (dO ⟨w.heap.size+3,0,dQ⟩),f9 (dO ⟨w.heap.size+4,0,dQ⟩)]) rfl (enters_of (fx ao mm) ae rfl)
  (yT 8 ab (w.heap.size+3) (w.heap.size+4) w.heap.size g C V.o w rfl U.o)
  (λW I=>?_) Li (λW l o R hl Z hc hw=>Lj (n:=w.heap.size) (s:=w.heap.size+5) ab W l o R (by have:=d.o;omega) Z hc hw) (λ_=>rfl)
  (Si w) (λs A B row hs hg N=>yW (B:=w'.heap.size) (by have:=d.o;omega) hs hg λr e=>(N r e).1) (λs A B row hs hg N=>yW (B:=w'.heap.size) (by have:=d.o;omega) hs hg λr e=>(N r e).1) H
  (λx a W=>∃k,W.heap[k]?=dO (ol (aaW x) 73)/\a={ tmps:=#[fR C.val,fA fm g,f9 (dO ⟨w.heap.size,0,dQ⟩),undef,f9 (dO ⟨w.heap.size+1,0,dQ⟩),f9 (dO ⟨w.heap.size+2,0,dQ⟩),f9 (dO ⟨k,0,dQ⟩),fR C.val,fA fm g,ge (qG 84) #[] #[f9 (dO ⟨w.heap.size+3,0,dQ⟩),f9 (dO ⟨w.heap.size+4,0,dQ⟩)],fR (aaW x),undef,undef,undef],defers:=[] })
  ?A ?kg ?assign ?body ?done
 .have e:∀k,k<w.heap.size->W.heap[k]?=w.heap[k]?:=λk f=>(I.k k (by have:=d.o;omega)).t (H.low.k k f);exact⟨e,by have:=I.z;have:=d.o;omega,(I.k _ (by have:=d.o;omega)).t L.o,(I.k _ (by have:=d.o;omega)).t M.o⟩
 case A=>
  rintro x a W l o R hl hc⟨k,f,ha⟩;refine⟨k,(eE (λe=>?_)).t f,ha⟩;subst e;rw[hl]at f;cases f;cases hc
 case kg=>
  intro A B hs hg;have:=d.o;exact⟨λk f=>hg.block k ab ar,λk c t h _ _=>(hg.block k (kc h) ar).t h,hg.size⟩
 case assign=>
  intro l x W K O;dsimp only[VS]
  gi_wp2
  refine O _ _ (eA W _ dQ) ⟨W.heap.size,au _ _,rfl⟩
 case body=>
  rintro l pre x a W i⟨k,f,rfl⟩Nw;obtain⟨k0,k1,k2,k3,k4⟩:=qO f;obtain⟨l0,l1,l2,l3,l4⟩:=qO i.last;have fl:=tO i.last;have j:=j5 i;clear i f
  gi_wp2
  have Cu:=kc j.o.last;refine⟨((((pi W _ _).trans (pi _ _ _)).trans (pi _ _ _)).trans (pi _ _ _)).trans (pi _ _ _),⟨λq hq=>gh ab,λq c t h b h2=>(gh (λe=>?_)).t h,ar⟩,⟨(gh ab).t j.o.res,by rw[IE];exact tD j.o.last,((((j.o.low.s (p:=⟨w.heap.size+2,0,dQ⟩) ar _).s (p:=⟨w.heap.size+2,1,dQ⟩) ar _).s (p:=⟨w.heap.size+2,2,dQ⟩) ar _).s (p:=⟨w.heap.size+2,3,dQ⟩) ar _).s (p:=⟨w.heap.size+2,4,dQ⟩) ar _⟩⟩;subst e;have S:=j.o.last;rw[h]at S;cases S;exact b rfl
 case done=>
  intro D W T i O;obtain⟨l0,l1,l2,l3,l4⟩:=qO i.last;obtain⟨t0,t1,u0,u1⟩:=uJ i.res;have j:=j5 i;have HD:=j5 T;clear i T;go_wp2;have hK':=((pi W ⟨w.heap.size+1,0,dQ⟩ (fA fm (vA (mD C g C.n4)).2.2.2.1)).trans (pi _ ⟨w.heap.size+1,1,dQ⟩ (fA fm (vA (mD C g C.n4)).2.2.2.2))).same D _ O rfl;obtain⟨d0,d1,_,_⟩:=yD (u:=fA fm (vA (mD C g C.n4)).2.2.2.1) (v:=fA fm (vA (mD C g C.n4)).2.2.2.2) t0 t1;have e0:=cell_kept d0 (cq _ D (ov dQ)) (λr e=>by cases e;exact⟨_,hK',rfl⟩);have e1:=cell_kept d1 (cq _ D (ov dQ)) (λr e=>by cases e;exact⟨_,hK',rfl⟩);refine⟨ar,qu ⟨_,_,rfl,co hK',?_⟩⟩;refine⟨fR #[fA fm (nU C g).1,fA fm (nU C g).2],?_,rfl,(((j.o.low.s (p:=⟨w.heap.size+1,0,dQ⟩) (n1 _) _).s (p:=⟨w.heap.size+1,1,dQ⟩) (n1 _) _)).t (belowK_b (w:=w) (dk _) _ D _ _ (by have:=HD.o;have:=d.o;omega) hK' rfl rfl)⟩;simp[bq,Tryz.results59,go_sem,e0,e1,nU]
structure KE(C:CD)(w W:ad):Prop where
 box:W.heap[w.heap.size]?=dO (ol C.val 27)
 res:W.heap[w.heap.size+1]?=dO (ol #[fA fm 0,fA fm 0] 30)
 low:bL w W
def KE.on{b:ad}(h:KE J C M)(a:bL M b):KE J C b:=
 ⟨(a.k _ (kc h.box)).t h.box,(a.k _ (kc h.res)).t h.res,nt h.low a⟩
def KE.lt(h:KE J C M):C.heap.size+1<M.heap.size:=kc h.res
def alV(C:CD)(w:ad)(j:Nat)(vs:Nat->ac)(W:ad):Prop:=
 (j=8->∃k,vs 8=f9 (dO ⟨k,0,dQ⟩)/\w.heap.size+1<k/\Six W k)/\(j=9->∃k,vs 8=f9 (dO ⟨k,0,dQ⟩)/\w.heap.size+1<k/\W.heap[k]?=dO (ol C.val 78))
def Sj(C:CD)(g:Nat)(w:ad)(h:C.At w)(hg:g<C.n5)(m5:C.n5<=3)(hf:C.b6 d8=0)(x:yR C g) :
 bj PL 24 #[fR C.val,fA fm g] w (aO (gc #[fR #[fA fm (nU C g).1,fA fm (nU C g).2],fA fm 0]) w):=by
 have y:=j5 h;have K:=j5 hf;have L:=j5 x
 have n:Hid (KE C w (eb (eb w (ol C.val 27)) (ol #[fA fm 0,fA fm 0] 30))):=j5 ⟨(((j6 (eb w (ol C.val 27)).heap.size _).a (dk _) _).k _ ar).t (au w _),by
  have z:=au (eb w (ol C.val 27)) (ol #[fA fm 0,fA fm 0] 30);rw[ep]at z
  exact z,((j6 _ _).a (dk _) _).a ar _⟩
 clear h hf x;go_enter (fx ao Tryz.func24),Tryz.ntmps24
 go_upto_region 1 with fail
 refine cT 10 (KE C w) (Fo C) (λj=>j != 8&&j != 9) (alV C w) rfl ae ae
  (λi vs W A l h=>⟨λe=>(h.1 e).i λk b=>⟨b.1,b.2.1,(l k).2 b.2.2⟩,λe=>(h.2 e).i λk b=>⟨b.1,b.2.1,(l k).1 b.2.2⟩⟩) (λi o B vs M W N hd h=>⟨λe=>?_,λe=>?_⟩) ?_ ?_
 .subst e;rw[<-N];exact h.1 rfl
 .subst e;have O:vs 8=M 8:=by
   simp only[gw,fP,ft,kj]at B;subst B;exact hd ⟨8,qN⟩ (cH.2 ⟨ar,rfl⟩)
  rw[<-O];exact h.2 rfl
 .exact⟨n.o.box,n.o.res,n.o.low.d⟩
 .iterate 8 (
   apply aY
   case hE=>rfl
   case h=>
    intro vs W a hd;obtain⟨D,E,F,H,f4,I⟩:=bf a.box;go_simp
    first
    |(go_at_call 56;refine(AZ C g hg m5 _).m ?_;rintro e A⟨rfl,d⟩;exact⟨_,rfl,rfl,a.on d,Fo.on d⟩)
    |(go_at_call 31;refine(kF K.o (y.o.below a.low)).m ?_;rintro e A⟨rfl,d⟩;exact⟨_,rfl,rfl,a.on d,Fo.on d⟩)
    |exact⟨rfl,Fo.on (j6 _ _)⟩
   case hb=>exact E0)
  apply eH
  case hE=>rfl
  case hb=>exact E0
  case h=>
   intro vs W a hd;go_simp;have d:=(j6 W.heap.size W).a (dk _) (ol #[fA fm 0,fA fm 0,f6 dQ 0 0,f6 dQ 0 0,f6 dQ 0 0,f6 dQ 0 0] 78)
   first
   |exact⟨a.on d,Fo.on d,⟨λ_=>⟨W.heap.size,by simp[upd],a.lt,_,_,_,_,_,_,au W _⟩,br⟩⟩
  apply eH
  case hE=>rfl
  case hb=>exact E0
  case h=>
   intro vs W a hd;obtain⟨k,b,J,x0,x1,x2,x3,x4,S,c⟩:=(hd ⟨8,qN⟩ (cH.2 ⟨ar,rfl⟩) rfl).1 rfl;obtain⟨D,E,F,H,f4,I⟩:=bf c;have T:=tO c;rw[b];go_simp;refine⟨⟨(cM ab).t a.box,(cM ab).t a.res,nV a.low ab _ _ _ _ _ _⟩,λq=>?_,⟨br,λ_=>⟨k,by simp[upd,b],J,nC c⟩⟩⟩;by_cases r:q=k
   .subst r;exact⟨λ_=>nC c,λ_=>⟨_,_,_,_,_,_,nC c⟩⟩
   .exact⟨λe=>(cM r).t e,fun⟨_,_,_,_,_,_,e⟩=>⟨_,_,_,_,_,_,(cM r).t e⟩⟩
  refine cP λvs W a hd=>?_;obtain⟨k,b,J,c⟩:=(hd 9 ab rfl).2 rfl;rw[b];obtain⟨D,E,F,H,f4,I⟩:=bf c;have U:=j5 c;have f:=j5 a;clear c a hd b;obtain⟨V,t1,u0,u1⟩:=uJ f.o.res;have fr:=tO f.o.res
  go_wp2_with (go_at_call 59;refine(Lm C g L.o _ (y.o.below f.o.low)).m ?_;rintro e w3⟨rfl,s⟩;have m:=(s.k _ (kc f.o.res)).t f.o.res;obtain⟨X,v1,Y,Z⟩:=uJ m;have P:=tO m;have Q:=j5 s;have t:=j5 m;clear s m)
  have R:=nt f.o.low Q.o;refine bm (v:=gc #[fR #[fA fm (nU C g).1,fA fm (nU C g).2],fA fm 0]) ?_ rfl ⟨rfl,(R.s (p:=⟨w.heap.size+1,0,dQ⟩) (n1 _) _).s (p:=⟨w.heap.size+1,1,dQ⟩) (n1 _) _⟩;obtain⟨a0,a1,_,_⟩:=uJ (yL (u:=fA fm (nU C g).1) (v:=fA fm (nU C g).2) t.o);simp[bq,Tryz.results24,go_sem,a0,a1]
def Fp(C:CD)(R:ad->ac->Prop)(w:ad)(h:C.At w)(hf:C.b6 d8=0)
 (b:∀W,C.At W->bj PL 32 #[fR C.val] W λe w'=>∃v,e=qr v/\R w' v/\bL W w') :
 bj PL 6 #[fR C.val] w λe w'=>∃v,e=qr (gc #[v,fA fm 0])/\R w' v/\bL w w':=by
 have c:=j5 h;have k:=j5 hf;have a:=j5 b;have d:Hid (KB C w (eb w (ol C.val 27))):=j5 ⟨au _ _,(j6 _ _).a (dk _) _⟩;clear h hf b;go_enter (fx ao Tryz.func6),Tryz.ntmps6
 go_wp2_with (first
  |(go_at_call 31;refine(kF k.o (c.o.below d.o.low)).m ?_;rintro e w1⟨rfl,f⟩;have g:=j5 (d.o.on f);clear f)
  |(go_at_call 32;refine(a.o _ (c.o.below (g.o.alloc (ol C.val 78)).low)).m ?_;rintro e w2⟨v,rfl,i,j⟩;have l:=j5 ((g.o.alloc (ol C.val 78)).on j);have m:=j5 i;clear j i))
 refine bm (v:=gc #[v,fA fm 0]) ?_ rfl ⟨v,rfl,m.o,l.o.low⟩;simp[bq,Tryz.results6,go_sem]
structure KT(C:CD)(w W:ad):Prop where
 box:W.heap[w.heap.size]?=dO (ol C.val 78)
 low:bL w W
def KT.on{a:ad}(h:KT J C M)(b:bL M a):KT J C a:=
 ⟨(b.k _ (kc h.box)).t h.box,nt h.low b⟩
def qP(C:CD)(p:Nat):Bool:=decide (∀g,g<p->(nU C g).2<=C.l)
def IF(h:qP J q=d8)(k:(nU J q).2<=J.l):qP J (q+1)=d8:=by
 simp only[qP,decide_eq_true_eq]at *;intro g hg
 rcases fg.1 hg with a|rfl
 .exact h g a
 .exact k
def Sk(a:q<R)(k:¬(nU J q).2<=J.l):qP J R=dU:=by
 simp only[qP,decide_eq_false_iff_not];exact λh=>k (h q a)
def ag1(a b:Int)(W:ad):Sem.run PL (c8 30 (fR #[fA fm a,fA fm b]) 1) W=hG (fA fm b) W:=ae
def VY(C:CD)(n:Nat)(w:ad)(h:C.At w)(hc:C.cx=0)(m5:C.n5<=3)
 (q:∀W,C.At W->bj PL 32 #[fR C.val] W λe w'=>∃b c,e=qr (f6 b n c)/\bL W w') :
 bj PL 35 #[fR C.val] w (aO (f7 (qP C C.n5&&decide (n=0))) w):=by
 have r:=j5 h;have j:=j5 q;have v:=j5 hc;have x:Hid (KT C w (eb w (ol C.val 78))):=j5 ⟨au _ _,(j6 _ _).a (dk _) _⟩;clear h q hc;go_enter (fx ao Tryz.func35),Tryz.ntmps35;go_wp2
 go_loopw [8] (λk wr=>∃p:Nat,p<=C.n5/\k=fA fm p/\qP C p=d8/\KT C w wr) (λk _=>C.n5-(intOf k).toNat)
 case atStart=>exact⟨0,eF _,rfl,by simp[qP],x.o⟩
 case round=>
  obtain⟨p,K,rfl,hs,s⟩:=hrel;have f:=j5 s;have t:=j5 hs;clear s hs;by_cases i:p<C.n5
  .have y:(p:Int)<C.n5:=ab;have z:=j5 (Sa C v.o i)
   go_upto_region 4 with fail
   refine ig (KT C w) (λ_ _=>True) (λ_=>d8) (λ_ _ _=>True) rfl ae (λ_ _ _ _ _ _=>trivial) (λ_ _ _ _ _ _ _ _ _=>trivial) ⟨f.o.box,f.o.low.d⟩ ?_
   iterate 8 (
    apply aY
    case hE=>rfl
    case h=>
     intro vs W d hd;obtain⟨A,B,D,E,f4,F⟩:=bf d.box;have q1:=ag1;go_simp
     first
     |(go_at_call 59;refine(Lm C p z.o _ (r.o.below d.low)).m ?_;rintro e L⟨rfl,H⟩;exact⟨_,rfl,rfl,d.on H⟩)
     |exact rfl
    case hb=>exact E0)
   refine cP λvs W d hd=>?_;have g:=j5 d;clear hd d;by_cases a:(nU C p).2<=C.l
   .have m:=j5 a;have I:¬(C.l<(nU C p).2):=ab;clear a;go_wp2;exact⟨⟨p+1,i,by go_num,IF t.o m.o,g.o⟩,by simp only[intOf];omega⟩
   .have m:=j5 a;have I:C.l<(nU C p).2:=ab;clear a;go_wp2;go_ret;have hs:=Sk i (Int.not_le.2 m.o);refine⟨?_,g.o.low⟩;rw[hs,iY];rfl
  .have o:p=C.n5:=ab;have y:¬((p:Int)<C.n5):=ab;clear i;obtain⟨A,B,D,E,f4,F⟩:=bf f.o.box
   go_wp2_with (go_at_call 32;refine(j.o _ (r.o.below f.o.low)).m ?_;rintro e w2⟨b,c,rfl,u⟩;have J:=j5 (f.o.on u);clear u)
   go_ret;have hs:qP C C.n5=d8:=by have h:=t.o;first|(rw[o]at h;exact h)|exact h
   have e:((n:Int)==0)=decide (n=0):=by by_cases h:n=0<;>simp[h]
   refine⟨?_,J.o.low⟩;rw[hs,e,js];rfl
end Go.Proofs
namespace Go.Proofs
open Go.RowKit
variable {q:Type}{C:ad}{J:ac}
variable {L:List nR}
def agO(l:List nR)(i j:Nat)(hi:i<l.length)(a:j<5):(l.flatMap vV)[i*5+j]?=(vV l[i])[j]?:=by
 induction l generalizing i with
 |nil=>cases hi
 |cons x l b=>
  rw[ix];have e:(vV x).length=5:=rfl;grind
def aax{a:Type}(lt:a->a->Bool)(x:a):List a->List a
 |[]=>[x]
 |y::P=>if lt x y then y::aax lt x P else x::y::P
def abi(lt:q->q->Bool):List q->List q:=jp (λP x=>aax lt x P) []
def NR(lt:q->q->Bool)(l:List q):List q:=(abi lt l).reverse
def amj(lt:q->q->Bool)(x:q)(P:List q):(aax lt x P).length=P.length+1:=by
 induction P with
 |nil=>rfl
 |cons y P b=>rw[aax];split<;>simp[b]
def ahn(lt:q->q->Bool)(l:List q)(x:q):abi lt (l++[x])=aax lt x (abi lt l):=by simp[abi,lh]
def afB(lt:q->q->Bool)(l:List q):(abi lt l).length=l.length:=by
 have key:∀(l P:List q),(jp (λP x=>aax lt x P) P l).length=P.length+l.length:=by
  intro l
  induction l with
  |nil=>intro P;simp
  |cons x l b=>intro P;rw[cB,b,amj,fo];omega
 rw[abi,key];simp
def afC(lt:q->q->Bool)(l:List q):(NR lt l).length=l.length:=by simp[NR,afB]
def Q3(x y:nR):Bool:=decide (x.2.2.2.2<y.2.2.2.2)
def aho(x y:nR)(w:ad):bj PL 66 #[fR (aaW x),fR (aaW y)] w λe w'=>e=qr (fA fm (Ip x.2.2.2.2 y.2.2.2.2))/\w'=eb (eb w (ol (aaW x) 76)) (ol (aaW y) 76):=by
 go_enter (fx ao mn),Tryz.ntmps66
 go_wp2_with (go_at_call 67;refine(Kw _ _ _).m ?_;rintro e w'⟨rfl,rfl⟩)
 go_ret;exact⟨rfl,rfl⟩
def ap3(x y:nR):(Ip x.2.2.2.2 y.2.2.2.2<0)↔Q3 x y=d8:=by
 unfold Ip Q3;rw[decide_eq_true_iff];split
 .simp[*]
 .split<;>simp[*]
open Go.Shelf Go.Sort
def anw[Inhabited q](P R:List q)(x y:q):(P++y::x::R).toArray[P.length]! = y/\(P++y::x::R).toArray[P.length+1]! = x:=by
 grind
def amk[Inhabited q](P R:List q)(x y:q):swp (P++y::x::R).toArray (P.length+1) P.length=(P++x::y::R).toArray:=by
 unfold swp;simp_all
def abv{a:Type}[Inhabited a](lt:a->a->Bool)(x:a):∀(P R:List a),insInner lt 0 P.length (P.reverse++x::R).toArray=((aax lt x P).reverse++R).toArray
 |[],R=>by rw[ly,insInner];simp[aax]
 |y::P,R=>by
  have h:(y::P).reverse++x::R=P.reverse++y::x::R:=ar;have e:=anw P.reverse R x y;have hs:=amk P.reverse R x y;rw[List.length_reverse]at e hs;rw[h,fo,insInner,e.1,e.2,aax];by_cases hl:lt x y=d8
  .rw[if_pos (by simp[hl]),if_pos hl,hs,abv lt x P (y::R)];simp
  grind
def abw{a:Type}[Inhabited a](lt:a->a->Bool)(L:List a):∀(n i:Nat),L.length-i=n->insOuter lt 0 L.length i (NR lt (L.take i)++L.drop i).toArray=(NR lt L).toArray
 |0,i,h=>by
  grind [insOuter_stop,List.take_of_length_le,List.drop_of_length_le]
 |n+1,i,h=>by
  have hi:i<L.length:=ab;have hl:(abi lt (L.take i)).length=i:=by rw[afB];simp;omega
  rw[insOuter_go _ _ _ _ _ hi,<-abw lt L n (i+1) ab,List.drop_eq_getElem_cons hi];congr 1;have:=abv lt L[i] (abi lt (L.take i)) (L.drop (i+1));rw[hl]at this;rw[NR,this,NR,List.take_succ_eq_append_getElem hi,ahn]
def abA[Inhabited q](lt:q->q->Bool)(L:List q):insertionSort lt L.toArray 0 L.length=(NR lt L).toArray:=by
 unfold insertionSort;have:=abw lt L (L.length-1) 1 rfl;have e:NR lt (L.take 1)++L.drop 1=L:=by
  cases L with
  |nil=>rfl
  |cons a L=>simp[NR,abi,aax]
 rw[e]at this;exact this
def ag2:k7 PL 33=dO (qt 76):=ae
def aaX:(PL.info? 76).map (λi=>(i.zero,i.size,i.bytes))=dO (dO (fR #[fA fm 0,fA fm 0,fA fm 0,fA fm 0,fA fm 0]),5,40):=ae
def kV(W:ad)(base:Nat)(v:ac)(l:List nR):Prop:=ek W base 76 5 v l.length (l.flatMap vV)
def kV.alloc{base:Nat}(h:kV C base J L)(o:Obj):kV (eb C o) base J L:=k8 h o
def kV.on{b:ad}{base:Nat}(h:kV C base J L)(d:bL C b):kV b base J L:=by
 obtain⟨c,h⟩:=h
 rcases h with h|⟨g,cap,a,e1,hb,hg,e⟩
 .exact⟨c,qu h⟩
 .exact⟨c,qx ⟨g,cap,a,e1,hb,(d.k _ (kc hg)).t hg,e⟩⟩
def vB{base e size n:Nat}{xs:List ac}(h:ek C base e size J n xs):∃b c,J=f6 b n c:=by
 rcases h.2 with⟨rfl,d⟩|⟨g,cap,a,rfl,_⟩
 .grind
 .exact⟨_,_,rfl⟩
def avO:Ren:=⟨λ_=>136,λt=>if t=24 then 76 else if t=22 then 33 else if t=25 then 123 else t,λt=>t⟩
def avP:SlLaysF0.n20 PL avO where
 mixed:=rfl
 f20:=⟨ "slices.insertionSortCmpFunc[nock/api.FieldTrouble]",ao,(fx ao mc).t ae⟩
 t0:=ae
 a0:=by intro w;kernel_rfl
 z0:=by intro w;kernel_rfl
 v0:=by intro w;kernel_rfl
 t3:=ae
 a3:=by intro w;kernel_rfl
 z3:=by intro w;kernel_rfl
 v3:=by intro w;kernel_rfl
 t4:=ae
 a4:=by intro w;kernel_rfl
 z4:=by intro w;kernel_rfl
 v4:=by intro w;kernel_rfl
 t22:=ae
 a22:=by intro w;kernel_rfl
 z22:=by intro w;kernel_rfl
 v22:=by intro w;kernel_rfl
 t25:=ae
 a25:=by intro w;kernel_rfl
 z25:=by intro w;kernel_rfl
 v25:=by intro w;kernel_rfl
def agP(L:List nR)(t:Nat)(h:t<L.length*5):(L.flatMap vV)[t]?=dO (flatK vV 5 L.toArray)[t]!:=by
 have a:t / 5<L.length:=ab;have e:=agO L (t / 5) (t % 5) a ab;rw[show t / 5*5+t % 5=t by omega]at e;have b:L.toArray[t / 5]! = L[t / 5]:=aS;rw[e,get_flatK _ _ _ _ (by simpa using h),b];have c:t % 5<(vV L[t / 5]).length:=kf _ ao;grind
def agQ(L:List nR)(b c base:Nat)(w:ad)(h:kV w base (f6 (dO ⟨b,0,dQ⟩) L.length c) L)(hl:L.length<=20) :
 bj PL 136 #[f6 (dO ⟨b,0,dQ⟩) L.length c,fA fm 0,fA fm L.length,ge (qG 66) #[] #[]] w λe w'=>(∃v,e=qr v)/\kV w' base (f6 (dO ⟨b,0,dQ⟩) L.length c) (NR Q3 L)/\Below base w w':=by
 obtain⟨F,⟨z,_⟩|⟨g,cap,a,e,hb,hg,hc,A,hs,B⟩⟩:=h
 .cases z
 obtain⟨e1,_,C⟩:=pk e;cases e1;cases C;have f:=kc hg;have D:HoldsK vV 5 w b 0 L.toArray:=by
  intro j p;have p:j<L.length*5:=by simpa using p
  refine⟨?_,tO hg _⟩;have:=agP L j p;rw[<-B,e6 p]at this;simp only[d9,hg,ei];simpa using this
 have q:CmpLays PL 66 #[] vV 5 (λx y=>Ip x.2.2.2.2 y.2.2.2.2) b 0 L.toArray.size w:=λm r H hd x y=>by
  refine(aho x y _).m ?_;rintro e w'⟨rfl,rfl⟩;exact⟨rfl,0,_,by rw[alloc_eq_grow,alloc_eq_grow,grow_grow];rfl⟩
 refine(AnyQ.insertionSortCmpFunc avP 5 (by intro w;kernel_rfl) (by intro w;kernel_rfl) vV (λ_=>rfl) (λx v hv=>by simp only[vV,dp,eW,or_false]at hv;rcases hv with rfl|rfl|rfl|rfl|rfl<;>rfl) _ 66 #[] b 0 c 0 L.length L.toArray w (JZ (fx ao mn) (by decide +kernel) rfl) q D f (eF _) ar (by simp;omega)).m ?_;rintro e w'⟨rfl,n,r,rfl⟩;have E:(ltOf λx y:nR=>Ip x.2.2.2.2 y.2.2.2.2)=Q3:=by
  funext x y;have:=ap3 x y;unfold ltOf;grind
 rw[E,abA];obtain⟨S,u⟩:=bs (NR Q3 L);have d:S.length=L.length:=by rw[u,afC]
 rw[<-u];have hF:(flatK vV 5 S.toArray).size=L.length*5:=by simp[d]
 have i:(sortWorldK vV 5 w b 0 n S.toArray r).heap=w.heap.modify b (onCells (putCells id 0 (flatK vV 5 S.toArray)))++r:=rfl;refine⟨⟨_,rfl⟩,⟨?_,qx ⟨b,c,putCells id 0 (flatK vV 5 S.toArray) a,by rw[d],hb,?_,by rw[d];exact hc,A,?_,?_⟩⟩,?_⟩
 .have:∀l:List nR,(l.flatMap vV).length=l.length*5:=λl=>by
   induction l with
   |nil=>rfl
   |cons x l s=>rw[ix,dC,s];simp[vV];omega
  exact this S
 .rw[i,Array.getElem?_append_left (by simpa using f),dq,if_pos rfl,hg];rfl
 .simpa[putCells]using hs
 .apply h6;intro t;rw[pw];have hcs:L.length*5<=a.size:=ab;split
  .rename_i o;rw[d]at o;rw[agP S t ab];have:a[t]?=dO a[t]:=gt ab;simp only[putCells,ib,Array.getElem?_mapIdx,this,il];grind
  .rename_i o;rw[ii];have:∀l:List nR,(l.flatMap vV).length=l.length*5:=λl=>by
    induction l with
    |nil=>rfl
    |cons x l s=>rw[ix,dC,s];simp[vV];omega
   rw[this];omega
 .exact⟨rfl,rfl,rfl,by rw[i];simp,λk I=>aS⟩
end Go.Proofs
namespace Go.Proofs
open Go.RowKit Go.Shelf
attribute [local go_sem] Oper.semAt_some
variable {J q:Nat}{L:Nat->ac}{C M:ad}
def ac3(a1 a2 a3 a4 a b c d:Int):Int:=Ej (decide (a1<d)&&decide (a<a4)) (decide (a3<=b)||decide (c<=a2))
def IU(L:List Int)(a b p:Nat):nR:=(a,(b:Nat),(p:Nat),ac3 (L.getD (a*25+p*5+1) 0) (L.getD (a*25+p*5+2) 0) (L.getD (a*25+p*5+3) 0) (L.getD (a*25+p*5+4) 0) (L.getD (b*25+p*5+1) 0) (L.getD (b*25+p*5+2) 0) (L.getD (b*25+p*5+3) 0) (L.getD (b*25+p*5+4) 0),max (L.getD (a*25+p*5+1) 0) (L.getD (b*25+p*5+1) 0))
def aaz(L:List Int)(a b:Nat):Nat->List nR
 |0=>[]
 |p+1=>aaz L a b p++if(IU L a b p).2.2.2.1=2 then[] else[IU L a b p]
def aag(L:List Int)(n a:Nat):Nat->List nR
 |0=>[]
 |k+1=>aag L n a k++aaz L a (a+1+k) n
def aal(L:List Int)(n m:Nat):Nat->List nR
 |0=>[]
 |a+1=>aal L n m a++aag L n a (m-(a+1))
def alb(L:List Int)(n m:Nat):List nR:=NR Q3 (aal L n m m)
def acE(L:List Int)(a b p:Nat):(aaz L a b p).length<=p:=by
 induction p with
 |zero=>exact dk _
 |succ p c=>rw[aaz,dC];split<;>simp<;>omega
def R9(L:List Int)(b:q<=5)(a k:Nat):(aag L q a k).length<=5*k:=by
 induction k with
 |zero=>exact dk _
 |succ k c=>have:=acE L a (a+1+k) q;rw[aag,dC];omega
def agR(L:List Int)(b:q<=5)(c:J<=3)(a:Nat):(aal L q J a).length<=15*a:=by
 induction a with
 |zero=>exact dk _
 |succ a d=>have:=R9 L b a (J-(a+1));rw[aal,dC];omega
def acH(L:List Int)(a:q<=5)(c:J<=3):(aal L q J J).length<=15:=by
 match J,c with
 |0,_=>exact eF _
 |1,_=>
  have b:=R9 L a 0 0;rw[show aal L q 1 1=aag L q 0 0 from rfl];omega
 |2,_=>
  have b:=R9 L a 0 1;have d:=R9 L a 1 0;rw[show aal L q 2 2=aag L q 0 1++aag L q 1 0 from rfl,dC];omega
 |3,_=>
  have b:=R9 L a 0 2;have d:=R9 L a 1 1;have e:=R9 L a 2 0;rw[show aal L q 3 3=aag L q 0 2++aag L q 1 1++aag L q 2 0 from rfl,dC,dC];omega
def z61:Array ac:=#[fA fm 0,fA fm 0,fA fm 0,fA fm 0,fA fm 0]
def IG(n0:Nat)(A:Array ac)(j:Nat)(vs:Nat->ac)(W:ad):Prop:=
 (j=14->∃k,vs 14=f9 (dO ⟨k,0,dQ⟩)/\n0<=k/\k<W.heap.size/\∃x0 x1 x2 x3 x4,W.heap[k]?=dO (ol #[x0,x1,x2,x3,x4] 73))/\
 (j=15->∃k,vs 15=f9 (dO ⟨k,0,dQ⟩)/\n0<=k/\k<W.heap.size/\W.heap[k]?=dO (ol z61 73))/\
 (j=16->∃k,vs 14=f9 (dO ⟨k,0,dQ⟩)/\W.heap[k]?=dO (ol A 73))
def ExT(t:Nat):Bool:=t != 14&&t != 15&&t != 16
def neT(i j:Nat)(u v:ac):Prop:=(i=14/\j=15\/i=15/\j=14)->u≠v
def IG.le{A:Array ac}(h:IG q A J L C)(b:bL C M):IG q A J L M:=
 ⟨λe=>(h.1 e).i λj⟨c,f,d,x0,x1,x2,x3,x4,a⟩=>⟨c,f,bT d b.z,x0,x1,x2,x3,x4,(b.k _ d).t a⟩,
  λe=>(h.2.1 e).i λj⟨c,f,d,a⟩=>⟨c,f,bT d b.z,(b.k _ d).t a⟩,
  λe=>(h.2.2 e).i λj⟨c,a⟩=>⟨c,(b.k _ (kc a)).t a⟩⟩
def Sl{A:Array ac}{D:List Nat}(f:q<=C.heap.size)(hi:J=14\/J=15)(hd:∀j∈D,ExT j=dU->IG q A j L C) :
 (∀j∈D,ExT j=dU->IG q A j L (eb C (ol z61 73)))/\IG q A J (upd L J (f9 (dO ⟨C.heap.size,0,dQ⟩))) (eb C (ol z61 73))/\∀j∈D,ExT j=dU->neT j J (L j) (f9 (dO ⟨C.heap.size,0,dQ⟩)):=by
 have g:=(j6 C.heap.size C).a (dk _) (ol z61 73);refine⟨λj c d=>(hd j c d).le g,⟨λe=>⟨C.heap.size,by simp[upd,e],f,ar,_,_,_,_,_,au _ _⟩,λe=>⟨C.heap.size,by simp[upd,e],f,ar,au _ _⟩,λe=>ab⟩,λj c d e1 e=>?_⟩;obtain⟨W,a,b⟩:∃W,L j=f9 (dO ⟨W,0,dQ⟩)/\W<C.heap.size:=by
  rcases e1 with⟨rfl,_⟩|⟨rfl,_⟩
  .obtain⟨W,a,_,b,_⟩:=(hd _ c d).1 rfl;exact⟨W,a,b⟩
  .obtain⟨W,a,_,b,_⟩:=(hd _ c d).2.1 rfl;exact⟨W,a,b⟩
 rw[a]at e;cases e;exact dt _ b
structure KR(C:CD)(w:ad)(k:Nat)(L:List Int)(B:Nat)(W:ad):Prop where
 pK:B<=W.heap.size
 kl:k<B
 bl:w.heap.size<B
 box:W.heap[w.heap.size]?=dO (ol C.val 78)
 row:Row W k (L.map bh)
 low:bL w W
def KR.on{C:CD}{w W b:ad}{k:Nat}{L:List Int}{B:Nat}(h:KR C w k L B W)(a:bL W b):KR C w k L B b:=
 ⟨da h.pK a.z,h.kl,h.bl,(a.k _ (kc h.box)).t h.box,h.row.on a,nt h.low a⟩
def Below.ag3(h:Below q C M)(b:q<=J)(u0 u1 u2 u3 u4:ac):Below q C (em (em (em (em (em M ⟨J,0,dQ⟩ u0) ⟨J,1,dQ⟩ u1) ⟨J,2,dQ⟩ u2) ⟨J,3,dQ⟩ u3) ⟨J,4,dQ⟩ u4):=
 ((((h.s (p:=⟨J,0,dQ⟩) b _).s (p:=⟨J,1,dQ⟩) b _).s (p:=⟨J,2,dQ⟩) b _).s (p:=⟨J,3,dQ⟩) b _).s (p:=⟨J,4,dQ⟩) b _
def Sm{W:ad}{b:Nat}{x:nR}{t:bv}(h:W.heap[b]?=dO (ol #[fA fm x.1,fA fm x.2.1,fA fm x.2.2.1,fA fm x.2.2.2.1,fA fm x.2.2.2.2] t)):∀(j:Nat)(u:ac),(vV x)[j]?=dO u->d9 W ((⟨b,0,dQ⟩:ag).add j)=dO u:=by
 intro j u e
 match j,e with
 |0,e=>cases e;simp[d9,li,h]
 |1,e=>cases e;simp[d9,li,h]
 |2,e=>cases e;simp[d9,li,h]
 |3,e=>cases e;simp[d9,li,h]
 |4,e=>cases e;simp[d9,li,h]
 |j+5,e=>simp[vV]at e
def KR.alloc{w:CD}{L:List Int}(h:KR w C q L J M)(o:Obj):KR w C q L J (eb M o):=h.on ((j6 _ _).a (dk _) o)
def ahp(v:ac)(L:List nR){base:Nat}(h:kV C base v L)(hl:L.length<=15):bj PL 65 #[v,ge (qG 66) #[] #[]] C λe w'=>e=qr v/\kV w' base v (NR Q3 L)/\Below base C w':=by
 obtain⟨n,d⟩:=bs L.length;obtain⟨b,c,rfl⟩:=vB h;rw[<-d]
 have H:Hid (bj PL 136 #[f6 b n c,fA fm 0,fA fm n,ge (qG 66) #[] #[]] C λe w'=>(∃v,e=qr v)/\kV w' base (f6 b n c) (NR Q3 L)/\Below base C w'):=j5 (by
  have k:=h
  rcases h.2 with⟨e,l⟩|⟨g,cap,m,e,_⟩
  .obtain⟨rfl,_,rfl⟩:=pk e;obtain rfl:=nf.1 l;subst d;refine(zW dQ 0 0 0 _ C ab).m ?_;rintro e w'⟨a,rfl⟩;exact⟨a,k,j6 _ _⟩
  .obtain⟨rfl,_,rfl⟩:=pk e;rw[d]
   exact agQ L g c base C k ab)
 rw[<-d]at hl;clear h d;have p:(n:Int)<20:=ab;have q:(n:Int)<=20:=ab
 have i:Hid (bj PL 122 #[f6 b n c,fA fm n,ge (qG 66) #[] #[]] C λe w'=>(∃v,e=qr v)/\kV w' base (f6 b n c) (NR Q3 L)/\Below base C w'):=j5 (by
  go_enter (fx ao Tryz.func122),Tryz.ntmps122;go_wp2
  go_loop [7,8] (λv7 o=>v7=fA fm 0/\o=fA fm 20) (λ_ _=>0)
  case atStart=>exact⟨rfl,rfl⟩
  case round=>
   obtain⟨rfl,rfl⟩:=hrel
   go_wp2_with (go_at_call 136;refine H.o.m ?_;rintro e w3⟨⟨v,rfl⟩,a⟩;have f:=j5 a;clear a)
   go_loop [6] (λv=>v=fA fm 20) (λ_=>0)
   case atStart=>rfl
   case round=>
    subst hrel;go_wp2
    go_end0
    exact⟨⟨_,rfl⟩,f.o⟩)
 have j:Hid (bj PL 92 #[f6 b n c,ge (qG 66) #[] #[]] C λe w'=>(∃v,e=qr v)/\kV w' base (f6 b n c) (NR Q3 L)/\Below base C w'):=j5 (by
  go_enter (fx ao Tryz.func92),Tryz.ntmps92
  go_wp2_with (go_at_call 122;refine i.o.m ?_;rintro e w'⟨⟨v,rfl⟩,a⟩;have f:=j5 a;clear a)
  go_end0
  exact⟨⟨_,rfl⟩,f.o⟩)
 go_enter (fx ao Tryz.func65),Tryz.ntmps65
 go_wp2_with (go_at_call 92;refine j.o.m ?_;rintro e w'⟨⟨v,rfl⟩,a⟩;have f:=j5 a;clear a)
 go_ret;exact⟨rfl,f.o⟩
def abI(C:CD)(L:List Int)(hL:L.length=75)(h4:C.n4<=5)(h5:C.n5<=3)(w:ad)(h:C.At w)
 (HT:∀W,C.At W->bj PL 61 #[fR C.val] W λe w'=>∃k,e=qr (f9 (dO ⟨k,0,dQ⟩))/\Row w' k (L.map bh)/\bL W w') :
 bj PL 32 #[fR C.val] w λe w'=>∃v,e=qr v/\kV w' w.heap.size v (alb L C.n4 C.n5)/\bL w w':=by
 have HA:=j5 h;have HTT:=j5 HT;have HLL:=j5 hL;have K0:Hid (KT C w (eb w (ol C.val 78))):=j5 ⟨au _ _,(j6 _ _).a (dk _) _⟩;clear h HT hL;go_enter (fx ao Tryz.func32),Tryz.ntmps32
 go_upto_region 1 with fail
 obtain⟨W0,kS⟩:=bs (eb w (ol C.val 78));rw[<-kS]at K0 ⊢;clear kS;obtain⟨r,s,t,y,f4,z⟩:=bf K0.o.box
 go_wp2_with (go_at_call 61;refine(HTT.o _ (HA.o.below K0.o.low)).m ?_;rintro e w2⟨k,rfl,hR,qA⟩;have k2:=K0.o.on qA;clear qA r s t y f4 z;have K2:Hid (KR C w k L w2.heap.size w2):=j5 (KR.mk (dk _) hR.1 (kc k2.box) k2.box hR k2.low);clear k2 hR;obtain⟨r,s,t,y,f4,z⟩:=bf K2.o.box)
 go_loopw [4,19] (λv4 O wr=>∃a:Nat,a<=C.n5/\O=fA fm a/\kV wr w2.heap.size v4 (aal L C.n4 C.n5 a)/\KR C w k L w2.heap.size wr) (λ_ O _=>C.n5-(intOf O).toNat)
 case atStart=>exact⟨0,eF _,rfl,⟨rfl,qu ⟨rfl,rfl⟩⟩,K2.o⟩
 case round=>
  obtain⟨a,ha,rfl,I,J⟩:=hrel;clear r s t y f4 z;have HO:=j5 I;have HK:=j5 J;clear I J K2;obtain⟨r,s,t,y,f4,z⟩:=bf HK.o.box;by_cases aH:a<C.n5
  .have i1:(a:Int)<C.n5:=ab;have i3:(a:Int)<3:=ab;clear r s t y f4 z;go_wp2
   go_loopw [4,6] (λv4 v6 wq=>∃b j:Nat,b=a+1+j/\b<=C.n5/\v6=fA fm b/\kV wq w2.heap.size v4 (aal L C.n4 C.n5 a++aag L C.n4 a j)/\KR C w k L w2.heap.size wq) (λ_ v6 _=>C.n5-(intOf v6).toNat)
   case atStart=>exact⟨a+1,0,rfl,aH,by go_num,by simpa[aag]using HO.o,HK.o⟩
   case round=>
    obtain⟨b,j,hb,eP,rfl,I,J⟩:=hrel;have A:=j5 hb;have hab:a<b:=ab;have P:=j5 I;have B:=j5 J;clear I J HO HK hb;obtain⟨r,s,t,y,f4,z⟩:=bf B.o.box;by_cases amm:b<C.n5
    .have i2:(b:Int)<C.n5:=ab;have i6:(b:Int)<3:=ab;go_wp2
     go_loopw [4,36] (λv4 Q wp=>∃p:Nat,p<=C.n4/\Q=fA fm p/\kV wp w2.heap.size v4 (aal L C.n4 C.n5 a++aag L C.n4 a j++aaz L a b p)/\KR C w k L w2.heap.size wp) (λ_ Q _=>C.n4-(intOf Q).toNat)
     case atStart=>exact⟨0,eF _,rfl,by simpa[aaz]using P.o,B.o⟩
     case round=>
      obtain⟨p,hp,rfl,I,J⟩:=hrel;have HO3:=j5 I;have f:=j5 J;clear I J P B r s t y f4 z;by_cases ahq:p<C.n4
      .have i4:(p:Int)<C.n4:=ab;have i5:(p:Int)<5:=ab;have cell:∀j,j<75->d9 wr ⟨k,j,dQ⟩=dO (fA fm (L.getD j 0)):=λj hj=>f.o.row.getD (by rw[HLL.o];exact hj);obtain⟨a0,ea0⟩:=bs (L.getD (a*25+p*5) 0);obtain⟨a1,R⟩:=bs (L.getD (a*25+p*5+1) 0);obtain⟨a2,S⟩:=bs (L.getD (a*25+p*5+2) 0);obtain⟨a3,U⟩:=bs (L.getD (a*25+p*5+3) 0);obtain⟨a4,V⟩:=bs (L.getD (a*25+p*5+4) 0);obtain⟨b0,eb0⟩:=bs (L.getD (b*25+p*5) 0);obtain⟨g,X⟩:=bs (L.getD (b*25+p*5+1) 0);obtain⟨E,Y⟩:=bs (L.getD (b*25+p*5+2) 0);obtain⟨K,Z⟩:=bs (L.getD (b*25+p*5+3) 0);obtain⟨F,eb4⟩:=bs (L.getD (b*25+p*5+4) 0)
       have T:Hid (d9 wr ⟨k,a*25+p*5,dQ⟩=dO (fA fm a0)/\d9 wr ⟨k,a*25+p*5+1,dQ⟩=dO (fA fm a1)/\d9 wr ⟨k,a*25+p*5+2,dQ⟩=dO (fA fm a2)/\d9 wr ⟨k,a*25+p*5+3,dQ⟩=dO (fA fm a3)/\d9 wr ⟨k,a*25+p*5+4,dQ⟩=dO (fA fm a4)/\
        d9 wr ⟨k,b*25+p*5,dQ⟩=dO (fA fm b0)/\d9 wr ⟨k,b*25+p*5+1,dQ⟩=dO (fA fm g)/\d9 wr ⟨k,b*25+p*5+2,dQ⟩=dO (fA fm E)/\d9 wr ⟨k,b*25+p*5+3,dQ⟩=dO (fA fm K)/\d9 wr ⟨k,b*25+p*5+4,dQ⟩=dO (fA fm F)):=j5
        ⟨by rw[ea0];exact cell _ ab,by rw[R];exact cell _ ab,by rw[S];exact cell _ ab,by rw[U];exact cell _ ab,by rw[V];exact cell _ ab,by rw[eb0];exact cell _ ab,by rw[X];exact cell _ ab,by rw[Y];exact cell _ ab,by rw[Z];exact cell _ ab,by rw[eb4];exact cell _ ab⟩
       obtain⟨mt,hmt⟩:=bs (ac3 a1 a2 a3 a4 g E K F);have ET:Hid (IU L a b p=(a,(b:Int),(p:Int),mt,max a1 g)):=j5 (by rw[IU,hmt,R,S,U,V,X,Y,Z,eb4]);have HMT:=j5 hmt;have Ll:=f.o.row.1;clear cell ea0 R S U V eb0 X Y Z eb4 hmt;obtain⟨r,s,t,y,f4,z⟩:=bf f.o.box
       go_upto_region 12 with fail
       clear r s t y f4 z;refine iL 17 14 (λ_ W=>bL wr W) (λW W'=>bL W W') ExT (λ_=>IG wr.heap.size #[fA fm a0,fA fm a1,fA fm a2,fA fm a3,fA fm a4]) neT (λ_ _ _ _ h e=>(h (e.symm.imp ob ob)).symm) rfl ae ae rfl
        (λ_ i vs W W' hle h=>h.le hle) (λi o ho vs eX W he aaZ _ h=>⟨λe=>by subst e;rw[<-he];exact h.1 rfl,λe=>by subst e;rw[<-he];exact h.2.1 rfl,λe=>?_⟩) (j6 _ _).d ?_
       .subst e;have e14:vs 14=eX 14:=by
         simp only[gw,fP,ft,kj]at ho;subst ho;exact aaZ ⟨14,qN⟩ (cH.2 ⟨ar,rfl⟩)
        rw[<-e14];exact h.2.2 rfl
       iterate 14 (
        apply iK
        case hE=>rfl
        case h=>
         intro vs W _ l hd;obtain⟨t0,t1,t2,t3,t4,t5,t6,t7,t8,t9⟩:=T.o;rw[<-l.c (p:=⟨k,_,dQ⟩) Ll]at t0 t1 t2 t3 t4 t5 t6 t7 t8 t9;go_simp;exact⟨rfl,j6 _ _⟩
        case hb=>exact E0)
       iterate 2 (
        apply ey
        case hE=>rfl
        case hb=>exact E0
        case h=>
         intro vs W D _ _ l _ hi _ hd hP;go_simp
         exact⟨l.a l.z _,Sl l.z ar hd⟩)
       apply ey
       case hE=>rfl
       case hb=>exact E0
       case h=>
        intro vs W D _ _ l jw hi _ hd hP;have m14:14∈D:=jw ⟨14,qN⟩ (cH.2 ⟨ar,rfl⟩);have m15:15∈D:=jw ⟨15,.phase⟩ (cH.2 ⟨ar,rfl⟩);obtain⟨ka,H,hla,alY,x0,x1,x2,x3,x4,M⟩:=(hd 14 m14 rfl).1 rfl;obtain⟨n,NZ,Tg,ab0,iC⟩:=(hd 15 m15 rfl).2.1 rfl;have bu:n≠ka:=λe=>hP 14 m14 15 m15 ao rfl rfl (qu ⟨rfl,rfl⟩) (by rw[H,NZ,e]);have fz:=tO M;rw[H];obtain⟨y0,y1,y2,y3,y4⟩:=qO M;go_simp;refine⟨Below.ag3 l hla _ _ _ _ _,λj hj hE=>?_,⟨br,br,λ_=>⟨ka,by simp[upd,H],tD M⟩⟩,λj _ _ e=>ab⟩;refine⟨λe=>⟨ka,H,hla,by simpa using alY,_,_,_,_,_,tD M⟩,λe=>⟨n,NZ,Tg,by simpa using ab0,(gh bu).t iC⟩,λe=>⟨ka,H,tD M⟩⟩
       refine nv λvs W _ _ l hd hX=>?_;obtain⟨ka,H,M⟩:=(hd 16 ab rfl).2.2 rfl;obtain⟨n,NZ,Tg,ab0,iC⟩:=(hd 15 ab rfl).2.1 rfl;have bu:ka≠n:=λe=>hX 14 15 ab ab ab rfl rfl (qu ⟨rfl,rfl⟩) (by rw[H,NZ,e]);have NE:=j5 bu;have HBA:=j5 M;have wC:=j5 iC;have HC:=j5 l;have HLB:=j5 Tg;obtain⟨y0,y1,y2,y3,y4⟩:=qO iC;have fz:=tO iC;rw[H,NZ];clear M iC l hd hX H NZ bu Tg
       go_upto_region 13 with fail
       obtain⟨W2,vp⟩:=bs (em (em (em (em (em W ⟨n,0,dQ⟩ (fA fm b0)) ⟨n,1,dQ⟩ (fA fm g)) ⟨n,2,dQ⟩ (fA fm E)) ⟨n,3,dQ⟩ (fA fm K)) ⟨n,4,dQ⟩ (fA fm F));have BA:Hid (W2.heap[ka]?=dO (ol #[fA fm a0,fA fm a1,fA fm a2,fA fm a3,fA fm a4] 73)):=j5 (by rw[vp];exact(gh NE.o).t HBA.o);have BB:Hid (W2.heap[n]?=dO (ol #[fA fm b0,fA fm g,fA fm E,fA fm K,fA fm F] 73)):=j5 (by rw[vp];exact tD wC.o);have HB:Hid (bL wr W2):=j5 (by rw[vp];exact Below.ag3 HC.o HLB.o _ _ _ _ _);rw[<-vp];clear vp y0 y1 y2 y3 y4 fz HBA wC HC HLB NE;clear T Ll
       go_cut [10] from 37 to 111 (fun(v10:ac)(wx:ad)=>v10=fA fm mt/\wx=W2)
       case first=>
        obtain⟨z0,z1,z2,z3,z4⟩:=qO BA.o;obtain⟨y0,y1,y2,y3,y4⟩:=qO BB.o;have la:=kc BA.o;have lb:=kc BB.o;have s1:(a1<F/\g<a4)\/(a1<F/\¬g<a4)\/¬a1<F:=ab;have s2:(a3<=E)\/(¬a3<=E/\K<=a2)\/(¬a3<=E/\¬K<=a2):=ab
        rcases s1 with⟨e1,e2⟩|⟨e1,e2⟩|e1<;>rcases s2 with e3|⟨e3,e4⟩|⟨e3,e4⟩
        all_goals (
         go_wp2_with (go_at_call 55;refine(yH _ _ _).m ?_;rintro e w'⟨rfl,rfl⟩)
         go_meet
         case rel=>
          refine⟨?_,rfl⟩;rw[HMT.o,ac3]
          first|rw[show(decide (a1<F)&&decide (g<a4))=d8 by simp;omega]|rw[show(decide (a1<F)&&decide (g<a4))=dU by simp;omega]
          first|rw[show(decide (a3<=E)||decide (K<=a2))=d8 by simp;omega]|rw[show(decide (a3<=E)||decide (K<=a2))=dU by simp;omega])
       case rest=>
        obtain⟨rfl,rfl⟩:=hcut;obtain⟨z0,z1,z2,z3,z4⟩:=qO BA.o;obtain⟨y0,y1,y2,y3,y4⟩:=qO BB.o;have la:=kc BA.o;have lb:=kc BB.o;have q1:=Rw;have q2:=Kv;have O2:=j5 (HO3.o.on HB.o);have K2:=j5 (f.o.on HB.o)
        go_upto_region 16 with fail
        obtain⟨mx,hmx⟩:∃m,max a1 g=m:=⟨_,rfl⟩
        rw[hmx];have HMX:Hid (IU L a b p=(a,(b:Int),(p:Int),mt,mx)):=j5 (by rw[ET.o,hmx]);clear hmx z0 z1 z2 z3 z4 y0 y1 y2 y3 y4 la lb;obtain⟨N,Sn⟩:=bs (eb (eb wc (ol #[fA fm a,fA fm b,fA fm p,fA fm mt,fA fm mx] 76)) (ol #[fA fm a,fA fm b,fA fm p,fA fm 2,fA fm mx] 76));have r1:N.heap[wc.heap.size]?=dO (ol #[fA fm a,fA fm b,fA fm p,fA fm mt,fA fm mx] 76):=by rw[Sn];exact(((j6 _ (eb wc _)).a (dk _) _).k _ ar).t (au wc _)
        have r2:N.heap[wc.heap.size+1]?=dO (ol #[fA fm a,fA fm b,fA fm p,fA fm 2,fA fm mx] 76):=by
         have h:=au (eb wc (ol #[fA fm a,fA fm b,fA fm p,fA fm mt,fA fm mx] 76)) (ol #[fA fm a,fA fm b,fA fm p,fA fm 2,fA fm mx] 76);rw[ep]at h;rw[Sn];exact h
        have O4:=j5 (show kV N w2.heap.size u4 _ by rw[Sn];exact(O2.o.alloc _).alloc _);have K4:Hid (KR C w k L w2.heap.size N):=j5 (by rw[Sn];exact(K2.o.alloc _).alloc _);rw[<-Sn];clear Sn;have z1:=kc r1;have z2:=kc r2;obtain⟨c0,c1,c2,c3,c4⟩:=qO r1;obtain⟨d0,d1,d2,d3,d4⟩:=qO r2;clear r1 r2;by_cases hm2:mt=2
        .subst hm2;go_wp2;exact⟨⟨p+1,ahq,by go_num,by rw[aaz,if_pos (by rw[HMX.o]),l7];exact O4.o,K4.o⟩,by simp only[intOf];omega⟩
        .obtain⟨i0,hi,mF,dx,wD⟩:=bC aaX;have NB:=j5 K4.o.pK;have Tl:(aal L C.n4 C.n5 a++aag L C.n4 a j++aaz L a b p).length<=80:=by
          have:=agR L h4 h5 a;have:=R9 L h4 a j;have:=acE L a b p;have:=A.o;simp only[dC];omega
         have HLN:=j5 Tl;clear Tl
         go_wp2_with (at_builtin;refine b8 _ rfl _ _ _ rfl w2.heap.size 76 i0 _ 5 40 ag2 hi mF dx wD rfl ao u4 _ _ rfl (O4.o.alloc _) ⟨N.heap.size,0,dQ⟩ 1 1 (vV (a,(b:Int),(p:Int),mt,mx)) rfl rfl (Sm (x:=(a,(b:Int),(p:Int),mt,mx)) (au N _)) (by simp[vV,fB]) (by have:=HLN.o;simp only[b9];omega) (by have:=HLN.o;omega) (by have:=NB.o;simp;omega) ?_;intro v' w4 h1 h2 _;have H1:=j5 h1;have H2:=j5 h2;clear h1 h2)
         have bu:=cZ O4.o;have d:=K4.o.alloc (ol #[fA fm a,fA fm b,fA fm p,fA fm mt,fA fm mx] 76);have hg:=(j6 w2.heap.size _).grown H2.o d.pK bu;refine⟨⟨p+1,ahq,by go_num,?_,da d.pK H2.o.size,d.kl,d.bl,(hg.k _ d.bl).t d.box,⟨bT d.row.1 H2.o.size,λj u e=>(hg.c (p:=⟨k,j,dQ⟩) d.kl).t (d.row.2 j u e)⟩,d.low.grown H2.o d.low.z λq e=>da (mH d.bl) (bu q e)⟩,by simp only[intOf];omega⟩;rw[aaz,if_neg (by rw[HMX.o];exact hm2),HMX.o,<-dT];unfold kV;rw[dC,iU];simpa using H1.o
      .obtain rfl:p=C.n4:=ab;go_wp2;exact⟨⟨b+1,j+1,by rw[A.o];rfl,amm,by go_num,by rw[aag,<-A.o,<-dT];exact HO3.o,f.o⟩,by simp only[intOf];omega⟩
    .have hbn:b=C.n5:=ab;have i2:¬((b:Int)<C.n5):=ab;go_wp2;exact⟨⟨a+1,aH,by go_num,by rw[aal,show C.n5-(a+1)=j by have:=A.o;omega];exact P.o,B.o⟩,by simp only[intOf];omega⟩
  .obtain rfl:a=C.n5:=ab;obtain⟨b,c,rfl⟩:=vB HO.o;have hm:=acH L h4 h5
   go_wp2_with (go_at_call 65;refine(ahp _ _ HO.o ab).m ?_;rintro e w3⟨rfl,hO3,qi⟩)
   go_ret;exact⟨_,rfl,dJ hO3 (mH HK.o.bl),HK.o.low.t (qi.mono (mH HK.o.bl))⟩
def Cv(d:Int)(p:Nat):List nR:=if d=1/\p=3 then[(0,1,2,0,13)] else[]
def ap4{d:Int}(hd:d=0\/d=1):alb (mC d) 3 2=Cv d 3:=by
 rcases hd with rfl|rfl<;>decide +kernel
def vC(C:CD)(d:Int)(hd:d=0\/d=1)(a:C.n4=3)(b:C.n5=2)(w:ad)(h:C.At w)
 (c:∀W,C.At W->bj PL 61 #[fR C.val] W λe w'=>∃k,e=qr (f9 (dO ⟨k,0,dQ⟩))/\Row w' k ((mC d).map bh)/\bL W w') :
 bj PL 32 #[fR C.val] w λe w'=>∃v,e=qr v/\kV w' w.heap.size v (Cv d 3)/\bL w w':=by
 have:=abI C (mC d) (by rcases hd with rfl|rfl<;>rfl) ab ab w h c;rwa[a,b,ap4 hd]at this
end Go.Proofs
namespace Go.Proofs
open Go.RowKit
variable {C L:ad}{J:ac}
variable {q:List nR}
def CD.LR(C:CD):Bool:=C.small&&decide (C.cx=0)
open Go.Shelf
attribute [local go_sem] Oper.semAt_some
def xu(W:ad)(v:ac)(l:List nR):Prop:=∃b c,v=f6 b l.length c/\(0<l.length->∃k o,b=dO ⟨k,o,dQ⟩/\k<W.heap.size/\∀i(hi:i<l.length),
 d9 W ⟨k,o+i*5,dQ⟩=dO (fA fm (l[i].1:Nat))/\d9 W ⟨k,o+i*5+1,dQ⟩=dO (fA fm l[i].2.1)/\d9 W ⟨k,o+i*5+2,dQ⟩=dO (fA fm l[i].2.2.1)/\d9 W ⟨k,o+i*5+3,dQ⟩=dO (fA fm l[i].2.2.2.1)/\d9 W ⟨k,o+i*5+4,dQ⟩=dO (fA fm l[i].2.2.2.2))
def xu.on(h:xu C J q)(d:bL C L):xu L J q:=by
 obtain⟨b,c,e,h⟩:=h;refine⟨b,c,e,λg=>?_⟩;obtain⟨k,o,e1,f,hc⟩:=h g;have e:∀j,d9 L ⟨k,j,dQ⟩=d9 C ⟨k,j,dQ⟩:=λj=>d.c (p:=⟨k,j,dQ⟩) f;exact⟨k,o,e1,bT f d.z,λi hi=>by simp only[e];exact hc i hi⟩
def SQ{T:bv}{base:Nat}(h:ek C base T 5 J q.length (q.flatMap vV)):xu C J q:=by
 obtain⟨_,h⟩:=h
 rcases h with⟨rfl,a⟩|⟨g,cap,b,rfl,hb,hg,hc,f,hs,c⟩
 .exact⟨dQ,0,by rw[a],λh=>ab⟩
 .refine⟨_,_,rfl,λa=>⟨g,0,rfl,kc hg,λi hi=>?_⟩⟩;have key:∀j u,j<5->(vV q[i])[j]?=dO u->d9 C ⟨g,0+i*5+j,dQ⟩=dO u:=by
   intro j u d e;rw[<-agO q i j hi d,<-c,e6 ab]at e;simp only[d9,hg,ei];simpa using e
  exact⟨key 0 _ ab rfl,key 1 _ ab rfl,key 2 _ ab rfl,key 3 _ ab rfl,key 4 _ ab rfl⟩
def AY.reads{base:Nat}(h:AY C base J q):xu C J q:=SQ h
abbrev chI(l:List Int)(n:Nat):Int:=l.getD n 0
abbrev acO(a b n:Int):Int:=a+n % (b-a+1)
def agT{a b n:Int}(h:a<=b):a<=acO a b n/\acO a b n<=b:=by
 have c:=Int.emod_nonneg n (show b-a+1≠0 by omega);have d:=Int.emod_lt_of_pos n (show 0<b-a+1 by omega);unfold acO;omega
def CD.rp(C:CD)(g i:Nat):Nat:=G0 C.n4 (C.S g) i
def CD.rc(C:CD)(g i:Nat):Nat:=2*(g*C.n4+i)
def CD.rat(C:CD)(ps:List Int)(g:Nat):Nat->Int
 |0=>C.dl g
 |i+1=>CD.rat C ps g i+acO (C.pn (C.rp g i) 7) (C.pn (C.rp g i) 8) (chI ps (C.rc g i))+acO (C.pn (C.rp g i) 9) (C.pn (C.rp g i) 10) (chI ps (C.rc g i+1))
def CD.rgo(C:CD)(ps:List Int)(g i:Nat):Int:=C.rat ps g i+acO (C.pn (C.rp g i) 7) (C.pn (C.rp g i) 8) (chI ps (C.rc g i))
def CD.amo(C:CD)(ps:List Int)(g i:Nat):C.rat ps g (i+1)=C.rgo ps g i+acO (C.pn (C.rp g i) 9) (C.pn (C.rp g i) 10) (chI ps (C.rc g i+1)):=rfl
def CD.ao3{C:CD}(hc:C.cx=0)(g i:Nat):C.rp g i<C.n4:=abq (by have:=(FT hc).1;omega)
def AY.on{base:Nat}(h:AY C base J q)(d:bL C L):AY L base J q:=by
 obtain⟨c,h⟩:=h
 rcases h with h|⟨g,cap,a,e1,hb,hg,e⟩
 .exact⟨c,qu h⟩
 .exact⟨c,qx ⟨g,cap,a,e1,hb,(d.k _ (kc hg)).t hg,e⟩⟩
end Go.Proofs
namespace Go.Proofs
open Go.RowKit
variable {C:CD}
variable {L q:Nat}{J:ad}
def abf(hc:C.cx=0)(hg:q<C.n5)(k:Nat):(nT C q k).1=C.rp q k:=by
 have b:=(FT hc).1;have hs:=(afZ hc hg).1
 induction k with
 |zero=>
  show C.S q=G0 C.n4 (C.S q) 0;unfold G0;rw[eQ,km];unfold CD.S;omega
 |succ k a=>
  show Ff C (nT C q k).1=G0 C.n4 (C.S q) (k+1);rw[a,abQ ab];rfl
def amp(hc:C.cx=0)(hg:q<C.n5)(ps:List Int)(k:Nat):((nT C q k).2.1<=C.rat ps q k/\C.rat ps q k<=(nT C q k).2.2)/\((Nu C q k).2.2.2.1<=C.rgo ps q k/\C.rgo ps q k<=(Nu C q k).2.2.2.2):=by
 have key:∀k,((nT C q k).2.1<=C.rat ps q k/\C.rat ps q k<=(nT C q k).2.2)->((Nu C q k).2.2.2.1<=C.rgo ps q k/\C.rgo ps q k<=(Nu C q k).2.2.2.2):=λk h=>by
  obtain⟨b,_⟩:=acw hc (CD.ao3 hc q k);have:=agT (n:=chI ps (C.rc q k)) b.2.1;simp only[Nu,abf hc hg,CD.rgo,CD.pn];omega
 induction k with
 |zero=>
  have a:(nT C q 0).2.1<=C.rat ps q 0/\C.rat ps q 0<=(nT C q 0).2.2:=⟨pm _,pm _⟩
  exact⟨a,key 0 a⟩
 |succ k c=>
  obtain⟨_,b⟩:=acw hc (CD.ao3 hc q k);have e:=agT (n:=chI ps (C.rc q k+1)) b.2.1;have a:(nT C q (k+1)).2.1<=C.rat ps q (k+1)/\C.rat ps q (k+1)<=(nT C q (k+1)).2.2:=by
   have d:=c.2;rw[CD.amo];simp only[nT,abf hc hg];simp only[Nu,abf hc hg]at d;grind
  exact⟨a,key _ a⟩
def ap5(hc:C.cx=0)(hg:q<C.n5)(d:L<=C.n4):cmV C.pn C.n4 (C.S q) (C.dl q) L=(nT C q L).2:=by
 have a:=Sa C hc hg
 induction L with
 |zero=>rfl
 |succ L f=>
  have b:=a.lo (L+1) d;have c:=a.hi (L+1) d;have h:=a.lo L ab;have i:=a.hi L ab;have e:=a.nn _ (a.p4 L);have j:=a.m4;rw[cmV,f ab];simp only[nT]at b c ⊢;rw[abf hc hg]at b c e ⊢;simp only[CD.rp]at b c e ⊢;grind[pu]
def abu(x:nR):Nat->Int
 |0=>(x.1:Nat)
 |1=>x.2.1
 |2=>x.2.2.1
 |3=>x.2.2.2.1
 |_=>x.2.2.2.2
def ahU(hc:C.cx=0)(hg:q<C.n5)(c:L<C.n4)(j:Nat):vsV C.pn C.n4 (C.S q) (C.dl q) L j=abu (Nu C q L) j:=by
 have a:=Sa C hc hg;have d:=a.lo L ab;have f:=a.hi L ab;have b:=a.nn _ (a.p4 L);have h:=a.m4;rw[abf hc hg]at b;have e:=ap5 hc hg (show L<=C.n4 by omega)
 match j with
 |0=>simp only[vsV,abu,Nu,abf hc hg];rfl
 |1=>simp only[vsV,abu,Nu,e]
 |2=>simp only[vsV,abu,Nu,e]
 |3=>
  simp only[vsV,abu,Nu,e,abf hc hg];simp only[CD.rp,CD.pn]at b ⊢;exact pu _ ab
 |j+4=>
  simp only[vsV,abu,Nu,e,abf hc hg];simp only[CD.rp,CD.pn]at b ⊢;exact pu _ ab
def abJ(hc:C.cx=0)(hg:q<C.n5)(b:L<C.n4)(j:Nat):0<=abu (Nu C q L) j/\abu (Nu C q L) j<=1000:=by
 have a:=Sa C hc hg;have c:=a.lo L ab;have d:=a.hi L ab;have e:=a.nn _ (a.p4 L);have f:=a.m4;have h:=a.p4 L
 match j with
 |0=>simp only[abu,Nu];omega
 |1=>simp only[abu,Nu];omega
 |2=>simp only[abu,Nu];omega
 |3=>simp only[abu,Nu];omega
 |j+4=>simp only[abu,Nu];omega
def CD.abj{C:CD}(hc:C.cx=0){g p j:Nat}(hg:g<C.n5)(a:p<C.n4)(b:j<5):C.tab.getD (g*25+p*5+j) 0=abu (Nu C g (abe C.n4 (C.S g) p)) j:=by
 have c:=(FT hc).2;have d:=j7 hc;rw[<-ahU hc hg (aav ab)];unfold CD.tab agK;rw[et,eT,h8 ab];simp only[il,du];rw[al6,show(g*25+p*5+j) / 25=g by omega,show(g*25+p*5+j) % 25 / 5=p by omega,show(g*25+p*5+j) % 5=j by omega,if_pos ⟨hg,a⟩]
def CD.alc(hc:C.cx=0):Ir C.tab:=by
 have key:∀o,-10000<=C.tab.getD o 0/\C.tab.getD o 0<=10000:=λo=>by
  unfold CD.tab agK;rw[et,eT]
  rcases kd o 75 with a|a
  .rw[h8 a];simp only[il,du];rw[al6];split
   .rename_i b;have:=abJ hc b.1 (aav (np:=C.n4) (s:=C.S (o / 25)) (p:=o % 25 / 5) ab) (o % 5);rw[ahU hc b.1 (aav ab)];omega
   .omega
  grind
 exact⟨by simp[CD.tab,agK],λj=>(key j).1,λj=>(key j).2⟩
def abK(C:CD)(g:Nat)(h:0<C.n4):nU C g=(Nu C g (C.n4-1)).2.2.2:=by
 unfold nU;rw[show C.n4=(C.n4-1)+1 by omega,uM,IE];rfl
structure amq(C D:CD):Prop where
 l:D.l=C.l
 p:D.p=C.p
 n2:D.n2=C.n2
 x2:D.x2=C.x2
 n3:D.n3=C.n3
 x3:D.x3=C.x3
 n4:D.n4=C.n4
 x4:∀i,(D.x4 i).name=(C.x4 i).name/\(∀j,j<=6->(D.x4 i).n j=(C.x4 i).n j)/\(D.x4 i).ln=(C.x4 i).ln/\(D.x4 i).lane=(C.x4 i).lane
 n5:D.n5=C.n5
 x5:∀i,(D.x5 i).1=(C.x5 i).1/\(D.x5 i).2.1=(C.x5 i).2.1
def amq.check{C D:CD}(h:amq C D)(f:∀i,i<C.n4->eK ((D.x4 i).n 7) ((D.x4 i).n 8) 1 60=d8/\eK ((D.x4 i).n 9) ((D.x4 i).n 10) 0 60=d8)(g:∀i,i<C.n5->bO (D.x5 i).2.2 0 12=d8)(hc:C.cx=0):D.cx=0:=by
 have b:∀j,j<5->C.dP j=0:=ck hc;refine cz λj d=>?_;have a:=b j d
 match j,d with
 |0,_=>simp only[CD.dP,h.l,h.p]at *;exact a
 |1,_=>simp only[CD.dP,h.n2,h.x2]at *;exact a
 |2,_=>simp only[CD.dP,h.p,h.n3,h.x3]at *;exact a
 |3,_=>
  simp only[CD.dP,h.p,h.n2,h.n3,h.n4,kA]at *;split at a
  .rename_i hb;rw[if_pos hb];have b:=ck a;refine cz λi hi=>?_;have c:=b i hi;obtain⟨e1,k,m,o⟩:=h.x4 i;have e:((hV i).map λj=>(D.x4 j).name)=(hV i).map λj=>(C.x4 j).name:=jr λj _=>(h.x4 j).1;unfold gM at c⊢;grind
  .cases a
 |4,_=>
  simp only[CD.dP,h.n4,h.n5,pE]at *;split at a
  .cases a
  .rename_i hb;rw[if_neg hb];have b:=ck a;refine cz λi hi=>?_;have c:=b i hi;have e:((hV i).map λj=>(D.x5 j).1)=(hV i).map λj=>(C.x5 j).1:=jr λj _=>(h.x5 j).1;have es:((hV i).map λj=>(D.x5 j).2.1)=(hV i).map λj=>(C.x5 j).2.1:=jr λj _=>(h.x5 j).2;unfold iI at c⊢;rw[(h.x5 i).1,(h.x5 i).2,e,es];grind
open Go.Shelf
attribute [local go_sem] Oper.semAt_some
def CD.Cv(C:CD):List nR:=alb C.tab C.n4 C.n5
def CD.X0(C:CD):Bool:=qP C C.n5&&decide (C.Cv.length=0)
def ag9(hc:C.cx=0)(h:C.At J):bj PL 32 #[fR C.val] J λe w'=>∃v,e=qr v/\kV w' J.heap.size v C.Cv/\bL J w':=
 abI C C.tab (CD.alc hc).len (FT hc).2 (j7 hc) J h (λ_ a=>ans a hc)
def kV.reads{base:Nat}{v:ac}{l:List nR}(h:kV J base v l):xu J v l:=SQ h
def ahr(h:C.At J)(hc:C.cx=0):bj PL 6 #[fR C.val] J λe w'=>∃b c,e=qr (gc #[f6 b C.Cv.length c,fA fm 0])/\xu w' (f6 b C.Cv.length c) C.Cv/\bL J w':=by
 refine(Fp C (λW v=>xu W v C.Cv) J h (by rw[CD.b6,if_pos hc];rfl) λW f=>(ag9 hc f).m ?_).m ?_
 .rintro e w'⟨v,rfl,a,d⟩;exact⟨v,rfl,a.reads,d⟩
 .rintro e w'⟨v,rfl,a,d⟩;have g:=a;obtain⟨b,c,rfl,_⟩:=g;exact⟨b,c,rfl,a,d⟩
def ap6(h:C.At J)(hc:C.cx=0):bj PL 9 #[fR C.val] J (aO (gc #[f7 C.X0,fA fm 0]) J):=by
 have d:=j5 h;have l:Hid (C.b6 d8=0):=j5 (by rw[CD.b6,if_pos hc];rfl)
 have f:Hid (∀W,C.At W->bj PL 35 #[fR C.val] W (aO (f7 C.X0) W)):=j5 λW a=>VY C C.Cv.length W a hc (j7 hc) λW a=>(ag9 hc a).m (by
  rintro e w'⟨v,rfl,m,n⟩;obtain⟨b,c,rfl⟩:=vB m
  exact⟨b,c,rfl,n⟩)
 have g:Hid (KB C J (eb J (ol C.val 27))):=j5 ⟨au _ _,(j6 _ _).a (dk _) _⟩;clear h hc;obtain⟨s,hs⟩:=bs C.X0;rw[<-hs]at f ⊢;clear hs;go_enter (fx ao Tryz.func9),Tryz.ntmps9
 go_wp2_with (first
  |(go_at_call 31;refine(kF l.o (d.o.below g.o.low)).m ?_;rintro e w1⟨rfl,i⟩;have j:=j5 (g.o.on i);clear i)
  |(go_at_call 35;refine(f.o _ (d.o.below (j.o.alloc (ol C.val 78)).low)).m ?_;rintro e w2⟨rfl,k⟩;have o:=j5 ((j.o.alloc (ol C.val 78)).on k);clear k))
 refine bm (v:=gc #[f7 s,fA fm 0]) ?_ rfl ⟨rfl,o.o.low⟩;simp[bq,Tryz.results9,go_sem]
end Go.Proofs
namespace Go.Proofs
open Go.RowKit Go.Shelf
theorem amr{a b:Type}{lt:a->a->Bool}{lt':b->b->Bool}(f:a->b)(h:∀x y,lt' (f x) (f y)=lt x y)(x:a)(P:List a):aax lt' (f x) (P.map f)=(aax lt x P).map f:=by
 induction P with
 |nil=>rfl
 |cons y P c=>
  rw[hZ,aax,aax,h];grind
def ale{a b:Type}{lt:a->a->Bool}{lt':b->b->Bool}(f:a->b)(h:∀x y,lt' (f x) (f y)=lt x y)(l:List a):NR lt' (l.map f)=(NR lt l).map f:=by
 have key:∀(l P:List a),jp (λP x=>aax lt' x P) (P.map f) (l.map f)=(jp (λP x=>aax lt x P) P l).map f:=by
  intro l
  induction l with
  |nil=>intro P;rfl
  |cons x l c=>grind [amr]
 have:=key l [];simp only[NR,abi];simp_all
def shV(n:Int)(x:nR):nR:=(x.1,x.2.1+n,x.2.2.1+n,x.2.2.2.1+n,x.2.2.2.2+n)
def shT(n:Int)(x:nR):nR:=(x.1,x.2.1,x.2.2.1,x.2.2.2.1,x.2.2.2.2+n)
structure Z0(C D:CD)(n:Int):Prop where
 n4:D.n4=C.n4
 n5:D.n5=C.n5
 x4:∀i,(D.x4 i).n=(C.x4 i).n
 s:∀g,(D.x5 g).2.1=(C.x5 g).2.1
 d:∀g,g<C.n5->(D.x5 g).2.2=(C.x5 g).2.2+n
def Z0.st{C D:CD}{n:Int}(h:Z0 C D n){g:Nat}(hg:g<C.n5)(k:Nat):nT D g k=((nT C g k).1,(nT C g k).2.1+n,(nT C g k).2.2+n):=by
 induction k with
 |zero=>simp only[nT,h.s,h.d g hg]
 |succ k a=>
  rw[nT,a];simp only[h.x4,nT,Ff,h.n4];grind
def Z0.vis{C D:CD}{n:Int}(h:Z0 C D n){g:Nat}(hg:g<C.n5)(k:Nat):Nu D g k=shV n (Nu C g k):=by
 simp only[Nu,h.st hg,shV,h.x4];grind
def Z0.tab{C D:CD}{n:Int}(h:Z0 C D n)(hc:C.cx=0)(hd:D.cx=0){g p:Nat}(hg:g<C.n5)(b:p<C.n4):∀j,1<=j->j<5->D.tab.getD (g*25+p*5+j) 0=C.tab.getD (g*25+p*5+j) 0+n:=λj c a=>by
 have d:D.S g=C.S g:=by simp only[CD.S,h.s]
 rw[CD.abj hd (by rw[h.n5];exact hg) (by rw[h.n4];exact b) a,CD.abj hc hg b a,h.n4,d,h.vis hg]
 match j,c,a with
 |1,_,_=>rfl
 |2,_,_=>rfl
 |3,_,_=>rfl
 |4,_,_=>rfl
def anz(a1 a2 a3 a4 a b c d n:Int):ac3 (a1+n) (a2+n) (a3+n) (a4+n) (a+n) (b+n) (c+n) (d+n)=ac3 a1 a2 a3 a4 a b c d:=by
 unfold ac3;grind
def Z0.IU{C D:CD}{n:Int}(h:Z0 C D n)(hc:C.cx=0)(hd:D.cx=0){a b p:Nat}(d:a<C.n5)(hb:b<C.n5)(c:p<C.n4):Go.Proofs.IU D.tab a b p=shT n (Go.Proofs.IU C.tab a b p):=by
 have A:=h.tab hc hd d c;have B:=h.tab hc hd hb c;simp only[Go.Proofs.IU,shT,A 1 ab ab,A 2 ab ab,A 3 ab ab,A 4 ab ab,B 1 ab ab,B 2 ab ab,B 3 ab ab,B 4 ab ab,anz];grind
def Z0.Cv{C D:CD}{n:Int}(h:Z0 C D n)(hc:C.cx=0)(hd:D.cx=0):D.Cv=C.Cv.map (shT n):=by
 have f:∀a b,a<C.n5->b<C.n5->∀k,k<=C.n4->aaz D.tab a b k=(aaz C.tab a b k).map (shT n):=by
  intro a b d hb k
  induction k with
  |zero=>intro _;rfl
  |succ k c=>
   intro e;rw[aaz,c ab,h.IU hc hd d hb ab,aaz,io];congr 1;show(if(Go.Proofs.IU C.tab a b k).2.2.2.1=2 then[] else _)=_;split<;>rfl
 have g:∀a,a<C.n5->∀k,a+k<C.n5->aag D.tab C.n4 a k=(aag C.tab C.n4 a k).map (shT n):=by
  intro a d k
  induction k with
  |zero=>intro _;rfl
  |succ k c=>
   intro e;rw[aag,c ab,f a (a+1+k) d ab C.n4 (dk _),aag,io]
 have hA:∀k,k<=C.n5->aal D.tab C.n4 C.n5 k=(aal C.tab C.n4 C.n5 k).map (shT n):=by
  intro k
  induction k with
  |zero=>intro _;rfl
  |succ k c=>
   intro e;rw[aal,c ab,g k ab (C.n5-(k+1)) ab,aal,io]
 unfold CD.Cv alb;rw[h.n4,h.n5,hA C.n5 (dk _),ale (shT n) (lt:=Q3) (lt':=Q3) λx y=>by simp[Q3,shT]]
end Go.Proofs
namespace Go.Proofs
open Go.RowKit
open Go.Shelf
variable {L M R:Nat}{C:List Int}{Y:bv}{q:ad}{O:ac}
variable {J:CD}
def b7{a:Type}(f:Nat->Option a):Nat->Nat->Option a
 |0,_=>dQ
 |c+1,n=>match f n with
  |some r=>dO r
  |none=>b7 f c (n+1)
def abk{a:Type}{f:Nat->Option a}{r:a}:∀{c n:Nat},b7 f c n=dO r->∃m,n<=m/\m<n+c/\f m=dO r/\∀q,n<=q->q<m->f q=dQ
 |0,n,h=>by cases h
 |c+1,n,h=>by
  rw[b7]at h
  cases e:f n with
  |some x=>
   grind
  |none=>
   rw[e]at h;obtain⟨m,b,d,g,i⟩:=abk h;grind
def ac4{a:Type}{f:Nat->Option a}:∀{c n:Nat},b7 f c n=dQ->∀q,n<=q->q<n+c->f q=dQ
 |0,n,_=>λq b d=>ab
 |c+1,n,h=>λq b d=>by
  rw[b7]at h
  cases e:f n with
  |some x=>rw[e]at h;cases h
  |none=>
   rw[e]at h
   rcases kd n q with k|k
   .exact ac4 h q k ab
   grind
def N5(a:List Int->Bool):Nat->List Int->Nat->Option (List Int)
 |0,l,left=>if left=0/\a l=d8 then dO l else dQ
 |k+1,l,left=>b7 (λn=>N5 a k (l++[(n:Int)]) (left-n)) (min left 12+1) 0
def abg(t:List Nat):List Int:=t.map fun(x:Nat)=>(x:Int)
def amu:List Int->List Int->Bool
 |x::xs,y::ys=>if x≠y then decide (x<y) else amu xs ys
 |_,_=>dU
def amv(l:List Int):amu l []=dU:=by cases l<;>rfl
def okT(k left:Nat)(u:List Nat):Prop:=u.length=k/\u.sum=left/\∀x∈u,x<=12
def agU{u:List Nat}(h:okT (M+1) L (R::u)):R<=min L 12/\okT M (L-R) u:=by
 obtain⟨b,c,a⟩:=h;rw[jt]at c;have:=a R ar;exact⟨ab,by simpa using b,ab,λy hy=>a y (by simp[hy])⟩
def abR(b:List Int->Bool):∀k l left,N5 b k l left=dQ->∀u,okT k left u->b (l++abg u)=dU
 |0,l,left,h,u,a=>by
  obtain⟨c,d,_⟩:=a;obtain rfl:u=[]:=mr c;rw[N5]at h;split at h
  .cases h
  .rename_i e;rw[show l++abg []=l by simp[abg]];grind
 |k+1,l,left,h,u,a=>by
  match u,a with
  |[],a=>cases a.1
  |x::u,a=>
   obtain⟨c,d⟩:=agU a;rw[N5]at h;have:=abR b k _ _ (ac4 h x ab ab) u d;rwa[dT]at this
def afD(b:List Int->Bool):∀k l left r,N5 b k l left=dO r->∃t,r=l++abg t/\okT k left t/\b r=d8/\∀u,okT k left u->b (l++abg u)=d8->amu (abg u) (abg t)=dU
 |0,l,left,r,h=>by
  rw[N5]at h;split at h
  .rename_i d;cases h;exact⟨[],by simp[abg],⟨rfl,by simp[d.1],λ_ h=>by cases h⟩,d.2,λu _ _=>amv _⟩
  .cases h
 |k+1,l,left,r,h=>by
  rw[N5]at h;obtain⟨m,_,j,d,f⟩:=abk h;obtain⟨t,rfl,⟨t1,t2,g⟩,i,n⟩:=afD b k _ _ r d;refine⟨m::t,by simp[abg],⟨by simp[t1],by rw[jt];omega,λx a=>?_⟩,i,λu c hs=>?_⟩
  .rcases dp.1 a with rfl|a
   .omega
   .exact g x a
  .match u,c with
   |[],c=>cases c.1
   |x::u,c=>
    obtain⟨k1,k2⟩:=agU c;have e:l++abg (x::u)=(l++[(x:Int)])++abg u:=by simp[abg]
    rw[e]at hs;show(if(x:Int)≠(m:Int) then decide ((x:Int)<m) else amu (abg u) (abg t))=dU
    rcases qb x m with a|rfl|a
    .rw[abR b k _ _ (f x (eF _) a) u k2]at hs;cases hs
    .grind
    .rw[if_pos ab];simp;omega
def CD.dly(C:CD):Option (List Int):=b7 (λs=>N5 (λl=>(C.j8 l).X0) C.n5 [] s) (12*C.n5+1) 0
def amw(h:J.dly=dO C):∃t:List Nat,C=abg t/\t.length=J.n5/\(∀x∈t,x<=12)/\(J.j8 C).X0=d8/\
 ∀u:List Nat,u.length=J.n5->(∀x∈u,x<=12)->(J.j8 (abg u)).X0=d8->t.sum<u.sum\/(t.sum=u.sum/\amu (abg u) (abg t)=dU):=by
 obtain⟨m,_,g,b,c⟩:=abk h;obtain⟨t,rfl,⟨t1,t2,d⟩,e,f⟩:=afD _ _ _ _ _ b;refine⟨t,ar,t1,d,e,λu u1 u2 hs=>?_⟩
 rcases qb u.sum m with a|a|a
 .have:=abR _ _ _ _ (c u.sum (eF _) a) u ⟨u1,rfl,u2⟩;grind
 .exact qx ⟨ab,f u ⟨u1,a,u2⟩ (by simpa using hs)⟩
 .exact qu ab
def alg{C:CD}{ds:List Int}(hc:C.cx=0)(hd:ds.length=C.n5)(hb:∀i,i<ds.length->bO (ds.getD i 0) 0 12=d8){Y:abH}{f:Nat->iJ}(hf:acd C f):((C.j8 ds).KD Y f).cx=0/\((C.j8 ds).KD Y f).X0=(C.j8 ds).X0/\(C.j8 ds).cx=0:=by
 have o:∀i,i<C.n5->((C.j8 ds).x5 i).2.2=ds.getD i 0:=λi hi=>by
  grind
 have c1:(C.j8 ds).cx=0:=by
  refine amq.check (C:=C) ⟨rfl,rfl,rfl,rfl,rfl,rfl,rfl,λi=>⟨rfl,λj _=>rfl,rfl,rfl⟩,rfl,λi=>⟨rfl,rfl⟩⟩ (λi hi=>?_) (λi hi=>?_) hc
  .obtain⟨e,l⟩:=acw hc hi;show eK ((C.x4 i).n 7) ((C.x4 i).n 8) 1 60=d8/\eK ((C.x4 i).n 9) ((C.x4 i).n 10) 0 60=d8;refine⟨?_,?_⟩<;>simp[eK]<;>omega
  grind
 have d:((C.j8 ds).KD Y f).cx=0:=by
  refine amq.check (C:=C.j8 ds) ⟨rfl,rfl,rfl,rfl,rfl,rfl,rfl,λi=>⟨(hf.1 i).name,λj _=>by show(f i).n j=(C.x4 i).n j;rw[(hf.1 i).n],(hf.1 i).ln,(hf.1 i).lane⟩,rfl,λi=>⟨rfl,rfl⟩⟩ (λi hi=>?_) (λi hi=>?_) c1
  .obtain⟨e,l⟩:=acw hc (show i<C.n4 from hi);show eK ((f i).n 7) ((f i).n 8) 1 60=d8/\eK ((f i).n 9) ((f i).n 10) 0 60=d8;rw[(hf.1 i).n];refine⟨?_,?_⟩<;>simp[eK]<;>omega
  grind
 refine⟨d,?_,c1⟩;have b:Z0 (C.j8 ds) ((C.j8 ds).KD Y f) 0:=⟨rfl,rfl,λi=>(hf.1 i).n,λ_=>rfl,λg _=>(pp _).y⟩
 have a:0<C.n4:=by have:=(FT hc).1;omega
 have m:=b.Cv c1 d;unfold CD.X0;rw[m,List.length_map];congr 1;unfold qP;refine decide_eq_decide.2 ⟨λh g hg=>?_,λh g hg=>?_⟩
 .have e1:nU (C.j8 ds) g=(Nu (C.j8 ds) g (C.n4-1)).2.2.2:=abK (C.j8 ds) g a;have c:nU ((C.j8 ds).KD Y f) g=(Nu ((C.j8 ds).KD Y f) g (C.n4-1)).2.2.2:=abK ((C.j8 ds).KD Y f) g a;have k:=h g hg;rw[c,b.vis (g:=g) hg]at k;rw[e1];simp only[shV,pp]at k;exact k
 .have e1:nU (C.j8 ds) g=(Nu (C.j8 ds) g (C.n4-1)).2.2.2:=abK (C.j8 ds) g a;have c:nU ((C.j8 ds).KD Y f) g=(Nu ((C.j8 ds).KD Y f) g (C.n4-1)).2.2.2:=abK ((C.j8 ds).KD Y f) g a;have k:=h g hg;rw[e1]at k;rw[c,b.vis (g:=g) hg];simp only[shV,pp];exact k
attribute [local go_sem] Oper.semAt_some
def eO.lt{base:Nat}(h:eO Y q base O C):∀k,O.ownBlock=dO k->base<=k/\k<q.heap.size:=k9 h
def ac5{T e:bv}(s:k7 PL T=dO (qt e))(I:(PL.info? e).map (λi=>(i.zero,i.size,i.bytes))=dO (dO (fA fm 0),1,8)){W:ad}(ty:bv)(base:Nat)(v:ac)(l:List Int)(j:Int)(k:Nat)(p:eO e W base v l)
 (hc:d9 W ⟨k,0,dQ⟩=dO (fA fm j)) (hl:l.length<=1000) (J:base<=W.heap.size) :
 ∃v' w',(Builtin.append_ #[T,T] ty #[v,f6 (dO ⟨k,0,dQ⟩) 1 1]).run PL W=hG v' w'/\eO e w' base v' (l++[j])/\W.grownBy w' v.ownBlock/\(v'.ownBlock=v.ownBlock\/v'.ownBlock=dO W.heap.size)/\
  ∀r,eO e r base v' (l++[j])->(∀q,base<=q->q<w'.heap.size->dO q≠v'.ownBlock->r.heap[q]?=w'.heap[q]?)->eO e r base v l:=by
 obtain⟨t,hi,C,f,D⟩:=bC I;have a:∀q u,[fA fm j][q]?=dO u->d9 W ((⟨k,0,dQ⟩:ag).add q)=dO u:=λq u e=>by
  match q,e with
  |0,e=>cases e;exact hc
 have b:l.length+1<=b9:=by simp only[b9];omega
 obtain⟨v',w',w,K,E,_,L⟩:=run_append_own_at (P:=PL) W base T ty e t (fA fm 0) 1 8 s hi C f D rfl ao v l.length _ p ⟨k,0,dQ⟩ 1 1 [fA fm j] rfl a (by simp[fB]) b ab J;have M:eO e w' base v' (l++[j]):=by
  unfold eO;rw[dC,io];exact K
 refine⟨v',w',w,M,E,L,λr y N=>?_⟩;obtain⟨hlen,p⟩:=p
 rcases p with⟨rfl,O⟩|⟨g,cap,c,rfl,hb,hg,d,z,hs,F⟩
 .exact⟨hlen,qu ⟨rfl,O⟩⟩
 .by_cases A:l.length+1<=cap
  .have m:=run_append_room (P:=PL) W T ty e t s hi g l.length cap c hg ⟨k,0,dQ⟩ 1 1 [fA fm j] (by rw[f];rfl) a (by simp[fB]) A (by rw[f,hs];simp;omega);rw[w]at m
   injection m with e1 H
   subst e1;obtain⟨_,y⟩:=y
   rcases y with⟨h,_⟩|⟨Y,Q,R,e1,Z,S,U,CC,V,n⟩
   .cases h
   .injection e1 with a1 a2 a3
    injection a1 with a1
    injection a1 with a1
    subst a1 a3;refine⟨hlen,qx ⟨g,cap,R,rfl,hb,S,d,z,V,?_⟩⟩;rw[dC,io]at n;have:=congrArg (List.take l.length) n;simp only[jR]at this⊢;rw[List.take_take,my ar]at this;rw[this,List.take_left' ar]
  .have holds:∀q u,(l.map λx=>fA fm x)[q]?=dO u->d9 W ((⟨g,0,dQ⟩:ag).add q)=dO u:=ld (g:=g) ⟨hlen,qx ⟨g,cap,c,rfl,hb,hg,d,z,hs,F⟩⟩ rfl;have m:=run_append_grow (P:=PL) W T ty e t (fA fm 0) s hi C ⟨g,0,dQ⟩ l.length cap _ (by rw[f];exact hlen) holds ⟨k,0,dQ⟩ 1 1 [fA fm j] (by rw[f];rfl) a (by simp only[b9]at b;omega) ab (growslice_fits (by simp only[b9]at b;omega) (by rw[D];omega));rw[w]at m
   injection m with e1 H
   have o:=kc hg;have X:dO g≠v'.ownBlock:=by
    rw[e1];simp[fJ];omega
   have B:w'.heap[g]?=W.heap[g]?:=by
    rw[H];exact heap_alloc_old W.drew _ o
   exact⟨hlen,qx ⟨g,cap,c,rfl,hb,(N g hb (bT o E.size) X).t (B.t hg),d,z,hs,F⟩⟩
abbrev So(a b c:Nat):ac:=ge (qG 38) #[] #[f9 (dO ⟨a,0,dQ⟩),f9 (dO ⟨b,0,dQ⟩),f9 (dO ⟨c,0,dQ⟩)]
structure DG(C:CD)(w0:ad)(Bc Bd Bt B1:Nat)(W:ad):Prop where
 lo:w0.heap.size<=Bc/\w0.heap.size<=Bd/\Bc<B1/\Bd<B1/\Bt<B1
 hi:B1<=W.heap.size
 c:W.heap[Bc]?=dO (ol C.val 27)
 d:∃v,W.heap[Bd]?=dO (ol #[v] 28)
 t:W.heap[Bt]?=dO (ol #[So Bc Bd Bt] 84)
 low:bL w0 W
def DG.on{i:Nat}{W j:ad}(h:DG J q M L R i W)(a:bL W j):DG J q M L R i j:=
 ⟨h.lo,da h.hi a.z,(a.k _ (kc h.c)).t h.c,h.d.i λ_ e=>(a.k _ (kc e)).t e,(a.k _ (kc h.t)).t h.t,nt h.low a⟩
def DG.XM{b:Nat}{W j:ad}(h:DG J q M L R b W)(a:Below b W j):DG J q M L R b j:=by
 obtain⟨a1,a2,a3,a4,k⟩:=h.lo;exact⟨h.lo,da h.hi a.z,(a.k _ a3).t h.c,h.d.i λ_ e=>(a.k _ a4).t e,(a.k _ k).t h.t,h.low.t (a.mono ab)⟩
structure Tri(Bd:Nat)(v:ac)(w w':ad):Prop where
 fr:Below 0 w w'
 blk:∀k,k<w.heap.size->k≠Bd->dO k≠v.ownBlock->w'.heap[k]?=w.heap[k]?
def Tri.of{b:Nat}{v:ac}{w w':ad}(a:bL w w'):Tri b v w w':=⟨a.mono (eF _),λk c _ _=>a.k k c⟩
def Tri.trans{a:Nat}{v:ac}{w w' b:ad}(h:Tri a v w w')(c:Tri a v w' b):Tri a v w b:=
 ⟨h.fr.t c.fr,λk d e f=>(c.blk k (bT d h.fr.z) e f).t (h.blk k d e f)⟩
def TP(C:CD)(w0:ad)(f a g d:Nat)(v:ac)(xs:List Int)(r:Option (List Int))(w:ad)(e:Ending)(w':ad):Prop:=
 e=qr (f7 r.isSome)/\DG C w0 f a g d w'/\eO 3 w' d v xs/\Tri a v w w'/\∀ys,r=dO ys->∃b c,w'.heap[a]?=dO (ol #[f6 b ys.length c] 28)/\bB w' (f6 b ys.length c) ys
def amy{C:CD}{w:ad}(h:C.At w)(hc:C.cx=0):bj PL 35 #[fR C.val] w (aO (f7 C.X0) w):=
 VY C C.Cv.length w h hc (j7 hc) λW a=>(ag9 hc a).m (by
  rintro e w'⟨v,rfl,d,f⟩;obtain⟨b,c,rfl⟩:=vB d
  exact⟨b,c,rfl,f⟩)
def VZ{base size:Nat}{u:ac}{xs:List ac}(h:ek q base M size O L xs)(d:R<base):ek (em q ⟨R,0,dQ⟩ u) base M size O L xs:=by
 obtain⟨b,h⟩:=h
 rcases h with h|⟨g,cap,a,e1,hb,hg,c⟩
 .exact⟨b,qu h⟩
 .exact⟨b,qx ⟨g,cap,a,e1,hb,(aZ ab).t hg,c⟩⟩
def Clo.ap7{w W:ad}{n:Nat}{ys:List Int}{b:Option ag}{v:ac}(h:Clo w W 3 1 n (ys.map λx=>fA fm x) b v)(f:ys.length=n):bB W v ys:=by
 obtain⟨b',c,rfl,_,i⟩:=h;refine⟨b',c,by rw[f],λl=>?_⟩;obtain⟨g,a,rfl,_,hg,k⟩:=i ab;refine⟨g,0,rfl,kc hg,λj m=>?_⟩;have d:j<ys.length:=ab;have e:(a.toList.take (n*1))[j]?=dO (fA fm ys[j]):=by rw[k];simp[d]
 rw[e6 ab]at e;simp only[d9,hg,ei];rw[ib]at e;simp[e,et,d]
def ap8{b:Option ag}(h:bB q (f6 b M L) C)(a:C.length=M)(hl:M<=1000):aay q b M 1 (C.map λx=>fA fm x):=by
 subst a;obtain⟨b',i,e,h⟩:=h;cases e;refine⟨ar,hl,by simp[fB],λd=>?_⟩;obtain⟨k,o,rfl,f,hc⟩:=h d;refine⟨k,o,rfl,f,λj u e=>?_⟩;have g:j<C.length:=by simpa using(cQ.1 e).1
 have:d9 q ⟨k,o+j,dQ⟩=dO (fA fm (C.getD j 0)):=hc j ab;rw[this,<-e];simp[et,g]
def sfC(C:CD)(l:List Int):Bool:=(C.j8 l).X0
def Su{C:CD}{A:Nat}(hc:C.cx=0)(V:∀W,bL q W->C.At W)(xs:List Int)(left:Nat)(v:ac)(w:ad)(X:xs.length=C.n5)(Z:∀i,i<xs.length->bO (xs.getD i 0) 0 12=d8)(h:DG C q A M L R w)(hl:eO 3 w R v xs) :
 bj PL 38 #[v,fA fm left,f9 (dO ⟨A,0,dQ⟩),f9 (dO ⟨M,0,dQ⟩),f9 (dO ⟨L,0,dQ⟩)] w (TP C q A M L R v xs (N5 (sfC C) 0 xs left) w):=by
 obtain⟨b,c,rfl⟩:=vB hl;have h4:0<C.n4:=by have:=(FT hc).1;omega
 have h53:=j7 hc;obtain⟨n,N⟩:=bs xs.length;rw[<-N];have B:=j5 h;have O:=j5 hl;have a:=j5 N;have HN:Hid (n=C.n5):=j5 ab;have HR:Hid (∀W,bL w W->bB W (f6 b n c) xs):=j5 λW j=>by rw[N];exact(eO.reads hl).on j
 have OW:Hid (∀W,bL w W->bj PL 39 #[fR C.val,f6 b n c] W λe w'=>∃Y f,e=qr (fR (C.KD Y f).val)/\acd C f/\yd W.heap.size C.n4 ((C.j8 xs).KD Y f) w'/\bL W w'):=j5 λW j=>
  ac1 C xs _ W (V _ (nt h.low j)) h4 (HR.o W j) ab
 have P:Hid (∀Y f W,acd C f->yd w.heap.size C.n4 ((C.j8 xs).KD Y f) W->bj PL 35 #[fR (C.KD Y f).val] W (aO (f7 (sfC C xs)) W)):=j5 λY f W hf hO=>by
  obtain⟨F,h2,_⟩:=alg hc X Z (Y:=Y) hf;have:=amy (C:=(C.j8 xs).KD Y f) hO.mem.at_ F;rw[h2]at this;exact this
 obtain⟨z,Q⟩:=bs (sfC C xs);rw[<-Q]at P;have HZ:=j5 Q;have jM:=h.c;have i1:(n:Int)=C.n5:=ab;clear h hl Q X N Z V hc;obtain⟨f0,f1,f2,f3,f4,f5⟩:=bf jM;clear jM;have e1:((n:Int)==(C.n5:Int))=d8:=by simpa using i1
 by_cases h0:left=0
 .subst h0
  cases z with
  |false=>
   have r:Hid (∀W,bL w W->TP C q A M L R (f6 b n c) xs (N5 (sfC C) 0 xs 0) w (qr (f7 dU)) W):=j5 λW j=>by
    have e:N5 (sfC C) 0 xs 0=dQ:=by rw[N5,if_neg (by rw[<-HZ.o];simp)]
    rw[e];exact⟨rfl,B.o.on j,(a.o▸O.o).on j,Tri.of j,λ_ h=>by cases h⟩
   go_enter (fx ao m8),m9
   go_wp2_with (first
    |(go_at_call 39;(with_reducible refine(OW.o _ (j6 _ _)).m ?_);rintro e w1⟨Y,f,rfl,s,H,I⟩;have u:=j5 (n6 s (n6 H I));clear s H I)
    |(go_at_call 35;(with_reducible refine(P.o Y f _ u.o.1 u.o.2.1).m ?_);rintro e w2⟨rfl,J⟩;have E:=j5 (nt u.o.2.2 J);clear J))
   go_ret;exact r.o _ E.o
  |true=>
   go_enter (fx ao m8),m9
   go_upto_region 4 with(first
    |(go_at_call 39;(with_reducible refine(OW.o _ (j6 _ _)).m ?_);rintro e w1⟨Y,f,rfl,s,H,I⟩;have u:=j5 (n6 s (n6 H I));clear s H I)
    |(go_at_call 35;(with_reducible refine(P.o Y f _ u.o.1 u.o.2.1).m ?_);rintro e w2⟨rfl,J⟩;have E:=j5 (nt u.o.2.2 J);clear J))
   have CS:=j5 (ap8 (HR.o _ E.o) a.o.y (by have:=HN.o;omega));obtain⟨v0,m⟩:=B.o.d;have K:=(E.o.k _ (kc m)).t m;have HD:=j5 K;have x:=j5 m;clear m K
   go_wp2_with (go_at_call 40;(with_reducible refine(afA b n c _ _ CS.o).m ?_);rintro e w3⟨v,rfl,hv,D⟩;have o:=(D.k _ (kc HD.o)).t HD.o;have fz:=tO o;have y0:d9 w3 ⟨M,0,dQ⟩=dO v0:=(by simp[d9,o]);have HV:=j5 hv;obtain⟨bb,cc,rfl,XL⟩:=hv;clear XL;have l:=j5 o;have B3:=j5 D;clear o D)
   go_ret;have e:N5 (sfC C) 0 xs 0=dO xs:=by rw[N5,if_pos ⟨rfl,by rw[<-HZ.o]⟩]
   rw[e];have Cu:=B.o.lo;have hi:=B.o.hi;have w0:bL w w3:=nt E.o B3.o;have y:=B.o.on w0;have hbd:=kc x.o;have bu:M≠A:=iu x.o B.o.c ao;have S:M≠L:=iu x.o B.o.t ao;have fO:eO 3 w3 R (f6 b n c) xs:=by
    have:=O.o;rw[<-a.o]at this;exact eO.on this w0
   refine⟨rfl,⟨Cu,da hi (by simp;exact w0.z),(aZ bu).t y.c,⟨_,yV l.o⟩,(aZ S).t y.t,y.low.s (p:=⟨M,0,dQ⟩) Cu.2.1 _⟩,VZ fO ab,⟨(w0.mono (eF _)).s (p:=⟨M,0,dQ⟩) (eF _) _,λk hk F h2=>(aZ (gr F)).t (w0.k k hk)⟩,λys T=>?_⟩;cases T;refine⟨bb,cc,?_,?_⟩
   .rw[<-a.o];exact yV l.o
   .rw[<-a.o];refine Clo.ap7 (n:=n) (w:=w2) (b:=b) ?_ a.o.y;obtain⟨b',c',he,TK,F⟩:=HV.o;cases he;refine⟨bb,cc,rfl,TK,λs=>?_⟩;obtain⟨g,U,k1,k2,k3,k4⟩:=F s;refine⟨g,U,k1,k2,(aZ ?_).t k3,k4⟩;have:=E.o.z;omega
 .have i2:(0:Int)<left:=ab;have r:Hid (∀W,bL w W->TP C q A M L R (f6 b n c) xs (N5 (sfC C) 0 xs left) w (qr (f7 dU)) W):=j5 λW j=>by
   have e:N5 (sfC C) 0 xs left=dQ:=by rw[N5,if_neg (λh=>h0 h.1)]
   rw[e];exact⟨rfl,B.o.on j,(a.o▸O.o).on j,Tri.of j,λ_ h=>by cases h⟩
  have i3:¬(left:Int)<=0:=ab;go_enter (fx ao m8),m9
  go_wp2_with fail
  go_ret;exact r.o _ (j6 _ _)
def arJ(a:Nat)(v:ac)(xs:List Int)(v':ac)(b:List Int)(W:ad):Prop:=
 ∀c,eO 3 c a v' b->(∀q,a<=q->q<W.heap.size->dO q≠v'.ownBlock->c.heap[q]?=W.heap[q]?)->eO 3 c a v xs
structure CTg(C:CD)(w0:ad)(Bc Bd Bt B1:Nat)(v:ac)(wr:ad)(b:Bool)(W:ad):Prop where
 de:DG C w0 Bc Bd Bt B1 W
 tri:Tri Bd v wr W
 old:b=dU->bL wr W
def ahV(a:Nat)(v:ac)(xs:List Int)(i:Int)(wr:ad)(j:Nat)(vs:Nat->ac)(W:ad):Prop:=
 (j=3->∃k,vs 3=f6 (dO ⟨k,0,dQ⟩) 1 1/\wr.heap.size<=k/\W.heap[k]?=dO (ol #[fA fm i] 3))/\
 (j=4->eO 3 W a (vs 4) (xs++[i])/\(∀k,k<wr.heap.size->dO k≠v.ownBlock->dO k≠(vs 4).ownBlock)/\arJ a v xs (vs 4) (xs++[i]) W)
def ahV.le{i:Int}{vs:Nat->ac}{W g:ad}(h:ahV M O C i q L vs W)(c:bL W g):ahV M O C i q L vs g:=
 ⟨λe=>(h.1 e).i λ_ a=>⟨a.1,a.2.1,(c.k _ (kc a.2.2)).t a.2.2⟩,λe=>by
   obtain⟨k,l,m⟩:=h.2 e
   exact⟨k.on c,l,λn o a=>m n o λj p b d=>(a j p (bT b c.z) d).t (c.k j b)⟩⟩
def ahs{e:bv}(c:k7 PL Y=dO (qt e))(d:(PL.info? e).map (λi=>(i.zero,i.size,i.bytes))=dO (dO (fA fm 0),1,8)){ops:Array ai}{o:ai}{b:Act}{K:ac->ad->Prop}(f:o.guard=dQ)(s x:aJ)
 (g:o.op=.call { callee:=.builtin .append,args:=#[s,x],argTypes:=#[Y,Y] }) (base:Nat) (v:ac) (l:List Int) (j:Int) (k:Nat) (hs:b.eval s=v) (m:eO e q base v l)
 (n:b.eval x=f6 (dO ⟨k,0,dQ⟩) 1 1) (hc:d9 q ⟨k,0,dQ⟩=dO (fA fm j)) (hl:l.length<=1000) (p:base<=q.heap.size)
 (h:∀v' w',eO e w' base v' (l++[j])->q.grownBy w' v.ownBlock->(v'.ownBlock=v.ownBlock\/v'.ownBlock=dO q.heap.size)->(∀a,eO e a base v' (l++[j])->(∀W,base<=W->W<w'.heap.size->dO W≠v'.ownBlock->a.heap[W]?=w'.heap[W]?)->eO e a base v l)->K v' w'):fC PL ops K o b q:=by
 obtain⟨v',w',r,t,u,w,y⟩:=ac5 c d o.type base v l j k m hc hl p;unfold fC;rw[if_pos (by simp[Region.wanted,f])];unfold bi;simp only[g,cf,invoke,builtin,iB,Sem.run_pure,g8,kv,hZ,kh,hs,n,r];exact h v' w' t u w y
def awa(t:Nat):Bool:=t != 3&&t != 4
def ap9:k7 PL 28=dO (qt 3):=ae
def apa:(PL.info? 3).map (λi=>(i.zero,i.size,i.bytes))=dO (dO (fA fm 0),1,8):=ae
def H8{a:Type}{f:Nat->Option a}(hi:L<=M):b7 f (M+1-L) L=match f L with|some r=>dO r|none=>b7 f (M+1-(L+1)) (L+1):=by
 have e:M+1-L=(M+1-(L+1))+1:=ab;rw[e];show(match f L with|some r=>dO r|none=>b7 f (M+1-(L+1)) (L+1))=_;cases f L<;>rfl
def Fq{a:Nat}(k:Nat)(xs:List Int)(left:Nat)(I2:left<=1000)(v:ac)(w:ad)(hn:xs.length+(k+1)=J.n5)(Hr:J.n5<=3)(h:DG J q M L R a w)(hl:eO 3 w a v xs)
 (ih:∀(n I3:Nat)v' W,n<=12->I3<=1000->DG J q M L R a W->eO 3 W a v' (xs++[(n:Int)])->bj PL 38 #[v',fA fm I3,f9 (dO ⟨M,0,dQ⟩),f9 (dO ⟨L,0,dQ⟩),f9 (dO ⟨R,0,dQ⟩)] W (TP J q M L R a v' (xs++[(n:Int)]) (N5 (sfC J) k (xs++[(n:Int)]) I3) W)) :
 bj PL 38 #[v,fA fm left,f9 (dO ⟨M,0,dQ⟩),f9 (dO ⟨L,0,dQ⟩),f9 (dO ⟨R,0,dQ⟩)] w (TP J q M L R a v xs (N5 (sfC J) (k+1) xs left) w):=by
 obtain⟨b,c,rfl⟩:=vB hl;have HX:=j5 h;have HL:=j5 hl;have IH:=j5 ih;have jM:=h.c;obtain⟨n,Va⟩:=bs xs.length;have i1:¬((n:Int)=J.n5):=ab;have e1:((n:Int)==(J.n5:Int))=dU:=by simpa using i1
 rw[<-Va]at HL ⊢;obtain⟨d,hM⟩:=bs (min left 12);have HNN:=j5 (n6 Va (show n<=3 by omega));obtain⟨f,hf⟩:=bs (fun(n:Nat)=>N5 (sfC J) k (xs++[(n:Int)]) (left-n):Nat->Option (List Int));have hs:N5 (sfC J) (k+1) xs left=b7 f (d+1-0) 0:=by rw[N5,hf,hM];rfl
 rw[hs];have HF:Hid (∀n:Nat,f n=N5 (sfC J) k (xs++[(n:Int)]) (left-n)):=j5 λn=>by rw[hf]
 clear h hl ih hn Va hf hs;obtain⟨f0,f1,f2,f3,f4,f5⟩:=bf jM;clear jM;have P:Hid (∀e W r,TP J q M L R a (f6 b n c) xs r w e W↔e=qr (f7 r.isSome)/\DG J q M L R a W/\eO 3 W a (f6 b n c) xs/\Tri L (f6 b n c) w W/\∀ys,r=dO ys->∃b c,W.heap[L]?=dO (ol #[f6 b ys.length c] 28)/\bB W (f6 b ys.length c) ys):=j5 λe W r=>Iff.rfl;have awb:d<=12/\d<=left:=ab;have x:∀i:Nat,i<=d↔i<=left/\i<=12:=λi=>ab;clear hM;go_enter (fx ao m8),m9;go_wp2
 go_loopw [8] (λv8 wr=>∃i:Nat,i<=d+1/\v8=fA fm i/\b7 f (d+1-0) 0=b7 f (d+1-i) i/\DG J q M L R a wr/\eO 3 wr a (f6 b n c) xs/\Tri L (f6 b n c) w wr) (λv8 _=>d+1-(intOf v8).toNat)
 case atStart=>exact⟨0,eF _,rfl,rfl,HX.o,HL.o,Tri.of (j6 _ _)⟩
 case round=>
  obtain⟨i,hi,rfl,Q,hD,hO,hT⟩:=hrel;have F:=j5 (n6 Q (n6 hD (n6 hO hT)));have JD:=j5 hD;have JO:=j5 hO;clear Q hD hO hT f0 f1 f2 f3 f4 f5;have H:=x i;by_cases z:i<=d
  .have i2:(i:Int)<=left:=ab;have s:bO (i:Int) 0 12=d8:=by simp[bO];omega
   obtain⟨g,U⟩:=bs (left-i:Nat);have s1:eN fm ((left:Int)-(i:Int))=(g:Int):=by rw[pu _ ab];omega
   have I:Hid (∀v' W,DG J q M L R a W->eO 3 W a v' (xs++[(i:Int)])->bj PL 38 #[v',fA fm g,f9 (dO ⟨M,0,dQ⟩),f9 (dO ⟨L,0,dQ⟩),f9 (dO ⟨R,0,dQ⟩)] W (TP J q M L R a v' (xs++[(i:Int)]) (f i) W)):=j5 λv' W V C=>by
    have:=IH.o i g v' W ab ab V C;rw[U,<-HF.o]at this;rw[U];exact this
   have HQ:=j5 U;obtain⟨y,hy⟩:=bs (i:Int);have C0:Hid (CTg J q M L R a (f6 b n c) wr dU wr.drew):=j5 ⟨JD.o.on (j6 _ _).d,Tri.of (j6 _ _).d,λ_=>(j6 _ _).d⟩;clear H x U
   go_upto_region 9 with(go_at_call 41;refine(uK s _).m ?_;rintro e w'⟨rfl,rfl⟩)
   clear i1 e1 s i2;refine iL 8 4 (CTg J q M L R a (f6 b n c) wr) (λW W'=>bL W W') awa (λ_=>ahV a (f6 b n c) xs i wr) (λ_ _ _ _=>True) (λ_ _ _ _ _=>trivial) rfl ae ae rfl
    (λ_ i vs W W' z h=>h.le z) (λi o ho vs eX W he _ _ h=>⟨λe=>by subst e;rw[<-he];exact h.1 rfl,λe=>by subst e;rw[<-he];exact h.2 rfl⟩) C0.o ?_
   iterate 3 (
    apply iK
    case hE=>rfl
    case h=>
     intro vs W b m hd;have w0:=m.de.t;have t0:d9 W ⟨R,0,dQ⟩=dO (So M L R):=by simp[d9,w0]
     clear w0;go_simp
     first
     |exact⟨rfl,j6 _ _⟩
     |exact⟨rfl,m,j6 _ _⟩
    case hb=>exact E0)
   apply ey
   case hE=>rfl
   case hb=>exact E0
   case h=>
    intro vs W D b' hb m jw mS _ hd hP;have K:=(j6 W.heap.size W).a (dk _) (ol #[fA fm (i:Int)] 3);have l:Hid (CTg J q M L R a (f6 b n c) wr b' (eb W (ol #[fA fm (i:Int)] 3))):=j5 ⟨m.de.on K,m.tri.trans (Tri.of K),λe=>nt (m.old e) K⟩;have HW:=j5 (m.tri.fr.z);clear m;go_simp;exact⟨l.o,λj X hE=>(hd j X hE).le K,⟨λ_=>⟨W.heap.size,by simp[upd],HW.o,au _ _⟩,br⟩⟩
   apply ey
   case hE=>rfl
   case hb=>exact E0
   case h=>
    intro vs W D bb iC m jw mS _ hd hP;have m3:3∈D:=jw ⟨3,qN⟩ (cH.2 ⟨ar,rfl⟩);obtain⟨q3,N,hql,hqc⟩:=(hd 3 m3 rfl).1 rfl;have hold:=m.old (iC rfl);have fO:eO 3 W a (f6 b n c) xs:=JO.o.on hold;have bu:=cZ fO;have aH:∀j,fJ (f6 b n c)=dO j->j<wr.heap.size:=λj e=>(JO.o.lt j e).2;refine ahs ap9 apa rfl _ _ rfl a (f6 b n c) xs i q3 rfl fO N (by simp[d9,hqc]) (by have:=HNN.o;omega) m.de.hi λv' w' V C A h4=>?_;have K:Below a W w':=(j6 a W).grown C m.de.hi bu;refine⟨⟨m.de.XM K,⟨m.tri.fr.t (K.mono (eF _)),λk p k1 k2=>(C.block k (bT p hold.z) k2).t (hold.k k p)⟩,λe=>by simp at e⟩,λj X hE=>⟨λe=>?_,λe=>absurd X (by rw[e];exact mS)⟩,⟨br,λ_=>?_⟩,λ_ _ _=>trivial⟩
    .refine((hd j X hE).1 e).i λk p=>⟨p.1,p.2.1,(C.block k (kc p.2.2) λe=>?_).t p.2.2⟩
     have:=aH _ e.y;omega
    .have eu:upd vs 4 v' 4=v':=by simp[upd]
     rw[eu];refine⟨V,λk p ND=>?_,h4⟩;have fW:=hold.z
     rcases A with A|A
     .rw[A];exact ND
     .rw[A];intro e;cases e;omega
   iterate 3 (
    apply iK
    case hE=>rfl
    case h=>
     intro vs W b m hd;go_simp
     first
     |exact⟨rfl,j6 _ _⟩
     |exact j6 _ _
    case hb=>exact E0)
   refine nv λvs W bb _ m hd _=>?_;have S:=(hd 4 ab rfl).2 rfl;have B:=j5 S;have l:=j5 m;clear hd S m;have u:Hid (∀w2,DG J q M L R a w2->eO 3 w2 a (vs 4) (xs++[(i:Int)])->Tri L (vs 4) W w2->eO 3 w2 a (f6 b n c) xs/\Tri L (f6 b n c) w w2):=j5 λw2 V C A=>by
    have Cu:=JD.o.lo;refine⟨B.o.2.2 w2 C λg jQ hq2 N=>A.blk g hq2 ab N,F.o.2.2.2.trans ⟨l.o.tri.fr.t A.fr,λk p k1 k2=>(A.blk k (bT p l.o.tri.fr.z) k1 (B.o.2.1 k p k2)).t (l.o.tri.blk k p k1 k2)⟩⟩
   obtain⟨r,hr⟩:=bs (f i);rw[<-hr]at I;have HR:=j5 hr;clear hr
   cases r with
   |some r=>
    go_wp2_with (go_at_call 38;(with_reducible refine(I.o _ _ l.o.de B.o.1).m ?_);rintro e w2⟨rfl,T,Y,E,O⟩)
    go_ret;obtain⟨k1,k2⟩:=u.o _ T Y E;have e:b7 f (d+1-0) 0=dO r:=by rw[F.o.1,H8 z,<-HR.o]
    rw[e];exact(P.o _ _ _).2 ⟨rfl,T,k1,k2,O⟩
   |none=>
    go_wp2_with (go_at_call 38;(with_reducible refine(I.o _ _ l.o.de B.o.1).m ?_);rintro e w2⟨rfl,T,Y,E,O⟩;have Z:=j5 (n6 T (n6 Y E));clear T Y E O)
    obtain⟨k1,k2⟩:=u.o _ Z.o.1 Z.o.2.1 Z.o.2.2;exact⟨⟨i+1,ab,by go_num,by rw[F.o.1,H8 z,<-HR.o],Z.o.1,k1,k2⟩,by simp only[intOf];omega⟩
  .have Um:b7 f (d+1-0) 0=dQ:=by rw[F.o.1,show d+1-i=0 by omega];rfl
   have u:TP J q M L R a (f6 b n c) xs (b7 f (d+1-0) 0) w (qr (f7 dU)) wr:=by
    rw[Um];exact(P.o _ _ _).2 ⟨rfl,F.o.2.1,F.o.2.2.1,F.o.2.2.2,λ_ h=>by cases h⟩
   have FN:=j5 u;clear u Um;by_cases hl2:i<=left
   .have i2:(i:Int)<=left:=ab;have s:bO (i:Int) 0 12=dU:=by simp[bO];omega
    have ID:∀W,bj PL 41 #[fA fm (i:Int)] W λe w'=>e=qr (f7 dU)/\W=w':=λW=>by
     have:=o8 (i:Int) W;rw[s]at this;exact this.m λ_ _ k=>⟨k.1,k.2.y⟩
    clear H x s
    go_wp2_with (go_at_call 41;refine(ID _).m ?_;rintro e w'⟨rfl,rfl⟩)
    go_ret;exact FN.o
   .have i2:¬(i:Int)<=left:=ab;clear H x
    go_wp2_with fail
    go_ret;exact FN.o
def ahW{C:CD}{w0:ad}{a b c d:Nat}(hc:C.cx=0)(g:∀W,bL w0 W->C.At W):∀(k:Nat)(xs:List Int)(left:Nat)(v:ac)(w:ad),xs.length+k=C.n5->(∀i,i<xs.length->bO (xs.getD i 0) 0 12=d8)->left<=1000->DG C w0 a b c d w->eO 3 w d v xs->
 bj PL 38 #[v,fA fm left,f9 (dO ⟨a,0,dQ⟩),f9 (dO ⟨b,0,dQ⟩),f9 (dO ⟨c,0,dQ⟩)] w (TP C w0 a b c d v xs (N5 (sfC C) k xs left) w)
 |0,xs,left,v,w,j,e,_,h,hl=>Su hc g xs left v w ab e h hl
 |k+1,xs,left,v,w,j,e,f,h,hl=>Fq k xs left f v w j (j7 hc) h hl λn l v' W m o p q=>ahW hc g k (xs++[(n:Int)]) l v' W (by rw[dC];simp;omega) (λi hi=>by
  rw[dC]at hi;simp only[fo,ly]at hi
  rcases kd i xs.length with h|h
  .have:=e i h;rwa[et,ej h,<-et]
  .obtain rfl:i=xs.length:=ab
   simp[et,bO];omega) o p q
end Go.Proofs
namespace Go.Proofs
open Go.RowKit Go.Shelf
variable {C:ad}{J L M O R Y q:Nat}
def Cw{P:Program}{a:ag}{m:Mode}(f:Fn)(ts b:Array ac):(store a (ge f ts b) m).run P C=stored P C a (ge f ts b) m:=run_store P C a _ m rfl
attribute [local go_sem] Cw
structure KDl(V:Array ac)(w:ad)(W:ad):Prop where
 c:W.heap[w.heap.size]?=dO (ol V 27)
 d:W.heap[w.heap.size+1]?=dO (ol #[f6 dQ 0 0] 28)
 low:bL w W
def KDl.on{V:Array ac}{W b:ad}(h:KDl V C W)(a:bL W b):KDl V C b:=
 ⟨(a.k _ (kc h.c)).t h.c,(a.k _ (kc h.d)).t h.d,nt h.low a⟩
def awd(r:Option (List Int))(w:ad)(e:Ending)(w':ad):Prop:=
 (match r with
   |some r=>∃b c,e=qr (gc #[f6 b r.length c,f7 d8,fA fm 0])/\bB w' (f6 b r.length c) r
   |none=>e=qr (gc #[f6 dQ 0 0,f7 dU,fA fm 0]))/\bL w w'
def acV(C:CD)(w:ad)(h:C.At w)(hc:C.cx=0):bj PL 11 #[fR C.val] w (awd C.dly w):=by
 have HA:Hid (∀W,bL w W->C.At W):=j5 λW hB=>h.below hB;have h5:=j7 hc
 have H:Hid (KDl C.val w (eb (eb w (ol C.val 27)) (ol #[f6 dQ 0 0] 28))):=j5 (by
  refine⟨(((j6 (eb w _).heap.size _).a (dk _) _).k _ ar).t (au w _),?_,((j6 _ _).a (dk _) _).a ar _⟩;have h:=au (eb w (ol C.val 27)) (ol #[f6 dQ 0 0] 28);rw[ep]at h
  exact h)
 have CK:Hid (∀W,bL w W->bj PL 37 #[fR C.val] W (aO (fA fm 0) W)):=j5 λW hW=>by have:=uC C W (HA.o W hW);rwa[hc]at this
 obtain⟨f,hf⟩:=bs (λs=>N5 (sfC C) C.n5 [] s:Nat->Option (List Int));have hs:C.dly=b7 f (12*C.n5+1-0) 0:=by rw[hf];rfl
 rw[hs];have TR:Hid (∀I J K P W(i:Nat),i<=36->DG C w I J K P W->bj PL 38 #[f6 dQ 0 0,fA fm i,f9 (dO ⟨I,0,dQ⟩),f9 (dO ⟨J,0,dQ⟩),f9 (dO ⟨K,0,dQ⟩)] W (TP C w I J K P (f6 dQ 0 0) [] (f i) W)):=j5 λI J K P W i hi L=>by
  rw[hf];exact ahW hc HA.o C.n5 [] i (f6 dQ 0 0) W ar (λi hi=>by simp at hi) ab L ⟨rfl,qu ⟨rfl,rfl⟩⟩
 clear h hc hf hs;go_enter (fx ao Tryz.func11),Tryz.ntmps11
 go_upto_region 1 with fail
 obtain⟨W0,kS⟩:=bs (eb (eb w (ol C.val 27)) (ol #[f6 dQ 0 0] 28));rw[<-kS]at H ⊢;clear kS;obtain⟨o,q,x,y,f4,z⟩:=bf H.o.c
 go_upto_region 4 with(go_at_call 37;go_must (refine(CK.o _ H.o.low).m ?_);rintro e w1⟨rfl,A⟩;have Q:=j5 (H.o.on A);clear A o q x y f4 z;obtain⟨o,q,x,y,f4,z⟩:=bf Q.o.c)
 go_upto_region 5 with fail
 obtain⟨n,M⟩:=bs (eb w1 (ol #[gj] 84));have A:bL w1 n:=by rw[M];exact(j6 _ _).a (dk _) _
 have b:n.heap[w1.heap.size]?=dO (ol #[gj] 84):=by rw[M];exact au _ _
 rw[<-M];clear M o q x y f4 z;have R:=j5 (Q.o.on A);have HT:=j5 b;have t0:d9 n ⟨w1.heap.size,0,dQ⟩=dO gj:=by simp[d9,b]
 have S:=tO b;clear b A
 go_upto_region 6 with fail
 obtain⟨B,N⟩:=bs (em n ⟨w1.heap.size,0,dQ⟩ (So w.heap.size (w.heap.size+1) w1.heap.size));rw[<-N];have T:=kc Q.o.d
 have O:Hid (KDl C.val w B):=j5 (by
  rw[N]
  exact⟨(aZ ab).t R.o.c,(aZ ab).t R.o.d,R.o.low.s (p:=⟨w1.heap.size,0,dQ⟩) (by simp only;omega) _⟩)
 have D3:Hid (DG C w w.heap.size (w.heap.size+1) w1.heap.size (w1.heap.size+1) B):=j5 (by
  have Q6:B.heap[w1.heap.size]?=dO (ol #[So w.heap.size (w.heap.size+1) w1.heap.size] 84):=by rw[N];exact yV HT.o
  exact⟨⟨ab,ab,ab,ab,ab⟩,kc Q6,O.o.c,⟨_,O.o.d⟩,Q6,O.o.low⟩)
 obtain⟨o,q,x,y,f4,z⟩:=bf O.o.c;clear N t0 S T;have m1:eN fm (12*(C.n5:Int))=12*(C.n5:Int):=pu _ ab;have m2:eN fm (12*(C.n5:Int)+1)=12*(C.n5:Int)+1:=pu _ ab;have m3:wrap64 (12*(C.n5:Int))=12*(C.n5:Int):=pv _ ab;have m4:wrap64 (12*(C.n5:Int)+1)=12*(C.n5:Int)+1:=pv _ ab;go_wp2
 go_loopw [19] (λg wr=>∃i:Nat,i<=12*C.n5+1/\g=fA fm i/\b7 f (12*C.n5+1-0) 0=b7 f (12*C.n5+1-i) i/\DG C w w.heap.size (w.heap.size+1) w1.heap.size (w1.heap.size+1) wr) (λg _=>12*C.n5+1-(intOf g).toNat)
 case atStart=>exact⟨0,eF _,rfl,rfl,D3.o⟩
 case round=>
  obtain⟨i,hi,rfl,D,L⟩:=hrel;have JD:=j5 L;have U:=j5 D;clear D L o q x y f4 z;by_cases aH:i<=12*C.n5
  .have i1:(i:Int)<12*(C.n5:Int)+1:=ab;have b:=JD.o.t;have t1:d9 wr ⟨w1.heap.size,0,dQ⟩=dO (So w.heap.size (w.heap.size+1) w1.heap.size):=by simp[d9,b]
   obtain⟨r,V⟩:=bs (f i);have T2:=j5 (TR.o _ _ _ _ wr i ab JD.o);rw[<-V]at T2;have HR:=j5 V;clear V b
   cases r with
   |some r=>
    go_wp2_with (go_at_call 38;(with_reducible refine(T2.o).m ?_);rintro e w3⟨rfl,E,X,j,a⟩;obtain⟨l,m,hv,F⟩:=a _ rfl;have y0:d9 w3 ⟨w.heap.size+1,0,dQ⟩=dO (f6 l r.length m):=(by simp[d9,hv]);have S:=tO hv;have Y:=j5 (n6 hv (n6 F E.low));clear hv F E X j a)
    obtain⟨hv,F,qv⟩:=Y.o
    have hs:bL w3 (em w3 ⟨w.heap.size+1,0,dQ⟩ (f6 l r.length m)):=⟨rfl,rfl,rfl,ar,λk _=>by
     by_cases e:k=w.heap.size+1
     .subst e;rw[yV hv,hv]
     .exact aZ (gr e)⟩
    have hy:=yV (u:=f6 l r.length m) hv;have e:b7 f (12*C.n5+1-0) 0=dO r:=by rw[U.o,H8 aH,<-HR.o]
    refine bm (v:=gc #[f6 l r.length m,f7 d8,fA fm 0]) ?_ rfl (by rw[e];exact⟨⟨l,m,rfl,F.on hs⟩,nt qv hs⟩);have hz:=kc hy;have Z:d9 (em w3 ⟨w.heap.size+1,0,dQ⟩ (f6 l r.length m)) ⟨w.heap.size+1,0,dQ⟩=dO (f6 l r.length m):=by simp[d9,hy]
    clear hs e hv F qv;simp[bq,nb,go_sem,Z]
   |none=>
    go_wp2_with (go_at_call 38;(with_reducible refine(T2.o).m ?_);rintro e w3⟨rfl,E,X,j,a⟩;have HP:=j5 E;clear E X j a)
    exact⟨⟨i+1,ab,by go_num,by rw[U.o,H8 aH,<-HR.o],HP.o⟩,by simp only[intOf];omega⟩
  .have i1:¬(i:Int)<12*(C.n5:Int)+1:=ab;have Um:b7 f (12*C.n5+1-0) 0=dQ:=by rw[U.o,show 12*C.n5+1-i=0 by omega];rfl
   have HE:=j5 Um;clear Um;obtain⟨v0,hv⟩:=JD.o.d;have y0:d9 wr ⟨w.heap.size+1,0,dQ⟩=dO v0:=by simp[d9,hv]
   have S:=tO hv;have Y:=j5 hv;clear hv
   go_wp2_with fail
   have hy:=yV (u:=f6 dQ 0 0) Y.o;have hz:=kc hy;refine bm (v:=gc #[f6 dQ 0 0,f7 dU,fA fm 0]) ?_ rfl (by rw[show b7 f (12*C.n5+1) 0=dQ from HE.o];exact⟨rfl,JD.o.low.s (p:=⟨w.heap.size+1,0,dQ⟩) (n1 _) _⟩);have Z:d9 (em wr ⟨w.heap.size+1,0,dQ⟩ (f6 dQ 0 0)) ⟨w.heap.size+1,0,dQ⟩=dO (f6 dQ 0 0):=by simp[d9,hy]
   simp[bq,nb,go_sem,Z]
theorem apb{e f ca lb g:Nat}:(ir q J L M O R Y e f ca lb g 1).dly=dO [0,0]:=ae
def II{i c ca lb d:Nat}(w:ad)(h:CJ w q L O Y c ca lb d 1) :
 bj PL 11 #[fR (ir q J L M O R Y i c ca lb d 1).val] w λe w'=>∃v,e=qr (gc #[v,f7 d8,fA fm 0])/\bB w' v [0,0]/\bL w w':=by
 refine(acV (ir q J L M O R Y i c ca lb d 1) w h.at (yQ (qx rfl))).m ?_;rintro e w'⟨j,k⟩;grind[apb]
end Go.Proofs
namespace Go.Proofs
open Go.RowKit Go.Instr
open Go.ChangeMaps (setBlock)
variable {C:ad}{q:Nat}{L:Int}{M:Array ai}{O:Act}{J:aI->Act->ad->Prop}
abbrev WE:=Int×ac×List Int×Int
variable {R:List WE}{Y:WE}
def nD(x:WE):ac:=fR #[x.2.1,fA fm x.2.2.2]
def Cx(i:Nat)(x:WE):ct:={ key:=fA fm x.1,val:=nD x,born:=i }
def gi(R:List WE):Array ct:=(R.mapIdx Cx).toArray
structure jy(W:ad)(b:Nat)(R:List WE):Prop where
 map:W.heap[b]?=dO (o1 (gi R) R.length)
 reads:∀x∈R,bB W x.2.1 x.2.2.1
 ne:∀x∈R,x.2.2.1≠[]
def jy.on{W a:ad}{b:Nat}{R:List WE}(h:jy W b R)(c:bL W a):jy a b R:=
 ⟨(c.k _ (kc h.map)).t h.map,λx d=>(h.reads x d).on c,h.ne⟩
def jy.made(w:ad):jy (eb w (o1 #[] 0)) w.heap.size []:=⟨au _ _,λ_ h=>(by cases h),λ_ h=>(by cases h)⟩
def yY:k7 PL 117=dO (.map 3 116):=ae
def V3(w:ad):(zeroValue 116).run PL w=hG (fR #[f6 dQ 0 0,fA fm 0]) w:=ae
def Sv(k:Int):∀(R:List WE)(f:Nat->WE->ct)(a:Nat),(∀i x,(f i x).key=fA fm x.1)->(∀i x,(f i x).val=nD x)->
 ∃r,db (.int fm) (fA fm k) (R.mapIdx f) a=dO r/\(∀x,R.find? (λx=>x.1==k)=dO x->∃j,r=dO (j,nD x))/\(R.find? (λx=>x.1==k)=dQ->r=dQ)
 |[],f,a,_,_=>⟨dQ,rfl,λx h=>by simp at h,λ_=>rfl⟩
 |y::R,f,a,b,hv=>by
  rw[List.mapIdx_cons];by_cases e:y.1=k
  .refine⟨dO (a,nD y),by simp[db,b,hv,sameNow,e],λx h=>?_,λh=>?_⟩
   .simp[e]at h;subst h;exact⟨a,rfl⟩
   .simp[e]at h
  .obtain⟨r,c,d,g⟩:=Sv k R (λi=>f (i+1)) (a+1) (λi x=>b _ x) (λi x=>hv _ x);refine⟨r,?_,λx h=>d x ?_,λh=>g ?_⟩
   .have l:(k==y.1)=dU:=by simpa using λh=>e h.y
    simp only[db,b,sameNow,l,if_true];simpa using c
   .simpa[jz,e]using h
   .simpa[jz,e]using h
def qn(k:Int)(R:List WE)(w:ad):∃r,(findKey 3 (fA fm k) (gi R).toList).run PL w=hG r w/\(∀x,R.find? (λx=>x.1==k)=dO x->∃j,r=dO (j,nD x))/\(R.find? (λx=>x.1==k)=dQ->r=dQ):=by
 obtain⟨r,a,b,c⟩:=Sv k R Cx 0 (λ_ _=>rfl) (λ_ _=>rfl);exact⟨r,by simp[findKey,cv,aaj,gi,a],b,c⟩
def IJ(h:C.heap[q]?=dO (o1 (gi R) R.length))(a:R.find? (λY=>Y.1==L)=dO Y):(dc 117 (gp (dO q)) (fA fm L) dU).run PL C=hG (nD Y) C:=by
 obtain⟨r,c,d,_⟩:=qn L R C;obtain⟨j,rfl⟩:=d Y a;simp[dc,cv,yY,pz h,qz.check,c]
def Sw(h:C.heap[q]?=dO (o1 (gi R) R.length))(a:R.find? (λY=>Y.1==L)=dO Y):(dc 117 (gp (dO q)) (fA fm L) d8).run PL C=hG (gc #[nD Y,f7 d8]) C:=by
 obtain⟨r,c,d,_⟩:=qn L R C;obtain⟨j,rfl⟩:=d Y a;simp[dc,cv,yY,pz h,qz.check,c]
def Sx(h:C.heap[q]?=dO (o1 (gi R) R.length))(c:R.find? (λx=>x.1==L)=dQ):(dc 117 (gp (dO q)) (fA fm L) d8).run PL C=hG (gc #[fR #[f6 dQ 0 0,fA fm 0],f7 dU]) C:=by
 obtain⟨r,a,_,d⟩:=qn L R C;rw[d c]at a;simp[dc,cv,yY,pz h,qz.check,a,V3]
def jN{d:ad}{o:Obj}{v:ac}{l:List Int}(hv:bB C v l)(hl:l≠[])(h:gv C d q)(hb:C.heap[q]?=dO o)(e:∀c t f,o≠ol c t f):bB d v l:=by
 obtain⟨p,c,rfl,g⟩:=hv;refine⟨p,c,rfl,λi=>?_⟩;obtain⟨k,b,rfl,m,hc⟩:=g i;have n:k≠q:=by
  rintro rfl;have:=hc 0 ab;simp only[d9,hb]at this
  cases o with
  |cells c t f=>exact e c t f rfl
  |_=>simp at this
 exact⟨k,b,rfl,by rw[h.size];exact m,λj r=>(h.cell (a:=⟨k,b+j,dQ⟩) n).t (hc j r)⟩
def jy.put{W:ad}{b:Nat}{R:List WE}(h:jy W b R){x:WE}(f:R.find? (λy=>y.1==x.1)=dQ)(g:bB W x.2.1 x.2.2.1)(c:x.2.2.1≠[]) :
 ∃w',(dL 117 (gp (dO b)) (fA fm x.1) (nD x)).run PL W=hG () w'/\jy w' b (R++[x])/\gv W w' b:=by
 obtain⟨r,d,_,i⟩:=qn x.1 R W;rw[i f]at d;have hb:=kc h.map
 have a:gv W { W with heap:=gy W.heap b (o1 ((gi R).push { key:=fA fm x.1,val:=nD x,born:=R.length }) (R.length+1)) } b:=⟨rfl,rfl,rfl,ar,λk j=>by
  show(gy W.heap b _)[k]?=_
  rw[gL (gr j)]⟩
 have l:gi (R++[x])=(gi R).push { key:=fA fm x.1,val:=nD x,born:=R.length }:=by
  simp[gi,Cx,List.mapIdx_append]
 refine⟨_,?_,⟨?_,λy hy=>?_,λy hy=>?_⟩,a⟩
 .simp[dL,cv,yY,pz h.map,qz.check,d,MapKept.run_setObj_map _ h.map]
 .rw[l];simp[hb]
 .rcases lx.1 hy with hy|hy
  .exact jN (h.reads y hy) (h.ne y hy) a h.map (λ_ _ _ e=>by cases e)
  .rw[jX.1 hy];exact jN g c a h.map (λ_ _ _ e=>by cases e)
 .rcases lx.1 hy with hy|hy
  .exact h.ne y hy
  .rw[jX.1 hy];exact c
def ag6(R:List WE):(gi R).toList.map (·.born)=hV R.length:=by
 apply List.ext_getElem
 .simp[gi]
 .intro i a b;simp[gi,Cx]
def A5{e:ct}(h:e∈(gi R).toList):∃j x,R[j]?=dO x/\e=Cx j x:=by
 simp only[gi,jH]at h;obtain⟨j,a,rfl⟩:=h;exact⟨j,R[j],by simp[a],rfl⟩
def tE(W:ad)(r b n:Nat)(seen:Array Nat):Prop:=W.heap[r]?=dO (o6 (dO b) n seen n)
def V4(h:jy C q R):(Instr.range 117 (gp (dO q))).run PL C=hG (f9 (dO ⟨C.heap.size,0,dQ⟩)) (eb C (o6 (dO q) R.length #[] R.length)):=
 run_range_map C 117 3 116 q _ _ yY h.map
def Fs(n:Nat)(seen:Array Nat):Nat:=((hV n).filter λj=>!seen.contains j).length
def IK{j:Nat}{seen:Array Nat}(a:j<q)(hs:seen.contains j=dU):Fs q (seen.push j)<Fs q seen:=by
 unfold Fs;have b:(hV q).filter (λn=>!(seen.push j).contains n)=((hV q).filter λn=>!seen.contains n).filter λn=>decide (¬n=j):=by
  rw[List.filter_filter];refine l6 λn _=>?_;by_cases e:n=j<;>simp[e]
 rw[b];refine List.length_filter_lt_length_iff_exists.2 ⟨j,?_,ar⟩;have c:j∉seen:=by simpa using hs
 simp[a,c]
def zX{rest:List ai}{o:ai}(w:ad)(hg:o.guard=dQ)(it:aJ)(t:o.op=Op.next it dU)(r b:Nat)(R:List WE)(seen:Array Nat)
 (u:O.eval it=f9 (dO ⟨r,0,dQ⟩)) (g:tE w r b R.length seen) (c:jy w b R)
 (A:(∀j,j<R.length->seen.contains j=d8)->aP PL M J rest (O.put o.dst (gc #[f7 dU])) w)
 (i:∀j x w',R[j]?=dO x->seen.contains j=dU->tE w' r b R.length (seen.push j)->gv w w' r->jy w' b R->(Instr.entry (f9 (dO ⟨r,0,dQ⟩))).run PL w'=hG (gc #[fA fm x.1,nD x]) w'->
   aP PL M J rest (O.put o.dst (gc #[f7 d8,fA fm x.1,nD x])) w'):aP PL M J (o::rest) O w:=by
 refine aT hg λF hK'=>?_;unfold Oper.wp
 rcases run_next_at (P:=PL) w o.type r b R.length R.length seen (gi R) R.length g c.map (λx B=>by
  obtain⟨j,y,d,rfl⟩:=A5 B
  exact(cQ.1 d).1) (dk _) with⟨hl,l⟩|⟨e,m,w1,h,l⟩
 .simp[bi,t,u,l,g9];refine hK' _ _ (A λj d=>?_);have f:Cx j R[j]∉leftOf (gi R) seen:=by rw[mi hl];simp
  have C:Cx j R[j]∈gi R:=by
   simp only[gi,ko,jH];exact⟨j,d,rfl⟩
  simp only[leftOf,g7,not_and]at f;have:=f C;simpa[Cx]using this
 .have n:e∈(gi R).toList/\seen.contains e.born=dU:=by
   simp only[leftOf,iN,g7]at m;exact⟨iN.2 m.1,by simpa using m.2⟩
  obtain⟨j,x,d,rfl⟩:=A5 n.1;have hs:seen.contains j=dU:=n.2;simp[bi,t,u,l,g9];have p:=kc g
  have q:w1.heap=w.heap:=by rcases h with rfl|rfl<;>rfl
  have D:b≠r:=by rintro rfl;have i:=c.map;have f:w.heap[b]?=_:=g;rw[i]at f;cases f
  have s:gv w (setBlock w1 r (o6 (dO b) R.length (seen.push j) R.length)) r:=by
   refine⟨by rcases h with rfl|rfl<;>rfl,by rcases h with rfl|rfl<;>rfl,by rcases h with rfl|rfl<;>rfl,by simp[setBlock,q],λk E=>?_⟩;show(gy w1.heap r _)[k]?=_;rw[q,gL (gr E)]
  have v:tE (setBlock w1 r (o6 (dO b) R.length (seen.push j) R.length)) r b R.length (seen.push j):=by
   show(gy w1.heap r _)[r]?=_;rw[q];simp[p]
  have z:jy (setBlock w1 r (o6 (dO b) R.length (seen.push j) R.length)) b R:=⟨(s.block _ D).t c.map,λy hy=>jN (c.reads y hy) (c.ne y hy) s g (λ_ _ _ e=>by cases e),c.ne⟩
  refine hK' _ _ (i j x _ d hs v s z ?_);exact run_entry_at _ r b R.length seen (gi R) R.length (Cx j x) v z.map n.1 (by rw[ag6];exact List.nodup_range)
def tF{rest:List ai}{o:ai}(w:ad)(hg:o.guard=dQ)(m x v:aJ)(c:o.op=Op.mapUpdate 117 m x v\/o.op=Op.insert 117 m x v)(b:Nat)(R:List WE)(y:WE)
 (d:O.eval m=gp (dO b)) (e:O.eval x=fA fm y.1) (hv:O.eval v=nD y) (h:jy w b R) (hy:R.find? (λz=>z.1==y.1)=dQ) (f:bB w y.2.1 y.2.2.1) (g:y.2.2.1≠[])
 (i:∀w',jy w' b (R++[y])->gv w w' b->aP PL M J rest (O.put o.dst undef) w'):aP PL M J (o::rest) O w:=by
 refine aT hg λn hK'=>?_;obtain⟨w',j,k,l⟩:=h.put hy f g;unfold Oper.wp
 rcases c with c|c<;>
 .simp[bi,c,d,e,hv,j,g9];exact hK' _ _ (i w' k l)
abbrev SW:=List (Int×List Int×Int)
def V6(b:List Int)(a:Int)(q:Nat):Bool:=decide ((q:Int)∈b)||(decide ((zU q).1≠a)&&decide ((zU q).2.1≠a))
def XN(a:Int)(q:Nat):Int:=(zU q).1+(zU q).2.1-a
def stepW(b c:List Int)(a:Int)(S:SW)(q:Nat):SW:=if V6 b a q then S else if XN a q∈c then S else match S.find? (λx=>x.1==a) with
 |none=>S
 |some x=>S++[(XN a q,x.2.1++[XN a q],x.2.2+(zU q).2.2)]
def N0(a b:List Int)(c:Int)(S:SW):Nat->SW
 |0=>S
 |q+1=>stepW a b c (N0 a b c S q) q
def okQ(b c:List Int)(a:Int)(S:SW):Bool:=(hV 4).all λq=>match(N0 b c a S q).find? (λx=>x.1==a) with
 |none=>dU
 |some x=>decide (x.2.1.length<=10)&&decide (0<=x.2.2)&&decide (x.2.2<=1000)&&(V6 b a q||decide (XN a q∈c)||((N0 b c a S q).find? λx=>x.1==XN a q).isNone)
def strip(x:WE):Int×List Int×Int:=(x.1,x.2.2)
def nE{S:SW}(h:R.map strip=S)(k:Int):S.find? (λx=>x.1==k)=(R.find? λx=>x.1==k).map strip:=by
 rw[<-h,List.find?_map];rfl
end Go.Proofs
namespace Go.Proofs
open Go.RowKit Go.Shelf
attribute [local go_sem] Oper.semAt_some
set_option maxHeartbeats 1000000
variable {J:ad}{C:Int}{O q:Nat}{L:Array Nat}{Y:ac}{M:List Int}
variable {R:List WE}
def yX{T e:bv}(a:k7 PL T=dO (qt e))(c:(PL.info? e).map (λi=>(i.zero,i.size,i.bytes))=dO (dO (fA fm 0),1,8)){ops:Array ai}{o:ai}{b:Act}{K:ac->ad->Prop}(d:o.guard=dQ)(s x:aJ)
 (f:o.op=.call { callee:=.builtin .append,args:=#[s,x],argTypes:=#[T,T] }) (base:Nat) (v:ac) (l:List Int) (j:Int) (k:Nat) (hs:b.eval s=v) (g:eO e J base v l)
 (m:b.eval x=f6 (dO ⟨k,0,dQ⟩) 1 1) (hc:d9 J ⟨k,0,dQ⟩=dO (fA fm j)) (hl:l.length<=1000) (n:base<=J.heap.size)
 (h:∀v' w',eO e w' base v' (l++[j])->J.grownBy w' v.ownBlock->K v' w'):fC PL ops K o b J:=by
 obtain⟨p,hi,r,t,y⟩:=bC c
 obtain⟨v',w',z,A,B,_⟩:=run_append_own (P:=PL) (w:=J) base T o.type e p (fA fm 0) 1 8 a hi r t y rfl ao v l.length _ g ⟨k,0,dQ⟩ 1 1 [fA fm j] rfl (λq u e=>by
  match q,e with
  |0,e=>cases e;exact hc) (by simp[fB]) (by simp only[b9];omega) ab n
 unfold fC;rw[if_pos (by simp[Region.wanted,d])];unfold bi;simp only[f,cf,invoke,builtin,iB,Sem.run_pure,g8,kv,hZ,kh,hs,m,z];refine h v' w' ?_ B;unfold eO;rw[dC,io];exact A
def arM(C:CD)(w:ad)(j:Nat)(vs:Nat->ac)(W:ad):Prop:=
 (j=10->∃k,vs 10=f9 (dO ⟨k,0,dQ⟩)/\w.heap.size<k/\Six W k)/\(j=11->∃k,vs 10=f9 (dO ⟨k,0,dQ⟩)/\w.heap.size<k/\W.heap[k]?=dO (ol C.val 78))
def yZ(m:Int)(p:Nat):Int:=kU je p m 2 0 dU
def uN(m:Int)(p:Nat):List Int:=((hV p).filter λq=>yZ m q != 2).map fun(q:Nat)=>(q:Int)+1
def IL(h:yZ C q=2):uN C (q+1)=uN C q:=by
 simp[uN,ip,ki,h]
def IM(h:yZ C q≠2):uN C (q+1)=uN C q++[(q:Int)+1]:=by
 simp[uN,ip,ki,h]
def V7:(q:Int)+1∉uN C q:=by
 simp only[uN,j3,lu,dv,not_exists,not_and,and_imp];intro m a _ e;omega
abbrev zn:Int->ac:=λn=>fA fm n
structure KQ(C:CD)(w:ad)(kx kt:Nat)(W:ad):Prop where
 box:W.heap[w.heap.size]?=dO (ol C.val 27)
 bx:W.heap[kx]?=dO (ol C.val 78)
 row:Row W kt (je.map bh)
 low:bL w W
def KQ.on{C:CD}{w W b:ad}{c d:Nat}(h:KQ C w c d W)(a:bL W b):KQ C w c d b:=
 ⟨(a.k _ (kc h.box)).t h.box,(a.k _ (kc h.bx)).t h.bx,h.row.on a,nt h.low a⟩
def KQ.turned{C:CD}{W l:ad}{b:Nat}{o:Obj}(h:KQ C J q O W)(d:gv W l b)(hb:W.heap[b]?=dO o)(n:∀c t f,o≠ol c t f)(w:J.heap.size<=b):KQ C J q O l:=by
 have p:∀{k:Nat}{c:Array ac}{t:bv}{f:Nat×Nat},W.heap[k]?=dO (ol c t f)->k≠b:=λ{k c t f}e g=>by
  rw[g,hb]at e;cases e;exact n _ _ _ rfl
 refine⟨(d.block _ (p h.box)).t h.box,(d.block _ (p h.bx)).t h.bx,⟨by rw[d.size];exact h.row.1,λj v e=>(d.cell (a:=⟨O,j,dQ⟩) λg=>?_).t (h.row.2 j v e)⟩,h.low.t (d.below w)⟩;have:=h.row.2 j v e;simp only at g;subst g;simp only[d9,hb]at this
 cases o with
 |cells c t f=>exact n c t f rfl
 |_=>simp at this
def Sy:Ir je:=by
 have h:∀j,j<75->-10000<=je.getD j 0/\je.getD j 0<=10000:=ao;have k:∀j,¬j<75->je.getD j 0=0:=λj a=>by
  rw[et,ii (by show je.length<=j;have:je.length=75:=rfl;omega)];rfl
 exact⟨rfl,λj=>by by_cases a:j<75;exact(h j a).1;rw[k j a];decide,λj=>by by_cases a:j<75;exact(h j a).2;rw[k j a];decide⟩
def Sz(C:CD)(k p:Nat)(m:Int)(w:ad)(a:Row w k (je.map bh))(b:C.n5=2)(c:p<5) :
 bj PL 62 #[fR C.val,f9 (dO ⟨k,0,dQ⟩),fA fm p,fA fm m] w (aO (fA fm (yZ m p)) w):=by
 have h:=Fa C k p m je Sy w a ab c;have e:kU je p m C.n5 0 dU=yZ m p:=by rw[b];rfl
 rw[e]at h;exact h
def XO(m:Int):List Int:=if m=5 then[2,3,0] else[]
def A6(m:Int):Int:=if m=5 then 110 else 0
def SC(m:Int):Bool:=decide (m=5)
def zb(m:Int):Nat:=if m=5 then 2 else 1
def Ln(m:Int)(i:Nat):SW:=if i=0 then[(2,[2],0)] else if m=5 then(if i=1 then[(2,[2],0),(3,[2,3],30)] else[(2,[2],0),(3,[2,3],30),(0,[2,3,0],110)]) else[(2,[2],0)]
def tP(_:Int)(i:Nat):List Int:=if i=0 then[] else if i=1 then[2] else[2,3]
def stA(m:Int)(i:Nat):Int:=if i=0 then 2 else if m=5 then(if i=1 then 3 else 0) else -1
def V8(b:C=5\/C=3)(hi:q<=zb C):(∀j x,(Ln C q)[j]?=dO x->x.1∉tP C q->x.1=stA C q/\j=q)/\(stA C q = -1\/∃x,(Ln C q)[q]?=dO x/\x.1∉tP C q):=by
 rcases b with rfl|rfl
 .obtain rfl|rfl|rfl:q=0\/q=1\/q=2:=by have:zb 5=2:=rfl;omega
  .exact⟨λj x h _=>by match j,h with
    |0,h=>cases h;exact⟨rfl,rfl⟩,qx ⟨_,rfl,ao⟩⟩
  .exact⟨λj x h a=>by match j,h with
    |0,h=>cases h;exact absurd ao a
    |1,h=>cases h;exact⟨rfl,rfl⟩,qx ⟨_,rfl,ao⟩⟩
  .exact⟨λj x h a=>by match j,h with
    |0,h=>cases h;exact absurd ao a
    |1,h=>cases h;exact absurd ao a
    |2,h=>cases h;exact⟨rfl,rfl⟩,qx ⟨_,rfl,ao⟩⟩
 .obtain rfl|rfl:q=0\/q=1:=by have:zb 3=1:=rfl;omega
  .exact⟨λj x h _=>by match j,h with
    |0,h=>cases h;exact⟨rfl,rfl⟩,qx ⟨_,rfl,ao⟩⟩
  .exact⟨λj x h a=>by match j,h with
    |0,h=>cases h;exact absurd ao a,qu rfl⟩
def uO{S:SW}(h:R.map strip=S){x:WE}(a:R[q]?=dO x):S[q]?=dO (strip x):=by rw[<-h,eT,a];rfl
def SD(j:C=5\/C=3)(hi:q<=zb C)(a:stA C q<=0)(f:R.map strip=Ln C q)(h:jy J O R) :
 ∃p n c,(dc 117 (gp (dO O)) (fA fm 0) d8).run PL J=hG (gc #[fR #[f6 p n c,fA fm (A6 C)],f7 (SC C)]) J/\bB J (f6 p n c) (XO C):=by
 rcases j with rfl|rfl
 .obtain rfl:q=2:=by
   have k:zb 5=2:=rfl
   match q,a with
   |0,a=>exact absurd a ao
   |1,a=>exact absurd a ao
   |2,_=>rfl
   |q+3,_=>omega
  have hf:=nE f 0
  cases e:R.find? (λx=>x.1==0) with
  |none=>rw[e]at hf;cases hf
  |some x=>
   rw[e]at hf;have d:dO ((0:Int),[(2:Int),3,0],(110:Int))=dO (strip x):=hf;obtain⟨x1,x2,x3,x4⟩:=x;simp only[strip,kj,ma]at d;obtain⟨rfl,rfl,rfl⟩:=d;have g:=h.reads _ (j4 e);have hl:=Sw h.map e;simp only[nD]at hl;have l:bB J x2 [2,3,0]:=g;obtain⟨p,c,rfl,_⟩:=l;exact⟨p,_,c,hl,g⟩
 .obtain rfl:q=1:=by
   have k:zb 3=1:=rfl
   match q,a with
   |0,a=>exact absurd a ao
   |1,_=>rfl
   |q+2,_=>omega
  have hf:=nE f 0;have e:R.find? (λx=>x.1==0)=dQ:=by
   cases e:R.find? (λx=>x.1==0) with
   |none=>rfl
   |some x=>rw[e]at hf;cases hf
  exact⟨dQ,0,0,Sx h.map e,⟨dQ,0,rfl,br⟩⟩
def V9(b:(∀j x,(Ln C q)[j]?=dO x->x.1∉tP C q->x.1=stA C q/\j=q)/\(stA C q = -1\/∃x,(Ln C q)[q]?=dO x/\x.1∉tP C q))(c:R.map strip=Ln C q){f:Bool}
 (hv:Y=fA fm (if f then stA C q else -1)) (hf:f=d8↔∃j x,R[j]?=dO x/\L.contains j=d8/\x.1∉tP C q) (al:∀j,j<R.length->L.contains j=d8):Y=fA fm (stA C q):=by
 rw[hv]
 rcases b.2 with h|⟨x,a,d⟩
 .cases f<;>simp[h]
 .have:f=d8:=by
   rw[<-c,eT]at a
   cases e:R[q]? with
   |none=>rw[e]at a;cases a
   |some y=>
    rw[e]at a;cases a;exact hf.2 ⟨q,y,e,al q (cQ.1 e).1,d⟩
  rw[this];rfl
def ab2(a:(∀j x,(Ln C q)[j]?=dO x->x.1∉tP C q->x.1=stA C q/\j=q)/\(stA C q = -1\/∃x,(Ln C q)[q]?=dO x/\x.1∉tP C q))(d:0<stA C q):stA C q∉tP C q:=by
 rcases a.2 with h|⟨x,c,b⟩
 .omega
 .rw[<-(a.1 q x c b).1];exact b
def jy.turned{a:ad}(h:jy J q R)(d:gv J a O)(hc:∃o,J.heap[O]?=dO o/\∀x t f,o≠ol x t f)(g:q≠O):jy a q R:=by
 obtain⟨o,i,j⟩:=hc;exact⟨(d.block _ g).t h.map,λx e=>jN (h.reads x e) (h.ne x e) d i j,h.ne⟩
def Lo(b:C=5\/C=3)(hi:q<=zb C)(a:0<stA C q):q+1<=zb C/\tP C q++[stA C q]=tP C (q+1)/\N0 (uN C 3) (tP C (q+1)) (stA C q) (Ln C q) 4=Ln C (q+1)/\okQ (uN C 3) (tP C (q+1)) (stA C q) (Ln C q)=d8/\stA C q<=3:=by
 rcases b with rfl|rfl
 .obtain rfl|rfl|rfl:q=0\/q=1\/q=2:=by have:zb 5=2:=rfl;omega
  .exact⟨ao,ao,by decide +kernel,by decide +kernel,ao⟩
  .exact⟨ao,ao,by decide +kernel,by decide +kernel,ao⟩
  .exact absurd a ao
 .obtain rfl|rfl:q=0\/q=1:=by have:zb 3=1:=rfl;omega
  .exact⟨ao,ao,by decide +kernel,by decide +kernel,ao⟩
  .exact absurd a ao
def ab3{d:List Int}{S:SW}(h:okQ M d C S=d8)(f:q<4):∃x,(N0 M d C S q).find? (λx=>x.1==C)=dO x/\x.2.1.length<=10/\0<=x.2.2/\x.2.2<=1000/\(V6 M C q=dU->XN C q∉d->(N0 M d C S q).find? (λx=>x.1==XN C q)=dQ):=by
 simp only[okQ,df,dv]at h;have h:=h q f
 cases e:(N0 M d C S q).find? (λx=>x.1==C) with
 |none=>rw[e]at h;cases h
 |some x=>
  rw[e]at h;simp only[dd,gD,decide_eq_true_eq,od]at h;obtain⟨⟨⟨g,i⟩,j⟩,b⟩:=h;refine⟨x,rfl,g,i,j,λk1 k2=>?_⟩
  rcases b with(b|b)|b
  .rw[k1]at b;cases b
  .exact absurd b k2
  .exact b
def Ft(W:ad)(r:Nat):Nat:=match W.heap[r]? with
 |some (o6 _ n seen _)=>Fs n seen
 |_=>0
def Fu{n:Nat}(h:tE J q O n L):Ft J q=Fs n L:=by
 have a:J.heap[q]?=dO (o6 (dO O) n L n):=h;simp only[Ft,a]
def tE.on{a:ad}{n:Nat}(h:tE J q O n L)(c:bL J a):tE a q O n L:=(c.k _ (kc h)).t h
def ab4(W:ad)(b:Nat):Nat:=match W.heap[b]? with
 |some (o1 es _)=>es.size
 |_=>0
def Fv(h:aU J zn q M):ab4 J q=M.length:=by
 obtain⟨es,c,a,d,_⟩:=h;have:=congrArg iP d;simp only[ab4,a];simpa using this
structure Wb(n0:Nat)(xp:List Int)(tq n:Int)(b:Bool)(j:Nat)(vs:Nat->ac)(W:ad):Prop where
 c4:j=4->b=dU->eO 3 W n0 (vs 4) xp
 c6:j=6->b=dU->∃k,vs 6=f6 (dO ⟨k,0,dQ⟩) 1 1/\W.heap[k]?=dO (ol #[fA fm tq] 3)
 c7:j=7->eO 3 W n0 (vs 7) (xp++[tq])
 c15:j=15->vs 15=fR #[vs 7,fA fm n]
 c16:j=16->∃k,vs 16=f9 (dO ⟨k,0,dQ⟩)/\n0<=k/\W.heap[k]?=dO (ol #[f6 dQ 0 0,fA fm 0] 116)
def zc(a b:ac)(W:ad):(c8 116 (fR #[a,b]) 0).run PL W=hG a W:=ae
def ze(a b:ac)(W:ad):(c8 116 (fR #[a,b]) 1).run PL W=hG b W:=ae
def A8{base size B o:Nat}{u:ac}{xs:List ac}(h:ek J base q size Y O xs)(c:∀j,Y.ownBlock=dO j->j≠B):ek (em J ⟨B,o,dQ⟩ u) base q size Y O xs:=by
 obtain⟨b,h⟩:=h
 rcases h with h|⟨g,cap,a,rfl,hb,hg,d⟩
 .exact⟨b,qu h⟩
 .refine⟨b,qx ⟨g,cap,a,rfl,hb,?_,d⟩⟩;have f:g≠B:=c g rfl;simp only[em,dq,if_neg (gr f)];exact hg
def Wc{x1 u0 u1:ac}{t:bv}(h:J.heap[q]?=dO (ol #[Y,x1] t)):(em (em J ⟨q,0,dQ⟩ u0) ⟨q,1,dQ⟩ u1).heap[q]?=dO (ol #[u0,u1] t):=by
 simp only[em,dq,if_pos,h,il];rfl
def SE(h:jy J q R)(k:Int):∃p n c l ok,(dc 117 (gp (dO q)) (fA fm k) d8).run PL J=hG (gc #[fR #[f6 p n c,fA fm l],f7 ok]) J/\(R.find? (λz=>z.1==k)=dQ->ok=dU):=by
 cases e:R.find? (λz=>z.1==k) with
 |none=>exact⟨dQ,0,0,0,dU,Sx h.map e,λ_=>rfl⟩
 |some x=>
  obtain⟨p,c,a,_⟩:=h.reads _ (j4 e);have:=Sw h.map e;simp only[nD,a]at this;exact⟨p,_,c,_,d8,this,bA⟩
def ExW(t:Nat):Bool:=t != 4&&t != 6&&t != 7&&t != 15&&t != 16
def Wb.le{n:Int}{b:Bool}{vs:Nat->ac}{i:ad}(h:Wb q M C n b O vs J)(c:bL J i):Wb q M C n b O vs i:=
 ⟨λe f=>(h.c4 e f).on c,λe f=>(h.c6 e f).i λ_ a=>⟨a.1,(c.k _ (kc a.2)).t a.2⟩,λe=>(h.c7 e).on c,h.c15,λe=>(h.c16 e).i λ_ a=>⟨a.1,a.2.1,(c.k _ (kc a.2.2)).t a.2.2⟩⟩
def Ba{c2 k3 c3 k4 c4 k5 c5 la ca lb cb:Nat}(C:CD)(m:Int)(hm:m=5\/m=3)(c:C=ir q c2 k3 c3 k4 c4 k5 c5 la ca lb cb 0)(w:ad)(h:C.At w) :
 bj PL 26 #[fR C.val,fA fm 2,fA fm m] w λe w'=>∃v,e=qr (gc #[v,fA fm (A6 m),f7 (SC m),fA fm 0])/\bB w' v (XO m)/\bL w w':=by
 have HA:=j5 h;have HC:=j5 c;have HM:=j5 hm;have hf:C.b6 d8=0:=by rw[c];kernel_rfl
 have HF:=j5 hf;have hb:bO 2 0 (C.p-1)=d8:=by rw[c];rfl
 have HB:=j5 hb
 have eP:bO m 0 999=d8:=by rcases hm with rfl|rfl<;>decide
 have Kf:=j5 eP;have HT:Hid (∀W,C.At W->bj PL 61 #[fR C.val] W λe w'=>∃k,e=qr (f9 (dO ⟨k,0,dQ⟩))/\Row w' k (je.map bh)/\bL W w'):=j5 λW hW=>tA (qu rfl) ⟨q,c2,k3,c3,k4,c4,k5,c5,la,ca,lb,cb,c⟩ hW;have HP:Hid (-1000<=C.p/\C.p<=1000):=j5 (by rw[c];exact⟨by show(-1000:Int)<=4;decide,by show(4:Int)<=1000;decide⟩);have K0:Hid (KB C w (eb w (ol C.val 27))):=j5 ⟨au _ _,(j6 _ _).a (dk _) _⟩;clear h c hf hb eP hm;go_enter (fx ao Tryz.func26),Tryz.ntmps26
 go_upto_region 1 with fail
 have HW:Hid (eN fm (C.p-1)=C.p-1):=j5 (by obtain⟨J0,tL⟩:=HP.o;rw[HC.o];rfl);apply wp_scope_straight;apply wp_seq_k;intro _ _;refine cT 12 (KB C w) (Fo C) (λj=>j != 10&&j != 11) (arM C w) rfl ae ae
  (λi vs W W' hle h=>⟨λe=>(h.1 e).i λk l=>⟨l.1,l.2.1,(hle k).2 l.2.2⟩,λe=>(h.2 e).i λk l=>⟨l.1,l.2.1,(hle k).1 l.2.2⟩⟩) (λi o ho vs eX W he hd h=>⟨λe=>?_,λe=>?_⟩) ?_ ?_
 .subst e;rw[<-he];exact h.1 rfl
 .subst e;have e8:vs 10=eX 10:=by
   simp only[gw,fP,ft,kj]at ho;subst ho;exact hd ⟨10,qN⟩ (cH.2 ⟨ar,rfl⟩)
  rw[<-e8];exact h.2 rfl
 .exact⟨K0.o.box,K0.o.low.d⟩
 .iterate 10 (
   apply aY
   case hE=>rfl
   case h=>
    intro vs W c hd;obtain⟨f0,f1,f2,f3,f4,f5⟩:=bf c.box;have hwr:=HW.o;go_simp
    first
    |(go_at_call 52;refine(rM HB.o _).m ?_;rintro e W'⟨rfl,rfl⟩;exact⟨_,rfl,rfl,c,Fo.on (j6 _ _)⟩)
    |(go_at_call 31;refine(kF HF.o (HA.o.below c.low)).m ?_;rintro e W'⟨rfl,I⟩;exact⟨_,rfl,rfl,c.on I,Fo.on I⟩)
    |exact⟨rfl,Fo.on (j6 _ _)⟩
   case hb=>exact E0)
  apply eH
  case hE=>rfl
  case hb=>exact E0
  case h=>
   intro vs W c hd;go_simp;have I:=(j6 W.heap.size W).a (dk _) (ol #[fA fm 0,fA fm 0,f6 dQ 0 0,f6 dQ 0 0,f6 dQ 0 0,f6 dQ 0 0] 78);exact⟨c.on I,Fo.on I,⟨λ_=>⟨W.heap.size,by simp[upd],c.lt,_,_,_,_,_,_,au W _⟩,br⟩⟩
  apply eH
  case hE=>rfl
  case hb=>exact E0
  case h=>
   intro vs W c hd;obtain⟨k,l,Ll,x0,x1,x2,x3,x4,x5,J⟩:=(hd ⟨10,qN⟩ (cH.2 ⟨ar,rfl⟩) rfl).1 rfl;obtain⟨f0,f1,f2,f3,f4,f5⟩:=bf J;have fz:=tO J;rw[l];go_simp;refine⟨⟨(cM ab).t c.box,nV c.low ab _ _ _ _ _ _⟩,λk2=>?_,⟨br,λ_=>⟨k,by simp[upd,l],Ll,nC J⟩⟩⟩;by_cases hq:k2=k
   .subst hq;exact⟨λ_=>nC J,λ_=>⟨_,_,_,_,_,_,nC J⟩⟩
   .exact⟨λe=>(cM hq).t e,fun⟨_,_,_,_,_,_,e⟩=>⟨_,_,_,_,_,_,(cM hq).t e⟩⟩
  refine cP λvs W c hd=>?_;obtain⟨kx,l,Ll,J⟩:=(hd 11 ab rfl).2 rfl;rw[l];obtain⟨f0,f1,f2,f3,f4,f5⟩:=bf J;have HX:=j5 J;have HC1:=j5 c;have HKL:=j5 Ll;clear J c hd l Ll;have hmm:=@run_makeMap PL
  go_upto_region 8 with(first
   |(go_at_call 60;refine(yO Kf.o _).m ?_;rintro e w'⟨rfl,rfl⟩)
   |(go_at_call 61;go_must (refine(HT.o _ (HA.o.below HC1.o.low)).m ?_);rintro e w1⟨P,rfl,hR,aL⟩;have K1:Hid (KQ C w kx P w1):=j5 ⟨(HC1.o.on aL).box,(aL.k _ (kc HX.o)).t HX.o,hR,(HC1.o.on aL).low⟩;clear hR aL))
  obtain⟨N,hbM⟩:=bs w1.heap.size;obtain⟨W0,kS⟩:=bs (eb w1 (o1 #[] 0));have K2:Hid (KQ C w kx P W0):=j5 (by rw[kS];exact K1.o.on ((j6 _ _).a (dk _) _));have S2:Hid (aU W0 zn N ([]:List Int)):=j5 (by rw[kS,hbM];exact aU.made w1);have ZM:Hid (w.heap.size<=N):=j5 (by rw[hbM];exact K1.o.low.z);rw[<-kS,<-hbM];clear kS hbM f0 f1 f2 f3 f4 f5;obtain⟨f0,f1,f2,f3,f4,f5⟩:=bf K2.o.box;have IB:Hid (C.b3=dO ⟨C.k3,C.o3,dQ⟩):=j5 (HA.o.s3 (by rw[HC.o];show 0<4;decide));have H3:Hid (C.n3=4):=j5 (by rw[HC.o];rfl);have HX3:Hid (C.x3=zU):=j5 (by rw[HC.o];rfl);have H4:Hid (C.n4=3):=j5 (by rw[HC.o];rfl);have H5:Hid (C.n5=2):=j5 (by rw[HC.o];rfl);have hb4:C.b4=dO ⟨C.k4,C.o4,dQ⟩:=HA.o.s4 (by rw[H4.o];decide);have LN:Hid (∀p,p<2->(C.x4 p).ln=1/\(C.x4 p).lane 0=(p:Int)+1):=j5 λp hp=>by
   rw[HC.o]
   match p,hp with
   |0,_=>exact⟨rfl,rfl⟩
   |1,_=>exact⟨rfl,rfl⟩
  have SH:Hid (yZ m 2=2):=j5 (by rcases HM.o with rfl|rfl<;>rfl);go_wp2
  go_loopw [51] (λv51 wr=>∃p:Nat,p<=3/\v51=fA fm p/\aU wr zn N (uN m p)/\KQ C w kx P wr) (λv51 _=>3-(intOf v51).toNat)
  case atStart=>exact⟨0,ab,rfl,S2.o,K2.o⟩
  case round=>
   obtain⟨p,hp,rfl,g,O⟩:=hrel;clear hb4;have HS:=j5 g;have HK:=j5 O;clear g O f0 f1 f2 f3 f4 f5 K2 S2;by_cases Q:p<3
   .have i1:(p:Int)<C.n4:=by rw[H4.o];omega
    have hA:=HA.o.below HK.o.low;have s:p<C.n4:=by rw[H4.o];exact Q
    have p0:=hA.AD p s;have p1:=hA.dB p s 1 ab ab;have p2:=hA.dB p s 2 ab ab;have p3:=hA.dB p s 3 ab ab;have p4:=hA.dB p s 4 ab ab;have p5:=hA.dB p s 5 ab ab;have p6:=hA.dB p s 6 ab ab;have p7:=hA.dB p s 7 ab ab;have p8:=hA.dB p s 8 ab ab;have p9:=hA.dB p s 9 ab ab;have Cz:=hA.dB p s 10 ab ab;have Fy:=hA.nj p s;clear hA s;obtain⟨xb,hxb⟩:=bs ((C.x4 p).lb);obtain⟨xn,hxn⟩:=bs ((C.x4 p).ln);obtain⟨xc,hxc⟩:=bs ((C.x4 p).lc);rw[<-hxb,<-hxn,<-hxc]at Fy;have HXB:=j5 hxb;have HXN:=j5 hxn;clear hxb hxn hxc
    go_upto_region 11 with fail
    obtain⟨W1,mG⟩:=bs (eb wr (ol #[f8 (C.x4 p).name,fA fm ((C.x4 p).n 1),fA fm ((C.x4 p).n 2),fA fm ((C.x4 p).n 3),fA fm ((C.x4 p).n 4),fA fm ((C.x4 p).n 5),fA fm ((C.x4 p).n 6),fA fm ((C.x4 p).n 7),fA fm ((C.x4 p).n 8),fA fm ((C.x4 p).n 9),fA fm ((C.x4 p).n 10),f6 xb xn xc] 49));rw[<-mG];have iC:bL wr W1:=by rw[mG];exact(j6 _ _).a (dk _) _
    have hpk:d9 W1 ⟨wr.heap.size,11,dQ⟩=dO (f6 xb xn xc):=by
     have h:=au wr (ol #[f8 (C.x4 p).name,fA fm ((C.x4 p).n 1),fA fm ((C.x4 p).n 2),fA fm ((C.x4 p).n 3),fA fm ((C.x4 p).n 4),fA fm ((C.x4 p).n 5),fA fm ((C.x4 p).n 6),fA fm ((C.x4 p).n 7),fA fm ((C.x4 p).n 8),fA fm ((C.x4 p).n 9),fA fm ((C.x4 p).n 10),f6 xb xn xc] 49);rw[mG];simp only[d9,h];rfl
    have Wf:wr.heap.size<W1.heap.size:=by rw[mG];simp
    have HPK:=j5 (n6 hpk Wf);have K3:=j5 (HK.o.on iC);have S3:=j5 (aG iC HS.o);clear mG iC hpk Wf p0 p1 p2 p3 p4 p5 p6 p7 p8 p9 Cz Fy;obtain⟨f0,f1,f2,f3,f4,f5⟩:=bf K3.o.bx;by_cases hs:yZ m p=2
    .go_wp2_with (go_at_call 62;go_must (refine(Sz C P p m _ K3.o.row H5.o ab).m ?_);rintro e w3⟨rfl,qi⟩;have K4:=j5 (K3.o.on qi);have S4:=j5 (aG qi S3.o);clear qi)
     exact⟨⟨p+1,Q,by go_num,by rw[IL hs];exact S4.o,K4.o⟩,by simp only[intOf];omega⟩
    .have d:p<2:=by
      rcases kd p 2 with h|h
      .exact h
      .exact absurd (by rw[show p=2 by omega];exact SH.o) hs
     have zi:xn=1:=by rw[HXN.o];exact(LN.o p d).1
     subst zi
     go_upto_region 12 with(go_at_call 62;go_must (refine(Sz C P p m _ K3.o.row H5.o ab).m ?_);rintro e w3⟨rfl,qi⟩;have K4:=j5 (K3.o.on qi);have S4:=j5 (aG qi S3.o);have am6:=j5 ((qi.c (p:=⟨wr.heap.size,11,dQ⟩) HPK.o.2).t HPK.o.1);clear qi)
     have hA:=HA.o.below K4.o.low;have s:p<C.n4:=by rw[H4.o];exact Q
     obtain⟨el,ell⟩:=hA.l4 p s (by rw[<-HXN.o];decide);have ec:=hA.J5 p s 0 (by rw[<-HXN.o];decide);rw[(LN.o p d).2,eQ]at ec;obtain⟨lk,FH⟩:=bs ((C.x4 p).lk);obtain⟨lo,Cu⟩:=bs ((C.x4 p).lo);rw[<-FH,<-Cu]at ec;rw[<-FH]at ell;rw[<-HXB.o,<-FH,<-Cu]at el;subst el;have EC:=j5 ec;have ELL:=j5 ell;have atU:=am6.o;clear hA s ec ell FH Cu;go_wp2
     go_loopw [65] (λv65 K=>∃k2:Nat,k2<=1/\v65=fA fm k2/\aU K zn N (if k2=0 then uN m p else uN m p++[(p:Int)+1])/\KQ C w kx P K/\(k2=0->d9 K ⟨lk,lo,dQ⟩=dO (fA fm ((p:Int)+1)))) (λv65 _=>1-(intOf v65).toNat)
     case atStart=>exact⟨0,ab,rfl,S4.o,K4.o,λ_=>EC.o⟩
     case round=>
      obtain⟨k2,hq,rfl,g,O,hc⟩:=hrel;have S5:=j5 g;have K5:=j5 O;clear g O
      match k2,hq with
      |1,_=>
       clear hc;go_wp2;exact⟨⟨p+1,Q,by go_num,by rw[IM hs];exact S5.o,K5.o⟩,by simp only[intOf];omega⟩
      |0,_=>
       have ec:=hc rfl;clear hc
       go_wp2_with (at_mapUpdate;go_must (refine dH (enc:=zn) _ rfl _ _ _ 114 3 4 rfl qz ju N (uN m p) rfl S5.o ((p:Int)+1) rfl rfl V7 ?_);intro w5 g y;have S6:=j5 g;have K6:=j5 (by obtain⟨es,cl,hh,_⟩:=S5.o;exact K5.o.turned y hh (λ_ _ _ e=>by cases e) ZM.o:KQ C w kx P w5);clear g y;go_frame)
       exact⟨⟨1,ab,rfl,S6.o,K6.o,br⟩,by simp[intOf]⟩
   .have hp3:p=3:=ab;subst hp3;have i1:¬((3:Int)<C.n4):=by rw[H4.o];decide
    clear Q;have ag8:=aU.lt HS.o;have HSZ:=j5 ag8;have hBa:=((j6 wr.heap.size wr).a (dk _) (o1 #[] 0)).a ar (ol #[fA fm 2] 3);have M0:Hid (jy (eb (eb wr (o1 #[] 0)) (ol #[fA fm 2] 3)) wr.heap.size []):=j5 ((jy.made wr).on ((j6 _ _).a (dk _) _))
    have R0:Hid (bB (eb (eb wr (o1 #[] 0)) (ol #[fA fm 2] 3)) (f6 (dO ⟨wr.heap.size+1,0,dQ⟩) 1 1) [2]):=j5 ⟨_,_,rfl,λ_=>⟨_,_,rfl,ar,λj H=>by
     obtain rfl:j=0:=by simp at H;omega
     have h:=au (eb wr (o1 #[] 0)) (ol #[fA fm 2] 3);rw[ep]at h;show d9 _ ⟨wr.heap.size+1,0+0,dQ⟩=dO (fA fm 2);simp only[d9,h]
     rfl⟩⟩
    have KA:=j5 (HK.o.on hBa);have SA:=j5 (aG hBa HS.o);clear hBa ag8
    go_upto_region 20 with(refine tF _ rfl _ _ _ (qx rfl) wr.heap.size [] (2,f6 (dO ⟨wr.heap.size+1,0,dQ⟩) 1 1,[2],0) rfl rfl rfl M0.o rfl R0.o ar ?_;intro w5 hM y;have MB:=j5 hM;have KB5:=j5 (KA.o.turned y M0.o.map (λ_ _ _ e=>by cases e) HK.o.low.z);have SB:=j5 (qq SA.o (y.block _ (by have:=HSZ.o;omega)));clear hM y)
    obtain⟨S,hbR⟩:=bs wr.heap.size;obtain⟨T,hbL⟩:=bs w5.heap.size;have ZR:Hid (N<S/\S<T):=j5 (by have:=HSZ.o;have:=kc MB.o.map;rw[hbR,hbL];omega);obtain⟨W3,hW3⟩:=bs (eb w5 (o1 #[] 0));have hBb:bL w5 W3:=by rw[hW3];exact(j6 _ _).a (dk _) _
    have K6:=j5 (KB5.o.on hBb);have S6:=j5 (aG hBb SB.o);have M6:Hid (jy W3 S ([]++[(2,f6 (dO ⟨S+1,0,dQ⟩) 1 1,[2],0)])):=j5 (by rw[hbR];exact MB.o.on hBb);have L6:Hid (aU W3 zn T ([]:List Int)):=j5 (by rw[hbL,hW3];exact aU.made w5);rw[<-hbR,<-hbL,<-hW3];clear hbR hbL hW3 hBb MB SB KB5 M0 R0 KA SA HK HS HSZ;have FJ:=IB.o;simp only[FJ];refine wp_label ?_;go_wp2
    go_loopw [19] (λ_ wr=>∃(i:Nat)(R:List WE),i<=zb m/\R.map strip=Ln m i/\jy wr S R/\aU wr zn T (tP m i)/\aU wr zn N (uN m 3)/\KQ C w kx P wr) (λ_ wr=>4-ab4 wr T)
    case atStart=>exact⟨0,_,eF _,rfl,M6.o,L6.o,S6.o,K6.o⟩
    case round=>
     obtain⟨i,R,hi,hR,XP,hL,g,O⟩:=hrel;have Xn:=j5 hR;have MM:=j5 XP;have LL:=j5 hL;have SS:=j5 g;have KK:=j5 O;have CO:=j5 (V8 HM.o hi);have HI:=j5 hi;clear hR XP hL g O hi K6 S6 M6 L6;have hrg:=V4 MM.o
     go_upto_region 22 with fail
     obtain⟨r,hr⟩:=bs wr.heap.size;obtain⟨W4,Sn⟩:=bs (eb wr (o6 (dO S) R.length #[] R.length));have Ts:bL wr W4:=by rw[Sn];exact(j6 _ _).a (dk _) _
     have I4:Hid (tE W4 r S R.length #[]):=j5 (by rw[Sn,hr];exact au _ _);have M4:=j5 (MM.o.on Ts);have L4:=j5 (aG Ts LL.o);have S4:=j5 (aG Ts SS.o);have K4:=j5 (KK.o.on Ts);have ZI:Hid (S<r/\T<r/\N<r/\w.heap.size<=r):=j5 (by have h1:=kc MM.o.map;have d:=aU.lt LL.o;have h3:=aU.lt SS.o;have s:=KK.o.low.z;rw[hr];exact⟨h1,d,h3,s⟩);rw[<-Sn,<-hr];clear Sn hr Ts hrg MM SS KK
     go_loopw [19] (λv19 K=>∃(seen:Array Nat)(f:Bool),tE K r S R.length seen/\jy K S R/\aU K zn T (tP m i)/\aU K zn N (uN m 3)/\KQ C w kx P K/\v19=fA fm (if f then stA m i else -1)/\(f=d8↔∃j x,R[j]?=dO x/\seen.contains j=d8/\x.1∉tP m i)) (λ_ K=>Ft K r)
     case atStart=>exact⟨#[],dU,I4.o,M4.o,L4.o,S4.o,K4.o,rfl,⟨λh=>(by cases h),fun⟨_,_,_,h,_⟩=>by simp at h⟩⟩
     case round=>
      obtain⟨seen,f,hI,XP,hL,g,O,hv,hf⟩:=hrel;have I5:=j5 hI;have M5:=j5 XP;have L5:=j5 hL;have S5:=j5 g;have K5:=j5 O;have F5:=j5 hf;have V5:=j5 hv;clear hI XP hL g O hf hv I4 M4 L4 S4 K4
      go_upto_region 23 with(first|(at_mapUpdate;go_must (refine dH (enc:=zn) _ rfl _ _ _ 114 3 4 rfl qz ju T (tP m i) rfl L5.o (stA m i) rfl rfl (ab2 CO.o ha) ?_);intro w6 g y;go_must (have LP:=j5 g;have MP:=j5 (M5.o.turned y (by obtain⟨es,cl,hh,_⟩:=L5.o;exact⟨_,hh,λ_ _ _ e=>by cases e⟩) (by have:=ZR.o;omega));have SP:=j5 (qq S5.o (y.block _ (by have:=ZR.o;omega)));have KP:Hid (KQ C w kx P w6):=j5 (by obtain⟨es,cl,hh,_⟩:=L5.o;exact K5.o.turned y hh (λ_ _ _ e=>by cases e) (by have:=ZM.o;have:=ZR.o;omega)));clear g y;obtain⟨f0,f1,f2,f3,f4,f5⟩:=bf KP.o.box)|(at_next;go_must (refine zX _ rfl _ rfl r S R seen rfl I5.o M5.o ?_ ?_);rotate_left;intro j x w' H hs hI y OL hen;obtain⟨xk,xv,L,xl⟩:=x;have JJ:=j5 H;have NS:=j5 hs;have I6:=j5 hI;have T6:=j5 y;have M6:=j5 OL;have hk6:=kc hI;obtain⟨yb,yc,hxv,hyy⟩:=OL.reads _ (qe H);clear hyy;simp only at hxv;subst hxv;clear H hs hI y OL;simp only[nD]at hen ⊢;rotate_left;intro oh;go_must (have hu:=V9 CO.o Xn.o V5.o F5.o oh);clear oh;go_must (subst hu);rcases Int.lt_or_le 0 (stA m i) with ha|ha;rotate_left;go_must (obtain⟨fp,fn,fc,FH,hrd⟩:=SD HM.o HI.o ha Xn.o M5.o);have RD:=j5 hrd;clear hrd))
      .obtain⟨W7,hW7⟩:=bs (eb wr (ol #[f6 fp fn fc,fA fm (A6 m)] 116));have hB7:bL wr W7:=by rw[hW7];exact(j6 _ _).a (dk _) _
       have hc7:W7.heap[wr.heap.size]?=dO (ol #[f6 fp fn fc,fA fm (A6 m)] 116):=by rw[hW7];exact au _ _
       have c0:d9 W7 ⟨wr.heap.size,0,dQ⟩=dO (f6 fp fn fc):=by simp[d9,hc7]
       have c1:d9 W7 ⟨wr.heap.size,1,dQ⟩=dO (fA fm (A6 m)):=by simp[d9,hc7]
       have RD7:=j5 (RD.o.on hB7);have LO7:=j5 (nt K5.o.low hB7);rw[<-hW7];clear hW7 hB7 hc7 FH
       go_quiet (fail)
       go_wp2;rw[Exit.noGoto_ret];refine bm (v:=gc #[f6 fp fn fc,fA fm (A6 m),f7 (SC m),fA fm 0]) ?_ rfl ⟨_,rfl,RD7.o.on (below_drewN (j6 _ _) _),below_drewN LO7.o _⟩;simp[bq,Tryz.results26,go_sem]
      .go_upto_region 24 with fail
       have L6:aU w' zn T (tP m i):=qq L5.o (T6.o.block _ (by have:=ZI.o;omega));have S6:aU w' zn N (uN m 3):=qq S5.o (T6.o.block _ (by have:=ZI.o;omega));have K6:KQ C w kx P w':=K5.o.turned T6.o I5.o (λ_ _ _ e=>by cases e) ZI.o.2.2.2;obtain⟨W8,hW8⟩:=bs (eb w' (ol #[f6 yb L.length yc,fA fm xl] 116));have U:bL w' W8:=by rw[hW8];exact(j6 _ _).a (dk _) _
       have L8:=j5 (aG U L6);have S8:=j5 (aG U S6);have K8:=j5 (K6.on U);have M8:=j5 (M6.o.on U);have I8:=j5 (I6.o.on U);rw[<-hW8];clear hW8 U L6 S6 K6 hen;have V:=uO Xn.o JJ.o;have XQ:Ft W8 r<Ft wr r:=by
        rw[Fu I8.o,Fu I5.o];exact IK (cQ.1 JJ.o).1 NS.o
       have HME:=j5 XQ;clear XQ;by_cases J:xk∈tP m i
       .clear V
        go_wp2_with (at_lookup;go_must (refine aR (enc:=zn) _ rfl _ _ 114 3 4 rfl qz ju (mq _) T (tP m i) rfl L8.o xk rfl d8 (by simpa using J) ?_))
        refine⟨⟨seen.push j,f,I8.o,M8.o,L8.o,S8.o,K8.o,V5.o,F5.o.trans ⟨fun⟨a,x,h1,d,h3⟩=>⟨a,x,h1,by simp at d⊢;exact qu d,h3⟩,fun⟨a,x,h1,d,h3⟩=>⟨a,x,h1,?_,h3⟩⟩⟩,HME.o⟩
        rcases Array.mem_push.1 (by simpa using d) with h|h
        .simpa using h
        .subst h;rw[JJ.o]at h1;cases h1;exact absurd J h3
       .have hat:xk=stA m i:=(CO.o.1 j _ V J).1;have LQ:j=i:=(CO.o.1 j _ V J).2;have hf0:f=dU:=by
         cases f with
         |false=>rfl
         |true=>
          obtain⟨a,x,h1,d,h3⟩:=F5.o.1 rfl;have e:=(CO.o.1 a _ (uO Xn.o h1) h3).2;rw[e,<-LQ]at d;rw[NS.o]at d;cases d
        have hu:u19=fA fm (-1):=by rw[V5.o,hf0];rfl
        subst hu;clear V hf0 hat;have HX:=j5 J
        go_wp2_with (at_lookup;go_must (refine aR (enc:=zn) _ rfl _ _ 114 3 4 rfl qz ju (mq _) T (tP m i) rfl L8.o xk rfl dU (by simpa using J) ?_))
        have hat:xk=stA m i:=(CO.o.1 j _ (uO Xn.o JJ.o) HX.o).1;exact⟨⟨seen.push j,d8,I8.o,M8.o,L8.o,S8.o,K8.o,by rw[hat];rfl,⟨λ_=>⟨j,_,JJ.o,ar,HX.o⟩,λ_=>rfl⟩⟩,HME.o⟩
      .obtain⟨ni,nl,nq,nk,na⟩:=Lo HM.o HI.o ha;rw[nl]at LP;have NQ:=j5 nq;have NK:=j5 nk;have NI:=j5 ni;clear nl nq nk ni;obtain⟨E,ab6⟩:=bs (stA m i);rw[<-ab6]at ha na NQ NK ⊢;have HAT:=j5 ab6;clear ab6 f0 f1 f2 f3 f4 f5
       go_loopw [110] (λab7 K=>∃(k2:Nat)(R':List WE),k2<=4/\ab7=fA fm k2/\R'.map strip=N0 (uN m 3) (tP m (i+1)) E (Ln m i) k2/\jy K S R'/\aU K zn T (tP m (i+1))/\aU K zn N (uN m 3)/\KQ C w kx P K) (λab7 _=>4-(intOf ab7).toNat)
       case atStart=>exact⟨0,R,ab,rfl,Xn.o,MP.o,LP.o,SP.o,KP.o⟩
       case round=>
        obtain⟨k2,R',hq,rfl,hR,XP,hL,g,O⟩:=hrel;have X:=j5 hR;have M7:=j5 XP;have L7:=j5 hL;have S7:=j5 g;have K7:=j5 O;clear hR XP hL g O MP LP SP KP
        rcases kd k2 4 with Q|ve
        case inr=>
         obtain rfl:k2=4:=ab;have j1:¬((4:Int)<C.n3):=by rw[H3.o];decide
         go_wp2;refine⟨?_,?_⟩
         .exact⟨i+1,R',NI.o,X.o.t NQ.o,M7.o,L7.o,S7.o,K7.o⟩
         .rw[Fv L7.o,Fv LL.o,<-(Lo HM.o HI.o (HAT.o▸ha)).2.1];have h5:(tP m i).length<=2:=by unfold tP;split;exact eF _;split;exact ao;exact ao
          simp;omega
        have j1:((k2:Int)<C.n3):=by rw[H3.o];omega
        have hq3:k2<C.n3:=by rw[H3.o];exact Q
        have hA:=HA.o.below K7.o.low;have g0:=hA.Es k2 hq3;have g1:=hA.Et k2 hq3;have g2:=hA.Eu k2 hq3;rw[HX3.o]at g0 g1 g2;obtain⟨A,hAe⟩:=bs ((zU k2).1);obtain⟨B,hBe⟩:=bs ((zU k2).2.1);obtain⟨G,hGe⟩:=bs ((zU k2).2.2);rw[<-hAe]at g0;rw[<-hBe]at g1;rw[<-hGe]at g2;have bd:0<=A/\A<=3/\0<=B/\B<=3/\0<=G/\G<=80:=by
         rw[hAe,hBe,hGe]
         match k2,Q with
         |0,_=>decide
         |1,_=>decide
         |2,_=>decide
         |3,_=>decide
        obtain⟨bA0,bA1,bB0,bB1,bG0,bG1⟩:=bd;have EA:=j5 hAe;have EB:=j5 hBe;have EG:=j5 hGe;clear hAe hBe hGe hA hq3
        go_upto_region 31 with fail
        obtain⟨M,hW9⟩:=bs (eb wr (ol #[fA fm A,fA fm B,fA fm G] 93));have hB9:bL wr M:=by rw[hW9];exact(j6 _ _).a (dk _) _
        have P9:Hid (M.heap[wr.heap.size]?=dO (ol #[fA fm A,fA fm B,fA fm G] 93)):=j5 (by rw[hW9];exact au _ _);have M9:=j5 (M7.o.on hB9);have L9:=j5 (aG hB9 L7.o);have S9:=j5 (aG hB9 S7.o);have K9:=j5 (K7.o.on hB9);rw[<-hW9];clear hW9 hB9 g0 g1 g2 M7 L7 S7 K7;have h0:d9 M ⟨wr.heap.size,0,dQ⟩=dO (fA fm A):=by have h:=P9.o;simp[d9,h]
        have h1:d9 M ⟨wr.heap.size,1,dQ⟩=dO (fA fm B):=by have h:=P9.o;simp[d9,h]
        have d:d9 M ⟨wr.heap.size,2,dQ⟩=dO (fA fm G):=by have h:=P9.o;simp[d9,h]
        have Wf:=kc P9.o;have skip:V6 (uN m 3) E k2=d8->R'.map strip=N0 (uN m 3) (tP m (i+1)) E (Ln m i) (k2+1):=λe=>by rw[X.o,N0,stepW,if_pos e]
        have SK:=j5 skip;clear skip;by_cases sB:(k2:Int)∈uN m 3
        .go_wp2_with (at_lookup;go_must (refine aR (enc:=zn) _ rfl _ _ 114 3 4 rfl qz ju (mq _) N (uN m 3) rfl S9.o (k2:Int) rfl d8 (by simpa using sB) ?_))
         exact⟨⟨k2+1,R',Q,by go_num,SK.o (by simp[V6,sB]),M9.o,L9.o,S9.o,K9.o⟩,by simp only[intOf];omega⟩
        have HCL:=j5 sB;clear sB;by_cases hs:A≠E/\B≠E
        .obtain⟨s1,s2⟩:=hs;have HS:=j5 (n6 s1 s2);have e1:(A != E)=d8:=by simpa using s1
         have e2:(B != E)=d8:=by simpa using s2
         clear s1 s2
         go_wp2_with (at_lookup;go_must (refine aR (enc:=zn) _ rfl _ _ 114 3 4 rfl qz ju (mq _) N (uN m 3) rfl S9.o (k2:Int) rfl dU (by simpa using HCL.o) ?_))
         exact⟨⟨k2+1,R',Q,by go_num,SK.o (by have h:=HS.o;rw[EA.o,EB.o]at h;simp[V6,h]),M9.o,L9.o,S9.o,K9.o⟩,by simp only[intOf];omega⟩
        have NS:=j5 hs
        have NSK:Hid (V6 (uN m 3) E k2=dU):=j5 (by
         have h:=NS.o;rw[EA.o,EB.o]at h;have d:=HCL.o
         cases e:V6 (uN m 3) E k2 with
         |false=>rfl
         |true=>
          simp only[V6,gD,dd,decide_eq_true_eq]at e
          rcases e with e|e
          .exact absurd e d
          .exact absurd e h)
        have E12:((A != E)=dU)\/((A != E)=d8/\(B != E)=dU):=by
         by_cases h:A=E
         .exact qu (by simpa using h)
         .exact qx ⟨by simpa using h,by have:B=E:=jl λd=>hs ⟨h,d⟩;simpa using this⟩
        clear hs
        rcases E12 with e1|⟨e1,e2⟩
        all_goals go_upto_region 33 with(at_lookup;go_must (refine aR (enc:=zn) _ rfl _ _ 114 3 4 rfl qz ju (mq _) N (uN m 3) rfl S9.o (k2:Int) rfl dU (by simpa using HCL.o) ?_))
        all_goals (
         obtain⟨sx,ox1,ox2,ox3,ox4,ox5⟩:=ab3 NK.o Q;have Y:=nE X.o E;rw[ox1]at Y;obtain⟨x,hxf,V⟩:∃x,R'.find? (λx=>x.1==E)=dO x/\sx=strip x:=by
          cases e:R'.find? (λx=>x.1==E) with
          |none=>rw[e]at Y;cases Y
          |some x=>rw[e]at Y;cases Y;exact⟨x,rfl,rfl⟩
         subst V;obtain⟨xk,xv,L,xl⟩:=x;simp only[strip]at ox2 ox3 ox4;have hrx:=M9.o.reads _ (j4 hxf);have qH:=M9.o.ne _ (j4 hxf);simp only at hrx qH;have HRX:=j5 hrx;obtain⟨pb,pc,rfl,hyy⟩:=hrx;obtain⟨kp,op,rfl,Tt,hcp⟩:=hyy (by cases L with|nil=>exact absurd rfl qH|cons _ _=>simp);have HCP:=j5 hcp;have HXF:=j5 hxf;have OX1:=j5 ox1;have OX5:=j5 ox5;have OX2:=j5 ox2;have HKP:=j5 Tt;clear hyy hcp hxf ox1 ox5 Y qH ox2 Tt;obtain⟨F,hto⟩:=bs (A+B-E);have HTO:Hid (F=XN E k2):=j5 (by rw[hto,EA.o,EB.o];rfl);rw[<-hto];clear hto;refine iL 17 7 (λ_ W=>bL M W) (λW W'=>bL W W') ExW (Wb M.heap.size L F (xl+G)) (λ_ _ _ _=>True) (λ_ _ _ _ _=>trivial) rfl ae ae rfl
          (λb i vs W W' hle h=>h.le hle) (λi o ho vs eX W he aaZ b h=>⟨λe=>by subst e;rw[<-he];exact h.c4 rfl,λe=>by subst e;rw[<-he];exact h.c6 rfl,λe=>by subst e;rw[<-he];exact h.c7 rfl,λe=>?_,λe=>by subst e;rw[<-he];exact h.c16 rfl⟩) (j6 _ _).d ?_
         .subst e;have e7:vs 7=eX 7:=by
           simp only[gw,fP,ft,kj]at ho;subst ho;exact aaZ ⟨7,qN⟩ (cH.2 ⟨ar,rfl⟩)
          rw[<-he,<-e7];exact h.c15 rfl
         have HWR:Hid (eN fm (xl+G)=xl+G):=j5 (pu _ ab)
         iterate 4 (
          apply iK
          case hE=>rfl
          case h=>
           intro vs W b c hd;have hl:=IJ ((c.k _ (kc M9.o.map)).t M9.o.map) HXF.o;have q0:=zc;have q1:=ze;have g2:=(c.c (p:=⟨wr.heap.size,2,dQ⟩) Wf).t d;have hw:=HWR.o;simp only[nD]at hl;go_simp;exact⟨rfl,j6 _ _⟩
          case hb=>exact E0)
         apply ey
         case hE=>rfl
         case hb=>exact E0
         case h=>
          intro vs W D b hb c jw hi _ hd hP;go_simp;refine(tC kp op L.length pc (L.map λz=>fA fm z) _ ar (λj u e=>?_) (by simp[fB]) (by have:=OX2.o;omega) (bT HKP.o c.z)).m ?_
          .obtain⟨z,hz,rfl⟩:∃z,L[j]?=dO z/\u=fA fm z:=by
            rw[eT]at e
            cases h:L[j]? with
            |none=>rw[h]at e;cases e
            |some z=>rw[h]at e;cases e;exact⟨z,rfl,rfl⟩
           have H:=(cQ.1 hz).1;rw[c.c (p:=⟨kp,op+j,dQ⟩) HKP.o,HCP.o j ab];simp[et,hz]
          .rintro e W'⟨v,rfl,_,hO,I⟩;exact⟨v,rfl,nt c I,λj H hE=>(hd j H hE).le I,⟨λ_ _=>by simp only[upd,if_pos];exact dJ hO c.z,br,br,br,br⟩⟩
         iterate 1 (
          apply iK
          case hE=>rfl
          case h=>
           intro vs W b c hd;have hl:=IJ ((c.k _ (kc M9.o.map)).t M9.o.map) HXF.o;have q0:=zc;have q1:=ze;have g2:=(c.c (p:=⟨wr.heap.size,2,dQ⟩) Wf).t d;have hw:=HWR.o;simp only[nD]at hl;go_simp;exact⟨rfl,j6 _ _⟩
          case hb=>exact E0)
         apply ey
         case hE=>rfl
         case hb=>exact E0
         case h=>
          intro vs W D b hb c jw hi _ hd hP;have I:=(j6 W.heap.size W).a (dk _) (ol #[fA fm F] 3);have HBC:=j5 (nt c I);clear c;go_simp;exact⟨HBC.o,λj H hE=>(hd j H hE).le I,⟨br,λ_ _=>⟨W.heap.size,by simp[upd],au _ _⟩,br,br,br⟩⟩
         apply ey
         case hE=>rfl
         case hb=>exact E0
         case h=>
          intro vs W D bb iC c jw hi _ hd hP;have hf:=iC rfl;have m4:4∈D:=jw ⟨4,qN⟩ (cH.2 ⟨ar,rfl⟩);have m6:6∈D:=jw ⟨6,qN⟩ (cH.2 ⟨ar,rfl⟩);have fO:=(hd 4 m4 rfl).c4 rfl hf;obtain⟨kq,hkq,hkc⟩:=(hd 6 m6 rfl).c6 rfl hf;have bu:=cZ fO;have hoc:=qm fO;refine yX Rz RE rfl _ _ rfl M.heap.size (vs 4) L F kq rfl fO hkq (by simp[d9,hkc]) (by have:=OX2.o;omega) c.z λv' w' e1 e2=>?_;have I:Below M.heap.size W w':=(j6 _ W).grown e2 c.z bu;refine⟨c.t I,λj H hE=>⟨λ_ e=>by simp at e,λ_ e=>by simp at e,λe=>absurd H (by rw[e];exact hi),(hd j H hE).c15,λe=>((hd j H hE).c16 e).i λk l=>⟨l.1,l.2.1,(e2.block k (kc l.2.2) λe=>?_).t l.2.2⟩⟩,⟨br,br,λ_=>by simpa[upd]using e1,br,br⟩,λ_ _ _=>trivial⟩;obtain⟨cur,SF⟩:=hoc k e.y;rw[l.2.2]at SF;cases SF
         iterate 7 (
          apply iK
          case hE=>rfl
          case h=>
           intro vs W b c hd;have hl:=IJ ((c.k _ (kc M9.o.map)).t M9.o.map) HXF.o;have q0:=zc;have q1:=ze;have g2:=(c.c (p:=⟨wr.heap.size,2,dQ⟩) Wf).t d;have hw:=HWR.o;simp only[nD]at hl;go_simp;exact⟨rfl,j6 _ _⟩
          case hb=>exact E0)
         apply ey
         case hE=>rfl
         case hb=>exact E0
         case h=>
          intro vs W D bb iC c jw hi _ hd hP;have m7:7∈D:=jw ⟨7,qN⟩ (cH.2 ⟨ar,rfl⟩);obtain⟨vb,vc,h7⟩:=vB ((hd 7 m7 rfl).c7 rfl);rw[h7];have HD:=j5 hd;clear hd;go_simp;exact⟨HD.o,⟨br,br,br,λ_=>by simp[upd,h7],br⟩⟩
         apply ey
         case hE=>rfl
         case hb=>exact E0
         case h=>
          intro vs W D b hb c jw hi _ hd hP;have I:=(j6 W.heap.size W).a (dk _) (ol #[f6 dQ 0 0,fA fm 0] 116);have HBC:=j5 (nt c I);have HSZ:=j5 c.z;clear c;go_simp;exact⟨HBC.o,λj H hE=>(hd j H hE).le I,⟨br,br,br,br,λ_=>⟨W.heap.size,by simp[upd],HSZ.o,au _ _⟩⟩⟩
         refine nv λvs W bb _ c hd _=>?_;have hO7:=(hd 7 ab rfl).c7 rfl;have ab8:=(hd 15 ab rfl).c15 rfl;obtain⟨kw,h16,hkw,hcw⟩:=(hd 16 ab rfl).c16 rfl;obtain⟨vb,vc,h7⟩:=vB hO7;rw[h7]at ab8 hO7;have HO7:=j5 hO7;have HC1:=j5 c;have HKW:=j5 hkw;have HCW:=j5 hcw;have y0:d9 W ⟨kw,0,dQ⟩=dO (f6 dQ 0 0):=by simp[d9,hcw]
         have y1:d9 W ⟨kw,1,dQ⟩=dO (fA fm 0):=by simp[d9,hcw]
         have fz:=tO hcw;rw[h16,ab8];clear hd c hO7 ab8 h16 hkw hcw h7;obtain⟨nn,Va⟩:=bs ((L++[F]).length);have HNN:=j5 Va;rw[<-Va];clear Va
         go_upto_region 34 with fail
         obtain⟨XR,SG⟩:=bs (em (em W ⟨kw,0,dQ⟩ (f6 vb nn vc)) ⟨kw,1,dQ⟩ (fA fm (xl+G)));have SI:bL M XR:=by rw[SG];exact(HC1.o.s (p:=⟨kw,0,dQ⟩) HKW.o _).s (p:=⟨kw,1,dQ⟩) HKW.o _
         have P10:Hid (XR.heap[kw]?=dO (ol #[f6 vb nn vc,fA fm (xl+G)] 116)):=j5 (by rw[SG];exact Wc HCW.o)
         have O10:Hid (eO 3 XR M.heap.size (f6 vb nn vc) (L++[F])):=j5 (by
          have hoc:=qm HO7.o;rw[HNN.o];have bu:∀j,fJ (f6 vb (L++[F]).length vc)=dO j->j≠kw:=λj e H=>by
           obtain⟨cur,SF⟩:=hoc j e;rw[H,HCW.o]at SF;cases SF
          rw[SG]
          exact A8 (A8 HO7.o bu) bu)
         have M10:=j5 (M9.o.on SI);have L10:=j5 (aG SI L9.o);have S10:=j5 (aG SI S9.o);have Ry:=j5 (K9.o.on SI);rw[<-SG];clear SG SI y0 y1 fz;obtain⟨tp,tn,tc,tl,ok,FH,Ag⟩:=SE M10.o F;have HOK:=j5 Ag;clear Ag h0 h1 d
         go_upto_region 35 with fail
         obtain⟨Z,ab9⟩:=bs (eb XR (ol #[f6 tp tn tc,fA fm tl] 116));have IP:bL XR Z:=by rw[ab9];exact(j6 _ _).a (dk _) _
         have P11:=j5 ((IP.k _ (kc P10.o)).t P10.o);have O11:=j5 (O10.o.on IP);have M11:=j5 (M10.o.on IP);have L11:=j5 (aG IP L10.o);have S11:=j5 (aG IP S10.o);have Tr:=j5 (Ry.o.on IP);rw[<-ab9];clear ab9 IP FH M10 L10 S10 Ry O10;by_cases ht:F∈tP m (i+1)
         .have HT1:=j5 ht;clear ht
          go_wp2_with (at_lookup;go_must (refine aR (enc:=zn) _ rfl _ _ 114 3 4 rfl qz ju (mq _) T (tP m (i+1)) rfl L11.o F rfl d8 (by simpa using HT1.o) ?_))
          exact⟨⟨k2+1,R',Q,by go_num,by rw[X.o,N0,stepW,if_neg (by rw[NSK.o];decide),if_pos (by rw[<-HTO.o];exact HT1.o)],M11.o,L11.o,S11.o,Tr.o⟩,by simp only[intOf];omega⟩
         .have HT1:=j5 ht;clear ht;have hnf:R'.find? (λz=>z.1==F)=dQ:=by
           have e:=OX5.o NSK.o (by rw[<-HTO.o];exact HT1.o);rw[<-HTO.o]at e;have e2:=nE X.o F;rw[e]at e2
           cases e3:R'.find? (λz=>z.1==F) with
           |none=>rfl
           |some z=>rw[e3]at e2;cases e2
          have Ag:ok=dU:=HOK.o hnf;subst Ag;have HNF:=j5 hnf;clear hnf;have z0:d9 Z ⟨kw,0,dQ⟩=dO (f6 vb nn vc):=by have h:=P11.o;simp[d9,h]
          have z1:d9 Z ⟨kw,1,dQ⟩=dO (fA fm (xl+G)):=by have h:=P11.o;simp[d9,h]
          have RD:Hid (bB Z (f6 vb nn vc) (L++[F])):=j5 (eO.reads O11.o)
          go_wp2_with (first
           |(at_lookup;go_must (refine aR (enc:=zn) _ rfl _ _ 114 3 4 rfl qz ju (mq _) T (tP m (i+1)) rfl L11.o F rfl dU (by simpa using HT1.o) ?_))
           |(at_mapUpdate;go_must (refine tF _ rfl _ _ _ (qu rfl) S R' (F,f6 vb nn vc,L++[F],xl+G) rfl rfl rfl M11.o HNF.o RD.o ar ?_);intro w12 hM y;go_must (have M12:=j5 hM;have L12:=j5 (qq L11.o (y.block _ (by have:=ZR.o;omega)));have S12:=j5 (qq S11.o (y.block _ (by have:=ZR.o;omega)));have VC:=j5 (Tr.o.turned y M11.o.map (λ_ _ _ e=>by cases e) (by have:=ZM.o;have:=ZR.o;omega):KQ C w kx P w12));clear hM y;go_frame))
          refine⟨⟨k2+1,R'++[(F,f6 vb nn vc,L++[F],xl+G)],Q,by go_num,?_,M12.o,L12.o,S12.o,VC.o⟩,by simp only[intOf];omega⟩;rw[io,X.o,N0,stepW,if_neg (by rw[NSK.o];decide),if_neg (by rw[<-HTO.o];exact HT1.o),OX1.o]
          simp only[hZ,kh,strip,HTO.o,EG.o])
end Go.Proofs
