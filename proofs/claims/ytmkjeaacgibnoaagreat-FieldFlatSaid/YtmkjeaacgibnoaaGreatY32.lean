/- Part of the proof of FieldFlat and FieldMarshals. -/
import Derived.Test.YtmkjeaacgibnoaaGreatY31
set_option linter.all false
open Go.Lib renaming hid->ab
open List renaming size_toArray->ac,length_cons->ad,length_nil->ae,push_toArray->ag,append_toArray->ai,nil_append->ao,cons_append->ap,getElem?_toArray->aq,getElem?_cons_succ->ar,getElem?_cons_zero->aw,setIfInBounds_toArray->aB,set_cons_zero->aF,set_cons_succ->aI
open Nat renaming reduceAdd->aJ,reduceSub->aL,le_refl->aP,le_trans->aT,le_succ->a5
open Array renaming replicate_succ->a6,replicate_zero->a7,getElem?_modify->a8
open Go.Proofs renaming getElem?_lt'->a9
open Go.RowKit.Below renaming refl->ba
open Go.World renaming size_alloc->bc,grownBy_alloc->bd,cell?->bg,putObj_heap_same->bi,putObj_heap_other->bj,setCell->bl
open Go renaming TypeId->bm,callsIn_wide->bo,callsIn_of_wp_marks->bp,run_takeDeferred->bq,results->br,bodyPost_ret->bs,grownBy_putObj'->bt
open Option renaming map_some->bv
open Go.KeepsOthers renaming alloc->bw,of_grownBy->bx,setCell->bA
namespace Go.Proofs
open Go.RowKit Go.Shelf
attribute [local go_sem] Oper.semAt_some
set_option maxRecDepth 100000
set_option maxHeartbeats 4000000
def aaR.grown{B:Nat}{w w':World}(h:aaR B w w'):w.grownBy w' (some B):=
 ⟨h.os,h.tape,h.output,h.size,λk a b=>h.block k a (λe=>b (by rw[e]))⟩
structure StV(C:CD)(g n0 Bc Bg:Nat)(wb W:World):Prop where
 low:∀k,k<n0->W.heap[k]?=wb.heap[k]?
 size:n0<=W.heap.size
 box:W.heap[Bc]?=some (.cells C.val 121)
 PM:W.heap[Bg]?=some (.cells #[.int .i64 g] 3)
def yT(n:Nat)(hn:2<=n)(v w n0 g:Nat)(C:CD)(s:yR C g)(P:World)(j:P.heap.size=n0)(hA:C.At P):afQ n 144 #[.pointer (some ⟨v,0,none⟩),.pointer (some ⟨w,0,none⟩)] VS (Fg n0) (mD C g C.n4) (StV C g n0 v w P):=by
 intro l J W L hJ hY h0;have HA:=ab hA;have Q:=ab s;have M:=ab L;have HJ:=ab hJ;have HY:=ab hY;have hA0:=ab (hA.keep (by rw[j];exact L.low) (by rw[j];exact L.size));have c1:=L.box;have c2:=L.PM;clear hA L hJ hY;refine callsIn_of_wp (fx (by decide) Tryz.func144) rfl trivial ?_ rfl;simp only[Tryz.ntmps144,ac,ad,ae,aJ,aL,a6,a7,ag,ai,ao,ap];obtain⟨R,S,T,U,f4,N⟩:=bf c1;obtain⟨g0,g1⟩:=aaA c2;have x5:=hA0.out.s5 (by have:=s.g5;omega);have x50:=hA0.out.FI g s.g5;have x51:=hA0.out.HU g s.g5;have x52:=hA0.out.J6 g s.g5;have hg5:=s.g5;rw[x5]at N;have Ts:=a9 c1;have hBg:=a9 c2;have hh5:=hA0.out.h5;have y:=s.start;have HST:=ab y;clear c1 c2 s y
 gi_wp2
 obtain⟨O,V⟩:∃O:World,O=(W.alloc (.cells #[.string (C.x5 g).1,.int .i64 (C.x5 g).2.1,.int .i64 (C.x5 g).2.2] 67)).alloc (.cells #[.int .i64 (C.x5 g).2.2,.int .i64 (C.x5 g).2.2] 35):=⟨_,rfl⟩
 have b:Below W.heap.size W O:=by rw[V];exact((ba _ _).alloc (aP _) _).alloc (by simp) _
 have X:O.heap[W.heap.size+1]?=some (.cells #[.int .i64 (C.x5 g).2.2,.int .i64 (C.x5 g).2.2] 35):=by
  have Y:=au (W.alloc (.cells #[.string (C.x5 g).1,.int .i64 (C.x5 g).2.1,.int .i64 (C.x5 g).2.2] 67)) (.cells #[.int .i64 (C.x5 g).2.2,.int .i64 (C.x5 g).2.2] 35);rw[bc]at Y;rw[V];exact Y
 have Z:J [] O:=HJ.out [] W O none h0 (by rw[V];exact(bd W _ none).trans (bd _ _ none)) (λr e=>by cases e);have HN:=ab X;have HJ0:=ab Z;have HBW:=ab b;rw[<-V];clear V X Z h0
 gi_loopw [7,28] (λv7 z wr=>∃k:Nat,k<=C.n4/\z=.int .i64 k/\v7=.int .i64 (nT C g k).1/\J (mD C g k) wr/\StV C g n0 v w P wr/\wr.heap[W.heap.size+1]?=some (.cells #[.int .i64 (nT C g k).2.1,.int .i64 (nT C g k).2.2] 35)) (λ_ z _=>C.n4-(intOf z).toNat)
 case atStart=>
  refine⟨0,Nat.zero_le _,rfl,by rw[nT,<-HST.out],HJ0.out,⟨λk f=>(b.block k (Nat.lt_of_lt_of_le f M.out.size)).trans (M.out.low k f),aT M.out.size b.size,(b.block _ Ts).trans M.out.box,(b.block _ hBg).trans M.out.PM⟩,HN.out⟩
 case round=>
  obtain⟨k,f,rfl,rfl,hJk,hS,hN⟩:=hrel;have HJk:=ab hJk;have t:=ab hS;have c:=ab hN;clear hJk hS hN R S T U f4 N g0 g1 x5 x50 x51 x52 b;by_cases aH:k<C.n4
  ·have i2:(k:Int)<C.n4:=by omega
   have Xi:=Q.out.p4 k;have Cu:=Q.out.lo k (by omega);have hhi:=Q.out.hi k (by omega);have hm4:=Q.out.m4;obtain⟨p,hp⟩:∃p,p=(nT C g k).1:=⟨_,rfl⟩
   obtain⟨a,Sc⟩:∃x,x=(nT C g k).2.1:=⟨_,rfl⟩
   obtain⟨hi,Se⟩:∃x,x=(nT C g k).2.2:=⟨_,rfl⟩
   have alK:Hid (Nu C g k=(p,a,hi,a+(C.x4 p).n 7,hi+(C.x4 p).n 8)):=ab (by rw[Nu,<-hp,<-Sc,<-Se]);have y:Hid (nT C g (k+1)=(Ff C p,a+(C.x4 p).n 7+(C.x4 p).n 9,hi+(C.x4 p).n 8+(C.x4 p).n 10)):=ab (by rw[nT,<-hp,<-Sc,<-Se]);rw[<-hp]at Xi ⊢;rw[<-Sc]at Cu;rw[<-Se]at hhi;rw[<-Sc,<-Se]at c;clear hp Sc Se;obtain⟨⟨n7,n7'⟩,⟨n8,n8'⟩,⟨n9,n9'⟩,⟨n10,atn⟩⟩:=Q.out.nn p Xi;have hAk:=ab (HA.out.keep (by rw[j];exact t.out.low) (by rw[j];exact t.out.size));obtain⟨s4,y0,y1,y2,y3,y4,y5,y6,y7,y8,y9,y10,y11,ER⟩:=yK hAk.out Xi;obtain⟨R,S,T,U,f4,N⟩:=bf t.out.box;rw[s4]at f4;obtain⟨t0,t1,u0,u1⟩:=uJ c.out;have alL:=a9 t.out.box;have hNl:=a9 c.out;have att:(p:Int)<C.n4:=by omega
   have sv:Hid (((wr.alloc (.cells (C.x4 p).val 73)).alloc (.cells #[.int .i64 p,.int .i64 a,.int .i64 hi,.int .i64 0,.int .i64 0] 61)).heap[W.heap.size+1]?=some (.cells #[.int .i64 a,.int .i64 hi] 35)):=ab ((((ba wr.heap.size wr).alloc (aP _) _).alloc (by simp) _ |>.block _ hNl).trans c.out)
   have sv2:Hid (((wr.alloc (.cells (C.x4 p).val 73)).alloc (.cells #[.int .i64 p,.int .i64 a,.int .i64 hi,.int .i64 0,.int .i64 0] 61)).heap[wr.heap.size+1]?=some (.cells #[.int .i64 p,.int .i64 a,.int .i64 hi,.int .i64 0,.int .i64 0] 61)):=ab (by
    have Y:=au (wr.alloc (.cells (C.x4 p).val 73)) (.cells #[.int .i64 p,.int .i64 a,.int .i64 hi,.int .i64 0,.int .i64 0] 61)
    rw[bc]at Y;exact Y)
   have sp:Hid (((wr.alloc (.cells (C.x4 p).val 73)).alloc (.cells #[.int .i64 p,.int .i64 a,.int .i64 hi,.int .i64 0,.int .i64 0] 61)).heap[wr.heap.size]?=some (.cells (C.x4 p).val 73)):=ab ((((ba (wr.alloc (.cells (C.x4 p).val 73)).heap.size _).alloc (aP _) _).block _ (by simp)).trans (au wr _));have so:Hid (∀k,k<wr.heap.size->((wr.alloc (.cells (C.x4 p).val 73)).alloc (.cells #[.int .i64 p,.int .i64 a,.int .i64 hi,.int .i64 0,.int .i64 0] 61)).heap[k]?=wr.heap[k]?):=ab λk f=>(((ba wr.heap.size wr).alloc (aP _) _).alloc (by simp) _).block k f;clear s4
   gi_wp2_with (refine⟨trivial,λ_=>(by omega),?_⟩;refine(callsIn_wide.2 (uL (W.heap.size+1) a hi _ _ _ sv.out (by omega) (by omega) (by omega) (by omega))).mono ?_;rintro e w2⟨rfl,Vb,iC⟩;have yp:wr.heap.size+2<=w2.heap.size:=(by have:=iC.size;simp at this;omega);have u:=(iC.block (wr.heap.size+1) (by simp) (by omega)).trans sv2.out;have tL:=(iC.block wr.heap.size (by simp;omega) (by omega)).trans sp.out;have fz:=tO u;have v0:w2.cell? ⟨wr.heap.size+1,0,none⟩=some (.int .i64 p):=(by simp[bg,u]);have v1:w2.cell? ⟨wr.heap.size+1,1,none⟩=some (.int .i64 a):=(by simp[bg,u]);have v2:w2.cell? ⟨wr.heap.size+1,2,none⟩=some (.int .i64 hi):=(by simp[bg,u]);have v3:w2.cell? ⟨wr.heap.size+1,3,none⟩=some (.int .i64 0):=(by simp[bg,u]);have v4:w2.cell? ⟨wr.heap.size+1,4,none⟩=some (.int .i64 0):=(by simp[bg,u]);have HN2:=ab Vb;have Kf:=ab iC;have HV2:=ab u;have HP2:=ab tL;clear Vb iC u tL;obtain⟨Wy,m⟩:∃W:World,W=(w2.setCell ⟨wr.heap.size+1,3,none⟩ (.int .i64 (a+(C.x4 p).n 7))).setCell ⟨wr.heap.size+1,4,none⟩ (.int .i64 (hi+(C.x4 p).n 8)):=⟨_,rfl⟩;have A:wr.grownBy Wy (some (W.heap.size+1)):=(by rw[m];exact⟨Kf.out.os,Kf.out.tape,Kf.out.output,by simp only[World.size_setCell];omega,λk f bu=>by rw[aZ (by omega),aZ (by omega),Kf.out.block k (by simp;omega) (λe=>bu (by rw[e]))];exact so.out k f⟩);obtain⟨fn,tmps,assign,body,hy,hR⟩:=HY.out (mD C g k) (Nu C g k) Wy (HJ.out _ wr Wy _ HJk.out A (λr e=>by cases e;exact⟨by omega,_,_,c.out,by decide,by decide⟩)) (R8 C g aH);rw[alK.out,m]at hy;dsimp only[VS]at hy;have B:=ab A;have d:=ab m;clear A m)
   refine⟨λ_=>(by omega),?_⟩;refine RoundIn.mono (by have h:=hR;rw[d.out]at h;exact h) ?_;rintro e i⟨rfl,hJ',D⟩;rw[<-d.out]at D;have hWs:=M.out.size;have E:i.heap[W.heap.size+1]?=some (.cells #[.int .i64 (a+(C.x4 p).n 7),.int .i64 (hi+(C.x4 p).n 8)] 35):=D.2.1 _ _ _ (by rw[d.out,aZ (by omega),aZ (by omega)];exact HN2.out) (by decide) (by decide);have VT:i.heap[wr.heap.size]?=some (.cells (C.x4 p).val 73):=D.2.1 _ _ _ (by rw[d.out,aZ (by omega),aZ (by omega)];exact HP2.out) (by decide) (by decide);have sW:i.heap[v]?=some (.cells C.val 121):=D.2.1 _ _ _ ((B.out.block v alL (λe=>by injection e with e;omega)).trans t.out.box) (by decide) (by decide);have afU:i.heap[w]?=some (.cells #[.int .i64 g] 3):=D.2.1 _ _ _ ((B.out.block w (by have:=t.out.PM;exact a9 this) (λe=>by injection e with e;omega)).trans t.out.PM) (by decide) (by decide);have qv:Hid (∀k,k<n0->i.heap[k]?=P.heap[k]?):=ab λk f=>(D.1 k f).trans ((B.out.block k (by omega) (λe=>by injection e with e;omega)).trans (t.out.low k f));have atv:W.heap.size+2<=i.heap.size:=by have:=a9 E;omega
   have z9:i.cell? ⟨wr.heap.size,9,none⟩=some (.int .i64 ((C.x4 p).n 9)):=by simp[bg,VT]
   have UZ:i.cell? ⟨wr.heap.size,10,none⟩=some (.int .i64 ((C.x4 p).n 10)):=by simp[bg,VT]
   have fz9:=tO VT;have VU:=ab E;have Ce:=ab sW;have HGR:=ab afU;have HJ':=ab hJ';clear E VT sW afU hJ' D hR hy HY R S T U f4 N t0 t1 u0 u1 y0 y1 y2 y3 y4 y5 y6 y7 y8 y9 y10 y11 v0 v1 v2 v3 v4 fz sv sv2 sp so Kf HN2 HV2 HP2 d yp;by_cases hw:p+1=C.n4
   ·have i5:((p:Int)+1=C.n4):=by omega
    have HW:=ab hw;clear hw
    gi_wp2_with (refine⟨trivial,λ_=>(by omega),?_⟩;refine(callsIn_wide.2 (uL (W.heap.size+1) (a+(C.x4 p).n 7) (hi+(C.x4 p).n 8) _ _ _ VU.out (by omega) (by omega) (by omega) (by omega))).mono ?_;rintro e w3⟨rfl,Hr,F⟩;have H:=(F.block v (by omega) (by omega)).trans Ce.out;obtain⟨R,S,T,U,f4,N⟩:=bf H;have I:=ab H;have K:=ab Hr;have o:=ab F;clear H Hr F)
    refine⟨⟨k+1,aH,by go_num,by rw[y.out];simp only[Ff];rw[if_pos HW.out];rfl,?_,⟨λq hq=>(o.out.block q (by omega) (by omega)).trans (qv.out q hq),by have:=o.out.size;omega,I.out,(o.out.block w (by omega) (by omega)).trans HGR.out⟩,by rw[y.out];exact K.out⟩,by simp only[intOf];omega⟩;rw[uM];exact HJ.out _ i w3 _ HJ'.out o.out.grown (λr e=>by cases e;exact⟨by omega,_,_,VU.out,by decide,by decide⟩)
   ·have i5:¬((p:Int)+1=C.n4):=by omega
    have HW:=ab hw;clear hw
    gi_wp2_with (refine⟨trivial,λ_=>(by omega),?_⟩;refine(callsIn_wide.2 (uL (W.heap.size+1) (a+(C.x4 p).n 7) (hi+(C.x4 p).n 8) _ _ _ VU.out (by omega) (by omega) (by omega) (by omega))).mono ?_;rintro e w3⟨rfl,Hr,F⟩;have H:=(F.block v (by omega) (by omega)).trans Ce.out;obtain⟨R,S,T,U,f4,N⟩:=bf H;have I:=ab H;have K:=ab Hr;have o:=ab F;clear H Hr F)
    refine⟨⟨k+1,aH,by go_num,by rw[y.out];simp only[Ff];rw[if_neg HW.out];go_num,?_,⟨λq hq=>(o.out.block q (by omega) (by omega)).trans (qv.out q hq),by have:=o.out.size;omega,I.out,(o.out.block w (by omega) (by omega)).trans HGR.out⟩,by rw[y.out];exact K.out⟩,by simp only[intOf];omega⟩;rw[uM];exact HJ.out _ i w3 _ HJ'.out o.out.grown (λr e=>by cases e;exact⟨by omega,_,_,VU.out,by decide,by decide⟩)
  ·have By:k=C.n4:=by omega
   have i2:¬((k:Int)<C.n4):=by omega
   clear aH
   gi_wp2
   go_end0
   exact⟨⟨_,rfl⟩,by have h:=HJk.out;first|(rw[By]at h;exact h)|exact h⟩
def yU{q:Type}{g:Operand}{ps:Array Tmp}{assign body:Code}{Q:Exit->Act->World->Prop}{a:Act}{w:World}{n:Nat}(h1:1<=n){gf:Nat}{lb:Array Value}(hg:a.eval g=.func (.func gf) #[] lb)(eg:∀args w,(callFunc gf args).run PL w=.ok (.enter gf args) w)
 {N:q->Array Value} {u:World->World->Prop} {xs:List q} {St:World->Prop} (R:afQ (n-1) gf lb N u xs St) (XJ:∀W,Below w.heap.size w W->St W)
 (y:∀{A B C:World},u A B->u B C->u A C) (F:∀(W:World)(l:Nat)(o o':Obj),w.heap.size<=l->W.heap[l]?=some o->o.isCells=false->o.isWalk=false->u W (W.putObj l o')) (S:∀x,(N x).size=ps.size)
 (I:List q->World->Prop) (H:OwnFrom w.heap.size I) (T:AbT w.heap.size I) (h0:I [] w) (A:q->Act->World->Prop) (hA:∀x a W l o o',W.heap[l]?=some o->o.isCells=false->A x a W->A x a (W.putObj l o'))
 (U:∀{A B:World},w.heap.size<=A.heap.size->A.grownBy B none->u A B)
 (VV:∀(l:Nat)(x:q)(W:World)(K:Act->World->Prop),(∀a' z,W.grownBy z none->A x a' z->K a' z)->
   assign.wpIn (Fence.wide.inRound l) (n-1-1) PL (Exit.then K (λ_ _ _=>False)) { tmps:=(ps.zip (N x)).foldl (λt(p,v)=>t.setIfInBounds p v) a.tmps,defers:=[] } W)
 (V:∀(l:Nat)(b:List q)(x:q)(a':Act)(W:World),I b W->A x a' W->b++[x] <+: xs->body.wpIn (Fence.wide.inRound l) (n-1-1) PL (λe _ z=>match e with | .normal=>KeepsOthers W z/\u W z/\I (b++[x]) z|_=>False) a' W)
 (X:∀(D:Nat)(W:World),w.heap.size<=D->I xs W->W.heap[D]?=some (.deferred (some []))->Q .normal { a with defers:={ target:=.collected D,args:=#[] }::a.defers } W) :
 (Code.rangeFunc g ps assign body).wpIn Fence.wide n PL Q a w:=by
 refine wpIn_rangeFunc λfn tK=>?_;have LJ:Fence.wide.round=none:=rfl;rw[LJ];let m:LoopState->Loop:=λst=>{ state:=st,pending:=none,fn,tmps:=a.tmps,params:=ps,assign,body,defers:=w.heap.size }
 obtain⟨d,J⟩:∃d,d=(w.alloc (.deferred (some []))).alloc (.loop (m .ready)):=⟨_,rfl⟩
 have Y:d.heap[w.heap.size+1]?=some (.loop (m .ready)):=by
  have:=au (w.alloc (.deferred (some []))) (.loop (m .ready));rw[bc]at this;rw[J];exact this
 have hb:Below w.heap.size w d:=by rw[J];exact((ba _ _).alloc (aP _) _).alloc (by simp) _
 have Z:d.heap[w.heap.size]?=some (.deferred (some [])):=by
  rw[J];exact(((ba (w.alloc (.deferred (some []))).heap.size _).alloc (aP _) _).block _ (by simp)).trans (au w _)
 refine⟨w.heap.size+1,[{ target:=.collected w.heap.size,args:=#[] }],d,{ target:=.fn (.func gf) lb,args:=#[.func (.yield (w.heap.size+1)) #[] #[]] },d,gf,#[.func (.yield (w.heap.size+1)) #[] #[]]++lb,d,?_,?_,λf' hf'=>trivial,by simp[invoke,go_sem,eg],λ_=>h1,?_⟩
 ·rw[J];exact run_enterLoop_outer _ _ _ _ _
 ·simp only[resolve,hg];simp[go_sem]
 ·have book:∀{A B:World}{row:Option Nat}{k:Nat}{o:Obj},A.grownBy B row->(∀r,row=some r->d.heap.size<=r/\∃c t,A.heap[r]?=some (Obj.cells c t)/\t≠61/\t≠50)->A.heap[k]?=some o->o.isCells=false->B.heap[k]?=some o:=λ{A B row k o}L E f hc=>by
   refine(L.block k (a9 f) λe=>?_).trans f;obtain⟨_,c,t,h,_⟩:=E k e.symm;rw[f]at h;cases h;cases hc
  refine(R (w.heap.size+1) (λb W=>I b W/\W.heap[w.heap.size+1]?=some (.loop (m .ready))/\W.heap[w.heap.size]?=some (.deferred (some []))) d (XJ _ hb) ?_ ?_ ⟨?_,Y,Z⟩).mono ?_
  ·rintro s A B row⟨hi,hl,f⟩L E;exact⟨T s A B row hi L λr e=>⟨aT hb.size (E r e).1,(E r e).2⟩,book L E hl rfl,book L E f rfl⟩
  ·rintro b x W⟨hi,hl,f⟩Nw;refine⟨fn,_,assign,body,run_yield (P:=PL) (args:=N x) hl (S x),roundIn_of_wpIn tK (VV _ x W _ λaa O i hA1=>?_)⟩;have acY:=a9 hl;replace hl:=book i (λr e=>by cases e) hl rfl;replace f:=book i (λr e=>by cases e) f rfl;replace hi:=H b W O none hi i (λr e=>by cases e);have aH:=a9 hl;refine⟨_,run_beginRound hl rfl,?_⟩;have hl2:(O.putObj (w.heap.size+1) (.loop (m .busy))).heap[w.heap.size+1]?=some (.loop (m .busy)):=bi aH;have ND:(O.putObj (w.heap.size+1) (.loop (m .busy))).heap[w.heap.size]?=some (.deferred (some [])):=(bj (by omega)).trans f;refine wpIn_mono (V _ b x aa _ (H.putObj _ hi (by omega) hl rfl) (hA _ _ _ _ _ _ hl rfl hA1) Nw) ?_;rintro e a3 W3 hp
   cases e with
   |normal=>
    obtain⟨M,alT,hi3⟩:=hp;have j:=M.same _ _ hl2 rfl;refine⟨_,_,run_endRound (P:=PL) none j,rfl,⟨H.putObj _ hi3 (by omega) j rfl,bi (a9 j),(bj (by omega)).trans (M.same _ _ ND rfl)⟩,?_⟩;exact y (y (y (U (by omega) i) (F O (w.heap.size+1) _ _ (by omega) hl rfl rfl)) alT) (F _ _ _ _ (by omega) j rfl rfl)
   |_=>exact hp.elim
  ·exact H [] w d none h0 (by rw[J];exact(bd w _ none).trans (bd _ _ none)) (λr e=>by cases e)
  ·rintro e W2⟨⟨v,rfl⟩,hi,hl,f⟩;exact⟨none,_,run_endLoop (P:=PL) hl (by simp[m]),X _ _ (aP _) (H.putObj _ hi (by omega) hl rfl) ((bj (by omega)).trans f)⟩
def Fi(C:CD)(g:Int)(m5:C.n5<=3)(w:World):Calls PL 108 #[.agg C.val,.int .i64 g] w λe w'=>e=.returned (.bool (bO g 0 (C.n5-1)))/\Below w.heap.size w w':=by
 obtain⟨b,c,d,f,f4,h⟩:=bf (au w (.cells C.val 27));have a:=ab (((ba w.heap.size w).alloc (aP _) (.cells C.val 27)))
 go_enter (fx (by decide) Tryz.func108),Tryz.ntmps108
 go_wp2_with (go_at_call 78;refine(ij _ _ _ _).mono ?_;rintro e w'⟨rfl,rfl⟩)
 go_ret
 exact⟨rfl,a.out⟩
def AX(C:CD)(g:Nat)(w:World):Calls PL 110 #[.agg C.val,.int .i64 g] w λe w'=>e=.returned (.func (.func 144) #[] #[.pointer (some ⟨w.heap.size,0,none⟩),.pointer (some ⟨w.heap.size+1,0,none⟩)])/\w'=(w.alloc (.cells C.val 121)).alloc (.cells #[.int .i64 g] 3):=by
 go_enter (fx (by decide) Tryz.func110),Tryz.ntmps110
 go_wp2
 go_ret
 exact⟨rfl,rfl⟩
def vV(x:nR):List Value:=[.int .i64 x.1,.int .i64 x.2.1,.int .i64 x.2.2.1,.int .i64 x.2.2.2.1,.int .i64 x.2.2.2.2]
def AY(W:World)(base:Nat)(v:Value)(l:List nR):Prop:=W.ownsRow base 61 5 v l.length (l.flatMap vV)
def Sf(w:World)(a:List nR)(W:World):Prop:=∃v,W.heap[w.heap.size]?=some (.cells #[v] 50)/\AY W (w.heap.size+1) v a/\Below w.heap.size w W
def Fj{w W j:World}{row:Option Nat}{a:List nR}(h:Sf w a W)(hg:W.grownBy j row)(b:∀r,row=some r->w.heap.size+1<=r/\∀c,W.heap[r]?≠some (.cells c 61)):Sf w a j:=by
 obtain⟨v,hb,⟨hl,d⟩,l⟩:=h;refine⟨v,(hg.block _ (a9 hb) λe=>by have:=(b _ e.symm).1;omega).trans hb,⟨hl,?_⟩,l.grown hg l.size λk e=>by have:=(b _ e).1;omega⟩
 rcases d with d|⟨g,cap,f,e1,m,i,n⟩
 ·exact .inl d
 ·exact .inr ⟨g,cap,f,e1,m,(hg.block _ (a9 i) λe=>(b _ e.symm).2 _ i).trans i,n⟩
def Fl(w:World):OwnFrom (w.heap.size+1) (Sf w):=λs W d row hs hg a=>Fj hs hg λr e=>⟨(a r e).1,λc h=>by
 obtain⟨_,o,b,hc⟩:=a r e
 rw[b]at h;cases h;cases hc⟩
def Sg(w:World):AbT (w.heap.size+1) (Sf w):=λs W d row hs hg a=>Fj hs hg λr e=>⟨(a r e).1,λc h=>by
 obtain⟨_,f,t,b,hc,_⟩:=a r e
 rw[b]at h;cases h;exact hc rfl⟩
def qO{w:World}{k:Nat}{x0 x1 x2 x3 x4:Value}{t:bm}(h:w.heap[k]?=some (.cells #[x0,x1,x2,x3,x4] t)) :
 w.cell? ⟨k,0,none⟩=some x0/\w.cell? ⟨k,1,none⟩=some x1/\w.cell? ⟨k,2,none⟩=some x2/\w.cell? ⟨k,3,none⟩=some x3/\w.cell? ⟨k,4,none⟩=some x4:=by
 simp[bg,h]
def afX:PL.underlying 50=some (.slice 61):=by kernel_rfl
def aaV:(PL.info? 61).map (λi=>(i.zero,i.size,i.bytes))=some (some (.agg #[.int .i64 0,.int .i64 0,.int .i64 0,.int .i64 0,.int .i64 0]),5,40):=by kernel_rfl
def Ny{W:World}{base e size n:Nat}{v:Value}{xs:List Value}(h:W.ownsRow base e size v n xs):∃b m c,v=.slice b m c:=by
 rcases h.2 with⟨rfl,_⟩|⟨g,cap,a,rfl,_⟩<;>exact⟨_,_,_,rfl⟩
def qm{W:World}{base e size n:Nat}{v:Value}{xs:List Value}(h:W.ownsRow base e size v n xs):∀j,v.ownBlock=some j->∃cur,W.heap[j]?=some (.cells cur e):=by
 rcases h.2 with⟨rfl,_⟩|⟨g,cap,cur,rfl,_,hg,_⟩
 ·intro j e;cases e
 ·intro j e;cases e;exact⟨_,hg⟩
def yV{w:World}{B:Nat}{x u:Value}{t:bm}(h:w.heap[B]?=some (.cells #[x] t)):(w.setCell ⟨B,0,none⟩ u).heap[B]?=some (.cells #[u] t):=by
 simp only[bl,a8,if_pos,h,bv];rfl
def VW{W:World}{b:Nat}{x:nR}(h:W.heap[b]?=some (.cells #[.int .i64 x.1,.int .i64 x.2.1,.int .i64 x.2.2.1,.int .i64 x.2.2.2.1,.int .i64 x.2.2.2.2] 61)):∀(j:Nat)(u:Value),(vV x)[j]?=some u->W.cell? ((⟨b,0,none⟩:Addr).add j)=some u:=by
 intro j u e
 match j,e with
 |0,e=>cases e;simp[bg,Addr.add,h]
 |1,e=>cases e;simp[bg,Addr.add,h]
 |2,e=>cases e;simp[bg,Addr.add,h]
 |3,e=>cases e;simp[bg,Addr.add,h]
 |4,e=>cases e;simp[bg,Addr.add,h]
 |j+5,e=>simp[vV]at e
def Nz{r u:Nat}(C:CD)(g:Nat)(O:yR C g)(w:World)(hA:C.At w)(c1:w.heap[r]?=some (.cells C.val 121))(P:w.heap[u]?=some (.cells #[.int .i64 g] 3)) :
 Calls PL 143 #[.slice none 0 0,.func (.func 144) #[] #[.pointer (some ⟨r,0,none⟩),.pointer (some ⟨u,0,none⟩)]] w λe w'=>∃v,e=.returned v/\AY w' (w.heap.size+1) v (mD C g C.n4)/\Below w.heap.size w w':=by
 have HA:=ab hA;have Q:=ab O;have R:=ab c1;have S:=ab P;clear hA O c1 P;refine(bo (n:=9)).1 (bp (fx (by decide) Tryz.func143) rfl trivial ?_ rfl);simp only[Tryz.ntmps143,ac,ad,ae,aJ,aL,a6,a7,ag,ai,ao,ap];refine wpIn_wide.2 ?_
 go_wp2
 obtain⟨i0,hi,mF,dx,wD⟩:=info_parts aaV;refine(wpIn_wide (n:=9)).1 ?_;refine yU (by omega) (gf:=144) (lb:=#[.pointer (some ⟨r,0,none⟩),.pointer (some ⟨u,0,none⟩)]) rfl (enters_of (fx (by decide) Tryz.func144) (by kernel_rfl) rfl)
  (yT 8 (by omega) r u w.heap.size g C Q.out w rfl HA.out)
  (λW T=>?_) Li (λW l o U hl ho hc hw=>Lj (n:=w.heap.size) (s:=w.heap.size+1) (by omega) W l o U (by simpa using hl) ho hc hw) (λ_=>rfl)
  (Sf w) (by rw[bc];exact Fl w) (by rw[bc];exact Sg w) ⟨_,au _ _,⟨rfl,.inl ⟨rfl,rfl⟩⟩,(ba _ _).alloc (aP _) _⟩
  (λx a W=>∃k,W.heap[k]?=some (.cells #[.int .i64 x.1,.int .i64 x.2.1,.int .i64 x.2.2.1,.int .i64 x.2.2.2.1,.int .i64 x.2.2.2.2] 61)/\a={ tmps:=#[.slice none 0 0,.func (.func 144) #[] #[.pointer (some ⟨r,0,none⟩),.pointer (some ⟨u,0,none⟩)],.pointer (some ⟨w.heap.size,0,none⟩),undef,.slice none 0 0,.pointer (some ⟨k,0,none⟩),.func (.func 144) #[] #[.pointer (some ⟨r,0,none⟩),.pointer (some ⟨u,0,none⟩)],.agg #[.int .i64 x.1,.int .i64 x.2.1,.int .i64 x.2.2.1,.int .i64 x.2.2.2.1,.int .i64 x.2.2.2.2],undef,undef,undef,undef,undef],defers:=[] })
  ?A ?kg ?assign ?body ?done
 ·have hb:=((ba w.heap.size w).alloc (aP _) (.cells #[.slice none 0 0] 50))
  have e:∀k,k<w.heap.size->W.heap[k]?=w.heap[k]?:=λk d=>(T.block k (by simp;omega)).trans (hb.block k d);exact⟨e,by have:=T.size;simp at this;omega,(e _ (a9 R.out)).trans R.out,(e _ (a9 S.out)).trans S.out⟩
 case A=>
  rintro x a W l o U hl hc⟨k,d,ha⟩;refine⟨k,(bj (λe=>?_)).trans d,ha⟩;subst e;rw[hl]at d;cases d;cases hc
 case kg=>
  intro A B hs hg;rw[bc]at hs;exact⟨λk d=>hg.block k (by omega) (by simp),λk c t h _ _=>(hg.block k (a9 h) (by simp)).trans h,hg.size⟩
 case assign=>
  intro l x W K F;dsimp only[VS]
  gi_wp2
  refine F _ _ (bd W _ none) ⟨W.heap.size,au _ _,rfl⟩
 case body=>
  rintro l p x a W⟨v,i,V,X⟩⟨k,d,rfl⟩Nw;have hlen:p.length<5:=by have:=Nw.length_le;have:=Q.out.m4;rw[R7]at *;simp at *;omega
  have aH:=a9 i;have Ll:=a9 d;have b0:W.cell? ⟨w.heap.size,0,none⟩=some v:=by simp[bg,i]
  obtain⟨k0,k1,k2,k3,k4⟩:=qO d;have fb:=tO i;have H:=ab V;have Y:=ab X;have Z:=ab i;clear i d V X
  gi_wp2_with (gi_at_builtin;refine wpListIn_append_own _ rfl _ _ _ rfl (w.heap.size+1) 61 i0 _ 5 40 afX hi mF dx wD rfl (by decide) v p.length (p.flatMap vV) rfl (World.ownsRow.alloc H.out _) ⟨W.heap.size,0,none⟩ 1 1 (vV x) rfl rfl (VW (au W _)) (by simp[vV,Value.oneCell']) (by simp only[maxLen];omega) (by omega) (by simp;omega) ?_;intro v' w2 m f _;have I:=cZ H.out;have J:w2.heap[w.heap.size]?=some (.cells #[v] 50):=(f.block _ (by simp;omega) (λe=>by have:=I _ e.symm;omega)).trans ((((ba W.heap.size W).alloc (aP _) _).block _ aH).trans Z.out);have fb2:=tO J;have b2:w2.cell? ⟨w.heap.size,0,none⟩=some v:=(by simp[bg,J]);obtain⟨bb,nn,cc,rfl⟩:=Ny m;have H1:=ab m;have L:=ab f;have M:=ab J;clear m f J)
  have y:∀j,v.ownBlock=some j->∃b,W.heap[j]?=some (.cells b 61):=qm H.out;have I:=cZ H.out;have z:=(ba W.heap.size W).alloc (aP _) (.cells #[.int .i64 x.1,.int .i64 x.2.1,.int .i64 x.2.2.1,.int .i64 x.2.2.2.1,.int .i64 x.2.2.2.2] 61);have yp:W.heap.size<=w2.heap.size:=by have:=L.out.size;simp at this;omega
  have blk:∀q,q<W.heap.size->q≠w.heap.size->some q≠v.ownBlock->(w2.setCell ⟨w.heap.size,0,none⟩ (.slice bb nn cc)).heap[q]?=W.heap[q]?:=λq m f h3=>by
   rw[aZ (Ne.symm f),L.out.block q (by simp;omega) h3,z.block q m]
  refine⟨(bw W _).trans ((bx L.out λj o m f=>?_).trans (bA _ _ _)),⟨λq hq=>blk q (by omega) (by omega) (λe=>by have:=I _ e.symm;omega),λq c t h m f=>(blk q (a9 h) (λe=>?_) (λe=>?_)).trans h,by simpa using yp⟩,?_⟩
  ·obtain⟨b,hc⟩:=y _ m;rw[z.block _ (a9 hc),hc]at f;cases f;rfl
  ·subst e;rw[Z.out]at h;cases h;exact f rfl
  ·obtain⟨b,hc⟩:=y _ e.symm;rw[hc]at h;cases h;exact m rfl
  ·refine⟨_,yV M.out,?_,?_⟩
   ·unfold AY;rw[List.length_append,List.flatMap_append,List.flatMap_cons,List.flatMap_nil,List.append_nil];obtain⟨e1,E⟩:=H1.out;refine⟨e1,?_⟩
    rcases E with E|⟨gg,cap,b,e2,hb,hg,E⟩
    ·exact .inl E
    ·exact .inr ⟨gg,cap,b,e2,hb,(aZ (by omega)).trans hg,E⟩
   ·exact((Y.out.alloc Y.out.size _).grown L.out (by simp;omega) (λk e=>by have:=I _ e;omega)).setCell (aP _) _
 case done=>
  intro D W hD hI F;rw[bc]at hD;have gE:=ab ((Fl w).putObj (.deferred none) hI (by omega) F rfl);obtain⟨v,i,-,-⟩:=hI;have b0:W.cell? ⟨w.heap.size,0,none⟩=some v:=by simp[bg,i]
  have Ce:=ab i;clear i
  go_wp2
  refine⟨by simp,.inl ⟨_,_,rfl,bq F,?_⟩⟩;obtain⟨v2,eP,N,qA⟩:=gE.out;have e:v=v2:=by
   have h:=(bj (by omega:w.heap.size≠D)).symm.trans eP |>.symm
   rw[Ce.out]at h;cases h;rfl
  subst e;refine⟨v,?_,v,rfl,N,qA⟩;simp[br,Tryz.results143,go_sem]
def NA{a b:Nat}(C:CD)(g:Nat)(c:yR C g)(w:World)(hA:C.At w)(c1:w.heap[a]?=some (.cells C.val 121))(d:w.heap[b]?=some (.cells #[.int .i64 g] 3)) :
 Calls PL 109 #[.func (.func 144) #[] #[.pointer (some ⟨a,0,none⟩),.pointer (some ⟨b,0,none⟩)]] w λe w'=>∃v,e=.returned v/\AY w' (w.heap.size+1) v (mD C g C.n4)/\Below w.heap.size w w':=by
 have i:=ab hA;have j:=ab c;have k:=ab c1;have l:=ab d;clear hA c c1 d
 go_enter (fx (by decide) Tryz.func109),Tryz.ntmps109
 go_wp2_with (go_at_call 143;refine(Nz C g j.out w i.out k.out l.out).mono ?_;rintro e w'⟨v,rfl,f,h⟩;have m:=ab f;have n:=ab h;clear f h)
 go_ret
 exact⟨_,rfl,m.out,n.out⟩
def nC{W:World}{r:Nat}{x0 x1 x2 x3 x4 a u0 u1 u2 u3 u4 u5:Value}{t:bm}(h:W.heap[r]?=some (.cells #[x0,x1,x2,x3,x4,a] t)):((((((W.setCell ⟨r,0,none⟩ u0).setCell ⟨r,1,none⟩ u1).setCell ⟨r,2,none⟩ u2).setCell ⟨r,3,none⟩ u3).setCell ⟨r,4,none⟩ u4).setCell ⟨r,5,none⟩ u5).heap[r]?=some (.cells #[u0,u1,u2,u3,u4,u5] t):=by
 simp only[bl,a8,if_pos,h,bv];rfl
def cM{W:World}{r b:Nat}{u0 u1 u2 u3 u4 u5:Value}(hb:b≠r):((((((W.setCell ⟨r,0,none⟩ u0).setCell ⟨r,1,none⟩ u1).setCell ⟨r,2,none⟩ u2).setCell ⟨r,3,none⟩ u3).setCell ⟨r,4,none⟩ u4).setCell ⟨r,5,none⟩ u5).heap[b]?=W.heap[b]?:=by
 simp only[bl,a8,if_neg (Ne.symm hb)]
def Six(W:World)(k:Nat):Prop:=∃x0 x1 x2 x3 x4 a,W.heap[k]?=some (.cells #[x0,x1,x2,x3,x4,a] 121)
def Fo(C:CD)(W a:World):Prop:=∀k:Nat,(W.heap[k]?=some (.cells C.val 121)->a.heap[k]?=some (.cells C.val 121))/\(Six W k->Six a k)
def Fo.on{C:CD}{W a:World}(h:Below W.heap.size W a):Fo C W a:=λk=>⟨λe=>(h.block _ (a9 e)).trans e,fun⟨x0,x1,x2,x3,x4,b,e⟩=>⟨x0,x1,x2,x3,x4,b,(h.block _ (a9 e)).trans e⟩⟩
def alU(C:CD)(w:World)(j:Nat)(vs:Nat->Value)(W:World):Prop:=
 (j=8->∃k,vs 8=.pointer (some ⟨k,0,none⟩)/\w.heap.size<k/\Six W k)/\(j=9->∃k,vs 8=.pointer (some ⟨k,0,none⟩)/\w.heap.size<k/\W.heap[k]?=some (.cells C.val 121))
def AZ(C:CD)(g:Nat)(hg:g<C.n5)(m5:C.n5<=3)(w:World):Calls PL 108 #[.agg C.val,.int .i64 g] w λe w'=>e=.returned (.bool true)/\Below w.heap.size w w':=by
 have h:=Fi C g m5 w;have e:bO (g:Int) 0 (C.n5-1)=true:=by simp[bO];omega
 rwa[e]at h
def IC{C:CD}{b:Bool}(h:C.b6 b=0):C.cx=0:=by
 unfold CD.b6 at h
 split at h
 ·rename_i a;exact a
 ·rename_i a;exact absurd h a
def ID(C:CD)(g:Nat)(w:World)(h:C.At w)(hg:g<C.n5)(m5:C.n5<=3)(hf:C.b6 true=0)(n:yR C g) :
 Calls PL 34 #[.agg C.val,.int .i64 g] w λe w'=>∃v,e=.returned (.tuple #[v,.int .i64 0])/\AY w' w.heap.size v (mD C g C.n4)/\Below w.heap.size w w':=by
 have p:=ab h;have M:=ab hf;have N:=ab n;have r:Hid (KB C w (w.alloc (.cells C.val 27))):=ab ⟨au _ _,(ba _ _).alloc (aP _) _⟩;clear h hf n
 go_enter (fx (by decide) Tryz.func34),Tryz.ntmps34
 go_upto_region 1 with fail
 refine cT 10 (KB C w) (Fo C) (λj=>j != 8&&j != 9) (alU C w) rfl (by kernel_rfl) (by kernel_rfl)
  (λi vs W s f h=>⟨λe=>(h.1 e).imp λk a=>⟨a.1,a.2.1,(f k).2 a.2.2⟩,λe=>(h.2 e).imp λk a=>⟨a.1,a.2.1,(f k).1 a.2.2⟩⟩) (λi o t vs O W P hd h=>⟨λe=>?_,λe=>?_⟩) ?_ ?_
 ·subst e;rw[<-P];exact h.1 rfl
 ·subst e;have Q:vs 8=O 8:=by
   simp only[aq,ar,aw,Option.some.injEq]at t;subst t;exact hd ⟨8,.data⟩ (cH.2 ⟨by simp,rfl⟩)
  rw[<-Q];exact h.2 rfl
 ·exact⟨r.out.box,r.out.low.drew⟩
 ·iterate 8 (
   apply aY
   case hE=>rfl
   case h=>
    intro vs W b hd;obtain⟨u,x,y,z,f4,A⟩:=bf b.box
    go_simp
    first
    |(go_at_call 108;refine(AZ C g hg m5 _).mono ?_;rintro e s⟨rfl,d⟩;exact⟨_,rfl,rfl,b.on d,Fo.on d⟩)
    |(go_at_call 90;refine(kF M.out (p.out.below b.low)).mono ?_;rintro e s⟨rfl,d⟩;exact⟨_,rfl,rfl,b.on d,Fo.on d⟩)
    |exact⟨rfl,Fo.on (ba _ _)⟩
   case hb=>intro vs;simp only[Act.put,aB,aF,aI];rfl)
  apply eH
  case hE=>rfl
  case hb=>intro vs;simp only[Act.put,aB,aF,aI];rfl
  case h=>
   intro vs W b hd
   go_simp
   have d:=(ba W.heap.size W).alloc (aP _) (.cells #[.int .i64 0,.int .i64 0,.slice none 0 0,.slice none 0 0,.slice none 0 0,.slice none 0 0] 121)
   first
   |exact⟨b.on d,Fo.on d,⟨λ_=>⟨W.heap.size,by simp[upd],b.lt,_,_,_,_,_,_,au W _⟩,λe=>absurd e (by decide)⟩⟩
  apply eH
  case hE=>rfl
  case hb=>intro vs;simp only[Act.put];rfl
  case h=>
   intro vs W b hd;obtain⟨k,a,B,x0,x1,x2,x3,x4,V,c⟩:=(hd ⟨8,.data⟩ (cH.2 ⟨by simp,rfl⟩) rfl).1 rfl;obtain⟨u,x,y,z,f4,A⟩:=bf c;have X:=tO c;rw[a]
   go_simp
   refine⟨⟨(cM (by omega)).trans b.box,Below.zQ b.low (by omega) _ _ _ _ _ _⟩,λq=>?_,⟨λe=>absurd e (by decide),λ_=>⟨k,by simp[upd,a],B,nC c⟩⟩⟩;by_cases m:q=k
   ·subst m;exact⟨λ_=>nC c,λ_=>⟨_,_,_,_,_,_,nC c⟩⟩
   ·exact⟨λe=>(cM m).trans e,fun⟨_,_,_,_,_,_,e⟩=>⟨_,_,_,_,_,_,(cM m).trans e⟩⟩
  refine cP λvs W b hd=>?_;obtain⟨k,a,B,c⟩:=(hd 9 (by omega) rfl).2 rfl;rw[a];obtain⟨u,x,y,z,f4,A⟩:=bf c;have Y:=ab c;have D:=ab b;clear c b hd a
  go_wp2_with (first
   |(go_at_call 110;refine(AX C g _).mono ?_;rintro e w'⟨rfl,l⟩;have E:Below W.heap.size W w':=(by rw[l];exact((ba _ _).alloc (aP _) _).alloc (by simp) _);have F:w'.heap[W.heap.size+1]?=some (.cells #[.int .i64 g] 3):=(by have H:=au (W.alloc (.cells C.val 121)) (.cells #[.int .i64 g] 3);rw[bc]at H;rw[l];exact H);have c1:w'.heap[W.heap.size]?=some (.cells C.val 121):=(by rw[l];exact(((ba (W.alloc (.cells C.val 121)).heap.size _).alloc (aP _) _).block _ (by simp)).trans (au W _));have I:=ab E;have R:=ab c1;have S:=ab F;clear l E c1 F)
   |(go_at_call 109;refine(NA C g N.out _ (p.out.below (Below.on D.out.low I.out)) R.out S.out).mono ?_;rintro e w3⟨v,rfl,J,K⟩;have T:=ab J;have U:=ab K;clear J K))
  have L:=Below.on D.out.low I.out;refine bs (v:=.tuple #[v,.int .i64 0]) ?_ rfl ⟨v,rfl,dJ T.out (by have:=L.size;omega),Below.on L U.out⟩;simp[br,Tryz.results34,go_sem]
def tD{W:World}{r:Nat}{x0 x1 x2 x3 x4 u0 u1 u2 u3 u4:Value}{t:bm}(h:W.heap[r]?=some (.cells #[x0,x1,x2,x3,x4] t)):(((((W.setCell ⟨r,0,none⟩ u0).setCell ⟨r,1,none⟩ u1).setCell ⟨r,2,none⟩ u2).setCell ⟨r,3,none⟩ u3).setCell ⟨r,4,none⟩ u4).heap[r]?=some (.cells #[u0,u1,u2,u3,u4] t):=by
 simp only[bl,a8,if_pos,h,bv];rfl
def gh{W:World}{r b:Nat}{u0 u1 u2 u3 u4:Value}(hb:b≠r):(((((W.setCell ⟨r,0,none⟩ u0).setCell ⟨r,1,none⟩ u1).setCell ⟨r,2,none⟩ u2).setCell ⟨r,3,none⟩ u3).setCell ⟨r,4,none⟩ u4).heap[b]?=W.heap[b]?:=by
 simp only[bl,a8,if_neg (Ne.symm hb)]
def vA(l:List nR):nR:=l.getLast?.getD (0,0,0,0,0)
abbrev aaW(x:nR):Array Value:=#[.int .i64 x.1,.int .i64 x.2.1,.int .i64 x.2.2.1,.int .i64 x.2.2.2.1,.int .i64 x.2.2.2.2]
def IE(l:List nR)(x:nR):vA (l++[x])=x:=by simp[vA]
def nU(C:CD)(g:Nat):Int×Int:=(vA (mD C g C.n4)).2.2.2
structure Si(w:World)(pre:List nR)(W:World):Prop where
 res:W.heap[w.heap.size+1]?=some (.cells #[.int .i64 0,.int .i64 0] 35)
 last:W.heap[w.heap.size+2]?=some (.cells (aaW (vA pre)) 61)
 low:Below w.heap.size w W
def yW{w W c:World}{row:Option Nat}{a:List nR}{B:Nat}(d:w.heap.size+3<=B)(h:Si w a W)(hg:W.grownBy c row)(b:∀r,row=some r->B<=r):Si w a c:=
 ⟨(hg.block _ (a9 h.res) λe=>by have:=b _ e.symm;omega).trans h.res,(hg.block _ (a9 h.last) λe=>by have:=b _ e.symm;omega).trans h.last,h.low.grown hg h.low.size λk e=>by have:=b _ e;omega⟩
def Lm(C:CD)(g:Nat)(P:yR C g)(w:World)(hA:C.At w) :
 Calls PL 118 #[.agg C.val,.int .i64 g] w (aO (.agg #[.int .i64 (nU C g).1,.int .i64 (nU C g).2]) w):=by
 have U:=ab hA;have V:=ab P;clear hA P;refine(bo (n:=9)).1 (bp (fx (by decide) Tryz.func118) rfl trivial ?_ rfl);simp only[Tryz.ntmps118,ac,ad,ae,aJ,aL,a6,a7,ag,ai,ao,ap];refine wpIn_wide.2 ?_;have y:Si w [] (((w.alloc (.cells C.val 121)).alloc (.cells #[.int .i64 0,.int .i64 0] 35)).alloc (.cells #[.int .i64 0,.int .i64 0,.int .i64 0,.int .i64 0,.int .i64 0] 61)):=by
  refine⟨?_,?_,(((ba _ _).alloc (aP _) _).alloc (by simp) _).alloc (by simp;omega) _⟩
  ·have b:=au (w.alloc (.cells C.val 121)) (.cells #[.int .i64 0,.int .i64 0] 35);rw[bc]at b;exact(((ba ((w.alloc (.cells C.val 121)).alloc (.cells #[.int .i64 0,.int .i64 0] 35)).heap.size _).alloc (aP _) _).block _ (by simp)).trans b
  ·have b:=au ((w.alloc (.cells C.val 121)).alloc (.cells #[.int .i64 0,.int .i64 0] 35)) (.cells #[.int .i64 0,.int .i64 0,.int .i64 0,.int .i64 0,.int .i64 0] 61);simp only[bc]at b;exact b
 have z:=ab y;clear y
 go_wp2_with (go_at_call 110;refine(AX C g _).mono ?_;rintro e w'⟨rfl,m⟩)
 have X:=z.out.low;have J:∃Y:World,Y=(((w.alloc (.cells C.val 121)).alloc (.cells #[.int .i64 0,.int .i64 0] 35)).alloc (.cells #[.int .i64 0,.int .i64 0,.int .i64 0,.int .i64 0,.int .i64 0] 61)):=⟨_,rfl⟩
 have E:w'.heap.size=w.heap.size+5:=by rw[m];simp
 have Q:w'.heap[w.heap.size+3]?=some (.cells C.val 121):=by
  rw[m];have b:=au (((w.alloc (.cells C.val 121)).alloc (.cells #[.int .i64 0,.int .i64 0] 35)).alloc (.cells #[.int .i64 0,.int .i64 0,.int .i64 0,.int .i64 0,.int .i64 0] 61)) (.cells C.val 121);simp only[bc]at b;exact((((ba (World.alloc (((w.alloc (.cells C.val 121)).alloc (.cells #[.int .i64 0,.int .i64 0] 35)).alloc (.cells #[.int .i64 0,.int .i64 0,.int .i64 0,.int .i64 0,.int .i64 0] 61)) (.cells C.val 121)).heap.size _).alloc (aP _) _).block _ (by simp)).trans b)
 have F:w'.heap[w.heap.size+4]?=some (.cells #[.int .i64 g] 3):=by
  rw[m];have b:=au ((((w.alloc (.cells C.val 121)).alloc (.cells #[.int .i64 0,.int .i64 0] 35)).alloc (.cells #[.int .i64 0,.int .i64 0,.int .i64 0,.int .i64 0,.int .i64 0] 61)).alloc (.cells C.val 121)) (.cells #[.int .i64 g] 3);simp only[bc]at b;exact b
 have H:Si w [] w':=by
  rw[m];exact yW (aP _) z.out ((bd _ _ none).trans (bd _ _ none)) (λr e=>by cases e)
 have d:=ab E;have L:=ab Q;have M:=ab F;rw[<-m];clear E Q F m X J;refine(wpIn_wide (n:=9)).1 ?_;refine yU (by omega) (gf:=144) (lb:=#[.pointer (some ⟨w.heap.size+3,0,none⟩),.pointer (some ⟨w.heap.size+4,0,none⟩)]) rfl (enters_of (fx (by decide) Tryz.func144) (by kernel_rfl) rfl)
  (yT 8 (by omega) (w.heap.size+3) (w.heap.size+4) w.heap.size g C V.out w rfl U.out)
  (λW I=>?_) Li (λW l o R hl Z hc hw=>Lj (n:=w.heap.size) (s:=w.heap.size+5) (by omega) W l o R (by have:=d.out;omega) Z hc hw) (λ_=>rfl)
  (Si w) (λs A B row hs hg N=>yW (B:=w'.heap.size) (by have:=d.out;omega) hs hg λr e=>(N r e).1) (λs A B row hs hg N=>yW (B:=w'.heap.size) (by have:=d.out;omega) hs hg λr e=>(N r e).1) H
  (λx a W=>∃k,W.heap[k]?=some (.cells (aaW x) 61)/\a={ tmps:=#[.agg C.val,.int .i64 g,.pointer (some ⟨w.heap.size,0,none⟩),undef,.pointer (some ⟨w.heap.size+1,0,none⟩),.pointer (some ⟨w.heap.size+2,0,none⟩),.pointer (some ⟨k,0,none⟩),.agg C.val,.int .i64 g,.func (.func 144) #[] #[.pointer (some ⟨w.heap.size+3,0,none⟩),.pointer (some ⟨w.heap.size+4,0,none⟩)],.agg (aaW x),undef,undef,undef],defers:=[] })
  ?A ?kg ?assign ?body ?done
 ·have e:∀k,k<w.heap.size->W.heap[k]?=w.heap[k]?:=λk f=>(I.block k (by have:=d.out;omega)).trans (H.low.block k f);exact⟨e,by have:=I.size;have:=d.out;omega,(I.block _ (by have:=d.out;omega)).trans L.out,(I.block _ (by have:=d.out;omega)).trans M.out⟩
 case A=>
  rintro x a W l o R hl hc⟨k,f,ha⟩;refine⟨k,(bj (λe=>?_)).trans f,ha⟩;subst e;rw[hl]at f;cases f;cases hc
 case kg=>
  intro A B hs hg;have:=d.out;exact⟨λk f=>hg.block k (by omega) (by simp),λk c t h _ _=>(hg.block k (a9 h) (by simp)).trans h,hg.size⟩
 case assign=>
  intro l x W K O;dsimp only[VS]
  gi_wp2
  refine O _ _ (bd W _ none) ⟨W.heap.size,au _ _,rfl⟩
 case body=>
  rintro l pre x a W i⟨k,f,rfl⟩Nw;obtain⟨k0,k1,k2,k3,k4⟩:=qO f;obtain⟨l0,l1,l2,l3,l4⟩:=qO i.last;have fl:=tO i.last;have j:=ab i;clear i f
  gi_wp2
  have Cu:=a9 j.out.last;refine⟨((((bA W _ _).trans (bA _ _ _)).trans (bA _ _ _)).trans (bA _ _ _)).trans (bA _ _ _),⟨λq hq=>gh (by omega),λq c t h b h2=>(gh (λe=>?_)).trans h,by simp⟩,⟨(gh (by omega)).trans j.out.res,by rw[IE];exact tD j.out.last,((((j.out.low.setCell (p:=⟨w.heap.size+2,0,none⟩) (by simp) _).setCell (p:=⟨w.heap.size+2,1,none⟩) (by simp) _).setCell (p:=⟨w.heap.size+2,2,none⟩) (by simp) _).setCell (p:=⟨w.heap.size+2,3,none⟩) (by simp) _).setCell (p:=⟨w.heap.size+2,4,none⟩) (by simp) _⟩⟩;subst e;have S:=j.out.last;rw[h]at S;cases S;exact b rfl
 case done=>
  intro D W T i O;obtain⟨l0,l1,l2,l3,l4⟩:=qO i.last;obtain⟨t0,t1,u0,u1⟩:=uJ i.res;have j:=ab i;have HD:=ab T;clear i T
  go_wp2
  have hK':=((bA W ⟨w.heap.size+1,0,none⟩ (.int .i64 (vA (mD C g C.n4)).2.2.2.1)).trans (bA _ ⟨w.heap.size+1,1,none⟩ (.int .i64 (vA (mD C g C.n4)).2.2.2.2))).same D _ O rfl;obtain⟨d0,d1,_,_⟩:=yD (u:=.int .i64 (vA (mD C g C.n4)).2.2.2.1) (v:=.int .i64 (vA (mD C g C.n4)).2.2.2.2) t0 t1;have e0:=cell_kept d0 (bt _ D (.deferred none)) (λr e=>by cases e;exact⟨_,hK',rfl⟩);have e1:=cell_kept d1 (bt _ D (.deferred none)) (λr e=>by cases e;exact⟨_,hK',rfl⟩);refine⟨by simp,.inl ⟨_,_,rfl,bq hK',?_⟩⟩;refine⟨.agg #[.int .i64 (nU C g).1,.int .i64 (nU C g).2],?_,rfl,(((j.out.low.setCell (p:=⟨w.heap.size+1,0,none⟩) (a5 _) _).setCell (p:=⟨w.heap.size+1,1,none⟩) (a5 _) _)).trans (belowK_b (w:=w) (aP _) _ D _ _ (by have:=HD.out;have:=d.out;omega) hK' rfl rfl)⟩;simp[br,Tryz.results118,go_sem,e0,e1,nU]
structure KE(C:CD)(w W:World):Prop where
 box:W.heap[w.heap.size]?=some (.cells C.val 27)
 res:W.heap[w.heap.size+1]?=some (.cells #[.int .i64 0,.int .i64 0] 35)
 low:Below w.heap.size w W
def KE.on{C:CD}{w W b:World}(h:KE C w W)(a:Below W.heap.size W b):KE C w b:=
 ⟨(a.block _ (a9 h.box)).trans h.box,(a.block _ (a9 h.res)).trans h.res,Below.on h.low a⟩
def KE.lt{C:CD}{w W:World}(h:KE C w W):w.heap.size+1<W.heap.size:=a9 h.res
def alV(C:CD)(w:World)(j:Nat)(vs:Nat->Value)(W:World):Prop:=
 (j=8->∃k,vs 8=.pointer (some ⟨k,0,none⟩)/\w.heap.size+1<k/\Six W k)/\(j=9->∃k,vs 8=.pointer (some ⟨k,0,none⟩)/\w.heap.size+1<k/\W.heap[k]?=some (.cells C.val 121))
def Sj(C:CD)(g:Nat)(w:World)(h:C.At w)(hg:g<C.n5)(m5:C.n5<=3)(hf:C.b6 true=0)(x:yR C g) :
 Calls PL 59 #[.agg C.val,.int .i64 g] w (aO (.tuple #[.agg #[.int .i64 (nU C g).1,.int .i64 (nU C g).2],.int .i64 0]) w):=by
 have y:=ab h;have K:=ab hf;have L:=ab x
 have n:Hid (KE C w ((w.alloc (.cells C.val 27)).alloc (.cells #[.int .i64 0,.int .i64 0] 35))):=ab ⟨(((ba (w.alloc (.cells C.val 27)).heap.size _).alloc (aP _) _).block _ (by simp)).trans (au w _),by
  have z:=au (w.alloc (.cells C.val 27)) (.cells #[.int .i64 0,.int .i64 0] 35);rw[bc]at z
  exact z,((ba _ _).alloc (aP _) _).alloc (by simp) _⟩
 clear h hf x
 go_enter (fx (by decide) Tryz.func59),Tryz.ntmps59
 go_upto_region 1 with fail
 refine cT 10 (KE C w) (Fo C) (λj=>j != 8&&j != 9) (alV C w) rfl (by kernel_rfl) (by kernel_rfl)
  (λi vs W A l h=>⟨λe=>(h.1 e).imp λk b=>⟨b.1,b.2.1,(l k).2 b.2.2⟩,λe=>(h.2 e).imp λk b=>⟨b.1,b.2.1,(l k).1 b.2.2⟩⟩) (λi o B vs M W N hd h=>⟨λe=>?_,λe=>?_⟩) ?_ ?_
 ·subst e;rw[<-N];exact h.1 rfl
 ·subst e;have O:vs 8=M 8:=by
   simp only[aq,ar,aw,Option.some.injEq]at B;subst B;exact hd ⟨8,.data⟩ (cH.2 ⟨by simp,rfl⟩)
  rw[<-O];exact h.2 rfl
 ·exact⟨n.out.box,n.out.res,n.out.low.drew⟩
 ·iterate 8 (
   apply aY
   case hE=>rfl
   case h=>
    intro vs W a hd;obtain⟨D,E,F,H,f4,I⟩:=bf a.box
    go_simp
    first
    |(go_at_call 108;refine(AZ C g hg m5 _).mono ?_;rintro e A⟨rfl,d⟩;exact⟨_,rfl,rfl,a.on d,Fo.on d⟩)
    |(go_at_call 90;refine(kF K.out (y.out.below a.low)).mono ?_;rintro e A⟨rfl,d⟩;exact⟨_,rfl,rfl,a.on d,Fo.on d⟩)
    |exact⟨rfl,Fo.on (ba _ _)⟩
   case hb=>intro vs;simp only[Act.put,aB,aF,aI];rfl)
  apply eH
  case hE=>rfl
  case hb=>intro vs;simp only[Act.put,aB,aF,aI];rfl
  case h=>
   intro vs W a hd
   go_simp
   have d:=(ba W.heap.size W).alloc (aP _) (.cells #[.int .i64 0,.int .i64 0,.slice none 0 0,.slice none 0 0,.slice none 0 0,.slice none 0 0] 121)
   first
   |exact⟨a.on d,Fo.on d,⟨λ_=>⟨W.heap.size,by simp[upd],a.lt,_,_,_,_,_,_,au W _⟩,λe=>absurd e (by decide)⟩⟩
  apply eH
  case hE=>rfl
  case hb=>intro vs;simp only[Act.put];rfl
  case h=>
   intro vs W a hd;obtain⟨k,b,J,x0,x1,x2,x3,x4,S,c⟩:=(hd ⟨8,.data⟩ (cH.2 ⟨by simp,rfl⟩) rfl).1 rfl;obtain⟨D,E,F,H,f4,I⟩:=bf c;have T:=tO c;rw[b]
   go_simp
   refine⟨⟨(cM (by omega)).trans a.box,(cM (by omega)).trans a.res,Below.zQ a.low (by omega) _ _ _ _ _ _⟩,λq=>?_,⟨λe=>absurd e (by decide),λ_=>⟨k,by simp[upd,b],J,nC c⟩⟩⟩;by_cases r:q=k
   ·subst r;exact⟨λ_=>nC c,λ_=>⟨_,_,_,_,_,_,nC c⟩⟩
   ·exact⟨λe=>(cM r).trans e,fun⟨_,_,_,_,_,_,e⟩=>⟨_,_,_,_,_,_,(cM r).trans e⟩⟩
  refine cP λvs W a hd=>?_;obtain⟨k,b,J,c⟩:=(hd 9 (by omega) rfl).2 rfl;rw[b];obtain⟨D,E,F,H,f4,I⟩:=bf c;have U:=ab c;have f:=ab a;clear c a hd b;obtain⟨V,t1,u0,u1⟩:=uJ f.out.res;have fr:=tO f.out.res
  go_wp2_with (go_at_call 118;refine(Lm C g L.out _ (y.out.below f.out.low)).mono ?_;rintro e w3⟨rfl,s⟩;have m:=(s.block _ (a9 f.out.res)).trans f.out.res;obtain⟨X,v1,Y,Z⟩:=uJ m;have P:=tO m;have Q:=ab s;have t:=ab m;clear s m)
  have R:=Below.on f.out.low Q.out;refine bs (v:=.tuple #[.agg #[.int .i64 (nU C g).1,.int .i64 (nU C g).2],.int .i64 0]) ?_ rfl ⟨rfl,(R.setCell (p:=⟨w.heap.size+1,0,none⟩) (a5 _) _).setCell (p:=⟨w.heap.size+1,1,none⟩) (a5 _) _⟩;obtain⟨a0,a1,_,_⟩:=uJ (yL (u:=.int .i64 (nU C g).1) (v:=.int .i64 (nU C g).2) t.out);simp[br,Tryz.results59,go_sem,a0,a1]
def Fp(C:CD)(R:World->Value->Prop)(w:World)(h:C.At w)(hf:C.b6 true=0)
 (b:∀W,C.At W->Calls PL 111 #[.agg C.val] W λe w'=>∃v,e=.returned v/\R w' v/\Below W.heap.size W w') :
 Calls PL 37 #[.agg C.val] w λe w'=>∃v,e=.returned (.tuple #[v,.int .i64 0])/\R w' v/\Below w.heap.size w w':=by
 have c:=ab h;have k:=ab hf;have a:=ab b;have d:Hid (KB C w (w.alloc (.cells C.val 27))):=ab ⟨au _ _,(ba _ _).alloc (aP _) _⟩;clear h hf b
 go_enter (fx (by decide) Tryz.func37),Tryz.ntmps37
 go_wp2_with (first
  |(go_at_call 90;refine(kF k.out (c.out.below d.out.low)).mono ?_;rintro e w1⟨rfl,f⟩;have g:=ab (d.out.on f);clear f)
  |(go_at_call 111;refine(a.out _ (c.out.below (g.out.alloc (.cells C.val 121)).low)).mono ?_;rintro e w2⟨v,rfl,i,j⟩;have l:=ab ((g.out.alloc (.cells C.val 121)).on j);have m:=ab i;clear j i))
 refine bs (v:=.tuple #[v,.int .i64 0]) ?_ rfl ⟨v,rfl,m.out,l.out.low⟩;simp[br,Tryz.results37,go_sem]
end Go.Proofs
