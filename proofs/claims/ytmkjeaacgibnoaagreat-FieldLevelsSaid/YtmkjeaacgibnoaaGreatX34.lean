/- Part of the proof of FieldLevels: see X45. -/
import Derived.Test.YtmkjeaacgibnoaaGreatX33
import Derived.Deep.CutRange
import Derived.Deep.RegionWith
import Derived.RangeFuncFrom
set_option linter.all false
open Go.World renaming cell?->aa,frozen?->ab,cell?_setCell_other->ac,cell?_setCell_same'->ad,frozen?_setCell->ae,size_alloc->ag
open Go.Addr renaming block->ai
open Go.KeepsOthers renaming setCell->ao
open Go.Lib renaming hid->ap
open Go renaming callsIn_wide->aq,callsIn_of_wp_marks->ar,wp_region_noPanic->aw,wpIn_rangeFunc_ownF->aB,cell_kept->aF,frozen_kept->aI,ownFrom_below->aJ,grownBy_putObj'->aL,run_takeDeferred->aP,results->aT
open List renaming size_toArray->a8,length_cons->a9,length_nil->ba,push_toArray->bb,append_toArray->bc,nil_append->bd,cons_append->bg,foldl_append->bi,foldl_cons->bj,foldl_nil->bl,mem_cons_self->bm,mem_cons_of_mem->bo
open Nat renaming reduceAdd->bp,reduceSub->bq,le_refl->br,lt_of_lt_of_le->bs,le_succ->bt
open Array renaming replicate_succ->bv,replicate_zero->bw
open Go.RowKit.Below renaming refl->bx
open Go.Proofs.Below renaming on->bA,zQ->bC
open Int renaming eq_ofNat_of_zero_le->bL,le_total->bM,mul_nonneg->bR,neg_mul_neg->bT,mul_le_mul->bX
namespace Go.Proofs
open Go.RowKit Go.Shelf
attribute [local go_sem] Oper.semAt_some
set_option maxRecDepth 100000
set_option maxHeartbeats 4000000
def iJ.NY(q:iJ):List Int:=cJ (q.n 1) (q.n 3) (q.n 2-q.n 1+1).toNat (q.n 4-q.n 3+1).toNat
def iJ.low(q:iJ):Int:=q.NY.foldl min 90
def iJ.high(q:iJ):Int:=q.NY.foldl max 0
structure iJ.Ok(q:iJ):Prop where
 a1:1<=q.n 1
 a2:q.n 1<=q.n 2
 a3:q.n 2<=90
 a4 : -q.n 1<=q.n 3
 a5:q.n 3<=q.n 4
 a6:q.n 4<=q.n 1
def ck{n:Nat}{f:Nat->Int}(h:ia n f=0):∀j,j<n->f j=0:=by
 intro j
 induction j using Nat.strongRecOn with
 |_ j a=>
  intro b;by_cases hf:f j=0
  ·exact hf
  ·have:=eG (m:=j) (λi hi=>a i hi (by omega)) b hf;omega
def Kq{C:CD}(hc:C.cx=0){i:Nat}(hi:i<C.n4):(C.x4 i).Ok:=by
 have b:kA C.p C.n2 C.n3 C.n4 C.x4=0:=ck hc 3 (by omega);unfold kA at b
 split at b
 case isFalse=>cases b
 have a:=ck b i hi;unfold gM at a
 split at a
 case isFalse h=>exact absurd a h
 split at a
 case isFalse=>cases a
 rename_i c
 split at a
 ·cases a
 rename_i d;simp only[eK,Bool.and_eq_true,decide_eq_true_eq]at c;exact⟨by omega,by omega,by omega,by omega,by omega,by omega⟩
def Kr{C:CD}{b:Bool}{w:World}(h:C.b6 b≠0)(k:C.At w):Calls PL 90 #[.agg C.val,.bool b] w (aO (.tuple #[.agg #[.int .i64 0,.int .i64 0,.slice none 0 0,.slice none 0 0,.slice none 0 0,.slice none 0 0],.int .i64 (C.b6 b)]) w):=by
 have:=Ev C b w k;rwa[CD.sX,if_neg h]at this
def kF{C:CD}{b:Bool}{w:World}(h:C.b6 b=0)(k:C.At w):Calls PL 90 #[.agg C.val,.bool b] w (aO (.tuple #[.agg C.val,.int .i64 0]) w):=by
 have:=Ev C b w k;rwa[CD.sX,if_pos h,h]at this
structure CD.Box(C:CD)(B:Nat)(W0:World):Prop where
 Tj:W0.heap[B]?=some (.cells C.val 27)
def uJ{w:World}{k:Nat}{x0 x1:Value}{t:TypeId}(h:w.heap[k]?=some (.cells #[x0,x1] t)):w.cell? ⟨k,0,none⟩=some x0/\w.cell? ⟨k,1,none⟩=some x1/\w.frozen? ⟨k,0,none⟩=false/\w.frozen? ⟨k,1,none⟩=false:=by
 simp[aa,ab,h]
def yD{W:World}{k:Nat}{x y u v:Value}(a0:W.cell? ⟨k,0,none⟩=some x)(a1:W.cell? ⟨k,1,none⟩=some y) :
 ((W.setCell ⟨k,0,none⟩ u).setCell ⟨k,1,none⟩ v).cell? ⟨k,0,none⟩=some u/\((W.setCell ⟨k,0,none⟩ u).setCell ⟨k,1,none⟩ v).cell? ⟨k,1,none⟩=some v/\
 (∀b o,b≠k->((W.setCell ⟨k,0,none⟩ u).setCell ⟨k,1,none⟩ v).cell? ⟨b,o,none⟩=W.cell? ⟨b,o,none⟩)/\(∀p,((W.setCell ⟨k,0,none⟩ u).setCell ⟨k,1,none⟩ v).frozen? p=W.frozen? p):=by
 refine⟨?_,?_,λb o hb=>?_,λp=>?_⟩
 ·exact(ac _ _ _ _ (by simp)).trans (ad _ _ _ (by rw[a0];rfl))
 ·exact ad _ _ _ (by rw[(ac _ _ _ _ (by simp)).trans a1];rfl)
 ·exact(ac _ _ _ _ (λh=>hb (congrArg ai h).symm)).trans (ac _ _ _ _ (λh=>hb (congrArg ai h).symm))
 ·rw[ae,ae]
def Rs{w W:World}{k B r:Nat}(e:B≠k)(b:r≠k)(c:w.heap.size<=k){m M u v d v':Int}{y0 y1:Value}(a0:W.cell? ⟨k,0,none⟩=some (.int .i64 m))(a1:W.cell? ⟨k,1,none⟩=some (.int .i64 M))(a2:W.frozen? ⟨k,0,none⟩=false)(a3:W.frozen? ⟨k,1,none⟩=false)
 (a4:W.cell? ⟨r,0,none⟩=some y0) (f:W.cell? ⟨r,1,none⟩=some y1) (g:W.frozen? ⟨r,0,none⟩=false) (h:W.frozen? ⟨r,1,none⟩=false) (i:Below w.heap.size w W) (j:u=d) (hv:v=v') :
 KeepsOthers W ((W.setCell ⟨k,0,none⟩ (.int .i64 u)).setCell ⟨k,1,none⟩ (.int .i64 v))/\yC B W ((W.setCell ⟨k,0,none⟩ (.int .i64 u)).setCell ⟨k,1,none⟩ (.int .i64 v))/\
 ((((W.setCell ⟨k,0,none⟩ (.int .i64 u)).setCell ⟨k,1,none⟩ (.int .i64 v)).cell? ⟨k,0,none⟩=some (.int .i64 d)/\((W.setCell ⟨k,0,none⟩ (.int .i64 u)).setCell ⟨k,1,none⟩ (.int .i64 v)).cell? ⟨k,1,none⟩=some (.int .i64 v')/\((W.setCell ⟨k,0,none⟩ (.int .i64 u)).setCell ⟨k,1,none⟩ (.int .i64 v)).frozen? ⟨k,0,none⟩=false/\((W.setCell ⟨k,0,none⟩ (.int .i64 u)).setCell ⟨k,1,none⟩ (.int .i64 v)).frozen? ⟨k,1,none⟩=false/\
 ((W.setCell ⟨k,0,none⟩ (.int .i64 u)).setCell ⟨k,1,none⟩ (.int .i64 v)).cell? ⟨r,0,none⟩=some y0/\((W.setCell ⟨k,0,none⟩ (.int .i64 u)).setCell ⟨k,1,none⟩ (.int .i64 v)).cell? ⟨r,1,none⟩=some y1/\((W.setCell ⟨k,0,none⟩ (.int .i64 u)).setCell ⟨k,1,none⟩ (.int .i64 v)).frozen? ⟨r,0,none⟩=false/\((W.setCell ⟨k,0,none⟩ (.int .i64 u)).setCell ⟨k,1,none⟩ (.int .i64 v)).frozen? ⟨r,1,none⟩=false)/\
 Below w.heap.size w ((W.setCell ⟨k,0,none⟩ (.int .i64 u)).setCell ⟨k,1,none⟩ (.int .i64 v))):=by
 subst j hv;obtain⟨c0,c1,a,c3⟩:=yD (u:=.int .i64 u) (v:=.int .i64 v) a0 a1;exact⟨(ao _ _ _).trans (ao _ _ _),λo=>a _ _ e,⟨c0,c1,(c3 _).trans a2,(c3 _).trans a3,(a _ _ b).trans a4,(a _ _ b).trans f,(c3 _).trans g,(c3 _).trans h⟩,(i.setCell (p:=⟨k,0,none⟩) c _).setCell (p:=⟨k,1,none⟩) c _⟩
abbrev iJ.val(q:iJ):Array Value:=#[.string q.name,.int .i64 (q.n 1),.int .i64 (q.n 2),.int .i64 (q.n 3),.int .i64 (q.n 4),.int .i64 (q.n 5),.int .i64 (q.n 6),.int .i64 (q.n 7),.int .i64 (q.n 8),.int .i64 (q.n 9),.int .i64 (q.n 10),.slice q.lb q.ln q.lc]
def yF(q:iJ)(w:World):Calls PL 92 #[.agg q.val] w λe w'=>e=.returned (.func (.func 135) #[] #[.pointer (some ⟨w.heap.size,0,none⟩)])/\w'=w.alloc (.cells q.val 73):=by
 go_enter (fx (by decide) Tryz.func92),Tryz.ntmps92
 go_wp2
 go_ret
 exact⟨rfl,rfl⟩
def CD.kR(C:CD)(n:Int):Value:=if C.b6 (bO n 0 (C.n4-1))=0 then .tuple #[.agg #[.int .i64 (C.x4 n.toNat).low,.int .i64 (C.x4 n.toNat).high],.int .i64 0] else .tuple #[.agg #[.int .i64 0,.int .i64 0],.int .i64 (C.b6 (bO n 0 (C.n4-1)))]
def nB(C:CD)(n:Int)(w:World)(h:C.At w):Calls PL 24 #[.agg C.val,.int .i64 n] w (aO (C.kR n) w):=by
 have H:=ap (λw1 o=>h.below (w':=w1) o);have m4:=h.m4;obtain⟨S,T,U,V,X,Y,Z,c3,b4,n4,c4,b5,n5,c5,hO⟩:∃(S T:Int)(U:Option Addr)(V X:Nat)(Y:Option Addr)(Z c3:Nat)(b4:Option Addr)(n4 c4:Nat)(b5:Option Addr)(n5 c5:Nat),∀W,C.At W->Calls PL 90 #[.agg C.val,.bool (bO n 0 (C.n4-1))] W (aO (.tuple #[.agg #[.int .i64 S,.int .i64 T,.slice U V X,.slice Y Z c3,.slice b4 n4 c4,.slice b5 n5 c5],.int .i64 (C.b6 (bO n 0 (C.n4-1)))]) W):=by
  by_cases hf:C.b6 (bO n 0 (C.n4-1))=0
  ·exact⟨_,_,_,_,_,_,_,_,_,_,_,_,_,_,λW L=>by rw[hf];exact kF hf L⟩
  ·exact⟨_,_,_,_,_,_,_,_,_,_,_,_,_,_,λW L=>Kr hf L⟩
 have HO:=ap hO;have H1:=ap h;clear h hO;refine(aq (n:=9)).1 (ar (fx (by decide) Tryz.func24) rfl trivial ?_ rfl);simp only[Tryz.ntmps24,a8,a9,ba,bp,bq,bv,bw,bb,bc,bd,bg];refine wpIn_wide.2 ?_
 go_wp2
 obtain⟨a,q⟩:∃a:World,a=(w.alloc (.cells C.val 27)).alloc (.cells #[.int .i64 0,.int .i64 0] 35):=⟨_,rfl⟩
 have y:Below w.heap.size w a:=by rw[q];exact((bx _ _).alloc (br _) _).alloc (by simp) _
 have z:Hid (C.Box w.heap.size a):=ap ⟨by rw[q];exact((((bx (w.alloc (.cells C.val 27)).heap.size _).alloc (br _) _)).block _ (by simp)).trans (au w _)⟩;have M:Hid (a.heap[w.heap.size+1]?=some (.cells #[.int .i64 0,.int .i64 0] 35)):=ap (by rw[q];have:=au (w.alloc (.cells C.val 27)) (.cells #[.int .i64 0,.int .i64 0] 35);rwa[ag]at this);rw[<-q];clear q;obtain⟨f0,f1,f2,f3,f4,f5⟩:=bf z.out.Tj;have E:w.heap.size<a.heap.size:=getElem?_lt' z.out.Tj;have XZ:w.heap.size<a.heap.size+1:=by omega
 go_cut [6,7] from 10 to 17 (fun(v6:Value)(v7:Value)(wx:World)=>v7=.int .i64 (C.b6 (bO n 0 (C.n4-1)))/\Below a.heap.size a wx)
 case first=>
  refine aw ?_
  go_region_with (first|(go_at_call 91;refine(AE C n _ m4).mono ?_;rintro e w1⟨rfl,F⟩;obtain⟨lp,lR⟩:=cW F;(first|(with_reducible have d:=bA ((bx a.heap.size a).drew) F)|(have d:=bA ((bx a.heap.size a).drew.alloc (bx a.heap.size a).drew.size _) F;have aH:a.heap.size<w1.heap.size:=by have:=F.size;simp at this;omega));have dx:=d.size;obtain⟨g0,g1,g2,g3,N,g5⟩:=bf ((d.block _ E).trans z.out.Tj);have hzw:w.heap.size<w1.heap.size:=bs E dx)|(go_at_call 90;refine(HO.out _ (H.out _ (bA y ?hb))).mono ?_;(with_reducible case hb=>first|exact d|exact d.alloc d.size _);rintro e w2⟨rfl,O⟩;obtain⟨hc2,hf2⟩:=cW O;(with_reducible first|have t:=bA d O|have t:=bA (d.alloc d.size _) O)))
  all_goals (refine NoPanic.normal ?_;go_wp2_with fail;go_meet;case rel=>refine⟨rfl,?_⟩;with_reducible first|exact bC t (br _) _ _ _ _ _ _|exact bC t dx _ _ _ _ _ _|exact t.alloc t.size _)
 case rest=>
  obtain⟨rfl,f⟩:=hcut;have b:w.heap.size+1<a.heap.size:=getElem?_lt' M.out;obtain⟨I,J,q0,q1⟩:=uJ ((f.block _ b).trans M.out);by_cases hf:C.b6 (bO n 0 (C.n4-1))=0
  ·have hA:=H.out wc (bA y f);have P:C.cx=0/\bO n 0 (C.n4-1)=true:=by
    unfold CD.b6 at hf
    split at hf
    ·split at hf
     ·exact⟨by assumption,by assumption⟩
     ·cases hf
    ·exact absurd hf (by assumption)
   obtain⟨hk,hb⟩:=P;have jH:0<=n/\n<=(C.n4:Int)-1:=by simpa[bO]using hb
   obtain⟨i,rfl⟩:=bL jH.1;have hi:i<C.n4:=by omega
   have mS:(i:Int)<C.n4:=by omega
   have OK:=ap (Kq hk hi);obtain⟨g0,g1,g2,g3,N,g5⟩:=bf ((f.block _ E).trans z.out.Tj);rw[hA.s4 (by omega)]at N;have k0:=hA.AD i hi;have k1:=hA.dB i hi 1 (by omega) (by omega);have k2:=hA.dB i hi 2 (by omega) (by omega);have k3:=hA.dB i hi 3 (by omega) (by omega);have k4:=hA.dB i hi 4 (by omega) (by omega);have k5:=hA.dB i hi 5 (by omega) (by omega);have k6:=hA.dB i hi 6 (by omega) (by omega);have k7:=hA.dB i hi 7 (by omega) (by omega);have k8:=hA.dB i hi 8 (by omega) (by omega);have k9:=hA.dB i hi 9 (by omega) (by omega);have CG:=hA.dB i hi 10 (by omega) (by omega);have CH:=hA.nj i hi;have ER:=hA.h4;have wD:w.heap.size<wc.heap.size:=bs E f.size;rw[hf];clear hA hk hb jH f0 f1 f2 f3 f4 f5
   go_wp2_with (go_at_call 92;refine(yF (C.x4 i) _).mono ?_;rintro e w'⟨rfl,rfl⟩)
   obtain⟨j,m⟩:∃j:World,j=(wc.alloc (.cells #[.int .i64 90,.int .i64 0] 35)).alloc (.cells (C.x4 i).val 73):=⟨_,rfl⟩
   have vL:j.heap.size=wc.heap.size+2:=by rw[m];simp
   have d:Below wc.heap.size wc j:=by rw[m];exact((bx _ _).alloc (br _) _).alloc (by simp) _
   have hp:j.heap[wc.heap.size+1]?=some (.cells (C.x4 i).val 73):=by
    have:=au (wc.alloc (.cells #[.int .i64 90,.int .i64 0] 35)) (.cells (C.x4 i).val 73);rw[ag]at this;rw[m];exact this
   have hq:j.heap[wc.heap.size]?=some (.cells #[.int .i64 90,.int .i64 0] 35):=by
    rw[m];exact((((bx (wc.alloc (.cells #[.int .i64 90,.int .i64 0] 35)).heap.size _).alloc (br _) _)).block _ (by simp)).trans (au wc _)
   have Yc:=(d.block _ (bs b f.size)).trans ((f.block _ b).trans M.out);have hrw:w.heap.size+1<wc.heap.size:=bs b f.size;have k:Below w.heap.size w j:=bA (bA y f) d;rw[<-m];clear m k0 k1 k2 k3 k4 k5 k6 k7 k8 k9 CG CH g0 g1 g2 g3 N g5 I J q0 q1;obtain⟨p0,p1,p2,p3,p4,p5,p6,p7,p8,p9,Cz,Fy⟩:=gx hp;obtain⟨I,J,q0,q1⟩:=uJ Yc;obtain⟨t0,t1,u0,u1⟩:=uJ hq;obtain⟨o1,o2,o3,o4,o5,o6⟩:=OK.out;refine(wpIn_wide (n:=9)).1 ?_;refine aB rfl (by omega) (gf:=135) (lb:=#[.pointer (some ⟨wc.heap.size+1,0,none⟩)]) rfl trivial (enters_of (fx (by decide) Tryz.func135) (by kernel_rfl) rfl)
    (tg 8 (by omega) (wc.heap.size+1) ((C.x4 i).n 1) ((C.x4 i).n 3) ((C.x4 i).n 2-(C.x4 i).n 1+1).toNat ((C.x4 i).n 4-(C.x4 i).n 3+1).toNat o1 (by omega) (by omega) o4 (by omega) (by omega) j (by omega) p1 (by rw[p2];congr 2;omega) p3 (by rw[p4];congr 2;omega))
    Km (Ko (by omega)) (bx _ _) (λ_=>rfl)
    (λg W=>(W.cell? ⟨wc.heap.size,0,none⟩=some (.int .i64 (g.foldl min 90))/\W.cell? ⟨wc.heap.size,1,none⟩=some (.int .i64 (g.foldl max 0))/\W.frozen? ⟨wc.heap.size,0,none⟩=false/\W.frozen? ⟨wc.heap.size,1,none⟩=false/\W.cell? ⟨w.heap.size+1,0,none⟩=some (.int .i64 0)/\W.cell? ⟨w.heap.size+1,1,none⟩=some (.int .i64 0)/\W.frozen? ⟨w.heap.size+1,0,none⟩=false/\W.frozen? ⟨w.heap.size+1,1,none⟩=false)/\Below w.heap.size w W)
    (λ_ _ _=>False)
    (OwnFrom.and (Own.from (λs A B row hs hg b=>⟨aF hs.1 hg b,aF hs.2.1 hg b,(aI hs.1 hg b).trans hs.2.2.1,(aI hs.2.1 hg b).trans hs.2.2.2.1,aF hs.2.2.2.2.1 hg b,aF hs.2.2.2.2.2.1 hg b,(aI hs.2.2.2.2.1 hg b).trans hs.2.2.2.2.2.2.1,(aI hs.2.2.2.2.2.1 hg b).trans hs.2.2.2.2.2.2.2⟩) _) (aJ (br _) (by have:=k.size;omega)))
    (λ_ _ _ _ _ hs _ _=>hs)
    ⟨⟨t0,t1,u0,u1,I,J,q0,q1⟩,k⟩
    (λx=>{ tmps:=#[.agg C.val,.int .i64 i,.pointer (some ⟨w.heap.size,0,none⟩),undef,.pointer (some ⟨w.heap.size+1,0,none⟩),.int .i64 0,u6,.int .i64 0,.pointer (some ⟨wc.heap.size,0,none⟩),.int .i64 x,u10,u11,u12,u13,u14,u15,u16,u17,.int .i64 0,.bool false,undef,undef,.agg #[.int .i64 90,.int .i64 0],.pointer (some ⟨w.heap.size,4,none⟩),.slice (some ⟨C.k4,C.o4,none⟩) C.n4 C.c4,.int .i64 i,.pointer (some ⟨C.k4,C.o4+i*12,none⟩),.agg (C.x4 i).val,.func (.func 135) #[] #[.pointer (some ⟨wc.heap.size+1,0,none⟩)],.int .i64 x,undef,undef,undef,undef,undef,undef,undef,undef,undef,undef,undef],defers:=[] }) ?assign ?body ?done ?stop
   case assign=>
    intro l x W K Q
    gi_wp2
    exact Q
   case body=>
    rintro l g x W⟨⟨a0,a1,a2,a3,a4,R,a6,a7⟩,o⟩_
    gi_wp2
    all_goals (
     refine Rs (by omega) (by omega) (by omega) a0 a1 a2 a3 a4 R a6 a7 o ?_ ?_
     ·rw[bi];simp only[bj,bl];omega
     ·rw[bi];simp only[bj,bl];omega)
   case done=>
    rintro D ys W hD rfl⟨⟨a0,a1,a2,a3,a4,R,a6,a7⟩,o⟩Q;replace a0:W.cell? ⟨wc.heap.size,0,none⟩=some (.int .i64 (C.x4 i).low):=a0;replace a1:W.cell? ⟨wc.heap.size,1,none⟩=some (.int .i64 (C.x4 i).high):=a1
    go_wp2
    have hK':=((ao W ⟨w.heap.size+1,0,none⟩ (.int .i64 (C.x4 i).low)).trans (ao _ ⟨w.heap.size+1,1,none⟩ (.int .i64 (C.x4 i).high))).same D _ Q rfl;obtain⟨d0,d1,_,_⟩:=yD (u:=.int .i64 (C.x4 i).low) (v:=.int .i64 (C.x4 i).high) a4 R;have e0:=aF d0 (aL _ D (.deferred none)) (λr e=>by cases e;exact⟨_,hK',rfl⟩);have e1:=aF d1 (aL _ D (.deferred none)) (λr e=>by cases e;exact⟨_,hK',rfl⟩);refine⟨by simp,.inl ⟨_,_,rfl,aP hK',?_⟩⟩;refine⟨C.kR i,?_,rfl,(((o.setCell (p:=⟨w.heap.size+1,0,none⟩) (bt _) _).setCell (p:=⟨w.heap.size+1,1,none⟩) (bt _) _)).trans (belowK_b (w:=w) (br _) _ D _ _ (by have:=k.size;omega) hK' rfl rfl)⟩;rw[CD.kR,if_pos hf];simp[aT,Tryz.results24,go_sem,e0,e1]
   case stop=>
    rintro D c g W _ _ h _;exact h.elim
  ·have hn:(C.b6 (bO n 0 (C.n4-1)) != 0)=true:=by simpa using hf
   have HF:=ap hf;clear hf f0 f1 f2 f3 f4 f5
   go_wp2
   refine⟨C.kR n,?_,rfl,?_⟩
   ·rw[CD.kR,if_neg HF.out];simp[aT,Tryz.results24,go_sem,I,J]
   ·exact((bA y f).setCell (p:=⟨w.heap.size+1,0,none⟩) (bt _) _).setCell (p:=⟨w.heap.size+1,1,none⟩) (bt _) _
def Rt{C:CD}(hc:C.cx=0){i:Nat}(hi:i<C.n4):0<=(C.x4 i).n 5/\(C.x4 i).n 5<C.n2:=by
 have b:kA C.p C.n2 C.n3 C.n4 C.x4=0:=ck hc 3 (by omega);unfold kA at b
 split at b
 case isFalse=>cases b
 have a:=ck b i hi;unfold gM at a
 split at a
 case isFalse h=>exact absurd a h
 split at a
 case isFalse=>cases a
 split at a
 ·cases a
 split at a
 case isFalse=>cases a
 rename_i c;simp only[bO,Bool.and_eq_true,decide_eq_true_eq]at c;omega
def ij(n a b:Int)(w:World):Calls PL 78 #[.int .i64 n,.int .i64 a,.int .i64 b] w λe w'=>e=.returned (.bool (bO n a b))/\w=w':=(bG n a b w).mono λ_ _⟨a,b⟩=>⟨a,b.symm⟩
def rM{n a b:Int}(h:bO n a b=true)(w:World):Calls PL 78 #[.int .i64 n,.int .i64 a,.int .i64 b] w λe w'=>e=.returned (.bool true)/\w=w':=by
 have:=ij n a b w;rwa[h]at this
def yG{n a b:Int}(h:bO n a b=false)(w:World):Calls PL 78 #[.int .i64 n,.int .i64 a,.int .i64 b] w λe w'=>e=.returned (.bool false)/\w=w':=by
 have:=ij n a b w;rwa[h]at this
def yH(a b:Bool)(w:World):Calls PL 96 #[.bool a,.bool b] w λe w'=>e=.returned (.int .i64 (Ej a b))/\w=w':=(U5 a b w).mono λ_ _⟨a,b⟩=>⟨a,b.symm⟩
def aaA{w:World}{k:Nat}{x:Value}{t:TypeId}(h:w.heap[k]?=some (.cells #[x] t)):w.cell? ⟨k,0,none⟩=some x/\w.frozen? ⟨k,0,none⟩=false:=by
 simp[aa,ab,h]
def CD.sz(C:CD)(i:Nat):Int×Int:=C.x2 ((C.x4 i).n 5).toNat
def CD.zR(C:CD)(i:Nat)(x:Int):Bool:=bO x (C.sz i).1 (C.sz i).2
def CD.Cm(C:CD)(i:Nat):Int:=Ej ((C.x4 i).NY.any (C.zR i)) ((C.x4 i).NY.any λx=>!C.zR i x)
def CD.iq(C:CD)(n:Int):Value:=if C.b6 (bO n 0 (C.n4-1))=0 then .tuple #[.int .i64 (C.Cm n.toNat),.int .i64 0] else .tuple #[.int .i64 0,.int .i64 (C.b6 (bO n 0 (C.n4-1)))]
def pH(C:CD)(n:Int)(w:World)(h:C.At w):Calls PL 26 #[.agg C.val,.int .i64 n] w (aO (C.iq n) w):=by
 have H:=ap (λw1 y=>h.below (w':=w1) y);have m4:=h.m4;obtain⟨i0,i1,b2,n2,c2,b3,n3,c3,b4,n4,c4,b5,n5,c5,hO⟩:∃(i0 i1:Int)(b2:Option Addr)(n2 c2:Nat)(b3:Option Addr)(n3 c3:Nat)(b4:Option Addr)(n4 c4:Nat)(b5:Option Addr)(n5 c5:Nat),∀W,C.At W->Calls PL 90 #[.agg C.val,.bool (bO n 0 (C.n4-1))] W (aO (.tuple #[.agg #[.int .i64 i0,.int .i64 i1,.slice b2 n2 c2,.slice b3 n3 c3,.slice b4 n4 c4,.slice b5 n5 c5],.int .i64 (C.b6 (bO n 0 (C.n4-1)))]) W):=by
  by_cases hf:C.b6 (bO n 0 (C.n4-1))=0
  ·exact⟨_,_,_,_,_,_,_,_,_,_,_,_,_,_,λW X=>by rw[hf];exact kF hf X⟩
  ·exact⟨_,_,_,_,_,_,_,_,_,_,_,_,_,_,λW X=>Kr hf X⟩
 have HO:=ap hO;have H1:=ap h;clear h hO;refine(aq (n:=9)).1 (ar (fx (by decide) Tryz.func26) rfl trivial ?_ rfl);simp only[Tryz.ntmps26,a8,a9,ba,bp,bq,bv,bw,bb,bc,bd,bg];refine wpIn_wide.2 ?_
 go_wp2
 obtain⟨d,Q⟩:∃d:World,d=w.alloc (.cells C.val 27):=⟨_,rfl⟩
 have J:Below w.heap.size w d:=by rw[Q];exact(bx _ _).alloc (br _) _
 have R:Hid (C.Box w.heap.size d):=ap ⟨by rw[Q];exact au w _⟩;rw[<-Q];clear Q;obtain⟨f0,f1,f2,f3,f4,f5⟩:=bf R.out.Tj;have S:w.heap.size<d.heap.size:=getElem?_lt' R.out.Tj;have XZ:w.heap.size<d.heap.size+1:=by omega
 go_cut [6,7] from 12 to 19 (fun(v6:Value)(v7:Value)(Y:World)=>v7=.int .i64 (C.b6 (bO n 0 (C.n4-1)))/\Below d.heap.size d Y)
 case first=>
  refine aw ?_
  go_region_with (first|(go_at_call 91;refine(AE C n _ m4).mono ?_;rintro e w1⟨rfl,T⟩;obtain⟨lp,lR⟩:=cW T;(first|(with_reducible have j:=bA ((bx d.heap.size d).drew) T)|(have j:=bA ((bx d.heap.size d).drew.alloc (bx d.heap.size d).drew.size _) T;have aH:d.heap.size<w1.heap.size:=by have:=T.size;simp at this;omega));have dx:=j.size;obtain⟨g0,g1,Z,g3,L,g5⟩:=bf ((j.block _ S).trans R.out.Tj);have hzw:w.heap.size<w1.heap.size:=bs S dx)|(go_at_call 90;refine(HO.out _ (H.out _ (bA J ?hb))).mono ?_;(with_reducible case hb=>first|exact j|exact j.alloc j.size _);rintro e w2⟨rfl,qA⟩;obtain⟨hc2,hf2⟩:=cW qA;(with_reducible first|have b:=bA j qA|have b:=bA (j.alloc j.size _) qA)))
  all_goals (refine NoPanic.normal ?_;go_wp2_with fail;go_meet;case rel=>refine⟨rfl,?_⟩;with_reducible first|exact bC b (br _) _ _ _ _ _ _|exact bC b dx _ _ _ _ _ _|exact b.alloc b.size _)
 case rest=>
  obtain⟨rfl,z⟩:=hcut;by_cases hf:C.b6 (bO n 0 (C.n4-1))=0
  ·have hA:=H.out wc (bA J z);have hck:C.cx=0/\bO n 0 (C.n4-1)=true:=by
    unfold CD.b6 at hf
    split at hf
    ·split at hf
     ·exact⟨by assumption,by assumption⟩
     ·cases hf
    ·exact absurd hf (by assumption)
   obtain⟨hk,hb⟩:=hck;have jH:0<=n/\n<=(C.n4:Int)-1:=by simpa[bO]using hb
   obtain⟨i,rfl⟩:=bL jH.1;have hi:i<C.n4:=by omega
   have mS:(i:Int)<C.n4:=by omega
   have OK:=ap (Kq hk hi);obtain⟨z1,z2⟩:=Rt hk hi;have r:((C.x4 i).n 5).toNat<C.n2:=by omega
   obtain⟨g0,g1,Z,g3,L,g5⟩:=bf ((z.block _ S).trans R.out.Tj);rw[hA.s4 (by omega)]at L;rw[hA.s2 (by omega)]at Z;have k0:=hA.AD i hi;have k1:=hA.dB i hi 1 (by omega) (by omega);have k2:=hA.dB i hi 2 (by omega) (by omega);have k3:=hA.dB i hi 3 (by omega) (by omega);have k4:=hA.dB i hi 4 (by omega) (by omega);have k5:=hA.dB i hi 5 (by omega) (by omega);have k6:=hA.dB i hi 6 (by omega) (by omega);have k7:=hA.dB i hi 7 (by omega) (by omega);have k8:=hA.dB i hi 8 (by omega) (by omega);have k9:=hA.dB i hi 9 (by omega) (by omega);have CG:=hA.dB i hi 10 (by omega) (by omega);have CH:=hA.nj i hi;have y0:=hA.Ep _ r;have y1:=hA.Er _ r;have g:=hA.h4;have ND:=hA.h2;have wD:w.heap.size<wc.heap.size:=bs S z.size;rw[hf];clear hA hk hb jH f0 f1 f2 f3 f4 f5 r
   go_upto_region 4 with fail
   go_cut [8] from 23 to 32 (fun(v8:Value)(Y:World)=>v8=.pointer (some ⟨wc.heap.size,0,none⟩)/\Y=wc.drew.alloc (.cells #[.int .i64 (C.x2 ((C.x4 i).n 5).toNat).1,.int .i64 (C.x2 ((C.x4 i).n 5).toNat).2] 35))
   case first=>
    refine aw ?_
    go_region
    all_goals (refine NoPanic.normal ?_;go_wp2_with fail;go_meet;case rel=>exact⟨rfl,rfl⟩)
   case rest=>
    obtain⟨rfl,rfl⟩:=hcut;obtain⟨a,vp⟩:∃a:World,a=wc.drew.alloc (.cells #[.int .i64 (C.x2 ((C.x4 i).n 5).toNat).1,.int .i64 (C.x2 ((C.x4 i).n 5).toNat).2] 35):=⟨_,rfl⟩
    have b:Below wc.heap.size wc a:=by rw[vp];exact(bx wc.heap.size wc).drew.alloc (bx wc.heap.size wc).drew.size _
    have M:a.heap[wc.heap.size]?=some (.cells #[.int .i64 (C.x2 ((C.x4 i).n 5).toNat).1,.int .i64 (C.x2 ((C.x4 i).n 5).toNat).2] 35):=by
     have:=au wc.drew (.cells #[.int .i64 (C.x2 ((C.x4 i).n 5).toNat).1,.int .i64 (C.x2 ((C.x4 i).n 5).toNat).2] 35);rw[vp];exact this
    have E:a.heap.size=wc.heap.size+1:=by rw[vp,ag];rfl
    rw[<-vp];clear vp;replace L:=(b.cell (p:=⟨w.heap.size,4,none⟩) wD).trans L;replace k0:=(b.cell (p:=⟨C.k4,C.o4+i*12,none⟩) g).trans k0;replace k1:=(b.cell (p:=⟨C.k4,C.o4+i*12+1,none⟩) g).trans k1;replace k2:=(b.cell (p:=⟨C.k4,C.o4+i*12+2,none⟩) g).trans k2;replace k3:=(b.cell (p:=⟨C.k4,C.o4+i*12+3,none⟩) g).trans k3;replace k4:=(b.cell (p:=⟨C.k4,C.o4+i*12+4,none⟩) g).trans k4;replace k5:=(b.cell (p:=⟨C.k4,C.o4+i*12+5,none⟩) g).trans k5;replace k6:=(b.cell (p:=⟨C.k4,C.o4+i*12+6,none⟩) g).trans k6;replace k7:=(b.cell (p:=⟨C.k4,C.o4+i*12+7,none⟩) g).trans k7;replace k8:=(b.cell (p:=⟨C.k4,C.o4+i*12+8,none⟩) g).trans k8;replace k9:=(b.cell (p:=⟨C.k4,C.o4+i*12+9,none⟩) g).trans k9;replace CG:=(b.cell (p:=⟨C.k4,C.o4+i*12+10,none⟩) g).trans CG;replace CH:=(b.cell (p:=⟨C.k4,C.o4+i*12+11,none⟩) g).trans CH;replace g:C.k4<a.heap.size:=by omega
    replace wD:w.heap.size<a.heap.size:=by omega
    clear g0 g1 Z g3 g5 y0 y1;have k:=ap E;have HQ2:=ap M;clear E M
    go_wp2_with (go_at_call 92;refine(yF (C.x4 i) _).mono ?_;rintro e w'⟨rfl,rfl⟩)
    obtain⟨m,t⟩:∃m:World,m=((a.alloc (.cells #[.bool false] 4)).alloc (.cells #[.bool false] 4)).alloc (.cells (C.x4 i).val 73):=⟨_,rfl⟩
    have U:m.heap.size=a.heap.size+3:=by rw[t];simp
    have j:Below a.heap.size a m:=by rw[t];exact(((bx _ _).alloc (br _) _).alloc (by simp) _).alloc (by simp;omega) _
    have hp:m.heap[a.heap.size+1+1]?=some (.cells (C.x4 i).val 73):=by
     have:=au ((a.alloc (.cells #[.bool false] 4)).alloc (.cells #[.bool false] 4)) (.cells (C.x4 i).val 73);rw[ag,ag]at this;rw[t];exact this
    have YH:m.heap[a.heap.size]?=some (.cells #[.bool false] 4):=by
     rw[t];exact((((bx (a.alloc (.cells #[.bool false] 4)).heap.size _).alloc (br _) _).alloc (by simp) _).block _ (by simp)).trans (au a _)
    have ht1:m.heap[a.heap.size+1]?=some (.cells #[.bool false] 4):=by
     have h1:=au (a.alloc (.cells #[.bool false] 4)) (.cells #[.bool false] 4);rw[ag]at h1;rw[t];exact(((bx ((a.alloc (.cells #[.bool false] 4)).alloc (.cells #[.bool false] 4)).heap.size _).alloc (br _) _).block _ (by simp)).trans h1
    have E:=k.out;have hqq:=(j.block _ (by omega)).trans HQ2.out;have u:Below w.heap.size w m:=bA (bA (bA J z) b) j;have N:w.heap.size<=a.heap.size:=(bA (bA J z) b).size;rw[<-t];clear t k0 k1 k2 k3 k4 k5 k6 k7 k8 k9 CG CH L;obtain⟨p0,p1,p2,p3,p4,p5,p6,p7,p8,p9,Cz,Fy⟩:=gx hp;obtain⟨t0,t1,u0,u1⟩:=uJ hqq;obtain⟨v0,x0⟩:=aaA YH;obtain⟨v1,x1⟩:=aaA ht1;obtain⟨o1,o2,o3,o4,o5,o6⟩:=OK.out;have HS1:=ap U;refine(wpIn_wide (n:=9)).1 ?_;refine aB rfl (by omega) (gf:=135) (lb:=#[.pointer (some ⟨a.heap.size+1+1,0,none⟩)]) rfl trivial (enters_of (fx (by decide) Tryz.func135) (by kernel_rfl) rfl)
     (tg 8 (by omega) (a.heap.size+1+1) ((C.x4 i).n 1) ((C.x4 i).n 3) ((C.x4 i).n 2-(C.x4 i).n 1+1).toNat ((C.x4 i).n 4-(C.x4 i).n 3+1).toNat o1 (by omega) (by omega) o4 (by omega) (by omega) m (by omega) p1 (by rw[p2];congr 2;omega) p3 (by rw[p4];congr 2;omega))
     Km (Ko (by omega)) (bx _ _) (λ_=>rfl)
     (λq W=>(W.cell? ⟨wc.heap.size,0,none⟩=some (.int .i64 (C.sz i).1)/\W.cell? ⟨wc.heap.size,1,none⟩=some (.int .i64 (C.sz i).2)/\W.cell? ⟨a.heap.size,0,none⟩=some (.bool (q.any (C.zR i)))/\W.cell? ⟨a.heap.size+1,0,none⟩=some (.bool (q.any λx=>!C.zR i x))/\W.frozen? ⟨a.heap.size,0,none⟩=false/\W.frozen? ⟨a.heap.size+1,0,none⟩=false)/\Below w.heap.size w W)
     (λ_ _ _=>False)
     (OwnFrom.and (Own.from (λs A B row hs hg F=>⟨aF hs.1 hg F,aF hs.2.1 hg F,aF hs.2.2.1 hg F,aF hs.2.2.2.1 hg F,(aI hs.2.2.1 hg F).trans hs.2.2.2.2.1,(aI hs.2.2.2.1 hg F).trans hs.2.2.2.2.2⟩) _) (aJ (br _) (by have:=u.size;omega)))
     (λ_ _ _ _ _ hs _ _=>hs)
     ⟨⟨t0,t1,v0,v1,x0,x1⟩,u⟩
     (λx=>{ tmps:=#[.agg C.val,.int .i64 i,.pointer (some ⟨w.heap.size,0,none⟩),undef,.int .i64 0,.int .i64 0,u6,.int .i64 0,.pointer (some ⟨wc.heap.size,0,none⟩),.pointer (some ⟨a.heap.size,0,none⟩),.pointer (some ⟨a.heap.size+1,0,none⟩),.int .i64 x,u12,u13,u14,u15,u16,u17,u18,u19,.int .i64 0,.bool false,undef,u23,u24,u25,u26,u27,u28,u29,u30,u31,u32,.pointer (some ⟨w.heap.size,4,none⟩),.slice (some ⟨C.k4,C.o4,none⟩) C.n4 C.c4,.int .i64 i,.pointer (some ⟨C.k4,C.o4+i*12,none⟩),.agg (C.x4 i).val,.func (.func 135) #[] #[.pointer (some ⟨a.heap.size+1+1,0,none⟩)],.int .i64 x,undef,undef,undef,undef,undef,undef,undef,undef,undef],defers:=[] }) ?assign ?body ?done ?stop
    case assign=>
     intro l x W K V;clear E U
     gi_wp2
     exact V
    case body=>
     rintro l q x W⟨⟨a0,a1,a2,a3,a4,a5⟩,y⟩_;clear E U;have bu:a.heap.size≠wc.heap.size:=by have:=k.out;omega
     by_cases I:C.zR i x=true
     ·have O:=ap I;have P:bO x (C.sz i).1 (C.sz i).2=true:=I;have v:=ap P;clear I P
      gi_wp2_with (refine⟨trivial,?_⟩;gi_at_call 78;refine(CallsIn.inRound l (callsIn_wide.2 (rM v.out _))).mono ?_;rintro e w'⟨rfl,rfl⟩)
      refine⟨ao _ _ _,λo=>ac _ _ _ _ (λh=>by have f:=congrArg ai h;have:=k.out;simp only at f;omega),⟨(ac _ _ _ _ (λh=>by have f:=congrArg ai h;have:=k.out;simp only at f;omega)).trans a0,(ac _ _ _ _ (λh=>by have f:=congrArg ai h;have:=k.out;simp only at f;omega)).trans a1,?_,(ac _ _ _ _ (λh=>by have f:=congrArg ai h;have:=k.out;simp only at f;omega)).trans (by rw[a3];simp[O.out]),by rw[ae];exact a4,by rw[ae];exact a5⟩,y.setCell (p:=⟨a.heap.size,0,none⟩) N _⟩;rw[ad _ _ _ (by rw[a2];rfl)];simp[O.out]
     ·have O:=ap (aV I);have P:bO x (C.sz i).1 (C.sz i).2=false:=aV I;have v:=ap P;clear I P
      gi_wp2_with (refine⟨trivial,?_⟩;gi_at_call 78;refine(CallsIn.inRound l (callsIn_wide.2 (yG v.out _))).mono ?_;rintro e w'⟨rfl,rfl⟩)
      refine⟨ao _ _ _,λo=>ac _ _ _ _ (λh=>by have f:=congrArg ai h;have:=k.out;simp only at f;omega),⟨(ac _ _ _ _ (λh=>by have f:=congrArg ai h;have:=k.out;simp only at f;omega)).trans a0,(ac _ _ _ _ (λh=>by have f:=congrArg ai h;have:=k.out;simp only at f;omega)).trans a1,(ac _ _ _ _ (λh=>by have f:=congrArg ai h;have:=k.out;simp only at f;omega)).trans (by rw[a2];simp[O.out]),?_,by rw[ae];exact a4,by rw[ae];exact a5⟩,y.setCell (p:=⟨a.heap.size+1,0,none⟩) (Nat.le_succ_of_le N) _⟩;rw[ad _ _ _ (by rw[a3];rfl)];simp[O.out]
    case done=>
     rintro D ys W hD rfl⟨⟨a0,a1,a2,a3,a4,a5⟩,y⟩V;replace a2:W.cell? ⟨a.heap.size,0,none⟩=some (.bool ((C.x4 i).NY.any (C.zR i))):=a2;replace a3:W.cell? ⟨a.heap.size+1,0,none⟩=some (.bool ((C.x4 i).NY.any λx=>!C.zR i x)):=a3;clear E U
     go_wp2_with (go_at_call 96;refine(yH _ _ _).mono ?_;rintro e w'⟨rfl,rfl⟩)
     refine⟨by simp,.inl ⟨_,_,rfl,aP V,?_⟩⟩;refine⟨C.iq i,?_,rfl,y.trans (belowK_b (w:=w) (br _) _ D _ _ (by have:=u.size;omega) V rfl rfl)⟩;rw[CD.iq,if_pos hf];simp[aT,Tryz.results26,go_sem,CD.Cm]
    case stop=>
     rintro D c q W _ _ h _;exact h.elim
  ·have hn:(C.b6 (bO n 0 (C.n4-1)) != 0)=true:=by simpa using hf
   have HF:=ap hf;clear hf f0 f1 f2 f3 f4 f5
   go_wp2
   refine⟨C.iq n,?_,rfl,?_⟩
   ·rw[CD.iq,if_neg HF.out];simp[aT,Tryz.results26,go_sem]
   ·exact bA J z
end Go.Proofs
namespace Go.Proofs
set_option maxHeartbeats 1000000
def yI(s r:Int)(e:0<=s*s-r*r):∀k:Nat,s*s-r*r<((k:Int)+1)*(k+1)->0<=lvl s r k/\lvl s r k<=k/\lvl s r k*lvl s r k<=s*s-r*r/\s*s-r*r<(lvl s r k+1)*(lvl s r k+1)
 |0,h=>by simp only[lvl];exact⟨by omega,by simp,by omega,by simpa using h⟩
 |k+1,h=>by
  simp only[lvl]
  split
  ·rename_i hg;obtain⟨a,b,c,d⟩:=yI s r e k hg;exact⟨a,by omega,c,d⟩
  ·rename_i hg;exact⟨by omega,by omega,by omega,by push_cast at h;exact h⟩
def Ij(r:Int):0<=r*r:=by
 rcases bM 0 r with h|h
 ·exact bR h h
 ·have:=bR (a:=-r) (b:=-r) (by omega) (by omega);rwa[bT]at this
def yJ{a b:Int}(f : -b<=a)(e:a<=b):a*a<=b*b:=by
 rcases bM 0 a with h|h
 ·exact bX e e h (by omega)
 ·have:=bX (a:=-a) (b:=-a) (c:=b) (d:=b) (by omega) (by omega) (by omega) (by omega);rwa[bT]at this
def qg{s r:Int}(f:0<=s)(g : -s<=r)(h:r<=s):0<=lv s r/\lv s r<=s/\lv s r*lv s r<=s*s-r*r/\s*s-r*r<(lv s r+1)*(lv s r+1):=by
 have i:=Ij r;have hs:=yJ g h;have e:(((s.toNat:Nat):Int)+1)*(((s.toNat:Nat):Int)+1)=s*s+2*s+1:=by
  rw[Int.toNat_of_nonneg f,Int.add_mul,Int.mul_add];omega
 obtain⟨a,b,c,d⟩:=yI s r (by omega) s.toNat (by rw[e];omega);exact⟨a,by unfold lv;omega,c,d⟩
def Ks{s r s' d:Int}(e:0<=s)(f : -s<=r)(g:r<=s)(k1:0<=s')(k2 : -s'<=d)(k3:d<=s')(h:s*s-r*r<=s'*s' - d*d):lv s r<=lv s' d:=by
 obtain⟨a,_,c,_⟩:=qg e f g;obtain⟨j,_,_,k⟩:=qg k1 k2 k3;by_cases i:lv s r<=lv s' d
 ·exact i
 ·have:=yJ (a:=lv s' d+1) (b:=lv s r) (by omega) (by omega);omega
def qh{c d x:Int}{e f:Nat}:x∈cJ c d e f↔∃k j:Nat,k<e/\j<f/\x=lv (c+k) (d+j):=by
 simp only[cJ,fD,List.mem_flatMap,List.mem_map,List.mem_range];constructor
 ·rintro⟨k,a,j,b,rfl⟩;exact⟨k,j,a,b,rfl⟩
 ·rintro⟨k,j,a,b,rfl⟩;exact⟨k,a,j,b,rfl⟩
def tj{m:Int}:∀(l:List Int)(a:Int),(m∈l\/m=a)->(∀x∈l,m<=x)->m<=a->l.foldl min a=m
 |[],a,b,_,_=>by rcases b with h|h;cases h;exact h.symm
 |x::l,a,b,hl,c=>by
  have d:=hl x (bm ..);refine tj l (min a x) ?_ (λy hy=>hl y (bo _ hy)) (by omega)
  rcases b with h|h
  ·rcases List.mem_cons.1 h with rfl|h
   ·exact .inr (by omega)
   ·exact .inl h
  ·exact .inr (by omega)
def tu{m:Int}:∀(l:List Int)(a:Int),(m∈l\/m=a)->(∀x∈l,x<=m)->a<=m->l.foldl max a=m
 |[],a,b,_,_=>by rcases b with h|h;cases h;exact h.symm
 |x::l,a,b,hl,c=>by
  have d:=hl x (bm ..);refine tu l (max a x) ?_ (λy hy=>hl y (bo _ hy)) (by omega)
  rcases b with h|h
  ·rcases List.mem_cons.1 h with rfl|h
   ·exact .inr (by omega)
   ·exact .inl h
  ·exact .inr (by omega)
def Ru(s r:Int):lv s (-r)=lv s r:=by
 have:∀k,lvl s (-r) k=lvl s r k:=by
  intro k
  induction k with
  |zero=>rfl
  |succ k a=>simp only[lvl,a,bT]
 exact this _
def aaB{q:iJ}(h:q.Ok):q.low=lv (q.n 1) (max (q.n 4) (-(q.n 3))):=by
 obtain⟨a1,a2,a3,a4,e,f⟩:=h;refine tj _ _ (.inl ?_) ?_ ?_
 ·rw[iJ.NY,qh]
  rcases bM (q.n 4) (-(q.n 3)) with d|d
  ·exact⟨0,0,by omega,by omega,by rw[show max (q.n 4) (-(q.n 3)) = -(q.n 3) by omega,Ru];simp⟩
  ·exact⟨0,(q.n 4-q.n 3).toNat,by omega,by omega,by rw[show max (q.n 4) (-(q.n 3))=q.n 4 by omega];congr 1<;>omega⟩
 ·intro x c;rw[iJ.NY,qh]at c;obtain⟨k,j,g,i,rfl⟩:=c;refine Ks (by omega) (by omega) (by omega) (by omega) (by omega) (by omega) ?_;have l:=yJ (a:=q.n 3+j) (b:=max (q.n 4) (-(q.n 3))) (by omega) (by omega);have m:=yJ (a:=q.n 1) (b:=q.n 1+k) (by omega) (by omega);omega
 ·have:=qg (s:=q.n 1) (r:=max (q.n 4) (-(q.n 3))) (by omega) (by omega) (by omega);omega
def Vx{q:iJ}(h:q.Ok):q.high=lv (q.n 2) (max (max 0 (q.n 3)) (-(q.n 4))):=by
 obtain⟨a1,a2,a3,a4,e,f⟩:=h;refine tu _ _ (.inl ?_) ?_ ?_
 ·rw[iJ.NY,qh];by_cases d:0<q.n 3
  ·exact⟨(q.n 2-q.n 1).toNat,0,by omega,by omega,by rw[show max (max 0 (q.n 3)) (-(q.n 4))=q.n 3 by omega];congr 1<;>omega⟩
  ·by_cases g:q.n 4<0
   ·exact⟨(q.n 2-q.n 1).toNat,(q.n 4-q.n 3).toNat,by omega,by omega,by rw[show max (max 0 (q.n 3)) (-(q.n 4)) = -(q.n 4) by omega,Ru];congr 1<;>omega⟩
   ·exact⟨(q.n 2-q.n 1).toNat,(-(q.n 3)).toNat,by omega,by omega,by rw[show max (max 0 (q.n 3)) (-(q.n 4))=0 by omega];congr 1<;>omega⟩
 ·intro x c;rw[iJ.NY,qh]at c;obtain⟨k,j,i,l,rfl⟩:=c;refine Ks (by omega) (by omega) (by omega) (by omega) (by omega) (by omega) ?_;have m:max (max 0 (q.n 3)) (-(q.n 4))*max (max 0 (q.n 3)) (-(q.n 4))<=(q.n 3+j)*(q.n 3+j):=by
   by_cases d:0<=q.n 3+j
   ·exact yJ (by omega) (by omega)
   ·have:=yJ (a:=max (max 0 (q.n 3)) (-(q.n 4))) (b:=-(q.n 3+j)) (by omega) (by omega);rwa[bT]at this
  have o:=yJ (a:=q.n 1+k) (b:=q.n 2) (by omega) (by omega);omega
 ·have:=qg (s:=q.n 2) (r:=max (max 0 (q.n 3)) (-(q.n 4))) (by omega) (by omega) (by omega);omega
end Go.Proofs
