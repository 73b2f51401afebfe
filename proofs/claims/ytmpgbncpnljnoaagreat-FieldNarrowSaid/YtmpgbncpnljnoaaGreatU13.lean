/- Part of the proof of FieldNarrow. -/
import Derived.Test.YtmpgbncpnljnoaaGreatU12
set_option linter.all false
open Go.Lib renaming hid->aa
open List renaming getElem?_toArray->ab,getElem?_cons_succ->ac,getElem?_cons_zero->ad,getD_eq_getElem?_getD->ae,getElem?_map->ag,getElem?_range->ai,mem_append->ao,getElem_mem->ap
open Option.some renaming injEq->aq
open Go.RowKit.Below renaming refl->ar
open Nat renaming le_refl->aw,zero_le->aB
open Go.Proofs renaming getElem?_lt'->aF
open Go renaming bodyPost_ret->aH,results->aI,wp_region_noPanic->aJ
open Go.Proofs.Below renaming zQ->aP,on->aS
open Go.Proofs.Tryz renaming results6->aT,func4->a5,ntmps4->a6,func3->a7,ntmps3->a8
open And renaming intro->a9
open Go.Value renaming int->ba,slice->bb,agg->bc,bool->bd,tuple->bg,pointer->bi
open Go.NoPanic renaming normal->bj
open Go.IntWalk renaming i64_in->bm
open Option renaming map_some->bo,getD_some->bp
open Go.IntKind renaming i64->bq
open Go.Ending renaming returned->br
open Go.Obj renaming cells->bs
open Go.Ground renaming data->bt
open Or renaming inl->bu,inr->bv
namespace Go.Proofs
open Go.RowKit Go.Shelf
attribute [local go_sem] Oper.semAt_some
set_option maxRecDepth 100000
set_option maxHeartbeats 4000000
def aiL{C:CD}{p:Nat}(b:p<C.n4)(a:C.n4<=20)(w:World):Calls PL 31 #[bc C.val,ba bq p] w (aO (bd true) w):=by
 have h:=AE C p w a;rwa[show bO (p:Int) 0 (C.n4-1)=true by simp[bO];omega]at h
def aht(x0 x1 x2 x3 x4 a:Value)(w:World):(Instr.index 88 (bc #[x0,x1,x2,x3,x4,a]) (ba bq 0)).run PL w=.ok (bc #[x0,x1,x2]) w/\(Instr.index 88 (bc #[x0,x1,x2,x3,x4,a]) (ba bq 1)).run PL w=.ok (bc #[x3,x4,a]) w:=⟨by kernel_rfl,by kernel_rfl⟩
def aox(C:CD)(p:Nat)(a b k1 k2:Int)(w:World)(e:Ending)(w':World):Prop:=
 Below w.heap.size w w'/\((aaz (C.x4 p) a b k1 k2≠0/\e=br (bg #[bc RX,ba bq (aaz (C.x4 p) a b k1 k2)]))\/
  (aaz (C.x4 p) a b k1 k2=0/\∃Y f,e=br (bg #[bc (C.xu Y f).val,ba bq 0])/\abS C f/\j9 w.heap.size C.n4 (C.xu Y λj=>if j=p then X0 (f j) a b k1 k2 else f j) w'))
def afr(C:CD)(p:Nat)(y z k1 k2:Int)(w:World)(h:C.At w)(hc:C.cx=0)(hp:p<C.n4) :
 Calls PL 6 #[bc C.val,ba bq p,bc #[ba bq y,ba bq z],bc #[ba bq k1,ba bq k2]] w (aox C p y z k1 k2 w):=by
 have HA:Hid (∀W,Below w.heap.size w W->C.At W):=aa λW u=>h.below u;have m4:=h.m4;have HF:Hid (C.b6 true=0):=aa (by rw[CD.b6,if_pos hc];rfl);have h4:0<C.n4:=by omega
 have A4:=aa (amk w (bs C.val 27) (bs #[ba bq y,ba bq z] 30) (bs #[ba bq k1,ba bq k2] 30) (bs RX 27));have OW:Hid (∀W,Below w.heap.size w W->Calls PL 33 #[bc C.val] W λe w'=>∃Y f,e=br (bc (C.xu Y f).val)/\abS C f/\j9 W.heap.size C.n4 (C.xu Y f) w'/\Below W.heap.size W w'):=aa λW u=>afL C W (h.below u) h4;clear h hc
 go_enter (fx (by decide) Tryz.func6),Tryz.ntmps6
 go_upto_region 1 with fail
 obtain⟨W0,kS⟩:∃W0:World,W0=(((w.alloc (bs C.val 27)).alloc (bs #[ba bq y,ba bq z] 30)).alloc (bs #[ba bq k1,ba bq k2] 30)).alloc (bs RX 27):=⟨_,rfl⟩
 have K0:Hid (KNb C y z k1 k2 w W0):=aa (by rw[kS];exact⟨A4.out.1,A4.out.2.1,A4.out.2.2.1,A4.out.2.2.2.1,A4.out.2.2.2.2⟩);rw[<-kS];clear kS A4;refine cT 10 (KNb C y z k1 k2 w) (Fo C) (λj=>j != 8&&j != 9) (asG C (w.heap.size+3)) rfl (by kernel_rfl) (by kernel_rfl)
  (λi vs W H O h=>⟨λe=>(h.1 e).imp λk hk=>⟨hk.1,hk.2.1,(O k).2 hk.2.2⟩,λe=>(h.2 e).imp λk hk=>⟨hk.1,hk.2.1,(O k).1 hk.2.2⟩⟩) (λi o ho vs eX W he hd h=>⟨λe=>?_,λe=>?_⟩) ?_ ?_
 ·subst e;rw[<-he];exact h.1 rfl
 ·subst e;have e8:vs 8=eX 8:=by
   simp only[ab,ac,ad,aq]at ho;subst ho;exact hd ⟨8,bt⟩ (cH.2 ⟨by simp,rfl⟩)
  rw[<-e8];exact h.2 rfl
 ·exact K0.out.on (ar _ _).drew
 ·iterate 8 (
   apply aY
   case hE=>rfl
   case h=>
    intro vs W g hd;obtain⟨f0,f1,f2,f3,f4,f5⟩:=bf g.box
    go_simp
    first
    |(go_at_call 31;refine(aiL hp m4 _).mono ?_;rintro e H⟨rfl,u⟩;exact⟨_,rfl,rfl,g.on u,Fo.on u⟩)
    |(go_at_call 30;refine(kF HF.out (HA.out _ g.low)).mono ?_;rintro e H⟨rfl,u⟩;exact⟨_,rfl,rfl,g.on u,Fo.on u⟩)
    |exact⟨rfl,Fo.on (ar _ _)⟩
   case hb=>exact j8)
  apply eH
  case hE=>rfl
  case hb=>exact j8
  case h=>
   intro vs W g hd
   go_simp
   have u:=(ar W.heap.size W).alloc (aw _) (bs #[ba bq 0,ba bq 0,bb none 0 0,bb none 0 0,bb none 0 0,bb none 0 0] 77);exact⟨g.on u,Fo.on u,⟨λ_=>⟨W.heap.size,by simp[upd],aF g.res,_,_,_,_,_,_,au W _⟩,λe=>absurd e (by decide)⟩⟩
  apply eH
  case hE=>rfl
  case hb=>exact j8
  case h=>
   intro vs W g hd;obtain⟨k,hk,Ll,x0,x1,x2,x3,x4,x5,hx⟩:=(hd ⟨8,bt⟩ (cH.2 ⟨by simp,rfl⟩) rfl).1 rfl;obtain⟨f0,f1,f2,f3,f4,f5⟩:=bf hx;have F:=tO hx;rw[hk]
   go_simp
   refine⟨(((((g.set Ll _).set Ll _).set Ll _).set Ll _).set Ll _).set Ll _,λq=>?_,⟨λe=>absurd e (by decide),λ_=>⟨k,by simp[upd,hk],Ll,nC hx⟩⟩⟩;by_cases hq:q=k
   ·subst hq;exact⟨λ_=>nC hx,λ_=>⟨_,_,_,_,_,_,nC hx⟩⟩
   ·exact⟨λe=>(cM hq).trans e,fun⟨_,_,_,_,_,_,e⟩=>⟨_,_,_,_,_,_,(cM hq).trans e⟩⟩
  refine cP λvs W g hd=>?_;obtain⟨k,hk,Ll,hx⟩:=(hd 9 (by omega) rfl).2 rfl;rw[hk];have K1:=aa g;clear hx g hd hk Ll;by_cases zE:(eK y z 0 60&&eK k1 k2 0 60)=true
  case neg=>
   have hF1:Hid (aaz (C.x4 p) y z k1 k2=1):=aa (by rw[aaz,if_neg zE]);have E:=K1.out.res;obtain⟨y0,y1,y2,y3,y4,y5⟩:=bf E;have F:=tO E;have I:=aF E;obtain⟨a0,a1⟩:=Z0 K1.out.b1;obtain⟨a2,a3⟩:=Z0 K1.out.b2;clear E;by_cases h1:eK y z 0 60=true
   ·have h2:eK k1 k2 0 60=false:=by simpa[h1]using zE
    have H1:=aa h1;have H2:=aa h2;clear h1 h2 zE
    go_wp2_with (first
     |(go_at_call 32;(with_reducible refine(Ek H1.out _).mono ?_);rintro e w1⟨rfl,u⟩;have K2:=aa (K1.out.on u);clear u a0 a1 a2 a3 y0 y1 y2 y3 y4 y5 F I;have E:=K2.out.res;obtain⟨y0,y1,y2,y3,y4,y5⟩:=bf E;have F:=tO E;have I:=aF E;clear E;obtain⟨a2,a3⟩:=Z0 K2.out.b2)
     |(go_at_call 32;(with_reducible refine(El H2.out _).mono ?_);rintro e w2⟨rfl,u⟩;have KX:=aa (K2.out.on u);clear u a2 a3 y0 y1 y2 y3 y4 y5 F I;have E:=KX.out.res;obtain⟨y0,y1,y2,y3,y4,y5⟩:=bf E;have F:=tO E;have I:=aF E;clear E))
    clear y0 y1 y2 y3 y4 y5 F I;have hWF:=nC (u0:=ba bq 0) (u1:=ba bq 0) (u2:=bb none 0 0) (u3:=bb none 0 0) (u4:=bb none 0 0) (u5:=bb none 0 0) KX.out.res;refine aH (v:=bg #[bc RX,ba bq 1]) ?_ rfl ⟨aP KX.out.low (by omega) _ _ _ _ _ _,bu ⟨by rw[hF1.out];decide,by rw[hF1.out]⟩⟩;obtain⟨c0,c1,c2,c3,c4,c5⟩:=bf hWF;simp[aI,aT,go_sem,c0,c1,c2,c3,c4,c5]
   ·have H1:Hid (eK y z 0 60=false):=aa (by simpa using h1);clear h1 zE
    go_wp2_with (go_at_call 32;(with_reducible refine(El H1.out _).mono ?_);rintro e w1⟨rfl,u⟩;have KX:=aa (K1.out.on u);clear u a0 a1 a2 a3 y0 y1 y2 y3 y4 y5 F I;have E:=KX.out.res;obtain⟨y0,y1,y2,y3,y4,y5⟩:=bf E;have F:=tO E;have I:=aF E;clear E)
    clear y0 y1 y2 y3 y4 y5 F I;have hWF:=nC (u0:=ba bq 0) (u1:=ba bq 0) (u2:=bb none 0 0) (u3:=bb none 0 0) (u4:=bb none 0 0) (u5:=bb none 0 0) KX.out.res;refine aH (v:=bg #[bc RX,ba bq 1]) ?_ rfl ⟨aP KX.out.low (by omega) _ _ _ _ _ _,bu ⟨by rw[hF1.out];decide,by rw[hF1.out]⟩⟩;obtain⟨c0,c1,c2,c3,c4,c5⟩:=bf hWF;simp[aI,aT,go_sem,c0,c1,c2,c3,c4,c5]
  have H1:Hid (eK y z 0 60=true):=aa (by revert zE;cases eK y z 0 60<;>simp);have H2:Hid (eK k1 k2 0 60=true):=aa (by revert zE;cases eK k1 k2 0 60<;>simp);have HF0:Hid (aaz (C.x4 p) y z k1 k2=if max ((C.x4 p).n 7) y > min ((C.x4 p).n 8) z then 10 else if max ((C.x4 p).n 9) k1 > min ((C.x4 p).n 10) k2 then 10 else 0):=aa (by rw[aaz,if_pos zE]);clear zE;obtain⟨f0,f1,f2,f3,f4,f5⟩:=bf K1.out.box;obtain⟨a0,a1⟩:=Z0 K1.out.b1;obtain⟨a2,a3⟩:=Z0 K1.out.b2
  go_upto_region 6 with(first
   |(go_at_call 32;(with_reducible refine(Ek H1.out _).mono ?_);rintro e w1⟨rfl,u⟩;have K2:=aa (K1.out.on u);clear u a0 a1 a2 a3;obtain⟨a2,a3⟩:=Z0 K2.out.b2)
   |(go_at_call 32;(with_reducible refine(Ek H2.out _).mono ?_);rintro e w2⟨rfl,u⟩;have K3:=aa (K2.out.on u);clear u a2 a3))
  clear f0 f1 f2 f3 f4 f5;obtain⟨f0,f1,f2,f3,f4,f5⟩:=bf K3.out.box
  go_upto_region 7 with(go_at_call 33;(with_reducible refine(OW.out _ K3.out.low).mono ?_);rintro e w3⟨Y,f,rfl,hf,ho,u⟩;have HC:=aa hf;have HO:=aa ho;have IB:=aa u;have K4:=aa (K3.out.on u);clear hf ho u)
  have a4:Below w3.heap.size w3 (w3.alloc (bs (C.xu Y f).val 27)):=(ar _ _).alloc (aw _) _;obtain⟨x7,hx7⟩:∃x,x=(C.x4 p).n 7:=⟨_,rfl⟩
  obtain⟨x8,hx8⟩:∃x,x=(C.x4 p).n 8:=⟨_,rfl⟩
  obtain⟨x9,hx9⟩:∃x,x=(C.x4 p).n 9:=⟨_,rfl⟩
  obtain⟨NT,aml⟩:∃x,x=(C.x4 p).n 10:=⟨_,rfl⟩
  have KA:Hid (KNa C y z k1 k2 Y f p w3.heap.size w x7 x8 x9 NT (w3.alloc (bs (C.xu Y f).val 27))):=aa (by
   have:=KNa.start (p:=p) (K4.out.on a4) (au w3 (bs (C.xu Y f).val 27)) (by have:=HO.out.t4.1;have:=aF K3.out.res;show w.heap.size+3<Y.K4;have h:w2.heap.size<=Y.K4:=HO.out.t4.1;omega) (j9.zu (D:=C.xu Y f) (HO.out.on a4) K3.out.low.size);rw[(HC.out.1 p).n,<-hx7,<-hx8,<-hx9,<-aml]at this
   exact this)
  have HXX:=aa (a9 hx7 (a9 hx8 (a9 hx9 aml)));obtain⟨W3,hW3⟩:∃W3:World,W3=w3.alloc (bs (C.xu Y f).val 27):=⟨_,rfl⟩
  rw[show w3.alloc (bs #[ba bq C.l,ba bq C.p,bb Y.B2 C.n2 Y.p2,bb Y.B3 C.n3 Y.p3,bb (some ⟨Y.K4,0,none⟩) C.n4 Y.p4,bb Y.B5 C.n5 Y.p5] 27)=W3 from hW3.symm];rw[<-hW3]at KA;have BX:Hid (∀a b c d W,KNa C y z k1 k2 Y f p w3.heap.size w a b c d W->W.heap[w3.heap.size]?=some (bs #[ba bq C.l,ba bq C.p,bb Y.B2 C.n2 Y.p2,bb Y.B3 C.n3 Y.p3,bb (some ⟨Y.K4,0,none⟩) C.n4 Y.p4,bb Y.B5 C.n5 Y.p5] 27)):=aa λa b c d W h=>h.two;clear hW3 a4 hx7 hx8 hx9 aml K1 K2 K3 K4 HO IB f0 f1 f2 f3 f4 f5 H1 H2;obtain⟨g0,g1,g2,g3,g4,g5⟩:=bf (BX.out _ _ _ _ _ KA.out);have i1:(p:Int)<C.n4:=by omega
  obtain⟨a0,a1⟩:=Z0 KA.out.kb.b1;obtain⟨a2,a3⟩:=Z0 KA.out.kb.b2
  go_upto_region 8 with fail
  go_quiet (fail)
  have KQ:Hid (KNa C y z k1 k2 Y f p w3.heap.size w x7 x8 x9 NT (W3.drewN nq)):=aa (KA.out.on (below_drewN (ar _ _) _));clear g0 g1 g2 g3 g4 g5 a0 a1 a2 a3 KA;obtain⟨m7,hm7⟩:∃x,x=max x7 y:=⟨_,rfl⟩
  obtain⟨m8,hm8⟩:∃x,x=min x8 z:=⟨_,rfl⟩
  obtain⟨m9,hm9⟩:∃x,x=max x9 k1:=⟨_,rfl⟩
  obtain⟨m10,amm⟩:∃x,x=min NT k2:=⟨_,rfl⟩
  have HF1:Hid (aaz (C.x4 p) y z k1 k2=if m7 > m8 then 10 else if m9 > m10 then 10 else 0):=aa (by rw[HF0.out,hm7,hm8,hm9,amm,HXX.out.1,HXX.out.2.1,HXX.out.2.2.1,HXX.out.2.2.2]);have HMM:=aa (a9 hm7 (a9 hm8 (a9 hm9 amm)));have q1:=λw x0 x1 x2 x3 x4 x5=>(aht x0 x1 x2 x3 x4 x5 w).1;have q2:=λw x0 x1 x2 x3 x4 x5=>(aht x0 x1 x2 x3 x4 x5 w).2;clear hm7 hm8 hm9 amm
  go_wp2_with fail
  go_loopw [54] (λv54 wr=>(v54=ba bq 0/\KNa C y z k1 k2 Y f p w3.heap.size w x7 x8 x9 NT wr)\/(v54=ba bq 1/\m7<=m8/\KNa C y z k1 k2 Y f p w3.heap.size w m7 m8 x9 NT wr)\/(v54=ba bq 2/\m7<=m8/\m9<=m10/\KNa C y z k1 k2 Y f p w3.heap.size w m7 m8 m9 m10 wr)) (λv54 _=>2-(intOf v54).toNat)
  case atStart=>exact bu ⟨rfl,KQ.out⟩
  case round=>
   rcases hrel with⟨rfl,hK⟩|⟨rfl,O,hK⟩|⟨rfl,O,Gi,hK⟩
   ·obtain⟨ST,R⟩:∃P:Int->Int->World->Prop,P=λa b W=>KNa C y z k1 k2 Y f p w3.heap.size w a b x9 NT W/\W.heap[wr.heap.size]?=some (bs #[bi (some ⟨Y.K4,p*12+7,none⟩),ba bq y,ba bq z] 87):=⟨_,rfl⟩
    have s:Hid (Rnd Y.K4 (p*12+7) wr.heap.size y z ST):=aa (by
     subst R;have T4:∀a b W,KNa C y z k1 k2 Y f p w3.heap.size w a b x9 NT W->Typ W Y.K4 85:=λa b W h=>h.own.t4.2.2.imp λ_ k=>k.1
     exact⟨λa b W H h u=>⟨h.1.on u,(u.block _ (aF h.2)).trans h.2⟩,λa b W h=>(h.1.cell hp).1,λa b W h=>(h.1.cell hp).2.1,λa b W h=>(T4 _ _ _ h.1).elim λ_ k=>tO k,λa b W h=>h.2,
      λa b W x h=>⟨h.1.set hp (r:=7) (by omega) x,(aZ ((T4 _ _ _ h.1).ne ⟨_,h.2⟩ (by decide))).trans h.2⟩,λa b W x h=>⟨h.1.set hp (r:=8) (by omega) x,(aZ ((T4 _ _ _ h.1).ne ⟨_,h.2⟩ (by decide))).trans h.2⟩⟩)
    obtain⟨xa,hxa⟩:∃x,x=x7:=⟨_,rfl⟩
    obtain⟨xb,hxb⟩:∃x,x=x8:=⟨_,rfl⟩
    obtain⟨ya,hya⟩:∃x,x=y:=⟨_,rfl⟩
    obtain⟨yb,hyb⟩:∃x,x=z:=⟨_,rfl⟩
    obtain⟨m,hma⟩:∃x,x=m7:=⟨_,rfl⟩
    obtain⟨t,hmb⟩:∃x,x=m8:=⟨_,rfl⟩
    have S0:Hid (ST xa xb (wr.alloc (bs #[bi (some ⟨Y.K4,p*12+7,none⟩),ba bq y,ba bq z] 87))):=aa (by rw[hxa,hxb];subst R;exact⟨hK.on ((ar _ _).alloc (aw _) _),au _ _⟩);have SR:Hid (∀a b W,ST a b W->KNb C y z k1 k2 w W):=aa λa b W h=>by subst R;exact h.1.kb
    have SN:Hid (∀W,m<=t->ST m t W->((ba bq 1=ba bq 0/\KNa C y z k1 k2 Y f p w3.heap.size w x7 x8 x9 NT W)\/(ba bq 1=ba bq 1/\m7<=m8/\KNa C y z k1 k2 Y f p w3.heap.size w m7 m8 x9 NT W)\/(ba bq 1=ba bq 2/\m7<=m8/\m9<=m10/\KNa C y z k1 k2 Y f p w3.heap.size w m7 m8 m9 m10 W))):=aa λW hl h=>by rw[hma,hmb]at hl h;subst R;exact bv (bu ⟨rfl,hl,h.1⟩)
    have SF:Hid (t<m->aaz (C.x4 p) y z k1 k2=10):=aa λh=>by rw[hma,hmb]at h;rw[HF1.out];rw[if_pos h]
    have E1:Hid (max xa ya=m/\max m ya=m/\min xb yb=t/\min t yb=t):=aa (by obtain⟨e1,J,e3,e4⟩:=HMM.out;omega);clear R hK KQ
    go_upto_region 11 with fail
    obtain⟨W4,Sn⟩:∃W4:World,W4=wr.alloc (bs #[bi (some ⟨Y.K4,p*12+7,none⟩),ba bq y,ba bq z] 87):=⟨_,rfl⟩
    rw[<-Sn]at S0 ⊢;rw[<-hya,<-hyb]at s;obtain⟨Q,hQ⟩:∃Q,Q=p*12+7:=⟨_,rfl⟩
    rw[<-hQ]at s;clear Sn hxa hxb hya hyb hma hmb hQ q1 q2;obtain⟨S,T⟩:∃P:World->Prop,P=λW=>∃b,ST m b W:=⟨_,rfl⟩
    obtain⟨U,V⟩:∃P:World->Prop,P=λW=>∃a,ST a t W:=⟨_,rfl⟩
    obtain⟨X,K⟩:∃P:World->Prop,P=λW=>∃a b,(a=xa\/a=m)/\(b=xb\/b=t)/\ST a b W:=⟨_,rfl⟩
    obtain⟨LL,Z⟩:∃P:World->World->Prop,P=λW H=>(S W->S H)/\(U W->U H):=⟨_,rfl⟩
    have CE:Hid (∀W,X W->∃a b,(a=xa\/a=m)/\(b=xb\/b=t)/\W.cell? ⟨Y.K4,Q,none⟩=some (ba bq a)/\W.cell? ⟨Y.K4,Q+1,none⟩=some (ba bq b)/\(∀o,W.frozen? ⟨Y.K4,o,none⟩=false)/\W.cell? ⟨wr.heap.size,0,none⟩=some (bi (some ⟨Y.K4,Q,none⟩))/\W.cell? ⟨wr.heap.size,1,none⟩=some (ba bq ya)/\W.cell? ⟨wr.heap.size,2,none⟩=some (ba bq yb)):=aa λW h=>by
     subst K;obtain⟨a,b,h1,h2,M⟩:=h;obtain⟨L,e1,J⟩:=abl (s.out.bx _ _ _ M);exact⟨a,b,h1,h2,s.out.ca _ _ _ M,s.out.cb _ _ _ M,s.out.fz _ _ _ M,L,e1,J⟩
    have N:Hid (∀W H,X W->Below W.heap.size W H->X H/\LL W H):=aa λW H h u=>by
     subst K T V Z;obtain⟨a,b,h1,h2,M⟩:=h;exact⟨⟨a,b,h1,h2,s.out.on _ _ _ _ M u⟩,λh=>h.imp λ_ h=>s.out.on _ _ _ _ h u,λh=>h.imp λ_ h=>s.out.on _ _ _ _ h u⟩
    have CS1:Hid (∀W,X W->X (W.setCell ⟨Y.K4,Q,none⟩ (ba bq m))/\LL W (W.setCell ⟨Y.K4,Q,none⟩ (ba bq m))/\S (W.setCell ⟨Y.K4,Q,none⟩ (ba bq m))):=aa λW h=>by
     subst K T V Z;obtain⟨a,b,h1,h2,M⟩:=h;exact⟨⟨_,b,bv rfl,h2,s.out.sa _ _ _ _ M⟩,⟨λh=>h.imp λ_ h=>s.out.sa _ _ _ _ h,fun⟨_,h⟩=>⟨_,s.out.sa _ _ _ _ h⟩⟩,_,s.out.sa _ _ _ _ M⟩
    have CS2:Hid (∀W,X W->X (W.setCell ⟨Y.K4,Q+1,none⟩ (ba bq t))/\LL W (W.setCell ⟨Y.K4,Q+1,none⟩ (ba bq t))/\U (W.setCell ⟨Y.K4,Q+1,none⟩ (ba bq t))):=aa λW h=>by
     subst K T V Z;obtain⟨a,b,h1,h2,M⟩:=h;exact⟨⟨a,_,h1,bv rfl,s.out.sb _ _ _ _ M⟩,⟨fun⟨_,h⟩=>⟨_,s.out.sb _ _ _ _ h⟩,λh=>h.imp λ_ h=>s.out.sb _ _ _ _ h⟩,_,s.out.sb _ _ _ _ M⟩
    have CN:Hid (∀W,S W->U W->ST m t W):=aa λW h k=>by
     subst T V;obtain⟨b,h⟩:=h;obtain⟨a,k⟩:=k;have:=(s.out.ca _ _ _ h).symm.trans (s.out.ca _ _ _ k);obtain rfl:m=a:=by simpa using this
     exact k
    have CL:Hid (∀W H,LL W H->(S W->S H)/\(U W->U H)):=aa λW H h=>by rw[Z]at h;exact h
    have CK:Hid (X W4):=aa (by rw[K];exact⟨_,_,bu rfl,bu rfl,S0.out⟩);clear K T V Z S0;refine aJ ?_;refine ig X LL (λj=>j != 8&&j != 17&&j != 24&&j != 27) (am1 xa m xb t S U) rfl (by kernel_rfl) (λ_ _ W H O h=>⟨h.1,h.2.1,λe=>(CL.out _ _ O).1 (h.2.2.1 e),λe=>(CL.out _ _ O).2 (h.2.2.2 e)⟩) (λi _ _ vs eX W he _ h=>⟨λe=>by subst e;rw[<-he];exact h.1 rfl,λe=>by subst e;rw[<-he];exact h.2.1 rfl,h.2.2⟩) ?_ ?_
    ·exact(N.out _ _ CK.out (ar _ _).drew).1
    ·iterate 8 (
      apply aY
      case hE=>rfl
      case h=>
       intro vs W g hd;obtain⟨a,b,B,hb,p7,p8,F,L,e1,J⟩:=CE.out W g;have A:=(N.out W W g (ar _ _)).2;clear B hb
       go_simp
       first
        |with_reducible exact rfl
        |with_reducible exact⟨rfl,g,A⟩
      case hb=>exact j8)
     apply eH
     case hE=>rfl
     case hb=>exact j8
     case h=>
      intro vs W g hd;obtain⟨a,b,B,hb,p7,p8,F,L,e1,J⟩:=CE.out W g;have A:=(N.out W W g (ar _ _)).2;have HPH:Hid (am1 xa m xb t S U 8 (upd vs 8 (ba bq a)) W):=aa ⟨λ_=>by rcases B with rfl|rfl<;>simp[upd],λe=>absurd e (by decide),λe=>absurd e (by decide),λe=>absurd e (by decide)⟩;clear B hb
      go_simp
      exact⟨g,A,HPH.out⟩
     iterate 3 (
      apply aY
      case hE=>rfl
      case h=>
       intro vs W g hd;obtain⟨a,b,B,hb,p7,p8,F,L,e1,J⟩:=CE.out W g;have A:=(N.out W W g (ar _ _)).2;clear B hb
       go_simp
       first
        |with_reducible exact rfl
        |with_reducible exact⟨rfl,g,A⟩
      case hb=>exact j8)
     apply aY (v:=ba bq m)
     case hE=>rfl
     case hb=>exact j8
     case h=>
      intro vs W g hd;have h8:=(hd ⟨8,bt⟩ (cH.2 ⟨by simp,rfl⟩) rfl).1 rfl;have A:=(N.out W W g (ar _ _)).2;have w1:=E1.out.1;have w2:=E1.out.2.1
      rcases h8 with h8|h8
      ·rw[h8]
       go_simp
       first|refine⟨?_,g,A⟩|refine⟨?_,A⟩
       first|(split<;>omega)|(intro _;omega)|omega
      ·rw[h8]
       go_simp
       first|refine⟨?_,g,A⟩|refine⟨?_,A⟩
       first|(split<;>omega)|(intro _;omega)|omega
     iterate 4 (
      apply aY
      case hE=>rfl
      case h=>
       intro vs W g hd;obtain⟨a,b,B,hb,p7,p8,F,L,e1,J⟩:=CE.out W g;have A:=(N.out W W g (ar _ _)).2;clear B hb
       go_simp
       first
        |with_reducible exact rfl
        |with_reducible exact⟨rfl,g,A⟩
      case hb=>exact j8)
     apply eH
     case hE=>rfl
     case hb=>exact j8
     case h=>
      intro vs W g hd;obtain⟨a,b,B,hb,p7,p8,F,L,e1,J⟩:=CE.out W g;have A:=(N.out W W g (ar _ _)).2;have HPH:Hid (am1 xa m xb t S U 17 (upd vs 17 (ba bq b)) W):=aa ⟨λe=>absurd e (by decide),λ_=>by rcases hb with rfl|rfl<;>simp[upd],λe=>absurd e (by decide),λe=>absurd e (by decide)⟩;clear B hb
      go_simp
      exact⟨g,A,HPH.out⟩
     iterate 3 (
      apply aY
      case hE=>rfl
      case h=>
       intro vs W g hd;obtain⟨a,b,B,hb,p7,p8,F,L,e1,J⟩:=CE.out W g;have A:=(N.out W W g (ar _ _)).2;clear B hb
       go_simp
       first
        |with_reducible exact rfl
        |with_reducible exact⟨rfl,g,A⟩
      case hb=>exact j8)
     apply aY (v:=ba bq t)
     case hE=>rfl
     case hb=>exact j8
     case h=>
      intro vs W g hd;have h8:=(hd ⟨17,bt⟩ (cH.2 ⟨by simp,rfl⟩) rfl).2.1 rfl;have A:=(N.out W W g (ar _ _)).2;have w1:=E1.out.2.2.1;have w2:=E1.out.2.2.2
      rcases h8 with h8|h8
      ·rw[h8]
       go_simp
       first|refine⟨?_,g,A⟩|refine⟨?_,A⟩
       first|(split<;>omega)|(intro _;omega)|omega
      ·rw[h8]
       go_simp
       first|refine⟨?_,g,A⟩|refine⟨?_,A⟩
       first|(split<;>omega)|(intro _;omega)|omega
     iterate 2 (
      apply aY
      case hE=>rfl
      case h=>
       intro vs W g hd;obtain⟨a,b,B,hb,p7,p8,F,L,e1,J⟩:=CE.out W g;have A:=(N.out W W g (ar _ _)).2;clear B hb
       go_simp
       first
        |with_reducible exact rfl
        |with_reducible exact⟨rfl,g,A⟩
      case hb=>exact j8)
     apply eH
     case hE=>rfl
     case hb=>exact j8
     case h=>
      intro vs W g hd;obtain⟨a,b,B,hb,p7,p8,F,L,e1,J⟩:=CE.out W g;obtain⟨c1,c2,c3⟩:=CS1.out W g;have K9:Hid (X (W.setCell ⟨Y.K4,Q,none⟩ (ba bq m))/\LL W (W.setCell ⟨Y.K4,Q,none⟩ (ba bq m))/\am1 xa m xb t S U 24 (upd vs 24 undef) (W.setCell ⟨Y.K4,Q,none⟩ (ba bq m))):=aa ⟨c1,c2,λe=>absurd e (by decide),λe=>absurd e (by decide),λ_=>c3,λe=>absurd e (by decide)⟩;clear B hb c1 c2 c3
      go_simp
      exact K9.out
     iterate 2 (
      apply aY
      case hE=>rfl
      case h=>
       intro vs W g hd;obtain⟨a,b,B,hb,p7,p8,F,L,e1,J⟩:=CE.out W g;have A:=(N.out W W g (ar _ _)).2;clear B hb
       go_simp
       first
        |with_reducible exact rfl
        |with_reducible exact⟨rfl,g,A⟩
      case hb=>exact j8)
     apply eH
     case hE=>rfl
     case hb=>exact j8
     case h=>
      intro vs W g hd;obtain⟨a,b,B,hb,p7,p8,F,L,e1,J⟩:=CE.out W g;obtain⟨c1,c2,c3⟩:=CS2.out W g;have K9:Hid (X (W.setCell ⟨Y.K4,Q+1,none⟩ (ba bq t))/\LL W (W.setCell ⟨Y.K4,Q+1,none⟩ (ba bq t))/\am1 xa m xb t S U 27 (upd vs 27 undef) (W.setCell ⟨Y.K4,Q+1,none⟩ (ba bq t))):=aa ⟨c1,c2,λe=>absurd e (by decide),λe=>absurd e (by decide),λe=>absurd e (by decide),λ_=>c3⟩;clear B hb c1 c2 c3
      go_simp
      exact K9.out
     refine cP λvs W g hd=>?_;have S2:=aa (CN.out W ((hd 24 (by omega) rfl).2.2.1 rfl) ((hd 27 (by omega) rfl).2.2.2 rfl));refine bj ?_;clear g hd CE N CS1 CS2 CN CL CK;obtain⟨L,e1,J⟩:=abl (s.out.bx _ _ _ S2.out);have p7:=s.out.ca _ _ _ S2.out;have p8:=s.out.cb _ _ _ S2.out
     go_upto_region 12 with fail
     go_quiet (fail)
     have S3:=aa (s.out.on _ _ _ _ S2.out (below_drewN (ar _ _) nq));clear L e1 J p7 p8 S2;by_cases hgt:t<m
     ·have KX:=aa (SR.out _ _ _ S3.out);have E:=KX.out.res;obtain⟨y0,y1,y2,y3,y4,y5⟩:=bf E;have F:=tO E;have I:=aF E;have hF1:=aa (SF.out hgt);clear E
      go_wp2_with fail
      clear y0 y1 y2 y3 y4 y5 F I;have hWF:=nC (u0:=ba bq 0) (u1:=ba bq 0) (u2:=bb none 0 0) (u3:=bb none 0 0) (u4:=bb none 0 0) (u5:=bb none 0 0) KX.out.res;refine aH (v:=bg #[bc RX,ba bq 10]) ?_ rfl ⟨aP KX.out.low (by omega) _ _ _ _ _ _,bu ⟨by rw[hF1.out];decide,by rw[hF1.out]⟩⟩;obtain⟨c0,c1,c2,c3,c4,c5⟩:=bf hWF;simp[aI,aT,go_sem,c0,c1,c2,c3,c4,c5]
     ·go_wp2_with fail
      exact⟨SN.out _ (by omega) S3.out,by simp[intOf]⟩
   ·obtain⟨ST,R⟩:∃P:Int->Int->World->Prop,P=λa b W=>KNa C y z k1 k2 Y f p w3.heap.size w m7 m8 a b W/\W.heap[wr.heap.size]?=some (bs #[bi (some ⟨Y.K4,p*12+9,none⟩),ba bq k1,ba bq k2] 87):=⟨_,rfl⟩
    have s:Hid (Rnd Y.K4 (p*12+9) wr.heap.size k1 k2 ST):=aa (by
     subst R;have T4:∀a b W,KNa C y z k1 k2 Y f p w3.heap.size w m7 m8 a b W->Typ W Y.K4 85:=λa b W h=>h.own.t4.2.2.imp λ_ k=>k.1
     exact⟨λa b W H h u=>⟨h.1.on u,(u.block _ (aF h.2)).trans h.2⟩,λa b W h=>(h.1.cell hp).2.2.1,λa b W h=>(h.1.cell hp).2.2.2,λa b W h=>(T4 _ _ _ h.1).elim λ_ k=>tO k,λa b W h=>h.2,
      λa b W x h=>⟨h.1.set hp (r:=9) (by omega) x,(aZ ((T4 _ _ _ h.1).ne ⟨_,h.2⟩ (by decide))).trans h.2⟩,λa b W x h=>⟨h.1.set hp (r:=10) (by omega) x,(aZ ((T4 _ _ _ h.1).ne ⟨_,h.2⟩ (by decide))).trans h.2⟩⟩)
    obtain⟨xa,hxa⟩:∃x,x=x9:=⟨_,rfl⟩
    obtain⟨xb,hxb⟩:∃x,x=NT:=⟨_,rfl⟩
    obtain⟨ya,hya⟩:∃x,x=k1:=⟨_,rfl⟩
    obtain⟨yb,hyb⟩:∃x,x=k2:=⟨_,rfl⟩
    obtain⟨m,hma⟩:∃x,x=m9:=⟨_,rfl⟩
    obtain⟨t,hmb⟩:∃x,x=m10:=⟨_,rfl⟩
    have S0:Hid (ST xa xb (wr.alloc (bs #[bi (some ⟨Y.K4,p*12+9,none⟩),ba bq k1,ba bq k2] 87))):=aa (by rw[hxa,hxb];subst R;exact⟨hK.on ((ar _ _).alloc (aw _) _),au _ _⟩);have SR:Hid (∀a b W,ST a b W->KNb C y z k1 k2 w W):=aa λa b W h=>by subst R;exact h.1.kb
    have SN:Hid (∀W,m<=t->ST m t W->((ba bq 2=ba bq 0/\KNa C y z k1 k2 Y f p w3.heap.size w x7 x8 x9 NT W)\/(ba bq 2=ba bq 1/\m7<=m8/\KNa C y z k1 k2 Y f p w3.heap.size w m7 m8 x9 NT W)\/(ba bq 2=ba bq 2/\m7<=m8/\m9<=m10/\KNa C y z k1 k2 Y f p w3.heap.size w m7 m8 m9 m10 W))):=aa λW hl h=>by rw[hma,hmb]at hl h;subst R;exact bv (bv ⟨rfl,O,hl,h.1⟩)
    have SF:Hid (t<m->aaz (C.x4 p) y z k1 k2=10):=aa λh=>by rw[hma,hmb]at h;rw[HF1.out];rw[if_neg (by omega),if_pos h]
    have E1:Hid (max xa ya=m/\max m ya=m/\min xb yb=t/\min t yb=t):=aa (by obtain⟨e1,J,e3,e4⟩:=HMM.out;omega);clear R hK KQ
    go_upto_region 11 with fail
    obtain⟨W4,Sn⟩:∃W4:World,W4=wr.alloc (bs #[bi (some ⟨Y.K4,p*12+9,none⟩),ba bq k1,ba bq k2] 87):=⟨_,rfl⟩
    rw[<-Sn]at S0 ⊢;rw[<-hya,<-hyb]at s;obtain⟨Q,hQ⟩:∃Q,Q=p*12+9:=⟨_,rfl⟩
    rw[<-hQ]at s;clear Sn hxa hxb hya hyb hma hmb hQ q1 q2;obtain⟨S,T⟩:∃P:World->Prop,P=λW=>∃b,ST m b W:=⟨_,rfl⟩
    obtain⟨U,V⟩:∃P:World->Prop,P=λW=>∃a,ST a t W:=⟨_,rfl⟩
    obtain⟨X,K⟩:∃P:World->Prop,P=λW=>∃a b,(a=xa\/a=m)/\(b=xb\/b=t)/\ST a b W:=⟨_,rfl⟩
    obtain⟨LL,Z⟩:∃P:World->World->Prop,P=λW H=>(S W->S H)/\(U W->U H):=⟨_,rfl⟩
    have CE:Hid (∀W,X W->∃a b,(a=xa\/a=m)/\(b=xb\/b=t)/\W.cell? ⟨Y.K4,Q,none⟩=some (ba bq a)/\W.cell? ⟨Y.K4,Q+1,none⟩=some (ba bq b)/\(∀o,W.frozen? ⟨Y.K4,o,none⟩=false)/\W.cell? ⟨wr.heap.size,0,none⟩=some (bi (some ⟨Y.K4,Q,none⟩))/\W.cell? ⟨wr.heap.size,1,none⟩=some (ba bq ya)/\W.cell? ⟨wr.heap.size,2,none⟩=some (ba bq yb)):=aa λW h=>by
     subst K;obtain⟨a,b,h1,h2,M⟩:=h;obtain⟨L,e1,J⟩:=abl (s.out.bx _ _ _ M);exact⟨a,b,h1,h2,s.out.ca _ _ _ M,s.out.cb _ _ _ M,s.out.fz _ _ _ M,L,e1,J⟩
    have N:Hid (∀W H,X W->Below W.heap.size W H->X H/\LL W H):=aa λW H h u=>by
     subst K T V Z;obtain⟨a,b,h1,h2,M⟩:=h;exact⟨⟨a,b,h1,h2,s.out.on _ _ _ _ M u⟩,λh=>h.imp λ_ h=>s.out.on _ _ _ _ h u,λh=>h.imp λ_ h=>s.out.on _ _ _ _ h u⟩
    have CS1:Hid (∀W,X W->X (W.setCell ⟨Y.K4,Q,none⟩ (ba bq m))/\LL W (W.setCell ⟨Y.K4,Q,none⟩ (ba bq m))/\S (W.setCell ⟨Y.K4,Q,none⟩ (ba bq m))):=aa λW h=>by
     subst K T V Z;obtain⟨a,b,h1,h2,M⟩:=h;exact⟨⟨_,b,bv rfl,h2,s.out.sa _ _ _ _ M⟩,⟨λh=>h.imp λ_ h=>s.out.sa _ _ _ _ h,fun⟨_,h⟩=>⟨_,s.out.sa _ _ _ _ h⟩⟩,_,s.out.sa _ _ _ _ M⟩
    have CS2:Hid (∀W,X W->X (W.setCell ⟨Y.K4,Q+1,none⟩ (ba bq t))/\LL W (W.setCell ⟨Y.K4,Q+1,none⟩ (ba bq t))/\U (W.setCell ⟨Y.K4,Q+1,none⟩ (ba bq t))):=aa λW h=>by
     subst K T V Z;obtain⟨a,b,h1,h2,M⟩:=h;exact⟨⟨a,_,h1,bv rfl,s.out.sb _ _ _ _ M⟩,⟨fun⟨_,h⟩=>⟨_,s.out.sb _ _ _ _ h⟩,λh=>h.imp λ_ h=>s.out.sb _ _ _ _ h⟩,_,s.out.sb _ _ _ _ M⟩
    have CN:Hid (∀W,S W->U W->ST m t W):=aa λW h k=>by
     subst T V;obtain⟨b,h⟩:=h;obtain⟨a,k⟩:=k;have:=(s.out.ca _ _ _ h).symm.trans (s.out.ca _ _ _ k);obtain rfl:m=a:=by simpa using this
     exact k
    have CL:Hid (∀W H,LL W H->(S W->S H)/\(U W->U H)):=aa λW H h=>by rw[Z]at h;exact h
    have CK:Hid (X W4):=aa (by rw[K];exact⟨_,_,bu rfl,bu rfl,S0.out⟩);clear K T V Z S0;refine aJ ?_;refine ig X LL (λj=>j != 8&&j != 17&&j != 24&&j != 27) (am1 xa m xb t S U) rfl (by kernel_rfl) (λ_ _ W H O h=>⟨h.1,h.2.1,λe=>(CL.out _ _ O).1 (h.2.2.1 e),λe=>(CL.out _ _ O).2 (h.2.2.2 e)⟩) (λi _ _ vs eX W he _ h=>⟨λe=>by subst e;rw[<-he];exact h.1 rfl,λe=>by subst e;rw[<-he];exact h.2.1 rfl,h.2.2⟩) ?_ ?_
    ·exact(N.out _ _ CK.out (ar _ _).drew).1
    ·iterate 8 (
      apply aY
      case hE=>rfl
      case h=>
       intro vs W g hd;obtain⟨a,b,B,hb,p7,p8,F,L,e1,J⟩:=CE.out W g;have A:=(N.out W W g (ar _ _)).2;clear B hb
       go_simp
       first
        |with_reducible exact rfl
        |with_reducible exact⟨rfl,g,A⟩
      case hb=>exact j8)
     apply eH
     case hE=>rfl
     case hb=>exact j8
     case h=>
      intro vs W g hd;obtain⟨a,b,B,hb,p7,p8,F,L,e1,J⟩:=CE.out W g;have A:=(N.out W W g (ar _ _)).2;have HPH:Hid (am1 xa m xb t S U 8 (upd vs 8 (ba bq a)) W):=aa ⟨λ_=>by rcases B with rfl|rfl<;>simp[upd],λe=>absurd e (by decide),λe=>absurd e (by decide),λe=>absurd e (by decide)⟩;clear B hb
      go_simp
      exact⟨g,A,HPH.out⟩
     iterate 3 (
      apply aY
      case hE=>rfl
      case h=>
       intro vs W g hd;obtain⟨a,b,B,hb,p7,p8,F,L,e1,J⟩:=CE.out W g;have A:=(N.out W W g (ar _ _)).2;clear B hb
       go_simp
       first
        |with_reducible exact rfl
        |with_reducible exact⟨rfl,g,A⟩
      case hb=>exact j8)
     apply aY (v:=ba bq m)
     case hE=>rfl
     case hb=>exact j8
     case h=>
      intro vs W g hd;have h8:=(hd ⟨8,bt⟩ (cH.2 ⟨by simp,rfl⟩) rfl).1 rfl;have A:=(N.out W W g (ar _ _)).2;have w1:=E1.out.1;have w2:=E1.out.2.1
      rcases h8 with h8|h8
      ·rw[h8]
       go_simp
       first|refine⟨?_,g,A⟩|refine⟨?_,A⟩
       first|(split<;>omega)|(intro _;omega)|omega
      ·rw[h8]
       go_simp
       first|refine⟨?_,g,A⟩|refine⟨?_,A⟩
       first|(split<;>omega)|(intro _;omega)|omega
     iterate 4 (
      apply aY
      case hE=>rfl
      case h=>
       intro vs W g hd;obtain⟨a,b,B,hb,p7,p8,F,L,e1,J⟩:=CE.out W g;have A:=(N.out W W g (ar _ _)).2;clear B hb
       go_simp
       first
        |with_reducible exact rfl
        |with_reducible exact⟨rfl,g,A⟩
      case hb=>exact j8)
     apply eH
     case hE=>rfl
     case hb=>exact j8
     case h=>
      intro vs W g hd;obtain⟨a,b,B,hb,p7,p8,F,L,e1,J⟩:=CE.out W g;have A:=(N.out W W g (ar _ _)).2;have HPH:Hid (am1 xa m xb t S U 17 (upd vs 17 (ba bq b)) W):=aa ⟨λe=>absurd e (by decide),λ_=>by rcases hb with rfl|rfl<;>simp[upd],λe=>absurd e (by decide),λe=>absurd e (by decide)⟩;clear B hb
      go_simp
      exact⟨g,A,HPH.out⟩
     iterate 3 (
      apply aY
      case hE=>rfl
      case h=>
       intro vs W g hd;obtain⟨a,b,B,hb,p7,p8,F,L,e1,J⟩:=CE.out W g;have A:=(N.out W W g (ar _ _)).2;clear B hb
       go_simp
       first
        |with_reducible exact rfl
        |with_reducible exact⟨rfl,g,A⟩
      case hb=>exact j8)
     apply aY (v:=ba bq t)
     case hE=>rfl
     case hb=>exact j8
     case h=>
      intro vs W g hd;have h8:=(hd ⟨17,bt⟩ (cH.2 ⟨by simp,rfl⟩) rfl).2.1 rfl;have A:=(N.out W W g (ar _ _)).2;have w1:=E1.out.2.2.1;have w2:=E1.out.2.2.2
      rcases h8 with h8|h8
      ·rw[h8]
       go_simp
       first|refine⟨?_,g,A⟩|refine⟨?_,A⟩
       first|(split<;>omega)|(intro _;omega)|omega
      ·rw[h8]
       go_simp
       first|refine⟨?_,g,A⟩|refine⟨?_,A⟩
       first|(split<;>omega)|(intro _;omega)|omega
     iterate 2 (
      apply aY
      case hE=>rfl
      case h=>
       intro vs W g hd;obtain⟨a,b,B,hb,p7,p8,F,L,e1,J⟩:=CE.out W g;have A:=(N.out W W g (ar _ _)).2;clear B hb
       go_simp
       first
        |with_reducible exact rfl
        |with_reducible exact⟨rfl,g,A⟩
      case hb=>exact j8)
     apply eH
     case hE=>rfl
     case hb=>exact j8
     case h=>
      intro vs W g hd;obtain⟨a,b,B,hb,p7,p8,F,L,e1,J⟩:=CE.out W g;obtain⟨c1,c2,c3⟩:=CS1.out W g;have K9:Hid (X (W.setCell ⟨Y.K4,Q,none⟩ (ba bq m))/\LL W (W.setCell ⟨Y.K4,Q,none⟩ (ba bq m))/\am1 xa m xb t S U 24 (upd vs 24 undef) (W.setCell ⟨Y.K4,Q,none⟩ (ba bq m))):=aa ⟨c1,c2,λe=>absurd e (by decide),λe=>absurd e (by decide),λ_=>c3,λe=>absurd e (by decide)⟩;clear B hb c1 c2 c3
      go_simp
      exact K9.out
     iterate 2 (
      apply aY
      case hE=>rfl
      case h=>
       intro vs W g hd;obtain⟨a,b,B,hb,p7,p8,F,L,e1,J⟩:=CE.out W g;have A:=(N.out W W g (ar _ _)).2;clear B hb
       go_simp
       first
        |with_reducible exact rfl
        |with_reducible exact⟨rfl,g,A⟩
      case hb=>exact j8)
     apply eH
     case hE=>rfl
     case hb=>exact j8
     case h=>
      intro vs W g hd;obtain⟨a,b,B,hb,p7,p8,F,L,e1,J⟩:=CE.out W g;obtain⟨c1,c2,c3⟩:=CS2.out W g;have K9:Hid (X (W.setCell ⟨Y.K4,Q+1,none⟩ (ba bq t))/\LL W (W.setCell ⟨Y.K4,Q+1,none⟩ (ba bq t))/\am1 xa m xb t S U 27 (upd vs 27 undef) (W.setCell ⟨Y.K4,Q+1,none⟩ (ba bq t))):=aa ⟨c1,c2,λe=>absurd e (by decide),λe=>absurd e (by decide),λe=>absurd e (by decide),λ_=>c3⟩;clear B hb c1 c2 c3
      go_simp
      exact K9.out
     refine cP λvs W g hd=>?_;have S2:=aa (CN.out W ((hd 24 (by omega) rfl).2.2.1 rfl) ((hd 27 (by omega) rfl).2.2.2 rfl));refine bj ?_;clear g hd CE N CS1 CS2 CN CL CK;obtain⟨L,e1,J⟩:=abl (s.out.bx _ _ _ S2.out);have p7:=s.out.ca _ _ _ S2.out;have p8:=s.out.cb _ _ _ S2.out
     go_upto_region 12 with fail
     go_quiet (fail)
     have S3:=aa (s.out.on _ _ _ _ S2.out (below_drewN (ar _ _) nq));clear L e1 J p7 p8 S2;by_cases hgt:t<m
     ·have KX:=aa (SR.out _ _ _ S3.out);have E:=KX.out.res;obtain⟨y0,y1,y2,y3,y4,y5⟩:=bf E;have F:=tO E;have I:=aF E;have hF1:=aa (SF.out hgt);clear E
      go_wp2_with fail
      clear y0 y1 y2 y3 y4 y5 F I;have hWF:=nC (u0:=ba bq 0) (u1:=ba bq 0) (u2:=bb none 0 0) (u3:=bb none 0 0) (u4:=bb none 0 0) (u5:=bb none 0 0) KX.out.res;refine aH (v:=bg #[bc RX,ba bq 10]) ?_ rfl ⟨aP KX.out.low (by omega) _ _ _ _ _ _,bu ⟨by rw[hF1.out];decide,by rw[hF1.out]⟩⟩;obtain⟨c0,c1,c2,c3,c4,c5⟩:=bf hWF;simp[aI,aT,go_sem,c0,c1,c2,c3,c4,c5]
     ·go_wp2_with fail
      exact⟨SN.out _ (by omega) S3.out,by simp[intOf]⟩
   ·have KR:=aa hK;have hF:Hid (aaz (C.x4 p) y z k1 k2=0):=aa (by rw[HF1.out,if_neg (by omega),if_neg (by omega)]);clear hK KQ;obtain⟨g0,g1,g2,g3,g4,g5⟩:=bf (BX.out _ _ _ _ _ KR.out);have E:=KR.out.kb.res;obtain⟨y0,y1,y2,y3,y4,y5⟩:=bf E;have F:=tO E;have I:=aF E;clear E
    go_wp2_with fail
    have E:=KR.out.kb.res;have hWF:=nC (u0:=ba bq C.l) (u1:=ba bq C.p) (u2:=bb Y.B2 C.n2 Y.p2) (u3:=bb Y.B3 C.n3 Y.p3) (u4:=bb (some ⟨Y.K4,0,none⟩) C.n4 Y.p4) (u5:=bb Y.B5 C.n5 Y.p5) E;have ho:=KR.out.own.abK ⟨_,E⟩ (by omega) (ba bq C.l) (ba bq C.p) (bb Y.B2 C.n2 Y.p2) (bb Y.B3 C.n3 Y.p3) (bb (some ⟨Y.K4,0,none⟩) C.n4 Y.p4) (bb Y.B5 C.n5 Y.p5);refine aH (v:=bg #[bc (C.xu Y f).val,ba bq 0]) ?_ rfl ⟨aP KR.out.kb.low (by omega) _ _ _ _ _ _,bv ⟨hF.out,Y,f,rfl,HC.out,?_⟩⟩
    ·clear ho y0 y1 y2 y3 y4 y5 F I;obtain⟨c0,c1,c2,c3,c4,c5⟩:=bf hWF;simp[aI,aT,go_sem,c0,c1,c2,c3,c4,c5]
    ·have e:(λj=>if j=p then X0 (f j) y z k1 k2 else f j)=λj=>if j=p then abf (f j) m7 m8 m9 m10 else f j:=by
      funext j;by_cases e:j=p
      ·subst e;rw[if_pos rfl,if_pos rfl,X0,(HC.out.1 j).n,HMM.out.1,HMM.out.2.1,HMM.out.2.2.1,HMM.out.2.2.2,HXX.out.1,HXX.out.2.1,HXX.out.2.2.1,HXX.out.2.2.2]
      ·rw[if_neg e,if_neg e]
     rw[e];exact ho
end Go.Proofs
namespace Go.Proofs
open Go.RowKit
set_option maxRecDepth 100000
set_option maxHeartbeats 4000000
def CD.LR(C:CD):Bool:=C.small&&decide (C.cx=0)
def afN(C:CD)(w:World)(h:C.Mem w):Calls PL 4 #[bc C.val] w (aO (bd C.LR) w):=by
 have f:Hid (∀W,Below w.heap.size w W->C.Mem W):=aa λW g=>h.below g;have b:=aa (show KB C w (w.alloc (bs C.val 27)) from⟨au _ _,(ar _ _).alloc (aw _) _⟩);clear h;by_cases hs:C.small=true
 ·have r:Hid (∀W,Below w.heap.size w W->C.At W):=aa λW g=>CD.At.Ri (f.out W g) hs;have a:(!C.small)=false:=by rw[hs];rfl
  have i:Hid (∀W,C.Mem W->Calls PL 15 #[bc C.val] W (aO (bd false) W)):=aa λW j=>by have:=AK C W j;rwa[a]at this
  have k:=aa hs;clear hs a;by_cases hc:C.cx=0
  all_goals
   have s:=aa hc;clear hc
   go_enter (fx (by decide) a5),a6
   obtain⟨l,m,n,o,f4,p⟩:=bf b.out.box
   go_wp2_with (first
    |(go_at_call 15;refine(i.out _ (f.out _ b.out.low)).mono ?_;rintro e w1⟨rfl,c⟩;have d:=aa (b.out.on c);clear c;clear l m n o f4 p;obtain⟨l,m,n,o,f4,p⟩:=bf d.out.box)
    |(go_at_call 7;refine(rK C _ (r.out _ d.out.low)).mono ?_;rintro e w2⟨rfl,q⟩;have t:=aa (d.out.on q);clear q))
   go_ret
   refine⟨?_,t.out.low⟩;have:=s.out;have:=k.out
   simp_all [CD.LR]
 ·have a:(!C.small)=true:=by simpa using hs
  have i:Hid (∀W,C.Mem W->Calls PL 15 #[bc C.val] W (aO (bd true) W)):=aa λW j=>by have:=AK C W j;rwa[a]at this
  have k:=aa hs;clear hs a
  go_enter (fx (by decide) a5),a6
  go_wp2_with (first
   |(go_at_call 15;refine(i.out _ (f.out _ b.out.low)).mono ?_;rintro e w1⟨rfl,c⟩;have d:=aa (b.out.on c);clear c))
  go_ret
  refine⟨?_,d.out.low⟩;have:=k.out
  simp_all [CD.LR]
open Go.Shelf
attribute [local go_sem] Oper.semAt_some
def j7(W:World)(v:Value)(l:List nR):Prop:=∃b c,v=bb b l.length c/\(0<l.length->∃k o,b=some ⟨k,o,none⟩/\k<W.heap.size/\∀i(hi:i<l.length),
 W.cell? ⟨k,o+i*5,none⟩=some (ba bq (l[i].1:Nat))/\W.cell? ⟨k,o+i*5+1,none⟩=some (ba bq l[i].2.1)/\W.cell? ⟨k,o+i*5+2,none⟩=some (ba bq l[i].2.2.1)/\W.cell? ⟨k,o+i*5+3,none⟩=some (ba bq l[i].2.2.2.1)/\W.cell? ⟨k,o+i*5+4,none⟩=some (ba bq l[i].2.2.2.2))
def j7.on{W a:World}{v:Value}{l:List nR}(h:j7 W v l)(d:Below W.heap.size W a):j7 a v l:=by
 obtain⟨b,c,e,h⟩:=h;refine⟨b,c,e,λg=>?_⟩;obtain⟨k,o,e1,f,hc⟩:=h g;have e:∀j,a.cell? ⟨k,j,none⟩=W.cell? ⟨k,j,none⟩:=λj=>d.cell (p:=⟨k,j,none⟩) f;exact⟨k,o,e1,Nat.lt_of_lt_of_le f d.size,λi hi=>by simp only[e];exact hc i hi⟩
def SQ{T:TypeId}{W:World}{base:Nat}{v:Value}{l:List nR}(h:W.ownsRow base T 5 v l.length (l.flatMap vV)):j7 W v l:=by
 obtain⟨_,h⟩:=h
 rcases h with⟨rfl,a⟩|⟨g,cap,b,rfl,hb,hg,hc,f,hs,c⟩
 ·exact⟨none,0,by rw[a],λh=>by omega⟩
 ·refine⟨_,_,rfl,λa=>⟨g,0,rfl,aF hg,λi hi=>?_⟩⟩;have key:∀j u,j<5->(vV l[i])[j]?=some u->W.cell? ⟨g,0+i*5+j,none⟩=some u:=by
   intro j u d e;rw[<-acw l i j hi d,<-c,List.getElem?_take_of_lt (by omega)]at e;simp only[World.cell?,hg,Nat.zero_add];simpa using e
  exact⟨key 0 _ (by omega) rfl,key 1 _ (by omega) rfl,key 2 _ (by omega) rfl,key 3 _ (by omega) rfl,key 4 _ (by omega) rfl⟩
def AY.reads{W:World}{base:Nat}{v:Value}{l:List nR}(h:AY W base v l):j7 W v l:=SQ h
abbrev chI(l:List Int)(n:Nat):Int:=l.getD n 0
abbrev ahx(a b n:Int):Int:=a+n % (b-a+1)
def CD.rp(C:CD)(g i:Nat):Nat:=s8 C.n4 (C.S g) i
def CD.rc(C:CD)(g i:Nat):Nat:=2*(g*C.n4+i)
def CD.rat(C:CD)(ps:List Int)(g:Nat):Nat->Int
 |0=>C.dl g
 |i+1=>CD.rat C ps g i+ahx (C.pn (C.rp g i) 7) (C.pn (C.rp g i) 8) (chI ps (C.rc g i))+ahx (C.pn (C.rp g i) 9) (C.pn (C.rp g i) 10) (chI ps (C.rc g i+1))
def CD.rgo(C:CD)(ps:List Int)(g i:Nat):Int:=C.rat ps g i+ahx (C.pn (C.rp g i) 7) (C.pn (C.rp g i) 8) (chI ps (C.rc g i))
def CD.rv(C:CD)(ps:List Int)(g i:Nat):nR:=(C.rp g i,C.rat ps g i,C.rat ps g i,C.rgo ps g i,C.rgo ps g i)
end Go.Proofs
namespace Go.Proofs
open Go.RowKit
def abM{C:CD}(hc:C.cx=0){g:Nat}(hg:g<C.n5)(k:Nat):(nT C g k).1=C.rp g k:=by
 have b:=(L1 hc).1;have hs:=(aeo hc hg).1
 induction k with
 |zero=>
  show C.S g=s8 C.n4 (C.S g) 0;unfold s8;rw[Nat.add_zero,Nat.mod_eq_of_lt];unfold CD.S;omega
 |succ k a=>
  show Ff C (nT C g k).1=s8 C.n4 (C.S g) (k+1);rw[a,abq (by omega)];rfl
def amq{C:CD}(hc:C.cx=0){g:Nat}(hg:g<C.n5){r:Nat}(d:r<=C.n4):cmV C.pn C.n4 (C.S g) (C.dl g) r=(nT C g r).2:=by
 have a:=Sa C hc hg
 induction r with
 |zero=>rfl
 |succ r f=>
  have b:=a.lo (r+1) d;have c:=a.hi (r+1) d;have h:=a.lo r (by omega);have i:=a.hi r (by omega);have e:=a.nn _ (a.p4 r);have j:=a.m4;rw[cmV,f (by omega)];simp only[nT]at b c ⊢;rw[abM hc hg]at b c e ⊢;simp only[CD.rp]at b c e ⊢
  grind[bm]
def abm(x:nR):Nat->Int
 |0=>(x.1:Nat)
 |1=>x.2.1
 |2=>x.2.2.1
 |3=>x.2.2.2.1
 |_=>x.2.2.2.2
def afO{C:CD}(hc:C.cx=0){g:Nat}(hg:g<C.n5){r:Nat}(c:r<C.n4)(j:Nat):vsV C.pn C.n4 (C.S g) (C.dl g) r j=abm (Nu C g r) j:=by
 have a:=Sa C hc hg;have d:=a.lo r (by omega);have f:=a.hi r (by omega);have b:=a.nn _ (a.p4 r);have h:=a.m4;rw[abM hc hg]at b;have e:=amq hc hg (show r<=C.n4 by omega)
 match j with
 |0=>simp only[vsV,abm,Nu,abM hc hg];rfl
 |1=>simp only[vsV,abm,Nu,e]
 |2=>simp only[vsV,abm,Nu,e]
 |3=>
  simp only[vsV,abm,Nu,e,abM hc hg];simp only[CD.rp,CD.pn]at b ⊢;exact bm _ (by omega)
 |j+4=>
  simp only[vsV,abm,Nu,e,abM hc hg];simp only[CD.rp,CD.pn]at b ⊢;exact bm _ (by omega)
def ac6{C:CD}(hc:C.cx=0){g:Nat}(hg:g<C.n5){r:Nat}(b:r<C.n4)(j:Nat):0<=abm (Nu C g r) j/\abm (Nu C g r) j<=1000:=by
 have a:=Sa C hc hg;have c:=a.lo r (by omega);have d:=a.hi r (by omega);have e:=a.nn _ (a.p4 r);have f:=a.m4;have h:=a.p4 r
 match j with
 |0=>simp only[abm,Nu];omega
 |1=>simp only[abm,Nu];omega
 |2=>simp only[abm,Nu];omega
 |3=>simp only[abm,Nu];omega
 |j+4=>simp only[abm,Nu];omega
def CD.N5{C:CD}(hc:C.cx=0){g p j:Nat}(hg:g<C.n5)(a:p<C.n4)(b:j<5):C.H9.getD (g*25+p*5+j) 0=abm (Nu C g (ac3 C.n4 (C.S g) p)) j:=by
 have c:=(L1 hc).2;have d:=s9 hc;rw[<-afO hc hg (Q2 (by omega))];unfold CD.H9 acp;rw[ae,ag,ai (by omega)];simp only[bo,bp];rw[agH,show(g*25+p*5+j) / 25=g by omega,show(g*25+p*5+j) % 25 / 5=p by omega,show(g*25+p*5+j) % 5=j by omega,if_pos ⟨hg,a⟩]
def CD.abY{C:CD}(hc:C.cx=0):Ir C.H9:=by
 have key:∀o,-10000<=C.H9.getD o 0/\C.H9.getD o 0<=10000:=λo=>by
  unfold CD.H9 acp;rw[ae,ag]
  rcases Nat.lt_or_ge o 75 with a|a
  ·rw[ai a];simp only[bo,bp];rw[agH]
   split
   ·rename_i b;have:=ac6 hc b.1 (Q2 (np:=C.n4) (s:=C.S (o / 25)) (p:=o % 25 / 5) (by omega)) (o % 5);rw[afO hc b.1 (Q2 (by omega))];omega
   ·omega
  grind
 exact⟨by simp[CD.H9,acp],λj=>(key j).1,λj=>(key j).2⟩
def abB(C:CD)(g:Nat)(h:0<C.n4):nU C g=(Nu C g (C.n4-1)).2.2.2:=by
 unfold nU;rw[show C.n4=(C.n4-1)+1 by omega,uM,IE];rfl
theorem acE{L:List Int}{a b n:Nat}{x:nR}:x∈abu L a b n↔∃p,p<n/\(IU L a b p).2.2.2.1≠2/\x=IU L a b p:=by
 induction n with
 |zero=>simp[abu]
 |succ n c=>
  rw[abu,ao,c]
  grind
theorem acH{L:List Int}{n a k:Nat}{x:nR}:x∈R9 L n a k↔∃j,j<k/\x∈abu L a (a+1+j) n:=by
 induction k with
 |zero=>simp[R9]
 |succ k b=>
  rw[R9,ao,b]
  grind
def ahy{L:List Int}{n m k:Nat}{x:nR}:x∈aay L n m k↔∃a,a<k/\x∈R9 L n a (m-(a+1)):=by
 induction k with
 |zero=>simp[aay]
 |succ k b=>
  rw[aay,ao,b]
  grind
def abn{L:List Int}{n m:Nat}{x:nR}:x∈afk L n m↔∃a b p,a<b/\b<m/\p<n/\(IU L a b p).2.2.2.1≠2/\x=IU L a b p:=by
 rw[afk,agO,ahy];constructor
 ·grind[acH,acE]
 ·rintro⟨a,b,p,d,e,c,f,g⟩;exact⟨a,by omega,acH.2 ⟨b-(a+1),by omega,acE.2 ⟨p,c,by grind⟩⟩⟩
open Go.Shelf
attribute [local go_sem] Oper.semAt_some
set_option maxRecDepth 100000
set_option maxHeartbeats 4000000
def CD.Cv(C:CD):List nR:=afk C.H9 C.n4 C.n5
def CD.abo(C:CD):Bool:=qP C C.n5&&decide (C.Cv.length=0)
def afP{C:CD}(hc:C.cx=0){w:World}(h:C.At w):Calls PL 45 #[bc C.val] w λe w'=>∃v,e=br v/\kV w' w.heap.size v C.Cv/\Below w.heap.size w w':=
 abk C C.H9 (CD.abY hc).len (L1 hc).2 (s9 hc) w h (λ_ a=>afK a hc)
def kV.reads{W:World}{base:Nat}{v:Value}{l:List nR}(h:kV W base v l):j7 W v l:=SQ h
def abN{C:CD}{w:World}(h:C.At w)(hc:C.cx=0):Calls PL 10 #[bc C.val] w λe w'=>∃b c,e=br (bg #[bb b C.Cv.length c,ba bq 0])/\j7 w' (bb b C.Cv.length c) C.Cv/\Below w.heap.size w w':=by
 refine(Fp C (λW v=>j7 W v C.Cv) w h (by rw[CD.b6,if_pos hc];rfl) λW f=>(afP hc f).mono ?_).mono ?_
 ·rintro e w'⟨v,rfl,a,d⟩;exact⟨v,rfl,a.reads,d⟩
 ·rintro e w'⟨v,rfl,a,d⟩;have g:=a;obtain⟨b,c,rfl,_⟩:=g;exact⟨b,c,rfl,a,d⟩
def ahz{C:CD}{w:World}(h:C.At w)(hc:C.cx=0):Calls PL 11 #[bc C.val] w (aO (bg #[bd C.abo,ba bq 0]) w):=by
 have d:=aa h;have l:Hid (C.b6 true=0):=aa (by rw[CD.b6,if_pos hc];rfl)
 have f:Hid (∀W,C.At W->Calls PL 46 #[bc C.val] W (aO (bd C.abo) W)):=aa λW a=>VY C C.Cv.length W a hc (s9 hc) λW a=>(afP hc a).mono (by
  rintro e w'⟨v,rfl,m,n⟩;obtain⟨b,c,rfl⟩:=vB m
  exact⟨b,c,rfl,n⟩)
 have g:Hid (KB C w (w.alloc (bs C.val 27))):=aa ⟨au _ _,(ar _ _).alloc (aw _) _⟩;clear h hc;obtain⟨s,hs⟩:∃s,s=C.abo:=⟨_,rfl⟩
 rw[<-hs]at f ⊢;clear hs
 go_enter (fx (by decide) Tryz.func11),Tryz.ntmps11
 go_wp2_with (first
  |(go_at_call 30;refine(kF l.out (d.out.below g.out.low)).mono ?_;rintro e w1⟨rfl,i⟩;have j:=aa (g.out.on i);clear i)
  |(go_at_call 46;refine(f.out _ (d.out.below (j.out.alloc (bs C.val 77)).low)).mono ?_;rintro e w2⟨rfl,k⟩;have o:=aa ((j.out.alloc (bs C.val 77)).on k);clear k))
 refine aH (v:=bg #[bd s,ba bq 0]) ?_ rfl ⟨rfl,o.out.low⟩;simp[aI,Tryz.results11,go_sem]
def KD(C:CD)(g:Nat):Int:=Ej (decide ((nU C g).1<=C.l)) (decide ((nU C g).2 > C.l))
def abO(C:CD)(g:Nat)(w:World)(h:C.At w)(hg:g<C.n5)(m5:C.n5<=3)(hf:C.b6 true=0)(r:yR C g) :
 Calls PL 12 #[bc C.val,ba bq g] w (aO (bg #[ba bq (KD C g),ba bq 0]) w):=by
 have s:=aa h;have H:=aa hf;have I:=aa r;have t:Hid (KB C w (w.alloc (bs C.val 27))):=aa ⟨au _ _,(ar _ _).alloc (aw _) _⟩;clear h hf r
 go_enter (fx (by decide) Tryz.func12),Tryz.ntmps12
 go_upto_region 1 with fail
 refine cT 10 (KB C w) (Fo C) (λj=>j != 8&&j != 9) (alU C w) rfl (by kernel_rfl) (by kernel_rfl)
  (λi vs W u m h=>⟨λe=>(h.1 e).imp λk a=>⟨a.1,a.2.1,(m k).2 a.2.2⟩,λe=>(h.2 e).imp λk a=>⟨a.1,a.2.1,(m k).1 a.2.2⟩⟩) (λi o x vs J W K hd h=>⟨λe=>?_,λe=>?_⟩) ?_ ?_
 ·subst e;rw[<-K];exact h.1 rfl
 ·subst e;have L:vs 8=J 8:=by
   simp only[ab,ac,ad,aq]at x;subst x;exact hd ⟨8,bt⟩ (cH.2 ⟨by simp,rfl⟩)
  rw[<-L];exact h.2 rfl
 ·exact⟨t.out.box,t.out.low.drew⟩
 ·iterate 8 (
   apply aY
   case hE=>rfl
   case h=>
    intro vs W b hd;obtain⟨y,z,A,B,f4,D⟩:=bf b.box
    go_simp
    first
    |(go_at_call 39;refine(AZ C g hg m5 _).mono ?_;rintro e u⟨rfl,d⟩;exact⟨_,rfl,rfl,b.on d,Fo.on d⟩)
    |(go_at_call 30;refine(kF H.out (s.out.below b.low)).mono ?_;rintro e u⟨rfl,d⟩;exact⟨_,rfl,rfl,b.on d,Fo.on d⟩)
    |exact⟨rfl,Fo.on (ar _ _)⟩
   case hb=>exact j8)
  apply eH
  case hE=>rfl
  case hb=>exact j8
  case h=>
   intro vs W b hd
   go_simp
   have d:=(ar W.heap.size W).alloc (aw _) (bs #[ba bq 0,ba bq 0,bb none 0 0,bb none 0 0,bb none 0 0,bb none 0 0] 77)
   first
   |exact⟨b.on d,Fo.on d,⟨λ_=>⟨W.heap.size,by simp[upd],b.lt,_,_,_,_,_,_,au W _⟩,λe=>absurd e (by decide)⟩⟩
  apply eH
  case hE=>rfl
  case hb=>exact j8
  case h=>
   intro vs W b hd;obtain⟨k,a,E,x0,x1,x2,x3,x4,O,c⟩:=(hd ⟨8,bt⟩ (cH.2 ⟨by simp,rfl⟩) rfl).1 rfl;obtain⟨y,z,A,B,f4,D⟩:=bf c;have P:=tO c;rw[a]
   go_simp
   refine⟨⟨(cM (by omega)).trans b.box,aP b.low (by omega) _ _ _ _ _ _⟩,λq=>?_,⟨λe=>absurd e (by decide),λ_=>⟨k,by simp[upd,a],E,nC c⟩⟩⟩;by_cases p:q=k
   ·subst p;exact⟨λ_=>nC c,λ_=>⟨_,_,_,_,_,_,nC c⟩⟩
   ·exact⟨λe=>(cM p).trans e,fun⟨_,_,_,_,_,_,e⟩=>⟨_,_,_,_,_,_,(cM p).trans e⟩⟩
  refine cP λvs W b hd=>?_;obtain⟨k,a,E,c⟩:=(hd 9 (by omega) rfl).2 rfl;rw[a];obtain⟨y,z,A,B,f4,D⟩:=bf c;have Q:=aa c;have f:=aa b;clear c b hd a;by_cases e1:(nU C g).1<=C.l<;>by_cases M:(nU C g).2 > C.l
  all_goals (
   go_wp2_with (first
    |(go_at_call 47;refine(Lm C g I.out _ (s.out.below f.out.low)).mono ?_;rintro e w3⟨rfl,n⟩;obtain⟨d0,d1,d2,d3,d4,d5⟩:=bf ((n.block _ (aF f.out.box)).trans f.out.box);have R:=aF ((n.block _ (aF f.out.box)).trans f.out.box);have N:=aa n;clear n)
    |(go_at_call 48;refine(yH _ _ _).mono ?_;rintro e w4⟨rfl,rfl⟩)))
  all_goals (
   have F:=aS f.out.low N.out;refine aH (v:=bg #[ba bq (KD C g),ba bq 0]) ?_ rfl ⟨rfl,F.alloc F.size _⟩
   simp[KD,e1,M,aI,Tryz.results12,go_sem])
end Go.Proofs
namespace Go.Proofs
open Go.RowKit
theorem agR{L:List Int}{p:Nat}{m:Int}{n g:Nat}{can:Bool}(h:kU L p m n g can=1):∃q,g<=q/\q<g+n/\bO m (L.getD (q*25+p*5+2) 0) (L.getD (q*25+p*5+3) 0-1)=true:=by
 induction n generalizing g can with
 |zero=>cases can<;>cases h
 |succ n a=>
  rw[kU]at h
  grind
def agS{L:List Int}{p:Nat}{m:Int}{n g:Nat}{can:Bool}(h:kU L p m n g can=2):can=false/\∀q,g<=q->q<g+n->bO m (L.getD (q*25+p*5+1) 0) (L.getD (q*25+p*5+4) 0-1)=false:=by
 induction n generalizing g can with
 |zero=>
  refine⟨?_,λq a b=>by omega⟩;cases can
  ·rfl
  ·cases h
 |succ n c=>
  rw[kU]at h
  split at h
  ·cases h
  ·obtain⟨a,b⟩:=c h
   grind
def asQ(x:nR)(m:Int):Bool:=decide (x.2.1<=m)&&decide (m<x.2.2.2.1)
def CD.there(C:CD)(ps:List Int)(m:Int)(p:Nat):Nat->Bool
 |0=>false
 |k+1=>CD.there C ps m p k||asQ (C.rv ps k (ac3 C.n4 (C.S k) p)) m
open Go.Shelf
set_option maxRecDepth 100000
set_option maxHeartbeats 4000000
structure H8(C D:CD):Prop where
 l:D.l=C.l
 n4:D.n4=C.n4
 n5:D.n5=C.n5
 x5:D.x5=C.x5
 x4:∀i,i<C.n4->(C.x4 i).n 7<=(D.x4 i).n 7/\(D.x4 i).n 7<=(D.x4 i).n 8/\(D.x4 i).n 8<=(C.x4 i).n 8/\(C.x4 i).n 9<=(D.x4 i).n 9/\(D.x4 i).n 9<=(D.x4 i).n 10/\(D.x4 i).n 10<=(C.x4 i).n 10
def H8.st{C D:CD}(h:H8 C D)(hc:C.cx=0){g:Nat}(hg:g<C.n5)(k:Nat):(nT D g k).1=(nT C g k).1/\(nT C g k).2.1<=(nT D g k).2.1/\(nT D g k).2.1<=(nT D g k).2.2/\(nT D g k).2.2<=(nT C g k).2.2:=by
 induction k with
 |zero=>simp only[nT,h.x5];grind
 |succ k a=>
  obtain⟨b,d,e,f⟩:=a;have c:=(Sa C hc hg).p4 k;have i:=h.x4 _ c;simp only[nT,Ff,b,h.n4]
  grind
def H8.vis{C D:CD}(h:H8 C D)(hc:C.cx=0){g:Nat}(hg:g<C.n5)(k:Nat):(Nu D g k).1=(Nu C g k).1/\(Nu C g k).2.1<=(Nu D g k).2.1/\(Nu D g k).2.1<=(Nu D g k).2.2.1/\(Nu D g k).2.2.1<=(Nu C g k).2.2.1/\(Nu C g k).2.2.2.1<=(Nu D g k).2.2.2.1/\(Nu D g k).2.2.2.1<=(Nu D g k).2.2.2.2/\(Nu D g k).2.2.2.2<=(Nu C g k).2.2.2.2:=by
 obtain⟨a,b,c,d⟩:=h.st hc hg k;have e:=h.x4 _ ((Sa C hc hg).p4 k);simp only[Nu,a]
 grind
def H8.H9{C D:CD}(h:H8 C D)(hc:C.cx=0)(hd:D.cx=0){g p:Nat}(hg:g<C.n5)(b:p<C.n4) :
 C.H9.getD (g*25+p*5+1) 0<=D.H9.getD (g*25+p*5+1) 0/\D.H9.getD (g*25+p*5+1) 0<=D.H9.getD (g*25+p*5+2) 0/\D.H9.getD (g*25+p*5+2) 0<=C.H9.getD (g*25+p*5+2) 0/\
 C.H9.getD (g*25+p*5+3) 0<=D.H9.getD (g*25+p*5+3) 0/\D.H9.getD (g*25+p*5+3) 0<=D.H9.getD (g*25+p*5+4) 0/\D.H9.getD (g*25+p*5+4) 0<=C.H9.getD (g*25+p*5+4) 0:=by
 have d:D.S g=C.S g:=by simp only[CD.S,h.x5]
 have c:g<D.n5:=by rw[h.n5];exact hg
 have a:p<D.n4:=by rw[h.n4];exact b
 rw[CD.N5 hd c a (by omega),CD.N5 hd c a (by omega),CD.N5 hd c a (by omega),CD.N5 hd c a (by omega),CD.N5 hc hg b (by omega),CD.N5 hc hg b (by omega),CD.N5 hc hg b (by omega),CD.N5 hc hg b (by omega),h.n4,d];exact(h.vis hc hg _).2
theorem ahA{n a b:Int}:bO n a b=false↔¬(a<=n/\n<=b):=by rw[<-Bool.not_eq_true,aas]
theorem agT{L:List Int}{p:Nat}{m:Int}{n g:Nat}{can:Bool}(h:∃q,g<=q/\q<g+n/\bO m (L.getD (q*25+p*5+2) 0) (L.getD (q*25+p*5+3) 0-1)=true):kU L p m n g can=1:=by
 induction n generalizing g can with
 |zero=>grind
 |succ n a=>
  rw[kU]
  grind
theorem ahB{L:List Int}{p:Nat}{m:Int}{n g:Nat}(hy:∀q,g<=q->q<g+n->bO m (L.getD (q*25+p*5+2) 0) (L.getD (q*25+p*5+3) 0-1)=false)(h:∀q,g<=q->q<g+n->bO m (L.getD (q*25+p*5+1) 0) (L.getD (q*25+p*5+4) 0-1)=false):kU L p m n g false=2:=by
 induction n generalizing g with
 |zero=>rfl
 |succ n a=>
  rw[kU,hy g (by omega) (by omega),h g (by omega) (by omega)]
  grind
def H8.asR{C D:CD}(h:H8 C D)(hc:C.cx=0)(hd:D.cx=0){p:Nat}(a:p<C.n4){m:Int}(hs:kU C.H9 p m C.n5 0 false≠0):kU D.H9 p m C.n5 0 false=kU C.H9 p m C.n5 0 false:=by
 have b:=λg hg=>h.H9 hc hd (g:=g) (p:=p) hg a;have hv:kU C.H9 p m C.n5 0 false=1\/kU C.H9 p m C.n5 0 false=2:=by
  have key:∀n g can,kU C.H9 p m n g can=0\/kU C.H9 p m n g can=1\/kU C.H9 p m n g can=2:=by
   intro n
   induction n with
   |zero=>intro g can;cases can<;>simp[kU,Ej]
   |succ n c=>intro g can;rw[kU];grind
  grind
 rcases hv with hv|hv
 ·grind[agR,agT,aas]
 ·rw[hv];obtain⟨_,d⟩:=agS hv;have key:∀q,0<=q->q<0+C.n5->bO m (D.H9.getD (q*25+p*5+1) 0) (D.H9.getD (q*25+p*5+4) 0-1)=false:=λq e f=>by
   grind[ahA]
  grind[ahB,ahA]
def acO(a b:Bool):Ej a b=if !b then 1 else if !a then 2 else 0:=by cases a<;>cases b<;>rfl
def H8.amr{C D:CD}(h:H8 C D)(hc:C.cx=0){g:Nat}(hg:g<C.n5)(hs:KD C g≠0):KD D g=KD C g:=by
 have a:0<C.n4:=by have:=(L1 hc).1;omega
 obtain⟨_,_,_,_,c,d,e⟩:=h.vis hc hg (C.n4-1);have e1:nU C g=(Nu C g (C.n4-1)).2.2.2:=abB C g a;have b:nU D g=(Nu D g (C.n4-1)).2.2.2:=by have:=abB D g (by rw[h.n4];exact a);rw[this,h.n4]
 simp only[KD,e1,b,h.l,acO]at hs ⊢
 grind
theorem acV{a1 a2 a3 a4 c d e f c1 a c3 b d1 d2 d3 d4:Int}(i:a1<=c1)(j:a<=a2)(k:a3<=c3)(l:b<=a4)(k1:c<=d1)(k2:d2<=d)(k3:e<=d3)(m:d4<=f)(hc:c1<=a)(g:c3<=b)(hd:d1<=d2)(h:d3<=d4) :
 (aby c1 a c3 b d1 d2 d3 d4≠2->aby a1 a2 a3 a4 c d e f≠2)/\(aby a1 a2 a3 a4 c d e f=1->aby c1 a c3 b d1 d2 d3 d4=1):=by
 unfold aby;simp only[acO]
 grind
def afs(l:List nR)(t:nR):Bool:=l.any λx=>decide (x.1=t.1)&&decide (x.2.1=t.2.1)&&decide (x.2.2.1=t.2.2.1)&&decide (x.2.2.2.2<=t.2.2.2.2)
def afS{l:List nR}{t x:nR}(a:x∈l)(b:x.1=t.1)(c:x.2.1=t.2.1)(d:x.2.2.1=t.2.2.1)(e:x.2.2.2.2<=t.2.2.2.2):afs l t=true:=
 List.any_eq_true.2 ⟨x,a,by simp[b,c,d,e]⟩
def H8.had{C D:CD}(h:H8 C D)(hc:C.cx=0)(hd:D.cx=0){x:nR}(e:x∈D.Cv):afs C.Cv x=true:=by
 obtain⟨a,b,p,f,d,c,i,rfl⟩:=abn.1 e;have d:b<C.n5:=by have:=h.n5;omega
 have c:p<C.n4:=by have:=h.n4;omega
 have A:=h.H9 hc hd (g:=a) (by omega) c;have B:=h.H9 hc hd d c;refine afS (x:=IU C.H9 a b p) (abn.2 ⟨a,b,p,f,d,c,?_,rfl⟩) rfl rfl rfl ?_
 ·simp only[IU]at i⊢
  grind[acV]
 ·simp only[IU];omega
def H8.sure{C D:CD}(h:H8 C D)(hc:C.cx=0)(hd:D.cx=0){x:nR}(f:x∈C.Cv)(hy:x.2.2.2.1=1):afs D.Cv (x.1,x.2.1,x.2.2.1,0,9990)=true:=by
 obtain⟨a,b,p,i,k,e,m,rfl⟩:=abn.1 f;have d:b<D.n5:=by have:=h.n5;omega
 have c:p<D.n4:=by have:=h.n4;omega
 have A:=h.H9 hc hd (g:=a) (by omega) e;have B:=h.H9 hc hd k e;refine afS (x:=IU D.H9 a b p) (abn.2 ⟨a,b,p,i,d,c,?_,rfl⟩) rfl rfl rfl ?_
 ·simp only[IU]at hy ⊢
  grind[acV]
 ·have k1:=CD.N5 hd (g:=a) (by omega) c (j:=1) (by omega);have k2:=CD.N5 hd d c (j:=1) (by omega);have k3:=ac6 hd (g:=a) (by omega) (Q2 (np:=D.n4) (s:=D.S a) (p:=p) (by omega)) 1;have l:=ac6 hd d (Q2 (np:=D.n4) (s:=D.S b) (p:=p) (by omega)) 1;rw[<-k1]at k3;rw[<-k2]at l;simp only[IU];omega
def agU(C:CD)(n:Nat):qP C n=true↔∀g,g<n->(nU C g).2<=C.l:=by
 rw[qP,decide_eq_true_eq]
def H8.safe{C D:CD}(h:H8 C D)(hc:C.cx=0)(hd:D.cx=0)(hs:C.abo=true):D.abo=true:=by
 have a:0<C.n4:=by have:=(L1 hc).1;omega
 simp only[CD.abo,Bool.and_eq_true,decide_eq_true_eq,agU]at hs ⊢;refine⟨λg hg=>?_,?_⟩
 ·have hg:g<C.n5:=by have:=h.n5;omega
  have e1:nU C g=(Nu C g (C.n4-1)).2.2.2:=abB C g a;have b:nU D g=(Nu D g (C.n4-1)).2.2.2:=by have:=abB D g (by rw[h.n4];exact a);rw[this,h.n4]
  have k:=hs.1 g hg;rw[e1]at k;rw[b,h.l];have:=(h.vis hc hg (C.n4-1)).2.2.2.2.2.2;omega
 ·by_cases e:D.Cv=[]
  ·rw[e];rfl
  ·obtain⟨x,c⟩:=List.exists_mem_of_ne_nil _ e;have:=h.had hc hd c;have d:C.Cv=[]:=List.length_eq_zero_iff.1 hs.2;rw[d]at this;cases this
def amu{C:CD}{Y:aaf}{f:Nat->iJ}{p:Nat}{a b k1 k2:Int}(hc:C.cx=0)(hf:abS C f)(k:p<C.n4)(c:aaz (C.x4 p) a b k1 k2=0):H8 C (C.xu Y λj=>if j=p then X0 (f j) a b k1 k2 else f j)/\(C.xu Y λj=>if j=p then X0 (f j) a b k1 k2 else f j).cx=0:=by
 have hb:¬max ((C.x4 p).n 7) a > min ((C.x4 p).n 8) b/\¬max ((C.x4 p).n 9) k1 > min ((C.x4 p).n 10) k2:=by
  unfold aaz at c
  grind
 have d:∀j,(X0 (f j) a b k1 k2).n 7=max ((C.x4 j).n 7) a/\(X0 (f j) a b k1 k2).n 8=min ((C.x4 j).n 8) b/\(X0 (f j) a b k1 k2).n 9=max ((C.x4 j).n 9) k1/\(X0 (f j) a b k1 k2).n 10=min ((C.x4 j).n 10) k2:=λj=>by
  simp[X0,abf,(hf.1 j).n]
 refine⟨⟨rfl,rfl,rfl,rfl,λi hi=>?_⟩,?_⟩
 ·obtain⟨g,h⟩:=ahj hc hi;show(C.x4 i).n 7<=(if i=p then X0 (f i) a b k1 k2 else f i).n 7/\_;by_cases e:i=p
  ·grind
  ·simp only[if_neg e,(hf.1 i).n];omega
 ·refine amj.check (C:=C) ⟨rfl,rfl,rfl,rfl,rfl,rfl,rfl,λi=>?_,rfl,λi=>⟨rfl,rfl⟩⟩ (λi hi=>?_) (λi hi=>?_) hc
  ·show(if i=p then X0 (f i) a b k1 k2 else f i).name=_/\(∀j,j<=6->(if i=p then X0 (f i) a b k1 k2 else f i).n j=_)/\(if i=p then X0 (f i) a b k1 k2 else f i).ln=_/\(if i=p then X0 (f i) a b k1 k2 else f i).lane=_;by_cases e:i=p
   ·simp only[if_pos e];refine⟨(hf.1 i).name,λj l=>?_,(hf.1 i).ln,(hf.1 i).lane⟩;rw[<-(hf.1 i).n];show(if j=7 then _ else if j=8 then _ else if j=9 then _ else if j=10 then _ else(f i).n j)=_
    grind
   ·simp only[if_neg e];exact⟨(hf.1 i).name,λj _=>by rw[(hf.1 i).n],(hf.1 i).ln,(hf.1 i).lane⟩
  ·obtain⟨g,h⟩:=ahj hc hi;show eK ((if i=p then X0 (f i) a b k1 k2 else f i).n 7) _ 1 60=true/\_;by_cases e:i=p
   ·subst e;simp only[if_pos];obtain⟨q1,q2,q3,q4⟩:=d i;rw[q1,q2,q3,q4];refine⟨?_,?_⟩<;>simp[eK]<;>omega
   ·simp only[if_neg e,(hf.1 i).n];refine⟨?_,?_⟩<;>simp[eK]<;>omega
  ·have:=(aeo hc hi).2.1;show bO (C.x5 i).2.2 0 12=true;simp[bO];omega
attribute [local go_sem] Oper.semAt_some
set_option maxHeartbeats 40000000
def aal{W:World}{b:Option Addr}{n c:Nat}{l:List nR}(h:j7 W (bb b n c) l){i:Nat}(hi:i<l.length):∃k o,b=some ⟨k,o,none⟩/\∀a,Below W.heap.size W a->a.cell? ⟨k,o+i*5,none⟩=some (ba bq (l[i].1:Nat))/\a.cell? ⟨k,o+i*5+1,none⟩=some (ba bq l[i].2.1)/\a.cell? ⟨k,o+i*5+2,none⟩=some (ba bq l[i].2.2.1)/\a.cell? ⟨k,o+i*5+3,none⟩=some (ba bq l[i].2.2.2.1)/\a.cell? ⟨k,o+i*5+4,none⟩=some (ba bq l[i].2.2.2.2):=by
 obtain⟨b',g,e,h⟩:=h;cases e;obtain⟨k,o,e1,d,hc⟩:=h (by omega);refine⟨k,o,e1,λa f=>?_⟩;have e:∀j,a.cell? ⟨k,j,none⟩=W.cell? ⟨k,j,none⟩:=λj=>f.cell (p:=⟨k,j,none⟩) d;simp only[e];exact hc i hi
def ad1{C:CD}{g:Nat}{w:World}(h:C.At w)(hc:C.cx=0)(hg:g<C.n5):Calls PL 8 #[bc C.val,ba bq g] w λe w'=>∃b c,e=br (bg #[bb b C.n4 c,ba bq 0])/\j7 w' (bb b C.n4 c) (mD C g C.n4)/\Below w.heap.size w w':=by
 refine(ID C g w h hg (s9 hc) (by rw[CD.b6,if_pos hc];rfl) (Sa C hc hg)).mono ?_;rintro e w'⟨v,rfl,d,f⟩;have a:=d.reads;have i:=a;obtain⟨b,c,rfl,_⟩:=i;rw[R7]at a⊢;exact⟨b,c,rfl,a,f⟩
def ahC{C:CD}{m:Int}{w:World}(h:C.At w)(hc:C.cx=0)(d:bO m 0 999=true):Calls PL 9 #[bc C.val,ba bq m] w λe w'=>∃b c,e=br (bg #[bb b C.n4 c,ba bq 0])/\bB w' (bb b C.n4 c) (tB C.H9 m C.n5 C.n4)/\Below w.heap.size w w':=by
 refine(RO C m C.H9 (CD.abY hc) w h (by rw[CD.b6,if_pos hc];rfl) (L1 hc).2 (s9 hc) d (λW f=>afK f hc)).mono ?_;rintro e w'⟨v,rfl,a,g⟩;have i:=a;obtain⟨b,c,rfl,_⟩:=i;rw[Nt]at a⊢;exact⟨b,c,rfl,a,g⟩
def abZ{a b c d:Int}(e:c<=a)(f:b<=d)(w:World):Calls PL 13 #[bc #[ba bq a,ba bq b],bc #[ba bq c,ba bq d]] w (aO (bd true) w):=by
 go_enter (fx (by decide) Tryz.func13),Tryz.ntmps13
 go_wp2_with fail
 go_ret
 exact⟨rfl,((ar _ _).alloc (aw _) _).alloc (by simp) _⟩
def abp(t x:nR):Bool:=decide (x.1=t.1)&&decide (x.2.1=t.2.1)&&decide (x.2.2.1=t.2.2.1)&&decide (x.2.2.2.2<=t.2.2.2.2)
def afT(l:List nR)(t:nR):afs l t=l.any (abp t):=rfl
def afZ(v:Value)(l:List nR)(t:nR)(w:World)(h:j7 w v l)(hl:l.length<=20):Calls PL 14 #[v,bc (aaW t)] w (aO (bd (afs l t)) w):=by
 have U:Hid (∀W,Below w.heap.size w W->j7 W v l):=aa λW F=>h.on F;obtain⟨b,c,rfl,_⟩:=h;obtain⟨d,t1,t2,g,f⟩:=t;obtain⟨n,N⟩:∃n,n=l.length:=⟨_,rfl⟩
 rw[<-N]at U hl ⊢;have V:=aa N;have C:Hid ((w.alloc (bs (aaW (d,t1,t2,g,f)) 56)).heap[w.heap.size]?=some (bs #[ba bq d,ba bq t1,ba bq t2,ba bq g,ba bq f] 56)):=aa (au _ _);have s:Hid (Below w.heap.size w (w.alloc (bs (aaW (d,t1,t2,g,f)) 56))):=aa ((ar _ _).alloc (aw _) _);obtain⟨r,O⟩:∃r,r=afs l (d,t1,t2,g,f):=⟨_,rfl⟩
 have X:=aa O;rw[<-O];clear N O;simp only[aaW]at C s ⊢;obtain⟨z0,P⟩:∃z:Int,z=((d:Nat):Int):=⟨_,rfl⟩
 rw[<-P]at C s ⊢;have HZ:=aa P;clear P
 go_enter (fx (by decide) Tryz.func14),Tryz.ntmps14
 obtain⟨H,Q⟩:∃H:World,H=w.alloc (bs #[ba bq z0,ba bq t1,ba bq t2,ba bq g,ba bq f] 56):=⟨_,rfl⟩
 rw[<-Q]at C s
 go_upto_region 1 with fail
 rw[<-Q];clear Q
 go_wp2_with fail
 go_loopw [5] (λv5 wr=>∃i:Nat,i<=n/\v5=ba bq i/\(l.take i).any (abp (d,t1,t2,g,f))=false/\Below H.heap.size H wr) (λv5 _=>n-(intOf v5).toNat)
 case atStart=>exact⟨0,aB _,rfl,rfl,ar _ _⟩
 case round=>
  obtain⟨i,hi,rfl,Y,F⟩:=hrel;have j:=aa F;have Z:=aa Y;clear F Y;by_cases D:i<n
  ·have i1:(i:Int)<n:=by omega
   have q:i<l.length:=by rw[<-V.out];exact D
   have BL:Hid (Below w.heap.size w wr):=aa (s.out.trans (j.out.mono s.out.size));obtain⟨k,o,e',e⟩:=aal (U.out _ BL.out) q;have R:(l.take (i+1)).any (abp (d,t1,t2,g,f))=abp (d,t1,t2,g,f) l[i]:=by
    rw[List.take_add_one,List.getElem?_eq_getElem q,List.any_append,Z.out];simp
   have I:=ap q;obtain⟨x,E⟩:∃x,x=l[i]:=⟨_,rfl⟩
   rw[<-E]at e R I;obtain⟨c0,c1,u,c3,y⟩:=e wr (ar _ _);have m:Hid (∀W,Below wr.heap.size wr W->W.cell? ⟨w.heap.size,0,none⟩=some (ba bq z0)/\W.cell? ⟨w.heap.size,1,none⟩=some (ba bq t1)/\W.cell? ⟨w.heap.size,2,none⟩=some (ba bq t2)/\W.cell? ⟨w.heap.size,4,none⟩=some (ba bq f)):=aa λW S=>by
    have bw:=(j.out.block _ (aF C.out)).trans C.out;have bx:=(S.block _ (aF bw)).trans bw;refine⟨?_,?_,?_,?_⟩<;>simp[World.cell?,bx]
   have HT:Hid (abp (d,t1,t2,g,f) x=true->r=true):=aa λh=>by rw[X.out,afT];exact List.any_eq_true.2 ⟨x,I,h⟩
   have J:=aa R;have HM:=aa I;obtain⟨x0,x1,x2,x3,x4⟩:=x;obtain⟨y0,A⟩:∃z:Int,z=((x0:Nat):Int):=⟨_,rfl⟩
   have HY:Hid (x0=d↔y0=z0):=aa (by rw[A,HZ.out];omega);have p:Hid (∀W,Below wr.heap.size wr W->W.cell? ⟨k,o+i*5,none⟩=some (ba bq y0)/\W.cell? ⟨k,o+i*5+1,none⟩=some (ba bq x1)/\W.cell? ⟨k,o+i*5+2,none⟩=some (ba bq x2)/\W.cell? ⟨k,o+i*5+4,none⟩=some (ba bq x4)):=aa λW S=>by
    obtain⟨c0,c1,u,c3,y⟩:=e W S;exact⟨by rw[A];exact c0,c1,u,y⟩
   subst e';clear e R I E q A;by_cases d0:y0=z0
   ·by_cases d1:x1=t1
    ·by_cases d2:x2=t2
     ·by_cases d4:x4<=f
      ·obtain rfl:r=true:=HT.out (by simp[abp,d1,d2,d4];exact HY.out.2 d0)
       go_upto_region 4 with fail
       refine aJ ?_;refine ig (λW=>Below wr.heap.size wr W) (λ_ _=>True) (λ_=>true) (λ_ _ _=>True) rfl (by kernel_rfl) (λ_ _ _ _ _ _=>trivial) (λ_ _ _ _ _ _ _ _ h=>h) (ar _ _).drew ?_
       iterate 38 (
        apply aY
        case hE=>rfl
        case h=>
         intro vs W a hd;obtain⟨b0,K,L,M⟩:=m.out W a;obtain⟨c0,c1,u,y⟩:=p.out W a
         go_simp
         first
          |with_reducible exact rfl
          |with_reducible exact⟨rfl,a⟩
          |with_reducible exact⟨rfl,a,trivial⟩
          |trace_state
        case hb=>exact j8)
       refine cP λvs W a hd=>?_;refine bj ?_
       go_wp2_with fail
       go_ret
       exact⟨rfl,BL.out.trans (a.mono BL.out.size)⟩
      ·have B:Hid (abp (d,t1,t2,g,f) (x0,x1,x2,x3,x4)=false):=aa (by simp[abp,d4])
       go_upto_region 4 with fail
       refine aJ ?_;refine ig (λW=>Below wr.heap.size wr W) (λ_ _=>True) (λ_=>true) (λ_ _ _=>True) rfl (by kernel_rfl) (λ_ _ _ _ _ _=>trivial) (λ_ _ _ _ _ _ _ _ h=>h) (ar _ _).drew ?_
       iterate 38 (
        apply aY
        case hE=>rfl
        case h=>
         intro vs W a hd;obtain⟨b0,K,L,M⟩:=m.out W a;obtain⟨c0,c1,u,y⟩:=p.out W a
         go_simp
         first
          |with_reducible exact rfl
          |with_reducible exact⟨rfl,a⟩
          |with_reducible exact⟨rfl,a,trivial⟩
          |trace_state
        case hb=>exact j8)
       refine cP λvs W a hd=>?_;refine bj ?_
       go_wp2_with fail
       exact⟨⟨i+1,D,by go_num,J.out.trans B.out,j.out.trans (a.mono j.out.size)⟩,by simp only[intOf];omega⟩
     ·have B:Hid (abp (d,t1,t2,g,f) (x0,x1,x2,x3,x4)=false):=aa (by simp[abp,d2])
      go_upto_region 4 with fail
      refine aJ ?_;refine ig (λW=>Below wr.heap.size wr W) (λ_ _=>True) (λ_=>true) (λ_ _ _=>True) rfl (by kernel_rfl) (λ_ _ _ _ _ _=>trivial) (λ_ _ _ _ _ _ _ _ h=>h) (ar _ _).drew ?_
      iterate 38 (
       apply aY
       case hE=>rfl
       case h=>
        intro vs W a hd;obtain⟨b0,K,L,M⟩:=m.out W a;obtain⟨c0,c1,u,y⟩:=p.out W a
        go_simp
        first
         |with_reducible exact rfl
         |with_reducible exact⟨rfl,a⟩
         |with_reducible exact⟨rfl,a,trivial⟩
         |trace_state
       case hb=>exact j8)
      refine cP λvs W a hd=>?_;refine bj ?_
      go_wp2_with fail
      exact⟨⟨i+1,D,by go_num,J.out.trans B.out,j.out.trans (a.mono j.out.size)⟩,by simp only[intOf];omega⟩
    ·have B:Hid (abp (d,t1,t2,g,f) (x0,x1,x2,x3,x4)=false):=aa (by simp[abp,d1])
     go_upto_region 4 with fail
     refine aJ ?_;refine ig (λW=>Below wr.heap.size wr W) (λ_ _=>True) (λ_=>true) (λ_ _ _=>True) rfl (by kernel_rfl) (λ_ _ _ _ _ _=>trivial) (λ_ _ _ _ _ _ _ _ h=>h) (ar _ _).drew ?_
     iterate 38 (
      apply aY
      case hE=>rfl
      case h=>
       intro vs W a hd;obtain⟨b0,K,L,M⟩:=m.out W a;obtain⟨c0,c1,u,y⟩:=p.out W a
       go_simp
       first
        |with_reducible exact rfl
        |with_reducible exact⟨rfl,a⟩
        |with_reducible exact⟨rfl,a,trivial⟩
        |trace_state
      case hb=>exact j8)
     refine cP λvs W a hd=>?_;refine bj ?_
     go_wp2_with fail
     exact⟨⟨i+1,D,by go_num,J.out.trans B.out,j.out.trans (a.mono j.out.size)⟩,by simp only[intOf];omega⟩
   ·have T:Hid (¬x0=d):=aa λh=>d0 (HY.out.1 h);have B:Hid (abp (d,t1,t2,g,f) (x0,x1,x2,x3,x4)=false):=aa (by simp[abp,T.out])
    go_upto_region 4 with fail
    refine aJ ?_;refine ig (λW=>Below wr.heap.size wr W) (λ_ _=>True) (λ_=>true) (λ_ _ _=>True) rfl (by kernel_rfl) (λ_ _ _ _ _ _=>trivial) (λ_ _ _ _ _ _ _ _ h=>h) (ar _ _).drew ?_
    iterate 38 (
     apply aY
     case hE=>rfl
     case h=>
      intro vs W a hd;obtain⟨b0,K,L,M⟩:=m.out W a;obtain⟨c0,c1,u,y⟩:=p.out W a
      go_simp
      first
       |with_reducible exact rfl
       |with_reducible exact⟨rfl,a⟩
       |with_reducible exact⟨rfl,a,trivial⟩
       |trace_state
     case hb=>exact j8)
    refine cP λvs W a hd=>?_;refine bj ?_
    go_wp2_with fail
    exact⟨⟨i+1,D,by go_num,J.out.trans B.out,j.out.trans (a.mono j.out.size)⟩,by simp only[intOf];omega⟩
  ·obtain rfl:i=n:=by omega
   obtain rfl:r=false:=by rw[X.out,afT,<-Z.out,V.out,List.take_length]
   go_wp2_with fail
   go_ret
   exact⟨rfl,s.out.trans (j.out.mono s.out.size)⟩
def aj7(w:World)(a b c:Obj):(((w.alloc a).alloc b).alloc c).heap[w.heap.size]?=some a/\(((w.alloc a).alloc b).alloc c).heap[w.heap.size+1]?=some b/\(((w.alloc a).alloc b).alloc c).heap[w.heap.size+1+1]?=some c/\Below w.heap.size w (((w.alloc a).alloc b).alloc c):=by
 have k1:=au w a;have k2:=au (w.alloc a) b;have k3:=au ((w.alloc a).alloc b) c;simp only[World.size_alloc]at k2 k3;have e:∀(W:World)(o:Obj)(k:Nat)(x:Obj),W.heap[k]?=some x->(W.alloc o).heap[k]?=some x:=λW o k x h=>((ar W.heap.size W).alloc (aw _) o).block k (aF h) |>.trans h
 exact⟨e _ _ _ _ (e _ _ _ _ k1),e _ _ _ _ k2,k3,(((ar _ _).alloc (aw _) _).alloc (by simp) _).alloc (by simp;omega) _⟩
structure KNc(C:CD)(s1 s2 k1 k2:Int)(w W:World):Prop where
 box:W.heap[w.heap.size]?=some (bs C.val 27)
 b1:W.heap[w.heap.size+1]?=some (bs #[ba bq s1,ba bq s2] 30)
 b2:W.heap[w.heap.size+1+1]?=some (bs #[ba bq k1,ba bq k2] 30)
 low:Below w.heap.size w W
def KNc.on{C:CD}{b c k1 k2:Int}{w W d:World}(h:KNc C b c k1 k2 w W)(a:Below W.heap.size W d):KNc C b c k1 k2 w d:=
 ⟨(a.block _ (aF h.box)).trans h.box,(a.block _ (aF h.b1)).trans h.b1,(a.block _ (aF h.b2)).trans h.b2,aS h.low a⟩
def NR(W:World)(k:Nat):Prop:=∃x0 x1 x2 x3 x4 a,W.heap[k]?=some (bs #[x0,x1,x2,x3,x4,a] 27)
def NR.on{W a:World}{k:Nat}(h:NR W k)(b:Below W.heap.size W a):NR a k:=by
 obtain⟨x0,x1,x2,x3,x4,c,e⟩:=h;exact⟨x0,x1,x2,x3,x4,c,(b.block _ (aF e)).trans e⟩
theorem NR.set{W:World}{k q:Nat}(h:NR W q)(b:NR W k)(u0 u1 u2 u3 u4 u5:Value):NR ((((((W.setCell ⟨k,0,none⟩ u0).setCell ⟨k,1,none⟩ u1).setCell ⟨k,2,none⟩ u2).setCell ⟨k,3,none⟩ u3).setCell ⟨k,4,none⟩ u4).setCell ⟨k,5,none⟩ u5) q:=by
 by_cases e:q=k
 ·subst e;obtain⟨_,_,_,_,_,_,e⟩:=h;exact⟨_,_,_,_,_,_,nC e⟩
 ·obtain⟨x0,x1,x2,x3,x4,a,h⟩:=h;exact⟨x0,x1,x2,x3,x4,a,(cM e).trans h⟩
def KNc.zQ{C:CD}{a b k1 k2:Int}{w W:World}(h:KNc C a b k1 k2 w W){k:Nat}(c:w.heap.size+2<k)(u0 u1 u2 u3 u4 u5:Value):KNc C a b k1 k2 w ((((((W.setCell ⟨k,0,none⟩ u0).setCell ⟨k,1,none⟩ u1).setCell ⟨k,2,none⟩ u2).setCell ⟨k,3,none⟩ u3).setCell ⟨k,4,none⟩ u4).setCell ⟨k,5,none⟩ u5):=
 ⟨(cM (by omega)).trans h.box,(cM (by omega)).trans h.b1,(cM (by omega)).trans h.b2,aP h.low (by omega) _ _ _ _ _ _⟩
def asT(n0:Nat)(j:Nat)(vs:Nat->Value)(W:World):Prop:=j=13->∃k,vs 13=bi (some ⟨k,0,none⟩)/\n0<k/\NR W k
def NOk(C:CD)(p:Nat)(a b k1 k2:Int)(n0:Nat)(Y:aaf)(f:Nat->iJ)(W:World):Prop:=abS C f/\j9 n0 C.n4 (C.xu Y λj=>if j=p then X0 (f j) a b k1 k2 else f j) W
abbrev CD.cv(C:CD)(Y:aaf):Array Value:=#[ba bq C.l,ba bq C.p,bb Y.B2 C.n2 Y.p2,bb Y.B3 C.n3 Y.p3,bb (some ⟨Y.K4,0,none⟩) C.n4 Y.p4,bb Y.B5 C.n5 Y.p5]
def ahD(C:CD)(p:Nat)(a b k1 k2:Int)(n0:Nat)(W:World)(k:Nat):Prop:=n0+2<k/\∃Y f,W.heap[k]?=some (bs (C.cv Y) 27)/\NOk C p a b k1 k2 n0 Y f W
def LeN(C:CD)(p:Nat)(a b k1 k2:Int)(n0:Nat)(W c:World):Prop:=(∀k,NR W k->NR c k)/\(∀Y f,NOk C p a b k1 k2 n0 Y f W->NOk C p a b k1 k2 n0 Y f c)/\∀k,ahD C p a b k1 k2 n0 W k->ahD C p a b k1 k2 n0 c k
def NOk.on{C:CD}{p:Nat}{a b k1 k2:Int}{n0:Nat}{Y:aaf}{f:Nat->iJ}{W c:World}(h:NOk C p a b k1 k2 n0 Y f W)(d:Below W.heap.size W c):NOk C p a b k1 k2 n0 Y f c:=⟨h.1,h.2.on d⟩
def LeN.on{C:CD}{p:Nat}{d e k1 k2:Int}{n0:Nat}{W b:World}(a:Below W.heap.size W b):LeN C p d e k1 k2 n0 W b:=
 ⟨λ_ h=>h.on a,λ_ _ h=>h.on a,λ_ h=>by obtain⟨g,Y,f,c,i⟩:=h;exact⟨g,Y,f,(a.block _ (aF c)).trans c,i.on a⟩⟩
theorem LeN.set{C:CD}{p:Nat}{a b k1 k2:Int}{n0:Nat}{W:World}{k:Nat}{Y:aaf}{f:Nat->iJ}(j:n0+2<k)(m:NR W k)(n:NOk C p a b k1 k2 n0 Y f W) :
 LeN C p a b k1 k2 n0 W ((((((W.setCell ⟨k,0,none⟩ (ba bq C.l)).setCell ⟨k,1,none⟩ (ba bq C.p)).setCell ⟨k,2,none⟩ (bb Y.B2 C.n2 Y.p2)).setCell ⟨k,3,none⟩ (bb Y.B3 C.n3 Y.p3)).setCell ⟨k,4,none⟩ (bb (some ⟨Y.K4,0,none⟩) C.n4 Y.p4)).setCell ⟨k,5,none⟩ (bb Y.B5 C.n5 Y.p5))/\
 ahD C p a b k1 k2 n0 ((((((W.setCell ⟨k,0,none⟩ (ba bq C.l)).setCell ⟨k,1,none⟩ (ba bq C.p)).setCell ⟨k,2,none⟩ (bb Y.B2 C.n2 Y.p2)).setCell ⟨k,3,none⟩ (bb Y.B3 C.n3 Y.p3)).setCell ⟨k,4,none⟩ (bb (some ⟨Y.K4,0,none⟩) C.n4 Y.p4)).setCell ⟨k,5,none⟩ (bb Y.B5 C.n5 Y.p5)) k:=by
 obtain⟨x0,x1,x2,x3,x4,u,g⟩:=m;have o:Typ W k 27:=⟨_,g⟩
 have N':∀c d,NOk C p a b k1 k2 n0 c d W->NOk C p a b k1 k2 n0 c d ((((((W.setCell ⟨k,0,none⟩ (ba bq C.l)).setCell ⟨k,1,none⟩ (ba bq C.p)).setCell ⟨k,2,none⟩ (bb Y.B2 C.n2 Y.p2)).setCell ⟨k,3,none⟩ (bb Y.B3 C.n3 Y.p3)).setCell ⟨k,4,none⟩ (bb (some ⟨Y.K4,0,none⟩) C.n4 Y.p4)).setCell ⟨k,5,none⟩ (bb Y.B5 C.n5 Y.p5)):=λc d h=>⟨h.1,h.2.abK o (by omega) _ _ _ _ _ _⟩
 have i:ahD C p a b k1 k2 n0 ((((((W.setCell ⟨k,0,none⟩ (ba bq C.l)).setCell ⟨k,1,none⟩ (ba bq C.p)).setCell ⟨k,2,none⟩ (bb Y.B2 C.n2 Y.p2)).setCell ⟨k,3,none⟩ (bb Y.B3 C.n3 Y.p3)).setCell ⟨k,4,none⟩ (bb (some ⟨Y.K4,0,none⟩) C.n4 Y.p4)).setCell ⟨k,5,none⟩ (bb Y.B5 C.n5 Y.p5)) k:=⟨j,Y,f,nC g,N' _ _ n⟩
 refine⟨⟨λq h=>h.set ⟨_,_,_,_,_,_,g⟩ _ _ _ _ _ _,N',λq h=>?_⟩,i⟩;by_cases e:q=k
 ·subst e;exact i
 ·obtain⟨r,c,d,s,t⟩:=h;exact⟨r,c,d,(cM e).trans s,N' _ _ t⟩
def agW(C:CD)(p:Nat)(a b k1 k2:Int)(n0:Nat)(j:Nat)(vs:Nat->Value)(W:World):Prop:=
 (j=9->∃Y f,vs 9=bg #[bc (C.cv Y),ba bq 0]/\NOk C p a b k1 k2 n0 Y f W)/\(j=10->∃Y f,vs 10=bg #[bc (C.cv Y),ba bq 0]/\NOk C p a b k1 k2 n0 Y f W)/\(j=11->∃Y f,vs 11=bc (C.cv Y)/\NOk C p a b k1 k2 n0 Y f W)/\
 (j=13->∃k,vs 13=bi (some ⟨k,0,none⟩)/\n0+2<k/\NR W k)/\(j=14->∃k,vs 13=bi (some ⟨k,0,none⟩)/\ahD C p a b k1 k2 n0 W k)
def agW.le{C:CD}{p:Nat}{d g k1 k2:Int}{n0 j:Nat}{vs:Nat->Value}{W i:World}(h:agW C p d g k1 k2 n0 j vs W)(hl:LeN C p d g k1 k2 n0 W i):agW C p d g k1 k2 n0 j vs i:=
 ⟨λe=>by obtain⟨Y,f,a,b⟩:=h.1 e;exact⟨Y,f,a,hl.2.1 _ _ b⟩,λe=>by obtain⟨Y,f,a,b⟩:=h.2.1 e;exact⟨Y,f,a,hl.2.1 _ _ b⟩,λe=>by obtain⟨Y,f,a,b⟩:=h.2.2.1 e;exact⟨Y,f,a,hl.2.1 _ _ b⟩,
   λe=>(h.2.2.2.1 e).imp λk c=>⟨c.1,c.2.1,hl.1 k c.2.2⟩,λe=>(h.2.2.2.2 e).imp λk c=>⟨c.1,hl.2.2 k c.2⟩⟩
structure JNn(C:CD)(s1 s2 k1 k2:Int)(w:World)(k:Nat)(V:Array Value)(R:List (Value×List nR))(S:List (Value×List Int))(W:World):Prop where
 kc:KNc C s1 s2 k1 k2 w W
 two:W.heap[k]?=some (bs V 27)
 r:∀q∈R,j7 W q.1 q.2
 s:∀q∈S,bB W q.1 q.2
def JNn.on{C:CD}{c d k1 k2:Int}{w W e:World}{k:Nat}{V:Array Value}{R:List (Value×List nR)}{S:List (Value×List Int)}(h:JNn C c d k1 k2 w k V R S W)(a:Below W.heap.size W e):JNn C c d k1 k2 w k V R S e:=
 ⟨h.kc.on a,(a.block _ (aF h.two)).trans h.two,λq b=>(h.r q b).on a,λq b=>(h.s q b).on a⟩
def JNn.ag4{C:CD}{b c k1 k2:Int}{w W:World}{k:Nat}{V:Array Value}{R:List (Value×List nR)}{S:List (Value×List Int)}(h:JNn C b c k1 k2 w k V R S W){v:Value}{l:List nR}(e:j7 W v l):JNn C b c k1 k2 w k V ((v,l)::R) S W:=
 ⟨h.kc,h.two,λq a=>by rcases List.mem_cons.1 a with rfl|a;exact e;exact h.r q a,h.s⟩
def JNn.al2{C:CD}{b c k1 k2:Int}{w W:World}{k:Nat}{V:Array Value}{R:List (Value×List nR)}{S:List (Value×List Int)}(h:JNn C b c k1 k2 w k V R S W){v:Value}{l:List Int}(e:bB W v l):JNn C b c k1 k2 w k V R ((v,l)::S) W:=
 ⟨h.kc,h.two,h.r,λq a=>by rcases List.mem_cons.1 a with rfl|a;exact e;exact h.s q a⟩
def afw(hwk:∀w,Calls PL 5 #[] w (aO (bd true) w))(C:CD)(pp gg mm0 l u k1 k2:Int)(w:World)(h:C.Mem w)(hp:0<=pp/\pp<=255)(hg:0<=gg/\gg<=255)(hm:0<=mm0/\mm0<=65535) :
 Calls PL 3 #[bc C.val,ba .u8 pp,ba .u8 gg,ba .u16 mm0,bc #[ba bq l,ba bq u],bc #[ba bq k1,ba bq k2]] w (aO (bd true) w):=by
 have HM:Hid (∀W,Below w.heap.size w W->C.Mem W):=aa λW c=>h.below c;have A3:=aa (aj7 w (bs C.val 27) (bs #[ba bq l,ba bq u] 30) (bs #[ba bq k1,ba bq k2] 30));have HW:=aa hwk;have HN:=aa (a9 hp (a9 hg hm));clear h hwk hp hg hm;obtain⟨W0,kS⟩:∃W0:World,W0=((w.alloc (bs C.val 27)).alloc (bs #[ba bq l,ba bq u] 30)).alloc (bs #[ba bq k1,ba bq k2] 30):=⟨_,rfl⟩
 have K0:Hid (KNc C l u k1 k2 w W0):=aa (by rw[kS];exact⟨A3.out.1,A3.out.2.1,A3.out.2.2.1,A3.out.2.2.2⟩);clear A3;by_cases aen:C.LR=true
 case neg=>
  have hff:C.LR=false:=by simpa using aen
  have HG:Hid (∀W,C.Mem W->Calls PL 4 #[bc C.val] W (aO (bd false) W)):=aa λW I=>by have:=afN C W I;rwa[hff]at this
  clear aen hff
  go_enter (fx (by decide) a7),a8
  go_upto_region 1 with fail
  rw[<-kS];clear kS;obtain⟨A,B,E,F,f4,H⟩:=bf K0.out.box
  go_wp2_with (first
   |(go_at_call 4;refine(HG.out _ (HM.out _ K0.out.low)).mono ?_;rintro e w1⟨rfl,aL⟩;have K1:=aa (K0.out.on aL);clear aL)
   |(go_at_call 5;refine(HW.out _).mono ?_;rintro e w2⟨rfl,qA⟩;have K2:=aa (K1.out.on qA);clear qA))
  go_ret
  exact⟨rfl,K2.out.low⟩
 have Z:Hid (C.small=true/\C.cx=0):=aa (by simpa[CD.LR]using aen);have HA:Hid (∀W,Below w.heap.size w W->C.At W):=aa λW c=>CD.At.Ri (HM.out W c) Z.out.1;have HG:Hid (∀W,C.Mem W->Calls PL 4 #[bc C.val] W (aO (bd true) W)):=aa λW I=>by have:=afN C W I;rwa[aen]at this
 clear aen;by_cases hn5:C.n5=0
 ·have azo:(C.n5:Int)=0:=by omega
  clear hn5
  go_enter (fx (by decide) a7),a8
  go_upto_region 1 with fail
  rw[<-kS];clear kS;obtain⟨A,B,E,F,f4,H⟩:=bf K0.out.box
  go_wp2_with (first
   |(go_at_call 4;refine(HG.out _ (HM.out _ K0.out.low)).mono ?_;rintro e w1⟨rfl,aL⟩;have K1:=aa (K0.out.on aL);clear aL;clear A B E F f4 H;obtain⟨A,B,E,F,f4,H⟩:=bf K1.out.box)
   |(go_at_call 5;refine(HW.out _).mono ?_;rintro e w2⟨rfl,qA⟩;have K2:=aa (K1.out.on qA);clear qA))
  go_ret
  exact⟨rfl,K2.out.low⟩
 obtain⟨h41,h42⟩:=L1 Z.out.2;have h5:=s9 Z.out.2;have emod:∀(n:Int)(m:Nat),0<m->∃q:Nat,n % (m:Int)=(q:Int)/\q<m:=λn m hm=>⟨(n % (m:Int)).toNat,by have:=Int.emod_nonneg n (show(m:Int)≠0 by omega);have:=Int.emod_lt_of_pos n (show(0:Int)<m by omega);omega⟩
 obtain⟨q,hq,hq5⟩:=emod gg C.n5 (by omega);obtain⟨p,hp,hp4⟩:=emod pp C.n4 (by omega);clear emod;have OQ:=HN.out.2.1.1;have hg1:=HN.out.2.1.2;have hp0:=HN.out.1.1;have J0:=HN.out.1.2;have hm0:=HN.out.2.2.1;have hm1:=HN.out.2.2.2;obtain⟨mm,hmm⟩:∃t,mm0 % 1000=t:=⟨_,rfl⟩
 have asU:0<=mm/\mm<=999:=by omega
 have hbt:Hid (bO mm 0 999=true):=aa (aas.2 asU);have asV:(C.n5:Int)≠0:=by omega
 have azq:(C.n4:Int)≠0:=by omega
 have NA:Hid (∀W,Below w.heap.size w W->Calls PL 6 #[bc C.val,ba bq p,bc #[ba bq l,ba bq u],bc #[ba bq k1,ba bq k2]] W (aox C p l u k1 k2 W)):=aa λW c=>afr C p l u k1 k2 W (HA.out W c) Z.out.2 hp4
 go_enter (fx (by decide) a7),a8
 go_upto_region 1 with fail
 rw[<-kS];clear kS;obtain⟨A,B,E,F,f4,H⟩:=bf K0.out.box
 go_upto_region 3 with(go_at_call 4;refine(HG.out _ (HM.out _ K0.out.low)).mono ?_;rintro e w1⟨rfl,aL⟩;have K1:=aa (K0.out.on aL);clear aL;clear A B E F f4 H;obtain⟨A,B,E,F,f4,H⟩:=bf K1.out.box)
 go_upto_region 4 with fail
 try rw[hq]
 try rw[hmm]
 clear hq hmm OQ hg1 hm0 hm1 asV A B E F f4 H;have NJ:IntKind.i64.wrap pp=pp:=bm _ (by omega);have htm:pp.tmod (C.n4:Int)=(p:Int):=by rw[Int.tmod_eq_emod_of_nonneg hp0];exact hp
 have hnz:¬C.n4=0:=by omega
 by_cases hnf:aaz (C.x4 p) l u k1 k2=0
 case neg=>
  have NB:Hid (∀W,Below w.heap.size w W->Calls PL 6 #[bc C.val,ba bq p,bc #[ba bq l,ba bq u],bc #[ba bq k1,ba bq k2]] W λe w'=>e=br (bg #[bc RX,ba bq (aaz (C.x4 p) l u k1 k2)])/\Below W.heap.size W w'):=aa λW c=>(NA.out W c).mono λe w' h=>by
   rcases h.2 with⟨_,h2⟩|⟨h1,_⟩
   ·exact⟨h2,h.1⟩
   ·exact absurd h1 hnf
  obtain⟨nf,aoF⟩:∃x,x=aaz (C.x4 p) l u k1 k2:=⟨_,rfl⟩
  rw[<-aoF]at NB hnf;clear aoF NA;refine cT 15 (KNc C l u k1 k2 w) (λW W'=>∀k,NR W k->NR W' k) (λj=>j != 13&&j != 14) (asT (w.heap.size+2)) rfl (by kernel_rfl) (by kernel_rfl) (λi vs W W' hle h e=>(h e).imp λk hk=>⟨hk.1,hk.2.1,hle k hk.2.2⟩) (λi o ho vs eX W he hd h e=>by subst e;rw[<-he];exact h rfl) ?_ ?_
  ·exact K1.out.on (ar _ _).drew
  ·iterate 13 (
    apply aY
    case hE=>rfl
    case h=>
     intro vs W a hd;obtain⟨A,B,E,F,f4,H⟩:=bf a.box;obtain⟨a0,a1⟩:=Z0 a.b1;obtain⟨a2,a3⟩:=Z0 a.b2
     go_simp
     first
     |(go_at_call 6;(with_reducible refine(NB.out _ a.low).mono ?_);rintro e W'⟨rfl,c⟩;exact⟨_,rfl,rfl,a.on c,λk h=>h.on c⟩)
     |with_reducible exact rfl
     |with_reducible exact⟨rfl,λk h=>h⟩
     |with_reducible exact⟨rfl,a,λk h=>h⟩
     |trace_state
    case hb=>exact j8)
   apply eH
   case hE=>rfl
   case hb=>exact j8
   case h=>
    intro vs W a hd
    go_simp
    have c:=(ar W.heap.size W).alloc (aw _) (bs RX 27);exact⟨a.on c,λk h=>h.on c,λ_=>⟨W.heap.size,by simp[upd],aF a.b2,_,_,_,_,_,_,au W _⟩⟩
   apply eH
   case hE=>rfl
   case hb=>exact j8
   case h=>
    intro vs W a hd;obtain⟨k,hk,Ll,hx6⟩:=(hd ⟨13,bt⟩ (cH.2 ⟨by simp,rfl⟩) rfl) rfl;have hs:=hx6;obtain⟨x0,x1,x2,x3,x4,x5,X⟩:=hx6;obtain⟨A,B,E,F,f4,H⟩:=bf X;have fz:=tO X;rw[hk]
    go_simp
    exact⟨a.zQ Ll _ _ _ _ _ _,λq h=>h.set hs _ _ _ _ _ _,λe=>absurd e (by decide)⟩
   refine cP λvs W a hd=>?_;obtain⟨k,hk,_,_⟩:=(hd 13 (by omega) rfl) rfl;rw[hk];have K2:=aa a;clear a hd hk
   go_wp2_with (go_at_call 5;refine(HW.out _).mono ?_;rintro e w2⟨rfl,qA⟩;have hB9:=aS K2.out.low qA;clear qA)
   go_ret
   exact⟨rfl,hB9⟩
 have NB:Hid (∀W,Below w.heap.size w W->Calls PL 6 #[bc C.val,ba bq p,bc #[ba bq l,ba bq u],bc #[ba bq k1,ba bq k2]] W λe w'=>∃Y f,e=br (bg #[bc (C.cv Y),ba bq 0])/\NOk C p l u k1 k2 w.heap.size Y f w'/\Below W.heap.size W w'):=aa λW c=>(NA.out W c).mono λe w' h=>by
  rcases h.2 with⟨h1,_⟩|⟨_,Y,f,h2,h3,h4⟩
  ·exact absurd hnf h1
  ·exact⟨Y,f,h2,⟨h3,j9.zu (D:=C.xu Y λj=>if j=p then X0 (f j) l u k1 k2 else f j) h4 c.size⟩,h.1⟩
 have HNF:=aa hnf;clear NA hnf;refine cT 15 (KNc C l u k1 k2 w) (LeN C p l u k1 k2 w.heap.size) (λj=>j != 9&&j != 10&&j != 11&&j != 13&&j != 14) (agW C p l u k1 k2 w.heap.size) rfl (by kernel_rfl) (by kernel_rfl) (λi vs W W' hle h=>h.le hle) (λi o ho vs eX W he hd h=>⟨λe=>by subst e;rw[<-he];exact h.1 rfl,λe=>by subst e;rw[<-he];exact h.2.1 rfl,λe=>by subst e;rw[<-he];exact h.2.2.1 rfl,λe=>by subst e;rw[<-he];exact h.2.2.2.1 rfl,λe=>?_⟩) ?_ ?_
 ·subst e;have e8:vs 13=eX 13:=by
   simp only[ab,ac,ad,aq]at ho;subst ho;exact hd ⟨13,bt⟩ (cH.2 ⟨by simp,rfl⟩)
  rw[<-e8];exact h.2.2.2.2 rfl
 ·exact K1.out.on (ar _ _).drew
 ·iterate 9 (
   apply aY
   case hE=>rfl
   case h=>
    intro vs W a hd;obtain⟨A,B,E,F,f4,H⟩:=bf a.box;obtain⟨a0,a1⟩:=Z0 a.b1;obtain⟨a2,a3⟩:=Z0 a.b2;have hL:LeN C p l u k1 k2 w.heap.size W W:=LeN.on (ar _ _)
    go_simp
    first
    |with_reducible exact rfl
    |with_reducible exact⟨rfl,hL⟩
    |with_reducible exact⟨rfl,a,hL⟩
    |trace_state
   case hb=>exact j8)
  apply eH
  case hE=>rfl
  case hb=>exact j8
  case h=>
   intro vs W a hd
   go_simp
   go_at_call 6
   (with_reducible refine(NB.out _ a.low).mono ?_)
   rintro e W'⟨Y,f,rfl,hN,c⟩;exact⟨_,rfl,a.on c,LeN.on c,λ_=>⟨Y,f,by simp[upd],hN⟩,λe=>absurd e (by decide),λe=>absurd e (by decide),λe=>absurd e (by decide),λe=>absurd e (by decide)⟩
  apply eH
  case hE=>rfl
  case hb=>exact j8
  case h=>
   intro vs W a hd;obtain⟨Y,f,h9,hN⟩:=(hd ⟨9,bt⟩ (cH.2 ⟨by simp,rfl⟩) rfl).1 rfl;have HP:Hid (agW C p l u k1 k2 w.heap.size 10 (upd vs 10 (bg #[bc (C.cv Y),ba bq 0])) W):=aa ⟨λe=>absurd e (by decide),λ_=>⟨Y,f,by simp[upd],hN⟩,λe=>absurd e (by decide),λe=>absurd e (by decide),λe=>absurd e (by decide)⟩;have hL:LeN C p l u k1 k2 w.heap.size W W:=LeN.on (ar _ _);rw[h9]
   go_simp
   first|exact HP.out|exact⟨hL,HP.out⟩|exact⟨a,hL,HP.out⟩
  apply eH
  case hE=>rfl
  case hb=>exact j8
  case h=>
   intro vs W a hd;obtain⟨Y,f,h9,hN⟩:=(hd ⟨10,bt⟩ (cH.2 ⟨by simp,rfl⟩) rfl).2.1 rfl;have HP:Hid (agW C p l u k1 k2 w.heap.size 11 (upd vs 11 (bc (C.cv Y))) W):=aa ⟨λe=>absurd e (by decide),λe=>absurd e (by decide),λ_=>⟨Y,f,by simp[upd],hN⟩,λe=>absurd e (by decide),λe=>absurd e (by decide)⟩;have hL:LeN C p l u k1 k2 w.heap.size W W:=LeN.on (ar _ _);rw[h9]
   go_simp
   first|exact HP.out|exact⟨hL,HP.out⟩|exact⟨a,hL,HP.out⟩
  apply aY (v:=ba bq 0)
  case hE=>rfl
  case hb=>exact j8
  case h=>
   intro vs W a hd;obtain⟨Y,f,h9,hN⟩:=(hd ⟨10,bt⟩ (cH.2 ⟨by simp,rfl⟩) rfl).2.1 rfl;have hL:LeN C p l u k1 k2 w.heap.size W W:=LeN.on (ar _ _);rw[h9]
   go_simp
   try exact⟨a,hL⟩
  apply eH
  case hE=>rfl
  case hb=>exact j8
  case h=>
   intro vs W a hd
   go_simp
   have c:=(ar W.heap.size W).alloc (aw _) (bs RX 27);exact⟨a.on c,LeN.on c,λe=>absurd e (by decide),λe=>absurd e (by decide),λe=>absurd e (by decide),λ_=>⟨W.heap.size,by simp[upd],aF a.b2,_,_,_,_,_,_,au W _⟩,λe=>absurd e (by decide)⟩
  apply eH
  case hE=>rfl
  case hb=>exact j8
  case h=>
   intro vs W a hd;obtain⟨k,hk,Ll,hx6⟩:=(hd ⟨13,bt⟩ (cH.2 ⟨by simp,rfl⟩) rfl).2.2.2.1 rfl;obtain⟨Y,f,h11,hN⟩:=(hd ⟨11,bt⟩ (cH.2 ⟨by simp,rfl⟩) rfl).2.2.1 rfl;have hs:=aa (LeN.set Ll hx6 hN);obtain⟨x0,x1,x2,x3,x4,x5,X⟩:=hx6;obtain⟨A,B,E,F,f4,H⟩:=bf X;have fz:=tO X;rw[hk,h11]
   go_simp
   exact⟨a.zQ Ll _ _ _ _ _ _,hs.out.1,λe=>absurd e (by decide),λe=>absurd e (by decide),λe=>absurd e (by decide),λe=>absurd e (by decide),λ_=>⟨k,by simp[upd,hk],hs.out.2⟩⟩
  refine cP λvs W a hd=>?_;obtain⟨k,hk,Ll,Y,f,X,hN⟩:=(hd 14 (by omega) rfl).2.2.2.2 rfl;rw[hk];have K2:=aa a;have HK:=aa (a9 Ll (a9 X hN));clear a hd hk Ll X hN;have J0:Hid (JNn C l u k1 k2 w k (C.cv Y) [] [] W):=aa ⟨K2.out,HK.out.2.1,λ_ h=>(by cases h),λ_ h=>(by cases h)⟩;obtain⟨D,hD⟩:∃D,D=(C.xu Y λj=>if j=p then X0 (f j) l u k1 k2 else f j):=⟨_,rfl⟩
  have HD:Hid (D.At W):=aa (by rw[hD];exact HK.out.2.2.2.mem.at_);have ND:Hid (H8 C D/\D.cx=0):=aa (by rw[hD];exact amu Z.out.2 HK.out.2.2.1 hp4 HNF.out);have HV:Hid (∀Q:Array Value->Prop,Q D.val->Q (C.cv Y)):=aa λQ h=>by rw[hD]at h;exact h
  have e4:D.n4=C.n4:=by rw[hD]
  have e5:D.n5=C.n5:=by rw[hD]
  have U:=aa (a9 e4 e5);clear hD HK e4 e5 NB K2;have RC:Hid (∀W,D.At W->Calls PL 7 #[bc (C.cv Y)] W (aO (ba bq 0) W)):=aa λW h=>HV.out (λV=>Calls PL 7 #[bc V] W (aO (ba bq 0) W)) (EH h ND.out.2);have VC:Hid (∀W,C.At W->Calls PL 8 #[bc C.val,ba bq q] W λe w'=>∃b d,e=br (bg #[bb b C.n4 d,ba bq 0])/\j7 w' (bb b C.n4 d) (mD C q C.n4)/\Below W.heap.size W w'):=aa λW I=>ad1 I Z.out.2 hq5;have VD:Hid (∀W,D.At W->Calls PL 8 #[bc (C.cv Y),ba bq q] W λe w'=>∃b d,e=br (bg #[bb b C.n4 d,ba bq 0])/\j7 w' (bb b C.n4 d) (mD D q C.n4)/\Below W.heap.size W w'):=aa λW I=>by
   have:=ad1 (g:=q) I ND.out.2 (by rw[U.out.2];exact hq5);rw[U.out.1]at this;exact HV.out (λV=>Calls PL 8 #[bc V,ba bq q] W _) this
  have SC:Hid (∀W,C.At W->Calls PL 9 #[bc C.val,ba bq mm] W λe w'=>∃b d,e=br (bg #[bb b C.n4 d,ba bq 0])/\bB w' (bb b C.n4 d) (tB C.H9 mm C.n5 C.n4)/\Below W.heap.size W w'):=aa λW I=>ahC I Z.out.2 hbt.out;have SD:Hid (∀W,D.At W->Calls PL 9 #[bc (C.cv Y),ba bq mm] W λe w'=>∃b d,e=br (bg #[bb b C.n4 d,ba bq 0])/\bB w' (bb b C.n4 d) (tB D.H9 mm C.n5 C.n4)/\Below W.heap.size W w'):=aa λW I=>by
   have:=ahC I ND.out.2 hbt.out;rw[U.out.1,U.out.2]at this;exact HV.out (λV=>Calls PL 9 #[bc V,ba bq mm] W _) this
  obtain⟨N,hN⟩:∃N,N=C.Cv.length:=⟨_,rfl⟩
  have azr:N<=15:=by rw[hN,CD.Cv,afk,abt];exact abL _ h42 h5
  obtain⟨M,hM⟩:∃M,M=D.Cv.length:=⟨_,rfl⟩
  have azs:M<=15:=by rw[hM,CD.Cv,afk,abt];exact abL _ (by rw[U.out.1];exact h42) (by rw[U.out.2];exact h5)
  have TC:Hid (∀W,C.At W->Calls PL 10 #[bc C.val] W λe w'=>∃b d,e=br (bg #[bb b N d,ba bq 0])/\j7 w' (bb b N d) C.Cv/\Below W.heap.size W w'):=aa λW I=>by
   have:=abN I Z.out.2;rw[<-hN]at this;exact this
  have TD:Hid (∀W,D.At W->Calls PL 10 #[bc (C.cv Y)] W λe w'=>∃b d,e=br (bg #[bb b M d,ba bq 0])/\j7 w' (bb b M d) D.Cv/\Below W.heap.size W w'):=aa λW I=>by
   have:=abN I ND.out.2;rw[<-hM]at this;exact HV.out (λV=>Calls PL 10 #[bc V] W _) this
  obtain⟨sa,hsa⟩:∃x,x=C.abo:=⟨_,rfl⟩
  obtain⟨sb,hsb⟩:∃x,x=D.abo:=⟨_,rfl⟩
  have FC:Hid (∀W,C.At W->Calls PL 11 #[bc C.val] W (aO (bg #[bd sa,ba bq 0]) W)):=aa λW I=>by rw[hsa];exact ahz I Z.out.2
  have FD:Hid (∀W,D.At W->Calls PL 11 #[bc (C.cv Y)] W (aO (bg #[bd sb,ba bq 0]) W)):=aa λW I=>by rw[hsb];exact HV.out (λV=>Calls PL 11 #[bc V] W (aO (bg #[bd D.abo,ba bq 0]) W)) (ahz I ND.out.2)
  obtain⟨ia,hia⟩:∃x,x=KD C q:=⟨_,rfl⟩
  obtain⟨ib,hib⟩:∃x,x=KD D q:=⟨_,rfl⟩
  have HSI:Hid ((sa=true->sb=true)/\(ia≠0->ib=ia)):=aa ⟨λh=>by rw[hsb];exact ND.out.1.safe Z.out.2 ND.out.2 (by rw[<-hsa];exact h),λh=>by rw[hib,hia];exact ND.out.1.amr Z.out.2 hq5 (by rw[<-hia];exact h)⟩;have IC:Hid (∀W,C.At W->Calls PL 12 #[bc C.val,ba bq q] W (aO (bg #[ba bq ia,ba bq 0]) W)):=aa λW I=>by rw[hia];exact abO C q W I hq5 h5 (by rw[CD.b6,if_pos Z.out.2];rfl) (Sa C Z.out.2 hq5)
  have ID:Hid (∀W,D.At W->Calls PL 12 #[bc (C.cv Y),ba bq q] W (aO (bg #[ba bq ib,ba bq 0]) W)):=aa λW I=>by
   rw[hib];exact HV.out (λV=>Calls PL 12 #[bc V,ba bq q] W (aO (bg #[ba bq (KD D q),ba bq 0]) W)) (abO D q W I (by rw[U.out.2];exact hq5) (by rw[U.out.2];exact h5) (by rw[CD.b6,if_pos ND.out.2];rfl) (Sa D ND.out.2 (by rw[U.out.2];exact hq5)))
  have HNM:=aa (a9 hN hM);clear hN hM hsa hsb hia hib;obtain⟨A,B,E,F,f4,H⟩:=bf J0.out.kc.box;obtain⟨J,K,L,O,P,S⟩:=bf J0.out.two
  go_upto_region 7 with fail
  go_upto_region 9 with(go_at_call 7;(with_reducible refine(RC.out _ HD.out).mono ?_);rintro e w2⟨rfl,c⟩;have J1:=aa (J0.out.on c);have D1:=aa (HD.out.below c);clear c A B E F f4 H J K L O P S;obtain⟨A,B,E,F,f4,H⟩:=bf J1.out.kc.box;obtain⟨J,K,L,O,P,S⟩:=bf J1.out.two)
  go_upto_region 10 with(go_at_call 8;(with_reducible refine(VC.out _ (HA.out _ J1.out.kc.low)).mono ?_);rintro e w3⟨b1,c1,rfl,hR,c⟩;have J2:=aa ((J1.out.on c).ag4 hR);have D2:=aa (D1.out.below c);clear hR c A B E F f4 H J K L O P S;obtain⟨A,B,E,F,f4,H⟩:=bf J2.out.kc.box;obtain⟨J,K,L,O,P,S⟩:=bf J2.out.two)
  go_upto_region 11 with(go_at_call 8;(with_reducible refine(VD.out _ D2.out).mono ?_);rintro e w4⟨b2,c2,rfl,hR,c⟩;have J3:=aa ((J2.out.on c).ag4 hR);have D3:=aa (D2.out.below c);clear hR c A B E F f4 H J K L O P S;obtain⟨A,B,E,F,f4,H⟩:=bf J3.out.kc.box;obtain⟨J,K,L,O,P,S⟩:=bf J3.out.two)
  go_upto_region 12 with(go_at_call 9;(with_reducible refine(SC.out _ (HA.out _ J3.out.kc.low)).mono ?_);rintro e w5⟨b3,c3,rfl,hR,c⟩;have J4:=aa ((J3.out.on c).al2 hR);have D4:=aa (D3.out.below c);clear hR c A B E F f4 H J K L O P S;obtain⟨A,B,E,F,f4,H⟩:=bf J4.out.kc.box;obtain⟨J,K,L,O,P,S⟩:=bf J4.out.two)
  go_upto_region 13 with(go_at_call 9;(with_reducible refine(SD.out _ D4.out).mono ?_);rintro e w6⟨b4,c4,rfl,hR,c⟩;have J5:=aa ((J4.out.on c).al2 hR);have D5:=aa (D4.out.below c);clear hR c A B E F f4 H J K L O P S;obtain⟨A,B,E,F,f4,H⟩:=bf J5.out.kc.box;obtain⟨J,K,L,O,P,S⟩:=bf J5.out.two)
  go_upto_region 14 with(go_at_call 10;(with_reducible refine(TC.out _ (HA.out _ J5.out.kc.low)).mono ?_);rintro e w7⟨b5,c5,rfl,hR,c⟩;have J6:=aa ((J5.out.on c).ag4 hR);have D6:=aa (D5.out.below c);clear hR c A B E F f4 H J K L O P S;obtain⟨A,B,E,F,f4,H⟩:=bf J6.out.kc.box;obtain⟨J,K,L,O,P,S⟩:=bf J6.out.two)
  go_upto_region 15 with(go_at_call 10;(with_reducible refine(TD.out _ D6.out).mono ?_);rintro e w8⟨b6,c6,rfl,hR,c⟩;have J7:=aa ((J6.out.on c).ag4 hR);have D7:=aa (D6.out.below c);clear hR c A B E F f4 H J K L O P S;obtain⟨A,B,E,F,f4,H⟩:=bf J7.out.kc.box;obtain⟨J,K,L,O,P,S⟩:=bf J7.out.two)
  go_upto_region 16 with(go_at_call 11;(with_reducible refine(FC.out _ (HA.out _ J7.out.kc.low)).mono ?_);rintro e w9⟨rfl,c⟩;have J8:=aa (J7.out.on c);have D8:=aa (D7.out.below c);clear c A B E F f4 H J K L O P S;obtain⟨A,B,E,F,f4,H⟩:=bf J8.out.kc.box;obtain⟨J,K,L,O,P,S⟩:=bf J8.out.two)
  go_upto_region 17 with(go_at_call 11;(with_reducible refine(FD.out _ D8.out).mono ?_);rintro e VD⟨rfl,c⟩;have J9:=aa (J8.out.on c);have D9:=aa (D8.out.below c);clear c A B E F f4 H J K L O P S;obtain⟨A,B,E,F,f4,H⟩:=bf J9.out.kc.box;obtain⟨J,K,L,O,P,S⟩:=bf J9.out.two)
  go_upto_region 18 with(go_at_call 12;(with_reducible refine(IC.out _ (HA.out _ J9.out.kc.low)).mono ?_);rintro e w11⟨rfl,c⟩;have J10:=aa (J9.out.on c);have D10:=aa (D9.out.below c);clear c A B E F f4 H J K L O P S;obtain⟨A,B,E,F,f4,H⟩:=bf J10.out.kc.box;obtain⟨J,K,L,O,P,S⟩:=bf J10.out.two)
  go_upto_region 19 with(go_at_call 12;(with_reducible refine(ID.out _ D10.out).mono ?_);rintro e w12⟨rfl,c⟩;have J11:=aa (J10.out.on c);have D11:=aa (D10.out.below c);clear c A B E F f4 H J K L O P S;obtain⟨A,B,E,F,f4,H⟩:=bf J11.out.kc.box;obtain⟨J,K,L,O,P,S⟩:=bf J11.out.two)
  go_upto_region 21 with fail
  obtain⟨WQ,hWQ⟩:∃W:World,W=w12:=⟨_,rfl⟩
  go_cut [218] from 205 to 217 (fun(v218:Value)(wx:World)=>v218=bd false/\wx=w12)
  case first=>
   obtain⟨h1,h2⟩:=HSI.out
   cases sa with
   |true=>
    obtain rfl:sb=true:=h1 rfl;by_cases h0:ia=0
    ·obtain rfl:ia=0:=h0
     go_wp2_with fail
     go_meet
     case rel=>exact⟨rfl,rfl⟩
    ·obtain rfl:ib=ia:=h2 h0
     go_wp2_with fail
     go_meet
     case rel=>exact⟨rfl,rfl⟩
   |false=>
    by_cases h0:ia=0
    ·obtain rfl:ia=0:=h0
     go_wp2_with fail
     go_meet
     case rel=>exact⟨rfl,rfl⟩
    ·obtain rfl:ib=ia:=h2 h0
     go_wp2_with fail
     go_meet
     case rel=>exact⟨rfl,rfl⟩
  case rest=>
   obtain⟨rfl,hwx⟩:=hcut;rw[hwx];clear hwx hWQ WQ;obtain⟨RV,hRV⟩:∃R,R=[(bb b6 M c6,D.Cv),(bb b5 N c5,C.Cv),(bb b2 C.n4 c2,mD D q C.n4),(bb b1 C.n4 c1,mD C q C.n4)]:=⟨_,rfl⟩
   obtain⟨RS,hRS⟩:∃R,R=[(bb b4 C.n4 c4,tB D.H9 mm C.n5 C.n4),(bb b3 C.n4 c3,tB C.H9 mm C.n5 C.n4)]:=⟨_,rfl⟩
   obtain⟨VV,hVV⟩:∃V,V=C.cv Y:=⟨_,rfl⟩
   have HX:Hid (JNn C l u k1 k2 w k VV RV RS w12):=aa (by rw[hRV,hRS,hVV];exact J11.out);have R1:Hid (∀W,JNn C l u k1 k2 w k VV RV RS W->j7 W (bb b1 C.n4 c1) (mD C q C.n4)):=aa λW h=>by rw[hRV]at h;exact h.r (_,_) (.tail _ (.tail _ (.tail _ (.head _))))
   have R2:Hid (∀W,JNn C l u k1 k2 w k VV RV RS W->j7 W (bb b2 C.n4 c2) (mD D q C.n4)):=aa λW h=>by rw[hRV]at h;exact h.r (_,_) (.tail _ (.tail _ (.head _)))
   have R5:Hid (∀W,JNn C l u k1 k2 w k VV RV RS W->j7 W (bb b5 N c5) C.Cv):=aa λW h=>by rw[hRV]at h;exact h.r (_,_) (.tail _ (.head _))
   have R6:Hid (∀W,JNn C l u k1 k2 w k VV RV RS W->j7 W (bb b6 M c6) D.Cv):=aa λW h=>by rw[hRV]at h;exact h.r (_,_) (.head _)
   have R3:Hid (∀W,JNn C l u k1 k2 w k VV RV RS W->bB W (bb b3 C.n4 c3) (tB C.H9 mm C.n5 C.n4)):=aa λW h=>by rw[hRS]at h;exact h.s (_,_) (.tail _ (.head _))
   have R4:Hid (∀W,JNn C l u k1 k2 w k VV RV RS W->bB W (bb b4 C.n4 c4) (tB D.H9 mm C.n5 C.n4)):=aa λW h=>by rw[hRS]at h;exact h.s (_,_) (.head _)
   clear hRV hRS hVV J0 J1 J2 J3 J4 J5 J6 J7 J8 J9 J10 J11 D1 D2 D3 D4 D5 D6 D7 D8 D9 D10 D11 HD VC VD SC SD TC TD FC FD IC ID RC HSI HV A B E F f4 H J K L O P S
   go_wp2_with fail
   go_loopw [37] (λv37 wr=>∃i:Nat,i<=C.n4/\v37=ba bq i/\JNn C l u k1 k2 w k VV RV RS wr) (λv37 _=>C.n4-(intOf v37).toNat)
   case atStart=>exact⟨0,aB _,rfl,HX.out⟩
   case round=>
    obtain⟨i,hi,rfl,hJ⟩:=hrel;have JR:=aa hJ;clear hJ HX;by_cases T:i<C.n4
    ·have i2:(i:Int)<C.n4:=by omega
     obtain⟨ka,oa,ea',ea⟩:=aal (R1.out _ JR.out) (i:=i) (by rw[R7];exact T);obtain⟨kb,ob,eb',eb⟩:=aal (R2.out _ JR.out) (i:=i) (by rw[R7];exact T);have hxa:(mD C q C.n4)[i]'(by rw[R7];exact T)=Nu C q i:=by simp[mD]
     have hxb:(mD D q C.n4)[i]'(by rw[R7];exact T)=Nu D q i:=by simp[mD]
     rw[hxa]at ea;rw[hxb]at eb;have hv:=(ND.out.1.vis Z.out.2 hq5 i).2;obtain⟨x,X⟩:∃x,x=Nu C q i:=⟨_,rfl⟩
     obtain⟨y,hy⟩:∃x,x=Nu D q i:=⟨_,rfl⟩
     rw[<-X]at ea hv;rw[<-hy]at eb hv;clear X hy hxa hxb;obtain⟨x0,x1,x2,x3,x4⟩:=x;obtain⟨y0,y1,y2,y3,y4⟩:=y;simp only at hv;have EA:=aa ea;have EB:=aa eb;have I1:Hid (∀W,Calls PL 13 #[bc #[ba bq y1,ba bq y2],bc #[ba bq x1,ba bq x2]] W (aO (bd true) W)):=aa λW=>abZ (by omega) (by omega) W;have I2:Hid (∀W,Calls PL 13 #[bc #[ba bq y3,ba bq y4],bc #[ba bq x3,ba bq x4]] W (aO (bd true) W)):=aa λW=>abZ (by omega) (by omega) W;subst ea' eb';clear ea eb hv
     go_upto_region 26 with fail
     refine aJ ?_;refine ig (λW=>Below wr.heap.size wr W) (λ_ _=>True) (λ_=>true) (λ_ _ _=>True) rfl (by kernel_rfl) (λ_ _ _ _ _ _=>trivial) (λ_ _ _ _ _ _ _ _ h=>h) (ar _ _).drew ?_
     iterate 10 (
      apply aY
      case hE=>rfl
      case h=>
       intro vs W a hd;obtain⟨a0,a1,a2,a3,a4⟩:=EA.out W a;obtain⟨b0,b1',b2',b3',b4'⟩:=EB.out W a
       go_simp
       first
        |with_reducible exact rfl
        |with_reducible exact⟨rfl,a⟩
        |with_reducible exact⟨rfl,a,trivial⟩
        |trace_state
      case hb=>exact j8)
     apply aY
     case hE=>rfl
     case h=>
      intro vs W a hd
      go_simp
      go_at_call 13
      (with_reducible refine(I1.out _).mono ?_)
      rintro e W'⟨rfl,c⟩;exact⟨_,rfl,rfl,aS a c⟩
     case hb=>exact j8
     iterate 12 (
      apply aY
      case hE=>rfl
      case h=>
       intro vs W a hd;obtain⟨a0,a1,a2,a3,a4⟩:=EA.out W a;obtain⟨b0,b1',b2',b3',b4'⟩:=EB.out W a
       go_simp
       first
        |with_reducible exact rfl
        |with_reducible exact⟨rfl,a⟩
        |with_reducible exact⟨rfl,a,trivial⟩
        |trace_state
      case hb=>exact j8)
     apply aY
     case hE=>rfl
     case h=>
      intro vs W a hd
      go_simp
      go_at_call 13
      (with_reducible refine(I2.out _).mono ?_)
      rintro e W'⟨rfl,c⟩;exact⟨_,rfl,rfl,aS a c⟩
     case hb=>exact j8
     iterate 2 (
      apply aY
      case hE=>rfl
      case h=>
       intro vs W a hd
       go_simp
       first
        |with_reducible exact rfl
        |with_reducible exact⟨rfl,a⟩
        |with_reducible exact⟨rfl,a,trivial⟩
        |trace_state
      case hb=>exact j8)
     refine cP λvs W a hd=>?_;refine bj ?_
     go_wp2_with fail
     exact⟨⟨i+1,T,by go_num,JR.out.on a⟩,by simp only[intOf];omega⟩
    ·have i2:¬((i:Int)<C.n4):=by omega
     clear T hi R1 R2
     go_wp2_with fail
     go_loopw [38] (λv38 wr=>∃i:Nat,i<=C.n4/\v38=ba bq i/\JNn C l u k1 k2 w k VV RV RS wr) (λv38 _=>C.n4-(intOf v38).toNat)
     case atStart=>exact⟨0,aB _,rfl,JR.out⟩
     case round=>
      obtain⟨j,hj,rfl,hJ⟩:=hrel;have JS:=aa hJ;clear hJ JR;by_cases T:j<C.n4
      ·have i3:(j:Int)<C.n4:=by omega
       obtain⟨sg,hsg⟩:∃sg,sg=kU C.H9 j mm C.n5 0 false:=⟨_,rfl⟩
       obtain⟨sh,nV⟩:∃sg,sg=kU D.H9 j mm C.n5 0 false:=⟨_,rfl⟩
       have hss:sg≠0->sh=sg:=λh=>by rw[hsg,nV];exact ND.out.1.asR Z.out.2 ND.out.2 T (by rw[<-hsg];exact h)
       obtain⟨kS,oS,eS',hS⟩:∃k o,b3=some ⟨k,o,none⟩/\∀W,Below wr.heap.size wr W->W.cell? ⟨k,o+j,none⟩=some (ba bq sg):=by
        obtain⟨bS,cS,eS,hS⟩:=R3.out _ JS.out;rw[Nt]at eS hS;obtain⟨kS,oS,e1,hkS,hcS⟩:=hS (by omega);obtain⟨eS,_,_⟩:=Value.slice.inj eS;refine⟨kS,oS,eS.trans e1,λW c=>(c.cell (p:=⟨kS,oS+j,none⟩) hkS).trans ?_⟩;rw[hcS j (by omega)];show some (ba bq ((tB C.H9 mm C.n5 C.n4).getD j 0))=_;rw[ae,tB,ag,ai T,hsg];rfl
       obtain⟨kT,oT,eT',hT⟩:∃k o,b4=some ⟨k,o,none⟩/\∀W,Below wr.heap.size wr W->W.cell? ⟨k,o+j,none⟩=some (ba bq sh):=by
        obtain⟨bS,cS,eS,hS⟩:=R4.out _ JS.out;rw[Nt]at eS hS;obtain⟨kS,oS,e1,hkS,hcS⟩:=hS (by omega);obtain⟨eS,_,_⟩:=Value.slice.inj eS;refine⟨kS,oS,eS.trans e1,λW c=>(c.cell (p:=⟨kS,oS+j,none⟩) hkS).trans ?_⟩;rw[hcS j (by omega)];show some (ba bq ((tB D.H9 mm C.n5 C.n4).getD j 0))=_;rw[ae,tB,ag,ai T,nV];rfl
       have HSS:=aa hS;have HTT:=aa hT;clear hsg nV hS hT;subst eS' eT';by_cases h0:sg=0
       ·subst h0;clear hss
        go_upto_region 31 with fail
        refine aJ ?_;refine ig (λW=>Below wr.heap.size wr W) (λ_ _=>True) (λ_=>true) (λ_ _ _=>True) rfl (by kernel_rfl) (λ_ _ _ _ _ _=>trivial) (λ_ _ _ _ _ _ _ _ h=>h) (ar _ _).drew ?_
        iterate 16 (
         apply aY
         case hE=>rfl
         case h=>
          intro vs W a hd;have a0:=HSS.out W a;have a1:=HTT.out W a
          go_simp
          first
           |with_reducible exact rfl
           |with_reducible exact⟨rfl,a⟩
           |with_reducible exact⟨rfl,a,trivial⟩
           |trace_state
         case hb=>exact j8)
        refine cP λvs W a hd=>?_;refine bj ?_
        go_wp2_with fail
        exact⟨⟨j+1,T,by go_num,JS.out.on a⟩,by simp only[intOf];omega⟩
       ·obtain rfl:sh=sg:=hss h0;have n0:(sh != 0)=true:=by simpa using h0
        have n1:(sh != sh)=false:=by simp
        clear hss
        go_upto_region 31 with fail
        refine aJ ?_;refine ig (λW=>Below wr.heap.size wr W) (λ_ _=>True) (λ_=>true) (λ_ _ _=>True) rfl (by kernel_rfl) (λ_ _ _ _ _ _=>trivial) (λ_ _ _ _ _ _ _ _ h=>h) (ar _ _).drew ?_
        iterate 16 (
         apply aY
         case hE=>rfl
         case h=>
          intro vs W a hd;have a0:=HSS.out W a;have a1:=HTT.out W a
          go_simp
          first
           |with_reducible exact rfl
           |with_reducible exact⟨rfl,a⟩
           |with_reducible exact⟨rfl,a,trivial⟩
           |trace_state
         case hb=>exact j8)
        refine cP λvs W a hd=>?_;refine bj ?_
        go_wp2_with fail
        exact⟨⟨j+1,T,by go_num,JS.out.on a⟩,by simp only[intOf];omega⟩
      ·have i3:¬((j:Int)<C.n4):=by omega
       clear T hj R3 R4
       go_wp2_with fail
       go_loopw [39] (λv39 wr=>∃i:Nat,i<=M/\v39=ba bq i/\JNn C l u k1 k2 w k VV RV RS wr) (λv39 _=>M-(intOf v39).toNat)
       case atStart=>exact⟨0,aB _,rfl,JS.out⟩
       case round=>
        obtain⟨j,hj,rfl,hJ⟩:=hrel;have JT:=aa hJ;clear hJ JS;by_cases T:j<M
        ·have i4:(j:Int)<M:=by omega
         have hjl:j<D.Cv.length:=by rw[<-HNM.out.2];exact T
         obtain⟨kb,ob,eb',eb⟩:=aal (R6.out _ JT.out) (i:=j) hjl;have hh:=ND.out.1.had Z.out.2 ND.out.2 (ap hjl);obtain⟨x,X⟩:∃x,x=D.Cv[j]:=⟨_,rfl⟩
         rw[<-X]at eb hh;obtain⟨x0,x1,x2,x3,x4⟩:=x;obtain⟨z0,mF⟩:∃z:Int,z=((x0:Nat):Int):=⟨_,rfl⟩
         have HAD:Hid (∀W,JNn C l u k1 k2 w k VV RV RS W->Calls PL 14 #[bb b5 N c5,bc #[ba bq z0,ba bq x1,ba bq x2,ba bq x3,ba bq x4]] W (aO (bd true) W)):=aa λW I=>by
          have:=afZ (bb b5 N c5) C.Cv (x0,x1,x2,x3,x4) W (R5.out _ I) (by rw[<-HNM.out.1];omega);rw[hh]at this;rw[mF];exact this
         obtain⟨d0,d1,d2,d3,d4⟩:=eb wr (ar _ _);simp only at d0 d1 d2 d3 d4;rw[<-mF]at d0;have q3:=Rw;have q4:=Kv;subst eb';clear eb hh X mF hjl
         go_wp2_with (go_at_call 14;(with_reducible refine(HAD.out _ JT.out).mono ?_);rintro e w13⟨rfl,c⟩;have JU:=aa (JT.out.on c);clear c)
         exact⟨⟨j+1,T,by go_num,JU.out⟩,by simp only[intOf];omega⟩
        ·have i4:¬((j:Int)<M):=by omega
         clear T hj
         go_wp2_with fail
         go_loopw [40] (λv40 wr=>∃i:Nat,i<=N/\v40=ba bq i/\JNn C l u k1 k2 w k VV RV RS wr) (λv40 _=>N-(intOf v40).toNat)
         case atStart=>exact⟨0,aB _,rfl,JT.out⟩
         case round=>
          obtain⟨j,hj,rfl,hJ⟩:=hrel;have JU:=aa hJ;clear hJ JT;by_cases T:j<N
          ·have i5:(j:Int)<N:=by omega
           have hjl:j<C.Cv.length:=by rw[<-HNM.out.1];exact T
           obtain⟨kb,ob,eb',eb⟩:=aal (R5.out _ JU.out) (i:=j) hjl;obtain⟨x,X⟩:∃x,x=C.Cv[j]:=⟨_,rfl⟩
           have hh:x.2.2.2.1=1->afs D.Cv (x.1,x.2.1,x.2.2.1,0,9990)=true:=λh=>ND.out.1.sure Z.out.2 ND.out.2 (by rw[X];exact ap hjl) h;rw[<-X]at eb;clear X;obtain⟨x0,x1,x2,x3,x4⟩:=x;obtain⟨z0,mF⟩:∃z:Int,z=((x0:Nat):Int):=⟨_,rfl⟩
           simp only at eb hh;rw[<-mF]at eb;have HEB:=aa eb;have HAD:Hid (x3=1->∀W,Below wr.heap.size wr W->Calls PL 14 #[bb b6 M c6,bc #[ba bq z0,ba bq x1,ba bq x2,ba bq 0,ba bq 9990]] W (aO (bd true) W)):=aa λh W I=>by
            have:=afZ (bb b6 M c6) D.Cv (x0,x1,x2,0,9990) W (R6.out _ (JU.out.on I)) (by rw[<-HNM.out.2];omega);rw[hh h]at this;rw[mF];exact this
           subst eb';clear eb hh mF hjl;by_cases h3:x3=1
           ·subst h3;have HA1:=aa (HAD.out rfl)
            go_upto_region 41 with fail
            refine aJ ?_;refine ig (λW=>Below wr.heap.size wr W) (λ_ _=>True) (λ_=>true) (λ_ _ _=>True) rfl (by kernel_rfl) (λ_ _ _ _ _ _=>trivial) (λ_ _ _ _ _ _ _ _ h=>h) (ar _ _).drew ?_
            iterate 24 (
             apply aY
             case hE=>rfl
             case h=>
              intro vs W a hd;obtain⟨a0,a1,a2,a3,a4⟩:=HEB.out W a
              go_simp
              first
               |with_reducible exact rfl
               |with_reducible exact⟨rfl,a⟩
               |with_reducible exact⟨rfl,a,trivial⟩
               |trace_state
             case hb=>exact j8)
            apply aY
            case hE=>rfl
            case h=>
             intro vs W a hd
             go_simp
             go_at_call 14
             (with_reducible refine(HA1.out _ a).mono ?_)
             rintro e W'⟨rfl,c⟩;exact⟨_,rfl,rfl,aS a c⟩
            case hb=>exact j8
            iterate 2 (
             apply aY
             case hE=>rfl
             case h=>
              intro vs W a hd
              go_simp
              first
               |with_reducible exact rfl
               |with_reducible exact⟨rfl,a⟩
               |with_reducible exact⟨rfl,a,trivial⟩
               |trace_state
             case hb=>exact j8)
            refine cP λvs W a hd=>?_;refine bj ?_
            go_wp2_with fail
            exact⟨⟨j+1,T,by go_num,JU.out.on a⟩,by simp only[intOf];omega⟩
           ·have n1:(x3==1)=false:=by simpa using h3
            go_upto_region 41 with fail
            refine aJ ?_;refine ig (λW=>Below wr.heap.size wr W) (λ_ _=>True) (λ_=>true) (λ_ _ _=>True) rfl (by kernel_rfl) (λ_ _ _ _ _ _=>trivial) (λ_ _ _ _ _ _ _ _ h=>h) (ar _ _).drew ?_
            iterate 27 (
             apply aY
             case hE=>rfl
             case h=>
              intro vs W a hd;obtain⟨a0,a1,a2,a3,a4⟩:=HEB.out W a
              go_simp
              first
               |with_reducible exact rfl
               |with_reducible exact⟨rfl,a⟩
               |with_reducible exact⟨rfl,a,trivial⟩
               |trace_state
             case hb=>exact j8)
            refine cP λvs W a hd=>?_;refine bj ?_
            go_wp2_with fail
            exact⟨⟨j+1,T,by go_num,JU.out.on a⟩,by simp only[intOf];omega⟩
          ·have i5:¬((j:Int)<N):=by omega
           clear T hj
           go_wp2_with (go_at_call 5;refine(HW.out _).mono ?_;rintro e w13⟨rfl,c⟩;have hB9:=aS JU.out.kc.low c;clear c)
           go_ret
           exact⟨rfl,hB9⟩
end Go.Proofs
