/- Part of the proof of FieldDelays. -/
import Derived.Test.YtlilmeaaoeemdaaGreatU10
import Derived.Test.YtlilmeaaoeemdaaGreatU14
import Derived.Maps.AppendAt
import Derived.WalkMore
set_option linter.all false
open Bool renaming and_eq_true->aa
open Go renaming TypeId->ab,wp_region_noPanic->ac,cell_kept->ad,frozen_kept->ae,results->ag,bodyPost_ret->ai,Operand->ao,wpList->ap,wpList_append_own->aq,cell_one_new->ar
open Go.World renaming cell?->aw,frozen?->aB,size_alloc->aI,cell?_setCell_other->aJ,frozen?_setCell->aP,cell?_setCell_same'->aS,setCell->aT,setRow->ba
open Go.Lib renaming hid->bc
open Go.RowKit.Below renaming refl->bd
open Nat renaming le_refl->bg,lt_of_lt_of_le->bi,eq_zero_or_pos->bj,zero_le->bm,add_assoc->bo,le_of_ble_eq_true->bp,zero_add->bq,sub_self->br,le_trans->bs
open Go.Proofs renaming getElem?_lt'->bt
open Go.Proofs.Below renaming on->bv,zQ->bw
open Go.Addr renaming block->bx
open Go.Proofs.Tryz renaming results17->bA,func28->bC,ntmps28->bL,func26->bM,ntmps26->bR,func25->bT,ntmps25->bX,func27->b1,ntmps27->b9
open Array renaming getElem?_modify->cb
open Go.Value renaming int->cc,string->cd,slice->ce,oneCell'->cf
open List renaming mem_cons->cg,not_mem_nil->ch,getElem?_map->ci,getElem?_eq_getElem->cl,getD_eq_getElem?_getD->cm,getElem?_take_of_lt->co,length_append->cp,map_append->cq,range->ct,all_eq_true->cv,mem_range->cB,getElem?_toArray->cC,append_assoc->cQ,getElem?_append_right->c6,getElem?_append_left->c7
open Go.Instr renaming field->c9,build->da
namespace Go.Proofs
open Go.RowKit Go.Shelf
attribute [local go_sem] Oper.semAt_some
set_option maxRecDepth 100000
set_option maxHeartbeats 4000000
def Rt{C:CD}(hc:C.cx=0){i:Nat}(hi:i<C.n4):0<=(C.x4 i).n 5/\(C.x4 i).n 5<C.n2:=by
 have b:kA C.p C.n2 C.n3 C.n4 C.x4=0:=ck hc 3 (by omega);unfold kA at b
 split at b
 case isFalse=>cases b
 have a:=ck b i hi;unfold gM at a
 split at a
 case isFalse h=>exact absurd a h
 split at a
 case isFalse=>cases a
 split at a
 ·cases a
 split at a
 case isFalse=>cases a
 rename_i c;simp only[bO,aa,decide_eq_true_eq]at c;omega
def ij(n a b:Int)(w:World):Calls PL 41 #[.int .i64 n,.int .i64 a,.int .i64 b] w λe w'=>e=.returned (.bool (bO n a b))/\w=w':=(bG n a b w).mono λ_ _⟨a,b⟩=>⟨a,b.symm⟩
def rM{n a b:Int}(h:bO n a b=true)(w:World):Calls PL 41 #[.int .i64 n,.int .i64 a,.int .i64 b] w λe w'=>e=.returned (.bool true)/\w=w':=by
 have:=ij n a b w;rwa[h]at this
def yG{n a b:Int}(h:bO n a b=false)(w:World):Calls PL 41 #[.int .i64 n,.int .i64 a,.int .i64 b] w λe w'=>e=.returned (.bool false)/\w=w':=by
 have:=ij n a b w;rwa[h]at this
def yH(a b:Bool)(w:World):Calls PL 45 #[.bool a,.bool b] w λe w'=>e=.returned (.int .i64 (Ej a b))/\w=w':=(U5 a b w).mono λ_ _⟨a,b⟩=>⟨a,b.symm⟩
def aaA{w:World}{k:Nat}{x:Value}{t:ab}(h:w.heap[k]?=some (.cells #[x] t)):w.cell? ⟨k,0,none⟩=some x/\w.frozen? ⟨k,0,none⟩=false:=by
 simp[aw,aB,h]
def CD.sz(C:CD)(i:Nat):Int×Int:=C.x2 ((C.x4 i).n 5).toNat
def CD.zR(C:CD)(i:Nat)(x:Int):Bool:=bO x (C.sz i).1 (C.sz i).2
def CD.Cm(C:CD)(i:Nat):Int:=Ej ((C.x4 i).NY.any (C.zR i)) ((C.x4 i).NY.any λx=>!C.zR i x)
def CD.iq(C:CD)(n:Int):Value:=if C.b6 (bO n 0 (C.n4-1))=0 then .tuple #[.int .i64 (C.Cm n.toNat),.int .i64 0] else .tuple #[.int .i64 0,.int .i64 (C.b6 (bO n 0 (C.n4-1)))]
def pH(C:CD)(n:Int)(w:World)(h:C.At w):Calls PL 17 #[.agg C.val,.int .i64 n] w (aO (C.iq n) w):=by
 have H:=bc (λw1 y=>h.below (w':=w1) y);have m4:=h.m4;obtain⟨i0,i1,b2,n2,c2,b3,n3,c3,b4,n4,c4,b5,n5,c5,hO⟩:∃(i0 i1:Int)(b2:Option Addr)(n2 c2:Nat)(b3:Option Addr)(n3 c3:Nat)(b4:Option Addr)(n4 c4:Nat)(b5:Option Addr)(n5 c5:Nat),∀W,C.At W->Calls PL 35 #[.agg C.val,.bool (bO n 0 (C.n4-1))] W (aO (.tuple #[.agg #[.int .i64 i0,.int .i64 i1,.slice b2 n2 c2,.slice b3 n3 c3,.slice b4 n4 c4,.slice b5 n5 c5],.int .i64 (C.b6 (bO n 0 (C.n4-1)))]) W):=by
  by_cases hf:C.b6 (bO n 0 (C.n4-1))=0
  ·exact⟨_,_,_,_,_,_,_,_,_,_,_,_,_,_,λW Y=>by rw[hf];exact kF hf Y⟩
  ·exact⟨_,_,_,_,_,_,_,_,_,_,_,_,_,_,λW Y=>Kr hf Y⟩
 have HO:=bc hO;have H1:=bc h;clear h hO;refine(callsIn_wide (n:=9)).1 (callsIn_of_wp_marks (fx (by decide) Tryz.func17) rfl trivial ?_ rfl);simp only[Tryz.ntmps17,List.size_toArray,List.length_cons,List.length_nil,Nat.reduceAdd,Nat.reduceSub,Array.replicate_succ,Array.replicate_zero,List.push_toArray,List.append_toArray,List.nil_append,List.cons_append];refine wpIn_wide.2 ?_
 go_wp2
 obtain⟨d,R⟩:∃d:World,d=w.alloc (.cells C.val 27):=⟨_,rfl⟩
 have J:Below w.heap.size w d:=by rw[R];exact(bd _ _).alloc (bg _) _
 have S:Hid (C.Box w.heap.size d):=bc ⟨by rw[R];exact au w _⟩;rw[<-R];clear R;obtain⟨f0,f1,f2,f3,f4,f5⟩:=bf S.out.Tj;have T:w.heap.size<d.heap.size:=bt S.out.Tj;have XZ:w.heap.size<d.heap.size+1:=by omega
 go_cut [6,7] from 12 to 19 (fun(v6:Value)(v7:Value)(Z:World)=>v7=.int .i64 (C.b6 (bO n 0 (C.n4-1)))/\Below d.heap.size d Z)
 case first=>
  refine ac ?_
  go_region_with (first|(go_at_call 43;refine(AE C n _ m4).mono ?_;rintro e w1⟨rfl,U⟩;obtain⟨lp,lR⟩:=cW U;(first|(with_reducible have j:=bv ((bd d.heap.size d).drew) U)|(have j:=bv ((bd d.heap.size d).drew.alloc (bd d.heap.size d).drew.size _) U;have aH:d.heap.size<w1.heap.size:=by have:=U.size;simp at this;omega));have dx:=j.size;obtain⟨g0,g1,g2,g3,L,g5⟩:=bf ((j.block _ T).trans S.out.Tj);have hzw:w.heap.size<w1.heap.size:=bi T dx)|(go_at_call 35;refine(HO.out _ (H.out _ (bv J ?hb))).mono ?_;(with_reducible case hb=>first|exact j|exact j.alloc j.size _);rintro e w2⟨rfl,qA⟩;obtain⟨hc2,hf2⟩:=cW qA;(with_reducible first|have b:=bv j qA|have b:=bv (j.alloc j.size _) qA)))
  all_goals (refine NoPanic.normal ?_;go_wp2_with fail;go_meet;case rel=>refine⟨rfl,?_⟩;with_reducible first|exact bw b (bg _) _ _ _ _ _ _|exact bw b dx _ _ _ _ _ _|exact b.alloc b.size _)
 case rest=>
  obtain⟨rfl,z⟩:=hcut;by_cases hf:C.b6 (bO n 0 (C.n4-1))=0
  ·have hA:=H.out wc (bv J z);have hck:C.cx=0/\bO n 0 (C.n4-1)=true:=by
    unfold CD.b6 at hf
    split at hf
    ·split at hf
     ·exact⟨by assumption,by assumption⟩
     ·cases hf
    ·exact absurd hf (by assumption)
   obtain⟨hk,hb⟩:=hck;have jH:0<=n/\n<=(C.n4:Int)-1:=by simpa[bO]using hb
   obtain⟨i,rfl⟩:=Int.eq_ofNat_of_zero_le jH.1;have hi:i<C.n4:=by omega
   have mS:(i:Int)<C.n4:=by omega
   have OK:=bc (Kq hk hi);obtain⟨z1,z2⟩:=Rt hk hi;have r:((C.x4 i).n 5).toNat<C.n2:=by omega
   obtain⟨g0,g1,g2,g3,L,g5⟩:=bf ((z.block _ T).trans S.out.Tj);rw[hA.s4 (by omega)]at L;rw[hA.s2 (by omega)]at g2;have k0:=hA.AD i hi;have k1:=hA.dB i hi 1 (by omega) (by omega);have k2:=hA.dB i hi 2 (by omega) (by omega);have k3:=hA.dB i hi 3 (by omega) (by omega);have k4:=hA.dB i hi 4 (by omega) (by omega);have k5:=hA.dB i hi 5 (by omega) (by omega);have k6:=hA.dB i hi 6 (by omega) (by omega);have k7:=hA.dB i hi 7 (by omega) (by omega);have k8:=hA.dB i hi 8 (by omega) (by omega);have k9:=hA.dB i hi 9 (by omega) (by omega);have CG:=hA.dB i hi 10 (by omega) (by omega);have CH:=hA.nj i hi;have y0:=hA.Ep _ r;have y1:=hA.Er _ r;have g:=hA.h4;have ND:=hA.h2;have wD:w.heap.size<wc.heap.size:=bi T z.size;rw[hf];clear hA hk hb jH f0 f1 f2 f3 f4 f5 r
   go_upto_region 4 with fail
   go_cut [8] from 23 to 32 (fun(v8:Value)(Z:World)=>v8=.pointer (some ⟨wc.heap.size,0,none⟩)/\Z=wc.drew.alloc (.cells #[.int .i64 (C.x2 ((C.x4 i).n 5).toNat).1,.int .i64 (C.x2 ((C.x4 i).n 5).toNat).2] 48))
   case first=>
    refine ac ?_
    go_region
    all_goals (refine NoPanic.normal ?_;go_wp2_with fail;go_meet;case rel=>exact⟨rfl,rfl⟩)
   case rest=>
    obtain⟨rfl,rfl⟩:=hcut;obtain⟨a,M⟩:∃a:World,a=wc.drew.alloc (.cells #[.int .i64 (C.x2 ((C.x4 i).n 5).toNat).1,.int .i64 (C.x2 ((C.x4 i).n 5).toNat).2] 48):=⟨_,rfl⟩
    have b:Below wc.heap.size wc a:=by rw[M];exact(bd wc.heap.size wc).drew.alloc (bd wc.heap.size wc).drew.size _
    have N:a.heap[wc.heap.size]?=some (.cells #[.int .i64 (C.x2 ((C.x4 i).n 5).toNat).1,.int .i64 (C.x2 ((C.x4 i).n 5).toNat).2] 48):=by
     have:=au wc.drew (.cells #[.int .i64 (C.x2 ((C.x4 i).n 5).toNat).1,.int .i64 (C.x2 ((C.x4 i).n 5).toNat).2] 48);rw[M];exact this
    have E:a.heap.size=wc.heap.size+1:=by rw[M,aI];rfl
    rw[<-M];clear M;replace L:=(b.cell (p:=⟨w.heap.size,4,none⟩) wD).trans L;replace k0:=(b.cell (p:=⟨C.k4,C.o4+i*12,none⟩) g).trans k0;replace k1:=(b.cell (p:=⟨C.k4,C.o4+i*12+1,none⟩) g).trans k1;replace k2:=(b.cell (p:=⟨C.k4,C.o4+i*12+2,none⟩) g).trans k2;replace k3:=(b.cell (p:=⟨C.k4,C.o4+i*12+3,none⟩) g).trans k3;replace k4:=(b.cell (p:=⟨C.k4,C.o4+i*12+4,none⟩) g).trans k4;replace k5:=(b.cell (p:=⟨C.k4,C.o4+i*12+5,none⟩) g).trans k5;replace k6:=(b.cell (p:=⟨C.k4,C.o4+i*12+6,none⟩) g).trans k6;replace k7:=(b.cell (p:=⟨C.k4,C.o4+i*12+7,none⟩) g).trans k7;replace k8:=(b.cell (p:=⟨C.k4,C.o4+i*12+8,none⟩) g).trans k8;replace k9:=(b.cell (p:=⟨C.k4,C.o4+i*12+9,none⟩) g).trans k9;replace CG:=(b.cell (p:=⟨C.k4,C.o4+i*12+10,none⟩) g).trans CG;replace CH:=(b.cell (p:=⟨C.k4,C.o4+i*12+11,none⟩) g).trans CH;replace g:C.k4<a.heap.size:=by omega
    replace wD:w.heap.size<a.heap.size:=by omega
    clear g0 g1 g2 g3 g5 y0 y1;have k:=bc E;have HQ2:=bc N;clear E N
    go_wp2_with (go_at_call 44;refine(yF (C.x4 i) _).mono ?_;rintro e w'⟨rfl,rfl⟩)
    obtain⟨m,t⟩:∃m:World,m=((a.alloc (.cells #[.bool false] 4)).alloc (.cells #[.bool false] 4)).alloc (.cells (C.x4 i).val 85):=⟨_,rfl⟩
    have V:m.heap.size=a.heap.size+3:=by rw[t];simp
    have j:Below a.heap.size a m:=by rw[t];exact(((bd _ _).alloc (bg _) _).alloc (by simp) _).alloc (by simp;omega) _
    have hp:m.heap[a.heap.size+1+1]?=some (.cells (C.x4 i).val 85):=by
     have:=au ((a.alloc (.cells #[.bool false] 4)).alloc (.cells #[.bool false] 4)) (.cells (C.x4 i).val 85);rw[aI,aI]at this;rw[t];exact this
    have YH:m.heap[a.heap.size]?=some (.cells #[.bool false] 4):=by
     rw[t];exact((((bd (a.alloc (.cells #[.bool false] 4)).heap.size _).alloc (bg _) _).alloc (by simp) _).block _ (by simp)).trans (au a _)
    have ht1:m.heap[a.heap.size+1]?=some (.cells #[.bool false] 4):=by
     have h1:=au (a.alloc (.cells #[.bool false] 4)) (.cells #[.bool false] 4);rw[aI]at h1;rw[t];exact(((bd ((a.alloc (.cells #[.bool false] 4)).alloc (.cells #[.bool false] 4)).heap.size _).alloc (bg _) _).block _ (by simp)).trans h1
    have E:=k.out;have hqq:=(j.block _ (by omega)).trans HQ2.out;have u:Below w.heap.size w m:=bv (bv (bv J z) b) j;have O:w.heap.size<=a.heap.size:=(bv (bv J z) b).size;rw[<-t];clear t k0 k1 k2 k3 k4 k5 k6 k7 k8 k9 CG CH L;obtain⟨p0,p1,p2,p3,p4,p5,p6,p7,p8,p9,Cz,Fy⟩:=gx hp;obtain⟨t0,t1,u0,u1⟩:=uJ hqq;obtain⟨v0,x0⟩:=aaA YH;obtain⟨v1,x1⟩:=aaA ht1;obtain⟨o1,o2,o3,o4,o5,o6⟩:=OK.out;have HS1:=bc V;refine(wpIn_wide (n:=9)).1 ?_;refine wpIn_rangeFunc_ownF rfl (by omega) (gf:=65) (lb:=#[.pointer (some ⟨a.heap.size+1+1,0,none⟩)]) rfl trivial (enters_of (fx (by decide) Tryz.func65) (by kernel_rfl) rfl)
     (tg 8 (by omega) (a.heap.size+1+1) ((C.x4 i).n 1) ((C.x4 i).n 3) ((C.x4 i).n 2-(C.x4 i).n 1+1).toNat ((C.x4 i).n 4-(C.x4 i).n 3+1).toNat o1 (by omega) (by omega) o4 (by omega) (by omega) m (by omega) p1 (by rw[p2];congr 2;omega) p3 (by rw[p4];congr 2;omega))
     Km (Ko (by omega)) (bd _ _) (λ_=>rfl)
     (λq W=>(W.cell? ⟨wc.heap.size,0,none⟩=some (.int .i64 (C.sz i).1)/\W.cell? ⟨wc.heap.size,1,none⟩=some (.int .i64 (C.sz i).2)/\W.cell? ⟨a.heap.size,0,none⟩=some (.bool (q.any (C.zR i)))/\W.cell? ⟨a.heap.size+1,0,none⟩=some (.bool (q.any λx=>!C.zR i x))/\W.frozen? ⟨a.heap.size,0,none⟩=false/\W.frozen? ⟨a.heap.size+1,0,none⟩=false)/\Below w.heap.size w W)
     (λ_ _ _=>False)
     (OwnFrom.and (Own.from (λs A B row hs hg F=>⟨ad hs.1 hg F,ad hs.2.1 hg F,ad hs.2.2.1 hg F,ad hs.2.2.2.1 hg F,(ae hs.2.2.1 hg F).trans hs.2.2.2.2.1,(ae hs.2.2.2.1 hg F).trans hs.2.2.2.2.2⟩) _) (ownFrom_below (bg _) (by have:=u.size;omega)))
     (λ_ _ _ _ _ hs _ _=>hs)
     ⟨⟨t0,t1,v0,v1,x0,x1⟩,u⟩
     (λx=>{ tmps:=#[.agg C.val,.int .i64 i,.pointer (some ⟨w.heap.size,0,none⟩),undef,.int .i64 0,.int .i64 0,u6,.int .i64 0,.pointer (some ⟨wc.heap.size,0,none⟩),.pointer (some ⟨a.heap.size,0,none⟩),.pointer (some ⟨a.heap.size+1,0,none⟩),.int .i64 x,u12,u13,u14,u15,u16,u17,u18,u19,.int .i64 0,.bool false,undef,u23,u24,u25,u26,u27,u28,u29,u30,u31,u32,.pointer (some ⟨w.heap.size,4,none⟩),.slice (some ⟨C.k4,C.o4,none⟩) C.n4 C.c4,.int .i64 i,.pointer (some ⟨C.k4,C.o4+i*12,none⟩),.agg (C.x4 i).val,.func (.func 65) #[] #[.pointer (some ⟨a.heap.size+1+1,0,none⟩)],.int .i64 x,undef,undef,undef,undef,undef,undef,undef,undef,undef],defers:=[] }) ?assign ?body ?done ?stop
    case assign=>
     intro l x W K X;clear E V
     gi_wp2
     exact X
    case body=>
     rintro l q x W⟨⟨a0,a1,a2,a3,a4,a5⟩,y⟩_;clear E V;have bu:a.heap.size≠wc.heap.size:=by have:=k.out;omega
     by_cases I:C.zR i x=true
     ·have P:=bc I;have Q:bO x (C.sz i).1 (C.sz i).2=true:=I;have v:=bc Q;clear I Q
      gi_wp2_with (refine⟨trivial,?_⟩;gi_at_call 41;refine(CallsIn.inRound l (callsIn_wide.2 (rM v.out _))).mono ?_;rintro e w'⟨rfl,rfl⟩)
      refine⟨KeepsOthers.setCell _ _ _,λo=>aJ _ _ _ _ (λh=>by have f:=congrArg bx h;have:=k.out;simp only at f;omega),⟨(aJ _ _ _ _ (λh=>by have f:=congrArg bx h;have:=k.out;simp only at f;omega)).trans a0,(aJ _ _ _ _ (λh=>by have f:=congrArg bx h;have:=k.out;simp only at f;omega)).trans a1,?_,(aJ _ _ _ _ (λh=>by have f:=congrArg bx h;have:=k.out;simp only at f;omega)).trans (by rw[a3];simp[P.out]),by rw[aP];exact a4,by rw[aP];exact a5⟩,y.setCell (p:=⟨a.heap.size,0,none⟩) O _⟩;rw[aS _ _ _ (by rw[a2];rfl)];simp[P.out]
     ·have P:=bc (aV I);have Q:bO x (C.sz i).1 (C.sz i).2=false:=aV I;have v:=bc Q;clear I Q
      gi_wp2_with (refine⟨trivial,?_⟩;gi_at_call 41;refine(CallsIn.inRound l (callsIn_wide.2 (yG v.out _))).mono ?_;rintro e w'⟨rfl,rfl⟩)
      refine⟨KeepsOthers.setCell _ _ _,λo=>aJ _ _ _ _ (λh=>by have f:=congrArg bx h;have:=k.out;simp only at f;omega),⟨(aJ _ _ _ _ (λh=>by have f:=congrArg bx h;have:=k.out;simp only at f;omega)).trans a0,(aJ _ _ _ _ (λh=>by have f:=congrArg bx h;have:=k.out;simp only at f;omega)).trans a1,(aJ _ _ _ _ (λh=>by have f:=congrArg bx h;have:=k.out;simp only at f;omega)).trans (by rw[a2];simp[P.out]),?_,by rw[aP];exact a4,by rw[aP];exact a5⟩,y.setCell (p:=⟨a.heap.size+1,0,none⟩) (Nat.le_succ_of_le O) _⟩;rw[aS _ _ _ (by rw[a3];rfl)];simp[P.out]
    case done=>
     rintro D ys W hD rfl⟨⟨a0,a1,a2,a3,a4,a5⟩,y⟩X;replace a2:W.cell? ⟨a.heap.size,0,none⟩=some (.bool ((C.x4 i).NY.any (C.zR i))):=a2;replace a3:W.cell? ⟨a.heap.size+1,0,none⟩=some (.bool ((C.x4 i).NY.any λx=>!C.zR i x)):=a3;clear E V
     go_wp2_with (go_at_call 45;refine(yH _ _ _).mono ?_;rintro e w'⟨rfl,rfl⟩)
     refine⟨by simp,.inl ⟨_,_,rfl,run_takeDeferred X,?_⟩⟩;refine⟨C.iq i,?_,rfl,y.trans (belowK_b (w:=w) (bg _) _ D _ _ (by have:=u.size;omega) X rfl rfl)⟩;rw[CD.iq,if_pos hf];simp[ag,bA,go_sem,CD.Cm]
    case stop=>
     rintro D c q W _ _ h _;exact h.elim
  ·have hn:(C.b6 (bO n 0 (C.n4-1)) != 0)=true:=by simpa using hf
   have HF:=bc hf;clear hf f0 f1 f2 f3 f4 f5
   go_wp2
   refine⟨C.iq n,?_,rfl,?_⟩
   ·rw[CD.iq,if_neg HF.out];simp[ag,bA,go_sem]
   ·exact bv J z
end Go.Proofs
namespace Go.Proofs
set_option maxHeartbeats 1000000
open Go.RowKit
set_option maxRecDepth 100000
set_option maxHeartbeats 4000000
def yK{C:CD}{w:World}{i:Nat}(h:C.At w)(hi:i<C.n4):C.b4=some ⟨C.k4,C.o4,none⟩/\w.cell? ⟨C.k4,C.o4+i*12,none⟩=some (.string (C.x4 i).name)/\w.cell? ⟨C.k4,C.o4+i*12+1,none⟩=some (.int .i64 ((C.x4 i).n 1))/\w.cell? ⟨C.k4,C.o4+i*12+2,none⟩=some (.int .i64 ((C.x4 i).n 2))/\w.cell? ⟨C.k4,C.o4+i*12+3,none⟩=some (.int .i64 ((C.x4 i).n 3))/\w.cell? ⟨C.k4,C.o4+i*12+4,none⟩=some (.int .i64 ((C.x4 i).n 4))/\w.cell? ⟨C.k4,C.o4+i*12+5,none⟩=some (.int .i64 ((C.x4 i).n 5))/\w.cell? ⟨C.k4,C.o4+i*12+6,none⟩=some (.int .i64 ((C.x4 i).n 6))/\w.cell? ⟨C.k4,C.o4+i*12+7,none⟩=some (.int .i64 ((C.x4 i).n 7))/\w.cell? ⟨C.k4,C.o4+i*12+8,none⟩=some (.int .i64 ((C.x4 i).n 8))/\w.cell? ⟨C.k4,C.o4+i*12+9,none⟩=some (.int .i64 ((C.x4 i).n 9))/\w.cell? ⟨C.k4,C.o4+i*12+10,none⟩=some (.int .i64 ((C.x4 i).n 10))/\w.cell? ⟨C.k4,C.o4+i*12+11,none⟩=some (.slice (C.x4 i).lb (C.x4 i).ln (C.x4 i).lc)/\C.k4<w.heap.size:=⟨h.s4 (by omega),h.AD i hi,h.dB i hi 1 (by omega) (by omega),h.dB i hi 2 (by omega) (by omega),h.dB i hi 3 (by omega) (by omega),h.dB i hi 4 (by omega) (by omega),h.dB i hi 5 (by omega) (by omega),h.dB i hi 6 (by omega) (by omega),h.dB i hi 7 (by omega) (by omega),h.dB i hi 8 (by omega) (by omega),h.dB i hi 9 (by omega) (by omega),h.dB i hi 10 (by omega) (by omega),h.nj i hi,h.h4⟩
def yL{W:World}{r:Nat}{x y u v:Value}{t:ab}(h:W.heap[r]?=some (.cells #[x,y] t)):((W.setCell ⟨r,0,none⟩ u).setCell ⟨r,1,none⟩ v).heap[r]?=some (.cells #[u,v] t):=by
 simp only[aT,cb,if_pos,h,Option.map_some];rfl
def tv{W:World}{r b:Nat}{u v:Value}(hb:b≠r):((W.setCell ⟨r,0,none⟩ u).setCell ⟨r,1,none⟩ v).heap[b]?=W.heap[b]?:=by
 simp only[aT,cb,if_neg (Ne.symm hb)]
def below_drewN{n:Nat}{w W:World}(h:Below n w W):∀k,Below n w (W.drewN k):=λk=>by
 obtain⟨a,b,c,d,e⟩:=h;exact⟨a,b,c,d,e⟩
def yM:PL.stoodInHeld 48=false:=by kernel_rfl
def Co:PL.eqGuardType PL.depth 48=false:=by kernel_rfl
structure KB(C:CD)(w W:World):Prop where
 box:W.heap[w.heap.size]?=some (.cells C.val 27)
 low:Below w.heap.size w W
def KB.on{C:CD}{w W a:World}(h:KB C w W)(b:Below W.heap.size W a):KB C w a:=
 ⟨(b.block _ (bt h.box)).trans h.box,bv h.low b⟩
def KB.alloc{C:CD}{w W:World}(h:KB C w W)(o:Obj):KB C w (W.alloc o):=h.on ((bd _ _).alloc (bg _) _)
def KB.lt{C:CD}{w W:World}(h:KB C w W):w.heap.size<W.heap.size:=bt h.box
def CD.Mem.below{C:CD}{w w':World}(h:C.Mem w)(a:Below w.heap.size w w'):C.Mem w':=by
 have s:=a.size;have e:∀o,w'.cell? ⟨C.k2,o,none⟩=w.cell? ⟨C.k2,o,none⟩:=λo=>a.cell (p:=⟨C.k2,o,none⟩) h.h2;have b:∀o,w'.cell? ⟨C.k3,o,none⟩=w.cell? ⟨C.k3,o,none⟩:=λo=>a.cell (p:=⟨C.k3,o,none⟩) h.h3;have c:∀o,w'.cell? ⟨C.k4,o,none⟩=w.cell? ⟨C.k4,o,none⟩:=λo=>a.cell (p:=⟨C.k4,o,none⟩) h.h4;have d:∀o,w'.cell? ⟨C.k5,o,none⟩=w.cell? ⟨C.k5,o,none⟩:=λo=>a.cell (p:=⟨C.k5,o,none⟩) h.h5;obtain⟨h2,h3,h4,h5,s2,s3,s4,s5,Ep,Er,Es,Et,Eu,AD,dB,nj,l4,J5,FI,HU,J6⟩:=h
 exact⟨by omega,by omega,by omega,by omega,s2,s3,s4,s5,λi hi=>(e _).trans (Ep i hi),λi hi=>(e _).trans (Er i hi),λi hi=>(b _).trans (Es i hi),λi hi=>(b _).trans (Et i hi),λi hi=>(b _).trans (Eu i hi),
  λi hi=>(c _).trans (AD i hi),λi hi j f h2=>(c _).trans (dB i hi j f h2),λi hi=>(c _).trans (nj i hi),λi hi hl=>⟨(l4 i hi hl).1,bi (l4 i hi hl).2 s⟩,
  λi hi j g=>(a.cell (p:=⟨(C.x4 i).lk,(C.x4 i).lo+j,none⟩) (l4 i hi (by omega)).2).trans (J5 i hi j g),λi hi=>(d _).trans (FI i hi),λi hi=>(d _).trans (HU i hi),λi hi=>(d _).trans (J6 i hi)⟩
def Reads(W:World)(v:Value)(n m:Nat)(f:Nat->Value):Prop:=∃b c,v=.slice b n c/\(0<n->∃k o,b=some ⟨k,o,none⟩/\k<W.heap.size/\∀j,j<n*m->W.cell? ⟨k,o+j,none⟩=some (f j))
def Reads.on{W a:World}{v:Value}{n m:Nat}{f:Nat->Value}(h:Reads W v n m f)(d:Below W.heap.size W a):Reads a v n m f:=by
 obtain⟨b,c,e,h⟩:=h;refine⟨b,c,e,λi=>?_⟩;obtain⟨k,o,e1,g,hc⟩:=h i;exact⟨k,o,e1,bi g d.size,λj l=>(d.cell (p:=⟨k,o+j,none⟩) g).trans (hc j l)⟩
def aaC:PL.stoodInHeld 70=false:=by kernel_rfl
def Vy:PL.eqGuardType PL.depth 70=false:=by kernel_rfl
def Rw:PL.stoodInHeld 74=false:=by kernel_rfl
def Kv:PL.eqGuardType PL.depth 74=false:=by kernel_rfl
def pI(a b:Value)(n:Nat)(f:Nat->Int)(w:World)(c:Reads w a n 1 λj=>.int .i64 (f j))(hb:Reads w b n 1 λj=>.int .i64 (f j))(h:n<=20):Calls PL 28 #[a,b] w (aO (.bool true) w):=by
 obtain⟨r,s,rfl,c⟩:=c;obtain⟨t,u,rfl,hb⟩:=hb
 rcases bj n with rfl|e
 ·clear c hb h
  go_enter (fx (by decide) bC),bL
  go_wp2
  go_loop [5] (λv=>v=.int .i64 0) (λ_=>0)
  case atStart=>rfl
  case round=>
   subst hrel
   go_wp2
   go_ret
   exact⟨rfl,bd _ _⟩
 ·obtain⟨k,o,rfl,i,c⟩:=c e;obtain⟨k',g,rfl,l,hb⟩:=hb e;have A:=bc c;have B:=bc hb;clear c hb
  go_enter (fx (by decide) bC),bL
  go_wp2
  go_loopw [5] (λv wr=>∃q:Nat,q<=n/\v=.int .i64 q/\Below w.heap.size w wr) (λv _=>n-(intOf v).toNat)
  case atStart=>exact⟨0,bm _,rfl,bd _ _⟩
  case round=>
   obtain⟨q,x,rfl,d⟩:=hrel;by_cases m:q<n
   ·have y:(q:Int)<n:=by omega
    have a0:wr.cell? ⟨k,o+q,none⟩=some (.int .i64 (f q)):=(d.cell (p:=⟨k,o+q,none⟩) i).trans (A.out q (by omega));have b0:wr.cell? ⟨k',g+q,none⟩=some (.int .i64 (f q)):=(d.cell (p:=⟨k',g+q,none⟩) l).trans (B.out q (by omega))
    go_wp2
    go_quiet (fail)
    go_wp2
    refine⟨⟨q+1,m,by go_num,below_drewN d _⟩,by simp only[intOf];omega⟩
   ·obtain rfl:q=n:=by omega
    go_wp2
    go_ret
    exact⟨rfl,d⟩
def Cp(a b:Value)(n:Nat)(f:Nat->Int)(w:World)(c:Reads w a n 1 λj=>.int .i64 (f j))(hb:Reads w b n 1 λj=>.int .i64 (f j))(h:n<=20):Calls PL 26 #[a,b] w (aO (.bool true) w):=by
 obtain⟨r,s,rfl,c⟩:=c;obtain⟨t,u,rfl,hb⟩:=hb
 rcases bj n with rfl|e
 ·clear c hb h
  go_enter (fx (by decide) bM),bR
  go_wp2
  go_loop [5] (λv=>v=.int .i64 0) (λ_=>0)
  case atStart=>rfl
  case round=>
   subst hrel
   go_wp2
   go_ret
   exact⟨rfl,bd _ _⟩
 ·obtain⟨k,o,rfl,i,c⟩:=c e;obtain⟨k',g,rfl,l,hb⟩:=hb e;have A:=bc c;have B:=bc hb;clear c hb
  go_enter (fx (by decide) bM),bR
  go_wp2
  go_loopw [5] (λv wr=>∃q:Nat,q<=n/\v=.int .i64 q/\Below w.heap.size w wr) (λv _=>n-(intOf v).toNat)
  case atStart=>exact⟨0,bm _,rfl,bd _ _⟩
  case round=>
   obtain⟨q,x,rfl,d⟩:=hrel;by_cases m:q<n
   ·have y:(q:Int)<n:=by omega
    have a0:wr.cell? ⟨k,o+q,none⟩=some (.int .i64 (f q)):=(d.cell (p:=⟨k,o+q,none⟩) i).trans (A.out q (by omega));have b0:wr.cell? ⟨k',g+q,none⟩=some (.int .i64 (f q)):=(d.cell (p:=⟨k',g+q,none⟩) l).trans (B.out q (by omega))
    go_wp2
    go_quiet (fail)
    go_wp2
    refine⟨⟨q+1,m,by go_num,below_drewN d _⟩,by simp only[intOf];omega⟩
   ·obtain rfl:q=n:=by omega
    go_wp2
    go_ret
    exact⟨rfl,d⟩
def zT(a b:Value)(n:Nat)(f:Nat->Int)(w:World)(e:Reads w a n 5 λj=>.int .i64 (f j))(hb:Reads w b n 5 λj=>.int .i64 (f j))(l:n<=20):Calls PL 25 #[a,b] w (aO (.bool true) w):=by
 obtain⟨r,s,rfl,e⟩:=e;obtain⟨t,u,rfl,hb⟩:=hb;have q1:=aaC;have q2:=Vy;have q3:=yM
 rcases bj n with rfl|i
 ·clear e hb l
  go_enter (fx (by decide) bT),bX
  go_wp2
  go_loop [5] (λv=>v=.int .i64 0) (λ_=>0)
  case atStart=>rfl
  case round=>
   subst hrel
   go_wp2
   go_ret
   exact⟨rfl,bd _ _⟩
 ·obtain⟨k,o,rfl,g,e⟩:=e i;obtain⟨k',d,rfl,h,hb⟩:=hb i;have A:=bc e;have B:=bc hb;clear e hb
  go_enter (fx (by decide) bT),bX
  go_wp2
  go_loopw [5] (λv wr=>∃q:Nat,q<=n/\v=.int .i64 q/\Below w.heap.size w wr) (λv _=>n-(intOf v).toNat)
  case atStart=>exact⟨0,bm _,rfl,bd _ _⟩
  case round=>
   obtain⟨q,x,rfl,c⟩:=hrel;by_cases m:q<n
   ·have y:(q:Int)<n:=by omega
    have a0:wr.cell? ⟨k,o+q*5,none⟩=some (.int .i64 (f (q*5))):=(c.cell (p:=⟨k,o+q*5,none⟩) g).trans ((by have:=A.out (q*5) (by omega);simpa using this));have a1:wr.cell? ⟨k,o+q*5+1,none⟩=some (.int .i64 (f (q*5+1))):=(c.cell (p:=⟨k,o+q*5+1,none⟩) g).trans ((by have:=A.out (q*5+1) (by omega);rwa[<-bo]at this));have a2:wr.cell? ⟨k,o+q*5+2,none⟩=some (.int .i64 (f (q*5+2))):=(c.cell (p:=⟨k,o+q*5+2,none⟩) g).trans ((by have:=A.out (q*5+2) (by omega);rwa[<-bo]at this));have a3:wr.cell? ⟨k,o+q*5+3,none⟩=some (.int .i64 (f (q*5+3))):=(c.cell (p:=⟨k,o+q*5+3,none⟩) g).trans ((by have:=A.out (q*5+3) (by omega);rwa[<-bo]at this));have a4:wr.cell? ⟨k,o+q*5+4,none⟩=some (.int .i64 (f (q*5+4))):=(c.cell (p:=⟨k,o+q*5+4,none⟩) g).trans ((by have:=A.out (q*5+4) (by omega);rwa[<-bo]at this));have b0:wr.cell? ⟨k',d+q*5,none⟩=some (.int .i64 (f (q*5))):=(c.cell (p:=⟨k',d+q*5,none⟩) h).trans ((by have:=B.out (q*5) (by omega);simpa using this));have z:wr.cell? ⟨k',d+q*5+1,none⟩=some (.int .i64 (f (q*5+1))):=(c.cell (p:=⟨k',d+q*5+1,none⟩) h).trans ((by have:=B.out (q*5+1) (by omega);rwa[<-bo]at this));have C:wr.cell? ⟨k',d+q*5+2,none⟩=some (.int .i64 (f (q*5+2))):=(c.cell (p:=⟨k',d+q*5+2,none⟩) h).trans ((by have:=B.out (q*5+2) (by omega);rwa[<-bo]at this));have D:wr.cell? ⟨k',d+q*5+3,none⟩=some (.int .i64 (f (q*5+3))):=(c.cell (p:=⟨k',d+q*5+3,none⟩) h).trans ((by have:=B.out (q*5+3) (by omega);rwa[<-bo]at this))
    have E:wr.cell? ⟨k',d+q*5+4,none⟩=some (.int .i64 (f (q*5+4))):=(c.cell (p:=⟨k',d+q*5+4,none⟩) h).trans ((by have:=B.out (q*5+4) (by omega);rwa[<-bo]at this))
    go_wp2
    go_quiet (fail)
    go_wp2
    refine⟨⟨q+1,m,by go_num,below_drewN c _⟩,by simp only[intOf];omega⟩
   ·obtain rfl:q=n:=by omega
    go_wp2
    go_ret
    exact⟨rfl,c⟩
def vS(a b:Value)(n:Nat)(f:Nat->Int)(w:World)(e:Reads w a n 5 λj=>.int .i64 (f j))(hb:Reads w b n 5 λj=>.int .i64 (f j))(l:n<=20):Calls PL 27 #[a,b] w (aO (.bool true) w):=by
 obtain⟨r,s,rfl,e⟩:=e;obtain⟨t,u,rfl,hb⟩:=hb;have q1:=Rw;have q2:=Kv;have q3:=yM
 rcases bj n with rfl|i
 ·clear e hb l
  go_enter (fx (by decide) b1),b9
  go_wp2
  go_loop [5] (λv=>v=.int .i64 0) (λ_=>0)
  case atStart=>rfl
  case round=>
   subst hrel
   go_wp2
   go_ret
   exact⟨rfl,bd _ _⟩
 ·obtain⟨k,o,rfl,g,e⟩:=e i;obtain⟨k',d,rfl,h,hb⟩:=hb i;have A:=bc e;have B:=bc hb;clear e hb
  go_enter (fx (by decide) b1),b9
  go_wp2
  go_loopw [5] (λv wr=>∃q:Nat,q<=n/\v=.int .i64 q/\Below w.heap.size w wr) (λv _=>n-(intOf v).toNat)
  case atStart=>exact⟨0,bm _,rfl,bd _ _⟩
  case round=>
   obtain⟨q,x,rfl,c⟩:=hrel;by_cases m:q<n
   ·have y:(q:Int)<n:=by omega
    have a0:wr.cell? ⟨k,o+q*5,none⟩=some (.int .i64 (f (q*5))):=(c.cell (p:=⟨k,o+q*5,none⟩) g).trans ((by have:=A.out (q*5) (by omega);simpa using this));have a1:wr.cell? ⟨k,o+q*5+1,none⟩=some (.int .i64 (f (q*5+1))):=(c.cell (p:=⟨k,o+q*5+1,none⟩) g).trans ((by have:=A.out (q*5+1) (by omega);rwa[<-bo]at this));have a2:wr.cell? ⟨k,o+q*5+2,none⟩=some (.int .i64 (f (q*5+2))):=(c.cell (p:=⟨k,o+q*5+2,none⟩) g).trans ((by have:=A.out (q*5+2) (by omega);rwa[<-bo]at this));have a3:wr.cell? ⟨k,o+q*5+3,none⟩=some (.int .i64 (f (q*5+3))):=(c.cell (p:=⟨k,o+q*5+3,none⟩) g).trans ((by have:=A.out (q*5+3) (by omega);rwa[<-bo]at this));have a4:wr.cell? ⟨k,o+q*5+4,none⟩=some (.int .i64 (f (q*5+4))):=(c.cell (p:=⟨k,o+q*5+4,none⟩) g).trans ((by have:=A.out (q*5+4) (by omega);rwa[<-bo]at this));have b0:wr.cell? ⟨k',d+q*5,none⟩=some (.int .i64 (f (q*5))):=(c.cell (p:=⟨k',d+q*5,none⟩) h).trans ((by have:=B.out (q*5) (by omega);simpa using this));have z:wr.cell? ⟨k',d+q*5+1,none⟩=some (.int .i64 (f (q*5+1))):=(c.cell (p:=⟨k',d+q*5+1,none⟩) h).trans ((by have:=B.out (q*5+1) (by omega);rwa[<-bo]at this));have C:wr.cell? ⟨k',d+q*5+2,none⟩=some (.int .i64 (f (q*5+2))):=(c.cell (p:=⟨k',d+q*5+2,none⟩) h).trans ((by have:=B.out (q*5+2) (by omega);rwa[<-bo]at this));have D:wr.cell? ⟨k',d+q*5+3,none⟩=some (.int .i64 (f (q*5+3))):=(c.cell (p:=⟨k',d+q*5+3,none⟩) h).trans ((by have:=B.out (q*5+3) (by omega);rwa[<-bo]at this))
    have E:wr.cell? ⟨k',d+q*5+4,none⟩=some (.int .i64 (f (q*5+4))):=(c.cell (p:=⟨k',d+q*5+4,none⟩) h).trans ((by have:=B.out (q*5+4) (by omega);rwa[<-bo]at this))
    go_wp2
    go_quiet (fail)
    go_wp2
    refine⟨⟨q+1,m,by go_num,below_drewN c _⟩,by simp only[intOf];omega⟩
   ·obtain rfl:q=n:=by omega
    go_wp2
    go_ret
    exact⟨rfl,c⟩
def fU(a b:Int)(w:World):Calls PL 24 #[.int .i64 a,.int .i64 b] w (aO (.agg #[.int .i64 a,.int .i64 b]) w):=by
 go_enter (fx (by decide) Tryz.func24),Tryz.ntmps24
 go_wp2
 refine ai (v:=.agg #[.int .i64 a,.int .i64 b]) ?_ rfl ⟨rfl,(bd _ _).alloc (bg _) _⟩;simp[ag,Tryz.results24,go_sem]
structure Lay(w W:World)(l:List (Nat×Obj)):Prop where
 iM:∀p∈l,W.heap[p.1]?=some p.2
 low:Below w.heap.size w W
def Lay.on{w W a:World}{l:List (Nat×Obj)}(h:Lay w W l)(b:Below W.heap.size W a):Lay w a l:=
 ⟨λp c=>(b.block _ (bt (h.iM p c))).trans (h.iM p c),bv h.low b⟩
def Lay.alloc{w W:World}{l:List (Nat×Obj)}(h:Lay w W l)(o:Obj):Lay w (W.alloc o) ((W.heap.size,o)::l):=
 ⟨λp a=>by
   rcases List.mem_cons.1 a with rfl|a
   ·exact au W o
   ·exact(((bd W.heap.size W).alloc (bg _) o).block _ (bt (h.iM p a))).trans (h.iM p a),h.low.alloc h.low.size o⟩
def Lay.nil(w:World):Lay w w []:=⟨λ_ h=>(by cases h),bd _ _⟩
def Lay.set{w W:World}{l:List (Nat×Obj)}(h:Lay w W l){R:Nat}(b:w.heap.size<=R)(hl:∀p∈l,R≠p.1)(o:Nat)(v:Value):Lay w (W.setCell ⟨R,o,none⟩ v) l:=
 ⟨λp a=>by
   have:(W.setCell ⟨R,o,none⟩ v).heap[p.1]?=W.heap[p.1]?:=by simp only[aT,cb,if_neg (hl p a)]
   rw[this];exact h.iM p a,h.low.setCell (p:=⟨R,o,none⟩) b v⟩
def Lay.init{w W:World}{l:List (Nat×Obj)}{p:Nat×Obj}(h:Lay w W (l++[p])):Lay w W l:=⟨λq a=>h.iM q (List.mem_append_left _ a),h.low⟩
def tO{W:World}{k:Nat}{c:Array Value}{t:ab}(h:W.heap[k]?=some (.cells c t)):∀o,W.frozen? ⟨k,o,none⟩=false:=λo=>by simp[aB,h]
def exN:Nat->Nat->Int
 |0,1=>20|0,2=>20|0,3=>0|0,4=>12|0,5=>1|0,6=>1|0,7=>4|0,8=>6|0,9=>2|0,10=>3
 |1,1=>13|1,2=>13|1,3=>5|1,4=>5|1,5=>0|1,6=>2|1,7=>4|1,8=>5|1,9=>3|1,10=>3
 |2,1=>25|2,2=>25|2,3=>-7|2,4=>7|2,5=>1|2,6=>3|2,7=>5|2,8=>5|2,9=>2|2,10=>4
 |_,_=>0
def Vz(a ca lb b:Nat):Nat->iJ
 |0=>{ name:=⟨#[97]⟩,n:=exN 0,lb:=some ⟨a,0,none⟩,ln:=1,lc:=ca,lk:=a,lo:=0,lane:=λ_=>1 }
 |1=>{ name:=⟨#[98]⟩,n:=exN 1,lb:=some ⟨lb,0,none⟩,ln:=1,lc:=b,lk:=lb,lo:=0,lane:=λ_=>2 }
 |_=>{ name:=⟨#[99]⟩,n:=exN 2,lb:=none,ln:=0,lc:=0,lk:=0,lo:=0,lane:=λ_=>0 }
def alj:Nat->Int×Int
 |0=>(5,15)|_=>(10,18)
def zU:Nat->Int×Int×Int
 |0=>(0,1,40)|1=>(1,2,30)|2=>(2,3,30)|_=>(0,3,80)
def alk(d:Int):Nat->ByteArray×Int×Int
 |0=>(⟨#[114,101,100]⟩,0,0)|_=>(⟨#[98,108,117,101]⟩,1,d)
def ir(k2 c k3 c3 a e b f g ca lb h:Nat)(d:Int):CD:=
 { l:=60,p:=4,b2:=some ⟨k2,0,none⟩,k2:=k2,o2:=0,n2:=2,c2:=c,x2:=alj,b3:=some ⟨k3,0,none⟩,k3:=k3,o3:=0,n3:=4,c3:=c3,x3:=zU,
   b4:=some ⟨a,0,none⟩,k4:=a,o4:=0,n4:=3,c4:=e,x4:=Vz g ca lb h,b5:=some ⟨b,0,none⟩,k5:=b,o5:=0,n5:=2,c5:=f,x5:=alk d }
def VB(d:Int)(C:CD):Prop:=∃k2 a k3 c3 b c e f g h lb i,C=ir k2 a k3 c3 b c e f g h lb i d
abbrev bh(n:Int):Value:=.int .i64 n
def vT:List Value:=[bh 5,bh 15,bh 10,bh 18]
def vU:List Value:=[bh 0,bh 1,bh 40,bh 1,bh 2,bh 30,bh 2,bh 3,bh 30,bh 0,bh 3,bh 80]
def rO(a ca lb b:Nat):List Value:=[.string ⟨#[97]⟩,bh 20,bh 20,bh 0,bh 12,bh 1,bh 1,bh 4,bh 6,bh 2,bh 3,.slice (some ⟨a,0,none⟩) 1 ca,.string ⟨#[98]⟩,bh 13,bh 13,bh 5,bh 5,bh 0,bh 2,bh 4,bh 5,bh 3,bh 3,.slice (some ⟨lb,0,none⟩) 1 b,.string ⟨#[99]⟩,bh 25,bh 25,bh (-7),bh 7,bh 1,bh 3,bh 5,bh 5,bh 2,bh 4,.slice none 0 0]
def qB(d:Int):List Value:=[.string ⟨#[114,101,100]⟩,bh 0,bh 0,.string ⟨#[98,108,117,101]⟩,bh 1,bh d]
def Row(W:World)(k:Nat)(l:List Value):Prop:=k<W.heap.size/\∀(j:Nat)v,l[j]?=some v->W.cell? ⟨k,j,none⟩=some v
def Row.of{W:World}{k:Nat}{l:List Value}{c:Array Value}{t:ab}{a:Nat×Nat}(h:W.heap[k]?=some (.cells c t a))(hl:∀(j:Nat)v,l[j]?=some v->c[j]?=some v):Row W k l:=
 ⟨bt h,λj v e=>by simp[aw,h,hl j v e]⟩
def Row.on{W a:World}{k:Nat}{l:List Value}(h:Row W k l)(b:Below W.heap.size W a):Row a k l:=
 ⟨bi h.1 b.size,λj v e=>(b.cell (p:=⟨k,j,none⟩) h.1).trans (h.2 j v e)⟩
def Lay.row{w W:World}{L:List (Nat×Obj)}(h:Lay w W L){k:Nat}{c:Array Value}{t:ab}{l:List Value}(a:(k,Obj.cells c t)∈L)(e:c.toList=l):Row W k l:=
 Row.of (h.iM _ a) λj v hv=>by rw[<-e]at hv;simpa using hv
def Rx{W:World}{k2 p k3 c3 k q m r h ca lb l:Nat}{d:Int}(b:Row W k2 vT)(a:Row W k3 vU)(c:Row W k (rO h ca lb l))(f:Row W m (qB d))(s:Row W h [bh 1])(hb:Row W lb [bh 2]) :
 (ir k2 p k3 c3 k q m r h ca lb l d).At W:=by
 refine⟨bp rfl,bp rfl,bp rfl,bp rfl,b.1,a.1,c.1,f.1,λ_=>rfl,λ_=>rfl,λ_=>rfl,λ_=>rfl,λi hi=>?_,λi hi=>?_,λi hi=>?_,λi hi=>?_,λi hi=>?_,λi hi=>?_,λi hi=>?_,λi hi j o b=>?_,λi hi=>?_,λi hi hl=>?_,λi hi j g=>?_,λi hi=>?_,λi hi=>?_,λi hi=>?_,λi hi=>?_⟩
 ·match i,hi with
  |0,_=>exact b.2 0 _ rfl
  |1,_=>exact b.2 2 _ rfl
 ·match i,hi with
  |0,_=>exact b.2 1 _ rfl
  |1,_=>exact b.2 3 _ rfl
 ·match i,hi with
  |0,_=>exact a.2 0 _ rfl
  |1,_=>exact a.2 3 _ rfl
  |2,_=>exact a.2 6 _ rfl
  |3,_=>exact a.2 9 _ rfl
 ·match i,hi with
  |0,_=>exact a.2 1 _ rfl
  |1,_=>exact a.2 4 _ rfl
  |2,_=>exact a.2 7 _ rfl
  |3,_=>exact a.2 10 _ rfl
 ·match i,hi with
  |0,_=>exact a.2 2 _ rfl
  |1,_=>exact a.2 5 _ rfl
  |2,_=>exact a.2 8 _ rfl
  |3,_=>exact a.2 11 _ rfl
 ·match i,hi with
  |0,_=>exact⟨bp rfl,bp rfl⟩
  |1,_=>exact⟨bp rfl,bp rfl⟩
  |2,_=>exact⟨bp rfl,bp rfl⟩
 ·match i,hi with
  |0,_=>exact c.2 0 _ rfl
  |1,_=>exact c.2 12 _ rfl
  |2,_=>exact c.2 24 _ rfl
 ·have key:∀i,i<3->∀j,1<=j->j<=10->(rO h ca lb l)[i*12+j]?=some (bh (exN i j)):=by
   intro i hi j o b
   match i,j,hi,o,b with
   |0,1,_,_,_|0,2,_,_,_|0,3,_,_,_|0,4,_,_,_|0,5,_,_,_|0,6,_,_,_|0,7,_,_,_|0,8,_,_,_|0,9,_,_,_|0,10,_,_,_=>rfl
   |1,1,_,_,_|1,2,_,_,_|1,3,_,_,_|1,4,_,_,_|1,5,_,_,_|1,6,_,_,_|1,7,_,_,_|1,8,_,_,_|1,9,_,_,_|1,10,_,_,_=>rfl
   |2,1,_,_,_|2,2,_,_,_|2,3,_,_,_|2,4,_,_,_|2,5,_,_,_|2,6,_,_,_|2,7,_,_,_|2,8,_,_,_|2,9,_,_,_|2,10,_,_,_=>rfl
  have e:((ir k2 p k3 c3 k q m r h ca lb l d).x4 i).n j=exN i j:=by
   match i,hi with
   |0,_=>rfl
   |1,_=>rfl
   |2,_=>rfl
  rw[e];show W.cell? ⟨k,0+i*12+j,none⟩=_;rw[bq];exact c.2 _ _ (key i hi j o b)
 ·match i,hi with
  |0,_=>exact c.2 11 _ rfl
  |1,_=>exact c.2 23 _ rfl
  |2,_=>exact c.2 35 _ rfl
 ·match i,hi,hl with
  |0,_,_=>exact⟨rfl,s.1⟩
  |1,_,_=>exact⟨rfl,hb.1⟩
  |2,_,hl=>exact absurd hl (Nat.lt_irrefl 0)
 ·match i,hi,j,g with
  |0,_,0,_=>exact s.2 0 _ rfl
  |1,_,0,_=>exact hb.2 0 _ rfl
  |0,_,j+1,g=>exact absurd g (by simp[ir,Vz])
  |1,_,j+1,g=>exact absurd g (by simp[ir,Vz])
  |2,_,j,g=>exact absurd g (by simp[ir,Vz])
 ·match i,hi with
  |0,_=>exact bp rfl
  |1,_=>exact bp rfl
 ·match i,hi with
  |0,_=>exact f.2 0 _ rfl
  |1,_=>exact f.2 3 _ rfl
 ·match i,hi with
  |0,_=>exact f.2 1 _ rfl
  |1,_=>exact f.2 4 _ rfl
 ·match i,hi with
  |0,_=>exact f.2 2 _ rfl
  |1,_=>exact f.2 5 _ rfl
def EV(w:World):Calls PL 14 #[] w λe w'=>∃k2 X k3 c3 L Y M j q ca lb N,e=.returned (.agg (ir k2 X k3 c3 L Y M j q ca lb N 0).val)/\(Row w' k2 vT/\Row w' k3 vU/\Row w' L (rO q ca lb N)/\Row w' M (qB 0)/\Row w' q [bh 1]/\Row w' lb [bh 2])/\Below w.heap.size w w':=by
 go_enter (fx (by decide) Tryz.func14),Tryz.ntmps14
 go_wp2_with (first|(go_at_call 24;have _:=h;refine(fU _ _ _).mono ?_;rintro e b⟨rfl,a⟩;have i:=bc (((h.out).on a));clear a;have r:=bt (i.out.iM (w.heap.size,.cells #[.int .i64 0,.int .i64 0,.slice none 0 0,.slice none 0 0,.slice none 0 0,.slice none 0 0] 27) (by simp));simp only at r;have O:=tO (i.out.iM (w.heap.size,.cells #[.int .i64 0,.int .i64 0,.slice none 0 0,.slice none 0 0,.slice none 0 0,.slice none 0 0] 27) (by simp));simp only at O;obtain⟨s,u,x,y,f4,z⟩:=bf (i.out.iM (w.heap.size,.cells #[.int .i64 0,.int .i64 0,.slice none 0 0,.slice none 0 0,.slice none 0 0,.slice none 0 0] 27) (by simp));skip)|(go_at_call 24;have _:=A;refine(fU _ _ _).mono ?_;rintro e Z⟨rfl,a⟩;have h:=bc (((A.out).on a));clear a;skip)|(go_at_call 24;have _:=B;refine(fU _ _ _).mono ?_;rintro e w12⟨rfl,a⟩;have A:=bc (((B.out).on a));clear a;skip)|(go_at_call 24;have _:=l;refine(fU _ _ _).mono ?_;rintro e w11⟨rfl,a⟩;have B:=bc ((((l.out).alloc _).on a));clear a;skip)|(go_at_call 24;have _:=C;refine(fU _ _ _).mono ?_;rintro e d⟨rfl,a⟩;have l:=bc (((C.out).on a));clear a;skip)|(go_at_call 24;have _:=D;refine(fU _ _ _).mono ?_;rintro e w9⟨rfl,a⟩;have C:=bc (((D.out).on a));clear a;skip)|(go_at_call 24;have _:=E;refine(fU _ _ _).mono ?_;rintro e w8⟨rfl,a⟩;have D:=bc (((E.out).on a));clear a;skip)|(go_at_call 24;have _:=m;refine(fU _ _ _).mono ?_;rintro e w7⟨rfl,a⟩;have E:=bc ((((m.out).alloc _).on a));clear a;skip)|(go_at_call 24;have _:=F;refine(fU _ _ _).mono ?_;rintro e w6⟨rfl,a⟩;have m:=bc (((F.out).on a));clear a;skip)|(go_at_call 24;have _:=H;refine(fU _ _ _).mono ?_;rintro e w5⟨rfl,a⟩;have F:=bc (((H.out).on a));clear a;skip)|(go_at_call 24;have _:=I;refine(fU _ _ _).mono ?_;rintro e w4⟨rfl,a⟩;have H:=bc (((I.out).on a));clear a;skip)|(go_at_call 24;have _:=n;refine(fU _ _ _).mono ?_;rintro e w3⟨rfl,a⟩;have I:=bc (((((n.out).alloc _).alloc _).on a));clear a;skip)|(go_at_call 24;have _:=J;refine(fU _ _ _).mono ?_;rintro e w2⟨rfl,a⟩;have n:=bc (((J.out).on a));clear a;skip)|(go_at_call 24;refine(fU _ _ _).mono ?_;rintro e w1⟨rfl,a⟩;have J:=bc ((((Lay.nil w).alloc _).on a));clear a;skip))
 obtain⟨W,k⟩:∃W:World,W=((((((b.setCell ⟨w.heap.size,0,none⟩ (.int .i64 60)).setCell ⟨w.heap.size,1,none⟩ (.int .i64 4)).setCell ⟨w.heap.size,2,none⟩ (.slice (some ⟨w2.heap.size,0,none⟩) 2 2)).setCell ⟨w.heap.size,3,none⟩ (.slice (some ⟨w2.heap.size+1,0,none⟩) 4 4)).setCell ⟨w.heap.size,4,none⟩ (.slice (some ⟨b.heap.size,0,none⟩) 3 3)).setCell ⟨w.heap.size,5,none⟩ (.slice (some ⟨b.heap.size+1,0,none⟩) 2 2)):=⟨_,rfl⟩
 have z2:w.heap.size<w2.heap.size:=bt (n.out.iM (w.heap.size,.cells #[.int .i64 0,.int .i64 0,.slice none 0 0,.slice none 0 0,.slice none 0 0,.slice none 0 0] 27) (by simp));have z6:w.heap.size<w6.heap.size:=bt (m.out.iM (w.heap.size,.cells #[.int .i64 0,.int .i64 0,.slice none 0 0,.slice none 0 0,.slice none 0 0,.slice none 0 0] 27) (by simp));have UZ:w.heap.size<d.heap.size:=bt (l.out.iM (w.heap.size,.cells #[.int .i64 0,.int .i64 0,.slice none 0 0,.slice none 0 0,.slice none 0 0,.slice none 0 0] 27) (by simp));have j:W.heap.size=b.heap.size:=by rw[k];simp only[World.size_setCell]
 have o:W.heap[w.heap.size]?=some (.cells #[.int .i64 60,.int .i64 4,.slice (some ⟨w2.heap.size,0,none⟩) 2 2,.slice (some ⟨w2.heap.size+1,0,none⟩) 4 4,.slice (some ⟨b.heap.size,0,none⟩) 3 3,.slice (some ⟨b.heap.size+1,0,none⟩) 2 2] 27):=by
  have g:=i.out.iM (w.heap.size,.cells #[.int .i64 0,.int .i64 0,.slice none 0 0,.slice none 0 0,.slice none 0 0,.slice none 0 0] 27) (by simp);simp only at g;rw[k];simp[aT,cb,g]
 have LW:Lay w W [(d.heap.size,.cells #[.int .i64 2] 3),(w6.heap.size,.cells #[.int .i64 1] 3),(w2.heap.size+1,.cells (cc .i64 0::cc .i64 1::cc .i64 40::cc .i64 1::cc .i64 2::cc .i64 30::cc .i64 2::cc .i64 3::cc .i64 30::cc .i64 0::cc .i64 3::cc .i64 80::[]).toArray 92),(w2.heap.size,.cells #[.int .i64 5,.int .i64 15,.int .i64 10,.int .i64 18] 48)]:=by
  have hl:∀p∈[(d.heap.size,Obj.cells #[.int .i64 2] 3),(w6.heap.size,.cells #[.int .i64 1] 3),(w2.heap.size+1,.cells (cc .i64 0::cc .i64 1::cc .i64 40::cc .i64 1::cc .i64 2::cc .i64 30::cc .i64 2::cc .i64 3::cc .i64 30::cc .i64 0::cc .i64 3::cc .i64 80::[]).toArray 92),(w2.heap.size,.cells #[.int .i64 5,.int .i64 15,.int .i64 10,.int .i64 18] 48)],w.heap.size≠p.1:=by
   intro p P;simp only[cg,ch,or_false]at P
   rcases P with rfl|rfl|rfl|rfl<;>simp only<;>omega
  rw[k];have K:=i.out;simp only[aI]at K;exact((((((Lay.init (p:=(w.heap.size,.cells #[.int .i64 0,.int .i64 0,.slice none 0 0,.slice none 0 0,.slice none 0 0,.slice none 0 0] 27)) K).set (bg _) hl 0 _).set (bg _) hl 1 _).set (bg _) hl 2 _).set (bg _) hl 3 _).set (bg _) hl 4 _).set (bg _) hl 5 _
 rw[<-k];clear k i h A B l C D E m F H I n J s u x y f4 z O;rw[<-j];rw[<-j]at o;have f:Lay w ((W.alloc (.cells (cd ⟨#[97]⟩::cc .i64 20::cc .i64 20::cc .i64 0::cc .i64 12::cc .i64 1::cc .i64 1::cc .i64 4::cc .i64 6::cc .i64 2::cc .i64 3::ce (some ⟨w6.heap.size,0,none⟩) 1 1::cd ⟨#[98]⟩::cc .i64 13::cc .i64 13::cc .i64 5::cc .i64 5::cc .i64 0::cc .i64 2::cc .i64 4::cc .i64 5::cc .i64 3::cc .i64 3::ce (some ⟨d.heap.size,0,none⟩) 1 1::cd ⟨#[99]⟩::cc .i64 25::cc .i64 25::cc .i64 (-7)::cc .i64 7::cc .i64 1::cc .i64 3::cc .i64 5::cc .i64 5::cc .i64 2::cc .i64 4::ce none 0 0::[]).toArray 85)).alloc (.cells #[cd ⟨#[114,101,100]⟩,cc .i64 0,cc .i64 0,cd ⟨#[98,108,117,101]⟩,cc .i64 1,cc .i64 0] 87)) _:=(LW.alloc (.cells (cd ⟨#[97]⟩::cc .i64 20::cc .i64 20::cc .i64 0::cc .i64 12::cc .i64 1::cc .i64 1::cc .i64 4::cc .i64 6::cc .i64 2::cc .i64 3::ce (some ⟨w6.heap.size,0,none⟩) 1 1::cd ⟨#[98]⟩::cc .i64 13::cc .i64 13::cc .i64 5::cc .i64 5::cc .i64 0::cc .i64 2::cc .i64 4::cc .i64 5::cc .i64 3::cc .i64 3::ce (some ⟨d.heap.size,0,none⟩) 1 1::cd ⟨#[99]⟩::cc .i64 25::cc .i64 25::cc .i64 (-7)::cc .i64 7::cc .i64 1::cc .i64 3::cc .i64 5::cc .i64 5::cc .i64 2::cc .i64 4::ce none 0 0::[]).toArray 85)).alloc (.cells #[cd ⟨#[114,101,100]⟩,cc .i64 0,cc .i64 0,cd ⟨#[98,108,117,101]⟩,cc .i64 1,cc .i64 0] 87)
 have Q:Row _ w2.heap.size vT:=f.row (c:=#[cc .i64 5,cc .i64 15,cc .i64 10,cc .i64 18]) (t:=48) (by simp) rfl;have R:Row _ (w2.heap.size+1) vU:=f.row (c:=(cc .i64 0::cc .i64 1::cc .i64 40::cc .i64 1::cc .i64 2::cc .i64 30::cc .i64 2::cc .i64 3::cc .i64 30::cc .i64 0::cc .i64 3::cc .i64 80::[]).toArray) (t:=92) (by simp) rfl;have S:Row _ w6.heap.size [bh 1]:=f.row (c:=#[cc .i64 1]) (t:=3) (by simp) rfl;have T:Row _ d.heap.size [bh 2]:=f.row (c:=#[cc .i64 2]) (t:=3) (by simp) rfl;have U:Row _ W.heap.size (rO w6.heap.size 1 d.heap.size 1):=f.row (c:=(cd ⟨#[97]⟩::cc .i64 20::cc .i64 20::cc .i64 0::cc .i64 12::cc .i64 1::cc .i64 1::cc .i64 4::cc .i64 6::cc .i64 2::cc .i64 3::ce (some ⟨w6.heap.size,0,none⟩) 1 1::cd ⟨#[98]⟩::cc .i64 13::cc .i64 13::cc .i64 5::cc .i64 5::cc .i64 0::cc .i64 2::cc .i64 4::cc .i64 5::cc .i64 3::cc .i64 3::ce (some ⟨d.heap.size,0,none⟩) 1 1::cd ⟨#[99]⟩::cc .i64 25::cc .i64 25::cc .i64 (-7)::cc .i64 7::cc .i64 1::cc .i64 3::cc .i64 5::cc .i64 5::cc .i64 2::cc .i64 4::ce none 0 0::[]).toArray) (t:=85) (by simp) rfl;have V:Row _ (W.heap.size+1) (qB 0):=f.row (c:=#[cd ⟨#[114,101,100]⟩,cc .i64 0,cc .i64 0,cd ⟨#[98,108,117,101]⟩,cc .i64 1,cc .i64 0]) (t:=87) (by simp) rfl
 obtain⟨s,u,x,y,f4,z⟩:=bf o;have low:=f.low;have r:w.heap.size<W.heap.size:=bt o;clear LW f o j;refine ai (v:=.agg (ir w2.heap.size 2 (w2.heap.size+1) 4 W.heap.size 3 (W.heap.size+1) 2 w6.heap.size 1 d.heap.size 1 0).val) ?_ rfl ⟨_,_,_,_,_,_,_,_,_,_,_,_,rfl,⟨Q,R,U,V,S,T⟩,low⟩;clear Q R U V S T low;simp[ag,Tryz.results14,go_sem,s,u,x,y,f4,z,r,ir]
def Np(a:Int)(w:World):Calls PL 109 #[.int .i64 a] w λe w'=>e=.returned (.bool false)/\w=w':=by
 go_enter (fx (by decide) Tryz.func109),Tryz.ntmps109
 go_wp2
 go_ret
 exact⟨rfl,rfl⟩
def Ip(a b:Int):Int:=if a<b then -1 else if b<a then 1 else 0
def Kw(a b:Int)(w:World):Calls PL 77 #[.int .i64 a,.int .i64 b] w λe w'=>e=.returned (.int .i64 (Ip a b))/\w=w':=by
 go_enter (fx (by decide) Tryz.func77),Tryz.ntmps77
 go_wp2_with (go_at_call 109;refine(Np _ _).mono ?_;rintro e w'⟨rfl,rfl⟩)
 all_goals (go_ret;refine⟨aC ?_,rfl⟩;simp only[Ip];split<;>(try split)<;>omega)
def EW(f g:Nat->Int)(n m:Nat):Nat->Nat->Int
 |0,_=>if n<m then -1 else 0
 |k+1,q=>if m<=q then 1 else if Ip (f q) (g q)≠0 then Ip (f q) (g q) else EW f g n m k (q+1)
def aaE(f g:Nat->Int)(n m:Nat):Int:=EW f g n m n 0
def EX(a b:Value)(n m:Nat)(f g:Nat->Int)(w:World)(h:Reads w a n 1 λj=>.int .i64 (f j))(hb:Reads w b m 1 λj=>.int .i64 (g j))(y:n<=20)(z:m<=20) :
 Calls PL 55 #[a,b] w λe w'=>e=.returned (.int .i64 (aaE f g n m))/\w=w':=by
 obtain⟨C,D,rfl,h⟩:=h;obtain⟨F,H,rfl,hb⟩:=hb;have A:=bc h;have B:=bc hb;clear h hb
 go_enter (fx (by decide) Tryz.func55),Tryz.ntmps55
 go_wp2
 go_loop [11] (λv=>∃q:Nat,q<=n/\v=.int .i64 q/\aaE f g n m=EW f g n m (n-q) q) (λv=>n-(intOf v).toNat)
 case atStart=>exact⟨0,bm _,rfl,rfl⟩
 case round=>
  obtain⟨q,I,rfl,i⟩:=hrel;by_cases r:q<n
  ·have E:=bc i;clear i;obtain⟨k,o,rfl,J,hc⟩:=A.out (by omega);have a0:w.cell? ⟨k,o+q,none⟩=some (.int .i64 (f q)):=hc q (by omega);clear hc;have l:(q:Int)<n:=by omega
   have es:n-q=(n-(q+1))+1:=by omega
   by_cases s:q<m
   ·obtain⟨k',t,rfl,K,d⟩:=B.out (by omega);have b0:w.cell? ⟨k',t+q,none⟩=some (.int .i64 (g q)):=d q (by omega);clear d;have u:(q:Int)<m:=by omega
    by_cases c:Ip (f q) (g q)=0
    ·have x:(Ip (f q) (g q) != 0)=false:=by simp[c]
     have Z:=bc c;clear c
     go_wp2_with (go_at_call 77;refine(Kw _ _ _).mono ?_;rintro e w'⟨rfl,rfl⟩)
     refine⟨⟨q+1,r,by go_num,?_⟩,by simp only[intOf];omega⟩;rw[E.out,es,EW,if_neg (by omega),if_neg (by simp[Z.out])]
    ·have x:(Ip (f q) (g q) != 0)=true:=by simp[c]
     have Z:=bc c;clear c
     go_wp2_with (go_at_call 77;refine(Kw _ _ _).mono ?_;rintro e w'⟨rfl,rfl⟩)
     go_ret
     refine⟨aC ?_,rfl⟩;rw[E.out,es,EW,if_neg (by omega),if_pos Z.out]
   ·have u:(m:Int)<=q:=by omega
    go_wp2
    go_ret
    refine⟨aC ?_,rfl⟩;rw[E.out,es,EW,if_pos (by omega)]
  ·obtain rfl:q=n:=by omega
   have E:=bc i;clear i;by_cases p:q<m
   ·have l:(q:Int)<m:=by omega
    go_wp2
    go_ret
    refine⟨aC ?_,rfl⟩;rw[E.out,br,EW,if_pos p]
   ·have l:(m:Int)<=q:=by omega
    go_wp2
    go_ret
    refine⟨aC ?_,rfl⟩;rw[E.out,br,EW,if_neg p]
def bB(W:World)(v:Value)(l:List Int):Prop:=Reads W v l.length 1 λj=>.int .i64 (l.getD j 0)
def tw(W:World)(base:Nat)(v:Value)(l:List Int):Prop:=W.ownsRow base 3 1 v l.length (l.map λx=>.int .i64 x)
def tw.reads{W:World}{base:Nat}{v:Value}{l:List Int}(h:tw W base v l):bB W v l:=by
 obtain⟨_,h⟩:=h
 rcases h with⟨rfl,a⟩|⟨g,cap,b,rfl,hb,hg,hc,d,hs,c⟩
 ·exact⟨none,0,by rw[a],λh=>by omega⟩
 ·refine⟨_,_,rfl,λa=>⟨g,0,rfl,bt hg,λj f=>?_⟩⟩;have e:(l.map λx=>cc .i64 x)[j]?=some (.int .i64 (l.getD j 0)):=by
   rw[ci,cl (by omega)];simp[cm,cl (show j<l.length by omega)]
  rw[<-c,co (by omega)]at e;simp only[aw,hg,bq];simpa using e
def bB.on{W a:World}{v:Value}{l:List Int}(h:bB W v l)(b:Below W.heap.size W a):bB a v l:=Reads.on h b
def Rz:PL.underlying 31=some (.slice 3):=by kernel_rfl
def RE:(PL.info? 3).map (λi=>(i.zero,i.size,i.bytes))=some (some (.int .i64 0),1,8):=by kernel_rfl
def afG(l m:List Int):Int:=aaE (λj=>l.getD j 0) (λj=>m.getD j 0) l.length m.length
def RF{l m:List Int}{a b:Value}{w:World}(c:bB w a l)(hb:bB w b m)(d:l.length<=20)(f:m.length<=20):Calls PL 55 #[a,b] w λe w'=>e=.returned (.int .i64 (afG l m))/\w=w':=
 EX a b _ _ _ _ w c hb d f
def tw.alloc{W:World}{base:Nat}{v:Value}{l:List Int}(h:tw W base v l)(o:Obj):tw (W.alloc o) base v l:=World.ownsRow.alloc h o
def cZ{W:World}{base e size n:Nat}{v:Value}{xs:List Value}(h:W.ownsRow base e size v n xs):∀k,v.ownBlock=some k->base<=k:=by
 intro k a;obtain⟨_,⟨rfl,_⟩|⟨g,cap,b,rfl,hb,_⟩⟩:=h
 ·cases a
 ·cases a;exact hb
def EY{ops:Array Oper}{rest:List Oper}{o:Oper}{a:Act}{Q:Exit->Act->World->Prop}{w:World}(f:o.guard=none)(s x:ao)
 (g:o.op=.call { callee:=.builtin .append,args:=#[s,x],argTypes:=#[31,31] }) (base:Nat) (v:Value) (l:List Int) (j:Int) (b:Nat) (hs:a.eval s=v) (c:tw w base v l)
 (i:a.eval x=.slice (some ⟨b,0,none⟩) 1 1) (hc:w.cell? ⟨b,0,none⟩=some (.int .i64 j)) (hl:l.length<=1000) (d:base<=w.heap.size)
 (h:∀v' w',tw w' base v' (l++[j])->Below base w w'->ap PL ops Q rest (a.put o.dst v') w'):ap PL ops Q (o::rest) a w:=by
 obtain⟨m,hi,n,p,q⟩:=info_parts RE;refine aq _ f s x 31 g base 3 m (.int .i64 0) 1 8 Rz hi n p q rfl (by decide) v l.length _ hs c ⟨b,0,none⟩ 1 1 [.int .i64 j] i rfl (λk u e=>?_) (by simp[cf]) (by simp only[maxLen];omega) (by omega) d λv' w' r t _=>?_
 ·match k,e with
  |0,e=>cases e;exact hc
 ·refine h v' w' ?_ ((bd base w).grown t d (cZ c));unfold tw;rw[cp,cq];exact r
def zV(s j:Nat):Bool:=s / 2 ^ j % 2==1
def pJ(s:Nat):Nat->List Int
 |0=>[]
 |j+1=>if zV s j then pJ s j++[(j:Int)] else pJ s j
def qj(s:Nat):∀j,(pJ s j).length<=j
 |0=>bg _
 |j+1=>by
  have:=qj s j;rw[pJ]
  split
  ·simp;omega
  ·omega
def Iq(C:CD)(s i:Nat):Bool:=zV s (C.x3 i).1.toNat||zV s (C.x3 i).2.1.toNat
def RG(C:CD)(s:Nat):Bool:=(ct C.n3).all (Iq C s)
def AW(l b:List Int):Bool:=decide (b.length<l.length)||(decide (l.length=b.length)&&decide (0<afG l b))
def kT(C:CD)(p:Nat)(a:Option (List Int))(s:Nat):Option (List Int):=
 if a.any (AW (pJ s p)) then a else if RG C s then some (pJ s p) else a
def qC(C:CD)(p:Nat):Nat->Option (List Int)
 |0=>none
 |q+1=>kT C p (qC C p q) q
def E3(C:CD)(p:Nat):∀q,((qC C p q).getD []).length<=p
 |0=>bm _
 |q+1=>by
  have:=E3 C p q;rw[qC,kT]
  split
  ·exact this
  ·split
   ·exact qj q p
   ·exact this
def RH{p:Nat}(h:p<=6):wrap64 ((2:Int) ^ p)=((2 ^ p:Nat):Int):=by
 match p,h with
 |0,_|1,_|2,_|3,_|4,_|5,_|6,_=>decide +kernel
def VE:((ct 64).all λq=>(ct 6).all λj=>bits BinOp.and IntKind.i64 ((q:Int) / 2 ^ j) 1==(if zV q j then 1 else 0))=true:=by decide +kernel
def Cq(q:Nat)(a:q<64)(j:Nat)(b:j<6):bits BinOp.and IntKind.i64 ((q:Int) / 2 ^ j) 1=if zV q j then 1 else 0:=by
 have:=VE;simp only[cv,cB,beq_iff_eq]at this;exact this q a j b
def aaF{C:CD}{p:Nat}(hc:C.cx=0)(f:C.p=p){i:Nat}(hi:i<C.n3):∃a b:Nat,(C.x3 i).1=a/\(C.x3 i).2.1=b/\a<p/\b<p:=by
 have c:kz C.p C.n3 C.x3=0:=ck hc 2 (by omega);unfold kz at c
 split at c
 ·cases c
 have d:=ck c i hi;unfold fQ at d
 split at d
 case isFalse=>cases d
 rename_i e;simp only[bO,aa,decide_eq_true_eq]at e;exact⟨(C.x3 i).1.toNat,(C.x3 i).2.1.toNat,by omega,by omega,by omega,by omega⟩
def anL:Value->Prop
 |.slice _ n c=>n<=c
 |_=>True
def aam(W:World)(v:Value)(l:List Int):Prop:=bB W v l/\anL v
def aam.on{W a:World}{v:Value}{l:List Int}(h:aam W v l)(b:Below W.heap.size W a):aam a v l:=⟨h.1.on b,h.2⟩
def tw.alg{W:World}{base:Nat}{v:Value}{l:List Int}(h:tw W base v l):aam W v l:=by
 refine⟨h.reads,?_⟩;obtain⟨_,h⟩:=h
 rcases h with⟨rfl,b⟩|⟨g,cap,a,rfl,hb,hg,hc,c,hs,d⟩
 ·exact bg 0
 ·exact hc
def abQ(C:CD)(w:World)(h:C.At w)(hc:C.cx=0):Calls PL 23 #[.agg C.val] w λe w'=>∃v,e=.returned (.tuple #[v,.int .i64 0])/\aam w' v ((qC C C.p.toNat (2 ^ C.p.toNat)).getD [])/\Below w.heap.size w w':=by
 have HA:=bc h;have K0:Hid (KB C w (w.alloc (.cells C.val 27))):=bc ⟨au _ _,(bd _ _).alloc (bg _) _⟩;obtain⟨p,hp⟩:∃p:Nat,C.p=p:=⟨C.p.toNat,by have:=cK (ck hc 0 (by omega));omega⟩
 have m:p<=6:=by have:=cK (ck hc 0 (by omega));omega
 have HC:=bc hc;have Y:=bc hp;clear h hc hp
 go_enter (fx (by decide) Tryz.func23),Tryz.ntmps23
 go_wp2
 go_step3
 go_wp2_with (go_at_call 29;refine(sY HC.out (HA.out.below K0.out.low)).mono ?_;rintro e w1⟨rfl,aL⟩;have K1:=bc (K0.out.on aL);clear aL;have hz:=K1.out.lt;obtain⟨M,t,O,H,f4,P⟩:=bf K1.out.box)
 go_step3
 rw[Y.out]at t;have q0:(0:Int)<=p:=by omega
 have q1:(p:Int)<=6:=by omega
 have hN:=RH m;obtain⟨N,o⟩:∃N:Nat,N=2 ^ p:=⟨_,rfl⟩
 rw[<-o]at hN;have as5:N<=64:=by rw[o];exact Nat.pow_le_pow_right (n:=2) (by omega) m
 have HN:=bc o;clear o
 go_upto_region 7 with fail
 rw[hN];clear hN;clear M t O H f4 P
 go_loopw [5,6,20] (λv5 v6 u wr=>∃q:Nat,q<=N/\u=.int .i64 q/\v6=.bool (qC C p q).isSome/\aam wr v5 ((qC C p q).getD [])/\KB C w wr) (λ_ _ u _=>N-(intOf u).toNat)
 case atStart=>exact⟨0,bm _,rfl,rfl,⟨⟨none,0,rfl,λh=>absurd h (by simp[qC])⟩,bg 0⟩,K1.out⟩
 case round=>
  obtain⟨q,hq,rfl,rfl,I,hK⟩:=hrel;obtain⟨Z,Kx⟩:∃b,b=qC C p q:=⟨_,rfl⟩
  have hbl:(Z.getD []).length<=6:=by rw[Kx];exact bs (E3 C p q) m
  rw[<-Kx]at I ⊢;have x:=bc Kx;have HR:=bc I;have HK:=bc hK;clear Kx I hK;by_cases aH:q<N
  ·have i2:(q:Int)<N:=by omega
   have hz:=HK.out.lt;obtain⟨M,t,O,H,f4,P⟩:=bf HK.out.box;rw[Y.out]at t;obtain⟨Wq,rfl⟩:∃W:World,W=wr:=⟨_,rfl⟩
   go_upto_region 11 with fail
   go_loopw [8,25] (λv8 y wr=>∃j:Nat,j<=p/\y=.int .i64 j/\tw wr Wq.heap.size v8 (pJ q j)/\Below Wq.heap.size Wq wr) (λ_ y _=>p-(intOf y).toNat)
   case atStart=>exact⟨0,bm _,rfl,⟨rfl,.inl ⟨rfl,rfl⟩⟩,bd _ _⟩
   case round=>
    obtain⟨j,hj,rfl,hO,g⟩:=hrel;have HO:=bc hO;have Q:=bc g;clear hO g M t O H f4 P;by_cases R:j<p
    ·have i3:(j:Int)<p:=by omega
     have i4:¬((j:Int)<0):=by omega
     have RI:=Cq q (by omega) j (by omega);by_cases J:zV q j=true
     ·rw[if_pos J]at RI;have z:=bc J;clear J;have Tl:=qj q j;have fW:=Q.out.size
      go_wp2_with (at_builtin;(refine EY rfl _ _ rfl Wq.heap.size _ _ j wr.heap.size rfl (HO.out.alloc _) rfl (ar _ _ _ 0 _ rfl) (by omega) (by simp;omega) ?_;intro v' w2 fO S))
      refine⟨⟨j+1,R,by go_num,?_,(Q.out.alloc fW _).trans S⟩,by simp only[intOf];omega⟩;rw[pJ,if_pos z.out];exact fO
     ·rw[if_neg J]at RI;have z:=bc (aV J);clear J
      go_wp2
      refine⟨⟨j+1,R,by go_num,?_,Q.out⟩,by simp only[intOf];omega⟩;rw[pJ,if_neg (by simp[z.out])];exact HO.out
    ·obtain rfl:j=p:=by omega
     have T:=HR.out.on (Q.out);have U:=HO.out.alg;have Tl:(pJ q j).length<=6:=bs (qj q j) m;have r:=bc (HK.out.on Q.out);have RB:=bc T;have RL:=bc U;obtain⟨⟨b5,c5,e5,_⟩,_⟩:=T;obtain⟨⟨b8,c8,e8,_⟩,_⟩:=U;subst e5 e8;obtain⟨l,hl⟩:∃l,l=pJ q j:=⟨_,rfl⟩
     rw[<-hl]at Tl RL ⊢;have d:=bc hl;clear hl;clear HO;obtain⟨V,rfl⟩:∃W:World,W=wr:=⟨_,rfl⟩
     go_upto_region 16 with fail
     go_cut [58] from 38 to 57 (fun(v58:Value)(wx:World)=>v58=.bool (Z.any (AW l))/\wx=V)
     case first=>
      cases Z with
      |none=>
       go_wp2_with fail
       go_meet
       case rel=>exact⟨rfl,rfl⟩
      |some b=>
       have as7:b.length<=6:=hbl;have RB':Hid (bB V (.slice b5 b.length c5) b):=bc RB.out.1;by_cases h1:b.length<l.length
       ·have i4:(b.length:Int)<l.length:=by omega
        go_wp2_with fail
        go_meet
        case rel=>exact⟨by simp[AW,h1],rfl⟩
       ·have i4:¬(b.length:Int)<l.length:=by omega
        by_cases h2:l.length=b.length
        ·have i5:(l.length:Int)=b.length:=by omega
         have i6:((l.length:Int)==b.length)=true:=by simp[h2]
         have H2:=bc h2;clear i5 h2 h1
         go_wp2_with (go_at_call 55;refine(RF RL.out.1 RB'.out (by omega) (by omega)).mono ?_;rintro e w'⟨rfl,rfl⟩)
         go_meet
         case rel=>exact⟨by simp[AW,H2.out],rfl⟩
        ·have i6:((l.length:Int)==b.length)=false:=by simp;omega
         go_wp2_with fail
         go_meet
         case rel=>exact⟨by simp[AW,h2,h1],rfl⟩
     case rest=>
      obtain⟨rfl,rfl⟩:=hcut;obtain⟨V,rfl⟩:∃W:World,W=wc:=⟨_,rfl⟩
      have hz:=r.out.lt;obtain⟨M,t,O,H,f4,P⟩:=bf r.out.box;by_cases K:Z.any (AW l)=true
      ·rw[K]
       go_wp2
       refine⟨⟨q+1,aH,by go_num,?_,?_,r.out⟩,by simp only[intOf];omega⟩
       ·rw[qC,kT,<-x.out,<-d.out,if_pos K]
       ·rw[qC,kT,<-x.out,<-d.out,if_pos K];exact RB.out
      ·rw[aV K];have s:=bc K;clear K;obtain⟨bb,iC⟩:∃bb,bb=C.b3:=⟨_,rfl⟩
       rw[<-iC]at H;have alo:=bc iC;clear iC
       go_upto_region 18 with fail
       go_loopw [62] (λA wr=>∃i:Nat,i<=C.n3/\A=.int .i64 i/\(∀k,k<i->Iq C q k=true)/\Below V.heap.size V wr) (λA _=>C.n3-(intOf A).toNat)
       case atStart=>exact⟨0,bm _,rfl,λk B=>absurd B (Nat.not_lt_zero _),bd _ _⟩
       case round=>
        obtain⟨i,hi,rfl,X,g⟩:=hrel;have D:=bc X;clear X M t O H f4 P;have E:=bc (r.out.on g);have m3:C.n3<=20:=HA.out.m3;by_cases c:i<C.n3
        ·have i7:(i:Int)<C.n3:=by omega
         have hA:=HA.out.below E.out.low;have e3:=alo.out.trans (hA.s3 (by omega));have k0:=hA.Es i c;have k1:=hA.Et i c;have k2:=hA.Eu i c;have hk3:=hA.h3;clear hA;obtain⟨a,b,ea,eb,D8,NU⟩:=aaF HC.out Y.out c;have F:Hid (Iq C q i=(zV q a||zV q b)):=bc (by rw[Iq,ea,eb];rfl);rw[ea]at k0;rw[eb]at k1;subst e3;clear ea eb;have lq:=Cq q (by omega) a (by omega);have S:=Cq q (by omega) b (by omega);by_cases L:zV q a=true
         ·rw[if_pos L]at lq;have hc:=bc (F.out.trans (by rw[L];rfl):Iq C q i=true);clear L S
          go_wp2
          refine⟨⟨i+1,c,by go_num,λk B=>?_,(g.alloc g.size _)⟩,by simp only[intOf];omega⟩
          rcases Nat.lt_succ_iff_lt_or_eq.1 B with h|h
          ·exact D.out k h
          ·rw[h];exact hc.out
         ·rw[if_neg L]at lq;have ha':=aV L;clear L;by_cases hb:zV q b=true
          ·rw[if_pos hb]at S;have hc:=bc (F.out.trans (by rw[ha',hb];rfl):Iq C q i=true);clear ha' hb
           go_wp2
           refine⟨⟨i+1,c,by go_num,λk B=>?_,(g.alloc g.size _)⟩,by simp only[intOf];omega⟩
           rcases Nat.lt_succ_iff_lt_or_eq.1 B with h|h
           ·exact D.out k h
           ·rw[h];exact hc.out
          ·rw[if_neg hb]at S;have hc:=bc (F.out.trans (by rw[ha',aV hb];rfl):Iq C q i=false)
           have f:Hid (RG C q=false):=bc (by
            rw[RG,List.all_eq_false]
            exact⟨i,List.mem_range.2 c,by simp[hc.out]⟩)
           clear ha' hb
           go_wp2
           refine⟨⟨q+1,aH,by go_num,?_,?_,E.out.alloc _⟩,by simp only[intOf];omega⟩
           ·rw[qC,kT,<-x.out,<-d.out,if_neg s.out,if_neg (by simp[f.out])]
           ·rw[qC,kT,<-x.out,<-d.out,if_neg s.out,if_neg (by simp[f.out])];exact(RB.out.on g).on ((bd _ _).alloc (bg _) _)
        ·obtain rfl:i=C.n3:=by omega
         have f:Hid (RG C q=true):=bc (by
          rw[RG,cv]
          exact λk B=>D.out k (List.mem_range.1 B))
         go_wp2
         refine⟨⟨q+1,aH,by go_num,?_,?_,E.out⟩,by simp only[intOf];omega⟩
         ·rw[qC,kT,<-x.out,<-d.out,if_neg s.out,if_pos f.out];rfl
         ·rw[qC,kT,<-x.out,<-d.out,if_neg s.out,if_pos f.out];exact RL.out.on g
  ·obtain rfl:q=N:=by omega
   have I:=HR.out;have fin:aam wr u5 ((qC C C.p.toNat (2 ^ C.p.toNat)).getD []):=by
    have e:C.p.toNat=p:=by rw[Y.out];rfl
    rw[e,<-HN.out,<-x.out];exact I
   have FIN:=bc fin;clear fin I
   go_wp2
   rw[Exit.noGoto_ret];refine ai (v:=.tuple #[u5,.int .i64 0]) ?_ rfl ⟨_,rfl,FIN.out,HK.out.low⟩;simp[ag,Tryz.results23,go_sem]
def Cr(C:CD)(w:World)(h:C.At w)(hc:C.cx=0):Calls PL 23 #[.agg C.val] w λe w'=>∃v,e=.returned (.tuple #[v,.int .i64 0])/\bB w' v ((qC C C.p.toNat (2 ^ C.p.toNat)).getD [])/\Below w.heap.size w w':=
 (abQ C w h hc).mono λ_ _⟨v,e,a,b⟩=>⟨v,e,a.1,b⟩
def E7(a0 a1 a2 a3 a4 a:Value)(W:World):(c9 78 (.agg #[a0,a1,a2,a3,a4,a]) 0).run PL W=.ok (.agg #[a0,a1,a2,a3,a4,a]) W:=by kernel_rfl
def Ky(a0 a1 a2 a3 a4 a:Value)(W:World):(c9 27 (.agg #[a0,a1,a2,a3,a4,a]) 0).run PL W=.ok (a0) W:=by kernel_rfl
def Kz(a0 a1 a2 a3 a4 a:Value)(W:World):(c9 27 (.agg #[a0,a1,a2,a3,a4,a]) 1).run PL W=.ok (a1) W:=by kernel_rfl
def KC(a0 a1 a2 a3 a4 a:Value)(W:World):(c9 27 (.agg #[a0,a1,a2,a3,a4,a]) 2).run PL W=.ok (a2) W:=by kernel_rfl
def KF(a0 a1 a2 a3 a4 a:Value)(W:World):(c9 27 (.agg #[a0,a1,a2,a3,a4,a]) 3).run PL W=.ok (a3) W:=by kernel_rfl
def KG(a0 a1 a2 a3 a4 a:Value)(W:World):(c9 27 (.agg #[a0,a1,a2,a3,a4,a]) 4).run PL W=.ok (a4) W:=by kernel_rfl
def KH(a0 a1 a2 a3 a4 a:Value)(W:World):(c9 27 (.agg #[a0,a1,a2,a3,a4,a]) 5).run PL W=.ok (a) W:=by kernel_rfl
def KL(a0 a1 a2 a3 a4 a b c d e f g:Value)(W:World):(c9 85 (.agg #[a0,a1,a2,a3,a4,a,b,c,d,e,f,g]) 0).run PL W=.ok (a0) W:=by kernel_rfl
def KM(a0 a1 a2 a3 a4 a b c d e f g:Value)(W:World):(c9 85 (.agg #[a0,a1,a2,a3,a4,a,b,c,d,e,f,g]) 1).run PL W=.ok (.agg #[a1,a2]) W:=by kernel_rfl
def KN(a0 a1 a2 a3 a4 a b c d e f g:Value)(W:World):(c9 85 (.agg #[a0,a1,a2,a3,a4,a,b,c,d,e,f,g]) 2).run PL W=.ok (.agg #[a3,a4]) W:=by kernel_rfl
def KS(a0 a1 a2 a3 a4 a b c d e f g:Value)(W:World):(c9 85 (.agg #[a0,a1,a2,a3,a4,a,b,c,d,e,f,g]) 3).run PL W=.ok (a) W:=by kernel_rfl
def KU(a0 a1 a2 a3 a4 b a c d e f g:Value)(W:World):(c9 85 (.agg #[a0,a1,a2,a3,a4,b,a,c,d,e,f,g]) 4).run PL W=.ok (a) W:=by kernel_rfl
def KV(a0 a1 a2 a3 a4 c d a b e f g:Value)(W:World):(c9 85 (.agg #[a0,a1,a2,a3,a4,c,d,a,b,e,f,g]) 5).run PL W=.ok (.agg #[a,b]) W:=by kernel_rfl
def KW(a0 a1 a2 a3 a4 c d e f a b g:Value)(W:World):(c9 85 (.agg #[a0,a1,a2,a3,a4,c,d,e,f,a,b,g]) 6).run PL W=.ok (.agg #[a,b]) W:=by kernel_rfl
def KX(a0 a1 a2 a3 a4 b c d e f g a:Value)(W:World):(c9 85 (.agg #[a0,a1,a2,a3,a4,b,c,d,e,f,g,a]) 7).run PL W=.ok (a) W:=by kernel_rfl
def KY(a0 a1 a2:Value)(W:World):(c9 87 (.agg #[a0,a1,a2]) 0).run PL W=.ok (a0) W:=by kernel_rfl
def KZ(a0 a1 a2:Value)(W:World):(c9 87 (.agg #[a0,a1,a2]) 1).run PL W=.ok (a1) W:=by kernel_rfl
def La(a0 a1 a2:Value)(W:World):(c9 87 (.agg #[a0,a1,a2]) 2).run PL W=.ok (a2) W:=by kernel_rfl
def Lb(a0 a1:Value)(W:World):(c9 48 (.agg #[a0,a1]) 0).run PL W=.ok (a0) W:=by kernel_rfl
def Lc(a0 a1:Value)(W:World):(c9 48 (.agg #[a0,a1]) 1).run PL W=.ok (a1) W:=by kernel_rfl
def Xw(a:Addr)(n c:Nat)(W:World):(binOp .eql 24 (.slice (some a) n c) (.slice none 0 0)).run PL W=.ok (.bool false) W:=by kernel_rfl
def Xx(a:Addr)(n c:Nat)(W:World):(binOp .eql 25 (.slice (some a) n c) (.slice none 0 0)).run PL W=.ok (.bool false) W:=by kernel_rfl
def anN(a b:Int)(W:World):(da 48 #[(0,.int .i64 a),(1,.int .i64 b)]).run PL W=.ok (.agg #[.int .i64 a,.int .i64 b]) W:=by kernel_rfl
def anO(p a b c d:Int)(W:World):(da 70 #[(0,.int .i64 p),(1,.agg #[.int .i64 a,.int .i64 b]),(2,.agg #[.int .i64 c,.int .i64 d])]).run PL W=.ok (.agg #[.int .i64 p,.int .i64 a,.int .i64 b,.int .i64 c,.int .i64 d]) W:=by kernel_rfl
def E8:nS.ntmps=98:=rfl
def h_.In.below{T:h_}{w w':World}(h:T.In w)(a:Below w.heap.size w w'):T.In w':=
 ⟨h.lo,bi h.h4 a.size,λc=>⟨(h.h5 c).1,bi (h.h5 c).2 a.size⟩,h.st,λi hi j b=>(a.cell (p:=⟨T.k4,_,none⟩) h.h4).trans (h.c4 i hi j b),λk d j b=>(a.cell (p:=⟨T.k5,_,none⟩) (h.h5 (by omega)).2).trans (h.c5 k d j b)⟩
def h_.In.agE{T:h_}{w:World}(h:T.In w){i:Nat}(hi:i<T.np):w.cell? ⟨T.k4,T.o4+i*12,none⟩=some (.string (T.nm i))/\w.cell? ⟨T.k4,T.o4+i*12+1,none⟩=some (.int .i64 (T.pn i 1))/\w.cell? ⟨T.k4,T.o4+i*12+2,none⟩=some (.int .i64 (T.pn i 2))/\w.cell? ⟨T.k4,T.o4+i*12+3,none⟩=some (.int .i64 (T.pn i 3))/\w.cell? ⟨T.k4,T.o4+i*12+4,none⟩=some (.int .i64 (T.pn i 4))/\w.cell? ⟨T.k4,T.o4+i*12+5,none⟩=some (.int .i64 (T.pn i 5))/\w.cell? ⟨T.k4,T.o4+i*12+6,none⟩=some (.int .i64 (T.pn i 6))/\
 w.cell? ⟨T.k4,T.o4+i*12+7,none⟩=some (.int .i64 (T.pn i 7))/\w.cell? ⟨T.k4,T.o4+i*12+8,none⟩=some (.int .i64 (T.pn i 8))/\w.cell? ⟨T.k4,T.o4+i*12+9,none⟩=some (.int .i64 (T.pn i 9))/\w.cell? ⟨T.k4,T.o4+i*12+10,none⟩=some (.int .i64 (T.pn i 10))/\w.cell? ⟨T.k4,T.o4+i*12+11,none⟩=some (.slice (T.lb i) (T.ll i) (T.lc i)):=
 ⟨h.c4 i hi 0 (by omega),h.c4 i hi 1 (by omega),h.c4 i hi 2 (by omega),h.c4 i hi 3 (by omega),h.c4 i hi 4 (by omega),h.c4 i hi 5 (by omega),h.c4 i hi 6 (by omega),h.c4 i hi 7 (by omega),h.c4 i hi 8 (by omega),h.c4 i hi 9 (by omega),h.c4 i hi 10 (by omega),h.c4 i hi 11 (by omega)⟩
def h_.In.agF{T:h_}{w:World}(h:T.In w){k:Nat}(a:k<T.n):w.cell? ⟨T.k5,T.o5+k*3,none⟩=some (.string (T.gn k))/\w.cell? ⟨T.k5,T.o5+k*3+1,none⟩=some (.int .i64 (T.S k:Int))/\w.cell? ⟨T.k5,T.o5+k*3+2,none⟩=some (.int .i64 (T.dl k)):=
 ⟨h.c5 k a 0 (by omega),h.c5 k a 1 (by omega),h.c5 k a 2 (by omega)⟩
def R1(x:Int):wrap64 x=IntKind.i64.wrap x:=(IntWalk.i64_left x).symm
def ahv{o:Nat}(h:o<75):(Array.replicate 75 (cc .i64 0))[o]?=some (.int .i64 0):=by
 rw[Array.getElem?_eq_getElem (by simpa using h)];simp
def abr{ops:Array Oper}{rest:List Oper}{o:Oper}{a:Act}{Q:Exit->Act->World->Prop}{w:World}(r:o.guard=none)(X Y:ao)(s:o.op=.store 70 X Y)(base b off:Nat)(cur c:Array Value)(m:a.eval X=.pointer (some ⟨b,off,none⟩))(hy:a.eval Y=.agg c)
 (hb:w.heap[b]?=some (.cells cur 125)) (d:c.size=5) (hl:off+5<=cur.size) (t:∀v∈c,v.oneCell'=true) (B:base<=b)
 (h:∀f w',w'.heap[b]?=some (.cells f 125)->f.size=cur.size->(∀j,j<5->f[off+j]?=c[j]?)->(∀j,(j<off\/off+5<=j)->f[j]?=cur[j]?)->Below base w w'->w'.heap.size=w.heap.size->ap PL ops Q rest (a.put o.dst undef) w'):ap PL ops Q (o::rest) a w:=by
 refine wpList_plain r λK u=>?_;have e:(Tryz.prog.info? 70).map (·.size)=some 5:=by kernel_rfl
 have hc:(Value.agg c).cells=c:=rfl
 cases n:Tryz.prog.info? 70 with
 |none=>rw[n]at e;cases e
 |some i=>
  have y:i.size=5:=by rw[n]at e;exact Option.some.inj e
  have z:=run_storeCells_at PL b off 125 c.toList 0 cur w hb (by simp[d];omega) (λx m=>t x (by simpa using m));obtain⟨f,l⟩:∃q,q=(cur.toList.take off++c.toList++cur.toList.drop (off+c.size)).toArray:=⟨_,rfl⟩
  have A:(storeVar 70 ⟨b,off,none⟩ (.agg c)).run PL w=.ok () (w.setRow b f):=by
   rw[l];simp[storeVar,sizeOf,typeInfo,n,y,z,hc,d]
  unfold Oper.wp execOp;simp only[s,m,hy,Instr.storeAt,Instr.sureAddr,Sem.run_bind,Sem.run_pure,Result.andThen_ok,A];refine u _ _ (h f _ (setRow_heap _ _ _ _ _ _ hb) ?_ (λj g=>?_) (λj g=>?_) ⟨rfl,rfl,rfl,by simp[ba],λk C=>setRow_other _ _ _ _ (by omega)⟩ (by simp[ba]))
  ·rw[l];simp[d];omega
  ·rw[l];simp only[cC];have p:(cur.toList.take off).length=off:=by simp;omega
   rw[cQ,c6 (by omega),p,c7 (by simp[d];omega)];simp
  ·rw[l];simp only[cC,d];have p:(cur.toList.take off).length=off:=by simp;omega
   rcases g with g|g
   ·rw[cQ,c7 (by omega),List.getElem?_take,if_pos g];simp
   ·rw[cQ,c6 (by omega),p,c6 (by simp[d];omega)];simp only[List.getElem?_drop,Array.length_toList,d];have:off+5+(j-off-5)=j:=by omega
    rw[this];simp
def ag7(T:h_)(w:World)(h:T.In w)(uB:∀i,i<T.np->(T.nm i).size<=1000)(B:∀k,k<T.n->(T.gn k).size<=1000):Calls PL 51 #[.agg T.arr] w λe w'=>∃k cs,e=.returned (.pointer (some ⟨k,0,none⟩))/\w'.heap[k]?=some (.cells cs 125)/\dc T.pn T.np T.S T.dl T.n 0 cs/\Below w.heap.size w w':=by
 have d:=bc h;have M:=bc uB;have N:=bc B;clear uB B;obtain⟨l2,l5,l3⟩:=h.lo;clear h;have i2:(2:Int)<=T.np:=by omega
 have i5:(T.np:Int)<=5:=by omega
 have i3:(T.n:Int)<=3:=by omega
 obtain⟨J,O⟩:∃J,J=T.b5:=⟨_,rfl⟩
 have wC:=bc O;simp only[h_.arr];rw[<-O];clear O
 go_enter Cc,E8
 simp only[nS,sU,abY,abC,abW,ajd,ajf,agD,abX,ano,ajg,opsL,ahk,afA,ajv,anp,aD];have q0:=E7;have q1:=Ky;have q2:=Kz;have q3:=KC;have q4:=KF;have q5:=KG;have q6:=KH;have q7:=KL;have q8:=KM;have q9:=KN;have q10:=KS;have q11:=KU;have q12:=KV;have q13:=KW;have q14:=KX;have q15:=KY;have q16:=KZ;have q17:=La;have q18:=Lb;have q19:=Lc;have q25:=Xw;have q26:=Xx;have q27:=anN;have q28:=anO
 go_wp2
 go_loopw [20] (λl wr=>∃q:Nat,q<=T.np/\l=.int .i64 q/\w=wr) (λl _=>T.np-(intOf l).toNat)
 case atStart=>exact⟨0,bm _,rfl,rfl⟩
 case round=>
  obtain⟨q,hq,rfl,rfl⟩:=hrel;by_cases a:q<T.np
  ·have i4:(q:Int)<T.np:=by omega
   obtain⟨a0,a1,a2,a3,a4,a5,a6,a7,a8,a9,zm,zM⟩:=d.out.agE a;have hz:=M.out q a
   go_wp2
   refine⟨⟨q+1,a,by go_num,trivial⟩,by simp only[intOf];omega⟩
  ·obtain rfl:q=T.np:=by omega
   go_wp2
   go_loopw [21] (λm wr=>∃q:Nat,q<=T.n/\m=.int .i64 q/\w=wr) (λm _=>T.n-(intOf m).toNat)
   case atStart=>exact⟨0,bm _,rfl,rfl⟩
   case round=>
    obtain⟨q,hq,rfl,rfl⟩:=hrel;by_cases a:q<T.n
    ·have i4:(q:Int)<T.n:=by omega
     obtain rfl:J=_:=wC.out.trans (d.out.h5 (by omega)).1;obtain⟨a0,a1,a2⟩:=d.out.agF a;have hz:=N.out q a;have vL:(T.S q:Int)<T.np:=by have:=d.out.st q a;omega
     have hs0:(0:Int)<=T.S q:=by omega
     go_wp2
     refine⟨⟨q+1,a,by go_num,trivial⟩,by simp only[intOf];omega⟩
    ·obtain rfl:q=T.n:=by omega
     go_wp2
     go_loopw [67] (λs wr=>∃g:Nat,g<=T.n/\s=.int .i64 g/\∃cs,wr.heap[w.heap.size]?=some (.cells cs 125)/\dc T.pn T.np T.S T.dl g 0 cs/\Below w.heap.size w wr) (λs _=>T.n-(intOf s).toNat)
     case atStart=>exact⟨0,bm _,rfl,_,au _ _,dc.zero rfl (λo K=>ahv K),(bd _ _).alloc (bg _) _⟩
     case round=>
      obtain⟨g,hg,rfl,cs,hcs,C,P⟩:=hrel;have D:=bc hcs;have E:=bc C;have Q:=bc P;have hTB:=P.size;have B4:=bt hcs;clear hcs C P;by_cases a:g<T.n
      ·have i6:(g:Int)<T.n:=by omega
       have i7:(g:Int)<3:=by omega
       obtain⟨e5,hk5⟩:=d.out.h5 (by omega);obtain rfl:J=_:=wC.out.trans e5;clear e5;obtain⟨a0,a1,a2⟩:=(d.out.below Q.out).agF a
       go_wp2
       have aF:=d.out.st g a;obtain⟨Wg,rfl⟩:∃W:World,W=wr:=⟨_,rfl⟩
       go_loopw [71,72,73,74] (λR U V t wr=>∃r:Nat,r<=T.np/\R=.int .i64 ((s7 T.np (T.S g) r:Nat):Int)/\U=.int .i64 (cmV T.pn T.np (T.S g) (T.dl g) r).1/\V=.int .i64 (cmV T.pn T.np (T.S g) (T.dl g) r).2/\t=.int .i64 (r:Int)/\
        ∃cs,wr.heap[w.heap.size]?=some (.cells cs 125)/\dc T.pn T.np T.S T.dl g r cs/\Below w.heap.size w wr) (λ_ _ _ t _=>T.np-(intOf t).toNat)
       case atStart=>exact⟨0,bm _,by rw[s7,Nat.add_zero,Nat.mod_eq_of_lt aF],rfl,rfl,rfl,cs,D.out,E.out,Q.out⟩
       case round=>
        clear a0 a1 a2;obtain⟨r,hr,rfl,rfl,rfl,rfl,u,x,F,X⟩:=hrel;have H:=bc x;have b:=bc F;have Y:=bc X;have axZ:=X.size;have ajj:=bt x;clear x F X;by_cases I:r<T.np
        ·have i8:(r:Int)<T.np:=by omega
         obtain⟨p,L⟩:∃p,p=s7 T.np (T.S g) r:=⟨_,rfl⟩
         obtain⟨c1,Z⟩:∃c,c=(cmV T.pn T.np (T.S g) (T.dl g) r).1:=⟨_,rfl⟩
         obtain⟨c2,y⟩:∃c,c=(cmV T.pn T.np (T.S g) (T.dl g) r).2:=⟨_,rfl⟩
         have Wf:p<T.np:=by rw[L];exact aaD (by omega)
         have j1:(p:Int)<T.np:=by omega
         have j2:(p:Int)<5:=by omega
         rw[<-L,<-Z,<-y];have f:=bc L;have z:=bc Z;have A:=bc y;clear L Z y;obtain⟨a0,a1,a2,a3,a4,a5,a6,a7,a8,a9,zm,zM⟩:=(d.out.below Y.out).agE Wf;have acz:g*25+p*5+5<=u.size:=by have:=b.out.size;omega
         by_cases hw:p+1=T.np
         all_goals
          go_wp2_with (refine abr rfl (.tmp 90) (.tmp 88) rfl w.heap.size w.heap.size (g*25+p*5) u _ rfl rfl H.out rfl acz (by intro v hv;simp only[List.mem_toArray,cg,ch,or_false]at hv;rcases hv with rfl|rfl|rfl|rfl|rfl<;>rfl) (bg _) ?_;intro cs3 w3 g1 g2 g3 g4 g5 g6)
          refine⟨⟨r+1,I,?_,?_,?_,by go_num,cs3,g1,b.out.next I l5 (g2.trans b.out.size) (λj hj=>?_) (λo K=>?_),Y.out.trans g5⟩,by simp only[intOf];omega⟩
          ·rw[abc (by omega),<-f.out]
           first|(rw[if_pos hw];rfl)|(rw[if_neg hw];rfl)|(rw[if_neg hw];go_num)
          ·rw[cmV,<-z.out,<-f.out,R1,R1]
          ·rw[cmV,<-A.out,<-f.out,R1,R1]
          ·rw[<-f.out,g3 j hj];obtain rfl|rfl|rfl|rfl|rfl:j=0\/j=1\/j=2\/j=3\/j=4:=by omega
           ·simp only[vsV,<-f.out];rfl
           ·simp only[vsV,<-z.out];rfl
           ·simp only[vsV,<-A.out];rfl
           ·simp only[vsV,<-z.out,<-f.out,<-R1];rfl
           ·simp only[vsV,<-A.out,<-f.out,<-R1];rfl
          ·rw[<-f.out]at K;exact g4 o K
        ·obtain rfl:r=T.np:=by omega
         go_wp2
         exact⟨⟨g+1,a,by go_num,u,H.out,b.out.done,Y.out⟩,by simp only[intOf];omega⟩
      ·obtain rfl:g=T.n:=by omega
       go_wp2
       refine ai (v:=.pointer (some ⟨w.heap.size,0,none⟩)) ?_ rfl ⟨w.heap.size,cs,rfl,D.out,E.out,Q.out⟩;simp[ag,Tryz.results51,go_sem]
def abR{n a b:Int}:bO n a b=true↔a<=n/\n<=b:=by simp[bO]
def G0{C:CD}(hc:C.cx=0):2<=C.n4/\C.n4<=5:=by
 have a:kA C.p C.n2 C.n3 C.n4 C.x4=0:=ck hc 3 (by omega);unfold kA at a
 split at a
 case isFalse=>cases a
 rename_i hb;have:=abR.1 hb;omega
def s8{C:CD}(hc:C.cx=0):C.n5<=3:=by
 have a:pE C.n4 C.n5 C.x5=0:=ck hc 4 (by omega);unfold pE at a
 split at a
 ·cases a
 ·omega
def agS{C:CD}(hc:C.cx=0){k:Nat}(b:k<C.n5):(0<=(C.x5 k).2.1/\(C.x5 k).2.1<C.n4)/\(0<=(C.x5 k).2.2/\(C.x5 k).2.2<=12)/\(∀j,j<k->(C.x5 j).2.1≠(C.x5 k).2.1):=by
 have a:pE C.n4 C.n5 C.x5=0:=ck hc 4 (by omega);unfold pE at a
 split at a
 ·cases a
 have hg:=ck a k b;unfold iI at hg
 split at hg
 case isFalse h=>exact absurd hg h
 split at hg
 case isFalse=>cases hg
 rename_i hb
 split at hg
 ·cases hg
 rename_i c
 split at hg
 case isFalse=>cases hg
 rename_i hd;have g:=abR.1 hb;have d:=abR.1 hd;refine⟨by omega,d,λj f e=>c ?_⟩;simp only[List.mem_map,cB];exact⟨j,f,e⟩
def agT{C:CD}(hc:C.cx=0){i:Nat}(hi:i<C.n4):(1<=(C.x4 i).n 7/\(C.x4 i).n 7<=(C.x4 i).n 8/\(C.x4 i).n 8<=60)/\(0<=(C.x4 i).n 9/\(C.x4 i).n 9<=(C.x4 i).n 10/\(C.x4 i).n 10<=60):=by
 have b:kA C.p C.n2 C.n3 C.n4 C.x4=0:=ck hc 3 (by omega);unfold kA at b
 split at b
 case isFalse=>cases b
 have a:=ck b i hi;unfold gM at a
 split at a
 case isFalse h=>exact absurd a h
 split at a
 case isFalse=>cases a
 split at a
 ·cases a
 split at a
 case isFalse=>cases a
 split at a
 case isFalse=>cases a
 rename_i hb;simp only[eK,aa]at hb;simp[eK]at hb;omega
abbrev CD.S(C:CD)(k:Nat):Nat:=(C.x5 k).2.1.toNat
abbrev CD.pn(C:CD)(i j:Nat):Int:=(C.x4 i).n j
abbrev CD.dl(C:CD)(k:Nat):Int:=(C.x5 k).2.2
def CD.td(C:CD):h_:=
 { l:=C.l,p:=C.p,b2:=C.b2,n2:=C.n2,c2:=C.c2,b3:=C.b3,n3:=C.n3,c3:=C.c3,k4:=C.k4,o4:=C.o4,np:=C.n4,c4:=C.c4,b5:=C.b5,k5:=C.k5,o5:=C.o5,n:=C.n5,c5:=C.c5,
   pn:=C.pn,S:=C.S,dl:=C.dl,nm:=λi=>(C.x4 i).name,gn:=λk=>(C.x5 k).1,lb:=λi=>(C.x4 i).lb,ll:=λi=>(C.x4 i).ln,lc:=λi=>(C.x4 i).lc }
def CD.aln{C:CD}{w:World}(h:C.At w)(a:0<C.n4):C.td.arr=C.val:=by
 simp only[h_.arr,CD.td,CD.val,h.s4 a]
def CD.anR{C:CD}{w:World}(h:C.At w)(c:2<=C.n4/\C.n4<=5)(d:C.n5<=3)(hs:∀k,k<C.n5->0<=(C.x5 k).2.1/\(C.x5 k).2.1<C.n4):C.td.In w:=by
 refine⟨⟨c.1,c.2,d⟩,h.h4,λe=>⟨h.s5 e,h.h5⟩,λk a=>?_,λi hi j b=>?_,λk a j b=>?_⟩
 ·have:=hs k a;show(C.x5 k).2.1.toNat<C.n4;omega
 ·match j,b with
  |0,_=>exact h.AD i hi
  |11,_=>exact h.nj i hi
  |1,_=>exact h.dB i hi 1 (by omega) (by omega)
  |2,_=>exact h.dB i hi 2 (by omega) (by omega)
  |3,_=>exact h.dB i hi 3 (by omega) (by omega)
  |4,_=>exact h.dB i hi 4 (by omega) (by omega)
  |5,_=>exact h.dB i hi 5 (by omega) (by omega)
  |6,_=>exact h.dB i hi 6 (by omega) (by omega)
  |7,_=>exact h.dB i hi 7 (by omega) (by omega)
  |8,_=>exact h.dB i hi 8 (by omega) (by omega)
  |9,_=>exact h.dB i hi 9 (by omega) (by omega)
  |10,_=>exact h.dB i hi 10 (by omega) (by omega)
 ·have f:=hs k a
  match j,b with
  |0,_=>exact h.FI k a
  |1,_=>
   refine(h.HU k a).trans ?_;show some (cc .i64 (C.x5 k).2.1)=some (.int .i64 ((C.x5 k).2.1.toNat:Int));rw[Int.toNat_of_nonneg f.1]
  |2,_=>exact h.J6 k a
def ag9(a:Nat->Nat->Int)(np:Nat)(S:Nat->Nat)(dl:Nat->Int)(n o:Nat):Int:=
 if o / 25<n/\o % 25 / 5<np then vsV a np (S (o / 25)) (dl (o / 25)) (ac0 np (S (o / 25)) (o % 25 / 5)) (o % 5) else 0
def ac3(a:Nat->Nat->Int)(np:Nat)(S:Nat->Nat)(dl:Nat->Int)(n:Nat):List Int:=(ct 75).map (ag9 a np S dl n)
def dc.lit{b:Nat->Nat->Int}{np n:Nat}{S:Nat->Nat}{dl:Nat->Int}{cs:Array Value}(h:dc b np S dl n 0 cs)(i:np<=5)(d:∀k,k<n->S k<np):cs.toList=(ac3 b np S dl n).map bh:=by
 apply List.ext_getElem?;intro o;rw[Array.getElem?_toList]
 rcases Nat.lt_or_ge o 75 with a|a
 ·have e:((ac3 b np S dl n).map bh)[o]?=some (bh (ag9 b np S dl n o)):=by
   simp only[ac3,ci,List.getElem?_range a,Option.map_some]
  rw[e];by_cases hc:o / 25<n/\o % 25 / 5<np
  ·rw[ag9,if_pos hc,<-h.at (k:=o / 25) (p:=o % 25 / 5) (j:=o % 5) hc.1 hc.2 (d _ hc.1) (by omega),show o / 25*25+o % 25 / 5*5+o % 5=o by omega]
  ·rw[ag9,if_neg hc];refine h.rest o a λk r c hv=>hc ?_
   have f:k<n/\r<np:=by rcases c with c|c<;>omega
   have:=aaD (np:=np) (s:=S k) (r:=r) (by omega);obtain⟨l,m⟩:=hv;have e1:o / 25=k:=by omega
   have g:o % 25 / 5=s7 np (S k) r:=by omega
   rw[e1,g];exact⟨f.1,this⟩
 ·rw[Array.getElem?_eq_none (by rw[h.size];exact a),List.getElem?_eq_none (by simp[ac3];exact a)]
abbrev CD.tab(C:CD):List Int:=ac3 C.pn C.n4 C.S C.dl C.n5
def Row.ofl{W:World}{k:Nat}{c:Array Value}{t:ab}{l:List Value}(h:W.heap[k]?=some (.cells c t))(e:c.toList=l):Row W k l:=Row.of h λj v hv=>by rw[<-e]at hv;simpa using hv
def ac4{C:CD}{w:World}(h:C.At w)(b:2<=C.n4/\C.n4<=5)(c:C.n5<=3)(hs:∀k,k<C.n5->0<=(C.x5 k).2.1/\(C.x5 k).2.1<C.n4):Calls PL 51 #[.agg C.val] w λe w'=>∃k,e=.returned (.pointer (some ⟨k,0,none⟩))/\Row w' k (C.tab.map bh)/\Below w.heap.size w w':=by
 rw[<-C.aln h (by omega)];refine(ag7 C.td w (CD.anR h b c hs) (λi hi=>?_) λk a=>?_).mono ?_
 ·have:=(h.cu i hi).1;show(C.x4 i).name.size<=1000;omega
 ·have:=h.nm5 k a;show(C.x5 k).1.size<=1000;omega
 ·rintro e w'⟨k,cs,rfl,d,f,g⟩;refine⟨k,rfl,Row.ofl d ?_,g⟩;refine f.lit b.2 λk a=>?_;have:=hs k a;show(C.x5 k).2.1.toNat<C.n4;omega
def ahx{C:CD}{w:World}(h:C.At w)(hc:C.cx=0):Calls PL 51 #[.agg C.val] w λe w'=>∃k,e=.returned (.pointer (some ⟨k,0,none⟩))/\Row w' k (C.tab.map bh)/\Below w.heap.size w w':=
 ac4 h (G0 hc) (s8 hc) λk a=>(agS hc a).1
def je:List Int:=[0,0,0,4,6,1,6,9,10,14,2,13,17,18,22,0,0,0,0,0,0,0,0,0,0,0,14,17,18,23,1,0,0,4,5,2,7,8,12,13,0,0,0,0,0,0,0,0,0,0,0,0,0,0,0,0,0,0,0,0,0,0,0,0,0,0,0,0,0,0,0,0,0,0,0]
def RJ:List Int:=[0,0,0,4,6,1,6,9,10,14,2,13,17,18,22,0,0,0,0,0,0,0,0,0,0,0,15,18,19,24,1,1,1,5,6,2,8,9,13,14,0,0,0,0,0,0,0,0,0,0,0,0,0,0,0,0,0,0,0,0,0,0,0,0,0,0,0,0,0,0,0,0,0,0,0]
def mC(d:Int):List Int:=if d=0 then je else RJ
def alp{k2 a k3 c3 b c d e f ca lb g:Nat}:(ir k2 a k3 c3 b c d e f ca lb g 0).tab=je:=by kernel_rfl
def alq{k2 a k3 c3 b c d e f ca lb g:Nat}:(ir k2 a k3 c3 b c d e f ca lb g 1).tab=RJ:=by kernel_rfl
def aqX{k2 a k3 c3 b c e f g ca lb h:Nat}{d:Int}:∀k,k<2->0<=((ir k2 a k3 c3 b c e f g ca lb h d).x5 k).2.1/\((ir k2 a k3 c3 b c e f g ca lb h d).x5 k).2.1<(3:Nat):=by
 intro k i;obtain rfl|rfl:k=0\/k=1:=by omega
 ·exact⟨by show(0:Int)<=0;omega,by show(0:Int)<3;omega⟩
 ·exact⟨by show(0:Int)<=1;omega,by show(1:Int)<3;omega⟩
def tA{d:Int}{C:CD}{w:World}(hd:d=0\/d=1)(a:VB d C)(h:C.At w):Calls PL 51 #[.agg C.val] w λe w'=>∃k,e=.returned (.pointer (some ⟨k,0,none⟩))/\Row w' k ((mC d).map bh)/\Below w.heap.size w w':=by
 obtain⟨k2,b,k3,c3,c,f,g,i,j,l,lb,m,rfl⟩:=a;have:=ac4 h ⟨by show 2<=3;omega,by show 3<=5;omega⟩ (by show 2<=3;omega) aqX
 rcases hd with rfl|rfl
 ·rwa[alp]at this
 ·rwa[alq]at this
def kU(L:List Int)(p:Nat)(m:Int):Nat->Nat->Bool->Int
 |0,_,can=>Ej can true
 |k+1,g,can=>if bO m (L.getD (g*25+p*5+2) 0) (L.getD (g*25+p*5+3) 0-1) then 1 else kU L p m k (g+1) (can||bO m (L.getD (g*25+p*5+1) 0) (L.getD (g*25+p*5+4) 0-1))
structure Ir(L:List Int):Prop where
 len:L.length=75
 lo:∀j,-10000<=L.getD j 0
 hi:∀j,L.getD j 0<=10000
def Row.getD{W:World}{k:Nat}{L:List Int}(h:Row W k (L.map bh)){j:Nat}(a:j<L.length):W.cell? ⟨k,j,none⟩=some (.int .i64 (L.getD j 0)):=
 h.2 j _ (by rw[ci,cl a,cm,cl a];rfl)
def Fa(C:CD)(k p:Nat)(m:Int)(L:List Int)(t:Ir L)(w:World)(u:Row w k (L.map bh))(U:C.n5<=3)(V:p<5) :
 Calls PL 52 #[.agg C.val,.pointer (some ⟨k,0,none⟩),.int .i64 p,.int .i64 m] w (aO (.int .i64 (kU L p m C.n5 0 false)) w):=by
 have H:=bc u;have a:=bc t;clear u t;have I:(p:Int)<5:=by omega
 go_enter (fx (by decide) Tryz.func52),Tryz.ntmps52
 go_wp2
 obtain⟨l,n⟩:∃l:World,l=w.alloc (.cells C.val 78):=⟨_,rfl⟩
 have v:l.heap[w.heap.size]?=some (.cells C.val 78):=by rw[n];exact au _ _
 have y:Below w.heap.size w l:=by rw[n];exact(bd _ _).alloc (bg _) _
 rw[<-n];clear n;have J:=bc v;have o:=bc y;clear v y
 go_loopw [9,16] (λK b wr=>∃(g:Nat)(can:Bool),g<=C.n5/\b=.int .i64 g/\K=.bool can/\kU L p m C.n5 0 false=kU L p m (C.n5-g) g can/\wr.heap[w.heap.size]?=some (.cells C.val 78)/\Below w.heap.size w wr) (λ_ b _=>C.n5-(intOf b).toNat)
 case atStart=>exact⟨0,false,bm _,rfl,rfl,rfl,J.out,o.out⟩
 case round=>
  obtain⟨g,can,hg,rfl,rfl,z,A,i⟩:=hrel;have E:=bc z;have B:=bc A;clear z A;by_cases M:g<C.n5
  ·have W:(g:Int)<C.n5:=by omega
   have X:(g:Int)<3:=by omega
   have c:=H.out.on i;have N:wr.cell? ⟨k,g*25+p*5,none⟩=some (.int .i64 (L.getD (g*25+p*5) 0)):=c.getD (by rw[a.out.len];omega);have t1:wr.cell? ⟨k,g*25+p*5+1,none⟩=some (.int .i64 (L.getD (g*25+p*5+1) 0)):=c.getD (by rw[a.out.len];omega);have t2:wr.cell? ⟨k,g*25+p*5+2,none⟩=some (.int .i64 (L.getD (g*25+p*5+2) 0)):=c.getD (by rw[a.out.len];omega);have O:wr.cell? ⟨k,g*25+p*5+3,none⟩=some (.int .i64 (L.getD (g*25+p*5+3) 0)):=c.getD (by rw[a.out.len];omega);have P:wr.cell? ⟨k,g*25+p*5+4,none⟩=some (.int .i64 (L.getD (g*25+p*5+4) 0)):=c.getD (by rw[a.out.len];omega);have Q:=a.out.lo (g*25+p*5+3);have q:=a.out.hi (g*25+p*5+3);have R:=a.out.lo (g*25+p*5+4);have r:=a.out.hi (g*25+p*5+4);have S:=c.1;have es:C.n5-g=(C.n5-(g+1))+1:=by omega
   have T:=bc es;clear c es;obtain⟨x1,d⟩:∃x,x=L.getD (g*25+p*5+1) 0:=⟨_,rfl⟩
   obtain⟨x2,s⟩:∃x,x=L.getD (g*25+p*5+2) 0:=⟨_,rfl⟩
   obtain⟨x3,f⟩:∃x,x=L.getD (g*25+p*5+3) 0:=⟨_,rfl⟩
   obtain⟨x4,h⟩:∃x,x=L.getD (g*25+p*5+4) 0:=⟨_,rfl⟩
   obtain⟨x0,D⟩:∃x,x=L.getD (g*25+p*5) 0:=⟨_,rfl⟩
   rw[<-D]at N;rw[<-d]at t1;rw[<-s]at t2;rw[<-f]at O Q q;rw[<-h]at P R r;have F:Hid (kU L p m C.n5 0 false=if bO m x2 (x3-1) then 1 else kU L p m (C.n5-(g+1)) (g+1) (can||bO m x1 (x4-1))):=bc (by rw[E.out,T.out,kU,<-d,<-s,<-f,<-h]);clear D d s f h;by_cases hy:bO m x2 (x3-1)=true
   ·have j:=bc hy;clear hy
    go_wp2_with (go_at_call 41;refine(rM j.out _).mono ?_;rintro e w'⟨rfl,rfl⟩)
    go_ret
    exact⟨aC (by rw[F.out,if_pos j.out]),i.alloc i.size _⟩
   ·have j:=bc (aV hy);clear hy E;cases can
    all_goals (
     go_wp2_with (first|(go_at_call 41;(with_reducible refine(yG j.out _).mono ?_);rintro e w'⟨rfl,rfl⟩)|(go_at_call 41;refine(ij _ _ _ _).mono ?_;rintro e w'⟨rfl,rfl⟩))
     refine⟨⟨g+1,_,M,by go_num,rfl,?_,(((bd wr.heap.size wr).alloc (bg _) _).block _ (bt B.out)).trans B.out,i.alloc i.size _⟩,by simp only[intOf];omega⟩;rw[F.out,if_neg (by simp[j.out])]
     rfl)
  ·obtain rfl:g=C.n5:=by omega
   have fin:Hid (kU L p m C.n5 0 false=Ej can true):=bc (by rw[E.out,br,kU]);clear E
   go_wp2_with (go_at_call 45;refine(yH _ _ _).mono ?_;rintro e w'⟨rfl,rfl⟩)
   go_ret
   exact⟨aC fin.out,i⟩
def Cs(m:Int)(w:World):Calls PL 50 #[.int .i64 m] w λe w'=>e=.returned (.bool (bO m 0 999))/\w=w':=by
 go_enter (fx (by decide) Tryz.func50),Tryz.ntmps50
 go_wp2_with (go_at_call 41;refine(ij _ _ _ _).mono ?_;rintro e w'⟨rfl,rfl⟩)
 go_ret
 exact⟨rfl,rfl⟩
def yO{m:Int}(h:bO m 0 999=true)(w:World):Calls PL 50 #[.int .i64 m] w λe w'=>e=.returned (.bool true)/\w=w':=by
 have:=Cs m w;rwa[h]at this
def afJ:PL.underlying 57=some (.slice 51):=by kernel_rfl
def aaI:(PL.info? 51).map (λi=>(i.zero,i.size,i.bytes))=some (some (.int .i64 0),1,8):=by kernel_rfl
def eO(e:ab)(W:World)(base:Nat)(v:Value)(l:List Int):Prop:=W.ownsRow base e 1 v l.length (l.map λx=>.int .i64 x)
def eO.reads{e:ab}{W:World}{base:Nat}{v:Value}{l:List Int}(h:eO e W base v l):bB W v l:=by
 obtain⟨_,h⟩:=h
 rcases h with⟨rfl,a⟩|⟨g,cap,b,rfl,hb,hg,hc,d,hs,c⟩
 ·exact⟨none,0,by rw[a],λh=>by omega⟩
 ·refine⟨_,_,rfl,λa=>⟨g,0,rfl,bt hg,λj f=>?_⟩⟩;have e:(l.map λx=>cc .i64 x)[j]?=some (.int .i64 (l.getD j 0)):=by
   rw[ci,cl (by omega)];simp[cm,cl (show j<l.length by omega)]
  rw[<-c,co (by omega)]at e;simp only[aw,hg,bq];simpa using e
def eO.alloc{e:ab}{W:World}{base:Nat}{v:Value}{l:List Int}(h:eO e W base v l)(o:Obj):eO e (W.alloc o) base v l:=World.ownsRow.alloc h o
def eO.on{e:ab}{W b:World}{base:Nat}{v:Value}{l:List Int}(h:eO e W base v l)(d:Below W.heap.size W b):eO e b base v l:=by
 obtain⟨c,h⟩:=h
 rcases h with h|⟨g,cap,a,e1,hb,hg,f⟩
 ·exact⟨c,.inl h⟩
 ·exact⟨c,.inr ⟨g,cap,a,e1,hb,(d.block _ (bt hg)).trans hg,f⟩⟩
def Fb{T e:ab}(f:PL.underlying T=some (.slice e))(g:(PL.info? e).map (λi=>(i.zero,i.size,i.bytes))=some (some (.int .i64 0),1,8)){ops:Array Oper}{rest:List Oper}{o:Oper}{a:Act}{Q:Exit->Act->World->Prop}{w:World}(m:o.guard=none)(s x:ao)
 (n:o.op=.call { callee:=.builtin .append,args:=#[s,x],argTypes:=#[T,T] }) (base:Nat) (v:Value) (l:List Int) (j:Int) (b:Nat) (hs:a.eval s=v) (c:eO e w base v l)
 (p:a.eval x=.slice (some ⟨b,0,none⟩) 1 1) (hc:w.cell? ⟨b,0,none⟩=some (.int .i64 j)) (hl:l.length<=1000) (d:base<=w.heap.size)
 (h:∀v' w',eO e w' base v' (l++[j])->Below base w w'->ap PL ops Q rest (a.put o.dst v') w'):ap PL ops Q (o::rest) a w:=by
 obtain⟨q,hi,r,t,y⟩:=info_parts g;refine aq _ m s x T n base e q (.int .i64 0) 1 8 f hi r t y rfl (by decide) v l.length _ hs c ⟨b,0,none⟩ 1 1 [.int .i64 j] p rfl (λk u e=>?_) (by simp[cf]) (by simp only[maxLen];omega) (by omega) d λv' w' z A _=>?_
 ·match k,e with
  |0,e=>cases e;exact hc
 ·refine h v' w' ?_ ((bd base w).grown A d (cZ c));unfold eO;rw[cp,cq];exact z
def tB(L:List Int)(m:Int)(a p:Nat):List Int:=(ct p).map λj=>kU L j m a 0 false
def Iu(L:List Int)(m:Int)(a p:Nat):tB L m a (p+1)=tB L m a p++[kU L p m a 0 false]:=by simp[tB,List.range_succ]
def Nt(L:List Int)(m:Int)(a p:Nat):(tB L m a p).length=p:=by simp[tB]
def RO(C:CD)(m:Int)(L:List Int)(n:Ir L)(w:World)(h:C.At w)(hf:C.b6 true=0)(h4:C.n4<=5)(D:C.n5<=3)(o:bO m 0 999=true)
 (q:∀W,C.At W->Calls PL 51 #[.agg C.val] W λe w'=>∃k,e=.returned (.pointer (some ⟨k,0,none⟩))/\Row w' k (L.map bh)/\Below W.heap.size W w') :
 Calls PL 20 #[.agg C.val,.int .i64 m] w λe w'=>∃v,e=.returned (.tuple #[v,.int .i64 0])/\bB w' v (tB L m C.n5 C.n4)/\Below w.heap.size w w':=by
 have r:=bc h;have s:Hid (KB C w (w.alloc (.cells C.val 27))):=bc ⟨au _ _,(bd _ _).alloc (bg _) _⟩;have E:=bc hf;have F:=bc o;have d:=bc q;have H:=bc n;clear h hf o q n
 go_enter (fx (by decide) Tryz.func20),Tryz.ntmps20
 go_wp2_with (first
  |(go_at_call 35;refine(kF E.out (r.out.below s.out.low)).mono ?_;rintro e w1⟨rfl,t⟩;have u:=bc (s.out.on t);clear t)
  |(go_at_call 50;refine(yO F.out _).mono ?_;rintro e w'⟨rfl,rfl⟩)
  |(go_at_call 51;refine(d.out _ (r.out.below (u.out.alloc (.cells C.val 78)).low)).mono ?_;rintro e w2⟨k,rfl,x,f⟩;have g:=bc ((u.out.alloc (.cells C.val 78)).on f);have i:=bc ((f.block w1.heap.size (by simp)).trans (au w1 (.cells C.val 78)));have I:=bc x;clear f x;have J:=g.out.lt;have K:=bt i.out;obtain⟨M,N,O,P,f4,Q⟩:=bf g.out.box;obtain⟨d0,d1,d2,d3,d4,d5⟩:=bf i.out))
 go_loopw [9,27] (λR a wr=>∃p:Nat,p<=C.n4/\a=.int .i64 p/\eO 51 wr w2.heap.size R (tB L m C.n5 p)/\Below w2.heap.size w2 wr) (λ_ a _=>C.n4-(intOf a).toNat)
 case atStart=>exact⟨0,bm _,rfl,⟨rfl,.inl ⟨rfl,rfl⟩⟩,bd _ _⟩
 case round=>
  obtain⟨p,hp,rfl,y,b⟩:=hrel;clear M N O P f4 Q d0 d1 d2 d3 d4 d5 J;have z:=bc y;have S:=bc (g.out.on b);have A:=bc ((b.block _ K).trans i.out);have T:=bc (I.out.on b);have U:=bc b;have wD:=bt A.out;have V:=b.size;clear y b;by_cases X:p<C.n4
  ·have i2:(p:Int)<C.n4:=by omega
   obtain⟨d0,d1,d2,d3,d4,d5⟩:=bf A.out;have B:(tB L m C.n5 p).length=p:=Nt _ _ _ _;have j:=bc B;clear B
   go_wp2_with (first
    |(go_at_call 52;refine(Fa C k p m L H.out _ T.out D (by omega)).mono ?_;rintro e w3⟨rfl,c⟩;have Y:=c.size;have Z:=bc (z.out.on c);have H3:=bc (U.out.trans (c.mono V));clear c)
    |(at_builtin;refine Fb afJ aaI rfl _ _ rfl w2.heap.size _ _ (kU L p m C.n5 0 false) w3.heap.size rfl (Z.out.alloc _) rfl (ar _ _ _ 0 _ rfl) (by rw[j.out];omega) (by simp;omega) ?_;intro v' w4 fO l))
   refine⟨⟨p+1,X,by go_num,by rw[Iu];exact fO,(H3.out.alloc (by omega) _).trans l⟩,by simp only[intOf];omega⟩
  ·obtain rfl:p=C.n4:=by omega
   go_wp2
   refine ai (v:=.tuple #[u9,.int .i64 0]) ?_ rfl ⟨_,rfl,z.out.reads,S.out.low⟩;simp[ag,Tryz.results20,go_sem]
end Go.Proofs
