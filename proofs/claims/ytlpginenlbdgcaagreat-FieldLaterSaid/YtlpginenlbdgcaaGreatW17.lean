/- Part of the proof of FieldReached and FieldLater. -/
import Derived.Test.YtlpginenlbdgcaaGreatW16
import Derived.Deep.DeepMust
import Derived.Maps.RangeWalk
import Derived.Shelf.SlSortCmp.InsertionK
set_option linter.all false
open Go renaming TypeId->aa,grownBy_putObj'->ab,results->ac,bodyPost_ret->ad,Operand->ae,execOp->ag,MapEntry->ai,underlying->ao,wpList->ap,wpList_plain->aq
open Go.World renaming setCell->ar,size_alloc->aw,grownBy_alloc->aB,cell?->aF
open Array renaming getElem?_modify->aI,getElem?_append_left->aJ,getElem?_setIfInBounds_ne->aL,mem_filter->aP
open Go.Proofs renaming getElem?_lt'->aS
open Go.Lib renaming hid->aT
open List renaming length_cons->a5,length_nil->a6,getElem?_toArray->a7,getElem?_cons_succ->a8,getElem?_cons_zero->a9,flatMap_cons->ba,foldl->bc,foldl_cons->bd,mem_cons->bg,setIfInBounds_toArray->bi,set_append_right->bj,append_nil->bm,length_append->bo,append_assoc->bp,find?_cons->bq,range->br,mem_mapIdx->bs
open Nat renaming reduceAdd->bt,le_refl->bv,le_succ->bw,zero_le->bx,zero_add->bA,lt_of_lt_of_le->bC,le_trans->bL,le_of_lt->bM
open Go.RowKit.Below renaming refl->bR
open Go.KeepsOthers renaming setCell->bT
open Go.Proofs.Below renaming on->bX
open Go.Value.slice renaming inj->b1
open Go.Instr renaming findNow->b2,lookup->b3,mapUpdate->b4
open Go.MapKept renaming run_getObj_map->b5
namespace Go.Proofs
open Go.RowKit Go.Shelf
attribute [local go_sem] Oper.semAt_some
set_option maxRecDepth 100000
set_option maxHeartbeats 4000000
def tD{W:World}{r:Nat}{x0 x1 x2 x3 x4 u0 u1 u2 u3 u4:Value}{t:aa}(h:W.heap[r]?=some (.cells #[x0,x1,x2,x3,x4] t)):(((((W.setCell ⟨r,0,none⟩ u0).setCell ⟨r,1,none⟩ u1).setCell ⟨r,2,none⟩ u2).setCell ⟨r,3,none⟩ u3).setCell ⟨r,4,none⟩ u4).heap[r]?=some (.cells #[u0,u1,u2,u3,u4] t):=by
 simp only[ar,aI,if_pos,h,Option.map_some];rfl
def gh{W:World}{r b:Nat}{u0 u1 u2 u3 u4:Value}(hb:b≠r):(((((W.setCell ⟨r,0,none⟩ u0).setCell ⟨r,1,none⟩ u1).setCell ⟨r,2,none⟩ u2).setCell ⟨r,3,none⟩ u3).setCell ⟨r,4,none⟩ u4).heap[b]?=W.heap[b]?:=by
 simp only[ar,aI,if_neg (Ne.symm hb)]
def vA(l:List nR):nR:=l.getLast?.getD (0,0,0,0,0)
abbrev aaW(x:nR):Array Value:=#[.int .i64 x.1,.int .i64 x.2.1,.int .i64 x.2.2.1,.int .i64 x.2.2.2.1,.int .i64 x.2.2.2.2]
def IE(l:List nR)(x:nR):vA (l++[x])=x:=by simp[vA]
def nU(C:CD)(g:Nat):Int×Int:=(vA (mD C g C.n4)).2.2.2
structure Si(w:World)(pre:List nR)(W:World):Prop where
 res:W.heap[w.heap.size+1]?=some (.cells #[.int .i64 0,.int .i64 0] 43)
 last:W.heap[w.heap.size+2]?=some (.cells (aaW (vA pre)) 45)
 low:Below w.heap.size w W
def yW{w W c:World}{row:Option Nat}{a:List nR}{B:Nat}(d:w.heap.size+3<=B)(h:Si w a W)(hg:W.grownBy c row)(b:∀r,row=some r->B<=r):Si w a c:=
 ⟨(hg.block _ (aS h.res) λe=>by have:=b _ e.symm;omega).trans h.res,(hg.block _ (aS h.last) λe=>by have:=b _ e.symm;omega).trans h.last,h.low.grown hg h.low.size λk e=>by have:=b _ e;omega⟩
def Lm(C:CD)(g:Nat)(P:yR C g)(w:World)(hA:C.At w) :
 Calls PL 48 #[.agg C.val,.int .i64 g] w (aO (.agg #[.int .i64 (nU C g).1,.int .i64 (nU C g).2]) w):=by
 have U:=aT hA;have V:=aT P;clear hA P;refine(callsIn_wide (n:=9)).1 (callsIn_of_wp_marks (fx (by decide) Tryz.func48) rfl trivial ?_ rfl);simp only[Tryz.ntmps48,List.size_toArray,a5,a6,bt,Nat.reduceSub,Array.replicate_succ,Array.replicate_zero,List.push_toArray,List.append_toArray,List.nil_append,List.cons_append];refine wpIn_wide.2 ?_;have y:Si w [] (((w.alloc (.cells C.val 76)).alloc (.cells #[.int .i64 0,.int .i64 0] 43)).alloc (.cells #[.int .i64 0,.int .i64 0,.int .i64 0,.int .i64 0,.int .i64 0] 45)):=by
  refine⟨?_,?_,(((bR _ _).alloc (bv _) _).alloc (by simp) _).alloc (by simp;omega) _⟩
  ·have b:=au (w.alloc (.cells C.val 76)) (.cells #[.int .i64 0,.int .i64 0] 43);rw[aw]at b;exact(((bR ((w.alloc (.cells C.val 76)).alloc (.cells #[.int .i64 0,.int .i64 0] 43)).heap.size _).alloc (bv _) _).block _ (by simp)).trans b
  ·have b:=au ((w.alloc (.cells C.val 76)).alloc (.cells #[.int .i64 0,.int .i64 0] 43)) (.cells #[.int .i64 0,.int .i64 0,.int .i64 0,.int .i64 0,.int .i64 0] 45);simp only[aw]at b;exact b
 have z:=aT y;clear y
 go_wp2_with (go_at_call 30;refine(AX C g _).mono ?_;rintro e w'⟨rfl,m⟩)
 have X:=z.out.low;have J:∃Y:World,Y=(((w.alloc (.cells C.val 76)).alloc (.cells #[.int .i64 0,.int .i64 0] 43)).alloc (.cells #[.int .i64 0,.int .i64 0,.int .i64 0,.int .i64 0,.int .i64 0] 45)):=⟨_,rfl⟩
 have E:w'.heap.size=w.heap.size+5:=by rw[m];simp
 have Q:w'.heap[w.heap.size+3]?=some (.cells C.val 76):=by
  rw[m];have b:=au (((w.alloc (.cells C.val 76)).alloc (.cells #[.int .i64 0,.int .i64 0] 43)).alloc (.cells #[.int .i64 0,.int .i64 0,.int .i64 0,.int .i64 0,.int .i64 0] 45)) (.cells C.val 76);simp only[aw]at b;exact((((bR (World.alloc (((w.alloc (.cells C.val 76)).alloc (.cells #[.int .i64 0,.int .i64 0] 43)).alloc (.cells #[.int .i64 0,.int .i64 0,.int .i64 0,.int .i64 0,.int .i64 0] 45)) (.cells C.val 76)).heap.size _).alloc (bv _) _).block _ (by simp)).trans b)
 have F:w'.heap[w.heap.size+4]?=some (.cells #[.int .i64 g] 3):=by
  rw[m];have b:=au ((((w.alloc (.cells C.val 76)).alloc (.cells #[.int .i64 0,.int .i64 0] 43)).alloc (.cells #[.int .i64 0,.int .i64 0,.int .i64 0,.int .i64 0,.int .i64 0] 45)).alloc (.cells C.val 76)) (.cells #[.int .i64 g] 3);simp only[aw]at b;exact b
 have H:Si w [] w':=by
  rw[m];exact yW (bv _) z.out ((aB _ _ none).trans (aB _ _ none)) (λr e=>by cases e)
 have d:=aT E;have L:=aT Q;have M:=aT F;rw[<-m];clear E Q F m X J;refine(wpIn_wide (n:=9)).1 ?_;refine yU (by omega) (gf:=55) (lb:=#[.pointer (some ⟨w.heap.size+3,0,none⟩),.pointer (some ⟨w.heap.size+4,0,none⟩)]) rfl (enters_of (fx (by decide) Tryz.func55) (by kernel_rfl) rfl)
  (yT 8 (by omega) (w.heap.size+3) (w.heap.size+4) w.heap.size g C V.out w rfl U.out)
  (λW I=>?_) Li (λW l o R hl Z hc hw=>Lj (n:=w.heap.size) (s:=w.heap.size+5) (by omega) W l o R (by have:=d.out;omega) Z hc hw) (λ_=>rfl)
  (Si w) (λs A B row hs hg N=>yW (B:=w'.heap.size) (by have:=d.out;omega) hs hg λr e=>(N r e).1) (λs A B row hs hg N=>yW (B:=w'.heap.size) (by have:=d.out;omega) hs hg λr e=>(N r e).1) H
  (λx a W=>∃k,W.heap[k]?=some (.cells (aaW x) 45)/\a={ tmps:=#[.agg C.val,.int .i64 g,.pointer (some ⟨w.heap.size,0,none⟩),undef,.pointer (some ⟨w.heap.size+1,0,none⟩),.pointer (some ⟨w.heap.size+2,0,none⟩),.pointer (some ⟨k,0,none⟩),.agg C.val,.int .i64 g,.func (.func 55) #[] #[.pointer (some ⟨w.heap.size+3,0,none⟩),.pointer (some ⟨w.heap.size+4,0,none⟩)],.agg (aaW x),undef,undef,undef],defers:=[] })
  ?A ?kg ?assign ?body ?done
 ·have e:∀k,k<w.heap.size->W.heap[k]?=w.heap[k]?:=λk f=>(I.block k (by have:=d.out;omega)).trans (H.low.block k f);exact⟨e,by have:=I.size;have:=d.out;omega,(I.block _ (by have:=d.out;omega)).trans L.out,(I.block _ (by have:=d.out;omega)).trans M.out⟩
 case A=>
  rintro x a W l o R hl hc⟨k,f,ha⟩;refine⟨k,(World.putObj_heap_other (λe=>?_)).trans f,ha⟩;subst e;rw[hl]at f;cases f;cases hc
 case kg=>
  intro A B hs hg;have:=d.out;exact⟨λk f=>hg.block k (by omega) (by simp),λk c t h _ _=>(hg.block k (aS h) (by simp)).trans h,hg.size⟩
 case assign=>
  intro l x W K O;dsimp only[VS]
  gi_wp2
  refine O _ _ (aB W _ none) ⟨W.heap.size,au _ _,rfl⟩
 case body=>
  rintro l pre x a W i⟨k,f,rfl⟩Nw;obtain⟨k0,k1,k2,k3,k4⟩:=qO f;obtain⟨l0,l1,l2,l3,l4⟩:=qO i.last;have fl:=tO i.last;have j:=aT i;clear i f
  gi_wp2
  have Cu:=aS j.out.last;refine⟨((((bT W _ _).trans (bT _ _ _)).trans (bT _ _ _)).trans (bT _ _ _)).trans (bT _ _ _),⟨λq hq=>gh (by omega),λq c t h b h2=>(gh (λe=>?_)).trans h,by simp⟩,⟨(gh (by omega)).trans j.out.res,by rw[IE];exact tD j.out.last,((((j.out.low.setCell (p:=⟨w.heap.size+2,0,none⟩) (by simp) _).setCell (p:=⟨w.heap.size+2,1,none⟩) (by simp) _).setCell (p:=⟨w.heap.size+2,2,none⟩) (by simp) _).setCell (p:=⟨w.heap.size+2,3,none⟩) (by simp) _).setCell (p:=⟨w.heap.size+2,4,none⟩) (by simp) _⟩⟩;subst e;have S:=j.out.last;rw[h]at S;cases S;exact b rfl
 case done=>
  intro D W T i O;obtain⟨l0,l1,l2,l3,l4⟩:=qO i.last;obtain⟨t0,t1,u0,u1⟩:=uJ i.res;have j:=aT i;have HD:=aT T;clear i T
  go_wp2
  have hK':=((bT W ⟨w.heap.size+1,0,none⟩ (.int .i64 (vA (mD C g C.n4)).2.2.2.1)).trans (bT _ ⟨w.heap.size+1,1,none⟩ (.int .i64 (vA (mD C g C.n4)).2.2.2.2))).same D _ O rfl;obtain⟨d0,d1,_,_⟩:=yD (u:=.int .i64 (vA (mD C g C.n4)).2.2.2.1) (v:=.int .i64 (vA (mD C g C.n4)).2.2.2.2) t0 t1;have e0:=cell_kept d0 (ab _ D (.deferred none)) (λr e=>by cases e;exact⟨_,hK',rfl⟩);have e1:=cell_kept d1 (ab _ D (.deferred none)) (λr e=>by cases e;exact⟨_,hK',rfl⟩);refine⟨by simp,.inl ⟨_,_,rfl,run_takeDeferred hK',?_⟩⟩;refine⟨.agg #[.int .i64 (nU C g).1,.int .i64 (nU C g).2],?_,rfl,(((j.out.low.setCell (p:=⟨w.heap.size+1,0,none⟩) (bw _) _).setCell (p:=⟨w.heap.size+1,1,none⟩) (bw _) _)).trans (belowK_b (w:=w) (bv _) _ D _ _ (by have:=HD.out;have:=d.out;omega) hK' rfl rfl)⟩;simp[ac,Tryz.results48,go_sem,e0,e1,nU]
structure KE(C:CD)(w W:World):Prop where
 box:W.heap[w.heap.size]?=some (.cells C.val 27)
 res:W.heap[w.heap.size+1]?=some (.cells #[.int .i64 0,.int .i64 0] 43)
 low:Below w.heap.size w W
def KE.on{C:CD}{w W b:World}(h:KE C w W)(a:Below W.heap.size W b):KE C w b:=
 ⟨(a.block _ (aS h.box)).trans h.box,(a.block _ (aS h.res)).trans h.res,bX h.low a⟩
def KE.lt{C:CD}{w W:World}(h:KE C w W):w.heap.size+1<W.heap.size:=aS h.res
def alV(C:CD)(w:World)(j:Nat)(vs:Nat->Value)(W:World):Prop:=
 (j=8->∃k,vs 8=.pointer (some ⟨k,0,none⟩)/\w.heap.size+1<k/\Six W k)/\(j=9->∃k,vs 8=.pointer (some ⟨k,0,none⟩)/\w.heap.size+1<k/\W.heap[k]?=some (.cells C.val 76))
def Sj(C:CD)(g:Nat)(w:World)(h:C.At w)(hg:g<C.n5)(m5:C.n5<=3)(hf:C.b6 true=0)(x:yR C g) :
 Calls PL 19 #[.agg C.val,.int .i64 g] w (aO (.tuple #[.agg #[.int .i64 (nU C g).1,.int .i64 (nU C g).2],.int .i64 0]) w):=by
 have y:=aT h;have K:=aT hf;have L:=aT x
 have n:Hid (KE C w ((w.alloc (.cells C.val 27)).alloc (.cells #[.int .i64 0,.int .i64 0] 43))):=aT ⟨(((bR (w.alloc (.cells C.val 27)).heap.size _).alloc (bv _) _).block _ (by simp)).trans (au w _),by
  have z:=au (w.alloc (.cells C.val 27)) (.cells #[.int .i64 0,.int .i64 0] 43);rw[aw]at z
  exact z,((bR _ _).alloc (bv _) _).alloc (by simp) _⟩
 clear h hf x
 go_enter (fx (by decide) Tryz.func19),Tryz.ntmps19
 go_upto_region 1 with fail
 refine cT 10 (KE C w) (Fo C) (λj=>j != 8&&j != 9) (alV C w) rfl (by kernel_rfl) (by kernel_rfl)
  (λi vs W A l h=>⟨λe=>(h.1 e).imp λk b=>⟨b.1,b.2.1,(l k).2 b.2.2⟩,λe=>(h.2 e).imp λk b=>⟨b.1,b.2.1,(l k).1 b.2.2⟩⟩) (λi o B vs M W N hd h=>⟨λe=>?_,λe=>?_⟩) ?_ ?_
 ·subst e;rw[<-N];exact h.1 rfl
 ·subst e;have O:vs 8=M 8:=by
   simp only[a7,a8,a9,Option.some.injEq]at B;subst B;exact hd ⟨8,.data⟩ (cH.2 ⟨by simp,rfl⟩)
  rw[<-O];exact h.2 rfl
 ·exact⟨n.out.box,n.out.res,n.out.low.drew⟩
 ·iterate 8 (
   apply aY
   case hE=>rfl
   case h=>
    intro vs W a hd;obtain⟨D,E,F,H,f4,I⟩:=bf a.box
    go_simp
    first
    |(go_at_call 28;refine(AZ C g hg m5 _).mono ?_;rintro e A⟨rfl,d⟩;exact⟨_,rfl,rfl,a.on d,Fo.on d⟩)
    |(go_at_call 27;refine(kF K.out (y.out.below a.low)).mono ?_;rintro e A⟨rfl,d⟩;exact⟨_,rfl,rfl,a.on d,Fo.on d⟩)
    |exact⟨rfl,Fo.on (bR _ _)⟩
   case hb=>exact hbT)
  apply eH
  case hE=>rfl
  case hb=>exact hbT
  case h=>
   intro vs W a hd
   go_simp
   have d:=(bR W.heap.size W).alloc (bv _) (.cells #[.int .i64 0,.int .i64 0,.slice none 0 0,.slice none 0 0,.slice none 0 0,.slice none 0 0] 76)
   first
   |exact⟨a.on d,Fo.on d,⟨λ_=>⟨W.heap.size,by simp[upd],a.lt,_,_,_,_,_,_,au W _⟩,λe=>absurd e (by decide)⟩⟩
  apply eH
  case hE=>rfl
  case hb=>exact hbT
  case h=>
   intro vs W a hd;obtain⟨k,b,J,x0,x1,x2,x3,x4,S,c⟩:=(hd ⟨8,.data⟩ (cH.2 ⟨by simp,rfl⟩) rfl).1 rfl;obtain⟨D,E,F,H,f4,I⟩:=bf c;have T:=tO c;rw[b]
   go_simp
   refine⟨⟨(cM (by omega)).trans a.box,(cM (by omega)).trans a.res,Below.zQ a.low (by omega) _ _ _ _ _ _⟩,λq=>?_,⟨λe=>absurd e (by decide),λ_=>⟨k,by simp[upd,b],J,nC c⟩⟩⟩;by_cases r:q=k
   ·subst r;exact⟨λ_=>nC c,λ_=>⟨_,_,_,_,_,_,nC c⟩⟩
   ·exact⟨λe=>(cM r).trans e,fun⟨_,_,_,_,_,_,e⟩=>⟨_,_,_,_,_,_,(cM r).trans e⟩⟩
  refine cP λvs W a hd=>?_;obtain⟨k,b,J,c⟩:=(hd 9 (by omega) rfl).2 rfl;rw[b];obtain⟨D,E,F,H,f4,I⟩:=bf c;have U:=aT c;have f:=aT a;clear c a hd b;obtain⟨V,t1,u0,u1⟩:=uJ f.out.res;have fr:=tO f.out.res
  go_wp2_with (go_at_call 48;refine(Lm C g L.out _ (y.out.below f.out.low)).mono ?_;rintro e w3⟨rfl,s⟩;have m:=(s.block _ (aS f.out.res)).trans f.out.res;obtain⟨X,v1,Y,Z⟩:=uJ m;have P:=tO m;have Q:=aT s;have t:=aT m;clear s m)
  have R:=bX f.out.low Q.out;refine ad (v:=.tuple #[.agg #[.int .i64 (nU C g).1,.int .i64 (nU C g).2],.int .i64 0]) ?_ rfl ⟨rfl,(R.setCell (p:=⟨w.heap.size+1,0,none⟩) (bw _) _).setCell (p:=⟨w.heap.size+1,1,none⟩) (bw _) _⟩;obtain⟨a0,a1,_,_⟩:=uJ (yL (u:=.int .i64 (nU C g).1) (v:=.int .i64 (nU C g).2) t.out);simp[ac,Tryz.results19,go_sem,a0,a1]
def Fp(C:CD)(R:World->Value->Prop)(w:World)(h:C.At w)(hf:C.b6 true=0)
 (b:∀W,C.At W->Calls PL 34 #[.agg C.val] W λe w'=>∃v,e=.returned v/\R w' v/\Below W.heap.size W w') :
 Calls PL 10 #[.agg C.val] w λe w'=>∃v,e=.returned (.tuple #[v,.int .i64 0])/\R w' v/\Below w.heap.size w w':=by
 have c:=aT h;have k:=aT hf;have a:=aT b;have d:Hid (KB C w (w.alloc (.cells C.val 27))):=aT ⟨au _ _,(bR _ _).alloc (bv _) _⟩;clear h hf b
 go_enter (fx (by decide) Tryz.func10),Tryz.ntmps10
 go_wp2_with (first
  |(go_at_call 27;refine(kF k.out (c.out.below d.out.low)).mono ?_;rintro e w1⟨rfl,f⟩;have g:=aT (d.out.on f);clear f)
  |(go_at_call 34;refine(a.out _ (c.out.below (g.out.alloc (.cells C.val 76)).low)).mono ?_;rintro e w2⟨v,rfl,i,j⟩;have l:=aT ((g.out.alloc (.cells C.val 76)).on j);have m:=aT i;clear j i))
 refine ad (v:=.tuple #[v,.int .i64 0]) ?_ rfl ⟨v,rfl,m.out,l.out.low⟩;simp[ac,Tryz.results10,go_sem]
structure KT(C:CD)(w W:World):Prop where
 box:W.heap[w.heap.size]?=some (.cells C.val 76)
 low:Below w.heap.size w W
def KT.on{C:CD}{w W a:World}(h:KT C w W)(b:Below W.heap.size W a):KT C w a:=
 ⟨(b.block _ (aS h.box)).trans h.box,bX h.low b⟩
def qP(C:CD)(p:Nat):Bool:=decide (∀g,g<p->(nU C g).2<=C.l)
def IF{C:CD}{p:Nat}(h:qP C p=true)(k:(nU C p).2<=C.l):qP C (p+1)=true:=by
 simp only[qP,decide_eq_true_eq]at *;intro g hg
 rcases Nat.lt_succ_iff_lt_or_eq.1 hg with a|rfl
 ·exact h g a
 ·exact k
def Sk{C:CD}{p n:Nat}(a:p<n)(k:¬(nU C p).2<=C.l):qP C n=false:=by
 simp only[qP,decide_eq_false_iff_not];exact λh=>k (h p a)
def ag1(a b:Int)(W:World):Sem.run PL (Instr.field 43 (.agg #[.int .i64 a,.int .i64 b]) 1) W=.ok (.int .i64 b) W:=by kernel_rfl
def VY(C:CD)(n:Nat)(w:World)(h:C.At w)(hc:C.cx=0)(m5:C.n5<=3)
 (q:∀W,C.At W->Calls PL 34 #[.agg C.val] W λe w'=>∃b c,e=.returned (.slice b n c)/\Below W.heap.size W w') :
 Calls PL 50 #[.agg C.val] w (aO (.bool (qP C C.n5&&decide (n=0))) w):=by
 have r:=aT h;have j:=aT q;have v:=aT hc;have x:Hid (KT C w (w.alloc (.cells C.val 76))):=aT ⟨au _ _,(bR _ _).alloc (bv _) _⟩;clear h q hc
 go_enter (fx (by decide) Tryz.func50),Tryz.ntmps50
 go_wp2
 go_loopw [8] (λk wr=>∃p:Nat,p<=C.n5/\k=.int .i64 p/\qP C p=true/\KT C w wr) (λk _=>C.n5-(intOf k).toNat)
 case atStart=>exact⟨0,bx _,rfl,by simp[qP],x.out⟩
 case round=>
  obtain⟨p,K,rfl,hs,s⟩:=hrel;have f:=aT s;have t:=aT hs;clear s hs;by_cases i:p<C.n5
  ·have y:(p:Int)<C.n5:=by omega
   have z:=aT (Sa C v.out i)
   go_upto_region 4 with fail
   refine ig (KT C w) (λ_ _=>True) (λ_=>true) (λ_ _ _=>True) rfl (by kernel_rfl) (λ_ _ _ _ _ _=>trivial) (λ_ _ _ _ _ _ _ _ _=>trivial) ⟨f.out.box,f.out.low.drew⟩ ?_
   iterate 8 (
    apply aY
    case hE=>rfl
    case h=>
     intro vs W d hd;obtain⟨A,B,D,E,f4,F⟩:=bf d.box;have q1:=ag1
     go_simp
     first
     |(go_at_call 48;refine(Lm C p z.out _ (r.out.below d.low)).mono ?_;rintro e L⟨rfl,H⟩;exact⟨_,rfl,rfl,d.on H⟩)
     |exact rfl
    case hb=>exact hbT)
   refine cP λvs W d hd=>?_;have g:=aT d;clear hd d;by_cases a:(nU C p).2<=C.l
   ·have m:=aT a;have I:¬(C.l<(nU C p).2):=by omega
    clear a
    go_wp2
    exact⟨⟨p+1,i,by go_num,IF t.out m.out,g.out⟩,by simp only[intOf];omega⟩
   ·have m:=aT a;have I:C.l<(nU C p).2:=by omega
    clear a
    go_wp2
    go_ret
    have hs:=Sk i (Int.not_le.2 m.out);refine⟨?_,g.out.low⟩;rw[hs,Bool.false_and];rfl
  ·have o:p=C.n5:=by omega
   have y:¬((p:Int)<C.n5):=by omega
   clear i;obtain⟨A,B,D,E,f4,F⟩:=bf f.out.box
   go_wp2_with (go_at_call 34;refine(j.out _ (r.out.below f.out.low)).mono ?_;rintro e w2⟨b,c,rfl,u⟩;have J:=aT (f.out.on u);clear u)
   go_ret
   have hs:qP C C.n5=true:=by have h:=t.out;first|(rw[o]at h;exact h)|exact h
   have e:((n:Int)==0)=decide (n=0):=by by_cases h:n=0<;>simp[h]
   refine⟨?_,J.out.low⟩;rw[hs,e,Bool.true_and];rfl
end Go.Proofs
namespace Go.Proofs
open Go.RowKit
def acz(l:List nR)(i j:Nat)(hi:i<l.length)(b:j<5):(l.flatMap vV)[i*5+j]?=(vV l[i])[j]?:=by
 induction l generalizing i with
 |nil=>cases hi
 |cons x l a=>
  rw[ba];have e:(vV x).length=5:=rfl
  match i with
  |0=>rw[Nat.zero_mul,bA,List.getElem?_append_left (by omega)];rfl
  |i+1=>
   rw[List.getElem?_append_right (by omega),e,show(i+1)*5+j-5=i*5+j by omega,a i (by simpa using hi)];rfl
def aal{a:Type}(lt:a->a->Bool)(x:a):List a->List a
 |[]=>[x]
 |y::P=>if lt x y then y::aal lt x P else x::y::P
def aaz{a:Type}(lt:a->a->Bool):List a->List a:=bc (λP x=>aal lt x P) []
def u7{a:Type}(lt:a->a->Bool)(l:List a):List a:=(aaz lt l).reverse
def ah9{a:Type}(lt:a->a->Bool)(x:a)(P:List a):(aal lt x P).length=P.length+1:=by
 induction P with
 |nil=>rfl
 |cons y P b=>rw[aal];split<;>simp[b]
def aeC{a:Type}(lt:a->a->Bool)(l:List a)(x:a):aaz lt (l++[x])=aal lt x (aaz lt l):=by simp[aaz,List.foldl_append]
def ac2{a:Type}(lt:a->a->Bool)(l:List a):(aaz lt l).length=l.length:=by
 have key:∀(l P:List a),(bc (λP x=>aal lt x P) P l).length=P.length+l.length:=by
  intro l
  induction l with
  |nil=>intro P;simp
  |cons x l b=>intro P;rw[bd,b,ah9,a5];omega
 rw[aaz,key];simp
def aha{a:Type}(lt:a->a->Bool)(x:a)(P:List a)(z:a):z∈aal lt x P↔z=x\/z∈P:=by
 induction P with
 |nil=>simp[aal]
 |cons y P b=>
  rw[aal]
  split
  ·rw[bg,b,bg];constructor
   ·rintro(h|h|h)
    ·exact .inr (.inl h)
    ·exact .inl h
    ·exact .inr (.inr h)
   ·rintro(h|h|h)
    ·exact .inr (.inl h)
    ·exact .inl h
    ·exact .inr (.inr h)
  ·simp
def agI{a:Type}(lt:a->a->Bool)(l:List a)(z:a):z∈aaz lt l↔z∈l:=by
 have key:∀(l P:List a),z∈bc (λP x=>aal lt x P) P l↔z∈P\/z∈l:=by
  intro l
  induction l with
  |nil=>intro P;simp
  |cons x l b=>
   intro P;rw[bd,b,aha,bg];constructor
   ·rintro((h|h)|h)
    ·exact .inr (.inl h)
    ·exact .inl h
    ·exact .inr (.inr h)
   ·rintro(h|h|h)
    ·exact .inl (.inr h)
    ·exact .inl (.inl h)
    ·exact .inr h
 rw[aaz,key];simp
def abw{a:Type}(lt:a->a->Bool)(l:List a):(u7 lt l).length=l.length:=by simp[u7,ac2]
def agJ{a:Type}(lt:a->a->Bool)(l:List a)(z:a):z∈u7 lt l↔z∈l:=by simp[u7,agI]
set_option maxRecDepth 100000
set_option maxHeartbeats 4000000
def aam(x y:nR):Bool:=decide (x.2.2.2.2<y.2.2.2.2)
def aeP(x y:nR)(w:World):Calls PL 64 #[.agg (aaW x),.agg (aaW y)] w λe w'=>e=.returned (.int .i64 (Ip x.2.2.2.2 y.2.2.2.2))/\w'=(w.alloc (.cells (aaW x) 49)).alloc (.cells (aaW y) 49):=by
 go_enter (fx (by decide) Tryz.func64),Tryz.ntmps64
 go_wp2_with (go_at_call 65;refine(Kw _ _ _).mono ?_;rintro e w'⟨rfl,rfl⟩)
 go_ret
 exact⟨rfl,rfl⟩
def am4(x y:nR):(Ip x.2.2.2.2 y.2.2.2.2<0)↔aam x y=true:=by
 unfold Ip aam;rw[decide_eq_true_iff]
 split
 ·simp[*]
 ·split<;>simp[*]
open Go.Shelf Go.Sort
def acd{a:Type}[Inhabited a](P R:List a)(x y:a):(P++y::x::R).toArray[P.length]! = y/\(P++y::x::R).toArray[P.length+1]! = x:=by
 refine⟨by simp,?_⟩;rw[show P++y::x::R=(P++[y])++x::R by simp,getElem!_pos _ _ (by simp),List.getElem_toArray,List.getElem_append_right (by simp)];simp
def ahb{a:Type}[Inhabited a](P R:List a)(x y:a):swp (P++y::x::R).toArray (P.length+1) P.length=(P++x::y::R).toArray:=by
 unfold swp;rw[(acd P R x y).1,(acd P R x y).2,bi,bi,bj _ _ (by omega),bj _ _ (by omega)];simp
def abd{a:Type}[Inhabited a](lt:a->a->Bool)(x:a):∀(P R:List a),insInner lt 0 P.length (P.reverse++x::R).toArray=((aal lt x P).reverse++R).toArray
 |[],R=>by rw[a6,insInner];simp[aal]
 |y::P,R=>by
  have h:(y::P).reverse++x::R=P.reverse++y::x::R:=by simp
  have e:=acd P.reverse R x y;have hs:=ahb P.reverse R x y;rw[List.length_reverse]at e hs;rw[h,a5,insInner,e.1,e.2,aal];by_cases hl:lt x y=true
  ·rw[if_pos (by simp[hl]),if_pos hl,hs,abd lt x P (y::R)];simp
  ·rw[if_neg (by simp[hl]),if_neg hl];simp
def abe{a:Type}[Inhabited a](lt:a->a->Bool)(L:List a):∀(n i:Nat),L.length-i=n->insOuter lt 0 L.length i (u7 lt (L.take i)++L.drop i).toArray=(u7 lt L).toArray
 |0,i,h=>by
  rw[insOuter_stop _ _ _ _ _ (by omega),List.take_of_length_le (by omega),List.drop_of_length_le (by omega),bm]
 |n+1,i,h=>by
  have hi:i<L.length:=by omega
  have hl:(aaz lt (L.take i)).length=i:=by rw[ac2];simp;omega
  rw[insOuter_go _ _ _ _ _ hi,<-abe lt L n (i+1) (by omega),List.drop_eq_getElem_cons hi];congr 1;have:=abd lt L[i] (aaz lt (L.take i)) (L.drop (i+1));rw[hl]at this;rw[u7,this,u7,List.take_succ_eq_append_getElem hi,aeC]
def abi{b:Type}[Inhabited b](lt:b->b->Bool)(L:List b):insertionSort lt L.toArray 0 L.length=(u7 lt L).toArray:=by
 unfold insertionSort;have:=abe lt L (L.length-1) 1 rfl;have e:u7 lt (L.take 1)++L.drop 1=L:=by
  cases L with
  |nil=>rfl
  |cons a L=>simp[u7,aaz,aal]
 rw[e]at this;exact this
def ag2:PL.underlying 39=some (.slice 49):=by kernel_rfl
def aaX:(PL.info? 49).map (λi=>(i.zero,i.size,i.bytes))=some (some (.agg #[.int .i64 0,.int .i64 0,.int .i64 0,.int .i64 0,.int .i64 0]),5,40):=by kernel_rfl
def kV(W:World)(base:Nat)(v:Value)(l:List nR):Prop:=W.ownsRow base 49 5 v l.length (l.flatMap vV)
def kV.alloc{W:World}{base:Nat}{v:Value}{l:List nR}(h:kV W base v l)(o:Obj):kV (W.alloc o) base v l:=World.ownsRow.alloc h o
def kV.on{W b:World}{base:Nat}{v:Value}{l:List nR}(h:kV W base v l)(d:Below W.heap.size W b):kV b base v l:=by
 obtain⟨c,h⟩:=h
 rcases h with h|⟨g,cap,a,e1,hb,hg,e⟩
 ·exact⟨c,.inl h⟩
 ·exact⟨c,.inr ⟨g,cap,a,e1,hb,(d.block _ (aS hg)).trans hg,e⟩⟩
def vB{W:World}{base e size n:Nat}{v:Value}{xs:List Value}(h:W.ownsRow base e size v n xs):∃b c,v=.slice b n c:=by
 rcases h.2 with⟨rfl,a⟩|⟨g,cap,d,rfl,_⟩
 ·exact⟨none,0,by rw[a]⟩
 ·exact⟨_,_,rfl⟩
def arA:Ren:=⟨λ_=>126,λt=>if t=24 then 49 else if t=22 then 39 else if t=25 then 134 else t,λt=>t⟩
def arB:SlLaysF0.n20 PL arA where
 mixed:=rfl
 f20:=⟨ "slices.insertionSortCmpFunc[nock/api.FieldTrouble]",by decide,(fx (by decide) Tryz.func126).trans (by kernel_rfl)⟩
 t0:=by kernel_rfl
 a0:=by intro w;kernel_rfl
 z0:=by intro w;kernel_rfl
 v0:=by intro w;kernel_rfl
 t3:=by kernel_rfl
 a3:=by intro w;kernel_rfl
 z3:=by intro w;kernel_rfl
 v3:=by intro w;kernel_rfl
 t4:=by kernel_rfl
 a4:=by intro w;kernel_rfl
 z4:=by intro w;kernel_rfl
 v4:=by intro w;kernel_rfl
 t22:=by kernel_rfl
 a22:=by intro w;kernel_rfl
 z22:=by intro w;kernel_rfl
 v22:=by intro w;kernel_rfl
 t25:=by kernel_rfl
 a25:=by intro w;kernel_rfl
 z25:=by intro w;kernel_rfl
 v25:=by intro w;kernel_rfl
def acB(L:List nR)(t:Nat)(h:t<L.length*5):(L.flatMap vV)[t]?=some (flatK vV 5 L.toArray)[t]!:=by
 have a:t / 5<L.length:=by omega
 have e:=acz L (t / 5) (t % 5) a (by omega);rw[show t / 5*5+t % 5=t by omega]at e;have c:L.toArray[t / 5]! = L[t / 5]:=by rw[getElem!_pos _ _ (by simpa using a)];rfl
 rw[e,get_flatK _ _ _ _ (by simpa using h),c];have b:t % 5<(vV L[t / 5]).length:=Nat.mod_lt _ (by decide);rw[List.getElem?_eq_getElem b,getElem!_pos (vV L[t / 5]) (t % 5) b]
def acC(L:List nR)(b c base:Nat)(w:World)(h:kV w base (.slice (some ⟨b,0,none⟩) L.length c) L)(hl:L.length<=20) :
 Calls PL 126 #[.slice (some ⟨b,0,none⟩) L.length c,.int .i64 0,.int .i64 L.length,.func (.func 64) #[] #[]] w λe w'=>(∃v,e=.returned v)/\kV w' base (.slice (some ⟨b,0,none⟩) L.length c) (u7 aam L)/\Below base w w':=by
 obtain⟨F,⟨z,_⟩|⟨g,cap,a,e,hb,hg,hc,A,hs,B⟩⟩:=h
 ·cases z
 obtain⟨e1,_,C⟩:=b1 e;cases e1;cases C;have i:=aS hg;have D:HoldsK vV 5 w b 0 L.toArray:=by
  intro j p;have p:j<L.length*5:=by simpa using p
  refine⟨?_,tO hg _⟩;have:=acB L j p;rw[<-B,List.getElem?_take_of_lt p]at this;simp only[aF,hg,bA];simpa using this
 have q:CmpLays PL 64 #[] vV 5 (λx y=>Ip x.2.2.2.2 y.2.2.2.2) b 0 L.toArray.size w:=λm r H hd x y=>by
  refine(aeP x y _).mono ?_;rintro e w'⟨rfl,rfl⟩;exact⟨rfl,0,_,by rw[alloc_eq_grow,alloc_eq_grow,grow_grow];rfl⟩
 refine(AnyQ.insertionSortCmpFunc arB 5 (by intro w;kernel_rfl) (by intro w;kernel_rfl) vV (λ_=>rfl) (λx v hv=>by simp only[vV,bg,List.not_mem_nil,or_false]at hv;rcases hv with rfl|rfl|rfl|rfl|rfl<;>rfl) _ 64 #[] b 0 c 0 L.length L.toArray w (JZ (fx (by decide) Tryz.func64) (by decide +kernel) rfl) q D i (bx _) (by simp) (by simp;omega)).mono ?_;rintro e w'⟨rfl,n,r,rfl⟩;have E:(ltOf λx y:nR=>Ip x.2.2.2.2 y.2.2.2.2)=aam:=by
  funext x y;have:=am4 x y;unfold ltOf;by_cases h:Ip x.2.2.2.2 y.2.2.2.2<0<;>simp_all
 rw[E,abi];obtain⟨S,u⟩:∃S,S=u7 aam L:=⟨_,rfl⟩
 have d:S.length=L.length:=by rw[u,abw]
 rw[<-u];have hF:(flatK vV 5 S.toArray).size=L.length*5:=by simp[d]
 have f:(sortWorldK vV 5 w b 0 n S.toArray r).heap=w.heap.modify b (onCells (putCells id 0 (flatK vV 5 S.toArray)))++r:=rfl;refine⟨⟨_,rfl⟩,⟨?_,.inr ⟨b,c,putCells id 0 (flatK vV 5 S.toArray) a,by rw[d],hb,?_,by rw[d];exact hc,A,?_,?_⟩⟩,?_⟩
 ·have:∀l:List nR,(l.flatMap vV).length=l.length*5:=λl=>by
   induction l with
   |nil=>rfl
   |cons x l s=>rw[ba,bo,s];simp[vV];omega
  exact this S
 ·rw[f,aJ (by simpa using i),aI,if_pos rfl,hg];rfl
 ·simpa[putCells]using hs
 ·apply List.ext_getElem?;intro t;rw[List.getElem?_take];have hcs:L.length*5<=a.size:=by omega
  split
  ·rename_i o;rw[d]at o;rw[acB S t (by omega)];have:a[t]?=some a[t]:=Array.getElem?_eq_getElem (by omega);simp only[putCells,Array.getElem?_toList,Array.getElem?_mapIdx,this,Option.map_some];rw[if_pos (by omega)];rfl
  ·rename_i o;rw[List.getElem?_eq_none];have:∀l:List nR,(l.flatMap vV).length=l.length*5:=λl=>by
    induction l with
    |nil=>rfl
    |cons x l s=>rw[ba,bo,s];simp[vV];omega
   rw[this];omega
 ·exact⟨rfl,rfl,rfl,by rw[f];simp,λk I=>by rw[f,aJ (by simp;omega),aI,if_neg (by omega)]⟩
end Go.Proofs
namespace Go.Proofs
open Go.RowKit Go.Shelf
attribute [local go_sem] Oper.semAt_some
set_option maxRecDepth 100000
set_option maxHeartbeats 4000000
def abO(a1 a2 a3 a4 a b c d:Int):Int:=Ej (decide (a1<d)&&decide (a<a4)) (decide (a3<=b)||decide (c<=a2))
def IU(L:List Int)(a b p:Nat):nR:=(a,(b:Nat),(p:Nat),abO (L.getD (a*25+p*5+1) 0) (L.getD (a*25+p*5+2) 0) (L.getD (a*25+p*5+3) 0) (L.getD (a*25+p*5+4) 0) (L.getD (b*25+p*5+1) 0) (L.getD (b*25+p*5+2) 0) (L.getD (b*25+p*5+3) 0) (L.getD (b*25+p*5+4) 0),max (L.getD (a*25+p*5+1) 0) (L.getD (b*25+p*5+1) 0))
def aaD(L:List Int)(a b:Nat):Nat->List nR
 |0=>[]
 |p+1=>aaD L a b p++if(IU L a b p).2.2.2.1=2 then[] else[IU L a b p]
def N5(L:List Int)(n a:Nat):Nat->List nR
 |0=>[]
 |k+1=>N5 L n a k++aaD L a (a+1+k) n
def aas(L:List Int)(n m:Nat):Nat->List nR
 |0=>[]
 |a+1=>aas L n m a++N5 L n a (m-(a+1))
def acE(L:List Int)(n m:Nat):List nR:=u7 aam (aas L n m m)
def acH(L:List Int)(a b p:Nat):(aaD L a b p).length<=p:=by
 induction p with
 |zero=>exact bv _
 |succ p c=>rw[aaD,bo];split<;>simp<;>omega
def KD(L:List Int){n:Nat}(b:n<=5)(a k:Nat):(N5 L n a k).length<=5*k:=by
 induction k with
 |zero=>exact bv _
 |succ k c=>have:=acH L a (a+1+k) n;rw[N5,bo];omega
def ahd(L:List Int){n m:Nat}(b:n<=5)(c:m<=3)(a:Nat):(aas L n m a).length<=15*a:=by
 induction a with
 |zero=>exact bv _
 |succ a d=>have:=KD L b a (m-(a+1));rw[aas,bo];omega
def abP(L:List Int){n m:Nat}(a:n<=5)(c:m<=3):(aas L n m m).length<=15:=by
 match m,c with
 |0,_=>exact bx _
 |1,_=>
  have b:=KD L a 0 0;rw[show aas L n 1 1=N5 L n 0 0 from rfl];omega
 |2,_=>
  have b:=KD L a 0 1;have d:=KD L a 1 0;rw[show aas L n 2 2=N5 L n 0 1++N5 L n 1 0 from rfl,bo];omega
 |3,_=>
  have b:=KD L a 0 2;have d:=KD L a 1 1;have e:=KD L a 2 0;rw[show aas L n 3 3=N5 L n 0 2++N5 L n 1 1++N5 L n 2 0 from rfl,bo,bo];omega
def z61:Array Value:=#[.int .i64 0,.int .i64 0,.int .i64 0,.int .i64 0,.int .i64 0]
def IG(n0:Nat)(A:Array Value)(j:Nat)(vs:Nat->Value)(W:World):Prop:=
 (j=14->∃k,vs 14=.pointer (some ⟨k,0,none⟩)/\n0<=k/\k<W.heap.size/\∃x0 x1 x2 x3 x4,W.heap[k]?=some (.cells #[x0,x1,x2,x3,x4] 45))/\
 (j=15->∃k,vs 15=.pointer (some ⟨k,0,none⟩)/\n0<=k/\k<W.heap.size/\W.heap[k]?=some (.cells z61 45))/\
 (j=16->∃k,vs 14=.pointer (some ⟨k,0,none⟩)/\W.heap[k]?=some (.cells A 45))
def ExT(t:Nat):Bool:=t != 14&&t != 15&&t != 16
def neT(i j:Nat)(u v:Value):Prop:=(i=14/\j=15\/i=15/\j=14)->u≠v
def IG.le{n0:Nat}{A:Array Value}{j:Nat}{vs:Nat->Value}{W g:World}(h:IG n0 A j vs W)(b:Below W.heap.size W g):IG n0 A j vs g:=
 ⟨λe=>(h.1 e).imp λq⟨c,f,d,x0,x1,x2,x3,x4,a⟩=>⟨c,f,bC d b.size,x0,x1,x2,x3,x4,(b.block _ d).trans a⟩,
  λe=>(h.2.1 e).imp λq⟨c,f,d,a⟩=>⟨c,f,bC d b.size,(b.block _ d).trans a⟩,
  λe=>(h.2.2 e).imp λq⟨c,a⟩=>⟨c,(b.block _ (aS a)).trans a⟩⟩
def Sl{n0:Nat}{A:Array Value}{W:World}{vs:Nat->Value}{D:List Nat}{i:Nat}(f:n0<=W.heap.size)(hi:i=14\/i=15)(hd:∀j∈D,ExT j=false->IG n0 A j vs W) :
 (∀j∈D,ExT j=false->IG n0 A j vs (W.alloc (.cells z61 45)))/\IG n0 A i (upd vs i (.pointer (some ⟨W.heap.size,0,none⟩))) (W.alloc (.cells z61 45))/\∀j∈D,ExT j=false->neT j i (vs j) (.pointer (some ⟨W.heap.size,0,none⟩)):=by
 have g:=(bR W.heap.size W).alloc (bv _) (.cells z61 45);refine⟨λj c d=>(hd j c d).le g,⟨λe=>⟨W.heap.size,by simp[upd,e],f,by simp,_,_,_,_,_,au _ _⟩,λe=>⟨W.heap.size,by simp[upd,e],f,by simp,au _ _⟩,λe=>by omega⟩,λj c d e1 e=>?_⟩;obtain⟨q,a,b⟩:∃q,vs j=.pointer (some ⟨q,0,none⟩)/\q<W.heap.size:=by
  rcases e1 with⟨rfl,_⟩|⟨rfl,_⟩
  ·obtain⟨q,a,_,b,_⟩:=(hd _ c d).1 rfl;exact⟨q,a,b⟩
  ·obtain⟨q,a,_,b,_⟩:=(hd _ c d).2.1 rfl;exact⟨q,a,b⟩
 rw[a]at e;cases e;exact Nat.lt_irrefl _ b
structure KR(C:CD)(w:World)(k:Nat)(L:List Int)(B:Nat)(W:World):Prop where
 pK:B<=W.heap.size
 kl:k<B
 bl:w.heap.size<B
 box:W.heap[w.heap.size]?=some (.cells C.val 76)
 row:Row W k (L.map bh)
 low:Below w.heap.size w W
def KR.on{C:CD}{w W b:World}{k:Nat}{L:List Int}{B:Nat}(h:KR C w k L B W)(a:Below W.heap.size W b):KR C w k L B b:=
 ⟨bL h.pK a.size,h.kl,h.bl,(a.block _ (aS h.box)).trans h.box,h.row.on a,bX h.low a⟩
def Below.ag3{B:Nat}{a w:World}(h:Below B a w){k:Nat}(b:B<=k)(u0 u1 u2 u3 u4:Value):Below B a (((((w.setCell ⟨k,0,none⟩ u0).setCell ⟨k,1,none⟩ u1).setCell ⟨k,2,none⟩ u2).setCell ⟨k,3,none⟩ u3).setCell ⟨k,4,none⟩ u4):=
 ((((h.setCell (p:=⟨k,0,none⟩) b _).setCell (p:=⟨k,1,none⟩) b _).setCell (p:=⟨k,2,none⟩) b _).setCell (p:=⟨k,3,none⟩) b _).setCell (p:=⟨k,4,none⟩) b _
def Sm{W:World}{b:Nat}{x:nR}{t:aa}(h:W.heap[b]?=some (.cells #[.int .i64 x.1,.int .i64 x.2.1,.int .i64 x.2.2.1,.int .i64 x.2.2.2.1,.int .i64 x.2.2.2.2] t)):∀(j:Nat)(u:Value),(vV x)[j]?=some u->W.cell? ((⟨b,0,none⟩:Addr).add j)=some u:=by
 intro j u e
 match j,e with
 |0,e=>cases e;simp[aF,Addr.add,h]
 |1,e=>cases e;simp[aF,Addr.add,h]
 |2,e=>cases e;simp[aF,Addr.add,h]
 |3,e=>cases e;simp[aF,Addr.add,h]
 |4,e=>cases e;simp[aF,Addr.add,h]
 |j+5,e=>simp[vV]at e
def KR.alloc{C:CD}{w W:World}{k:Nat}{L:List Int}{B:Nat}(h:KR C w k L B W)(o:Obj):KR C w k L B (W.alloc o):=h.on ((bR _ _).alloc (bv _) o)
def afk(v:Value)(L:List nR){base:Nat}{w:World}(h:kV w base v L)(hl:L.length<=15):Calls PL 63 #[v,.func (.func 64) #[] #[]] w λe w'=>e=.returned v/\kV w' base v (u7 aam L)/\Below base w w':=by
 obtain⟨n,d⟩:∃n,n=L.length:=⟨_,rfl⟩
 obtain⟨b,c,rfl⟩:=vB h;rw[<-d]
 have H:Hid (Calls PL 126 #[.slice b n c,.int .i64 0,.int .i64 n,.func (.func 64) #[] #[]] w λe w'=>(∃v,e=.returned v)/\kV w' base (.slice b n c) (u7 aam L)/\Below base w w'):=aT (by
  have k:=h
  rcases h.2 with⟨e,l⟩|⟨g,cap,m,e,_⟩
  ·obtain⟨rfl,_,rfl⟩:=b1 e;obtain rfl:=List.length_eq_zero_iff.1 l;subst d;refine(zW none 0 0 0 _ w (by omega)).mono ?_;rintro e w'⟨a,rfl⟩;exact⟨a,k,bR _ _⟩
  ·obtain⟨rfl,_,rfl⟩:=b1 e;rw[d]
   exact acC L g c base w k (by omega))
 rw[<-d]at hl;clear h d;have p:(n:Int)<20:=by omega
 have q:(n:Int)<=20:=by omega
 have i:Hid (Calls PL 117 #[.slice b n c,.int .i64 n,.func (.func 64) #[] #[]] w λe w'=>(∃v,e=.returned v)/\kV w' base (.slice b n c) (u7 aam L)/\Below base w w'):=aT (by
  go_enter (fx (by decide) Tryz.func117),Tryz.ntmps117
  go_wp2
  go_loop [7,8] (λv7 o=>v7=.int .i64 0/\o=.int .i64 20) (λ_ _=>0)
  case atStart=>exact⟨rfl,rfl⟩
  case round=>
   obtain⟨rfl,rfl⟩:=hrel
   go_wp2_with (go_at_call 126;refine H.out.mono ?_;rintro e w3⟨⟨v,rfl⟩,a⟩;have f:=aT a;clear a)
   go_loop [6] (λv=>v=.int .i64 20) (λ_=>0)
   case atStart=>rfl
   case round=>
    subst hrel
    go_wp2
    go_end0
    exact⟨⟨_,rfl⟩,f.out⟩)
 have j:Hid (Calls PL 96 #[.slice b n c,.func (.func 64) #[] #[]] w λe w'=>(∃v,e=.returned v)/\kV w' base (.slice b n c) (u7 aam L)/\Below base w w'):=aT (by
  go_enter (fx (by decide) Tryz.func96),Tryz.ntmps96
  go_wp2_with (go_at_call 117;refine i.out.mono ?_;rintro e w'⟨⟨v,rfl⟩,a⟩;have f:=aT a;clear a)
  go_end0
  exact⟨⟨_,rfl⟩,f.out⟩)
 go_enter (fx (by decide) Tryz.func63),Tryz.ntmps63
 go_wp2_with (go_at_call 96;refine j.out.mono ?_;rintro e w'⟨⟨v,rfl⟩,a⟩;have f:=aT a;clear a)
 go_ret
 exact⟨rfl,f.out⟩
def abo(C:CD)(L:List Int)(hL:L.length=75)(h4:C.n4<=5)(h5:C.n5<=3)(w:World)(h:C.At w)
 (HT:∀W,C.At W->Calls PL 32 #[.agg C.val] W λe w'=>∃k,e=.returned (.pointer (some ⟨k,0,none⟩))/\Row w' k (L.map bh)/\Below W.heap.size W w') :
 Calls PL 34 #[.agg C.val] w λe w'=>∃v,e=.returned v/\kV w' w.heap.size v (acE L C.n4 C.n5)/\Below w.heap.size w w':=by
 have HA:=aT h;have HTT:=aT HT;have HLL:=aT hL;have K0:Hid (KT C w (w.alloc (.cells C.val 76))):=aT ⟨au _ _,(bR _ _).alloc (bv _) _⟩;clear h HT hL
 go_enter (fx (by decide) Tryz.func34),Tryz.ntmps34
 go_upto_region 1 with fail
 obtain⟨W0,kS⟩:∃W0:World,W0=w.alloc (.cells C.val 76):=⟨_,rfl⟩
 rw[<-kS]at K0 ⊢;clear kS;obtain⟨r,s,t,y,f4,z⟩:=bf K0.out.box
 go_wp2_with (go_at_call 32;refine(HTT.out _ (HA.out.below K0.out.low)).mono ?_;rintro e w2⟨k,rfl,hR,qA⟩;have k2:=K0.out.on qA;clear qA r s t y f4 z;have K2:Hid (KR C w k L w2.heap.size w2):=aT (KR.mk (bv _) hR.1 (aS k2.box) k2.box hR k2.low);clear k2 hR;obtain⟨r,s,t,y,f4,z⟩:=bf K2.out.box)
 go_loopw [4,19] (λv4 O wr=>∃a:Nat,a<=C.n5/\O=.int .i64 a/\kV wr w2.heap.size v4 (aas L C.n4 C.n5 a)/\KR C w k L w2.heap.size wr) (λ_ O _=>C.n5-(intOf O).toNat)
 case atStart=>exact⟨0,bx _,rfl,⟨rfl,.inl ⟨rfl,rfl⟩⟩,K2.out⟩
 case round=>
  obtain⟨a,ha,rfl,I,J⟩:=hrel;clear r s t y f4 z;have HO:=aT I;have HK:=aT J;clear I J K2;obtain⟨r,s,t,y,f4,z⟩:=bf HK.out.box;by_cases aH:a<C.n5
  ·have i1:(a:Int)<C.n5:=by omega
   have i3:(a:Int)<3:=by omega
   clear r s t y f4 z
   go_wp2
   go_loopw [4,6] (λv4 v6 wq=>∃b j:Nat,b=a+1+j/\b<=C.n5/\v6=.int .i64 b/\kV wq w2.heap.size v4 (aas L C.n4 C.n5 a++N5 L C.n4 a j)/\KR C w k L w2.heap.size wq) (λ_ v6 _=>C.n5-(intOf v6).toNat)
   case atStart=>exact⟨a+1,0,rfl,aH,by go_num,by simpa[N5]using HO.out,HK.out⟩
   case round=>
    obtain⟨b,j,hb,eP,rfl,I,J⟩:=hrel;have A:=aT hb;have hab:a<b:=by omega
    have P:=aT I;have B:=aT J;clear I J HO HK hb;obtain⟨r,s,t,y,f4,z⟩:=bf B.out.box;by_cases arI:b<C.n5
    ·have i2:(b:Int)<C.n5:=by omega
     have i6:(b:Int)<3:=by omega
     go_wp2
     go_loopw [4,36] (λv4 Q wp=>∃p:Nat,p<=C.n4/\Q=.int .i64 p/\kV wp w2.heap.size v4 (aas L C.n4 C.n5 a++N5 L C.n4 a j++aaD L a b p)/\KR C w k L w2.heap.size wp) (λ_ Q _=>C.n4-(intOf Q).toNat)
     case atStart=>exact⟨0,bx _,rfl,by simpa[aaD]using P.out,B.out⟩
     case round=>
      obtain⟨p,hp,rfl,I,J⟩:=hrel;have HO3:=aT I;have f:=aT J;clear I J P B r s t y f4 z;by_cases aof:p<C.n4
      ·have i4:(p:Int)<C.n4:=by omega
       have i5:(p:Int)<5:=by omega
       have cell:∀j,j<75->wr.cell? ⟨k,j,none⟩=some (.int .i64 (L.getD j 0)):=λj hj=>f.out.row.getD (by rw[HLL.out];exact hj);obtain⟨a0,ea0⟩:∃x,x=L.getD (a*25+p*5) 0:=⟨_,rfl⟩
       obtain⟨a1,R⟩:∃x,x=L.getD (a*25+p*5+1) 0:=⟨_,rfl⟩
       obtain⟨a2,S⟩:∃x,x=L.getD (a*25+p*5+2) 0:=⟨_,rfl⟩
       obtain⟨a3,U⟩:∃x,x=L.getD (a*25+p*5+3) 0:=⟨_,rfl⟩
       obtain⟨a4,V⟩:∃x,x=L.getD (a*25+p*5+4) 0:=⟨_,rfl⟩
       obtain⟨b0,eb0⟩:∃x,x=L.getD (b*25+p*5) 0:=⟨_,rfl⟩
       obtain⟨g,X⟩:∃x,x=L.getD (b*25+p*5+1) 0:=⟨_,rfl⟩
       obtain⟨E,Y⟩:∃x,x=L.getD (b*25+p*5+2) 0:=⟨_,rfl⟩
       obtain⟨K,Z⟩:∃x,x=L.getD (b*25+p*5+3) 0:=⟨_,rfl⟩
       obtain⟨F,eb4⟩:∃x,x=L.getD (b*25+p*5+4) 0:=⟨_,rfl⟩
       have T:Hid (wr.cell? ⟨k,a*25+p*5,none⟩=some (.int .i64 a0)/\wr.cell? ⟨k,a*25+p*5+1,none⟩=some (.int .i64 a1)/\wr.cell? ⟨k,a*25+p*5+2,none⟩=some (.int .i64 a2)/\wr.cell? ⟨k,a*25+p*5+3,none⟩=some (.int .i64 a3)/\wr.cell? ⟨k,a*25+p*5+4,none⟩=some (.int .i64 a4)/\
        wr.cell? ⟨k,b*25+p*5,none⟩=some (.int .i64 b0)/\wr.cell? ⟨k,b*25+p*5+1,none⟩=some (.int .i64 g)/\wr.cell? ⟨k,b*25+p*5+2,none⟩=some (.int .i64 E)/\wr.cell? ⟨k,b*25+p*5+3,none⟩=some (.int .i64 K)/\wr.cell? ⟨k,b*25+p*5+4,none⟩=some (.int .i64 F)):=aT
        ⟨by rw[ea0];exact cell _ (by omega),by rw[R];exact cell _ (by omega),by rw[S];exact cell _ (by omega),by rw[U];exact cell _ (by omega),by rw[V];exact cell _ (by omega),by rw[eb0];exact cell _ (by omega),by rw[X];exact cell _ (by omega),by rw[Y];exact cell _ (by omega),by rw[Z];exact cell _ (by omega),by rw[eb4];exact cell _ (by omega)⟩
       obtain⟨mt,hmt⟩:∃m,m=abO a1 a2 a3 a4 g E K F:=⟨_,rfl⟩
       have ET:Hid (IU L a b p=(a,(b:Int),(p:Int),mt,max a1 g)):=aT (by rw[IU,hmt,R,S,U,V,X,Y,Z,eb4]);have HMT:=aT hmt;have Ll:=f.out.row.1;clear cell ea0 R S U V eb0 X Y Z eb4 hmt;obtain⟨r,s,t,y,f4,z⟩:=bf f.out.box
       go_upto_region 12 with fail
       clear r s t y f4 z;refine iL 17 14 (λ_ W=>Below wr.heap.size wr W) (λW W'=>Below W.heap.size W W') ExT (λ_=>IG wr.heap.size #[.int .i64 a0,.int .i64 a1,.int .i64 a2,.int .i64 a3,.int .i64 a4]) neT (λ_ _ _ _ h e=>(h (e.symm.imp And.symm And.symm)).symm) rfl (by kernel_rfl) (by kernel_rfl) rfl
        (λ_ i vs W W' hle h=>h.le hle) (λi o ho vs eX W he aaZ _ h=>⟨λe=>by subst e;rw[<-he];exact h.1 rfl,λe=>by subst e;rw[<-he];exact h.2.1 rfl,λe=>?_⟩) (bR _ _).drew ?_
       ·subst e;have e14:vs 14=eX 14:=by
         simp only[a7,a8,a9,Option.some.injEq]at ho;subst ho;exact aaZ ⟨14,.data⟩ (cH.2 ⟨by simp,rfl⟩)
        rw[<-e14];exact h.2.2 rfl
       iterate 14 (
        apply iK
        case hE=>rfl
        case h=>
         intro vs W _ l hd;obtain⟨t0,t1,t2,t3,t4,t5,t6,t7,t8,t9⟩:=T.out;rw[<-l.cell (p:=⟨k,_,none⟩) Ll]at t0 t1 t2 t3 t4 t5 t6 t7 t8 t9
         go_simp
         exact⟨rfl,bR _ _⟩
        case hb=>exact hbT)
       iterate 2 (
        apply ey
        case hE=>rfl
        case hb=>exact hbT
        case h=>
         intro vs W D _ _ l _ hi _ hd hP
         go_simp
         exact⟨l.alloc l.size _,Sl l.size (by simp) hd⟩)
       apply ey
       case hE=>rfl
       case hb=>exact hbT
       case h=>
        intro vs W D _ _ l jw hi _ hd hP;have m14:14∈D:=jw ⟨14,.data⟩ (cH.2 ⟨by simp,rfl⟩);have m15:15∈D:=jw ⟨15,.phase⟩ (cH.2 ⟨by simp,rfl⟩);obtain⟨ka,H,hla,alY,x0,x1,x2,x3,x4,M⟩:=(hd 14 m14 rfl).1 rfl;obtain⟨n,NZ,Tg,ab0,iC⟩:=(hd 15 m15 rfl).2.1 rfl;have bu:n≠ka:=λe=>hP 14 m14 15 m15 (by decide) rfl rfl (.inl ⟨rfl,rfl⟩) (by rw[H,NZ,e]);have fz:=tO M;rw[H];obtain⟨y0,y1,y2,y3,y4⟩:=qO M
        go_simp
        refine⟨Below.ag3 l hla _ _ _ _ _,λj hj hE=>?_,⟨λe=>absurd e (by decide),λe=>absurd e (by decide),λ_=>⟨ka,by simp[upd,H],tD M⟩⟩,λj _ _ e=>by omega⟩;refine⟨λe=>⟨ka,H,hla,by simpa using alY,_,_,_,_,_,tD M⟩,λe=>⟨n,NZ,Tg,by simpa using ab0,(gh bu).trans iC⟩,λe=>⟨ka,H,tD M⟩⟩
       refine nv λvs W _ _ l hd hX=>?_;obtain⟨ka,H,M⟩:=(hd 16 (by omega) rfl).2.2 rfl;obtain⟨n,NZ,Tg,ab0,iC⟩:=(hd 15 (by omega) rfl).2.1 rfl;have bu:ka≠n:=λe=>hX 14 15 (by omega) (by omega) (by omega) rfl rfl (.inl ⟨rfl,rfl⟩) (by rw[H,NZ,e]);have NE:=aT bu;have HBA:=aT M;have wC:=aT iC;have HC:=aT l;have HLB:=aT Tg;obtain⟨y0,y1,y2,y3,y4⟩:=qO iC;have fz:=tO iC;rw[H,NZ];clear M iC l hd hX H NZ bu Tg
       go_upto_region 13 with fail
       obtain⟨W2,vp⟩:∃W2:World,W2=((((W.setCell ⟨n,0,none⟩ (.int .i64 b0)).setCell ⟨n,1,none⟩ (.int .i64 g)).setCell ⟨n,2,none⟩ (.int .i64 E)).setCell ⟨n,3,none⟩ (.int .i64 K)).setCell ⟨n,4,none⟩ (.int .i64 F):=⟨_,rfl⟩
       have BA:Hid (W2.heap[ka]?=some (.cells #[.int .i64 a0,.int .i64 a1,.int .i64 a2,.int .i64 a3,.int .i64 a4] 45)):=aT (by rw[vp];exact(gh NE.out).trans HBA.out);have BB:Hid (W2.heap[n]?=some (.cells #[.int .i64 b0,.int .i64 g,.int .i64 E,.int .i64 K,.int .i64 F] 45)):=aT (by rw[vp];exact tD wC.out);have HB:Hid (Below wr.heap.size wr W2):=aT (by rw[vp];exact Below.ag3 HC.out HLB.out _ _ _ _ _);rw[<-vp];clear vp y0 y1 y2 y3 y4 fz HBA wC HC HLB NE;clear T Ll
       go_cut [10] from 37 to 111 (fun(v10:Value)(wx:World)=>v10=.int .i64 mt/\wx=W2)
       case first=>
        obtain⟨z0,z1,z2,z3,z4⟩:=qO BA.out;obtain⟨y0,y1,y2,y3,y4⟩:=qO BB.out;have la:=aS BA.out;have lb:=aS BB.out;have s1:(a1<F/\g<a4)\/(a1<F/\¬g<a4)\/¬a1<F:=by omega
        have s2:(a3<=E)\/(¬a3<=E/\K<=a2)\/(¬a3<=E/\¬K<=a2):=by omega
        rcases s1 with⟨e1,e2⟩|⟨e1,e2⟩|e1<;>rcases s2 with e3|⟨e3,e4⟩|⟨e3,e4⟩
        all_goals (
         go_wp2_with (go_at_call 47;refine(yH _ _ _).mono ?_;rintro e w'⟨rfl,rfl⟩)
         go_meet
         case rel=>
          refine⟨?_,rfl⟩;rw[HMT.out,abO]
          first|rw[show(decide (a1<F)&&decide (g<a4))=true by simp;omega]|rw[show(decide (a1<F)&&decide (g<a4))=false by simp;omega]
          first|rw[show(decide (a3<=E)||decide (K<=a2))=true by simp;omega]|rw[show(decide (a3<=E)||decide (K<=a2))=false by simp;omega])
       case rest=>
        obtain⟨rfl,rfl⟩:=hcut;obtain⟨z0,z1,z2,z3,z4⟩:=qO BA.out;obtain⟨y0,y1,y2,y3,y4⟩:=qO BB.out;have la:=aS BA.out;have lb:=aS BB.out;have q1:=Rw;have q2:=Kv;have O2:=aT (HO3.out.on HB.out);have K2:=aT (f.out.on HB.out)
        go_upto_region 16 with fail
        obtain⟨mx,hmx⟩:∃m,max a1 g=m:=⟨_,rfl⟩
        rw[hmx];have HMX:Hid (IU L a b p=(a,(b:Int),(p:Int),mt,mx)):=aT (by rw[ET.out,hmx]);clear hmx z0 z1 z2 z3 z4 y0 y1 y2 y3 y4 la lb;obtain⟨N,Sn⟩:∃N:World,N=(wc.alloc (.cells #[.int .i64 a,.int .i64 b,.int .i64 p,.int .i64 mt,.int .i64 mx] 49)).alloc (.cells #[.int .i64 a,.int .i64 b,.int .i64 p,.int .i64 2,.int .i64 mx] 49):=⟨_,rfl⟩
        have r1:N.heap[wc.heap.size]?=some (.cells #[.int .i64 a,.int .i64 b,.int .i64 p,.int .i64 mt,.int .i64 mx] 49):=by rw[Sn];exact(((bR _ (wc.alloc _)).alloc (bv _) _).block _ (by simp)).trans (au wc _)
        have r2:N.heap[wc.heap.size+1]?=some (.cells #[.int .i64 a,.int .i64 b,.int .i64 p,.int .i64 2,.int .i64 mx] 49):=by
         have h:=au (wc.alloc (.cells #[.int .i64 a,.int .i64 b,.int .i64 p,.int .i64 mt,.int .i64 mx] 49)) (.cells #[.int .i64 a,.int .i64 b,.int .i64 p,.int .i64 2,.int .i64 mx] 49);rw[aw]at h;rw[Sn];exact h
        have O4:=aT (show kV N w2.heap.size u4 _ by rw[Sn];exact(O2.out.alloc _).alloc _);have K4:Hid (KR C w k L w2.heap.size N):=aT (by rw[Sn];exact(K2.out.alloc _).alloc _);rw[<-Sn];clear Sn;have z1:=aS r1;have z2:=aS r2;obtain⟨c0,c1,c2,c3,c4⟩:=qO r1;obtain⟨d0,d1,d2,d3,d4⟩:=qO r2;clear r1 r2;by_cases hm2:mt=2
        ·subst hm2
         go_wp2
         exact⟨⟨p+1,aof,by go_num,by rw[aaD,if_pos (by rw[HMX.out]),bm];exact O4.out,K4.out⟩,by simp only[intOf];omega⟩
        ·obtain⟨i0,hi,mF,dx,wD⟩:=info_parts aaX;have NB:=aT K4.out.pK;have Tl:(aas L C.n4 C.n5 a++N5 L C.n4 a j++aaD L a b p).length<=80:=by
          have:=ahd L h4 h5 a;have:=KD L h4 a j;have:=acH L a b p;have:=A.out;simp only[bo];omega
         have HLN:=aT Tl;clear Tl
         go_wp2_with (at_builtin;refine wpList_append_own _ rfl _ _ _ rfl w2.heap.size 49 i0 _ 5 40 ag2 hi mF dx wD rfl (by decide) u4 _ _ rfl (O4.out.alloc _) ⟨N.heap.size,0,none⟩ 1 1 (vV (a,(b:Int),(p:Int),mt,mx)) rfl rfl (Sm (x:=(a,(b:Int),(p:Int),mt,mx)) (au N _)) (by simp[vV,Value.oneCell']) (by have:=HLN.out;simp only[maxLen];omega) (by have:=HLN.out;omega) (by have:=NB.out;simp;omega) ?_;intro v' w4 h1 h2 _;have H1:=aT h1;have H2:=aT h2;clear h1 h2)
         have bu:=cZ O4.out;have d:=K4.out.alloc (.cells #[.int .i64 a,.int .i64 b,.int .i64 p,.int .i64 mt,.int .i64 mx] 49);have hg:=(bR w2.heap.size _).grown H2.out d.pK bu;refine⟨⟨p+1,aof,by go_num,?_,bL d.pK H2.out.size,d.kl,d.bl,(hg.block _ d.bl).trans d.box,⟨bC d.row.1 H2.out.size,λj u e=>(hg.cell (p:=⟨k,j,none⟩) d.kl).trans (d.row.2 j u e)⟩,d.low.grown H2.out d.low.size λq e=>bL (bM d.bl) (bu q e)⟩,by simp only[intOf];omega⟩;rw[aaD,if_neg (by rw[HMX.out];exact hm2),HMX.out,<-bp];unfold kV;rw[bo,List.flatMap_append];simpa using H1.out
      ·obtain rfl:p=C.n4:=by omega
       go_wp2
       exact⟨⟨b+1,j+1,by rw[A.out];rfl,arI,by go_num,by rw[N5,<-A.out,<-bp];exact HO3.out,f.out⟩,by simp only[intOf];omega⟩
    ·have hbn:b=C.n5:=by omega
     have i2:¬((b:Int)<C.n5):=by omega
     go_wp2
     exact⟨⟨a+1,aH,by go_num,by rw[aas,show C.n5-(a+1)=j by have:=A.out;omega];exact P.out,B.out⟩,by simp only[intOf];omega⟩
  ·obtain rfl:a=C.n5:=by omega
   obtain⟨b,c,rfl⟩:=vB HO.out;have hm:=abP L h4 h5
   go_wp2_with (go_at_call 63;refine(afk _ _ HO.out (by omega)).mono ?_;rintro e w3⟨rfl,hO3,qi⟩)
   go_ret
   exact⟨_,rfl,dJ hO3 (bM HK.out.bl),HK.out.low.trans (qi.mono (bM HK.out.bl))⟩
def Cv(d:Int)(p:Nat):List nR:=if d=1/\p=3 then[(0,1,2,0,13)] else[]
def am5{d:Int}(hd:d=0\/d=1):acE (mC d) 3 2=Cv d 3:=by
 rcases hd with rfl|rfl<;>decide +kernel
def vC(C:CD)(d:Int)(hd:d=0\/d=1)(a:C.n4=3)(b:C.n5=2)(w:World)(h:C.At w)
 (c:∀W,C.At W->Calls PL 32 #[.agg C.val] W λe w'=>∃k,e=.returned (.pointer (some ⟨k,0,none⟩))/\Row w' k ((mC d).map bh)/\Below W.heap.size W w') :
 Calls PL 34 #[.agg C.val] w λe w'=>∃v,e=.returned v/\kV w' w.heap.size v (Cv d 3)/\Below w.heap.size w w':=by
 have:=abo C (mC d) (by rcases hd with rfl|rfl<;>rfl) (by omega) (by omega) w h c;rwa[a,b,am5 hd]at this
abbrev So(a b c:Nat):Value:=.func (.func 49) #[] #[.pointer (some ⟨a,0,none⟩),.pointer (some ⟨b,0,none⟩),.pointer (some ⟨c,0,none⟩)]
structure DE(V:Array Value)(k2 k3 k4 k5 la ca lb cb Bc Bd Bt B1:Nat)(W:World):Prop where
 lo:k2<B1/\k3<B1/\k4<B1/\k5<B1/\la<B1/\lb<B1/\Bc<B1/\Bd<B1/\Bt<B1
 hi:B1<=W.heap.size
 c:W.heap[Bc]?=some (.cells V 27)
 d:∃v,W.heap[Bd]?=some (.cells #[v] 53)
 t:W.heap[Bt]?=some (.cells #[So Bc Bd Bt] 102)
 ex:CJ W k2 k3 k4 k5 la ca lb cb 1
def Row.XM{W a:World}{k B:Nat}{l:List Value}(h:Row W k l)(c:k<B)(b:Below B W a):Row a k l:=
 ⟨bC h.1 b.size,λj v e=>(b.cell (p:=⟨k,j,none⟩) c).trans (h.2 j v e)⟩
def DE.XM{V:Array Value}{k2 k3 f g i ca lb j k l m b:Nat}{W n:World}(h:DE V k2 k3 f g i ca lb j k l m b W)(a:Below b W n):DE V k2 k3 f g i ca lb j k l m b n:=by
 obtain⟨a1,a2,a3,a4,o,p,q,r,s⟩:=h.lo;exact⟨h.lo,bL h.hi a.size,(a.block _ q).trans h.c,h.d.imp λ_ e=>(a.block _ r).trans e,(a.block _ s).trans h.t,⟨h.ex.r2.XM a1 a,h.ex.r3.XM a2 a,h.ex.r4.XM a3 a,h.ex.r5.XM a4 a,h.ex.ra.XM o a,h.ex.rb.XM p a⟩⟩
def DE.on{V:Array Value}{k2 k3 b f g ca lb i j k l m:Nat}{W n:World}(h:DE V k2 k3 b f g ca lb i j k l m W)(a:Below W.heap.size W n):DE V k2 k3 b f g ca lb i j k l m n:=
 ⟨h.lo,bL h.hi a.size,(a.block _ (aS h.c)).trans h.c,h.d.imp λ_ e=>(a.block _ (aS e)).trans e,(a.block _ (aS h.t)).trans h.t,h.ex.on a⟩
def DP(a b:Nat)(w:World)(e:Ending)(w':World):Prop:=e=.returned (.bool true)/\(∃v,w'.heap[b]?=some (.cells #[v] 53)/\bB w' v [0,0])/\Below a w w'
def Sr{k2 a k3 c3 b c d e f ca lb g:Nat}:qP (ir k2 a k3 c3 b c d e f ca lb g 0) (ir k2 a k3 c3 b c d e f ca lb g 0).n5=true:=by kernel_rfl
def Ss{k2 a k3 c3 d f g i j ca lb k:Nat}(w:World)(h:(ir k2 a k3 c3 d f g i j ca lb k 0).At w):Calls PL 50 #[.agg (ir k2 a k3 c3 d f g i j ca lb k 0).val] w (aO (.bool true) w):=by
 have m:=VY (ir k2 a k3 c3 d f g i j ca lb k 0) 0 w h (yQ (.inl rfl)) (by simp[ir]) λW n=>(vC _ 0 (.inl rfl) rfl rfl W n λq l=>tA (.inl rfl) ⟨k2,a,k3,c3,d,f,g,i,j,ca,lb,k,rfl⟩ l).mono ?_
 ·rw[Sr]at m;exact m
 ·rintro e w'⟨v,rfl,o,p⟩;obtain⟨b,c,rfl⟩:=vB o;exact⟨b,c,rfl,p⟩
def VZ{W:World}{base e size n B:Nat}{v u:Value}{xs:List Value}(h:W.ownsRow base e size v n xs)(d:B<base):(W.setCell ⟨B,0,none⟩ u).ownsRow base e size v n xs:=by
 obtain⟨b,h⟩:=h
 rcases h with h|⟨g,cap,a,e1,hb,hg,c⟩
 ·exact⟨b,.inl h⟩
 ·exact⟨b,.inr ⟨g,cap,a,e1,hb,(aZ (by omega)).trans hg,c⟩⟩
def Su{k2 I k3 c3 o J q K r ca lb s L k M X N:Nat}{l:Value}(w:World)(h:DE (ir k2 I k3 c3 o J q K r ca lb s 1).val k2 k3 o q r ca lb s L k M X w)(hl:bB w l [0,0])(O:N<=k) :
 Calls PL 49 #[l,.int .i64 0,.pointer (some ⟨L,0,none⟩),.pointer (some ⟨k,0,none⟩),.pointer (some ⟨M,0,none⟩)] w (DP N k w):=by
 have P:=aT hl;obtain⟨b,c,rfl,Q⟩:=hl;obtain⟨g,m,rfl,t,x⟩:=Q (by simp);have y:=aT h;have Y:=aT (x 0 (by simp));have Z:=aT (x 1 (by simp));simp only[a5,a6,bt]at P ⊢;have R:Hid (∀W,CJ W k2 k3 o q r ca lb s 1->bB W (.slice (some ⟨g,m,none⟩) 2 c) [0,0]->Calls PL 37 #[.agg (ir k2 I k3 c3 o J q K r ca lb s 1).val,.slice (some ⟨g,m,none⟩) 2 c] W _):=aT λW hW hR=>yP W hW hR;have z:=h.c;clear h Q x;simp only[ir,CD.val]at R z y;obtain⟨f0,f1,f2,f3,f4,f5⟩:=bf z;clear z
 go_enter (fx (by decide) Tryz.func49),Tryz.ntmps49
 go_upto_region 4 with(first
  |(go_at_call 37;go_must (refine(R.out _ y.out.ex P.out).mono ?_);rintro e w1⟨q2,p2,q3,p3,q4,p4,q5,p5,xa,ya,xb,yb,rfl,S⟩;have i:=aT S;clear S)
  |(go_at_call 50;go_must (refine(Ss _ (Rx i.out.rows.r2 i.out.rows.r3 i.out.rows.r4 i.out.rows.r5 i.out.rows.ra i.out.rows.rb)).mono ?_);rintro e w2⟨rfl,T⟩;have B2:=aT T;clear T))
 have T2:=aT (bX i.out.low B2.out);have U:∀j u,[bh 0,bh 0][j]?=some u->w2.cell? ⟨g,m+j,none⟩=some u:=λj u e=>by
  match j,e with
  |0,e=>cases e;exact(T2.out.cell (p:=⟨g,m,none⟩) t).trans Y.out
  |1,e=>cases e;exact(T2.out.cell (p:=⟨g,m+1,none⟩) t).trans Z.out
 have CL:=aT U;obtain⟨v0,a⟩:=y.out.d;have A:=aT a;have n:=(T2.out.block _ (aS a)).trans a;have B:=aT n;have V:g<w2.heap.size:=bC t T2.out.size;have C:=aT V;clear U a n V
 go_wp2_with (go_at_call 51;go_must (refine(tC g m 2 c [bh 0,bh 0] _ rfl CL.out (by simp[Value.oneCell']) (by omega) C.out).mono ?_);rintro e w3⟨v,rfl,hv,D,E⟩;have f:=(E.block _ (aS B.out)).trans B.out;have fz:=tO f;have y0:w3.cell? ⟨k,0,none⟩=some v0:=(by simp[aF,f]);obtain⟨bb,cc,rfl⟩:=vB D;have F:=aT f;have HO:=aT D;have B3:=aT E;clear f D E hv)
 go_ret
 have H:k<w2.heap.size:=aS B.out;refine⟨rfl,⟨_,yV F.out,eO.reads (e:=3) (base:=w2.heap.size) (VZ HO.out H)⟩,((bX T2.out B3.out).mono (bL O (bM (aS A.out)))).setCell O _⟩
def yX{T e:aa}(a:PL.underlying T=some (.slice e))(c:(PL.info? e).map (λi=>(i.zero,i.size,i.bytes))=some (some (.int .i64 0),1,8)){ops:Array Oper}{o:Oper}{b:Act}{K:Value->World->Prop}{W:World}(d:o.guard=none)(s x:ae)
 (f:o.op=.call { callee:=.builtin .append,args:=#[s,x],argTypes:=#[T,T] }) (base:Nat) (v:Value) (l:List Int) (j:Int) (k:Nat) (hs:b.eval s=v) (g:eO e W base v l)
 (m:b.eval x=.slice (some ⟨k,0,none⟩) 1 1) (hc:W.cell? ⟨k,0,none⟩=some (.int .i64 j)) (hl:l.length<=1000) (n:base<=W.heap.size)
 (h:∀v' w',eO e w' base v' (l++[j])->W.grownBy w' v.ownBlock->K v' w'):fC PL ops K o b W:=by
 obtain⟨p,hi,r,t,y⟩:=info_parts c
 obtain⟨v',w',z,A,B,_⟩:=run_append_own (P:=PL) (w:=W) base T o.type e p (.int .i64 0) 1 8 a hi r t y rfl (by decide) v l.length _ g ⟨k,0,none⟩ 1 1 [.int .i64 j] rfl (λq u e=>by
  match q,e with
  |0,e=>cases e;exact hc) (by simp[Value.oneCell']) (by simp only[maxLen];omega) (by omega) n
 unfold fC;rw[if_pos (by simp[Region.wanted,d])];unfold ag;simp only[f,resolve,invoke,builtin,Sem.run_bind,Sem.run_pure,Result.andThen_ok,List.map_toArray,List.map_cons,List.map_nil,hs,m,z];refine h v' w' ?_ B;unfold eO;rw[bo,List.map_append];exact A
structure CT(V:Array Value)(k2 k3 k4 k5 la ca lb cb Bc Bd Bt B1:Nat)(w1:World)(b:Bool)(W:World):Prop where
 de:DE V k2 k3 k4 k5 la ca lb cb Bc Bd Bt B1 W
 low:Below B1 w1 W
 old:b=false->Below w1.heap.size w1 W
def V1(n0 a:Nat)(xs:List Int)(j:Nat)(vs:Nat->Value)(W:World):Prop:=
 (j=3->∃k,vs 3=.slice (some ⟨k,0,none⟩) 1 1/\n0<=k/\W.heap[k]?=some (.cells #[.int .i64 0] 3))/\
 (j=4->eO 3 W a (vs 4) (xs++[0]))
def V1.le{n0 b:Nat}{xs:List Int}{j:Nat}{vs:Nat->Value}{W c:World}(h:V1 n0 b xs j vs W)(d:Below W.heap.size W c):V1 n0 b xs j vs c:=
 ⟨λe=>(h.1 e).imp λ_ a=>⟨a.1,a.2.1,(d.block _ (aS a.2.2)).trans a.2.2⟩,λe=>(h.2 e).on d⟩
def ExD(t:Nat):Bool:=t != 3&&t != 4
def Fq{k2 x k3 c3 f y g z m ca lb p v r s d F:Nat}{l:Value}(xs:List Int)(L:xs.length<2)(w:World)(h:DE (ir k2 x k3 c3 f y g z m ca lb p 1).val k2 k3 f g m ca lb p v r s d w)(hl:eO 3 w d l xs)(cB:F<=d)
 (M:∀W l',DE (ir k2 x k3 c3 f y g z m ca lb p 1).val k2 k3 f g m ca lb p v r s d W->eO 3 W d l' (xs++[0])->Calls PL 49 #[l',.int .i64 0,.pointer (some ⟨v,0,none⟩),.pointer (some ⟨r,0,none⟩),.pointer (some ⟨s,0,none⟩)] W (DP F r W)) :
 Calls PL 49 #[l,.int .i64 0,.pointer (some ⟨v,0,none⟩),.pointer (some ⟨r,0,none⟩),.pointer (some ⟨s,0,none⟩)] w (DP F r w):=by
 obtain⟨b,c,rfl⟩:=vB hl;have HX:=aT h;have N:=aT hl;have IH:=aT M;have O:=h.c;have i1:¬((xs.length:Int)=2):=by omega
 have H:=aT L;clear h hl M L;obtain⟨P,Q,R,S,f4,T⟩:=bf O;clear O;simp only[ir]at P Q R S f4 T
 go_enter (fx (by decide) Tryz.func49),Tryz.ntmps49
 go_wp2
 go_loopw [8] (λv8 wr=>v8=.int .i64 0/\wr=w) (λ_ _=>0)
 case atStart=>exact⟨rfl,rfl⟩
 case round=>
  obtain⟨rfl,hw⟩:=hrel;subst hw
  go_upto_region 9 with(go_at_call 36;refine(uK (n:=0) rfl _).mono ?_;rintro e w'⟨rfl,rfl⟩)
  have C0:Hid (CT (ir k2 x k3 c3 f y g z m ca lb p 1).val k2 k3 f g m ca lb p v r s d wr false wr.drew):=aT ⟨HX.out.on (bR _ _).drew,(bR _ _).drew,λ_=>(bR _ _).drew⟩;clear P Q R S f4 T i1;refine iL 8 4 (CT (ir k2 x k3 c3 f y g z m ca lb p 1).val k2 k3 f g m ca lb p v r s d wr) (λW U=>Below W.heap.size W U) ExD (λ_=>V1 wr.heap.size d xs) (λ_ _ _ _=>True) (λ_ _ _ _ _=>trivial) rfl (by kernel_rfl) (by kernel_rfl) rfl
   (λ_ i vs W U I h=>h.le I) (λi o ho vs eX W V _ _ h=>⟨λe=>by subst e;rw[<-V];exact h.1 rfl,λe=>by subst e;rw[<-V];exact h.2 rfl⟩) C0.out ?_
  iterate 3 (
   apply iK
   case hE=>rfl
   case h=>
    intro vs W b a hd;have A:=a.de.t;have t0:W.cell? ⟨s,0,none⟩=some (So v r s):=by simp[aF,A]
    clear A
    go_simp
    first
    |exact⟨rfl,bR _ _⟩
    |exact⟨rfl,a,bR _ _⟩
   case hb=>exact hbT)
  apply ey
  case hE=>rfl
  case hb=>exact hbT
  case h=>
   intro vs W D b hb a X hi _ hd hP;have u:=(bR W.heap.size W).alloc (bv _) (.cells #[.int .i64 0] 3);have B:Hid (CT (ir k2 x k3 c3 f y g z m ca lb p 1).val k2 k3 f g m ca lb p v r s d wr b (W.alloc (.cells #[.int .i64 0] 3))):=aT ⟨a.de.on u,a.low.trans (u.mono a.de.hi),λe=>bX (a.old e) u⟩;have HW:=aT (a.low.size);clear a
   go_simp
   exact⟨B.out,λj C J=>(hd j C J).le u,⟨λ_=>⟨W.heap.size,by simp[upd],HW.out,au _ _⟩,λe=>absurd e (by decide)⟩⟩
  apply ey
  case hE=>rfl
  case hb=>exact hbT
  case h=>
   intro vs W D bb iC a X hi _ hd hP;have m3:3∈D:=X ⟨3,.data⟩ (cH.2 ⟨by simp,rfl⟩);obtain⟨q,hq,hql,K⟩:=(hd 3 m3 rfl).1 rfl;have hold:=a.old (iC rfl);have Y:=N.out.on hold;have bu:=cZ Y;have aH:∀j,Value.ownBlock (.slice b xs.length c)=some j->j<wr.heap.size:=λj e=>by
    obtain⟨cur,hc⟩:=qm N.out j e;exact aS hc
   refine yX Rz RE rfl _ _ rfl d (.slice b xs.length c) xs 0 q rfl Y hq (by simp[aF,K]) (by have:=H.out;omega) a.de.hi λv' w' h1 Z=>?_;have u:Below d W w':=(bR d W).grown Z a.de.hi bu;refine⟨⟨a.de.XM u,a.low.trans u,λe=>by simp at e⟩,λj C J=>⟨λe=>?_,λe=>absurd C (by rw[e];exact hi)⟩,⟨λe=>absurd e (by decide),λ_=>by simpa[upd]using h1⟩,λ_ _ _=>trivial⟩;refine((hd j C J).1 e).imp λk E=>⟨E.1,E.2.1,(Z.block k (aS E.2.2) λe=>?_).trans E.2.2⟩
   have:=aH _ e.symm;omega
  iterate 3 (
   apply iK
   case hE=>rfl
   case h=>
    intro vs W b a hd
    go_simp
    exact⟨rfl,bR _ _⟩
   case hb=>exact hbT)
  refine nv λvs W bb _ a hd _=>?_;have hO:=(hd 4 (by omega) rfl).2 rfl;have HO:=aT hO;have B:=aT a;clear hd hO a
  go_wp2_with (go_at_call 49;go_must (refine(IH.out _ _ B.out.de HO.out).mono ?_);rintro e w2⟨rfl,hp,u⟩)
  go_ret
  exact⟨rfl,hp,(B.out.low.mono cB).trans u⟩
def ab1{k2 m k3 c3 d n e o f ca lb g i a j k b:Nat}(w:World)(h:DE (ir k2 m k3 c3 d n e o f ca lb g 1).val k2 k3 d e f ca lb g i a j k w)(p:b<=a)(l:b<=k) :
 Calls PL 49 #[.slice none 0 0,.int .i64 0,.pointer (some ⟨i,0,none⟩),.pointer (some ⟨a,0,none⟩),.pointer (some ⟨j,0,none⟩)] w (DP b a w):=
 Fq [] (by decide) w h ⟨rfl,.inl ⟨rfl,rfl⟩⟩ l λW t q hl=>Fq [0] (by decide) W q hl l λr u s c=>Su r s (eO.reads c) p
end Go.Proofs
namespace Go.Proofs
open Go.RowKit Go.Shelf
set_option maxRecDepth 100000
set_option maxHeartbeats 4000000
def Cw{P:Program}{w:World}{a:Addr}{m:Mode}(f:Fn)(ts b:Array Value):(store a (.func f ts b) m).run P w=stored P w a (.func f ts b) m:=run_store P w a _ m rfl
attribute [local go_sem] Cw
def V2{w:World}{B:Nat}{v:Value}{t:aa}(h:w.heap[B]?=some (.cells #[v] t)):Below w.heap.size w (w.setCell ⟨B,0,none⟩ v):=
 ⟨rfl,rfl,rfl,by simp,λk _=>by
   by_cases e:k=B
   ·subst e;rw[yV h,h]
   ·exact aZ (Ne.symm e)⟩
structure KDl(V:Array Value)(w:World)(W:World):Prop where
 c:W.heap[w.heap.size]?=some (.cells V 27)
 d:W.heap[w.heap.size+1]?=some (.cells #[.slice none 0 0] 53)
 low:Below w.heap.size w W
def KDl.on{V:Array Value}{w W b:World}(h:KDl V w W)(a:Below W.heap.size W b):KDl V w b:=
 ⟨(a.block _ (aS h.c)).trans h.c,(a.block _ (aS h.d)).trans h.d,bX h.low a⟩
def II{k2 i k3 c3 a j b k f ca lb g:Nat}(w:World)(h:CJ w k2 k3 a b f ca lb g 1) :
 Calls PL 20 #[.agg (ir k2 i k3 c3 a j b k f ca lb g 1).val] w λe w'=>∃v,e=.returned (.tuple #[v,.bool true,.int .i64 0])/\bB w' v [0,0]/\Below w.heap.size w w':=by
 have l:=aT h
 have q:Hid (KDl (ir k2 i k3 c3 a j b k f ca lb g 1).val w ((w.alloc (.cells (ir k2 i k3 c3 a j b k f ca lb g 1).val 27)).alloc (.cells #[.slice none 0 0] 53))):=aT (by
  refine⟨(((bR (w.alloc _).heap.size _).alloc (bv _) _).block _ (by simp)).trans (au w _),?_,((bR _ _).alloc (bv _) _).alloc (by simp) _⟩;have h:=au (w.alloc (.cells (ir k2 i k3 c3 a j b k f ca lb g 1).val 27)) (.cells #[.slice none 0 0] 53);rw[aw]at h
  exact h)
 have M:Hid (∀W,CJ W k2 k3 a b f ca lb g 1->Calls PL 35 #[.agg (ir k2 i k3 c3 a j b k f ca lb g 1).val] W (aO (.int .i64 0) W)):=aT λW Y=>sY (yQ (.inr rfl)) Y.at;clear h;simp only[ir,CD.val]at q M ⊢
 go_enter (fx (by decide) Tryz.func20),Tryz.ntmps20
 go_upto_region 1 with fail
 obtain⟨N,O⟩:∃N:World,N=((w.alloc (.cells #[.int .i64 60,.int .i64 4,.slice (some ⟨k2,0,none⟩) 2 i,.slice (some ⟨k3,0,none⟩) 4 c3,.slice (some ⟨a,0,none⟩) 3 j,.slice (some ⟨b,0,none⟩) 2 k] 27)).alloc (.cells #[.slice none 0 0] 53)):=⟨_,rfl⟩
 rw[<-O]at q ⊢;clear O;obtain⟨z,A,B,C,f4,D⟩:=bf q.out.c
 go_upto_region 4 with(go_at_call 35;go_must (refine(M.out _ (l.out.on q.out.low)).mono ?_);rintro e w1⟨rfl,r⟩;have I:=aT (q.out.on r);clear r z A B C f4 D;obtain⟨z,A,B,C,f4,D⟩:=bf I.out.c)
 go_upto_region 5 with fail
 obtain⟨n,E⟩:∃n:World,n=w1.alloc (.cells #[.nilFunc] 102):=⟨_,rfl⟩
 have r:Below w1.heap.size w1 n:=by rw[E];exact(bR _ _).alloc (bv _) _
 have F:n.heap[w1.heap.size]?=some (.cells #[.nilFunc] 102):=by rw[E];exact au _ _
 rw[<-E];clear E z A B C f4 D;have J:=aT (I.out.on r);have Z:=aT F;have t0:n.cell? ⟨w1.heap.size,0,none⟩=some .nilFunc:=by simp[aF,F]
 have P:=tO F;clear F r
 go_upto_region 6 with fail
 obtain⟨m,H⟩:∃m:World,m=n.setCell ⟨w1.heap.size,0,none⟩ (So w.heap.size (w.heap.size+1) w1.heap.size):=⟨_,rfl⟩
 rw[<-H];have s:=aS I.out.d
 have o:Hid (KDl #[.int .i64 60,.int .i64 4,.slice (some ⟨k2,0,none⟩) 2 i,.slice (some ⟨k3,0,none⟩) 4 c3,.slice (some ⟨a,0,none⟩) 3 j,.slice (some ⟨b,0,none⟩) 2 k] w m):=aT (by
  rw[H]
  exact⟨(aZ (by omega)).trans J.out.c,(aZ (by omega)).trans J.out.d,J.out.low.setCell (p:=⟨w1.heap.size,0,none⟩) (by simp only;omega) _⟩)
 have Q:Hid (DE (ir k2 i k3 c3 a j b k f ca lb g 1).val k2 k3 a b f ca lb g w.heap.size (w.heap.size+1) w1.heap.size (w1.heap.size+1) m):=aT (by
  have e:=l.out.on o.out.low;have l2:=l.out.r2.1;have l3:=l.out.r3.1;have l4:=l.out.r4.1;have l5:=l.out.r5.1;have f:=l.out.ra.1;have lb:=l.out.rb.1;have R:m.heap[w1.heap.size]?=some (.cells #[So w.heap.size (w.heap.size+1) w1.heap.size] 102):=by rw[H];exact yV Z.out
  exact⟨⟨by omega,by omega,by omega,by omega,by omega,by omega,by omega,by omega,by omega⟩,aS R,o.out.c,⟨_,o.out.d⟩,R,e⟩)
 have S:=Q.out.t;have t1:m.cell? ⟨w1.heap.size,0,none⟩=some (So w.heap.size (w.heap.size+1) w1.heap.size):=by simp[aF,S]
 obtain⟨z,A,B,C,f4,D⟩:=bf o.out.c;clear H t0 P S;have K:=aT s;clear s
 go_wp2
 go_loopw [19] (λL wr=>L=.int .i64 0/\wr=m) (λ_ _=>0)
 case atStart=>exact⟨rfl,rfl⟩
 case round=>
  obtain⟨rfl,hw⟩:=hrel;subst hw
  go_wp2_with (go_at_call 49;go_must (refine(ab1 _ Q.out (bw _) (by have:=K.out;omega)).mono ?_);rintro e w3⟨rfl,⟨v,hv,T⟩,U⟩;have HR:=aT T;obtain⟨x,y,rfl,Yc⟩:=T;clear Yc;have y0:w3.cell? ⟨w.heap.size+1,0,none⟩=some (.slice x 2 y):=(by simp[aF,hv]);have P:=tO hv;have V:=aT hv;have X:=aT U;clear hv U)
  have hs:=V2 V.out;have hy:=yV (u:=.slice x 2 y) V.out;refine ad (v:=.tuple #[.slice x 2 y,.bool true,.int .i64 0]) ?_ rfl ⟨_,rfl,HR.out.on hs,(o.out.low.trans X.out).trans (hs.mono (bL o.out.low.size X.out.size))⟩;have hz:=aS hy;have sB:(w3.setCell ⟨w.heap.size+1,0,none⟩ (.slice x 2 y)).cell? ⟨w.heap.size+1,0,none⟩=some (.slice x 2 y):=by simp[aF,hy]
  clear hs;simp[ac,Tryz.results20,go_sem,sB]
end Go.Proofs
namespace Go.Proofs
open Go.RowKit Go.Instr
open Go.ChangeMaps (setBlock)
set_option maxRecDepth 100000
abbrev WE:=Int×Value×List Int×Int
def nD(x:WE):Value:=.agg #[x.2.1,.int .i64 x.2.2.2]
def Cx(i:Nat)(x:WE):ai:={ key:=.int .i64 x.1,val:=nD x,born:=i }
def gi(R:List WE):Array ai:=(R.mapIdx Cx).toArray
structure jy(W:World)(b:Nat)(R:List WE):Prop where
 map:W.heap[b]?=some (.map (gi R) R.length)
 reads:∀x∈R,bB W x.2.1 x.2.2.1
 ne:∀x∈R,x.2.2.1≠[]
def jy.on{W a:World}{b:Nat}{R:List WE}(h:jy W b R)(c:Below W.heap.size W a):jy a b R:=
 ⟨(c.block _ (aS h.map)).trans h.map,λx d=>(h.reads x d).on c,h.ne⟩
def jy.made(w:World):jy (w.alloc (.map #[] 0)) w.heap.size []:=⟨au _ _,λ_ h=>(by cases h),λ_ h=>(by cases h)⟩
def yY:PL.underlying 107=some (.map 3 106):=by kernel_rfl
def V3(w:World):(zeroValue 106).run PL w=.ok (.agg #[.slice none 0 0,.int .i64 0]) w:=by kernel_rfl
def Sv(k:Int):∀(R:List WE)(f:Nat->WE->ai)(a:Nat),(∀i x,(f i x).key=.int .i64 x.1)->(∀i x,(f i x).val=nD x)->
 ∃r,b2 (.int .i64) (.int .i64 k) (R.mapIdx f) a=some r/\(∀x,R.find? (λx=>x.1==k)=some x->∃j,r=some (j,nD x))/\(R.find? (λx=>x.1==k)=none->r=none)
 |[],f,a,_,_=>⟨none,rfl,λx h=>by simp at h,λ_=>rfl⟩
 |y::R,f,a,b,hv=>by
  rw[List.mapIdx_cons];by_cases e:y.1=k
  ·refine⟨some (a,nD y),by simp[b2,b,hv,sameNow,e],λx h=>?_,λh=>?_⟩
   ·simp[e]at h;subst h;exact⟨a,rfl⟩
   ·simp[e]at h
  ·obtain⟨r,c,d,g⟩:=Sv k R (λi=>f (i+1)) (a+1) (λi x=>b _ x) (λi x=>hv _ x);refine⟨r,?_,λx h=>d x ?_,λh=>g ?_⟩
   ·have l:(k==y.1)=false:=by simpa using λh=>e h.symm
    simp only[b2,b,sameNow,l,if_true];simpa using c
   ·simpa[bq,e]using h
   ·simpa[bq,e]using h
def qn(k:Int)(R:List WE)(w:World):∃r,(findKey 3 (.int .i64 k) (gi R).toList).run PL w=.ok r w/\(∀x,R.find? (λx=>x.1==k)=some x->∃j,r=some (j,nD x))/\(R.find? (λx=>x.1==k)=none->r=none):=by
 obtain⟨r,a,b,c⟩:=Sv k R Cx 0 (λ_ _=>rfl) (λ_ _=>rfl);exact⟨r,by simp[findKey,ao,aaj,gi,a],b,c⟩
def IJ{W:World}{b:Nat}{R:List WE}{k:Int}{x:WE}(h:W.heap[b]?=some (.map (gi R) R.length))(a:R.find? (λx=>x.1==k)=some x):(b3 107 (.map (some b)) (.int .i64 k) false).run PL W=.ok (nD x) W:=by
 obtain⟨r,c,d,_⟩:=qn k R W;obtain⟨j,rfl⟩:=d x a;simp[b3,ao,yY,b5 h,qz.check,c]
def Sw{W:World}{b:Nat}{R:List WE}{k:Int}{x:WE}(h:W.heap[b]?=some (.map (gi R) R.length))(a:R.find? (λx=>x.1==k)=some x):(b3 107 (.map (some b)) (.int .i64 k) true).run PL W=.ok (.tuple #[nD x,.bool true]) W:=by
 obtain⟨r,c,d,_⟩:=qn k R W;obtain⟨j,rfl⟩:=d x a;simp[b3,ao,yY,b5 h,qz.check,c]
def Sx{W:World}{b:Nat}{R:List WE}{k:Int}(h:W.heap[b]?=some (.map (gi R) R.length))(c:R.find? (λx=>x.1==k)=none):(b3 107 (.map (some b)) (.int .i64 k) true).run PL W=.ok (.tuple #[.agg #[.slice none 0 0,.int .i64 0],.bool false]) W:=by
 obtain⟨r,a,_,d⟩:=qn k R W;rw[d c]at a;simp[b3,ao,yY,b5 h,qz.check,a,V3]
def jN{W d:World}{b:Nat}{o:Obj}{v:Value}{l:List Int}(hv:bB W v l)(hl:l≠[])(h:gv W d b)(hb:W.heap[b]?=some o)(e:∀c t f,o≠.cells c t f):bB d v l:=by
 obtain⟨p,c,rfl,g⟩:=hv;refine⟨p,c,rfl,λi=>?_⟩;obtain⟨k,q,rfl,m,hc⟩:=g i;have n:k≠b:=by
  rintro rfl;have:=hc 0 (by omega);simp only[aF,hb]at this
  cases o with
  |cells c t f=>exact e c t f rfl
  |_=>simp at this
 exact⟨k,q,rfl,by rw[h.size];exact m,λj r=>(h.cell (a:=⟨k,q+j,none⟩) n).trans (hc j r)⟩
def jy.put{W:World}{b:Nat}{R:List WE}(h:jy W b R){x:WE}(f:R.find? (λy=>y.1==x.1)=none)(g:bB W x.2.1 x.2.2.1)(c:x.2.2.1≠[]) :
 ∃w',(b4 107 (.map (some b)) (.int .i64 x.1) (nD x)).run PL W=.ok () w'/\jy w' b (R++[x])/\gv W w' b:=by
 obtain⟨r,d,_,i⟩:=qn x.1 R W;rw[i f]at d;have hb:=aS h.map
 have a:gv W { W with heap:=W.heap.setIfInBounds b (.map ((gi R).push { key:=.int .i64 x.1,val:=nD x,born:=R.length }) (R.length+1)) } b:=⟨rfl,rfl,rfl,by simp,λk j=>by
  show(W.heap.setIfInBounds b _)[k]?=_
  rw[aL (Ne.symm j)]⟩
 have l:gi (R++[x])=(gi R).push { key:=.int .i64 x.1,val:=nD x,born:=R.length }:=by
  simp[gi,Cx,List.mapIdx_append]
 refine⟨_,?_,⟨?_,λy hy=>?_,λy hy=>?_⟩,a⟩
 ·simp[b4,ao,yY,b5 h.map,qz.check,d,MapKept.run_setObj_map _ h.map]
 ·rw[l];simp[hb]
 ·rcases List.mem_append.1 hy with hy|hy
  ·exact jN (h.reads y hy) (h.ne y hy) a h.map (λ_ _ _ e=>by cases e)
  ·rw[List.mem_singleton.1 hy];exact jN g c a h.map (λ_ _ _ e=>by cases e)
 ·rcases List.mem_append.1 hy with hy|hy
  ·exact h.ne y hy
  ·rw[List.mem_singleton.1 hy];exact c
def ag6(R:List WE):(gi R).toList.map (·.born)=br R.length:=by
 apply List.ext_getElem
 ·simp[gi]
 ·intro i a b;simp[gi,Cx]
def A5{R:List WE}{e:ai}(h:e∈(gi R).toList):∃j x,R[j]?=some x/\e=Cx j x:=by
 simp only[gi,bs]at h;obtain⟨j,a,rfl⟩:=h;exact⟨j,R[j],by simp[a],rfl⟩
def tE(W:World)(r b n:Nat)(seen:Array Nat):Prop:=W.heap[r]?=some (.mapIter (some b) n seen n)
def V4{W:World}{b:Nat}{R:List WE}(h:jy W b R):(Instr.range 107 (.map (some b))).run PL W=.ok (.pointer (some ⟨W.heap.size,0,none⟩)) (W.alloc (.mapIter (some b) R.length #[] R.length)):=
 run_range_map W 107 3 106 b _ _ yY h.map
def Fs(n:Nat)(seen:Array Nat):Nat:=((br n).filter λj=>!seen.contains j).length
def IK{n j:Nat}{seen:Array Nat}(a:j<n)(hs:seen.contains j=false):Fs n (seen.push j)<Fs n seen:=by
 unfold Fs;have b:(br n).filter (λq=>!(seen.push j).contains q)=((br n).filter λq=>!seen.contains q).filter λq=>decide (¬q=j):=by
  rw[List.filter_filter];refine List.filter_congr λq _=>?_;by_cases e:q=j<;>simp[e]
 rw[b];refine List.length_filter_lt_length_iff_exists.2 ⟨j,?_,by simp⟩;have c:j∉seen:=by simpa using hs
 simp[a,c]
def zX{ops:Array Oper}{rest:List Oper}{o:Oper}{a:Act}{Q:Exit->Act->World->Prop}(w:World)(hg:o.guard=none)(it:ae)(t:o.op=Op.next it false)(r b:Nat)(R:List WE)(seen:Array Nat)
 (u:a.eval it=.pointer (some ⟨r,0,none⟩)) (g:tE w r b R.length seen) (c:jy w b R)
 (A:(∀j,j<R.length->seen.contains j=true)->ap PL ops Q rest (a.put o.dst (.tuple #[.bool false])) w)
 (i:∀j x w',R[j]?=some x->seen.contains j=false->tE w' r b R.length (seen.push j)->gv w w' r->jy w' b R->(Instr.entry (.pointer (some ⟨r,0,none⟩))).run PL w'=.ok (.tuple #[.int .i64 x.1,nD x]) w'->
   ap PL ops Q rest (a.put o.dst (.tuple #[.bool true,.int .i64 x.1,nD x])) w'):ap PL ops Q (o::rest) a w:=by
 refine aq hg λF hK'=>?_;unfold Oper.wp
 rcases run_next_at (P:=PL) w o.type r b R.length R.length seen (gi R) R.length g c.map (λx B=>by
  obtain⟨j,y,d,rfl⟩:=A5 B
  exact(List.getElem?_eq_some_iff.1 d).1) (bv _) with⟨hl,l⟩|⟨e,m,w1,h,l⟩
 ·simp[ag,t,u,l,Result.andThen];refine hK' _ _ (A λj d=>?_);have f:Cx j R[j]∉leftOf (gi R) seen:=by rw[Array.eq_empty_of_size_eq_zero hl];simp
  have C:Cx j R[j]∈gi R:=by
   simp only[gi,List.mem_toArray,bs];exact⟨j,d,rfl⟩
  simp only[leftOf,aP,not_and]at f;have:=f C;simpa[Cx]using this
 ·have n:e∈(gi R).toList/\seen.contains e.born=false:=by
   simp only[leftOf,Array.mem_toList_iff,aP]at m;exact⟨Array.mem_toList_iff.2 m.1,by simpa using m.2⟩
  obtain⟨j,x,d,rfl⟩:=A5 n.1;have hs:seen.contains j=false:=n.2;simp[ag,t,u,l,Result.andThen];have p:=aS g
  have q:w1.heap=w.heap:=by rcases h with rfl|rfl<;>rfl
  have D:b≠r:=by rintro rfl;have i:=c.map;have f:w.heap[b]?=_:=g;rw[i]at f;cases f
  have s:gv w (setBlock w1 r (.mapIter (some b) R.length (seen.push j) R.length)) r:=by
   refine⟨by rcases h with rfl|rfl<;>rfl,by rcases h with rfl|rfl<;>rfl,by rcases h with rfl|rfl<;>rfl,by simp[setBlock,q],λk E=>?_⟩;show(w1.heap.setIfInBounds r _)[k]?=_;rw[q,aL (Ne.symm E)]
  have v:tE (setBlock w1 r (.mapIter (some b) R.length (seen.push j) R.length)) r b R.length (seen.push j):=by
   show(w1.heap.setIfInBounds r _)[r]?=_;rw[q];simp[p]
  have z:jy (setBlock w1 r (.mapIter (some b) R.length (seen.push j) R.length)) b R:=⟨(s.block _ D).trans c.map,λy hy=>jN (c.reads y hy) (c.ne y hy) s g (λ_ _ _ e=>by cases e),c.ne⟩
  refine hK' _ _ (i j x _ d hs v s z ?_);exact run_entry_at _ r b R.length seen (gi R) R.length (Cx j x) v z.map n.1 (by rw[ag6];exact List.nodup_range)
def tF{ops:Array Oper}{rest:List Oper}{o:Oper}{a:Act}{Q:Exit->Act->World->Prop}(w:World)(hg:o.guard=none)(m x v:ae)(c:o.op=Op.mapUpdate 107 m x v\/o.op=Op.insert 107 m x v)(b:Nat)(R:List WE)(y:WE)
 (d:a.eval m=.map (some b)) (e:a.eval x=.int .i64 y.1) (hv:a.eval v=nD y) (h:jy w b R) (hy:R.find? (λz=>z.1==y.1)=none) (f:bB w y.2.1 y.2.2.1) (g:y.2.2.1≠[])
 (i:∀w',jy w' b (R++[y])->gv w w' b->ap PL ops Q rest (a.put o.dst undef) w'):ap PL ops Q (o::rest) a w:=by
 refine aq hg λn hK'=>?_;obtain⟨w',j,k,l⟩:=h.put hy f g;unfold Oper.wp
 rcases c with c|c<;>
 ·simp[ag,c,d,e,hv,j,Result.andThen];exact hK' _ _ (i w' k l)
abbrev SW:=List (Int×List Int×Int)
def V6(b:List Int)(a:Int)(q:Nat):Bool:=decide ((q:Int)∈b)||(decide ((zU q).1≠a)&&decide ((zU q).2.1≠a))
def XN(a:Int)(q:Nat):Int:=(zU q).1+(zU q).2.1-a
def stepW(b c:List Int)(a:Int)(S:SW)(q:Nat):SW:=if V6 b a q then S else if XN a q∈c then S else match S.find? (λx=>x.1==a) with
 |none=>S
 |some x=>S++[(XN a q,x.2.1++[XN a q],x.2.2+(zU q).2.2)]
def N0(a b:List Int)(c:Int)(S:SW):Nat->SW
 |0=>S
 |q+1=>stepW a b c (N0 a b c S q) q
def okQ(b c:List Int)(a:Int)(S:SW):Bool:=(br 4).all λq=>match(N0 b c a S q).find? (λx=>x.1==a) with
 |none=>false
 |some x=>decide (x.2.1.length<=10)&&decide (0<=x.2.2)&&decide (x.2.2<=1000)&&(V6 b a q||decide (XN a q∈c)||((N0 b c a S q).find? λx=>x.1==XN a q).isNone)
def strip(x:WE):Int×List Int×Int:=(x.1,x.2.2)
def nE{R:List WE}{S:SW}(h:R.map strip=S)(k:Int):S.find? (λx=>x.1==k)=(R.find? λx=>x.1==k).map strip:=by
 rw[<-h,List.find?_map];rfl
end Go.Proofs
