/- Part of the proof of FieldDelays. -/
import Derived.Test.YtlilmeaaoeemdaaGreatU16
import Derived.Deep.DeepMust
import Derived.Shelf.SlSortCmp.InsertionK
set_option linter.all false
open Go renaming TypeId->aa,grownBy_putObj'->ab,results->ac,bodyPost_ret->ad,maxLen->ae
open Go.World renaming setCell->ag,size_alloc->ai,grownBy_alloc->ao,cell?->ap
open Array renaming getElem?_modify->aq,getElem?_append_left->ar,getElem?_toList->aw
open Option renaming map_some->aB,getD_some->aF
open Go.Proofs renaming getElem?_lt'->aI
open Go.Lib renaming hid->aJ
open List renaming length_cons->aL,length_nil->aP,nil_append->aS,getElem?_toArray->aT,getElem?_cons_succ->a5,getElem?_cons_zero->a6,flatMap_cons->a7,getElem?_append_left->a8,foldl->a9,foldl_cons->ba,setIfInBounds_toArray->bc,set_append_right->bd,append_nil->bg,drop_eq_getElem_cons->bi,getElem?_eq_getElem->bj,getElem?_take_of_lt->bm,length_append->bo,getElem?_eq_none->bp,append_assoc->bq,getD_eq_getElem?_getD->br,getElem_mem->bs,getElem?_map->bt,getElem?_range->bv,range->bw,map_congr_left->bx,map_cons->bA,map_nil->bC,map_append->bL,drop_eq_nil_of_le->bM,sum_cons->bR
open Go.RowKit.Below renaming refl->bT
open Nat renaming le_refl->bX,le_succ->b1,zero_le->b2,zero_add->b3,lt_of_lt_of_le->b4,le_trans->b5,le_of_lt->b8,lt_or_ge->b9,lt_trichotomy->ca
open Go.KeepsOthers renaming setCell->cb
open Go.Proofs.Below renaming on->cd
open Go.Proofs.Tryz renaming func76->ce,func4->cf,ntmps4->cg,func7->ch,ntmps7->ci,func30->cl,ntmps30->cm
open Go.Value.slice renaming inj->co
open And renaming symm->cp,intro->cq
open Go.Value renaming oneCell'->ct,int->cu,ownBlock->cv
open Go.IntWalk renaming i64_in->cB
open Prod renaming ext->cC
namespace Go.Proofs
open Go.RowKit Go.Shelf
attribute [local go_sem] Oper.semAt_some
set_option maxRecDepth 100000
set_option maxHeartbeats 4000000
def tD{W:World}{r:Nat}{x0 x1 x2 x3 x4 u0 u1 u2 u3 u4:Value}{t:aa}(h:W.heap[r]?=some (.cells #[x0,x1,x2,x3,x4] t)):(((((W.setCell ⟨r,0,none⟩ u0).setCell ⟨r,1,none⟩ u1).setCell ⟨r,2,none⟩ u2).setCell ⟨r,3,none⟩ u3).setCell ⟨r,4,none⟩ u4).heap[r]?=some (.cells #[u0,u1,u2,u3,u4] t):=by
 simp only[ag,aq,if_pos,h,aB];rfl
def gh{W:World}{r b:Nat}{u0 u1 u2 u3 u4:Value}(hb:b≠r):(((((W.setCell ⟨r,0,none⟩ u0).setCell ⟨r,1,none⟩ u1).setCell ⟨r,2,none⟩ u2).setCell ⟨r,3,none⟩ u3).setCell ⟨r,4,none⟩ u4).heap[b]?=W.heap[b]?:=by
 simp only[ag,aq,if_neg (Ne.symm hb)]
def vA(l:List nR):nR:=l.getLast?.getD (0,0,0,0,0)
abbrev aaW(x:nR):Array Value:=#[.int .i64 x.1,.int .i64 x.2.1,.int .i64 x.2.2.1,.int .i64 x.2.2.2.1,.int .i64 x.2.2.2.2]
def IE(l:List nR)(x:nR):vA (l++[x])=x:=by simp[vA]
def nU(C:CD)(g:Nat):Int×Int:=(vA (mD C g C.n4)).2.2.2
structure Si(w:World)(pre:List nR)(W:World):Prop where
 res:W.heap[w.heap.size+1]?=some (.cells #[.int .i64 0,.int .i64 0] 48)
 last:W.heap[w.heap.size+2]?=some (.cells (aaW (vA pre)) 70)
 low:Below w.heap.size w W
def yW{w W c:World}{row:Option Nat}{a:List nR}{B:Nat}(d:w.heap.size+3<=B)(h:Si w a W)(hg:W.grownBy c row)(b:∀r,row=some r->B<=r):Si w a c:=
 ⟨(hg.block _ (aI h.res) λe=>by have:=b _ e.symm;omega).trans h.res,(hg.block _ (aI h.last) λe=>by have:=b _ e.symm;omega).trans h.last,h.low.grown hg h.low.size λk e=>by have:=b _ e;omega⟩
def Lm(C:CD)(g:Nat)(P:yR C g)(w:World)(hA:C.At w) :
 Calls PL 49 #[.agg C.val,.int .i64 g] w (aO (.agg #[.int .i64 (nU C g).1,.int .i64 (nU C g).2]) w):=by
 have U:=aJ hA;have V:=aJ P;clear hA P;refine(callsIn_wide (n:=9)).1 (callsIn_of_wp_marks (fx (by decide) Tryz.func49) rfl trivial ?_ rfl);simp only[Tryz.ntmps49,List.size_toArray,aL,aP,Nat.reduceAdd,Nat.reduceSub,Array.replicate_succ,Array.replicate_zero,List.push_toArray,List.append_toArray,aS,List.cons_append];refine wpIn_wide.2 ?_;have y:Si w [] (((w.alloc (.cells C.val 78)).alloc (.cells #[.int .i64 0,.int .i64 0] 48)).alloc (.cells #[.int .i64 0,.int .i64 0,.int .i64 0,.int .i64 0,.int .i64 0] 70)):=by
  refine⟨?_,?_,(((bT _ _).alloc (bX _) _).alloc (by simp) _).alloc (by simp;omega) _⟩
  ·have b:=au (w.alloc (.cells C.val 78)) (.cells #[.int .i64 0,.int .i64 0] 48);rw[ai]at b;exact(((bT ((w.alloc (.cells C.val 78)).alloc (.cells #[.int .i64 0,.int .i64 0] 48)).heap.size _).alloc (bX _) _).block _ (by simp)).trans b
  ·have b:=au ((w.alloc (.cells C.val 78)).alloc (.cells #[.int .i64 0,.int .i64 0] 48)) (.cells #[.int .i64 0,.int .i64 0,.int .i64 0,.int .i64 0,.int .i64 0] 70);simp only[ai]at b;exact b
 have z:=aJ y;clear y
 go_wp2_with (go_at_call 48;refine(AX C g _).mono ?_;rintro e w'⟨rfl,m⟩)
 have X:=z.out.low;have J:∃Y:World,Y=(((w.alloc (.cells C.val 78)).alloc (.cells #[.int .i64 0,.int .i64 0] 48)).alloc (.cells #[.int .i64 0,.int .i64 0,.int .i64 0,.int .i64 0,.int .i64 0] 70)):=⟨_,rfl⟩
 have E:w'.heap.size=w.heap.size+5:=by rw[m];simp
 have Q:w'.heap[w.heap.size+3]?=some (.cells C.val 78):=by
  rw[m];have b:=au (((w.alloc (.cells C.val 78)).alloc (.cells #[.int .i64 0,.int .i64 0] 48)).alloc (.cells #[.int .i64 0,.int .i64 0,.int .i64 0,.int .i64 0,.int .i64 0] 70)) (.cells C.val 78);simp only[ai]at b;exact((((bT (World.alloc (((w.alloc (.cells C.val 78)).alloc (.cells #[.int .i64 0,.int .i64 0] 48)).alloc (.cells #[.int .i64 0,.int .i64 0,.int .i64 0,.int .i64 0,.int .i64 0] 70)) (.cells C.val 78)).heap.size _).alloc (bX _) _).block _ (by simp)).trans b)
 have F:w'.heap[w.heap.size+4]?=some (.cells #[.int .i64 g] 3):=by
  rw[m];have b:=au ((((w.alloc (.cells C.val 78)).alloc (.cells #[.int .i64 0,.int .i64 0] 48)).alloc (.cells #[.int .i64 0,.int .i64 0,.int .i64 0,.int .i64 0,.int .i64 0] 70)).alloc (.cells C.val 78)) (.cells #[.int .i64 g] 3);simp only[ai]at b;exact b
 have H:Si w [] w':=by
  rw[m];exact yW (bX _) z.out ((ao _ _ none).trans (ao _ _ none)) (λr e=>by cases e)
 have d:=aJ E;have L:=aJ Q;have M:=aJ F;rw[<-m];clear E Q F m X J;refine(wpIn_wide (n:=9)).1 ?_;refine yU (by omega) (gf:=67) (lb:=#[.pointer (some ⟨w.heap.size+3,0,none⟩),.pointer (some ⟨w.heap.size+4,0,none⟩)]) rfl (enters_of (fx (by decide) Tryz.func67) (by kernel_rfl) rfl)
  (yT 8 (by omega) (w.heap.size+3) (w.heap.size+4) w.heap.size g C V.out w rfl U.out)
  (λW I=>?_) Li (λW l o R hl Z hc hw=>Lj (n:=w.heap.size) (s:=w.heap.size+5) (by omega) W l o R (by have:=d.out;omega) Z hc hw) (λ_=>rfl)
  (Si w) (λs A B row hs hg N=>yW (B:=w'.heap.size) (by have:=d.out;omega) hs hg λr e=>(N r e).1) (λs A B row hs hg N=>yW (B:=w'.heap.size) (by have:=d.out;omega) hs hg λr e=>(N r e).1) H
  (λx a W=>∃k,W.heap[k]?=some (.cells (aaW x) 70)/\a={ tmps:=#[.agg C.val,.int .i64 g,.pointer (some ⟨w.heap.size,0,none⟩),undef,.pointer (some ⟨w.heap.size+1,0,none⟩),.pointer (some ⟨w.heap.size+2,0,none⟩),.pointer (some ⟨k,0,none⟩),.agg C.val,.int .i64 g,.func (.func 67) #[] #[.pointer (some ⟨w.heap.size+3,0,none⟩),.pointer (some ⟨w.heap.size+4,0,none⟩)],.agg (aaW x),undef,undef,undef],defers:=[] })
  ?A ?kg ?assign ?body ?done
 ·have e:∀k,k<w.heap.size->W.heap[k]?=w.heap[k]?:=λk f=>(I.block k (by have:=d.out;omega)).trans (H.low.block k f);exact⟨e,by have:=I.size;have:=d.out;omega,(I.block _ (by have:=d.out;omega)).trans L.out,(I.block _ (by have:=d.out;omega)).trans M.out⟩
 case A=>
  rintro x a W l o R hl hc⟨k,f,ha⟩;refine⟨k,(World.putObj_heap_other (λe=>?_)).trans f,ha⟩;subst e;rw[hl]at f;cases f;cases hc
 case kg=>
  intro A B hs hg;have:=d.out;exact⟨λk f=>hg.block k (by omega) (by simp),λk c t h _ _=>(hg.block k (aI h) (by simp)).trans h,hg.size⟩
 case assign=>
  intro l x W K O;dsimp only[VS]
  gi_wp2
  refine O _ _ (ao W _ none) ⟨W.heap.size,au _ _,rfl⟩
 case body=>
  rintro l pre x a W i⟨k,f,rfl⟩Nw;obtain⟨k0,k1,k2,k3,k4⟩:=qO f;obtain⟨l0,l1,l2,l3,l4⟩:=qO i.last;have fl:=tO i.last;have j:=aJ i;clear i f
  gi_wp2
  have Cu:=aI j.out.last;refine⟨((((cb W _ _).trans (cb _ _ _)).trans (cb _ _ _)).trans (cb _ _ _)).trans (cb _ _ _),⟨λq hq=>gh (by omega),λq c t h b h2=>(gh (λe=>?_)).trans h,by simp⟩,⟨(gh (by omega)).trans j.out.res,by rw[IE];exact tD j.out.last,((((j.out.low.setCell (p:=⟨w.heap.size+2,0,none⟩) (by simp) _).setCell (p:=⟨w.heap.size+2,1,none⟩) (by simp) _).setCell (p:=⟨w.heap.size+2,2,none⟩) (by simp) _).setCell (p:=⟨w.heap.size+2,3,none⟩) (by simp) _).setCell (p:=⟨w.heap.size+2,4,none⟩) (by simp) _⟩⟩;subst e;have S:=j.out.last;rw[h]at S;cases S;exact b rfl
 case done=>
  intro D W T i O;obtain⟨l0,l1,l2,l3,l4⟩:=qO i.last;obtain⟨t0,t1,u0,u1⟩:=uJ i.res;have j:=aJ i;have HD:=aJ T;clear i T
  go_wp2
  have hK':=((cb W ⟨w.heap.size+1,0,none⟩ (.int .i64 (vA (mD C g C.n4)).2.2.2.1)).trans (cb _ ⟨w.heap.size+1,1,none⟩ (.int .i64 (vA (mD C g C.n4)).2.2.2.2))).same D _ O rfl;obtain⟨d0,d1,_,_⟩:=yD (u:=.int .i64 (vA (mD C g C.n4)).2.2.2.1) (v:=.int .i64 (vA (mD C g C.n4)).2.2.2.2) t0 t1;have e0:=cell_kept d0 (ab _ D (.deferred none)) (λr e=>by cases e;exact⟨_,hK',rfl⟩);have e1:=cell_kept d1 (ab _ D (.deferred none)) (λr e=>by cases e;exact⟨_,hK',rfl⟩);refine⟨by simp,.inl ⟨_,_,rfl,run_takeDeferred hK',?_⟩⟩;refine⟨.agg #[.int .i64 (nU C g).1,.int .i64 (nU C g).2],?_,rfl,(((j.out.low.setCell (p:=⟨w.heap.size+1,0,none⟩) (b1 _) _).setCell (p:=⟨w.heap.size+1,1,none⟩) (b1 _) _)).trans (belowK_b (w:=w) (bX _) _ D _ _ (by have:=HD.out;have:=d.out;omega) hK' rfl rfl)⟩;simp[ac,Tryz.results49,go_sem,e0,e1,nU]
structure KE(C:CD)(w W:World):Prop where
 box:W.heap[w.heap.size]?=some (.cells C.val 27)
 res:W.heap[w.heap.size+1]?=some (.cells #[.int .i64 0,.int .i64 0] 48)
 low:Below w.heap.size w W
def KE.on{C:CD}{w W b:World}(h:KE C w W)(a:Below W.heap.size W b):KE C w b:=
 ⟨(a.block _ (aI h.box)).trans h.box,(a.block _ (aI h.res)).trans h.res,cd h.low a⟩
def KE.lt{C:CD}{w W:World}(h:KE C w W):w.heap.size+1<W.heap.size:=aI h.res
def alV(C:CD)(w:World)(j:Nat)(vs:Nat->Value)(W:World):Prop:=
 (j=8->∃k,vs 8=.pointer (some ⟨k,0,none⟩)/\w.heap.size+1<k/\Six W k)/\(j=9->∃k,vs 8=.pointer (some ⟨k,0,none⟩)/\w.heap.size+1<k/\W.heap[k]?=some (.cells C.val 78))
def Sj(C:CD)(g:Nat)(w:World)(h:C.At w)(hg:g<C.n5)(m5:C.n5<=3)(hf:C.b6 true=0)(x:yR C g) :
 Calls PL 19 #[.agg C.val,.int .i64 g] w (aO (.tuple #[.agg #[.int .i64 (nU C g).1,.int .i64 (nU C g).2],.int .i64 0]) w):=by
 have y:=aJ h;have K:=aJ hf;have L:=aJ x
 have n:Hid (KE C w ((w.alloc (.cells C.val 27)).alloc (.cells #[.int .i64 0,.int .i64 0] 48))):=aJ ⟨(((bT (w.alloc (.cells C.val 27)).heap.size _).alloc (bX _) _).block _ (by simp)).trans (au w _),by
  have z:=au (w.alloc (.cells C.val 27)) (.cells #[.int .i64 0,.int .i64 0] 48);rw[ai]at z
  exact z,((bT _ _).alloc (bX _) _).alloc (by simp) _⟩
 clear h hf x
 go_enter (fx (by decide) Tryz.func19),Tryz.ntmps19
 go_upto_region 1 with fail
 refine cT 10 (KE C w) (Fo C) (λj=>j != 8&&j != 9) (alV C w) rfl (by kernel_rfl) (by kernel_rfl)
  (λi vs W A l h=>⟨λe=>(h.1 e).imp λk b=>⟨b.1,b.2.1,(l k).2 b.2.2⟩,λe=>(h.2 e).imp λk b=>⟨b.1,b.2.1,(l k).1 b.2.2⟩⟩) (λi o B vs M W N hd h=>⟨λe=>?_,λe=>?_⟩) ?_ ?_
 ·subst e;rw[<-N];exact h.1 rfl
 ·subst e;have O:vs 8=M 8:=by
   simp only[aT,a5,a6,Option.some.injEq]at B;subst B;exact hd ⟨8,.data⟩ (cH.2 ⟨by simp,rfl⟩)
  rw[<-O];exact h.2 rfl
 ·exact⟨n.out.box,n.out.res,n.out.low.drew⟩
 ·iterate 8 (
   apply aY
   case hE=>rfl
   case h=>
    intro vs W a hd;obtain⟨D,E,F,H,f4,I⟩:=bf a.box
    go_simp
    first
    |(go_at_call 46;refine(AZ C g hg m5 _).mono ?_;rintro e A⟨rfl,d⟩;exact⟨_,rfl,rfl,a.on d,Fo.on d⟩)
    |(go_at_call 35;refine(kF K.out (y.out.below a.low)).mono ?_;rintro e A⟨rfl,d⟩;exact⟨_,rfl,rfl,a.on d,Fo.on d⟩)
    |exact⟨rfl,Fo.on (bT _ _)⟩
   case hb=>exact hbT)
  apply eH
  case hE=>rfl
  case hb=>exact hbT
  case h=>
   intro vs W a hd
   go_simp
   have d:=(bT W.heap.size W).alloc (bX _) (.cells #[.int .i64 0,.int .i64 0,.slice none 0 0,.slice none 0 0,.slice none 0 0,.slice none 0 0] 78)
   first
   |exact⟨a.on d,Fo.on d,⟨λ_=>⟨W.heap.size,by simp[upd],a.lt,_,_,_,_,_,_,au W _⟩,λe=>absurd e (by decide)⟩⟩
  apply eH
  case hE=>rfl
  case hb=>exact hbT
  case h=>
   intro vs W a hd;obtain⟨k,b,J,x0,x1,x2,x3,x4,S,c⟩:=(hd ⟨8,.data⟩ (cH.2 ⟨by simp,rfl⟩) rfl).1 rfl;obtain⟨D,E,F,H,f4,I⟩:=bf c;have T:=tO c;rw[b]
   go_simp
   refine⟨⟨(cM (by omega)).trans a.box,(cM (by omega)).trans a.res,Below.zQ a.low (by omega) _ _ _ _ _ _⟩,λq=>?_,⟨λe=>absurd e (by decide),λ_=>⟨k,by simp[upd,b],J,nC c⟩⟩⟩;by_cases r:q=k
   ·subst r;exact⟨λ_=>nC c,λ_=>⟨_,_,_,_,_,_,nC c⟩⟩
   ·exact⟨λe=>(cM r).trans e,fun⟨_,_,_,_,_,_,e⟩=>⟨_,_,_,_,_,_,(cM r).trans e⟩⟩
  refine cP λvs W a hd=>?_;obtain⟨k,b,J,c⟩:=(hd 9 (by omega) rfl).2 rfl;rw[b];obtain⟨D,E,F,H,f4,I⟩:=bf c;have U:=aJ c;have f:=aJ a;clear c a hd b;obtain⟨V,t1,u0,u1⟩:=uJ f.out.res;have fr:=tO f.out.res
  go_wp2_with (go_at_call 49;refine(Lm C g L.out _ (y.out.below f.out.low)).mono ?_;rintro e w3⟨rfl,s⟩;have m:=(s.block _ (aI f.out.res)).trans f.out.res;obtain⟨X,v1,Y,Z⟩:=uJ m;have P:=tO m;have Q:=aJ s;have t:=aJ m;clear s m)
  have R:=cd f.out.low Q.out;refine ad (v:=.tuple #[.agg #[.int .i64 (nU C g).1,.int .i64 (nU C g).2],.int .i64 0]) ?_ rfl ⟨rfl,(R.setCell (p:=⟨w.heap.size+1,0,none⟩) (b1 _) _).setCell (p:=⟨w.heap.size+1,1,none⟩) (b1 _) _⟩;obtain⟨a0,a1,_,_⟩:=uJ (yL (u:=.int .i64 (nU C g).1) (v:=.int .i64 (nU C g).2) t.out);simp[ac,Tryz.results19,go_sem,a0,a1]
def Fp(C:CD)(R:World->Value->Prop)(w:World)(h:C.At w)(hf:C.b6 true=0)
 (b:∀W,C.At W->Calls PL 53 #[.agg C.val] W λe w'=>∃v,e=.returned v/\R w' v/\Below W.heap.size W w') :
 Calls PL 21 #[.agg C.val] w λe w'=>∃v,e=.returned (.tuple #[v,.int .i64 0])/\R w' v/\Below w.heap.size w w':=by
 have c:=aJ h;have k:=aJ hf;have a:=aJ b;have d:Hid (KB C w (w.alloc (.cells C.val 27))):=aJ ⟨au _ _,(bT _ _).alloc (bX _) _⟩;clear h hf b
 go_enter (fx (by decide) Tryz.func21),Tryz.ntmps21
 go_wp2_with (first
  |(go_at_call 35;refine(kF k.out (c.out.below d.out.low)).mono ?_;rintro e w1⟨rfl,f⟩;have g:=aJ (d.out.on f);clear f)
  |(go_at_call 53;refine(a.out _ (c.out.below (g.out.alloc (.cells C.val 78)).low)).mono ?_;rintro e w2⟨v,rfl,i,j⟩;have l:=aJ ((g.out.alloc (.cells C.val 78)).on j);have m:=aJ i;clear j i))
 refine ad (v:=.tuple #[v,.int .i64 0]) ?_ rfl ⟨v,rfl,m.out,l.out.low⟩;simp[ac,Tryz.results21,go_sem]
structure KT(C:CD)(w W:World):Prop where
 box:W.heap[w.heap.size]?=some (.cells C.val 78)
 low:Below w.heap.size w W
def KT.on{C:CD}{w W a:World}(h:KT C w W)(b:Below W.heap.size W a):KT C w a:=
 ⟨(b.block _ (aI h.box)).trans h.box,cd h.low b⟩
def qP(C:CD)(p:Nat):Bool:=decide (∀g,g<p->(nU C g).2<=C.l)
def IF{C:CD}{p:Nat}(h:qP C p=true)(k:(nU C p).2<=C.l):qP C (p+1)=true:=by
 simp only[qP,decide_eq_true_eq]at *;intro g hg
 rcases Nat.lt_succ_iff_lt_or_eq.1 hg with a|rfl
 ·exact h g a
 ·exact k
def Sk{C:CD}{p n:Nat}(a:p<n)(k:¬(nU C p).2<=C.l):qP C n=false:=by
 simp only[qP,decide_eq_false_iff_not];exact λh=>k (h p a)
def ag1(a b:Int)(W:World):Sem.run PL (Instr.field 48 (.agg #[.int .i64 a,.int .i64 b]) 1) W=.ok (.int .i64 b) W:=by kernel_rfl
def VY(C:CD)(n:Nat)(w:World)(h:C.At w)(hc:C.cx=0)(m5:C.n5<=3)
 (q:∀W,C.At W->Calls PL 53 #[.agg C.val] W λe w'=>∃b c,e=.returned (.slice b n c)/\Below W.heap.size W w') :
 Calls PL 32 #[.agg C.val] w (aO (.bool (qP C C.n5&&decide (n=0))) w):=by
 have r:=aJ h;have j:=aJ q;have v:=aJ hc;have x:Hid (KT C w (w.alloc (.cells C.val 78))):=aJ ⟨au _ _,(bT _ _).alloc (bX _) _⟩;clear h q hc
 go_enter (fx (by decide) Tryz.func32),Tryz.ntmps32
 go_wp2
 go_loopw [8] (λk wr=>∃p:Nat,p<=C.n5/\k=.int .i64 p/\qP C p=true/\KT C w wr) (λk _=>C.n5-(intOf k).toNat)
 case atStart=>exact⟨0,b2 _,rfl,by simp[qP],x.out⟩
 case round=>
  obtain⟨p,K,rfl,hs,s⟩:=hrel;have f:=aJ s;have t:=aJ hs;clear s hs;by_cases i:p<C.n5
  ·have y:(p:Int)<C.n5:=by omega
   have z:=aJ (Sa C v.out i)
   go_upto_region 4 with fail
   refine ig (KT C w) (λ_ _=>True) (λ_=>true) (λ_ _ _=>True) rfl (by kernel_rfl) (λ_ _ _ _ _ _=>trivial) (λ_ _ _ _ _ _ _ _ _=>trivial) ⟨f.out.box,f.out.low.drew⟩ ?_
   iterate 8 (
    apply aY
    case hE=>rfl
    case h=>
     intro vs W d hd;obtain⟨A,B,D,E,f4,F⟩:=bf d.box;have q1:=ag1
     go_simp
     first
     |(go_at_call 49;refine(Lm C p z.out _ (r.out.below d.low)).mono ?_;rintro e L⟨rfl,H⟩;exact⟨_,rfl,rfl,d.on H⟩)
     |exact rfl
    case hb=>exact hbT)
   refine cP λvs W d hd=>?_;have g:=aJ d;clear hd d;by_cases a:(nU C p).2<=C.l
   ·have m:=aJ a;have I:¬(C.l<(nU C p).2):=by omega
    clear a
    go_wp2
    exact⟨⟨p+1,i,by go_num,IF t.out m.out,g.out⟩,by simp only[intOf];omega⟩
   ·have m:=aJ a;have I:C.l<(nU C p).2:=by omega
    clear a
    go_wp2
    go_ret
    have hs:=Sk i (Int.not_le.2 m.out);refine⟨?_,g.out.low⟩;rw[hs,Bool.false_and];rfl
  ·have o:p=C.n5:=by omega
   have y:¬((p:Int)<C.n5):=by omega
   clear i;obtain⟨A,B,D,E,f4,F⟩:=bf f.out.box
   go_wp2_with (go_at_call 53;refine(j.out _ (r.out.below f.out.low)).mono ?_;rintro e w2⟨b,c,rfl,u⟩;have J:=aJ (f.out.on u);clear u)
   go_ret
   have hs:qP C C.n5=true:=by have h:=t.out;first|(rw[o]at h;exact h)|exact h
   have e:((n:Int)==0)=decide (n=0):=by by_cases h:n=0<;>simp[h]
   refine⟨?_,J.out.low⟩;rw[hs,e,Bool.true_and];rfl
end Go.Proofs
namespace Go.Proofs
open Go.RowKit
def agW(l:List nR)(i j:Nat)(hi:i<l.length)(b:j<5):(l.flatMap vV)[i*5+j]?=(vV l[i])[j]?:=by
 induction l generalizing i with
 |nil=>cases hi
 |cons x l a=>
  rw[a7];have e:(vV x).length=5:=rfl
  match i with
  |0=>rw[Nat.zero_mul,b3,a8 (by omega)];rfl
  |i+1=>
   rw[List.getElem?_append_right (by omega),e,show(i+1)*5+j-5=i*5+j by omega,a i (by simpa using hi)];rfl
def Z0{a:Type}(lt:a->a->Bool)(x:a):List a->List a
 |[]=>[x]
 |y::P=>if lt x y then y::Z0 lt x P else x::y::P
def aaf{a:Type}(lt:a->a->Bool):List a->List a:=a9 (λP x=>Z0 lt x P) []
def B0{a:Type}(lt:a->a->Bool)(l:List a):List a:=(aaf lt l).reverse
def agX{a:Type}(lt:a->a->Bool)(x:a)(P:List a):(Z0 lt x P).length=P.length+1:=by
 induction P with
 |nil=>rfl
 |cons y P b=>rw[Z0];split<;>simp[b]
def acE{a:Type}(lt:a->a->Bool)(l:List a)(x:a):aaf lt (l++[x])=Z0 lt x (aaf lt l):=by simp[aaf,List.foldl_append]
def abH{a:Type}(lt:a->a->Bool)(l:List a):(aaf lt l).length=l.length:=by
 have key:∀(l P:List a),(a9 (λP x=>Z0 lt x P) P l).length=P.length+l.length:=by
  intro l
  induction l with
  |nil=>intro P;simp
  |cons x l b=>intro P;rw[ba,b,agX,aL];omega
 rw[aaf,key];simp
def agt{a:Type}(lt:a->a->Bool)(l:List a):(B0 lt l).length=l.length:=by simp[B0,abH]
set_option maxRecDepth 100000
set_option maxHeartbeats 4000000
def L0(x y:nR):Bool:=decide (x.2.2.2.2<y.2.2.2.2)
def acH(x y:nR)(w:World):Calls PL 76 #[.agg (aaW x),.agg (aaW y)] w λe w'=>e=.returned (.int .i64 (Ip x.2.2.2.2 y.2.2.2.2))/\w'=(w.alloc (.cells (aaW x) 74)).alloc (.cells (aaW y) 74):=by
 go_enter (fx (by decide) ce),Tryz.ntmps76
 go_wp2_with (go_at_call 77;refine(Kw _ _ _).mono ?_;rintro e w'⟨rfl,rfl⟩)
 go_ret
 exact⟨rfl,rfl⟩
def alH(x y:nR):(Ip x.2.2.2.2 y.2.2.2.2<0)↔L0 x y=true:=by
 unfold Ip L0;rw[decide_eq_true_iff]
 split
 ·simp[*]
 ·split<;>simp[*]
open Go.Shelf Go.Sort
def abT{a:Type}[Inhabited a](P R:List a)(x y:a):(P++y::x::R).toArray[P.length]! = y/\(P++y::x::R).toArray[P.length+1]! = x:=by
 refine⟨by simp,?_⟩;rw[show P++y::x::R=(P++[y])++x::R by simp,getElem!_pos _ _ (by simp),List.getElem_toArray,List.getElem_append_right (by simp)];simp
def agY{a:Type}[Inhabited a](P R:List a)(x y:a):swp (P++y::x::R).toArray (P.length+1) P.length=(P++x::y::R).toArray:=by
 unfold swp;rw[(abT P R x y).1,(abT P R x y).2,bc,bc,bd _ _ (by omega),bd _ _ (by omega)];simp
def aag{a:Type}[Inhabited a](lt:a->a->Bool)(x:a):∀(P R:List a),insInner lt 0 P.length (P.reverse++x::R).toArray=((Z0 lt x P).reverse++R).toArray
 |[],R=>by rw[aP,insInner];simp[Z0]
 |y::P,R=>by
  have h:(y::P).reverse++x::R=P.reverse++y::x::R:=by simp
  have e:=abT P.reverse R x y;have hs:=agY P.reverse R x y;rw[List.length_reverse]at e hs;rw[h,aL,insInner,e.1,e.2,Z0];by_cases hl:lt x y=true
  ·rw[if_pos (by simp[hl]),if_pos hl,hs,aag lt x P (y::R)];simp
  ·rw[if_neg (by simp[hl]),if_neg hl];simp
def aal{a:Type}[Inhabited a](lt:a->a->Bool)(L:List a):∀(n i:Nat),L.length-i=n->insOuter lt 0 L.length i (B0 lt (L.take i)++L.drop i).toArray=(B0 lt L).toArray
 |0,i,h=>by
  rw[insOuter_stop _ _ _ _ _ (by omega),List.take_of_length_le (by omega),List.drop_of_length_le (by omega),bg]
 |n+1,i,h=>by
  have hi:i<L.length:=by omega
  have hl:(aaf lt (L.take i)).length=i:=by rw[abH];simp;omega
  rw[insOuter_go _ _ _ _ _ hi,<-aal lt L n (i+1) (by omega),bi hi];congr 1;have:=aag lt L[i] (aaf lt (L.take i)) (L.drop (i+1));rw[hl]at this;rw[B0,this,B0,List.take_succ_eq_append_getElem hi,acE]
def aav{b:Type}[Inhabited b](lt:b->b->Bool)(L:List b):insertionSort lt L.toArray 0 L.length=(B0 lt L).toArray:=by
 unfold insertionSort;have:=aal lt L (L.length-1) 1 rfl;have e:B0 lt (L.take 1)++L.drop 1=L:=by
  cases L with
  |nil=>rfl
  |cons a L=>simp[B0,aaf,Z0]
 rw[e]at this;exact this
def ag2:PL.underlying 60=some (.slice 74):=by kernel_rfl
def aaX:(PL.info? 74).map (λi=>(i.zero,i.size,i.bytes))=some (some (.agg #[.int .i64 0,.int .i64 0,.int .i64 0,.int .i64 0,.int .i64 0]),5,40):=by kernel_rfl
def kV(W:World)(base:Nat)(v:Value)(l:List nR):Prop:=W.ownsRow base 74 5 v l.length (l.flatMap vV)
def kV.alloc{W:World}{base:Nat}{v:Value}{l:List nR}(h:kV W base v l)(o:Obj):kV (W.alloc o) base v l:=World.ownsRow.alloc h o
def kV.on{W b:World}{base:Nat}{v:Value}{l:List nR}(h:kV W base v l)(d:Below W.heap.size W b):kV b base v l:=by
 obtain⟨c,h⟩:=h
 rcases h with h|⟨g,cap,a,e1,hb,hg,e⟩
 ·exact⟨c,.inl h⟩
 ·exact⟨c,.inr ⟨g,cap,a,e1,hb,(d.block _ (aI hg)).trans hg,e⟩⟩
def vB{W:World}{base e size n:Nat}{v:Value}{xs:List Value}(h:W.ownsRow base e size v n xs):∃b c,v=.slice b n c:=by
 rcases h.2 with⟨rfl,a⟩|⟨g,cap,d,rfl,_⟩
 ·exact⟨none,0,by rw[a]⟩
 ·exact⟨_,_,rfl⟩
def arn:Ren:=⟨λ_=>128,λt=>if t=24 then 74 else if t=22 then 60 else if t=25 then 142 else t,λt=>t⟩
def arq:SlLaysF0.n20 PL arn where
 mixed:=rfl
 f20:=⟨ "slices.insertionSortCmpFunc[nock/api.FieldTrouble]",by decide,(fx (by decide) Tryz.func128).trans (by kernel_rfl)⟩
 t0:=by kernel_rfl
 a0:=by intro w;kernel_rfl
 z0:=by intro w;kernel_rfl
 v0:=by intro w;kernel_rfl
 t3:=by kernel_rfl
 a3:=by intro w;kernel_rfl
 z3:=by intro w;kernel_rfl
 v3:=by intro w;kernel_rfl
 t4:=by kernel_rfl
 a4:=by intro w;kernel_rfl
 z4:=by intro w;kernel_rfl
 v4:=by intro w;kernel_rfl
 t22:=by kernel_rfl
 a22:=by intro w;kernel_rfl
 z22:=by intro w;kernel_rfl
 v22:=by intro w;kernel_rfl
 t25:=by kernel_rfl
 a25:=by intro w;kernel_rfl
 z25:=by intro w;kernel_rfl
 v25:=by intro w;kernel_rfl
def ac6(L:List nR)(t:Nat)(h:t<L.length*5):(L.flatMap vV)[t]?=some (flatK vV 5 L.toArray)[t]!:=by
 have a:t / 5<L.length:=by omega
 have e:=agW L (t / 5) (t % 5) a (by omega);rw[show t / 5*5+t % 5=t by omega]at e;have c:L.toArray[t / 5]! = L[t / 5]:=by rw[getElem!_pos _ _ (by simpa using a)];rfl
 rw[e,get_flatK _ _ _ _ (by simpa using h),c];have b:t % 5<(vV L[t / 5]).length:=Nat.mod_lt _ (by decide);rw[bj b,getElem!_pos (vV L[t / 5]) (t % 5) b]
def ac7(L:List nR)(b c base:Nat)(w:World)(h:kV w base (.slice (some ⟨b,0,none⟩) L.length c) L)(hl:L.length<=20) :
 Calls PL 128 #[.slice (some ⟨b,0,none⟩) L.length c,.int .i64 0,.int .i64 L.length,.func (.func 76) #[] #[]] w λe w'=>(∃v,e=.returned v)/\kV w' base (.slice (some ⟨b,0,none⟩) L.length c) (B0 L0 L)/\Below base w w':=by
 obtain⟨F,⟨z,_⟩|⟨g,cap,a,e,hb,hg,hc,A,hs,B⟩⟩:=h
 ·cases z
 obtain⟨e1,_,C⟩:=co e;cases e1;cases C;have i:=aI hg;have D:HoldsK vV 5 w b 0 L.toArray:=by
  intro j p;have p:j<L.length*5:=by simpa using p
  refine⟨?_,tO hg _⟩;have:=ac6 L j p;rw[<-B,bm p]at this;simp only[ap,hg,b3];simpa using this
 have q:CmpLays PL 76 #[] vV 5 (λx y=>Ip x.2.2.2.2 y.2.2.2.2) b 0 L.toArray.size w:=λm r H hd x y=>by
  refine(acH x y _).mono ?_;rintro e w'⟨rfl,rfl⟩;exact⟨rfl,0,_,by rw[alloc_eq_grow,alloc_eq_grow,grow_grow];rfl⟩
 refine(AnyQ.insertionSortCmpFunc arq 5 (by intro w;kernel_rfl) (by intro w;kernel_rfl) vV (λ_=>rfl) (λx v hv=>by simp only[vV,List.mem_cons,List.not_mem_nil,or_false]at hv;rcases hv with rfl|rfl|rfl|rfl|rfl<;>rfl) _ 76 #[] b 0 c 0 L.length L.toArray w (JZ (fx (by decide) ce) (by decide +kernel) rfl) q D i (b2 _) (by simp) (by simp;omega)).mono ?_;rintro e w'⟨rfl,n,r,rfl⟩;have E:(ltOf λx y:nR=>Ip x.2.2.2.2 y.2.2.2.2)=L0:=by
  funext x y;have:=alH x y;unfold ltOf;by_cases h:Ip x.2.2.2.2 y.2.2.2.2<0<;>simp_all
 rw[E,aav];obtain⟨S,u⟩:∃S,S=B0 L0 L:=⟨_,rfl⟩
 have d:S.length=L.length:=by rw[u,agt]
 rw[<-u];have hF:(flatK vV 5 S.toArray).size=L.length*5:=by simp[d]
 have f:(sortWorldK vV 5 w b 0 n S.toArray r).heap=w.heap.modify b (onCells (putCells id 0 (flatK vV 5 S.toArray)))++r:=rfl;refine⟨⟨_,rfl⟩,⟨?_,.inr ⟨b,c,putCells id 0 (flatK vV 5 S.toArray) a,by rw[d],hb,?_,by rw[d];exact hc,A,?_,?_⟩⟩,?_⟩
 ·have:∀l:List nR,(l.flatMap vV).length=l.length*5:=λl=>by
   induction l with
   |nil=>rfl
   |cons x l s=>rw[a7,bo,s];simp[vV];omega
  exact this S
 ·rw[f,ar (by simpa using i),aq,if_pos rfl,hg];rfl
 ·simpa[putCells]using hs
 ·apply List.ext_getElem?;intro t;rw[List.getElem?_take];have hcs:L.length*5<=a.size:=by omega
  split
  ·rename_i o;rw[d]at o;rw[ac6 S t (by omega)];have:a[t]?=some a[t]:=Array.getElem?_eq_getElem (by omega);simp only[putCells,aw,Array.getElem?_mapIdx,this,aB];rw[if_pos (by omega)];rfl
  ·rename_i o;rw[bp];have:∀l:List nR,(l.flatMap vV).length=l.length*5:=λl=>by
    induction l with
    |nil=>rfl
    |cons x l s=>rw[a7,bo,s];simp[vV];omega
   rw[this];omega
 ·exact⟨rfl,rfl,rfl,by rw[f];simp,λk I=>by rw[f,ar (by simp;omega),aq,if_neg (by omega)]⟩
end Go.Proofs
namespace Go.Proofs
open Go.RowKit Go.Shelf
attribute [local go_sem] Oper.semAt_some
set_option maxRecDepth 100000
set_option maxHeartbeats 4000000
def abI(a1 a2 a3 a4 a b c d:Int):Int:=Ej (decide (a1<d)&&decide (a<a4)) (decide (a3<=b)||decide (c<=a2))
def IU(L:List Int)(a b p:Nat):nR:=(a,(b:Nat),(p:Nat),abI (L.getD (a*25+p*5+1) 0) (L.getD (a*25+p*5+2) 0) (L.getD (a*25+p*5+3) 0) (L.getD (a*25+p*5+4) 0) (L.getD (b*25+p*5+1) 0) (L.getD (b*25+p*5+2) 0) (L.getD (b*25+p*5+3) 0) (L.getD (b*25+p*5+4) 0),max (L.getD (a*25+p*5+1) 0) (L.getD (b*25+p*5+1) 0))
def abf(L:List Int)(a b:Nat):Nat->List nR
 |0=>[]
 |p+1=>abf L a b p++if(IU L a b p).2.2.2.1=2 then[] else[IU L a b p]
def L1(L:List Int)(n a:Nat):Nat->List nR
 |0=>[]
 |k+1=>L1 L n a k++abf L a (a+1+k) n
def P0(L:List Int)(n m:Nat):Nat->List nR
 |0=>[]
 |a+1=>P0 L n m a++L1 L n a (m-(a+1))
def ahD(L:List Int)(n m:Nat):List nR:=B0 L0 (P0 L n m m)
def ac9(L:List Int)(a b p:Nat):(abf L a b p).length<=p:=by
 induction p with
 |zero=>exact bX _
 |succ p c=>rw[abf,bo];split<;>simp<;>omega
def E1(L:List Int){n:Nat}(b:n<=5)(a k:Nat):(L1 L n a k).length<=5*k:=by
 induction k with
 |zero=>exact bX _
 |succ k c=>have:=ac9 L a (a+1+k) n;rw[L1,bo];omega
def ah0(L:List Int){n m:Nat}(b:n<=5)(c:m<=3)(a:Nat):(P0 L n m a).length<=15*a:=by
 induction a with
 |zero=>exact bX _
 |succ a d=>have:=E1 L b a (m-(a+1));rw[P0,bo];omega
def ah1(L:List Int){n m:Nat}(a:n<=5)(c:m<=3):(P0 L n m m).length<=15:=by
 match m,c with
 |0,_=>exact b2 _
 |1,_=>
  have b:=E1 L a 0 0;rw[show P0 L n 1 1=L1 L n 0 0 from rfl];omega
 |2,_=>
  have b:=E1 L a 0 1;have d:=E1 L a 1 0;rw[show P0 L n 2 2=L1 L n 0 1++L1 L n 1 0 from rfl,bo];omega
 |3,_=>
  have b:=E1 L a 0 2;have d:=E1 L a 1 1;have e:=E1 L a 2 0;rw[show P0 L n 3 3=L1 L n 0 2++L1 L n 1 1++L1 L n 2 0 from rfl,bo,bo];omega
def z61:Array Value:=#[.int .i64 0,.int .i64 0,.int .i64 0,.int .i64 0,.int .i64 0]
def IG(n0:Nat)(A:Array Value)(j:Nat)(vs:Nat->Value)(W:World):Prop:=
 (j=14->∃k,vs 14=.pointer (some ⟨k,0,none⟩)/\n0<=k/\k<W.heap.size/\∃x0 x1 x2 x3 x4,W.heap[k]?=some (.cells #[x0,x1,x2,x3,x4] 70))/\
 (j=15->∃k,vs 15=.pointer (some ⟨k,0,none⟩)/\n0<=k/\k<W.heap.size/\W.heap[k]?=some (.cells z61 70))/\
 (j=16->∃k,vs 14=.pointer (some ⟨k,0,none⟩)/\W.heap[k]?=some (.cells A 70))
def ExT(t:Nat):Bool:=t != 14&&t != 15&&t != 16
def neT(i j:Nat)(u v:Value):Prop:=(i=14/\j=15\/i=15/\j=14)->u≠v
def IG.le{n0:Nat}{A:Array Value}{j:Nat}{vs:Nat->Value}{W g:World}(h:IG n0 A j vs W)(b:Below W.heap.size W g):IG n0 A j vs g:=
 ⟨λe=>(h.1 e).imp λq⟨c,f,d,x0,x1,x2,x3,x4,a⟩=>⟨c,f,b4 d b.size,x0,x1,x2,x3,x4,(b.block _ d).trans a⟩,
  λe=>(h.2.1 e).imp λq⟨c,f,d,a⟩=>⟨c,f,b4 d b.size,(b.block _ d).trans a⟩,
  λe=>(h.2.2 e).imp λq⟨c,a⟩=>⟨c,(b.block _ (aI a)).trans a⟩⟩
def Sl{n0:Nat}{A:Array Value}{W:World}{vs:Nat->Value}{D:List Nat}{i:Nat}(f:n0<=W.heap.size)(hi:i=14\/i=15)(hd:∀j∈D,ExT j=false->IG n0 A j vs W) :
 (∀j∈D,ExT j=false->IG n0 A j vs (W.alloc (.cells z61 70)))/\IG n0 A i (upd vs i (.pointer (some ⟨W.heap.size,0,none⟩))) (W.alloc (.cells z61 70))/\∀j∈D,ExT j=false->neT j i (vs j) (.pointer (some ⟨W.heap.size,0,none⟩)):=by
 have g:=(bT W.heap.size W).alloc (bX _) (.cells z61 70);refine⟨λj c d=>(hd j c d).le g,⟨λe=>⟨W.heap.size,by simp[upd,e],f,by simp,_,_,_,_,_,au _ _⟩,λe=>⟨W.heap.size,by simp[upd,e],f,by simp,au _ _⟩,λe=>by omega⟩,λj c d e1 e=>?_⟩;obtain⟨q,a,b⟩:∃q,vs j=.pointer (some ⟨q,0,none⟩)/\q<W.heap.size:=by
  rcases e1 with⟨rfl,_⟩|⟨rfl,_⟩
  ·obtain⟨q,a,_,b,_⟩:=(hd _ c d).1 rfl;exact⟨q,a,b⟩
  ·obtain⟨q,a,_,b,_⟩:=(hd _ c d).2.1 rfl;exact⟨q,a,b⟩
 rw[a]at e;cases e;exact Nat.lt_irrefl _ b
structure KR(C:CD)(w:World)(k:Nat)(L:List Int)(B:Nat)(W:World):Prop where
 pK:B<=W.heap.size
 kl:k<B
 bl:w.heap.size<B
 box:W.heap[w.heap.size]?=some (.cells C.val 78)
 row:Row W k (L.map bh)
 low:Below w.heap.size w W
def KR.on{C:CD}{w W b:World}{k:Nat}{L:List Int}{B:Nat}(h:KR C w k L B W)(a:Below W.heap.size W b):KR C w k L B b:=
 ⟨b5 h.pK a.size,h.kl,h.bl,(a.block _ (aI h.box)).trans h.box,h.row.on a,cd h.low a⟩
def Below.ag3{B:Nat}{a w:World}(h:Below B a w){k:Nat}(b:B<=k)(u0 u1 u2 u3 u4:Value):Below B a (((((w.setCell ⟨k,0,none⟩ u0).setCell ⟨k,1,none⟩ u1).setCell ⟨k,2,none⟩ u2).setCell ⟨k,3,none⟩ u3).setCell ⟨k,4,none⟩ u4):=
 ((((h.setCell (p:=⟨k,0,none⟩) b _).setCell (p:=⟨k,1,none⟩) b _).setCell (p:=⟨k,2,none⟩) b _).setCell (p:=⟨k,3,none⟩) b _).setCell (p:=⟨k,4,none⟩) b _
def Sm{W:World}{b:Nat}{x:nR}{t:aa}(h:W.heap[b]?=some (.cells #[.int .i64 x.1,.int .i64 x.2.1,.int .i64 x.2.2.1,.int .i64 x.2.2.2.1,.int .i64 x.2.2.2.2] t)):∀(j:Nat)(u:Value),(vV x)[j]?=some u->W.cell? ((⟨b,0,none⟩:Addr).add j)=some u:=by
 intro j u e
 match j,e with
 |0,e=>cases e;simp[ap,Addr.add,h]
 |1,e=>cases e;simp[ap,Addr.add,h]
 |2,e=>cases e;simp[ap,Addr.add,h]
 |3,e=>cases e;simp[ap,Addr.add,h]
 |4,e=>cases e;simp[ap,Addr.add,h]
 |j+5,e=>simp[vV]at e
def KR.alloc{C:CD}{w W:World}{k:Nat}{L:List Int}{B:Nat}(h:KR C w k L B W)(o:Obj):KR C w k L B (W.alloc o):=h.on ((bT _ _).alloc (bX _) o)
def acO(v:Value)(L:List nR){base:Nat}{w:World}(h:kV w base v L)(hl:L.length<=15):Calls PL 75 #[v,.func (.func 76) #[] #[]] w λe w'=>e=.returned v/\kV w' base v (B0 L0 L)/\Below base w w':=by
 obtain⟨n,d⟩:∃n,n=L.length:=⟨_,rfl⟩
 obtain⟨b,c,rfl⟩:=vB h;rw[<-d]
 have H:Hid (Calls PL 128 #[.slice b n c,.int .i64 0,.int .i64 n,.func (.func 76) #[] #[]] w λe w'=>(∃v,e=.returned v)/\kV w' base (.slice b n c) (B0 L0 L)/\Below base w w'):=aJ (by
  have k:=h
  rcases h.2 with⟨e,l⟩|⟨g,cap,m,e,_⟩
  ·obtain⟨rfl,_,rfl⟩:=co e;obtain rfl:=List.length_eq_zero_iff.1 l;subst d;refine(zW none 0 0 0 _ w (by omega)).mono ?_;rintro e w'⟨a,rfl⟩;exact⟨a,k,bT _ _⟩
  ·obtain⟨rfl,_,rfl⟩:=co e;rw[d]
   exact ac7 L g c base w k (by omega))
 rw[<-d]at hl;clear h d;have p:(n:Int)<20:=by omega
 have q:(n:Int)<=20:=by omega
 have i:Hid (Calls PL 120 #[.slice b n c,.int .i64 n,.func (.func 76) #[] #[]] w λe w'=>(∃v,e=.returned v)/\kV w' base (.slice b n c) (B0 L0 L)/\Below base w w'):=aJ (by
  go_enter (fx (by decide) Tryz.func120),Tryz.ntmps120
  go_wp2
  go_loop [7,8] (λv7 o=>v7=.int .i64 0/\o=.int .i64 20) (λ_ _=>0)
  case atStart=>exact⟨rfl,rfl⟩
  case round=>
   obtain⟨rfl,rfl⟩:=hrel
   go_wp2_with (go_at_call 128;refine H.out.mono ?_;rintro e w3⟨⟨v,rfl⟩,a⟩;have f:=aJ a;clear a)
   go_loop [6] (λv=>v=.int .i64 20) (λ_=>0)
   case atStart=>rfl
   case round=>
    subst hrel
    go_wp2
    go_end0
    exact⟨⟨_,rfl⟩,f.out⟩)
 have j:Hid (Calls PL 108 #[.slice b n c,.func (.func 76) #[] #[]] w λe w'=>(∃v,e=.returned v)/\kV w' base (.slice b n c) (B0 L0 L)/\Below base w w'):=aJ (by
  go_enter (fx (by decide) Tryz.func108),Tryz.ntmps108
  go_wp2_with (go_at_call 120;refine i.out.mono ?_;rintro e w'⟨⟨v,rfl⟩,a⟩;have f:=aJ a;clear a)
  go_end0
  exact⟨⟨_,rfl⟩,f.out⟩)
 go_enter (fx (by decide) Tryz.func75),Tryz.ntmps75
 go_wp2_with (go_at_call 108;refine j.out.mono ?_;rintro e w'⟨⟨v,rfl⟩,a⟩;have f:=aJ a;clear a)
 go_ret
 exact⟨rfl,f.out⟩
def aaS(C:CD)(L:List Int)(hL:L.length=75)(h4:C.n4<=5)(h5:C.n5<=3)(w:World)(h:C.At w)
 (HT:∀W,C.At W->Calls PL 51 #[.agg C.val] W λe w'=>∃k,e=.returned (.pointer (some ⟨k,0,none⟩))/\Row w' k (L.map bh)/\Below W.heap.size W w') :
 Calls PL 53 #[.agg C.val] w λe w'=>∃v,e=.returned v/\kV w' w.heap.size v (ahD L C.n4 C.n5)/\Below w.heap.size w w':=by
 have HA:=aJ h;have HTT:=aJ HT;have HLL:=aJ hL;have K0:Hid (KT C w (w.alloc (.cells C.val 78))):=aJ ⟨au _ _,(bT _ _).alloc (bX _) _⟩;clear h HT hL
 go_enter (fx (by decide) Tryz.func53),Tryz.ntmps53
 go_upto_region 1 with fail
 obtain⟨W0,kS⟩:∃W0:World,W0=w.alloc (.cells C.val 78):=⟨_,rfl⟩
 rw[<-kS]at K0 ⊢;clear kS;obtain⟨r,s,t,y,f4,z⟩:=bf K0.out.box
 go_wp2_with (go_at_call 51;refine(HTT.out _ (HA.out.below K0.out.low)).mono ?_;rintro e w2⟨k,rfl,hR,qA⟩;have k2:=K0.out.on qA;clear qA r s t y f4 z;have K2:Hid (KR C w k L w2.heap.size w2):=aJ (KR.mk (bX _) hR.1 (aI k2.box) k2.box hR k2.low);clear k2 hR;obtain⟨r,s,t,y,f4,z⟩:=bf K2.out.box)
 go_loopw [4,19] (λv4 O wr=>∃a:Nat,a<=C.n5/\O=.int .i64 a/\kV wr w2.heap.size v4 (P0 L C.n4 C.n5 a)/\KR C w k L w2.heap.size wr) (λ_ O _=>C.n5-(intOf O).toNat)
 case atStart=>exact⟨0,b2 _,rfl,⟨rfl,.inl ⟨rfl,rfl⟩⟩,K2.out⟩
 case round=>
  obtain⟨a,ha,rfl,I,J⟩:=hrel;clear r s t y f4 z;have HO:=aJ I;have HK:=aJ J;clear I J K2;obtain⟨r,s,t,y,f4,z⟩:=bf HK.out.box;by_cases aH:a<C.n5
  ·have i1:(a:Int)<C.n5:=by omega
   have i3:(a:Int)<3:=by omega
   clear r s t y f4 z
   go_wp2
   go_loopw [4,6] (λv4 v6 wq=>∃b j:Nat,b=a+1+j/\b<=C.n5/\v6=.int .i64 b/\kV wq w2.heap.size v4 (P0 L C.n4 C.n5 a++L1 L C.n4 a j)/\KR C w k L w2.heap.size wq) (λ_ v6 _=>C.n5-(intOf v6).toNat)
   case atStart=>exact⟨a+1,0,rfl,aH,by go_num,by simpa[L1]using HO.out,HK.out⟩
   case round=>
    obtain⟨b,j,hb,eP,rfl,I,J⟩:=hrel;have A:=aJ hb;have hab:a<b:=by omega
    have P:=aJ I;have B:=aJ J;clear I J HO HK hb;obtain⟨r,s,t,y,f4,z⟩:=bf B.out.box;by_cases arw:b<C.n5
    ·have i2:(b:Int)<C.n5:=by omega
     have i6:(b:Int)<3:=by omega
     go_wp2
     go_loopw [4,36] (λv4 Q wp=>∃p:Nat,p<=C.n4/\Q=.int .i64 p/\kV wp w2.heap.size v4 (P0 L C.n4 C.n5 a++L1 L C.n4 a j++abf L a b p)/\KR C w k L w2.heap.size wp) (λ_ Q _=>C.n4-(intOf Q).toNat)
     case atStart=>exact⟨0,b2 _,rfl,by simpa[abf]using P.out,B.out⟩
     case round=>
      obtain⟨p,hp,rfl,I,J⟩:=hrel;have HO3:=aJ I;have f:=aJ J;clear I J P B r s t y f4 z;by_cases ao1:p<C.n4
      ·have i4:(p:Int)<C.n4:=by omega
       have i5:(p:Int)<5:=by omega
       have cell:∀j,j<75->wr.cell? ⟨k,j,none⟩=some (.int .i64 (L.getD j 0)):=λj hj=>f.out.row.getD (by rw[HLL.out];exact hj);obtain⟨a0,ea0⟩:∃x,x=L.getD (a*25+p*5) 0:=⟨_,rfl⟩
       obtain⟨a1,R⟩:∃x,x=L.getD (a*25+p*5+1) 0:=⟨_,rfl⟩
       obtain⟨a2,S⟩:∃x,x=L.getD (a*25+p*5+2) 0:=⟨_,rfl⟩
       obtain⟨a3,U⟩:∃x,x=L.getD (a*25+p*5+3) 0:=⟨_,rfl⟩
       obtain⟨a4,V⟩:∃x,x=L.getD (a*25+p*5+4) 0:=⟨_,rfl⟩
       obtain⟨b0,eb0⟩:∃x,x=L.getD (b*25+p*5) 0:=⟨_,rfl⟩
       obtain⟨g,X⟩:∃x,x=L.getD (b*25+p*5+1) 0:=⟨_,rfl⟩
       obtain⟨E,Y⟩:∃x,x=L.getD (b*25+p*5+2) 0:=⟨_,rfl⟩
       obtain⟨K,Z⟩:∃x,x=L.getD (b*25+p*5+3) 0:=⟨_,rfl⟩
       obtain⟨F,eb4⟩:∃x,x=L.getD (b*25+p*5+4) 0:=⟨_,rfl⟩
       have T:Hid (wr.cell? ⟨k,a*25+p*5,none⟩=some (.int .i64 a0)/\wr.cell? ⟨k,a*25+p*5+1,none⟩=some (.int .i64 a1)/\wr.cell? ⟨k,a*25+p*5+2,none⟩=some (.int .i64 a2)/\wr.cell? ⟨k,a*25+p*5+3,none⟩=some (.int .i64 a3)/\wr.cell? ⟨k,a*25+p*5+4,none⟩=some (.int .i64 a4)/\
        wr.cell? ⟨k,b*25+p*5,none⟩=some (.int .i64 b0)/\wr.cell? ⟨k,b*25+p*5+1,none⟩=some (.int .i64 g)/\wr.cell? ⟨k,b*25+p*5+2,none⟩=some (.int .i64 E)/\wr.cell? ⟨k,b*25+p*5+3,none⟩=some (.int .i64 K)/\wr.cell? ⟨k,b*25+p*5+4,none⟩=some (.int .i64 F)):=aJ
        ⟨by rw[ea0];exact cell _ (by omega),by rw[R];exact cell _ (by omega),by rw[S];exact cell _ (by omega),by rw[U];exact cell _ (by omega),by rw[V];exact cell _ (by omega),by rw[eb0];exact cell _ (by omega),by rw[X];exact cell _ (by omega),by rw[Y];exact cell _ (by omega),by rw[Z];exact cell _ (by omega),by rw[eb4];exact cell _ (by omega)⟩
       obtain⟨mt,hmt⟩:∃m,m=abI a1 a2 a3 a4 g E K F:=⟨_,rfl⟩
       have ET:Hid (IU L a b p=(a,(b:Int),(p:Int),mt,max a1 g)):=aJ (by rw[IU,hmt,R,S,U,V,X,Y,Z,eb4]);have HMT:=aJ hmt;have Ll:=f.out.row.1;clear cell ea0 R S U V eb0 X Y Z eb4 hmt;obtain⟨r,s,t,y,f4,z⟩:=bf f.out.box
       go_upto_region 12 with fail
       clear r s t y f4 z;refine iL 17 14 (λ_ W=>Below wr.heap.size wr W) (λW W'=>Below W.heap.size W W') ExT (λ_=>IG wr.heap.size #[.int .i64 a0,.int .i64 a1,.int .i64 a2,.int .i64 a3,.int .i64 a4]) neT (λ_ _ _ _ h e=>(h (e.symm.imp cp cp)).symm) rfl (by kernel_rfl) (by kernel_rfl) rfl
        (λ_ i vs W W' hle h=>h.le hle) (λi o ho vs eX W he aaZ _ h=>⟨λe=>by subst e;rw[<-he];exact h.1 rfl,λe=>by subst e;rw[<-he];exact h.2.1 rfl,λe=>?_⟩) (bT _ _).drew ?_
       ·subst e;have e14:vs 14=eX 14:=by
         simp only[aT,a5,a6,Option.some.injEq]at ho;subst ho;exact aaZ ⟨14,.data⟩ (cH.2 ⟨by simp,rfl⟩)
        rw[<-e14];exact h.2.2 rfl
       iterate 14 (
        apply iK
        case hE=>rfl
        case h=>
         intro vs W _ l hd;obtain⟨t0,t1,t2,t3,t4,t5,t6,t7,t8,t9⟩:=T.out;rw[<-l.cell (p:=⟨k,_,none⟩) Ll]at t0 t1 t2 t3 t4 t5 t6 t7 t8 t9
         go_simp
         exact⟨rfl,bT _ _⟩
        case hb=>exact hbT)
       iterate 2 (
        apply ey
        case hE=>rfl
        case hb=>exact hbT
        case h=>
         intro vs W D _ _ l _ hi _ hd hP
         go_simp
         exact⟨l.alloc l.size _,Sl l.size (by simp) hd⟩)
       apply ey
       case hE=>rfl
       case hb=>exact hbT
       case h=>
        intro vs W D _ _ l jw hi _ hd hP;have m14:14∈D:=jw ⟨14,.data⟩ (cH.2 ⟨by simp,rfl⟩);have m15:15∈D:=jw ⟨15,.phase⟩ (cH.2 ⟨by simp,rfl⟩);obtain⟨ka,H,hla,alY,x0,x1,x2,x3,x4,M⟩:=(hd 14 m14 rfl).1 rfl;obtain⟨n,NZ,Tg,ab0,iC⟩:=(hd 15 m15 rfl).2.1 rfl;have bu:n≠ka:=λe=>hP 14 m14 15 m15 (by decide) rfl rfl (.inl ⟨rfl,rfl⟩) (by rw[H,NZ,e]);have fz:=tO M;rw[H];obtain⟨y0,y1,y2,y3,y4⟩:=qO M
        go_simp
        refine⟨Below.ag3 l hla _ _ _ _ _,λj hj hE=>?_,⟨λe=>absurd e (by decide),λe=>absurd e (by decide),λ_=>⟨ka,by simp[upd,H],tD M⟩⟩,λj _ _ e=>by omega⟩;refine⟨λe=>⟨ka,H,hla,by simpa using alY,_,_,_,_,_,tD M⟩,λe=>⟨n,NZ,Tg,by simpa using ab0,(gh bu).trans iC⟩,λe=>⟨ka,H,tD M⟩⟩
       refine nv λvs W _ _ l hd hX=>?_;obtain⟨ka,H,M⟩:=(hd 16 (by omega) rfl).2.2 rfl;obtain⟨n,NZ,Tg,ab0,iC⟩:=(hd 15 (by omega) rfl).2.1 rfl;have bu:ka≠n:=λe=>hX 14 15 (by omega) (by omega) (by omega) rfl rfl (.inl ⟨rfl,rfl⟩) (by rw[H,NZ,e]);have NE:=aJ bu;have HBA:=aJ M;have wC:=aJ iC;have HC:=aJ l;have HLB:=aJ Tg;obtain⟨y0,y1,y2,y3,y4⟩:=qO iC;have fz:=tO iC;rw[H,NZ];clear M iC l hd hX H NZ bu Tg
       go_upto_region 13 with fail
       obtain⟨W2,vp⟩:∃W2:World,W2=((((W.setCell ⟨n,0,none⟩ (.int .i64 b0)).setCell ⟨n,1,none⟩ (.int .i64 g)).setCell ⟨n,2,none⟩ (.int .i64 E)).setCell ⟨n,3,none⟩ (.int .i64 K)).setCell ⟨n,4,none⟩ (.int .i64 F):=⟨_,rfl⟩
       have BA:Hid (W2.heap[ka]?=some (.cells #[.int .i64 a0,.int .i64 a1,.int .i64 a2,.int .i64 a3,.int .i64 a4] 70)):=aJ (by rw[vp];exact(gh NE.out).trans HBA.out);have BB:Hid (W2.heap[n]?=some (.cells #[.int .i64 b0,.int .i64 g,.int .i64 E,.int .i64 K,.int .i64 F] 70)):=aJ (by rw[vp];exact tD wC.out);have HB:Hid (Below wr.heap.size wr W2):=aJ (by rw[vp];exact Below.ag3 HC.out HLB.out _ _ _ _ _);rw[<-vp];clear vp y0 y1 y2 y3 y4 fz HBA wC HC HLB NE;clear T Ll
       go_cut [10] from 37 to 111 (fun(v10:Value)(wx:World)=>v10=.int .i64 mt/\wx=W2)
       case first=>
        obtain⟨z0,z1,z2,z3,z4⟩:=qO BA.out;obtain⟨y0,y1,y2,y3,y4⟩:=qO BB.out;have la:=aI BA.out;have lb:=aI BB.out;have s1:(a1<F/\g<a4)\/(a1<F/\¬g<a4)\/¬a1<F:=by omega
        have s2:(a3<=E)\/(¬a3<=E/\K<=a2)\/(¬a3<=E/\¬K<=a2):=by omega
        rcases s1 with⟨e1,e2⟩|⟨e1,e2⟩|e1<;>rcases s2 with e3|⟨e3,e4⟩|⟨e3,e4⟩
        all_goals (
         go_wp2_with (go_at_call 45;refine(yH _ _ _).mono ?_;rintro e w'⟨rfl,rfl⟩)
         go_meet
         case rel=>
          refine⟨?_,rfl⟩;rw[HMT.out,abI]
          first|rw[show(decide (a1<F)&&decide (g<a4))=true by simp;omega]|rw[show(decide (a1<F)&&decide (g<a4))=false by simp;omega]
          first|rw[show(decide (a3<=E)||decide (K<=a2))=true by simp;omega]|rw[show(decide (a3<=E)||decide (K<=a2))=false by simp;omega])
       case rest=>
        obtain⟨rfl,rfl⟩:=hcut;obtain⟨z0,z1,z2,z3,z4⟩:=qO BA.out;obtain⟨y0,y1,y2,y3,y4⟩:=qO BB.out;have la:=aI BA.out;have lb:=aI BB.out;have q1:=Rw;have q2:=Kv;have O2:=aJ (HO3.out.on HB.out);have K2:=aJ (f.out.on HB.out)
        go_upto_region 16 with fail
        obtain⟨mx,hmx⟩:∃m,max a1 g=m:=⟨_,rfl⟩
        rw[hmx];have HMX:Hid (IU L a b p=(a,(b:Int),(p:Int),mt,mx)):=aJ (by rw[ET.out,hmx]);clear hmx z0 z1 z2 z3 z4 y0 y1 y2 y3 y4 la lb;obtain⟨N,Sn⟩:∃N:World,N=(wc.alloc (.cells #[.int .i64 a,.int .i64 b,.int .i64 p,.int .i64 mt,.int .i64 mx] 74)).alloc (.cells #[.int .i64 a,.int .i64 b,.int .i64 p,.int .i64 2,.int .i64 mx] 74):=⟨_,rfl⟩
        have r1:N.heap[wc.heap.size]?=some (.cells #[.int .i64 a,.int .i64 b,.int .i64 p,.int .i64 mt,.int .i64 mx] 74):=by rw[Sn];exact(((bT _ (wc.alloc _)).alloc (bX _) _).block _ (by simp)).trans (au wc _)
        have r2:N.heap[wc.heap.size+1]?=some (.cells #[.int .i64 a,.int .i64 b,.int .i64 p,.int .i64 2,.int .i64 mx] 74):=by
         have h:=au (wc.alloc (.cells #[.int .i64 a,.int .i64 b,.int .i64 p,.int .i64 mt,.int .i64 mx] 74)) (.cells #[.int .i64 a,.int .i64 b,.int .i64 p,.int .i64 2,.int .i64 mx] 74);rw[ai]at h;rw[Sn];exact h
        have O4:=aJ (show kV N w2.heap.size u4 _ by rw[Sn];exact(O2.out.alloc _).alloc _);have K4:Hid (KR C w k L w2.heap.size N):=aJ (by rw[Sn];exact(K2.out.alloc _).alloc _);rw[<-Sn];clear Sn;have z1:=aI r1;have z2:=aI r2;obtain⟨c0,c1,c2,c3,c4⟩:=qO r1;obtain⟨d0,d1,d2,d3,d4⟩:=qO r2;clear r1 r2;by_cases hm2:mt=2
        ·subst hm2
         go_wp2
         exact⟨⟨p+1,ao1,by go_num,by rw[abf,if_pos (by rw[HMX.out]),bg];exact O4.out,K4.out⟩,by simp only[intOf];omega⟩
        ·obtain⟨i0,hi,mF,dx,wD⟩:=info_parts aaX;have NB:=aJ K4.out.pK;have Tl:(P0 L C.n4 C.n5 a++L1 L C.n4 a j++abf L a b p).length<=80:=by
          have:=ah0 L h4 h5 a;have:=E1 L h4 a j;have:=ac9 L a b p;have:=A.out;simp only[bo];omega
         have HLN:=aJ Tl;clear Tl
         go_wp2_with (at_builtin;refine wpList_append_own _ rfl _ _ _ rfl w2.heap.size 74 i0 _ 5 40 ag2 hi mF dx wD rfl (by decide) u4 _ _ rfl (O4.out.alloc _) ⟨N.heap.size,0,none⟩ 1 1 (vV (a,(b:Int),(p:Int),mt,mx)) rfl rfl (Sm (x:=(a,(b:Int),(p:Int),mt,mx)) (au N _)) (by simp[vV,ct]) (by have:=HLN.out;simp only[ae];omega) (by have:=HLN.out;omega) (by have:=NB.out;simp;omega) ?_;intro v' w4 h1 h2 _;have H1:=aJ h1;have H2:=aJ h2;clear h1 h2)
         have bu:=cZ O4.out;have d:=K4.out.alloc (.cells #[.int .i64 a,.int .i64 b,.int .i64 p,.int .i64 mt,.int .i64 mx] 74);have hg:=(bT w2.heap.size _).grown H2.out d.pK bu;refine⟨⟨p+1,ao1,by go_num,?_,b5 d.pK H2.out.size,d.kl,d.bl,(hg.block _ d.bl).trans d.box,⟨b4 d.row.1 H2.out.size,λj u e=>(hg.cell (p:=⟨k,j,none⟩) d.kl).trans (d.row.2 j u e)⟩,d.low.grown H2.out d.low.size λq e=>b5 (b8 d.bl) (bu q e)⟩,by simp only[intOf];omega⟩;rw[abf,if_neg (by rw[HMX.out];exact hm2),HMX.out,<-bq];unfold kV;rw[bo,List.flatMap_append];simpa using H1.out
      ·obtain rfl:p=C.n4:=by omega
       go_wp2
       exact⟨⟨b+1,j+1,by rw[A.out];rfl,arw,by go_num,by rw[L1,<-A.out,<-bq];exact HO3.out,f.out⟩,by simp only[intOf];omega⟩
    ·have hbn:b=C.n5:=by omega
     have i2:¬((b:Int)<C.n5):=by omega
     go_wp2
     exact⟨⟨a+1,aH,by go_num,by rw[P0,show C.n5-(a+1)=j by have:=A.out;omega];exact P.out,B.out⟩,by simp only[intOf];omega⟩
  ·obtain rfl:a=C.n5:=by omega
   obtain⟨b,c,rfl⟩:=vB HO.out;have hm:=ah1 L h4 h5
   go_wp2_with (go_at_call 75;refine(acO _ _ HO.out (by omega)).mono ?_;rintro e w3⟨rfl,hO3,qi⟩)
   go_ret
   exact⟨_,rfl,dJ hO3 (b8 HK.out.bl),HK.out.low.trans (qi.mono (b8 HK.out.bl))⟩
def Cv(d:Int)(p:Nat):List nR:=if d=1/\p=3 then[(0,1,2,0,13)] else[]
def alI{d:Int}(hd:d=0\/d=1):ahD (mC d) 3 2=Cv d 3:=by
 rcases hd with rfl|rfl<;>decide +kernel
def vC(C:CD)(d:Int)(hd:d=0\/d=1)(a:C.n4=3)(b:C.n5=2)(w:World)(h:C.At w)
 (c:∀W,C.At W->Calls PL 51 #[.agg C.val] W λe w'=>∃k,e=.returned (.pointer (some ⟨k,0,none⟩))/\Row w' k ((mC d).map bh)/\Below W.heap.size W w') :
 Calls PL 53 #[.agg C.val] w λe w'=>∃v,e=.returned v/\kV w' w.heap.size v (Cv d 3)/\Below w.heap.size w w':=by
 have:=aaS C (mC d) (by rcases hd with rfl|rfl<;>rfl) (by omega) (by omega) w h c;rwa[a,b,alI hd]at this
end Go.Proofs
namespace Go.Proofs
open Go.RowKit
set_option maxRecDepth 100000
set_option maxHeartbeats 4000000
def CD.LR(C:CD):Bool:=C.small&&decide (C.cx=0)
def afk(C:CD)(w:World)(h:C.Mem w):Calls PL 4 #[.agg C.val] w (aO (.bool C.LR) w):=by
 have f:Hid (∀W,Below w.heap.size w W->C.Mem W):=aJ λW g=>h.below g;have b:=aJ (show KB C w (w.alloc (.cells C.val 27)) from⟨au _ _,(bT _ _).alloc (bX _) _⟩);clear h;by_cases hs:C.small=true
 ·have r:Hid (∀W,Below w.heap.size w W->C.At W):=aJ λW g=>CD.At.Ri (f.out W g) hs;have a:(!C.small)=false:=by rw[hs];rfl
  have i:Hid (∀W,C.Mem W->Calls PL 12 #[.agg C.val] W (aO (.bool false) W)):=aJ λW j=>by have:=AK C W j;rwa[a]at this
  have k:=aJ hs;clear hs a;by_cases hc:C.cx=0
  all_goals
   have s:=aJ hc;clear hc
   go_enter (fx (by decide) cf),cg
   obtain⟨l,m,n,o,f4,p⟩:=bf b.out.box
   go_wp2_with (first
    |(go_at_call 12;refine(i.out _ (f.out _ b.out.low)).mono ?_;rintro e w1⟨rfl,c⟩;have d:=aJ (b.out.on c);clear c;clear l m n o f4 p;obtain⟨l,m,n,o,f4,p⟩:=bf d.out.box)
    |(go_at_call 13;refine(rK C _ (r.out _ d.out.low)).mono ?_;rintro e w2⟨rfl,q⟩;have t:=aJ (d.out.on q);clear q))
   go_ret
   refine⟨?_,t.out.low⟩;have:=s.out;have:=k.out
   simp_all [CD.LR]
 ·have a:(!C.small)=true:=by simpa using hs
  have i:Hid (∀W,C.Mem W->Calls PL 12 #[.agg C.val] W (aO (.bool true) W)):=aJ λW j=>by have:=AK C W j;rwa[a]at this
  have k:=aJ hs;clear hs a
  go_enter (fx (by decide) cf),cg
  go_wp2_with (first
   |(go_at_call 12;refine(i.out _ (f.out _ b.out.low)).mono ?_;rintro e w1⟨rfl,c⟩;have d:=aJ (b.out.on c);clear c))
  go_ret
  refine⟨?_,d.out.low⟩;have:=k.out
  simp_all [CD.LR]
open Go.Shelf
attribute [local go_sem] Oper.semAt_some
def P2(W:World)(v:Value)(l:List Int):Prop:=(∃b c,v=.slice b l.length c/\(0<l.length->∃k o,b=some ⟨k,o,none⟩/\k<W.heap.size/\∀i(hi:i<l.length),W.cell? ⟨k,o+i,none⟩=some (.int .u16 l[i])))/\∀x∈l,0<=x/\x<=65535
def P2.on{W a:World}{v:Value}{l:List Int}(h:P2 W v l)(d:Below W.heap.size W a):P2 a v l:=by
 obtain⟨⟨b,c,e,h⟩,g⟩:=h;refine⟨⟨b,c,e,λj=>?_⟩,g⟩;obtain⟨k,o,e1,f,hc⟩:=h j;exact⟨k,o,e1,b4 f d.size,λi hi=>(d.cell (p:=⟨k,_,none⟩) f).trans (hc i hi)⟩
abbrev chI(l:List Int)(n:Nat):Int:=l.getD n 0
def alJ{W:World}{v:Value}{l:List Int}(h:P2 W v l)(n:Nat):0<=chI l n/\chI l n<=65535:=by
 unfold chI;rw[br]
 rcases b9 n l.length with a|a
 ·rw[bj a];exact h.2 _ (bs a)
 ·rw[bp a];exact⟨by decide,by decide⟩
def acV(v:Value)(l:List Int)(n:Nat)(w:World)(h:P2 w v l)(q:n<=1000):Calls PL 7 #[v,.int .i64 n] w (λe w'=>e=.returned (.int .i64 (chI l n))/\w=w'):=by
 obtain⟨⟨b,c,rfl,h⟩,f⟩:=h;have j:∀x:Int,0<=x/\x<=65535->IntKind.i64.wrap x=x:=λx d=>cB _ (by omega);have m:=aJ j;clear j;by_cases g:n<l.length
 ·obtain⟨k,o,rfl,r,hc⟩:=h (by omega);obtain⟨x,d⟩:∃x,x=l[n]:=⟨_,rfl⟩
  have c0:=hc n g;rw[<-d]at c0;have a:=f x (by rw[d];exact bs g);have s:=m.out x a;obtain⟨a,t⟩:=a;have i:Hid (chI l n=x):=aJ (by rw[d,chI,br,bj g];rfl);clear hc h f d;have p:(n:Int)<l.length:=by omega
  go_enter (fx (by decide) ch),ci
  go_wp2
  go_ret
  exact⟨aC i.out,rfl⟩
 ·have p:¬(n:Int)<l.length:=by omega
  clear h f;have i:Hid (chI l n=0):=aJ (by rw[chI,br,bp (by omega)];rfl)
  go_enter (fx (by decide) ch),ci
  go_wp2
  go_ret
  first|exact⟨rfl,rfl⟩|exact⟨aC i.out,rfl⟩
def CD.rp(C:CD)(g i:Nat):Nat:=s7 C.n4 (C.S g) i
end Go.Proofs
namespace Go.Proofs
open Go.RowKit
def abw{C:CD}(hc:C.cx=0){g:Nat}(hg:g<C.n5)(k:Nat):(nT C g k).1=C.rp g k:=by
 have b:=(G0 hc).1;have hs:=(agS hc hg).1
 induction k with
 |zero=>
  show C.S g=s7 C.n4 (C.S g) 0;unfold s7;rw[Nat.add_zero,Nat.mod_eq_of_lt];unfold CD.S;omega
 |succ k a=>
  show Ff C (nT C g k).1=s7 C.n4 (C.S g) (k+1);rw[a,abc (by omega)];rfl
def alM{C:CD}(hc:C.cx=0){g:Nat}(hg:g<C.n5){r:Nat}(d:r<=C.n4):cmV C.pn C.n4 (C.S g) (C.dl g) r=(nT C g r).2:=by
 have a:=Sa C hc hg
 induction r with
 |zero=>rfl
 |succ r f=>
  have b:=a.lo (r+1) d;have c:=a.hi (r+1) d;have h:=a.lo r (by omega);have i:=a.hi r (by omega);have e:=a.nn _ (a.p4 r);have j:=a.m4;rw[cmV,f (by omega)];simp only[nT]at b c ⊢;rw[abw hc hg]at b c e ⊢;simp only[CD.rp]at b c e ⊢;simp only[CD.pn];rw[cB ((nT C g r).2.1+_) (by omega),cB ((nT C g r).2.1+_+_) (by omega),cB ((nT C g r).2.2+_) (by omega),cB ((nT C g r).2.2+_+_) (by omega)]
def aaY(x:nR):Nat->Int
 |0=>(x.1:Nat)
 |1=>x.2.1
 |2=>x.2.2.1
 |3=>x.2.2.2.1
 |_=>x.2.2.2.2
def afl{C:CD}(hc:C.cx=0){g:Nat}(hg:g<C.n5){r:Nat}(c:r<C.n4)(j:Nat):vsV C.pn C.n4 (C.S g) (C.dl g) r j=aaY (Nu C g r) j:=by
 have a:=Sa C hc hg;have d:=a.lo r (by omega);have f:=a.hi r (by omega);have b:=a.nn _ (a.p4 r);have h:=a.m4;rw[abw hc hg]at b;have e:=alM hc hg (show r<=C.n4 by omega)
 match j with
 |0=>simp only[vsV,aaY,Nu,abw hc hg];rfl
 |1=>simp only[vsV,aaY,Nu,e]
 |2=>simp only[vsV,aaY,Nu,e]
 |3=>
  simp only[vsV,aaY,Nu,e,abw hc hg];simp only[CD.rp,CD.pn]at b ⊢;exact cB _ (by omega)
 |j+4=>
  simp only[vsV,aaY,Nu,e,abw hc hg];simp only[CD.rp,CD.pn]at b ⊢;exact cB _ (by omega)
def ahF{C:CD}(hc:C.cx=0){g:Nat}(hg:g<C.n5){r:Nat}(b:r<C.n4)(j:Nat):0<=aaY (Nu C g r) j/\aaY (Nu C g r) j<=1000:=by
 have a:=Sa C hc hg;have c:=a.lo r (by omega);have d:=a.hi r (by omega);have e:=a.nn _ (a.p4 r);have f:=a.m4;have h:=a.p4 r
 match j with
 |0=>simp only[aaY,Nu];omega
 |1=>simp only[aaY,Nu];omega
 |2=>simp only[aaY,Nu];omega
 |3=>simp only[aaY,Nu];omega
 |j+4=>simp only[aaY,Nu];omega
def CD.ah2{C:CD}(hc:C.cx=0){g p j:Nat}(hg:g<C.n5)(a:p<C.n4)(b:j<5):C.tab.getD (g*25+p*5+j) 0=aaY (Nu C g (ac0 C.n4 (C.S g) p)) j:=by
 have c:=(G0 hc).2;have d:=s8 hc;rw[<-afl hc hg (aaG (by omega))];unfold CD.tab ac3;rw[br,bt,bv (by omega)];simp only[aB,aF];rw[ag9,show(g*25+p*5+j) / 25=g by omega,show(g*25+p*5+j) % 25 / 5=p by omega,show(g*25+p*5+j) % 5=j by omega,if_pos ⟨hg,a⟩]
def CD.agu{C:CD}(hc:C.cx=0):Ir C.tab:=by
 have key:∀o,-10000<=C.tab.getD o 0/\C.tab.getD o 0<=10000:=λo=>by
  unfold CD.tab ac3;rw[br,bt]
  rcases b9 o 75 with a|a
  ·rw[bv a];simp only[aB,aF];rw[ag9]
   split
   ·rename_i b;have:=ahF hc b.1 (aaG (np:=C.n4) (s:=C.S (o / 25)) (p:=o % 25 / 5) (by omega)) (o % 5);rw[afl hc b.1 (aaG (by omega))];omega
   ·omega
  ·rw[bp (by simpa using a)];simp
 exact⟨by simp[CD.tab,ac3],λj=>(key j).1,λj=>(key j).2⟩
def abm(C:CD)(g:Nat)(h:0<C.n4):nU C g=(Nu C g (C.n4-1)).2.2.2:=by
 unfold nU;rw[show C.n4=(C.n4-1)+1 by omega,uM,IE];rfl
structure ahG(C D:CD):Prop where
 l:D.l=C.l
 p:D.p=C.p
 n2:D.n2=C.n2
 x2:D.x2=C.x2
 n3:D.n3=C.n3
 x3:D.x3=C.x3
 n4:D.n4=C.n4
 x4:∀i,(D.x4 i).name=(C.x4 i).name/\(∀j,j<=6->(D.x4 i).n j=(C.x4 i).n j)/\(D.x4 i).ln=(C.x4 i).ln/\(D.x4 i).lane=(C.x4 i).lane
 n5:D.n5=C.n5
 x5:∀i,(D.x5 i).1=(C.x5 i).1/\(D.x5 i).2.1=(C.x5 i).2.1
def ahG.check{C D:CD}(h:ahG C D)(f:∀i,i<C.n4->eK ((D.x4 i).n 7) ((D.x4 i).n 8) 1 60=true/\eK ((D.x4 i).n 9) ((D.x4 i).n 10) 0 60=true)(k:∀i,i<C.n5->bO (D.x5 i).2.2 0 12=true)(hc:C.cx=0):D.cx=0:=by
 have d:∀j,j<5->C.dP j=0:=ck hc;refine cz λj g=>?_;have b:=d j g
 match j,g with
 |0,_=>simp only[CD.dP,h.l,h.p]at *;exact b
 |1,_=>simp only[CD.dP,h.n2,h.x2]at *;exact b
 |2,_=>simp only[CD.dP,h.p,h.n3,h.x3]at *;exact b
 |3,_=>
  simp only[CD.dP,h.p,h.n2,h.n3,h.n4,kA]at *
  split at b
  ·rename_i hb;rw[if_pos hb];have d:=ck b;refine cz λi hi=>?_;have a:=d i hi;obtain⟨e1,c,m,o⟩:=h.x4 i;have e:((bw i).map λj=>(D.x4 j).name)=(bw i).map λj=>(C.x4 j).name:=bx λj _=>(h.x4 j).1;unfold gM at a⊢;rw[e1,e,c 1 (by omega),c 2 (by omega),c 3 (by omega),c 4 (by omega),c 5 (by omega),c 6 (by omega),m,o,(f i hi).1,(f i hi).2]
   split at a
   ·rename_i k1;rw[if_pos k1]
    split at a
    ·rename_i k2;rw[if_pos k2]
     split at a
     ·cases a
     ·rename_i k3;rw[if_neg k3]
      split at a
      ·rename_i q;rw[if_pos q]
       split at a
       ·exact a
       ·cases a
      ·cases a
    ·cases a
   ·exact absurd a (by assumption)
  ·cases b
 |4,_=>
  simp only[CD.dP,h.n4,h.n5,pE]at *
  split at b
  ·cases b
  ·rename_i hb;rw[if_neg hb];have d:=ck b;refine cz λi hi=>?_;have a:=d i hi;have e:((bw i).map λj=>(D.x5 j).1)=(bw i).map λj=>(C.x5 j).1:=bx λj _=>(h.x5 j).1;have es:((bw i).map λj=>(D.x5 j).2.1)=(bw i).map λj=>(C.x5 j).2.1:=bx λj _=>(h.x5 j).2;unfold iI at a⊢;rw[(h.x5 i).1,(h.x5 i).2,e,es]
   split at a
   ·rename_i k1;rw[if_pos k1]
    split at a
    ·rename_i k2;rw[if_pos k2]
     split at a
     ·cases a
     ·rename_i k3;rw[if_neg k3,if_pos (k i hi)]
    ·cases a
   ·exact absurd a (by assumption)
open Go.Shelf
attribute [local go_sem] Oper.semAt_some
set_option maxRecDepth 100000
set_option maxHeartbeats 4000000
def CD.Cv(C:CD):List nR:=ahD C.tab C.n4 C.n5
def CD.H8(C:CD):Bool:=qP C C.n5&&decide (C.Cv.length=0)
def afr{C:CD}(hc:C.cx=0){w:World}(h:C.At w):Calls PL 53 #[.agg C.val] w λe w'=>∃v,e=.returned v/\kV w' w.heap.size v C.Cv/\Below w.heap.size w w':=
 aaS C C.tab (CD.agu hc).len (G0 hc).2 (s8 hc) w h (λ_ a=>ahx a hc)
def alN{C:CD}{w:World}(h:C.At w)(hc:C.cx=0):Calls PL 9 #[.agg C.val] w (aO (.tuple #[.bool C.H8,.int .i64 0]) w):=by
 have d:=aJ h;have l:Hid (C.b6 true=0):=aJ (by rw[CD.b6,if_pos hc];rfl)
 have f:Hid (∀W,C.At W->Calls PL 32 #[.agg C.val] W (aO (.bool C.H8) W)):=aJ λW a=>VY C C.Cv.length W a hc (s8 hc) λW a=>(afr hc a).mono (by
  rintro e w'⟨v,rfl,m,n⟩;obtain⟨b,c,rfl⟩:=vB m
  exact⟨b,c,rfl,n⟩)
 have g:Hid (KB C w (w.alloc (.cells C.val 27))):=aJ ⟨au _ _,(bT _ _).alloc (bX _) _⟩;clear h hc;obtain⟨s,hs⟩:∃s,s=C.H8:=⟨_,rfl⟩
 rw[<-hs]at f ⊢;clear hs
 go_enter (fx (by decide) Tryz.func9),Tryz.ntmps9
 go_wp2_with (first
  |(go_at_call 35;refine(kF l.out (d.out.below g.out.low)).mono ?_;rintro e w1⟨rfl,i⟩;have j:=aJ (g.out.on i);clear i)
  |(go_at_call 32;refine(f.out _ (d.out.below (j.out.alloc (.cells C.val 78)).low)).mono ?_;rintro e w2⟨rfl,k⟩;have o:=aJ ((j.out.alloc (.cells C.val 78)).on k);clear k))
 refine ad (v:=.tuple #[.bool s,.int .i64 0]) ?_ rfl ⟨rfl,o.out.low⟩;simp[ac,Tryz.results9,go_sem]
end Go.Proofs
namespace Go.Proofs
open Go.RowKit Go.Shelf
set_option maxRecDepth 100000
set_option maxHeartbeats 4000000
def ah3{a b:Type}{lt:a->a->Bool}{lt':b->b->Bool}(f:a->b)(h:∀x y,lt' (f x) (f y)=lt x y)(x:a)(P:List a):Z0 lt' (f x) (P.map f)=(Z0 lt x P).map f:=by
 induction P with
 |nil=>rfl
 |cons y P c=>
  rw[bA,Z0,Z0,h]
  split
  ·rw[bA,c]
  ·rfl
def agv{a b:Type}{lt:a->a->Bool}{lt':b->b->Bool}(f:a->b)(h:∀x y,lt' (f x) (f y)=lt x y)(l:List a):B0 lt' (l.map f)=(B0 lt l).map f:=by
 have key:∀(l P:List a),a9 (λP x=>Z0 lt' x P) (P.map f) (l.map f)=(a9 (λP x=>Z0 lt x P) P l).map f:=by
  intro l
  induction l with
  |nil=>intro P;rfl
  |cons x l c=>intro P;rw[bA,ba,ba,ah3 f h,c]
 have:=key l [];simp only[B0,aaf];rw[bC]at this;rw[this,List.map_reverse]
def shV(n:Int)(x:nR):nR:=(x.1,x.2.1+n,x.2.2.1+n,x.2.2.2.1+n,x.2.2.2.2+n)
def shT(n:Int)(x:nR):nR:=(x.1,x.2.1,x.2.2.1,x.2.2.2.1,x.2.2.2.2+n)
structure CL(C D:CD)(n:Int):Prop where
 n4:D.n4=C.n4
 n5:D.n5=C.n5
 x4:∀i,(D.x4 i).n=(C.x4 i).n
 s:∀g,(D.x5 g).2.1=(C.x5 g).2.1
 d:∀g,g<C.n5->(D.x5 g).2.2=(C.x5 g).2.2+n
def CL.st{C D:CD}{n:Int}(h:CL C D n){g:Nat}(hg:g<C.n5)(k:Nat):nT D g k=((nT C g k).1,(nT C g k).2.1+n,(nT C g k).2.2+n):=by
 induction k with
 |zero=>simp only[nT,h.s,h.d g hg]
 |succ k a=>
  rw[nT,a];simp only[h.x4,nT,Ff,h.n4];refine cC rfl (cC ?_ ?_)<;>simp only<;>omega
def CL.vis{C D:CD}{n:Int}(h:CL C D n){g:Nat}(hg:g<C.n5)(k:Nat):Nu D g k=shV n (Nu C g k):=by
 simp only[Nu,h.st hg,shV,h.x4];refine cC rfl (cC rfl (cC rfl (cC ?_ ?_)))<;>simp only<;>omega
def CL.tab{C D:CD}{n:Int}(h:CL C D n)(hc:C.cx=0)(hd:D.cx=0){g p:Nat}(hg:g<C.n5)(b:p<C.n4):∀j,1<=j->j<5->D.tab.getD (g*25+p*5+j) 0=C.tab.getD (g*25+p*5+j) 0+n:=λj c a=>by
 have d:D.S g=C.S g:=by simp only[CD.S,h.s]
 rw[CD.ah2 hd (by rw[h.n5];exact hg) (by rw[h.n4];exact b) a,CD.ah2 hc hg b a,h.n4,d,h.vis hg]
 match j,c,a with
 |1,_,_=>rfl
 |2,_,_=>rfl
 |3,_,_=>rfl
 |4,_,_=>rfl
def ahH(a1 a2 a3 a4 a b c d n:Int):abI (a1+n) (a2+n) (a3+n) (a4+n) (a+n) (b+n) (c+n) (d+n)=abI a1 a2 a3 a4 a b c d:=by
 unfold abI;have e:∀x y:Int,decide (x+n<y+n)=decide (x<y):=λx y=>by simp
 have f:∀x y:Int,decide (x+n<=y+n)=decide (x<=y):=λx y=>by simp
 rw[e,e,f,f]
def CL.IU{C D:CD}{n:Int}(h:CL C D n)(hc:C.cx=0)(hd:D.cx=0){a b p:Nat}(d:a<C.n5)(hb:b<C.n5)(c:p<C.n4):Go.Proofs.IU D.tab a b p=shT n (Go.Proofs.IU C.tab a b p):=by
 have A:=h.tab hc hd d c;have B:=h.tab hc hd hb c;simp only[Go.Proofs.IU,shT,A 1 (by omega) (by omega),A 2 (by omega) (by omega),A 3 (by omega) (by omega),A 4 (by omega) (by omega),B 1 (by omega) (by omega),B 2 (by omega) (by omega),B 3 (by omega) (by omega),B 4 (by omega) (by omega),ahH];refine cC rfl (cC rfl (cC rfl (cC rfl ?_)));simp only;omega
def CL.Cv{C D:CD}{n:Int}(h:CL C D n)(hc:C.cx=0)(hd:D.cx=0):D.Cv=C.Cv.map (shT n):=by
 have f:∀a b,a<C.n5->b<C.n5->∀k,k<=C.n4->abf D.tab a b k=(abf C.tab a b k).map (shT n):=by
  intro a b d hb k
  induction k with
  |zero=>intro _;rfl
  |succ k c=>
   intro e;rw[abf,c (by omega),h.IU hc hd d hb (by omega),abf,bL];congr 1;show(if(Go.Proofs.IU C.tab a b k).2.2.2.1=2 then[] else _)=_
   split<;>rfl
 have g:∀a,a<C.n5->∀k,a+k<C.n5->L1 D.tab C.n4 a k=(L1 C.tab C.n4 a k).map (shT n):=by
  intro a d k
  induction k with
  |zero=>intro _;rfl
  |succ k c=>
   intro e;rw[L1,c (by omega),f a (a+1+k) d (by omega) C.n4 (bX _),L1,bL]
 have hA:∀k,k<=C.n5->P0 D.tab C.n4 C.n5 k=(P0 C.tab C.n4 C.n5 k).map (shT n):=by
  intro k
  induction k with
  |zero=>intro _;rfl
  |succ k c=>
   intro e;rw[P0,c (by omega),g k (by omega) (C.n5-(k+1)) (by omega),P0,bL]
 unfold CD.Cv ahD;rw[h.n4,h.n5,hA C.n5 (bX _),agv (shT n) (lt:=L0) (lt':=L0) λx y=>by simp[L0,shT]]
end Go.Proofs
namespace Go.Proofs
open Go.RowKit
set_option maxRecDepth 100000
set_option maxHeartbeats 4000000
def ab5(a b:List Int):Nat->Nat->Bool
 |0,_=>false
 |k+1,q=>if a.length<=q\/b.length<=q then false else if a.getD q 0≠b.getD q 0 then decide (a.getD q 0<b.getD q 0) else ab5 a b k (q+1)
def L2(f g:Nat->Int)(n m:Nat):Nat->Nat->Bool
 |0,_=>false
 |k+1,q=>if n<=q\/m<=q then false else if f q≠g q then decide (f q<g q) else L2 f g n m k (q+1)
def acd(a b:List Int):∀k q,ab5 a b k q=L2 (λj=>a.getD j 0) (λj=>b.getD j 0) a.length b.length k q
 |0,_=>rfl
 |k+1,q=>by rw[ab5,L2,acd a b k (q+1)]
def alO(a b:Value)(n m:Nat)(f g:Nat->Int)(w:World)(i:Reads w a n 1 λj=>.int .i64 (f j))(hb:Reads w b m 1 λj=>.int .i64 (g j))(D:n<=6)(F:m<=6):Calls PL 11 #[a,b] w (aO (.bool (L2 f g n m 6 0)) w):=by
 obtain⟨H,I,rfl,i⟩:=i;obtain⟨J,K,rfl,hb⟩:=hb;have A:=aJ i;have B:=aJ hb;clear i hb
 go_enter (fx (by decide) Tryz.func11),Tryz.ntmps11
 go_wp2
 go_loopw [5] (λv wr=>∃q:Nat,q<=6/\q<=n/\q<=m/\v=.int .i64 q/\L2 f g n m 6 0=L2 f g n m (6-q) q/\Below w.heap.size w wr) (λv _=>6-(intOf v).toNat)
 case atStart=>exact⟨0,b2 _,b2 _,b2 _,rfl,rfl,bT _ _⟩
 case round=>
  obtain⟨q,L,s,t,rfl,l,e⟩:=hrel;have E:=aJ l;have c:=aJ e;clear l e;by_cases u:q<n
  ·have M:(q:Int)<n:=by omega
   by_cases x:q<m
   ·have N:(q:Int)<m:=by omega
    obtain⟨k,o,rfl,y,hc⟩:=A.out (by omega);have a0:w.cell? ⟨k,o+q,none⟩=some (.int .i64 (f q)):=hc q (by omega);obtain⟨k',r,rfl,z,h⟩:=B.out (by omega);have b0:w.cell? ⟨k',r+q,none⟩=some (.int .i64 (g q)):=h q (by omega);have a1:=(c.out.cell (p:=⟨k,o+q,none⟩) y).trans a0;have O:=(c.out.cell (p:=⟨k',r+q,none⟩) z).trans b0;clear hc h a0 b0;have es:6-q=(6-(q+1))+1:=by omega
    by_cases d:f q=g q
    ·have C:(f q != g q)=false:=by simp[d]
     have Z:=aJ d;clear d
     go_wp2
     go_quiet (fail)
     go_wp2
     refine⟨⟨q+1,by omega,u,x,by go_num,?_,below_drewN c.out _⟩,by simp only[intOf];omega⟩;rw[E.out,es,L2,if_neg (by omega),if_neg (by simp[Z.out])]
    ·have C:(f q != g q)=true:=by simp[d]
     have Z:=aJ d;clear d;by_cases hy:f q<g q
     all_goals
      have Y:=aJ hy
      go_wp2
      go_quiet (fail)
      go_wp2
      go_quiet (fail)
      go_wp2
      go_ret
      refine⟨?_,below_drewN (below_drewN c.out _) _⟩;rw[E.out,es,L2,if_neg (by omega),if_pos Z.out];simp[Y.out]
   ·obtain rfl:q=m:=by omega
    go_wp2
    go_ret
    refine⟨?_,c.out⟩;have:L2 f g n q (6-q) q=false:=by
     cases 6-q with
     |zero=>rfl
     |succ k=>rw[L2,if_pos (by omega)]
    rw[E.out,this];rfl
  ·obtain rfl:q=n:=by omega
   go_wp2
   go_ret
   refine⟨?_,c.out⟩;have:L2 f g q m (6-q) q=false:=by
    cases 6-q with
    |zero=>rfl
    |succ k=>rw[L2,if_pos (by omega)]
   rw[E.out,this];rfl
def ah4{l m:List Int}{a b:Value}{w:World}(c:bB w a l)(hb:bB w b m)(d:l.length<=6)(e:m.length<=6):Calls PL 11 #[a,b] w (aO (.bool (ab5 l m 6 0)) w):=by
 rw[acd];exact alO a b _ _ _ _ w c hb d e
open Go.Shelf
def j9{a:Type}(f:Nat->Option a):Nat->Nat->Option a
 |0,_=>none
 |c+1,n=>match f n with
  |some r=>some r
  |none=>j9 f c (n+1)
def Q2{a:Type}{f:Nat->Option a}{r:a}:∀{c n:Nat},j9 f c n=some r->∃m,n<=m/\m<n+c/\f m=some r/\∀q,n<=q->q<m->f q=none
 |0,n,h=>by cases h
 |c+1,n,h=>by
  rw[j9]at h
  cases e:f n with
  |some x=>
   rw[e]at h;cases h;exact⟨n,bX _,by omega,e,λq b d=>by omega⟩
  |none=>
   rw[e]at h;obtain⟨m,b,d,g,i⟩:=Q2 h;refine⟨m,by omega,by omega,g,λq k1 k2=>?_⟩
   rcases b9 n q with k|k
   ·exact i q k k2
   ·obtain rfl:q=n:=by omega
    exact e
def Q3{a:Type}{f:Nat->Option a}:∀{c n:Nat},j9 f c n=none->∀q,n<=q->q<n+c->f q=none
 |0,n,_=>λq b d=>by omega
 |c+1,n,h=>λq b d=>by
  rw[j9]at h
  cases e:f n with
  |some x=>rw[e]at h;cases h
  |none=>
   rw[e]at h
   rcases b9 n q with k|k
   ·exact Q3 h q k (by omega)
   ·obtain rfl:q=n:=by omega
    exact e
def FT(a:List Int->Bool):Nat->List Int->Nat->Option (List Int)
 |0,l,left=>if left=0/\a l=true then some l else none
 |k+1,l,left=>j9 (λn=>FT a k (l++[(n:Int)]) (left-n)) (min left 12+1) 0
def b7(t:List Nat):List Int:=t.map fun(x:Nat)=>(x:Int)
def ace:List Int->List Int->Bool
 |x::xs,y::ys=>if x≠y then decide (x<y) else ace xs ys
 |_,_=>false
def acg(l:List Int):ace l []=false:=by cases l<;>rfl
def abJ(a b:List Int):∀k q,a.length<=q+k->ab5 a b k q=ace (a.drop q) (b.drop q)
 |0,q,h=>by rw[bM (show a.length<=q by omega)];rfl
 |k+1,q,h=>by
  rw[ab5];by_cases c:a.length<=q
  ·rw[if_pos (.inl c),bM c];rfl
  ·by_cases d:b.length<=q
   ·rw[if_pos (.inr d),bM (show b.length<=q from d),acg]
   ·have e:q<a.length:=by omega
    have f:q<b.length:=by omega
    rw[if_neg (by omega),bi e,bi f,ace,abJ a b k (q+1) (by omega)];have e1:a.getD q 0=a[q]:=by simp[br,e]
    have g:b.getD q 0=b[q]:=by simp[br,f]
    rw[e1,g]
def okT(k left:Nat)(u:List Nat):Prop:=u.length=k/\u.sum=left/\∀x∈u,x<=12
def acj{k left x:Nat}{u:List Nat}(h:okT (k+1) left (x::u)):x<=min left 12/\okT k (left-x) u:=by
 obtain⟨b,c,a⟩:=h;rw[bR]at c;have:=a x (by simp);exact⟨by omega,by simpa using b,by omega,λy hy=>a y (by simp[hy])⟩
def R9(b:List Int->Bool):∀k l left,FT b k l left=none->∀u,okT k left u->b (l++b7 u)=false
 |0,l,left,h,u,a=>by
  obtain⟨d,c,_⟩:=a;obtain rfl:u=[]:=List.eq_nil_of_length_eq_zero d;rw[FT]at h
  split at h
  ·cases h
  ·rename_i e;rw[show l++b7 []=l by simp[b7]];have:left=0:=by simpa using c.symm
   simp[this]at e;exact e
 |k+1,l,left,h,u,a=>by
  match u,a with
  |[],a=>cases a.1
  |x::u,a=>
   obtain⟨d,c⟩:=acj a;rw[FT]at h;have:=R9 b k _ _ (Q3 h x (by omega) (by omega)) u c;rwa[bq]at this
def abK(b:List Int->Bool):∀k l left r,FT b k l left=some r->∃t,r=l++b7 t/\okT k left t/\b r=true/\∀u,okT k left u->b (l++b7 u)=true->ace (b7 u) (b7 t)=false
 |0,l,left,r,h=>by
  rw[FT]at h
  split at h
  ·rename_i d;cases h;exact⟨[],by simp[b7],⟨rfl,by simp[d.1],λ_ h=>by cases h⟩,d.2,λu _ _=>acg _⟩
  ·cases h
 |k+1,l,left,r,h=>by
  rw[FT]at h;obtain⟨m,_,n,d,f⟩:=Q2 h;obtain⟨t,rfl,⟨t1,t2,g⟩,i,j⟩:=abK b k _ _ r d;refine⟨m::t,by simp[b7],⟨by simp[t1],by rw[bR];omega,λx a=>?_⟩,i,λu c hs=>?_⟩
  ·rcases List.mem_cons.1 a with rfl|a
   ·omega
   ·exact g x a
  ·match u,c with
   |[],c=>cases c.1
   |x::u,c=>
    obtain⟨k1,k2⟩:=acj c;have e:l++b7 (x::u)=(l++[(x:Int)])++b7 u:=by simp[b7]
    rw[e]at hs;show(if(x:Int)≠(m:Int) then decide ((x:Int)<m) else ace (b7 u) (b7 t))=false
    rcases ca x m with a|rfl|a
    ·rw[R9 b k _ _ (f x (b2 _) a) u k2]at hs;cases hs
    ·rw[if_neg (by simp)];exact j u k2 hs
    ·rw[if_pos (by omega)];simp;omega
def CD.dly(C:CD):Option (List Int):=j9 (λs=>FT (λl=>(C.j7 l).H8) C.n5 [] s) (12*C.n5+1) 0
def alR{u:List Nat}(h:∀x∈u,x<=12):u.sum<=12*u.length:=by
 induction u with
 |nil=>simp
 |cons x u a=>
  have:=a λy hy=>h y (by simp[hy]);have:=h x (by simp);rw[bR,aL];omega
def ah5{C:CD}{r:List Int}(h:C.dly=some r):∃t:List Nat,r=b7 t/\t.length=C.n5/\(∀x∈t,x<=12)/\(C.j7 r).H8=true/\
 ∀u:List Nat,u.length=C.n5->(∀x∈u,x<=12)->(C.j7 (b7 u)).H8=true->t.sum<u.sum\/(t.sum=u.sum/\ace (b7 u) (b7 t)=false):=by
 obtain⟨m,_,g,b,c⟩:=Q2 h;obtain⟨t,rfl,⟨t1,t2,d⟩,e,f⟩:=abK _ _ _ _ _ b;refine⟨t,by simp,t1,d,e,λu u1 u2 hs=>?_⟩
 rcases ca u.sum m with a|a|a
 ·have:=R9 _ _ _ _ (c u.sum (b2 _) a) u ⟨u1,rfl,u2⟩;rw[aS]at this;rw[this]at hs;cases hs
 ·exact .inr ⟨by omega,f u ⟨u1,a,u2⟩ (by simpa using hs)⟩
 ·exact .inl (by omega)
def ah6{C:CD}(h:C.dly=none)(u:List Nat)(u1:u.length=C.n5)(u2:∀x∈u,x<=12):(C.j7 (b7 u)).H8=false:=by
 have:=alR u2;have:=R9 _ _ _ _ (Q3 h u.sum (b2 _) (by omega)) u ⟨u1,rfl,u2⟩;simpa using this
def ah7(t:List Nat):(b7 t).sum=(t.sum:Int):=by
 induction t with
 |nil=>rfl
 |cons x t a=>simp only[b7,bA,bR]at *;rw[a];simp
def abL{C:CD}{ds:List Int}(hc:C.cx=0)(hd:ds.length=C.n5)(hb:∀i,i<ds.length->bO (ds.getD i 0) 0 12=true){Y:abS}{f:Nat->iJ}(hf:abv C f):((C.j7 ds).s9 Y f).cx=0/\((C.j7 ds).s9 Y f).H8=(C.j7 ds).H8/\(C.j7 ds).cx=0:=by
 have d:∀i,i<C.n5->((C.j7 ds).x5 i).2.2=ds.getD i 0:=λi hi=>by
  show ds.getD i (C.x5 i).2.2=_;simp[br,show i<ds.length by omega]
 have c1:(C.j7 ds).cx=0:=by
  refine ahG.check (C:=C) ⟨rfl,rfl,rfl,rfl,rfl,rfl,rfl,λi=>⟨rfl,λj _=>rfl,rfl,rfl⟩,rfl,λi=>⟨rfl,rfl⟩⟩ (λi hi=>?_) (λi hi=>?_) hc
  ·obtain⟨l,m⟩:=agT hc hi;show eK ((C.x4 i).n 7) ((C.x4 i).n 8) 1 60=true/\eK ((C.x4 i).n 9) ((C.x4 i).n 10) 0 60=true;refine⟨?_,?_⟩<;>simp[eK]<;>omega
  ·rw[d i hi];exact hb i (by omega)
 have e:((C.j7 ds).s9 Y f).cx=0:=by
  refine ahG.check (C:=C.j7 ds) ⟨rfl,rfl,rfl,rfl,rfl,rfl,rfl,λi=>⟨(hf.1 i).name,λj _=>by show(f i).n j=(C.x4 i).n j;rw[(hf.1 i).n],(hf.1 i).ln,(hf.1 i).lane⟩,rfl,λi=>⟨rfl,rfl⟩⟩ (λi hi=>?_) (λi hi=>?_) c1
  ·obtain⟨l,m⟩:=agT hc (show i<C.n4 from hi);show eK ((f i).n 7) ((f i).n 8) 1 60=true/\eK ((f i).n 9) ((f i).n 10) 0 60=true;rw[(hf.1 i).n];refine⟨?_,?_⟩<;>simp[eK]<;>omega
  ·show bO ((C.j7 ds).x5 i).2.2 0 12=true;rw[d i hi];exact hb i (by have:i<C.n5:=hi;omega)
 refine⟨e,?_,c1⟩;have b:CL (C.j7 ds) ((C.j7 ds).s9 Y f) 0:=⟨rfl,rfl,λi=>(hf.1 i).n,λ_=>rfl,λg _=>(Int.add_zero _).symm⟩
 have a:0<C.n4:=by have:=(G0 hc).1;omega
 have o:=b.Cv c1 e;unfold CD.H8;rw[o,List.length_map];congr 1;unfold qP;refine decide_eq_decide.2 ⟨λh g hg=>?_,λh g hg=>?_⟩
 ·have e1:nU (C.j7 ds) g=(Nu (C.j7 ds) g (C.n4-1)).2.2.2:=abm (C.j7 ds) g a;have c:nU ((C.j7 ds).s9 Y f) g=(Nu ((C.j7 ds).s9 Y f) g (C.n4-1)).2.2.2:=abm ((C.j7 ds).s9 Y f) g a;have k:=h g hg;rw[c,b.vis (g:=g) hg]at k;rw[e1];simp only[shV,Int.add_zero]at k;exact k
 ·have e1:nU (C.j7 ds) g=(Nu (C.j7 ds) g (C.n4-1)).2.2.2:=abm (C.j7 ds) g a;have c:nU ((C.j7 ds).s9 Y f) g=(Nu ((C.j7 ds).s9 Y f) g (C.n4-1)).2.2.2:=abm ((C.j7 ds).s9 Y f) g a;have k:=h g hg;rw[e1]at k;rw[c,b.vis (g:=g) hg];simp only[shV,Int.add_zero];exact k
attribute [local go_sem] Oper.semAt_some
def eO.lt{e:aa}{W:World}{base:Nat}{v:Value}{l:List Int}(h:eO e W base v l):∀k,v.ownBlock=some k->base<=k/\k<W.heap.size:=World.ownsRow.lt h
def ack{T e:aa}(s:PL.underlying T=some (.slice e))(I:(PL.info? e).map (λi=>(i.zero,i.size,i.bytes))=some (some (.int .i64 0),1,8)){W:World}(ty:aa)(base:Nat)(v:Value)(l:List Int)(j:Int)(k:Nat)(p:eO e W base v l)
 (hc:W.cell? ⟨k,0,none⟩=some (.int .i64 j)) (hl:l.length<=1000) (J:base<=W.heap.size) :
 ∃v' w',(Builtin.append_ #[T,T] ty #[v,.slice (some ⟨k,0,none⟩) 1 1]).run PL W=.ok v' w'/\eO e w' base v' (l++[j])/\W.grownBy w' v.ownBlock/\(v'.ownBlock=v.ownBlock\/v'.ownBlock=some W.heap.size)/\
  ∀r,eO e r base v' (l++[j])->(∀q,base<=q->q<w'.heap.size->some q≠v'.ownBlock->r.heap[q]?=w'.heap[q]?)->eO e r base v l:=by
 obtain⟨t,hi,C,f,D⟩:=info_parts I;have a:∀q u,[cu .i64 j][q]?=some u->W.cell? ((⟨k,0,none⟩:Addr).add q)=some u:=λq u e=>by
  match q,e with
  |0,e=>cases e;exact hc
 have b:l.length+1<=ae:=by simp only[ae];omega
 obtain⟨v',w',w,K,E,_,L⟩:=run_append_own_at (P:=PL) W base T ty e t (.int .i64 0) 1 8 s hi C f D rfl (by decide) v l.length _ p ⟨k,0,none⟩ 1 1 [.int .i64 j] rfl a (by simp[ct]) b (by omega) J;have M:eO e w' base v' (l++[j]):=by
  unfold eO;rw[bo,bL];exact K
 refine⟨v',w',w,M,E,L,λr y N=>?_⟩;obtain⟨hlen,p⟩:=p
 rcases p with⟨rfl,O⟩|⟨g,cap,c,rfl,hb,hg,d,z,hs,F⟩
 ·exact⟨hlen,.inl ⟨rfl,O⟩⟩
 ·by_cases A:l.length+1<=cap
  ·have m:=run_append_room (P:=PL) W T ty e t s hi g l.length cap c hg ⟨k,0,none⟩ 1 1 [.int .i64 j] (by rw[f];rfl) a (by simp[ct]) A (by rw[f,hs];simp;omega);rw[w]at m
   injection m with e1 H
   subst e1;obtain⟨_,y⟩:=y
   rcases y with⟨h,_⟩|⟨Y,Q,R,e1,Z,S,U,CC,V,n⟩
   ·cases h
   ·injection e1 with a1 a2 a3
    injection a1 with a1
    injection a1 with a1
    subst a1 a3;refine⟨hlen,.inr ⟨g,cap,R,rfl,hb,S,d,z,V,?_⟩⟩;rw[bo,bL]at n;have:=congrArg (List.take l.length) n;simp only[Nat.mul_one]at this⊢;rw[List.take_take,Nat.min_eq_left (by simp)]at this;rw[this,List.take_left' (by simp)]
  ·have holds:∀q u,(l.map λx=>cu .i64 x)[q]?=some u->W.cell? ((⟨g,0,none⟩:Addr).add q)=some u:=World.ownsRow.cells (g:=g) ⟨hlen,.inr ⟨g,cap,c,rfl,hb,hg,d,z,hs,F⟩⟩ rfl;have m:=run_append_grow (P:=PL) W T ty e t (.int .i64 0) s hi C ⟨g,0,none⟩ l.length cap _ (by rw[f];exact hlen) holds ⟨k,0,none⟩ 1 1 [.int .i64 j] (by rw[f];rfl) a (by simp only[ae]at b;omega) (by omega) (growslice_fits (by simp only[ae]at b;omega) (by rw[D];omega));rw[w]at m
   injection m with e1 H
   have o:=aI hg;have X:some g≠v'.ownBlock:=by
    rw[e1];simp[cv];omega
   have B:w'.heap[g]?=W.heap[g]?:=by
    rw[H];exact heap_alloc_old W.drew _ o
   exact⟨hlen,.inr ⟨g,cap,c,rfl,hb,(N g hb (b4 o E.size) X).trans (B.trans hg),d,z,hs,F⟩⟩
abbrev So(a b c:Nat):Value:=.func (.func 30) #[] #[.pointer (some ⟨a,0,none⟩),.pointer (some ⟨b,0,none⟩),.pointer (some ⟨c,0,none⟩)]
structure DG(C:CD)(w0:World)(Bc Bd Bt B1:Nat)(W:World):Prop where
 lo:w0.heap.size<=Bc/\w0.heap.size<=Bd/\Bc<B1/\Bd<B1/\Bt<B1
 hi:B1<=W.heap.size
 c:W.heap[Bc]?=some (.cells C.val 27)
 d:∃v,W.heap[Bd]?=some (.cells #[v] 31)
 t:W.heap[Bt]?=some (.cells #[So Bc Bd Bt] 75)
 low:Below w0.heap.size w0 W
def DG.on{C:CD}{w0:World}{b f g i:Nat}{W j:World}(h:DG C w0 b f g i W)(a:Below W.heap.size W j):DG C w0 b f g i j:=
 ⟨h.lo,b5 h.hi a.size,(a.block _ (aI h.c)).trans h.c,h.d.imp λ_ e=>(a.block _ (aI e)).trans e,(a.block _ (aI h.t)).trans h.t,cd h.low a⟩
def DG.XM{C:CD}{w0:World}{f g i b:Nat}{W j:World}(h:DG C w0 f g i b W)(a:Below b W j):DG C w0 f g i b j:=by
 obtain⟨a1,a2,a3,a4,k⟩:=h.lo;exact⟨h.lo,b5 h.hi a.size,(a.block _ a3).trans h.c,h.d.imp λ_ e=>(a.block _ a4).trans e,(a.block _ k).trans h.t,h.low.trans (a.mono (by omega))⟩
structure Tri(Bd:Nat)(v:Value)(w w':World):Prop where
 fr:Below 0 w w'
 blk:∀k,k<w.heap.size->k≠Bd->some k≠v.ownBlock->w'.heap[k]?=w.heap[k]?
def Tri.of{b:Nat}{v:Value}{w w':World}(a:Below w.heap.size w w'):Tri b v w w':=⟨a.mono (b2 _),λk c _ _=>a.block k c⟩
def Tri.trans{a:Nat}{v:Value}{w w' b:World}(h:Tri a v w w')(c:Tri a v w' b):Tri a v w b:=
 ⟨h.fr.trans c.fr,λk d e f=>(c.blk k (b4 d h.fr.size) e f).trans (h.blk k d e f)⟩
def TP(C:CD)(w0:World)(f a g d:Nat)(v:Value)(xs:List Int)(r:Option (List Int))(w:World)(e:Ending)(w':World):Prop:=
 e=.returned (.bool r.isSome)/\DG C w0 f a g d w'/\eO 3 w' d v xs/\Tri a v w w'/\∀ys,r=some ys->∃b c,w'.heap[a]?=some (.cells #[.slice b ys.length c] 31)/\bB w' (.slice b ys.length c) ys
def ah9{C:CD}{w:World}(h:C.At w)(hc:C.cx=0):Calls PL 32 #[.agg C.val] w (aO (.bool C.H8) w):=
 VY C C.Cv.length w h hc (s8 hc) λW a=>(afr hc a).mono (by
  rintro e w'⟨v,rfl,d,f⟩;obtain⟨b,c,rfl⟩:=vB d
  exact⟨b,c,rfl,f⟩)
def VZ{W:World}{base e size n B:Nat}{v u:Value}{xs:List Value}(h:W.ownsRow base e size v n xs)(d:B<base):(W.setCell ⟨B,0,none⟩ u).ownsRow base e size v n xs:=by
 obtain⟨b,h⟩:=h
 rcases h with h|⟨g,cap,a,e1,hb,hg,c⟩
 ·exact⟨b,.inl h⟩
 ·exact⟨b,.inr ⟨g,cap,a,e1,hb,(aZ (by omega)).trans hg,c⟩⟩
def N5.alS{w W:World}{n:Nat}{ys:List Int}{b:Option Addr}{v:Value}(h:N5 w W 3 1 n (ys.map λx=>.int .i64 x) b v)(f:ys.length=n):bB W v ys:=by
 obtain⟨b',c,rfl,_,i⟩:=h;refine⟨b',c,by rw[f],λl=>?_⟩;obtain⟨g,a,rfl,_,hg,k⟩:=i (by omega);refine⟨g,0,rfl,aI hg,λj m=>?_⟩;have d:j<ys.length:=by omega
 have e:(a.toList.take (n*1))[j]?=some (.int .i64 ys[j]):=by rw[k];simp[d]
 rw[bm (by omega)]at e;simp only[ap,hg,b3];rw[aw]at e;simp[e,br,d]
def alW{w:World}{b:Option Addr}{n c:Nat}{ys:List Int}(h:bB w (.slice b n c) ys)(a:ys.length=n)(hl:n<=1000):KD w b n 1 (ys.map λx=>.int .i64 x):=by
 subst a;obtain⟨b',i,e,h⟩:=h;cases e;refine⟨by simp,hl,by simp[ct],λd=>?_⟩;obtain⟨k,o,rfl,f,hc⟩:=h d;refine⟨k,o,rfl,f,λj u e=>?_⟩;have g:j<ys.length:=by simpa using(List.getElem?_eq_some_iff.1 e).1
 have:w.cell? ⟨k,o+j,none⟩=some (.int .i64 (ys.getD j 0)):=hc j (by omega);rw[this,<-e];simp[br,g]
def sfC(C:CD)(l:List Int):Bool:=(C.j7 l).H8
def Su{C:CD}{w0:World}{A l B D:Nat}(hc:C.cx=0)(V:∀W,Below w0.heap.size w0 W->C.At W)(xs:List Int)(left:Nat)(v:Value)(w:World)(X:xs.length=C.n5)(Z:∀i,i<xs.length->bO (xs.getD i 0) 0 12=true)(h:DG C w0 A l B D w)(hl:eO 3 w D v xs) :
 Calls PL 30 #[v,.int .i64 left,.pointer (some ⟨A,0,none⟩),.pointer (some ⟨l,0,none⟩),.pointer (some ⟨B,0,none⟩)] w (TP C w0 A l B D v xs (FT (sfC C) 0 xs left) w):=by
 obtain⟨b,c,rfl⟩:=vB hl;have h4:0<C.n4:=by have:=(G0 hc).1;omega
 have h53:=s8 hc;obtain⟨n,N⟩:∃n,n=xs.length:=⟨_,rfl⟩
 rw[<-N];have q:=aJ h;have O:=aJ hl;have a:=aJ N;have HN:Hid (n=C.n5):=aJ (by omega);have HR:Hid (∀W,Below w.heap.size w W->bB W (.slice b n c) xs):=aJ λW j=>by rw[N];exact(eO.reads hl).on j
 have OW:Hid (∀W,Below w.heap.size w W->Calls PL 31 #[.agg C.val,.slice b n c] W λe w'=>∃Y f,e=.returned (.agg (C.s9 Y f).val)/\abv C f/\u7 W.heap.size C.n4 ((C.j7 xs).s9 Y f) w'/\Below W.heap.size W w'):=aJ λW j=>
  abh C xs _ W (V _ (cd h.low j)) h4 (HR.out W j) (by omega)
 have P:Hid (∀Y f W,abv C f->u7 w.heap.size C.n4 ((C.j7 xs).s9 Y f) W->Calls PL 32 #[.agg (C.s9 Y f).val] W (aO (.bool (sfC C xs)) W)):=aJ λY f W hf hO=>by
  obtain⟨F,h2,_⟩:=abL hc X Z (Y:=Y) hf;have:=ah9 (C:=(C.j7 xs).s9 Y f) hO.mem.at_ F;rw[h2]at this;exact this
 obtain⟨z,Q⟩:∃z,z=sfC C xs:=⟨_,rfl⟩
 rw[<-Q]at P;have HZ:=aJ Q;have jM:=h.c;have i1:(n:Int)=C.n5:=by omega
 clear h hl Q X N Z V hc;obtain⟨f0,f1,f2,f3,f4,f5⟩:=bf jM;clear jM;have e1:((n:Int)==(C.n5:Int))=true:=by simpa using i1
 by_cases h0:left=0
 ·subst h0
  cases z with
  |false=>
   have r:Hid (∀W,Below w.heap.size w W->TP C w0 A l B D (.slice b n c) xs (FT (sfC C) 0 xs 0) w (.returned (.bool false)) W):=aJ λW j=>by
    have e:FT (sfC C) 0 xs 0=none:=by rw[FT,if_neg (by rw[<-HZ.out];simp)]
    rw[e];exact⟨rfl,q.out.on j,(a.out▸O.out).on j,Tri.of j,λ_ h=>by cases h⟩
   go_enter (fx (by decide) cl),cm
   go_wp2_with (first
    |(go_at_call 31;(with_reducible refine(OW.out _ (bT _ _)).mono ?_);rintro e w1⟨Y,f,rfl,s,H,I⟩;have u:=aJ (cq s (cq H I));clear s H I)
    |(go_at_call 32;(with_reducible refine(P.out Y f _ u.out.1 u.out.2.1).mono ?_);rintro e w2⟨rfl,J⟩;have E:=aJ (cd u.out.2.2 J);clear J))
   go_ret
   exact r.out _ E.out
  |true=>
   go_enter (fx (by decide) cl),cm
   go_upto_region 4 with(first
    |(go_at_call 31;(with_reducible refine(OW.out _ (bT _ _)).mono ?_);rintro e w1⟨Y,f,rfl,s,H,I⟩;have u:=aJ (cq s (cq H I));clear s H I)
    |(go_at_call 32;(with_reducible refine(P.out Y f _ u.out.1 u.out.2.1).mono ?_);rintro e w2⟨rfl,J⟩;have E:=aJ (cd u.out.2.2 J);clear J))
   have CS:=aJ (alW (HR.out _ E.out) a.out.symm (by have:=HN.out;omega));obtain⟨v0,m⟩:=q.out.d;have K:=(E.out.block _ (aI m)).trans m;have HD:=aJ K;have x:=aJ m;clear m K
   go_wp2_with (go_at_call 33;(with_reducible refine(abE b n c _ _ CS.out).mono ?_);rintro e w3⟨v,rfl,hv,R⟩;have o:=(R.block _ (aI HD.out)).trans HD.out;have fz:=tO o;have y0:w3.cell? ⟨l,0,none⟩=some v0:=(by simp[ap,o]);have HV:=aJ hv;obtain⟨bb,cc,rfl,XL⟩:=hv;clear XL;have L:=aJ o;have B3:=aJ R;clear o R)
   go_ret
   have e:FT (sfC C) 0 xs 0=some xs:=by rw[FT,if_pos ⟨rfl,by rw[<-HZ.out]⟩]
   rw[e];have Cu:=q.out.lo;have hi:=q.out.hi;have M:Below w.heap.size w w3:=cd E.out B3.out;have y:=q.out.on M;have hbd:=aI x.out;have bu:l≠A:=iu x.out q.out.c (by decide);have S:l≠B:=iu x.out q.out.t (by decide);have fO:eO 3 w3 D (.slice b n c) xs:=by
    have:=O.out;rw[<-a.out]at this;exact eO.on this M
   refine⟨rfl,⟨Cu,b5 hi (by simp;exact M.size),(aZ bu).trans y.c,⟨_,yV L.out⟩,(aZ S).trans y.t,y.low.setCell (p:=⟨l,0,none⟩) Cu.2.1 _⟩,VZ fO (by omega),⟨(M.mono (b2 _)).setCell (p:=⟨l,0,none⟩) (b2 _) _,λk hk F h2=>(aZ (Ne.symm F)).trans (M.block k hk)⟩,λys T=>?_⟩;cases T;refine⟨bb,cc,?_,?_⟩
   ·rw[<-a.out];exact yV L.out
   ·rw[<-a.out];refine N5.alS (n:=n) (w:=w2) (b:=b) ?_ a.out.symm;obtain⟨b',c',he,TK,F⟩:=HV.out;cases he;refine⟨bb,cc,rfl,TK,λs=>?_⟩;obtain⟨g,U,k1,k2,k3,k4⟩:=F s;refine⟨g,U,k1,k2,(aZ ?_).trans k3,k4⟩;have:=E.out.size;omega
 ·have i2:(0:Int)<left:=by omega
  have r:Hid (∀W,Below w.heap.size w W->TP C w0 A l B D (.slice b n c) xs (FT (sfC C) 0 xs left) w (.returned (.bool false)) W):=aJ λW j=>by
   have e:FT (sfC C) 0 xs left=none:=by rw[FT,if_neg (λh=>h0 h.1)]
   rw[e];exact⟨rfl,q.out.on j,(a.out▸O.out).on j,Tri.of j,λ_ h=>by cases h⟩
  have i3:¬(left:Int)<=0:=by omega
  go_enter (fx (by decide) cl),cm
  go_wp2_with fail
  go_ret
  exact r.out _ (bT _ _)
def ao5(a:Nat)(v:Value)(xs:List Int)(v':Value)(b:List Int)(W:World):Prop:=
 ∀c,eO 3 c a v' b->(∀q,a<=q->q<W.heap.size->some q≠v'.ownBlock->c.heap[q]?=W.heap[q]?)->eO 3 c a v xs
structure CTg(C:CD)(w0:World)(Bc Bd Bt B1:Nat)(v:Value)(wr:World)(b:Bool)(W:World):Prop where
 de:DG C w0 Bc Bd Bt B1 W
 tri:Tri Bd v wr W
 old:b=false->Below wr.heap.size wr W
def afs(a:Nat)(v:Value)(xs:List Int)(i:Int)(wr:World)(j:Nat)(vs:Nat->Value)(W:World):Prop:=
 (j=3->∃k,vs 3=.slice (some ⟨k,0,none⟩) 1 1/\wr.heap.size<=k/\W.heap[k]?=some (.cells #[.int .i64 i] 3))/\
 (j=4->eO 3 W a (vs 4) (xs++[i])/\(∀k,k<wr.heap.size->some k≠v.ownBlock->some k≠(vs 4).ownBlock)/\ao5 a v xs (vs 4) (xs++[i]) W)
def afs.le{f:Nat}{v:Value}{xs:List Int}{i:Int}{wr:World}{j:Nat}{vs:Nat->Value}{W g:World}(h:afs f v xs i wr j vs W)(c:Below W.heap.size W g):afs f v xs i wr j vs g:=
 ⟨λe=>(h.1 e).imp λ_ a=>⟨a.1,a.2.1,(c.block _ (aI a.2.2)).trans a.2.2⟩,λe=>by
   obtain⟨k,l,m⟩:=h.2 e
   exact⟨k.on c,l,λn o a=>m n o λq p b d=>(a q p (b4 b c.size) d).trans (c.block q b)⟩⟩
def ad8{T e:aa}(c:PL.underlying T=some (.slice e))(d:(PL.info? e).map (λi=>(i.zero,i.size,i.bytes))=some (some (.int .i64 0),1,8)){ops:Array Oper}{o:Oper}{b:Act}{K:Value->World->Prop}{W:World}(f:o.guard=none)(s x:Operand)
 (g:o.op=.call { callee:=.builtin .append,args:=#[s,x],argTypes:=#[T,T] }) (base:Nat) (v:Value) (l:List Int) (j:Int) (k:Nat) (hs:b.eval s=v) (m:eO e W base v l)
 (n:b.eval x=.slice (some ⟨k,0,none⟩) 1 1) (hc:W.cell? ⟨k,0,none⟩=some (.int .i64 j)) (hl:l.length<=1000) (p:base<=W.heap.size)
 (h:∀v' w',eO e w' base v' (l++[j])->W.grownBy w' v.ownBlock->(v'.ownBlock=v.ownBlock\/v'.ownBlock=some W.heap.size)->(∀a,eO e a base v' (l++[j])->(∀q,base<=q->q<w'.heap.size->some q≠v'.ownBlock->a.heap[q]?=w'.heap[q]?)->eO e a base v l)->K v' w'):fC PL ops K o b W:=by
 obtain⟨v',w',r,t,u,w,y⟩:=ack c d o.type base v l j k m hc hl p;unfold fC;rw[if_pos (by simp[Region.wanted,f])];unfold execOp;simp only[g,resolve,invoke,builtin,Sem.run_bind,Sem.run_pure,Result.andThen_ok,List.map_toArray,bA,bC,hs,n,r];exact h v' w' t u w y
def arQ(t:Nat):Bool:=t != 3&&t != 4
def alX:PL.underlying 31=some (.slice 3):=by kernel_rfl
def am0:(PL.info? 3).map (λi=>(i.zero,i.size,i.bytes))=some (some (.int .i64 0),1,8):=by kernel_rfl
def H9{a:Type}{f:Nat->Option a}{M i:Nat}(hi:i<=M):j9 f (M+1-i) i=match f i with|some r=>some r|none=>j9 f (M+1-(i+1)) (i+1):=by
 have e:M+1-i=(M+1-(i+1))+1:=by omega
 rw[e];show (match f i with|some r=>some r|none=>j9 f (M+1-(i+1)) (i+1))=_;cases f i<;>rfl
def Fq{C:CD}{w0:World}{l d g a:Nat}(k:Nat)(xs:List Int)(left:Nat)(I2:left<=1000)(v:Value)(w:World)(hn:xs.length+(k+1)=C.n5)(Hr:C.n5<=3)(h:DG C w0 l d g a w)(hl:eO 3 w a v xs)
 (ih:∀(n I3:Nat)v' W,n<=12->I3<=1000->DG C w0 l d g a W->eO 3 W a v' (xs++[(n:Int)])->Calls PL 30 #[v',.int .i64 I3,.pointer (some ⟨l,0,none⟩),.pointer (some ⟨d,0,none⟩),.pointer (some ⟨g,0,none⟩)] W (TP C w0 l d g a v' (xs++[(n:Int)]) (FT (sfC C) k (xs++[(n:Int)]) I3) W)) :
 Calls PL 30 #[v,.int .i64 left,.pointer (some ⟨l,0,none⟩),.pointer (some ⟨d,0,none⟩),.pointer (some ⟨g,0,none⟩)] w (TP C w0 l d g a v xs (FT (sfC C) (k+1) xs left) w):=by
 obtain⟨b,c,rfl⟩:=vB hl;have HX:=aJ h;have HL:=aJ hl;have IH:=aJ ih;have jM:=h.c;obtain⟨n,Va⟩:∃n,n=xs.length:=⟨_,rfl⟩
 have i1:¬((n:Int)=C.n5):=by omega
 have e1:((n:Int)==(C.n5:Int))=false:=by simpa using i1
 rw[<-Va]at HL ⊢;obtain⟨M,hM⟩:∃M,M=min left 12:=⟨_,rfl⟩
 have HNN:=aJ (cq Va (show n<=3 by omega));obtain⟨f,hf⟩:∃f:Nat->Option (List Int),f=fun(n:Nat)=>FT (sfC C) k (xs++[(n:Int)]) (left-n):=⟨_,rfl⟩
 have hs:FT (sfC C) (k+1) xs left=j9 f (M+1-0) 0:=by rw[FT,hf,hM];rfl
 rw[hs];have HF:Hid (∀n:Nat,f n=FT (sfC C) k (xs++[(n:Int)]) (left-n)):=aJ λn=>by rw[hf]
 clear h hl ih hn Va hf hs;obtain⟨f0,f1,f2,f3,f4,f5⟩:=bf jM;clear jM;have P:Hid (∀e W r,TP C w0 l d g a (.slice b n c) xs r w e W↔e=.returned (.bool r.isSome)/\DG C w0 l d g a W/\eO 3 W a (.slice b n c) xs/\Tri d (.slice b n c) w W/\∀ys,r=some ys->∃b c,W.heap[d]?=some (.cells #[.slice b ys.length c] 31)/\bB W (.slice b ys.length c) ys):=aJ λe W r=>Iff.rfl;have ayz:M<=12/\M<=left:=by omega
 have x:∀i:Nat,i<=M↔i<=left/\i<=12:=λi=>by omega
 clear hM
 go_enter (fx (by decide) cl),cm
 go_wp2
 go_loopw [8] (λv8 wr=>∃i:Nat,i<=M+1/\v8=.int .i64 i/\j9 f (M+1-0) 0=j9 f (M+1-i) i/\DG C w0 l d g a wr/\eO 3 wr a (.slice b n c) xs/\Tri d (.slice b n c) w wr) (λv8 _=>M+1-(intOf v8).toNat)
 case atStart=>exact⟨0,b2 _,rfl,rfl,HX.out,HL.out,Tri.of (bT _ _)⟩
 case round=>
  obtain⟨i,hi,rfl,Q,hD,hO,hT⟩:=hrel;have F:=aJ (cq Q (cq hD (cq hO hT)));have JD:=aJ hD;have JO:=aJ hO;clear Q hD hO hT f0 f1 f2 f3 f4 f5;have H:=x i;by_cases z:i<=M
  ·have i2:(i:Int)<=left:=by omega
   have s:bO (i:Int) 0 12=true:=by simp[bO];omega
   obtain⟨q,U⟩:∃q:Nat,q=left-i:=⟨_,rfl⟩
   have s1:IntKind.i64.wrap ((left:Int)-(i:Int))=(q:Int):=by rw[cB _ (by omega)];omega
   have I:Hid (∀v' W,DG C w0 l d g a W->eO 3 W a v' (xs++[(i:Int)])->Calls PL 30 #[v',.int .i64 q,.pointer (some ⟨l,0,none⟩),.pointer (some ⟨d,0,none⟩),.pointer (some ⟨g,0,none⟩)] W (TP C w0 l d g a v' (xs++[(i:Int)]) (f i) W)):=aJ λv' W V J=>by
    have:=IH.out i q v' W (by omega) (by omega) V J;rw[U,<-HF.out]at this;rw[U];exact this
   have HQ:=aJ U;obtain⟨y,hy⟩:∃y,y=(i:Int):=⟨_,rfl⟩
   have C0:Hid (CTg C w0 l d g a (.slice b n c) wr false wr.drew):=aJ ⟨JD.out.on (bT _ _).drew,Tri.of (bT _ _).drew,λ_=>(bT _ _).drew⟩;clear H x U
   go_upto_region 9 with(go_at_call 34;refine(uK s _).mono ?_;rintro e w'⟨rfl,rfl⟩)
   clear i1 e1 s i2;refine iL 8 4 (CTg C w0 l d g a (.slice b n c) wr) (λW W'=>Below W.heap.size W W') arQ (λ_=>afs a (.slice b n c) xs i wr) (λ_ _ _ _=>True) (λ_ _ _ _ _=>trivial) rfl (by kernel_rfl) (by kernel_rfl) rfl
    (λ_ i vs W W' z h=>h.le z) (λi o ho vs eX W he _ _ h=>⟨λe=>by subst e;rw[<-he];exact h.1 rfl,λe=>by subst e;rw[<-he];exact h.2 rfl⟩) C0.out ?_
   iterate 3 (
    apply iK
    case hE=>rfl
    case h=>
     intro vs W b m hd;have R:=m.de.t;have t0:W.cell? ⟨g,0,none⟩=some (So l d g):=by simp[ap,R]
     clear R
     go_simp
     first
     |exact⟨rfl,bT _ _⟩
     |exact⟨rfl,m,bT _ _⟩
    case hb=>exact hbT)
   apply ey
   case hE=>rfl
   case hb=>exact hbT
   case h=>
    intro vs W D b' hb m jw mS _ hd hP;have K:=(bT W.heap.size W).alloc (bX _) (.cells #[.int .i64 (i:Int)] 3);have L:Hid (CTg C w0 l d g a (.slice b n c) wr b' (W.alloc (.cells #[.int .i64 (i:Int)] 3))):=aJ ⟨m.de.on K,m.tri.trans (Tri.of K),λe=>cd (m.old e) K⟩;have HW:=aJ (m.tri.fr.size);clear m
    go_simp
    exact⟨L.out,λj X hE=>(hd j X hE).le K,⟨λ_=>⟨W.heap.size,by simp[upd],HW.out,au _ _⟩,λe=>absurd e (by decide)⟩⟩
   apply ey
   case hE=>rfl
   case hb=>exact hbT
   case h=>
    intro vs W D bb iC m jw mS _ hd hP;have m3:3∈D:=jw ⟨3,.data⟩ (cH.2 ⟨by simp,rfl⟩);obtain⟨q3,N,hql,hqc⟩:=(hd 3 m3 rfl).1 rfl;have hold:=m.old (iC rfl);have fO:eO 3 W a (.slice b n c) xs:=JO.out.on hold;have bu:=cZ fO;have aH:∀j,cv (.slice b n c)=some j->j<wr.heap.size:=λj e=>(JO.out.lt j e).2;refine ad8 alX am0 rfl _ _ rfl a (.slice b n c) xs i q3 rfl fO N (by simp[ap,hqc]) (by have:=HNN.out;omega) m.de.hi λv' w' V J A h4=>?_;have K:Below a W w':=(bT a W).grown J m.de.hi bu;refine⟨⟨m.de.XM K,⟨m.tri.fr.trans (K.mono (b2 _)),λk p k1 k2=>(J.block k (b4 p hold.size) k2).trans (hold.block k p)⟩,λe=>by simp at e⟩,λj X hE=>⟨λe=>?_,λe=>absurd X (by rw[e];exact mS)⟩,⟨λe=>absurd e (by decide),λ_=>?_⟩,λ_ _ _=>trivial⟩
    ·refine((hd j X hE).1 e).imp λk p=>⟨p.1,p.2.1,(J.block k (aI p.2.2) λe=>?_).trans p.2.2⟩
     have:=aH _ e.symm;omega
    ·have eu:upd vs 4 v' 4=v':=by simp[upd]
     rw[eu];refine⟨V,λk p ND=>?_,h4⟩;have fW:=hold.size
     rcases A with A|A
     ·rw[A];exact ND
     ·rw[A];intro e;cases e;omega
   iterate 3 (
    apply iK
    case hE=>rfl
    case h=>
     intro vs W b m hd
     go_simp
     first
     |exact⟨rfl,bT _ _⟩
     |exact bT _ _
    case hb=>exact hbT)
   refine nv λvs W bb _ m hd _=>?_;have S:=(hd 4 (by omega) rfl).2 rfl;have B:=aJ S;have L:=aJ m;clear hd S m;have u:Hid (∀w2,DG C w0 l d g a w2->eO 3 w2 a (vs 4) (xs++[(i:Int)])->Tri d (vs 4) W w2->eO 3 w2 a (.slice b n c) xs/\Tri d (.slice b n c) w w2):=aJ λw2 V J A=>by
    have Cu:=JD.out.lo;refine⟨B.out.2.2 w2 J λq jQ hq2 N=>A.blk q hq2 (by omega) N,F.out.2.2.2.trans ⟨L.out.tri.fr.trans A.fr,λk p k1 k2=>(A.blk k (b4 p L.out.tri.fr.size) k1 (B.out.2.1 k p k2)).trans (L.out.tri.blk k p k1 k2)⟩⟩
   obtain⟨r,hr⟩:∃r,r=f i:=⟨_,rfl⟩
   rw[<-hr]at I;have HR:=aJ hr;clear hr
   cases r with
   |some r=>
    go_wp2_with (go_at_call 30;(with_reducible refine(I.out _ _ L.out.de B.out.1).mono ?_);rintro e w2⟨rfl,T,Y,E,O⟩)
    go_ret
    obtain⟨k1,k2⟩:=u.out _ T Y E;have e:j9 f (M+1-0) 0=some r:=by rw[F.out.1,H9 z,<-HR.out]
    rw[e];exact(P.out _ _ _).2 ⟨rfl,T,k1,k2,O⟩
   |none=>
    go_wp2_with (go_at_call 30;(with_reducible refine(I.out _ _ L.out.de B.out.1).mono ?_);rintro e w2⟨rfl,T,Y,E,O⟩;have Z:=aJ (cq T (cq Y E));clear T Y E O)
    obtain⟨k1,k2⟩:=u.out _ Z.out.1 Z.out.2.1 Z.out.2.2;exact⟨⟨i+1,by omega,by go_num,by rw[F.out.1,H9 z,<-HR.out],Z.out.1,k1,k2⟩,by simp only[intOf];omega⟩
  ·have Um:j9 f (M+1-0) 0=none:=by rw[F.out.1,show M+1-i=0 by omega];rfl
   have u:TP C w0 l d g a (.slice b n c) xs (j9 f (M+1-0) 0) w (.returned (.bool false)) wr:=by
    rw[Um];exact(P.out _ _ _).2 ⟨rfl,F.out.2.1,F.out.2.2.1,F.out.2.2.2,λ_ h=>by cases h⟩
   have FN:=aJ u;clear u Um;by_cases hl2:i<=left
   ·have i2:(i:Int)<=left:=by omega
    have s:bO (i:Int) 0 12=false:=by simp[bO];omega
    have ID:∀W,Calls PL 34 #[.int .i64 (i:Int)] W λe w'=>e=.returned (.bool false)/\W=w':=λW=>by
     have:=o8 (i:Int) W;rw[s]at this;exact this.mono λ_ _ k=>⟨k.1,k.2.symm⟩
    clear H x s
    go_wp2_with (go_at_call 34;refine(ID _).mono ?_;rintro e w'⟨rfl,rfl⟩)
    go_ret
    exact FN.out
   ·have i2:¬(i:Int)<=left:=by omega
    clear H x
    go_wp2_with fail
    go_ret
    exact FN.out
def afw{C:CD}{w0:World}{a b c d:Nat}(hc:C.cx=0)(g:∀W,Below w0.heap.size w0 W->C.At W):∀(k:Nat)(xs:List Int)(left:Nat)(v:Value)(w:World),xs.length+k=C.n5->(∀i,i<xs.length->bO (xs.getD i 0) 0 12=true)->left<=1000->DG C w0 a b c d w->eO 3 w d v xs->
 Calls PL 30 #[v,.int .i64 left,.pointer (some ⟨a,0,none⟩),.pointer (some ⟨b,0,none⟩),.pointer (some ⟨c,0,none⟩)] w (TP C w0 a b c d v xs (FT (sfC C) k xs left) w)
 |0,xs,left,v,w,j,e,_,h,hl=>Su hc g xs left v w (by omega) e h hl
 |k+1,xs,left,v,w,j,e,f,h,hl=>Fq k xs left f v w j (s8 hc) h hl λn l v' W m o p q=>afw hc g k (xs++[(n:Int)]) l v' W (by rw[bo];simp;omega) (λi hi=>by
  rw[bo]at hi;simp only[aL,aP]at hi
  rcases b9 i xs.length with h|h
  ·have:=e i h;rwa[br,a8 h,<-br]
  ·obtain rfl:i=xs.length:=by omega
   simp[br,bO];omega) o p q
end Go.Proofs
