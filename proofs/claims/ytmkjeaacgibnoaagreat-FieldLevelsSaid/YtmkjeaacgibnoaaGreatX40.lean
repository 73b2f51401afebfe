/- Part of the proof of FieldLevels: see X45. -/
import Derived.Test.YtmkjeaacgibnoaaGreatX39
set_option linter.all false
open Go.World renaming setCell->aa,size_alloc->ab,grownBy_alloc->ac
open Array renaming getElem?_modify->ad
open Go.Proofs renaming getElem?_lt'->ae
open Go.Lib renaming hid->ag
open Go.RowKit.Below renaming refl->ai
open Nat renaming le_refl->ao,le_succ->ap
open List renaming getElem?_toArray->aq,getElem?_cons_succ->ar,getElem?_cons_zero->aw,setIfInBounds_toArray->aB,set_cons_zero->aF,set_cons_succ->aH
open Go.Act renaming put->aI
open Go.Proofs.Below renaming zQ->aJ,on->aL
open Go renaming bodyPost_ret->aP,results->aT,grownBy_putObj'->a5
open Go.KeepsOthers renaming setCell->a6
namespace Go.Proofs
open Go.RowKit Go.Shelf
attribute [local go_sem] Oper.semAt_some
set_option maxRecDepth 100000
set_option maxHeartbeats 4000000
def nC{W:World}{r:Nat}{x0 x1 x2 x3 x4 a u0 u1 u2 u3 u4 u5:Value}{t:TypeId}(h:W.heap[r]?=some (.cells #[x0,x1,x2,x3,x4,a] t)):((((((W.setCell ⟨r,0,none⟩ u0).setCell ⟨r,1,none⟩ u1).setCell ⟨r,2,none⟩ u2).setCell ⟨r,3,none⟩ u3).setCell ⟨r,4,none⟩ u4).setCell ⟨r,5,none⟩ u5).heap[r]?=some (.cells #[u0,u1,u2,u3,u4,u5] t):=by
 simp only[aa,ad,if_pos,h,Option.map_some];rfl
def cM{W:World}{r b:Nat}{u0 u1 u2 u3 u4 u5:Value}(hb:b≠r):((((((W.setCell ⟨r,0,none⟩ u0).setCell ⟨r,1,none⟩ u1).setCell ⟨r,2,none⟩ u2).setCell ⟨r,3,none⟩ u3).setCell ⟨r,4,none⟩ u4).setCell ⟨r,5,none⟩ u5).heap[b]?=W.heap[b]?:=by
 simp only[aa,ad,if_neg (Ne.symm hb)]
def Six(W:World)(k:Nat):Prop:=∃x0 x1 x2 x3 x4 a,W.heap[k]?=some (.cells #[x0,x1,x2,x3,x4,a] 121)
def Fo(C:CD)(W a:World):Prop:=∀k:Nat,(W.heap[k]?=some (.cells C.val 121)->a.heap[k]?=some (.cells C.val 121))/\(Six W k->Six a k)
def Fo.on{C:CD}{W a:World}(h:Below W.heap.size W a):Fo C W a:=λk=>⟨λe=>(h.block _ (ae e)).trans e,fun⟨x0,x1,x2,x3,x4,b,e⟩=>⟨x0,x1,x2,x3,x4,b,(h.block _ (ae e)).trans e⟩⟩
def alU(C:CD)(w:World)(j:Nat)(vs:Nat->Value)(W:World):Prop:=
 (j=8->∃k,vs 8=.pointer (some ⟨k,0,none⟩)/\w.heap.size<k/\Six W k)/\(j=9->∃k,vs 8=.pointer (some ⟨k,0,none⟩)/\w.heap.size<k/\W.heap[k]?=some (.cells C.val 121))
def AZ(C:CD)(g:Nat)(hg:g<C.n5)(m5:C.n5<=3)(w:World):Calls PL 108 #[.agg C.val,.int .i64 g] w λe w'=>e=.returned (.bool true)/\Below w.heap.size w w':=by
 have h:=Fi C g m5 w;have e:bO (g:Int) 0 (C.n5-1)=true:=by simp[bO];omega
 rwa[e]at h
def IC{C:CD}{b:Bool}(h:C.b6 b=0):C.cx=0:=by
 unfold CD.b6 at h
 split at h
 ·rename_i a;exact a
 ·rename_i a;exact absurd h a
def ID(C:CD)(g:Nat)(w:World)(h:C.At w)(hg:g<C.n5)(m5:C.n5<=3)(hf:C.b6 true=0)(n:yR C g) :
 Calls PL 34 #[.agg C.val,.int .i64 g] w λe w'=>∃v,e=.returned (.tuple #[v,.int .i64 0])/\AY w' w.heap.size v (mD C g C.n4)/\Below w.heap.size w w':=by
 have p:=ag h;have M:=ag hf;have N:=ag n;have r:Hid (KB C w (w.alloc (.cells C.val 27))):=ag ⟨au _ _,(ai _ _).alloc (ao _) _⟩;clear h hf n
 go_enter (fx (by decide) Tryz.func34),Tryz.ntmps34
 go_upto_region 1 with fail
 refine cT 10 (KB C w) (Fo C) (λj=>j != 8&&j != 9) (alU C w) rfl (by kernel_rfl) (by kernel_rfl)
  (λi vs W s f h=>⟨λe=>(h.1 e).imp λk a=>⟨a.1,a.2.1,(f k).2 a.2.2⟩,λe=>(h.2 e).imp λk a=>⟨a.1,a.2.1,(f k).1 a.2.2⟩⟩) (λi o t vs O W P hd h=>⟨λe=>?_,λe=>?_⟩) ?_ ?_
 ·subst e;rw[<-P];exact h.1 rfl
 ·subst e;have Q:vs 8=O 8:=by
   simp only[aq,ar,aw,Option.some.injEq]at t;subst t;exact hd ⟨8,.data⟩ (cH.2 ⟨by simp,rfl⟩)
  rw[<-Q];exact h.2 rfl
 ·exact⟨r.out.box,r.out.low.drew⟩
 ·iterate 8 (
   apply aY
   case hE=>rfl
   case h=>
    intro vs W b hd;obtain⟨u,x,y,z,f4,A⟩:=bf b.box
    go_simp
    first
    |(go_at_call 108;refine(AZ C g hg m5 _).mono ?_;rintro e s⟨rfl,d⟩;exact⟨_,rfl,rfl,b.on d,Fo.on d⟩)
    |(go_at_call 90;refine(kF M.out (p.out.below b.low)).mono ?_;rintro e s⟨rfl,d⟩;exact⟨_,rfl,rfl,b.on d,Fo.on d⟩)
    |exact⟨rfl,Fo.on (ai _ _)⟩
   case hb=>intro vs;simp only[aI,aB,aF,aH];rfl)
  apply eH
  case hE=>rfl
  case hb=>intro vs;simp only[aI,aB,aF,aH];rfl
  case h=>
   intro vs W b hd
   go_simp
   have d:=(ai W.heap.size W).alloc (ao _) (.cells #[.int .i64 0,.int .i64 0,.slice none 0 0,.slice none 0 0,.slice none 0 0,.slice none 0 0] 121)
   first
   |exact⟨b.on d,Fo.on d,⟨λ_=>⟨W.heap.size,by simp[upd],b.lt,_,_,_,_,_,_,au W _⟩,λe=>absurd e (by decide)⟩⟩
  apply eH
  case hE=>rfl
  case hb=>intro vs;simp only[aI];rfl
  case h=>
   intro vs W b hd;obtain⟨k,a,B,x0,x1,x2,x3,x4,V,c⟩:=(hd ⟨8,.data⟩ (cH.2 ⟨by simp,rfl⟩) rfl).1 rfl;obtain⟨u,x,y,z,f4,A⟩:=bf c;have X:=tO c;rw[a]
   go_simp
   refine⟨⟨(cM (by omega)).trans b.box,aJ b.low (by omega) _ _ _ _ _ _⟩,λq=>?_,⟨λe=>absurd e (by decide),λ_=>⟨k,by simp[upd,a],B,nC c⟩⟩⟩;by_cases m:q=k
   ·subst m;exact⟨λ_=>nC c,λ_=>⟨_,_,_,_,_,_,nC c⟩⟩
   ·exact⟨λe=>(cM m).trans e,fun⟨_,_,_,_,_,_,e⟩=>⟨_,_,_,_,_,_,(cM m).trans e⟩⟩
  refine cP λvs W b hd=>?_;obtain⟨k,a,B,c⟩:=(hd 9 (by omega) rfl).2 rfl;rw[a];obtain⟨u,x,y,z,f4,A⟩:=bf c;have Y:=ag c;have D:=ag b;clear c b hd a
  go_wp2_with (first
   |(go_at_call 110;refine(AX C g _).mono ?_;rintro e w'⟨rfl,l⟩;have E:Below W.heap.size W w':=(by rw[l];exact((ai _ _).alloc (ao _) _).alloc (by simp) _);have F:w'.heap[W.heap.size+1]?=some (.cells #[.int .i64 g] 3):=(by have H:=au (W.alloc (.cells C.val 121)) (.cells #[.int .i64 g] 3);rw[ab]at H;rw[l];exact H);have c1:w'.heap[W.heap.size]?=some (.cells C.val 121):=(by rw[l];exact(((ai (W.alloc (.cells C.val 121)).heap.size _).alloc (ao _) _).block _ (by simp)).trans (au W _));have I:=ag E;have R:=ag c1;have S:=ag F;clear l E c1 F)
   |(go_at_call 109;refine(NA C g N.out _ (p.out.below (aL D.out.low I.out)) R.out S.out).mono ?_;rintro e w3⟨v,rfl,J,K⟩;have T:=ag J;have U:=ag K;clear J K))
  have L:=aL D.out.low I.out;refine aP (v:=.tuple #[v,.int .i64 0]) ?_ rfl ⟨v,rfl,dJ T.out (by have:=L.size;omega),aL L U.out⟩;simp[aT,Tryz.results34,go_sem]
def tD{W:World}{r:Nat}{x0 x1 x2 x3 x4 u0 u1 u2 u3 u4:Value}{t:TypeId}(h:W.heap[r]?=some (.cells #[x0,x1,x2,x3,x4] t)):(((((W.setCell ⟨r,0,none⟩ u0).setCell ⟨r,1,none⟩ u1).setCell ⟨r,2,none⟩ u2).setCell ⟨r,3,none⟩ u3).setCell ⟨r,4,none⟩ u4).heap[r]?=some (.cells #[u0,u1,u2,u3,u4] t):=by
 simp only[aa,ad,if_pos,h,Option.map_some];rfl
def gh{W:World}{r b:Nat}{u0 u1 u2 u3 u4:Value}(hb:b≠r):(((((W.setCell ⟨r,0,none⟩ u0).setCell ⟨r,1,none⟩ u1).setCell ⟨r,2,none⟩ u2).setCell ⟨r,3,none⟩ u3).setCell ⟨r,4,none⟩ u4).heap[b]?=W.heap[b]?:=by
 simp only[aa,ad,if_neg (Ne.symm hb)]
def vA(l:List nR):nR:=l.getLast?.getD (0,0,0,0,0)
abbrev aaW(x:nR):Array Value:=#[.int .i64 x.1,.int .i64 x.2.1,.int .i64 x.2.2.1,.int .i64 x.2.2.2.1,.int .i64 x.2.2.2.2]
def IE(l:List nR)(x:nR):vA (l++[x])=x:=by simp[vA]
def nU(C:CD)(g:Nat):Int×Int:=(vA (mD C g C.n4)).2.2.2
structure Si(w:World)(pre:List nR)(W:World):Prop where
 res:W.heap[w.heap.size+1]?=some (.cells #[.int .i64 0,.int .i64 0] 35)
 last:W.heap[w.heap.size+2]?=some (.cells (aaW (vA pre)) 61)
 low:Below w.heap.size w W
def yW{w W c:World}{row:Option Nat}{a:List nR}{B:Nat}(d:w.heap.size+3<=B)(h:Si w a W)(hg:W.grownBy c row)(b:∀r,row=some r->B<=r):Si w a c:=
 ⟨(hg.block _ (ae h.res) λe=>by have:=b _ e.symm;omega).trans h.res,(hg.block _ (ae h.last) λe=>by have:=b _ e.symm;omega).trans h.last,h.low.grown hg h.low.size λk e=>by have:=b _ e;omega⟩
def Lm(C:CD)(g:Nat)(P:yR C g)(w:World)(hA:C.At w) :
 Calls PL 118 #[.agg C.val,.int .i64 g] w (aO (.agg #[.int .i64 (nU C g).1,.int .i64 (nU C g).2]) w):=by
 have U:=ag hA;have V:=ag P;clear hA P;refine(callsIn_wide (n:=9)).1 (callsIn_of_wp_marks (fx (by decide) Tryz.func118) rfl trivial ?_ rfl);simp only[Tryz.ntmps118,List.size_toArray,List.length_cons,List.length_nil,Nat.reduceAdd,Nat.reduceSub,Array.replicate_succ,Array.replicate_zero,List.push_toArray,List.append_toArray,List.nil_append,List.cons_append];refine wpIn_wide.2 ?_;have y:Si w [] (((w.alloc (.cells C.val 121)).alloc (.cells #[.int .i64 0,.int .i64 0] 35)).alloc (.cells #[.int .i64 0,.int .i64 0,.int .i64 0,.int .i64 0,.int .i64 0] 61)):=by
  refine⟨?_,?_,(((ai _ _).alloc (ao _) _).alloc (by simp) _).alloc (by simp;omega) _⟩
  ·have b:=au (w.alloc (.cells C.val 121)) (.cells #[.int .i64 0,.int .i64 0] 35);rw[ab]at b;exact(((ai ((w.alloc (.cells C.val 121)).alloc (.cells #[.int .i64 0,.int .i64 0] 35)).heap.size _).alloc (ao _) _).block _ (by simp)).trans b
  ·have b:=au ((w.alloc (.cells C.val 121)).alloc (.cells #[.int .i64 0,.int .i64 0] 35)) (.cells #[.int .i64 0,.int .i64 0,.int .i64 0,.int .i64 0,.int .i64 0] 61);simp only[ab]at b;exact b
 have z:=ag y;clear y
 go_wp2_with (go_at_call 110;refine(AX C g _).mono ?_;rintro e w'⟨rfl,m⟩)
 have X:=z.out.low;have J:∃Y:World,Y=(((w.alloc (.cells C.val 121)).alloc (.cells #[.int .i64 0,.int .i64 0] 35)).alloc (.cells #[.int .i64 0,.int .i64 0,.int .i64 0,.int .i64 0,.int .i64 0] 61)):=⟨_,rfl⟩
 have E:w'.heap.size=w.heap.size+5:=by rw[m];simp
 have Q:w'.heap[w.heap.size+3]?=some (.cells C.val 121):=by
  rw[m];have b:=au (((w.alloc (.cells C.val 121)).alloc (.cells #[.int .i64 0,.int .i64 0] 35)).alloc (.cells #[.int .i64 0,.int .i64 0,.int .i64 0,.int .i64 0,.int .i64 0] 61)) (.cells C.val 121);simp only[ab]at b;exact((((ai (World.alloc (((w.alloc (.cells C.val 121)).alloc (.cells #[.int .i64 0,.int .i64 0] 35)).alloc (.cells #[.int .i64 0,.int .i64 0,.int .i64 0,.int .i64 0,.int .i64 0] 61)) (.cells C.val 121)).heap.size _).alloc (ao _) _).block _ (by simp)).trans b)
 have F:w'.heap[w.heap.size+4]?=some (.cells #[.int .i64 g] 3):=by
  rw[m];have b:=au ((((w.alloc (.cells C.val 121)).alloc (.cells #[.int .i64 0,.int .i64 0] 35)).alloc (.cells #[.int .i64 0,.int .i64 0,.int .i64 0,.int .i64 0,.int .i64 0] 61)).alloc (.cells C.val 121)) (.cells #[.int .i64 g] 3);simp only[ab]at b;exact b
 have H:Si w [] w':=by
  rw[m];exact yW (ao _) z.out ((ac _ _ none).trans (ac _ _ none)) (λr e=>by cases e)
 have d:=ag E;have L:=ag Q;have M:=ag F;rw[<-m];clear E Q F m X J;refine(wpIn_wide (n:=9)).1 ?_;refine yU (by omega) (gf:=144) (lb:=#[.pointer (some ⟨w.heap.size+3,0,none⟩),.pointer (some ⟨w.heap.size+4,0,none⟩)]) rfl (enters_of (fx (by decide) Tryz.func144) (by kernel_rfl) rfl)
  (yT 8 (by omega) (w.heap.size+3) (w.heap.size+4) w.heap.size g C V.out w rfl U.out)
  (λW I=>?_) Li (λW l o R hl Z hc hw=>Lj (n:=w.heap.size) (s:=w.heap.size+5) (by omega) W l o R (by have:=d.out;omega) Z hc hw) (λ_=>rfl)
  (Si w) (λs A B row hs hg N=>yW (B:=w'.heap.size) (by have:=d.out;omega) hs hg λr e=>(N r e).1) (λs A B row hs hg N=>yW (B:=w'.heap.size) (by have:=d.out;omega) hs hg λr e=>(N r e).1) H
  (λx a W=>∃k,W.heap[k]?=some (.cells (aaW x) 61)/\a={ tmps:=#[.agg C.val,.int .i64 g,.pointer (some ⟨w.heap.size,0,none⟩),undef,.pointer (some ⟨w.heap.size+1,0,none⟩),.pointer (some ⟨w.heap.size+2,0,none⟩),.pointer (some ⟨k,0,none⟩),.agg C.val,.int .i64 g,.func (.func 144) #[] #[.pointer (some ⟨w.heap.size+3,0,none⟩),.pointer (some ⟨w.heap.size+4,0,none⟩)],.agg (aaW x),undef,undef,undef],defers:=[] })
  ?A ?kg ?assign ?body ?done
 ·have e:∀k,k<w.heap.size->W.heap[k]?=w.heap[k]?:=λk f=>(I.block k (by have:=d.out;omega)).trans (H.low.block k f);exact⟨e,by have:=I.size;have:=d.out;omega,(I.block _ (by have:=d.out;omega)).trans L.out,(I.block _ (by have:=d.out;omega)).trans M.out⟩
 case A=>
  rintro x a W l o R hl hc⟨k,f,ha⟩;refine⟨k,(World.putObj_heap_other (λe=>?_)).trans f,ha⟩;subst e;rw[hl]at f;cases f;cases hc
 case kg=>
  intro A B hs hg;have:=d.out;exact⟨λk f=>hg.block k (by omega) (by simp),λk c t h _ _=>(hg.block k (ae h) (by simp)).trans h,hg.size⟩
 case assign=>
  intro l x W K O;dsimp only[VS]
  gi_wp2
  refine O _ _ (ac W _ none) ⟨W.heap.size,au _ _,rfl⟩
 case body=>
  rintro l pre x a W i⟨k,f,rfl⟩Nw;obtain⟨k0,k1,k2,k3,k4⟩:=qO f;obtain⟨l0,l1,l2,l3,l4⟩:=qO i.last;have fl:=tO i.last;have j:=ag i;clear i f
  gi_wp2
  have Cu:=ae j.out.last;refine⟨((((a6 W _ _).trans (a6 _ _ _)).trans (a6 _ _ _)).trans (a6 _ _ _)).trans (a6 _ _ _),⟨λq hq=>gh (by omega),λq c t h b h2=>(gh (λe=>?_)).trans h,by simp⟩,⟨(gh (by omega)).trans j.out.res,by rw[IE];exact tD j.out.last,((((j.out.low.setCell (p:=⟨w.heap.size+2,0,none⟩) (by simp) _).setCell (p:=⟨w.heap.size+2,1,none⟩) (by simp) _).setCell (p:=⟨w.heap.size+2,2,none⟩) (by simp) _).setCell (p:=⟨w.heap.size+2,3,none⟩) (by simp) _).setCell (p:=⟨w.heap.size+2,4,none⟩) (by simp) _⟩⟩;subst e;have S:=j.out.last;rw[h]at S;cases S;exact b rfl
 case done=>
  intro D W T i O;obtain⟨l0,l1,l2,l3,l4⟩:=qO i.last;obtain⟨t0,t1,u0,u1⟩:=uJ i.res;have j:=ag i;have HD:=ag T;clear i T
  go_wp2
  have hK':=((a6 W ⟨w.heap.size+1,0,none⟩ (.int .i64 (vA (mD C g C.n4)).2.2.2.1)).trans (a6 _ ⟨w.heap.size+1,1,none⟩ (.int .i64 (vA (mD C g C.n4)).2.2.2.2))).same D _ O rfl;obtain⟨d0,d1,_,_⟩:=yD (u:=.int .i64 (vA (mD C g C.n4)).2.2.2.1) (v:=.int .i64 (vA (mD C g C.n4)).2.2.2.2) t0 t1;have e0:=cell_kept d0 (a5 _ D (.deferred none)) (λr e=>by cases e;exact⟨_,hK',rfl⟩);have e1:=cell_kept d1 (a5 _ D (.deferred none)) (λr e=>by cases e;exact⟨_,hK',rfl⟩);refine⟨by simp,.inl ⟨_,_,rfl,run_takeDeferred hK',?_⟩⟩;refine⟨.agg #[.int .i64 (nU C g).1,.int .i64 (nU C g).2],?_,rfl,(((j.out.low.setCell (p:=⟨w.heap.size+1,0,none⟩) (ap _) _).setCell (p:=⟨w.heap.size+1,1,none⟩) (ap _) _)).trans (belowK_b (w:=w) (ao _) _ D _ _ (by have:=HD.out;have:=d.out;omega) hK' rfl rfl)⟩;simp[aT,Tryz.results118,go_sem,e0,e1,nU]
structure KE(C:CD)(w W:World):Prop where
 box:W.heap[w.heap.size]?=some (.cells C.val 27)
 res:W.heap[w.heap.size+1]?=some (.cells #[.int .i64 0,.int .i64 0] 35)
 low:Below w.heap.size w W
def KE.on{C:CD}{w W b:World}(h:KE C w W)(a:Below W.heap.size W b):KE C w b:=
 ⟨(a.block _ (ae h.box)).trans h.box,(a.block _ (ae h.res)).trans h.res,aL h.low a⟩
def KE.lt{C:CD}{w W:World}(h:KE C w W):w.heap.size+1<W.heap.size:=ae h.res
def alV(C:CD)(w:World)(j:Nat)(vs:Nat->Value)(W:World):Prop:=
 (j=8->∃k,vs 8=.pointer (some ⟨k,0,none⟩)/\w.heap.size+1<k/\Six W k)/\(j=9->∃k,vs 8=.pointer (some ⟨k,0,none⟩)/\w.heap.size+1<k/\W.heap[k]?=some (.cells C.val 121))
def Sj(C:CD)(g:Nat)(w:World)(h:C.At w)(hg:g<C.n5)(m5:C.n5<=3)(hf:C.b6 true=0)(x:yR C g) :
 Calls PL 59 #[.agg C.val,.int .i64 g] w (aO (.tuple #[.agg #[.int .i64 (nU C g).1,.int .i64 (nU C g).2],.int .i64 0]) w):=by
 have y:=ag h;have K:=ag hf;have L:=ag x
 have n:Hid (KE C w ((w.alloc (.cells C.val 27)).alloc (.cells #[.int .i64 0,.int .i64 0] 35))):=ag ⟨(((ai (w.alloc (.cells C.val 27)).heap.size _).alloc (ao _) _).block _ (by simp)).trans (au w _),by
  have z:=au (w.alloc (.cells C.val 27)) (.cells #[.int .i64 0,.int .i64 0] 35);rw[ab]at z
  exact z,((ai _ _).alloc (ao _) _).alloc (by simp) _⟩
 clear h hf x
 go_enter (fx (by decide) Tryz.func59),Tryz.ntmps59
 go_upto_region 1 with fail
 refine cT 10 (KE C w) (Fo C) (λj=>j != 8&&j != 9) (alV C w) rfl (by kernel_rfl) (by kernel_rfl)
  (λi vs W A l h=>⟨λe=>(h.1 e).imp λk b=>⟨b.1,b.2.1,(l k).2 b.2.2⟩,λe=>(h.2 e).imp λk b=>⟨b.1,b.2.1,(l k).1 b.2.2⟩⟩) (λi o B vs M W N hd h=>⟨λe=>?_,λe=>?_⟩) ?_ ?_
 ·subst e;rw[<-N];exact h.1 rfl
 ·subst e;have O:vs 8=M 8:=by
   simp only[aq,ar,aw,Option.some.injEq]at B;subst B;exact hd ⟨8,.data⟩ (cH.2 ⟨by simp,rfl⟩)
  rw[<-O];exact h.2 rfl
 ·exact⟨n.out.box,n.out.res,n.out.low.drew⟩
 ·iterate 8 (
   apply aY
   case hE=>rfl
   case h=>
    intro vs W a hd;obtain⟨D,E,F,H,f4,I⟩:=bf a.box
    go_simp
    first
    |(go_at_call 108;refine(AZ C g hg m5 _).mono ?_;rintro e A⟨rfl,d⟩;exact⟨_,rfl,rfl,a.on d,Fo.on d⟩)
    |(go_at_call 90;refine(kF K.out (y.out.below a.low)).mono ?_;rintro e A⟨rfl,d⟩;exact⟨_,rfl,rfl,a.on d,Fo.on d⟩)
    |exact⟨rfl,Fo.on (ai _ _)⟩
   case hb=>intro vs;simp only[aI,aB,aF,aH];rfl)
  apply eH
  case hE=>rfl
  case hb=>intro vs;simp only[aI,aB,aF,aH];rfl
  case h=>
   intro vs W a hd
   go_simp
   have d:=(ai W.heap.size W).alloc (ao _) (.cells #[.int .i64 0,.int .i64 0,.slice none 0 0,.slice none 0 0,.slice none 0 0,.slice none 0 0] 121)
   first
   |exact⟨a.on d,Fo.on d,⟨λ_=>⟨W.heap.size,by simp[upd],a.lt,_,_,_,_,_,_,au W _⟩,λe=>absurd e (by decide)⟩⟩
  apply eH
  case hE=>rfl
  case hb=>intro vs;simp only[aI];rfl
  case h=>
   intro vs W a hd;obtain⟨k,b,J,x0,x1,x2,x3,x4,S,c⟩:=(hd ⟨8,.data⟩ (cH.2 ⟨by simp,rfl⟩) rfl).1 rfl;obtain⟨D,E,F,H,f4,I⟩:=bf c;have T:=tO c;rw[b]
   go_simp
   refine⟨⟨(cM (by omega)).trans a.box,(cM (by omega)).trans a.res,aJ a.low (by omega) _ _ _ _ _ _⟩,λq=>?_,⟨λe=>absurd e (by decide),λ_=>⟨k,by simp[upd,b],J,nC c⟩⟩⟩;by_cases r:q=k
   ·subst r;exact⟨λ_=>nC c,λ_=>⟨_,_,_,_,_,_,nC c⟩⟩
   ·exact⟨λe=>(cM r).trans e,fun⟨_,_,_,_,_,_,e⟩=>⟨_,_,_,_,_,_,(cM r).trans e⟩⟩
  refine cP λvs W a hd=>?_;obtain⟨k,b,J,c⟩:=(hd 9 (by omega) rfl).2 rfl;rw[b];obtain⟨D,E,F,H,f4,I⟩:=bf c;have U:=ag c;have f:=ag a;clear c a hd b;obtain⟨V,t1,u0,u1⟩:=uJ f.out.res;have fr:=tO f.out.res
  go_wp2_with (go_at_call 118;refine(Lm C g L.out _ (y.out.below f.out.low)).mono ?_;rintro e w3⟨rfl,s⟩;have m:=(s.block _ (ae f.out.res)).trans f.out.res;obtain⟨X,v1,Y,Z⟩:=uJ m;have P:=tO m;have Q:=ag s;have t:=ag m;clear s m)
  have R:=aL f.out.low Q.out;refine aP (v:=.tuple #[.agg #[.int .i64 (nU C g).1,.int .i64 (nU C g).2],.int .i64 0]) ?_ rfl ⟨rfl,(R.setCell (p:=⟨w.heap.size+1,0,none⟩) (ap _) _).setCell (p:=⟨w.heap.size+1,1,none⟩) (ap _) _⟩;obtain⟨a0,a1,_,_⟩:=uJ (yL (u:=.int .i64 (nU C g).1) (v:=.int .i64 (nU C g).2) t.out);simp[aT,Tryz.results59,go_sem,a0,a1]
def Fp(C:CD)(R:World->Value->Prop)(w:World)(h:C.At w)(hf:C.b6 true=0)
 (b:∀W,C.At W->Calls PL 111 #[.agg C.val] W λe w'=>∃v,e=.returned v/\R w' v/\Below W.heap.size W w') :
 Calls PL 37 #[.agg C.val] w λe w'=>∃v,e=.returned (.tuple #[v,.int .i64 0])/\R w' v/\Below w.heap.size w w':=by
 have c:=ag h;have k:=ag hf;have a:=ag b;have d:Hid (KB C w (w.alloc (.cells C.val 27))):=ag ⟨au _ _,(ai _ _).alloc (ao _) _⟩;clear h hf b
 go_enter (fx (by decide) Tryz.func37),Tryz.ntmps37
 go_wp2_with (first
  |(go_at_call 90;refine(kF k.out (c.out.below d.out.low)).mono ?_;rintro e w1⟨rfl,f⟩;have g:=ag (d.out.on f);clear f)
  |(go_at_call 111;refine(a.out _ (c.out.below (g.out.alloc (.cells C.val 121)).low)).mono ?_;rintro e w2⟨v,rfl,i,j⟩;have l:=ag ((g.out.alloc (.cells C.val 121)).on j);have m:=ag i;clear j i))
 refine aP (v:=.tuple #[v,.int .i64 0]) ?_ rfl ⟨v,rfl,m.out,l.out.low⟩;simp[aT,Tryz.results37,go_sem]
structure KT(C:CD)(w W:World):Prop where
 box:W.heap[w.heap.size]?=some (.cells C.val 121)
 low:Below w.heap.size w W
def KT.on{C:CD}{w W a:World}(h:KT C w W)(b:Below W.heap.size W a):KT C w a:=
 ⟨(b.block _ (ae h.box)).trans h.box,aL h.low b⟩
def qP(C:CD)(p:Nat):Bool:=decide (∀g,g<p->(nU C g).2<=C.l)
def IF{C:CD}{p:Nat}(h:qP C p=true)(k:(nU C p).2<=C.l):qP C (p+1)=true:=by
 simp only[qP,decide_eq_true_eq]at *;intro g hg
 rcases Nat.lt_succ_iff_lt_or_eq.1 hg with a|rfl
 ·exact h g a
 ·exact k
def Sk{C:CD}{p n:Nat}(a:p<n)(k:¬(nU C p).2<=C.l):qP C n=false:=by
 simp only[qP,decide_eq_false_iff_not];exact λh=>k (h p a)
def ag1(a b:Int)(W:World):Sem.run PL (Instr.field 35 (.agg #[.int .i64 a,.int .i64 b]) 1) W=.ok (.int .i64 b) W:=by kernel_rfl
def VY(C:CD)(n:Nat)(w:World)(h:C.At w)(hc:C.cx=0)(m5:C.n5<=3)
 (q:∀W,C.At W->Calls PL 111 #[.agg C.val] W λe w'=>∃b c,e=.returned (.slice b n c)/\Below W.heap.size W w') :
 Calls PL 114 #[.agg C.val] w (aO (.bool (qP C C.n5&&decide (n=0))) w):=by
 have r:=ag h;have j:=ag q;have v:=ag hc;have x:Hid (KT C w (w.alloc (.cells C.val 121))):=ag ⟨au _ _,(ai _ _).alloc (ao _) _⟩;clear h q hc
 go_enter (fx (by decide) Tryz.func114),Tryz.ntmps114
 go_wp2
 go_loopw [8] (λk wr=>∃p:Nat,p<=C.n5/\k=.int .i64 p/\qP C p=true/\KT C w wr) (λk _=>C.n5-(intOf k).toNat)
 case atStart=>exact⟨0,Nat.zero_le _,rfl,by simp[qP],x.out⟩
 case round=>
  obtain⟨p,K,rfl,hs,s⟩:=hrel;have f:=ag s;have t:=ag hs;clear s hs;by_cases i:p<C.n5
  ·have y:(p:Int)<C.n5:=by omega
   have z:=ag (Sa C v.out i)
   go_upto_region 4 with fail
   refine ig (KT C w) (λ_ _=>True) (λ_=>true) (λ_ _ _=>True) rfl (by kernel_rfl) (λ_ _ _ _ _ _=>trivial) (λ_ _ _ _ _ _ _ _ _=>trivial) ⟨f.out.box,f.out.low.drew⟩ ?_
   iterate 8 (
    apply aY
    case hE=>rfl
    case h=>
     intro vs W d hd;obtain⟨A,B,D,E,f4,F⟩:=bf d.box;have q1:=ag1
     go_simp
     first
     |(go_at_call 118;refine(Lm C p z.out _ (r.out.below d.low)).mono ?_;rintro e L⟨rfl,H⟩;exact⟨_,rfl,rfl,d.on H⟩)
     |exact rfl
    case hb=>intro vs;simp only[aI,aB,aF,aH];rfl)
   refine cP λvs W d hd=>?_;have g:=ag d;clear hd d;by_cases a:(nU C p).2<=C.l
   ·have m:=ag a;have I:¬(C.l<(nU C p).2):=by omega
    clear a
    go_wp2
    exact⟨⟨p+1,i,by go_num,IF t.out m.out,g.out⟩,by simp only[intOf];omega⟩
   ·have m:=ag a;have I:C.l<(nU C p).2:=by omega
    clear a
    go_wp2
    go_ret
    have hs:=Sk i (Int.not_le.2 m.out);refine⟨?_,g.out.low⟩;rw[hs,Bool.false_and];rfl
  ·have o:p=C.n5:=by omega
   have y:¬((p:Int)<C.n5):=by omega
   clear i;obtain⟨A,B,D,E,f4,F⟩:=bf f.out.box
   go_wp2_with (go_at_call 111;refine(j.out _ (r.out.below f.out.low)).mono ?_;rintro e w2⟨b,c,rfl,u⟩;have J:=ag (f.out.on u);clear u)
   go_ret
   have hs:qP C C.n5=true:=by have h:=t.out;first|(rw[o]at h;exact h)|exact h
   have e:((n:Int)==0)=decide (n=0):=by by_cases h:n=0<;>simp[h]
   refine⟨?_,J.out.low⟩;rw[hs,e,Bool.true_and];rfl
end Go.Proofs
