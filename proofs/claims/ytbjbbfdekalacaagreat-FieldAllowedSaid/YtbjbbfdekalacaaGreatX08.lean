/- Part of the proof of FieldAllowed. -/
import Derived.Test.YtbjbbfdekalacaaGreatX07
import Derived.Deep.DeepMust
import Derived.Maps.RangeWalk
import Derived.Shelf.SlSortCmp.QuietGrown
set_option linter.all false
open Go renaming Value->aa,World->ac,Calls->ad,TypeId->ag,Oper->ai,Operand->aF,execOp->aI,bodyPost_ret->aJ,results->aP,MapEntry->aT,underlying->a7,wpList->a8,wpList_plain->a9,wp_region_noPanic->bi,heap_alloc_old->bj
open Nat renaming lt_of_lt_of_le->bm,le_trans->bq,le_of_lt->bv,le_refl->bC,lt_or_ge->bL,add_zero->bM,zero_le->bR,lt_irrefl->bT,zero_add->b1,mod_lt->b8
open Go.Proofs renaming getElem?_lt'->cd,Reads->ce
open Go.Lib renaming hid->cf
open Go.Proofs.Tryz renaming func51->ch,ntmps51->ci,func4->co,ntmps4->cq,func57->ct,ntmps57->cv,func28->cC,ntmps28->cQ,results28->c8,func3->da,ntmps3->db,results3->dd
open Go.Proofs.Below renaming on->df,zQ->dk
open Go.Value renaming oneCell'->dp,ownBlock->dq,int->dt,pointer->du,bool->dv,agg->dC,slice->dL,tuple->dO,nilFunc->dQ,map->dT
open Go.World renaming cell?->dU,size_alloc->d8,setCell->d9
open List renaming map_cons->ea,map_nil->eb,map_append->ed,find?_cons->eg,range->eh,mem_mapIdx->ei,range_succ->ej,filter_append->ek,mem_map->em,mem_range->ep,getD_eq_getElem?_getD->eq,getElem?_map->et,mem_of_find?_eq_some->eu,getElem?_toArray->eA,getElem?_cons_succ->eD,getElem?_cons_zero->eE,getElem?_eq_getElem->eF,getElem?_take_of_lt->eI
open Go.RowKit.Below renaming refl->eM
open Go.Instr renaming findNow->eN,lookup->eQ,mapUpdate->eS,field->eT
open Go.MapKept renaming run_getObj_map->eV
open Array renaming getElem?_setIfInBounds_ne->eW,mem_filter->e6,getElem?_modify->fb,getElem?_setIfInBounds->fg,size_setIfInBounds->fi
open Go.Result renaming andThen->fl,ok->fm
open Option.some renaming injEq->fo
open Bool renaming and_eq_true->ft,or_eq_true->fA
open And renaming intro->fB
open Go.aU renaming of_heap->fJ
open Go.IntWalk renaming i64_in->fP
open Int renaming tmod_eq_emod_of_nonneg->fR,emod_nonneg->fY,emod_lt_of_pos->f6,le_refl->f7
open Go.NoPanic renaming normal->f8
open Go.Obj renaming cells->f9,map->gc,mapIter->ge
open Go.Ending renaming returned->gf
open Or renaming inl->gg,inr->gj
open Go.IntKind renaming i64->gl,u16->gp
set_option maxHeartbeats 4000000
set_option maxRecDepth 100000
namespace Go.Proofs
open Go.RowKit Go.Shelf
attribute [local go_sem] Oper.semAt_some
abbrev acj(a b c:Nat):aa:=.func (.func 51) #[] #[du (some ⟨a,0,none⟩),du (some ⟨b,0,none⟩),du (some ⟨c,0,none⟩)]
structure DE(V:Array aa)(k2 k3 k4 k5 la ca lb cb Bc Bd Bt B1:Nat)(W:ac):Prop where
 lo:k2<B1/\k3<B1/\k4<B1/\k5<B1/\la<B1/\lb<B1/\Bc<B1/\Bd<B1/\Bt<B1
 hi:B1<=W.heap.size
 c:W.heap[Bc]?=some (f9 V 27)
 d:∃v,W.heap[Bd]?=some (f9 #[v] 63)
 t:W.heap[Bt]?=some (f9 #[acj Bc Bd Bt] 108)
 ex:CJ W k2 k3 k4 k5 la ca lb cb 1
def Row.XM{W a:ac}{k B:Nat}{l:List aa}(h:Row W k l)(c:k<B)(b:Below B W a):Row a k l:=
 ⟨bm h.1 b.size,λj v e=>(b.cell (p:=⟨k,j,none⟩) c).trans (h.2 j v e)⟩
def DE.XM{V:Array aa}{k2 k3 f g i ca lb j k l m b:Nat}{W n:ac}(h:DE V k2 k3 f g i ca lb j k l m b W)(a:Below b W n):DE V k2 k3 f g i ca lb j k l m b n:=by
 obtain⟨a1,a2,a3,a4,o,p,q,r,s⟩:=h.lo;exact⟨h.lo,bq h.hi a.size,(a.block _ q).trans h.c,h.d.imp λ_ e=>(a.block _ r).trans e,(a.block _ s).trans h.t,⟨h.ex.r2.XM a1 a,h.ex.r3.XM a2 a,h.ex.r4.XM a3 a,h.ex.r5.XM a4 a,h.ex.ra.XM o a,h.ex.rb.XM p a⟩⟩
def DE.on{V:Array aa}{k2 k3 b f g ca lb i j k l m:Nat}{W n:ac}(h:DE V k2 k3 b f g ca lb i j k l m W)(a:bA W n):DE V k2 k3 b f g ca lb i j k l m n:=
 ⟨h.lo,bq h.hi a.size,(a.block _ (cd h.c)).trans h.c,h.d.imp λ_ e=>(a.block _ (cd e)).trans e,(a.block _ (cd h.t)).trans h.t,h.ex.on a⟩
def DP(a b:Nat)(w:ac)(e:Ending)(w':ac):Prop:=e=gf (dv true)/\(∃v,w'.heap[b]?=some (f9 #[v] 63)/\bB w' v [0,0])/\Below a w w'
def Sr{k2 a k3 c3 b c d e f ca lb g:Nat}:qP (ir k2 a k3 c3 b c d e f ca lb g 0) (ir k2 a k3 c3 b c d e f ca lb g 0).n5=true:=ae
def Ss{k2 a k3 c3 d f g i j ca lb k:Nat}(w:ac)(h:(ir k2 a k3 c3 d f g i j ca lb k 0).At w):ad PL 52 #[dC (ir k2 a k3 c3 d f g i j ca lb k 0).val] w (aO (dv true) w):=by
 have m:=VY (ir k2 a k3 c3 d f g i j ca lb k 0) 0 w h (yQ (gg rfl)) (by simp[ir]) λW n=>(vC _ 0 (gg rfl) rfl rfl W n λq l=>tA (gg rfl) ⟨k2,a,k3,c3,d,f,g,i,j,ca,lb,k,rfl⟩ l).mono ?_
 .rw[Sr]at m;exact m
 .rintro e w'⟨v,rfl,o,p⟩;obtain⟨b,c,rfl⟩:=vB o;exact⟨b,c,rfl,p⟩
def aha{W:ac}{base e size n B:Nat}{v u:aa}{xs:List aa}(h:W.ownsRow base e size v n xs)(d:B<base):(W.setCell ⟨B,0,none⟩ u).ownsRow base e size v n xs:=by
 obtain⟨b,h⟩:=h
 rcases h with h|⟨g,cap,a,e1,hb,hg,c⟩
 .exact⟨b,gg h⟩
 .exact⟨b,gj ⟨g,cap,a,e1,hb,(aZ ab).trans hg,c⟩⟩
def agF{k2 I k3 c3 o J q K r ca lb s L k M X N:Nat}{l:aa}(w:ac)(h:DE (ir k2 I k3 c3 o J q K r ca lb s 1).val k2 k3 o q r ca lb s L k M X w)(hl:bB w l [0,0])(O:N<=k) :
 ad PL 51 #[l,dt gl 0,du (some ⟨L,0,none⟩),du (some ⟨k,0,none⟩),du (some ⟨M,0,none⟩)] w (DP N k w):=by
 have P:=cf hl;obtain⟨b,c,rfl,Q⟩:=hl;obtain⟨g,m,rfl,t,x⟩:=Q ar;have y:=cf h;have Y:=cf (x 0 ar);have Z:=cf (x 1 ar);simp only[List.length_cons,List.length_nil,Nat.reduceAdd]at P ⊢;have R:Hid (∀W,CJ W k2 k3 o q r ca lb s 1->bB W (dL (some ⟨g,m,none⟩) 2 c) [0,0]->ad PL 50 #[dC (ir k2 I k3 c3 o J q K r ca lb s 1).val,dL (some ⟨g,m,none⟩) 2 c] W _):=cf λW hW hR=>yP W hW hR;have z:=h.c;clear h Q x;simp only[ir,CD.val]at R z y;obtain⟨f0,f1,f2,f3,f4,f5⟩:=bf z;clear z;go_enter (fx ao ch),ci
 go_upto_region 4 with(first
  |(go_at_call 50;go_must (refine(R.out _ y.out.ex P.out).mono ?_);rintro e w1⟨q2,p2,q3,p3,q4,p4,q5,p5,xa,ya,xb,yb,rfl,S⟩;have i:=cf S;clear S)
  |(go_at_call 52;go_must (refine(Ss _ (Rx i.out.rows.r2 i.out.rows.r3 i.out.rows.r4 i.out.rows.r5 i.out.rows.ra i.out.rows.rb)).mono ?_);rintro e w2⟨rfl,T⟩;have B2:=cf T;clear T))
 have T2:=cf (df i.out.low B2.out);have U:∀j u,[bh 0,bh 0][j]?=some u->w2.cell? ⟨g,m+j,none⟩=some u:=λj u e=>by
  match j,e with
  |0,e=>cases e;exact(T2.out.cell (p:=⟨g,m,none⟩) t).trans Y.out
  |1,e=>cases e;exact(T2.out.cell (p:=⟨g,m+1,none⟩) t).trans Z.out
 have CL:=cf U;obtain⟨v0,a⟩:=y.out.d;have A:=cf a;have n:=(T2.out.block _ (cd a)).trans a;have B:=cf n;have V:g<w2.heap.size:=bm t T2.out.size;have C:=cf V;clear U a n V
 go_wp2_with (go_at_call 53;go_must (refine(tC g m 2 c [bh 0,bh 0] _ rfl CL.out (by simp[dp]) ab C.out).mono ?_);rintro e w3⟨v,rfl,hv,D,E⟩;have f:=(E.block _ (cd B.out)).trans B.out;have fz:=tO f;have y0:w3.cell? ⟨k,0,none⟩=some v0:=(by simp[dU,f]);obtain⟨bb,cc,rfl⟩:=vB D;have F:=cf f;have HO:=cf D;have B3:=cf E;clear f D E hv)
 go_ret;have H:k<w2.heap.size:=cd B.out;refine⟨rfl,⟨_,yV F.out,eO.reads (e:=3) (base:=w2.heap.size) (aha HO.out H)⟩,((df T2.out B3.out).mono (bq O (bv (cd A.out)))).setCell O _⟩
def abk{T e:ag}(a:PL.underlying T=some (.slice e))(c:(PL.info? e).map (λi=>(i.zero,i.size,i.bytes))=some (some (dt gl 0),1,8)){ops:Array ai}{o:ai}{b:Act}{K:aa->ac->Prop}{W:ac}(d:o.guard=none)(s x:aF)
 (f:o.op=.call { callee:=.builtin .append,args:=#[s,x],argTypes:=#[T,T] }) (base:Nat) (v:aa) (l:List Int) (j:Int) (k:Nat) (hs:b.eval s=v) (g:eO e W base v l)
 (m:b.eval x=dL (some ⟨k,0,none⟩) 1 1) (hc:W.cell? ⟨k,0,none⟩=some (dt gl j)) (hl:l.length<=1000) (n:base<=W.heap.size)
 (h:∀v' w',eO e w' base v' (l++[j])->W.grownBy w' v.ownBlock->K v' w'):fC PL ops K o b W:=by
 obtain⟨p,hi,r,t,y⟩:=info_parts c
 obtain⟨v',w',z,A,B,_⟩:=run_append_own (P:=PL) (w:=W) base T o.type e p (dt gl 0) 1 8 a hi r t y rfl ao v l.length _ g ⟨k,0,none⟩ 1 1 [dt gl j] rfl (λq u e=>by
  match q,e with
  |0,e=>cases e;exact hc) (by simp[dp]) (by simp only[maxLen];omega) ab n
 unfold fC;rw[if_pos (by simp[Region.wanted,d])];unfold aI;simp only[f,resolve,invoke,builtin,Sem.run_bind,Sem.run_pure,Result.andThen_ok,List.map_toArray,ea,eb,hs,m,z];refine h v' w' ?_ B;unfold eO;rw[List.length_append,ed];exact A
structure CT(V:Array aa)(k2 k3 k4 k5 la ca lb cb Bc Bd Bt B1:Nat)(w1:ac)(b:Bool)(W:ac):Prop where
 de:DE V k2 k3 k4 k5 la ca lb cb Bc Bd Bt B1 W
 low:Below B1 w1 W
 old:b=false->bA w1 W
def V1(n0 a:Nat)(xs:List Int)(j:Nat)(vs:Nat->aa)(W:ac):Prop:=
 (j=3->∃k,vs 3=dL (some ⟨k,0,none⟩) 1 1/\n0<=k/\W.heap[k]?=some (f9 #[dt gl 0] 3))/\
 (j=4->eO 3 W a (vs 4) (xs++[0]))
def V1.le{n0 b:Nat}{xs:List Int}{j:Nat}{vs:Nat->aa}{W c:ac}(h:V1 n0 b xs j vs W)(d:bA W c):V1 n0 b xs j vs c:=
 ⟨λe=>(h.1 e).imp λ_ a=>⟨a.1,a.2.1,(d.block _ (cd a.2.2)).trans a.2.2⟩,λe=>(h.2 e).on d⟩
def ExD(t:Nat):Bool:=t != 3&&t != 4
def abL{k2 x k3 c3 f y g z m ca lb p v r s d F:Nat}{l:aa}(xs:List Int)(L:xs.length<2)(w:ac)(h:DE (ir k2 x k3 c3 f y g z m ca lb p 1).val k2 k3 f g m ca lb p v r s d w)(hl:eO 3 w d l xs)(cB:F<=d)
 (M:∀W l',DE (ir k2 x k3 c3 f y g z m ca lb p 1).val k2 k3 f g m ca lb p v r s d W->eO 3 W d l' (xs++[0])->ad PL 51 #[l',dt gl 0,du (some ⟨v,0,none⟩),du (some ⟨r,0,none⟩),du (some ⟨s,0,none⟩)] W (DP F r W)) :
 ad PL 51 #[l,dt gl 0,du (some ⟨v,0,none⟩),du (some ⟨r,0,none⟩),du (some ⟨s,0,none⟩)] w (DP F r w):=by
 obtain⟨b,c,rfl⟩:=vB hl;have HX:=cf h;have N:=cf hl;have IH:=cf M;have O:=h.c;have i1:¬((xs.length:Int)=2):=ab;have H:=cf L;clear h hl M L;obtain⟨P,Q,R,S,f4,T⟩:=bf O;clear O;simp only[ir]at P Q R S f4 T;go_enter (fx ao ch),ci;go_wp2
 go_loopw [8] (λv8 wr=>v8=dt gl 0/\wr=w) (λ_ _=>0)
 case atStart=>exact⟨rfl,rfl⟩
 case round=>
  obtain⟨rfl,hw⟩:=hrel;subst hw
  go_upto_region 9 with(go_at_call 49;refine(uK (n:=0) rfl _).mono ?_;rintro e w'⟨rfl,rfl⟩)
  have C0:Hid (CT (ir k2 x k3 c3 f y g z m ca lb p 1).val k2 k3 f g m ca lb p v r s d wr false wr.drew):=cf ⟨HX.out.on (eM _ _).drew,(eM _ _).drew,λ_=>(eM _ _).drew⟩;clear P Q R S f4 T i1;refine iL 8 4 (CT (ir k2 x k3 c3 f y g z m ca lb p 1).val k2 k3 f g m ca lb p v r s d wr) (λW U=>bA W U) ExD (λ_=>V1 wr.heap.size d xs) (λ_ _ _ _=>True) (λ_ _ _ _ _=>trivial) rfl ae ae rfl
   (λ_ i vs W U I h=>h.le I) (λi o ho vs eX W V _ _ h=>⟨λe=>by subst e;rw[<-V];exact h.1 rfl,λe=>by subst e;rw[<-V];exact h.2 rfl⟩) C0.out ?_
  iterate 3 (
   apply iK
   case hE=>rfl
   case h=>
    intro vs W b a hd;have A:=a.de.t;have t0:W.cell? ⟨s,0,none⟩=some (acj v r s):=by simp[dU,A]
    clear A;go_simp
    first
    |exact⟨rfl,eM _ _⟩
    |exact⟨rfl,a,eM _ _⟩
   case hb=>exact H9)
  apply ey
  case hE=>rfl
  case hb=>exact H9
  case h=>
   intro vs W D b hb a X hi _ hd hP;have u:=(eM W.heap.size W).alloc (bC _) (f9 #[dt gl 0] 3);have B:Hid (CT (ir k2 x k3 c3 f y g z m ca lb p 1).val k2 k3 f g m ca lb p v r s d wr b (W.alloc (f9 #[dt gl 0] 3))):=cf ⟨a.de.on u,a.low.trans (u.mono a.de.hi),λe=>df (a.old e) u⟩;have HW:=cf (a.low.size);clear a;go_simp;exact⟨B.out,λj C J=>(hd j C J).le u,⟨λ_=>⟨W.heap.size,by simp[upd],HW.out,au _ _⟩,bp⟩⟩
  apply ey
  case hE=>rfl
  case hb=>exact H9
  case h=>
   intro vs W D bb iC a X hi _ hd hP;have m3:3∈D:=X ⟨3,.data⟩ (cH.2 ⟨ar,rfl⟩);obtain⟨q,hq,hql,K⟩:=(hd 3 m3 rfl).1 rfl;have hold:=a.old (iC rfl);have Y:=N.out.on hold;have bu:=cZ Y;have aH:∀j,dq (dL b xs.length c)=some j->j<wr.heap.size:=λj e=>by
    obtain⟨cur,hc⟩:=qm N.out j e;exact cd hc
   refine abk Rz RE rfl _ _ rfl d (dL b xs.length c) xs 0 q rfl Y hq (by simp[dU,K]) (by have:=H.out;omega) a.de.hi λv' w' h1 Z=>?_;have u:Below d W w':=(eM d W).grown Z a.de.hi bu;refine⟨⟨a.de.XM u,a.low.trans u,λe=>by simp at e⟩,λj C J=>⟨λe=>?_,λe=>absurd C (by rw[e];exact hi)⟩,⟨bp,λ_=>by simpa[upd]using h1⟩,λ_ _ _=>trivial⟩;refine((hd j C J).1 e).imp λk E=>⟨E.1,E.2.1,(Z.block k (cd E.2.2) λe=>?_).trans E.2.2⟩
   have:=aH _ e.symm;omega
  iterate 3 (
   apply iK
   case hE=>rfl
   case h=>
    intro vs W b a hd;go_simp;exact⟨rfl,eM _ _⟩
   case hb=>exact H9)
  refine nv λvs W bb _ a hd _=>?_;have hO:=(hd 4 ab rfl).2 rfl;have HO:=cf hO;have B:=cf a;clear hd hO a
  go_wp2_with (go_at_call 51;go_must (refine(IH.out _ _ B.out.de HO.out).mono ?_);rintro e w2⟨rfl,hp,u⟩)
  go_ret;exact⟨rfl,hp,(B.out.low.mono cB).trans u⟩
def ab1{k2 m k3 c3 d n e o f ca lb g i a j k b:Nat}(w:ac)(h:DE (ir k2 m k3 c3 d n e o f ca lb g 1).val k2 k3 d e f ca lb g i a j k w)(p:b<=a)(l:b<=k) :
 ad PL 51 #[dL none 0 0,dt gl 0,du (some ⟨i,0,none⟩),du (some ⟨a,0,none⟩),du (some ⟨j,0,none⟩)] w (DP b a w):=
 abL [] ao w h ⟨rfl,gg ⟨rfl,rfl⟩⟩ l λW t q hl=>abL [0] ao W q hl l λr u s c=>agF r s (eO.reads c) p
end Go.Proofs
namespace Go.Proofs
open Go.RowKit Go.Shelf
def abD{P:Program}{w:ac}{a:Addr}{m:Mode}(f:Fn)(ts b:Array aa):(store a (.func f ts b) m).run P w=stored P w a (.func f ts b) m:=run_store P w a _ m rfl
attribute [local go_sem] abD
def V2{w:ac}{B:Nat}{v:aa}{t:ag}(h:w.heap[B]?=some (f9 #[v] t)):bA w (w.setCell ⟨B,0,none⟩ v):=
 ⟨rfl,rfl,rfl,ar,λk _=>by
   by_cases e:k=B
   .subst e;rw[yV h,h]
   .exact aZ (Ne.symm e)⟩
structure ahb(V:Array aa)(w:ac)(W:ac):Prop where
 c:W.heap[w.heap.size]?=some (f9 V 27)
 d:W.heap[w.heap.size+1]?=some (f9 #[dL none 0 0] 63)
 low:bA w W
def ahb.on{V:Array aa}{w W b:ac}(h:ahb V w W)(a:bA W b):ahb V w b:=
 ⟨(a.block _ (cd h.c)).trans h.c,(a.block _ (cd h.d)).trans h.d,df h.low a⟩
def II{k2 i k3 c3 a j b k f ca lb g:Nat}(w:ac)(h:CJ w k2 k3 a b f ca lb g 1) :
 ad PL 21 #[dC (ir k2 i k3 c3 a j b k f ca lb g 1).val] w λe w'=>∃v,e=gf (dO #[v,dv true,dt gl 0])/\bB w' v [0,0]/\bA w w':=by
 have l:=cf h
 have q:Hid (ahb (ir k2 i k3 c3 a j b k f ca lb g 1).val w ((w.alloc (f9 (ir k2 i k3 c3 a j b k f ca lb g 1).val 27)).alloc (f9 #[dL none 0 0] 63))):=cf (by
  refine⟨(((eM (w.alloc _).heap.size _).alloc (bC _) _).block _ ar).trans (au w _),?_,((eM _ _).alloc (bC _) _).alloc ar _⟩;have h:=au (w.alloc (f9 (ir k2 i k3 c3 a j b k f ca lb g 1).val 27)) (f9 #[dL none 0 0] 63);rw[d8]at h
  exact h)
 have M:Hid (∀W,CJ W k2 k3 a b f ca lb g 1->ad PL 48 #[dC (ir k2 i k3 c3 a j b k f ca lb g 1).val] W (aO (dt gl 0) W)):=cf λW Y=>sY (yQ (gj rfl)) Y.at;clear h;simp only[ir,CD.val]at q M ⊢;go_enter (fx ao Tryz.func21),Tryz.ntmps21
 go_upto_region 1 with fail
 obtain⟨N,O⟩:=br ((w.alloc (f9 #[dt gl 60,dt gl 4,dL (some ⟨k2,0,none⟩) 2 i,dL (some ⟨k3,0,none⟩) 4 c3,dL (some ⟨a,0,none⟩) 3 j,dL (some ⟨b,0,none⟩) 2 k] 27)).alloc (f9 #[dL none 0 0] 63));rw[<-O]at q ⊢;clear O;obtain⟨z,A,B,C,f4,D⟩:=bf q.out.c
 go_upto_region 4 with(go_at_call 48;go_must (refine(M.out _ (l.out.on q.out.low)).mono ?_);rintro e w1⟨rfl,r⟩;have I:=cf (q.out.on r);clear r z A B C f4 D;obtain⟨z,A,B,C,f4,D⟩:=bf I.out.c)
 go_upto_region 5 with fail
 obtain⟨n,E⟩:=br (w1.alloc (f9 #[dQ] 108));have r:bA w1 n:=by rw[E];exact(eM _ _).alloc (bC _) _
 have F:n.heap[w1.heap.size]?=some (f9 #[dQ] 108):=by rw[E];exact au _ _
 rw[<-E];clear E z A B C f4 D;have J:=cf (I.out.on r);have Z:=cf F;have t0:n.cell? ⟨w1.heap.size,0,none⟩=some dQ:=by simp[dU,F]
 have P:=tO F;clear F r
 go_upto_region 6 with fail
 obtain⟨m,H⟩:=br (n.setCell ⟨w1.heap.size,0,none⟩ (acj w.heap.size (w.heap.size+1) w1.heap.size));rw[<-H];have s:=cd I.out.d
 have o:Hid (ahb #[dt gl 60,dt gl 4,dL (some ⟨k2,0,none⟩) 2 i,dL (some ⟨k3,0,none⟩) 4 c3,dL (some ⟨a,0,none⟩) 3 j,dL (some ⟨b,0,none⟩) 2 k] w m):=cf (by
  rw[H]
  exact⟨(aZ ab).trans J.out.c,(aZ ab).trans J.out.d,J.out.low.setCell (p:=⟨w1.heap.size,0,none⟩) (by simp only;omega) _⟩)
 have Q:Hid (DE (ir k2 i k3 c3 a j b k f ca lb g 1).val k2 k3 a b f ca lb g w.heap.size (w.heap.size+1) w1.heap.size (w1.heap.size+1) m):=cf (by
  have e:=l.out.on o.out.low;have l2:=l.out.r2.1;have l3:=l.out.r3.1;have l4:=l.out.r4.1;have l5:=l.out.r5.1;have f:=l.out.ra.1;have lb:=l.out.rb.1;have R:m.heap[w1.heap.size]?=some (f9 #[acj w.heap.size (w.heap.size+1) w1.heap.size] 108):=by rw[H];exact yV Z.out
  exact⟨⟨ab,ab,ab,ab,ab,ab,ab,ab,ab⟩,cd R,o.out.c,⟨_,o.out.d⟩,R,e⟩)
 have S:=Q.out.t;have t1:m.cell? ⟨w1.heap.size,0,none⟩=some (acj w.heap.size (w.heap.size+1) w1.heap.size):=by simp[dU,S]
 obtain⟨z,A,B,C,f4,D⟩:=bf o.out.c;clear H t0 P S;have K:=cf s;clear s;go_wp2
 go_loopw [19] (λL wr=>L=dt gl 0/\wr=m) (λ_ _=>0)
 case atStart=>exact⟨rfl,rfl⟩
 case round=>
  obtain⟨rfl,hw⟩:=hrel;subst hw
  go_wp2_with (go_at_call 51;go_must (refine(ab1 _ Q.out (Nat.le_succ _) (by have:=K.out;omega)).mono ?_);rintro e w3⟨rfl,⟨v,hv,T⟩,U⟩;have HR:=cf T;obtain⟨x,y,rfl,Yc⟩:=T;clear Yc;have y0:w3.cell? ⟨w.heap.size+1,0,none⟩=some (dL x 2 y):=(by simp[dU,hv]);have P:=tO hv;have V:=cf hv;have X:=cf U;clear hv U)
  have hs:=V2 V.out;have hy:=yV (u:=dL x 2 y) V.out;refine aJ (v:=dO #[dL x 2 y,dv true,dt gl 0]) ?_ rfl ⟨_,rfl,HR.out.on hs,(o.out.low.trans X.out).trans (hs.mono (bq o.out.low.size X.out.size))⟩;have hz:=cd hy;have sB:(w3.setCell ⟨w.heap.size+1,0,none⟩ (dL x 2 y)).cell? ⟨w.heap.size+1,0,none⟩=some (dL x 2 y):=by simp[dU,hy]
  clear hs;simp[aP,Tryz.results21,go_sem,sB]
end Go.Proofs
namespace Go.Proofs
open Go.RowKit Go.Instr
open Go.ChangeMaps (setBlock)
abbrev WE:=Int×aa×List Int×Int
def nD(x:WE):aa:=dC #[x.2.1,dt gl x.2.2.2]
def Cx(i:Nat)(x:WE):aT:={ key:=dt gl x.1,val:=nD x,born:=i }
def gi(R:List WE):Array aT:=(R.mapIdx Cx).toArray
structure jy(W:ac)(b:Nat)(R:List WE):Prop where
 map:W.heap[b]?=some (gc (gi R) R.length)
 reads:∀x∈R,bB W x.2.1 x.2.2.1
 ne:∀x∈R,x.2.2.1≠[]
def jy.on{W a:ac}{b:Nat}{R:List WE}(h:jy W b R)(c:bA W a):jy a b R:=
 ⟨(c.block _ (cd h.map)).trans h.map,λx d=>(h.reads x d).on c,h.ne⟩
def jy.made(w:ac):jy (w.alloc (gc #[] 0)) w.heap.size []:=⟨au _ _,λ_ h=>(by cases h),λ_ h=>(by cases h)⟩
def yY:PL.underlying 113=some (.map 3 112):=ae
def V3(w:ac):(zeroValue 112).run PL w=fm (dC #[dL none 0 0,dt gl 0]) w:=ae
def Sv(k:Int):∀(R:List WE)(f:Nat->WE->aT)(a:Nat),(∀i x,(f i x).key=dt gl x.1)->(∀i x,(f i x).val=nD x)->
 ∃r,eN (.int gl) (dt gl k) (R.mapIdx f) a=some r/\(∀x,R.find? (λx=>x.1==k)=some x->∃j,r=some (j,nD x))/\(R.find? (λx=>x.1==k)=none->r=none)
 |[],f,a,_,_=>⟨none,rfl,λx h=>by simp at h,λ_=>rfl⟩
 |y::R,f,a,b,hv=>by
  rw[List.mapIdx_cons];by_cases e:y.1=k
  .refine⟨some (a,nD y),by simp[eN,b,hv,sameNow,e],λx h=>?_,λh=>?_⟩
   .simp[e]at h;subst h;exact⟨a,rfl⟩
   .simp[e]at h
  .obtain⟨r,c,d,g⟩:=Sv k R (λi=>f (i+1)) (a+1) (λi x=>b _ x) (λi x=>hv _ x);refine⟨r,?_,λx h=>d x ?_,λh=>g ?_⟩
   .have l:(k==y.1)=false:=by simpa using λh=>e h.symm
    simp only[eN,b,sameNow,l,if_true];simpa using c
   .simpa[eg,e]using h
   .simpa[eg,e]using h
def qn(k:Int)(R:List WE)(w:ac):∃r,(findKey 3 (dt gl k) (gi R).toList).run PL w=fm r w/\(∀x,R.find? (λx=>x.1==k)=some x->∃j,r=some (j,nD x))/\(R.find? (λx=>x.1==k)=none->r=none):=by
 obtain⟨r,a,b,c⟩:=Sv k R Cx 0 (λ_ _=>rfl) (λ_ _=>rfl);exact⟨r,by simp[findKey,a7,aaj,gi,a],b,c⟩
def IJ{W:ac}{b:Nat}{R:List WE}{k:Int}{x:WE}(h:W.heap[b]?=some (gc (gi R) R.length))(a:R.find? (λx=>x.1==k)=some x):(eQ 113 (dT (some b)) (dt gl k) false).run PL W=fm (nD x) W:=by
 obtain⟨r,c,d,_⟩:=qn k R W;obtain⟨j,rfl⟩:=d x a;simp[eQ,a7,yY,eV h,qz.check,c]
def Sw{W:ac}{b:Nat}{R:List WE}{k:Int}{x:WE}(h:W.heap[b]?=some (gc (gi R) R.length))(a:R.find? (λx=>x.1==k)=some x):(eQ 113 (dT (some b)) (dt gl k) true).run PL W=fm (dO #[nD x,dv true]) W:=by
 obtain⟨r,c,d,_⟩:=qn k R W;obtain⟨j,rfl⟩:=d x a;simp[eQ,a7,yY,eV h,qz.check,c]
def Sx{W:ac}{b:Nat}{R:List WE}{k:Int}(h:W.heap[b]?=some (gc (gi R) R.length))(c:R.find? (λx=>x.1==k)=none):(eQ 113 (dT (some b)) (dt gl k) true).run PL W=fm (dO #[dC #[dL none 0 0,dt gl 0],dv false]) W:=by
 obtain⟨r,a,_,d⟩:=qn k R W;rw[d c]at a;simp[eQ,a7,yY,eV h,qz.check,a,V3]
def jN{W d:ac}{b:Nat}{o:Obj}{v:aa}{l:List Int}(hv:bB W v l)(hl:l≠[])(h:gv W d b)(hb:W.heap[b]?=some o)(e:∀c t f,o≠f9 c t f):bB d v l:=by
 obtain⟨p,c,rfl,g⟩:=hv;refine⟨p,c,rfl,λi=>?_⟩;obtain⟨k,q,rfl,m,hc⟩:=g i;have n:k≠b:=by
  rintro rfl;have:=hc 0 ab;simp only[dU,hb]at this
  cases o with
  |cells c t f=>exact e c t f rfl
  |_=>simp at this
 exact⟨k,q,rfl,by rw[h.size];exact m,λj r=>(h.cell (a:=⟨k,q+j,none⟩) n).trans (hc j r)⟩
def jy.put{W:ac}{b:Nat}{R:List WE}(h:jy W b R){x:WE}(f:R.find? (λy=>y.1==x.1)=none)(g:bB W x.2.1 x.2.2.1)(c:x.2.2.1≠[]) :
 ∃w',(eS 113 (dT (some b)) (dt gl x.1) (nD x)).run PL W=fm () w'/\jy w' b (R++[x])/\gv W w' b:=by
 obtain⟨r,d,_,i⟩:=qn x.1 R W;rw[i f]at d;have hb:=cd h.map
 have a:gv W { W with heap:=W.heap.setIfInBounds b (gc ((gi R).push { key:=dt gl x.1,val:=nD x,born:=R.length }) (R.length+1)) } b:=⟨rfl,rfl,rfl,ar,λk j=>by
  show(W.heap.setIfInBounds b _)[k]?=_
  rw[eW (Ne.symm j)]⟩
 have l:gi (R++[x])=(gi R).push { key:=dt gl x.1,val:=nD x,born:=R.length }:=by
  simp[gi,Cx,List.mapIdx_append]
 refine⟨_,?_,⟨?_,λy hy=>?_,λy hy=>?_⟩,a⟩
 .simp[eS,a7,yY,eV h.map,qz.check,d,MapKept.run_setObj_map _ h.map]
 .rw[l];simp[hb]
 .rcases List.mem_append.1 hy with hy|hy
  .exact jN (h.reads y hy) (h.ne y hy) a h.map (λ_ _ _ e=>by cases e)
  .rw[List.mem_singleton.1 hy];exact jN g c a h.map (λ_ _ _ e=>by cases e)
 .rcases List.mem_append.1 hy with hy|hy
  .exact h.ne y hy
  .rw[List.mem_singleton.1 hy];exact c
def ag6(R:List WE):(gi R).toList.map (·.born)=eh R.length:=by
 apply List.ext_getElem
 .simp[gi]
 .intro i a b;simp[gi,Cx]
def A5{R:List WE}{e:aT}(h:e∈(gi R).toList):∃j x,R[j]?=some x/\e=Cx j x:=by
 simp only[gi,ei]at h;obtain⟨j,a,rfl⟩:=h;exact⟨j,R[j],by simp[a],rfl⟩
def tE(W:ac)(r b n:Nat)(seen:Array Nat):Prop:=W.heap[r]?=some (ge (some b) n seen n)
def V4{W:ac}{b:Nat}{R:List WE}(h:jy W b R):(Instr.range 113 (dT (some b))).run PL W=fm (du (some ⟨W.heap.size,0,none⟩)) (W.alloc (ge (some b) R.length #[] R.length)):=
 run_range_map W 113 3 112 b _ _ yY h.map
def Fs(n:Nat)(seen:Array Nat):Nat:=((eh n).filter λj=>!seen.contains j).length
def IK{n j:Nat}{seen:Array Nat}(a:j<n)(hs:seen.contains j=false):Fs n (seen.push j)<Fs n seen:=by
 unfold Fs;have b:(eh n).filter (λq=>!(seen.push j).contains q)=((eh n).filter λq=>!seen.contains q).filter λq=>decide (¬q=j):=by
  rw[List.filter_filter];refine List.filter_congr λq _=>?_;by_cases e:q=j<;>simp[e]
 rw[b];refine List.length_filter_lt_length_iff_exists.2 ⟨j,?_,ar⟩;have c:j∉seen:=by simpa using hs
 simp[a,c]
def zX{ops:Array ai}{rest:List ai}{o:ai}{a:Act}{Q:Exit->Act->ac->Prop}(w:ac)(hg:o.guard=none)(it:aF)(t:o.op=Op.next it false)(r b:Nat)(R:List WE)(seen:Array Nat)
 (u:a.eval it=du (some ⟨r,0,none⟩)) (g:tE w r b R.length seen) (c:jy w b R)
 (A:(∀j,j<R.length->seen.contains j=true)->a8 PL ops Q rest (a.put o.dst (dO #[dv false])) w)
 (i:∀j x w',R[j]?=some x->seen.contains j=false->tE w' r b R.length (seen.push j)->gv w w' r->jy w' b R->(Instr.entry (du (some ⟨r,0,none⟩))).run PL w'=fm (dO #[dt gl x.1,nD x]) w'->
   a8 PL ops Q rest (a.put o.dst (dO #[dv true,dt gl x.1,nD x])) w'):a8 PL ops Q (o::rest) a w:=by
 refine a9 hg λF hK'=>?_;unfold Oper.wp
 rcases run_next_at (P:=PL) w o.type r b R.length R.length seen (gi R) R.length g c.map (λx B=>by
  obtain⟨j,y,d,rfl⟩:=A5 B
  exact(List.getElem?_eq_some_iff.1 d).1) (bC _) with⟨hl,l⟩|⟨e,m,w1,h,l⟩
 .simp[aI,t,u,l,fl];refine hK' _ _ (A λj d=>?_);have f:Cx j R[j]∉leftOf (gi R) seen:=by rw[Array.eq_empty_of_size_eq_zero hl];simp
  have C:Cx j R[j]∈gi R:=by
   simp only[gi,List.mem_toArray,ei];exact⟨j,d,rfl⟩
  simp only[leftOf,e6,not_and]at f;have:=f C;simpa[Cx]using this
 .have n:e∈(gi R).toList/\seen.contains e.born=false:=by
   simp only[leftOf,Array.mem_toList_iff,e6]at m;exact⟨Array.mem_toList_iff.2 m.1,by simpa using m.2⟩
  obtain⟨j,x,d,rfl⟩:=A5 n.1;have hs:seen.contains j=false:=n.2;simp[aI,t,u,l,fl];have p:=cd g
  have q:w1.heap=w.heap:=by rcases h with rfl|rfl<;>rfl
  have D:b≠r:=by rintro rfl;have i:=c.map;have f:w.heap[b]?=_:=g;rw[i]at f;cases f
  have s:gv w (setBlock w1 r (ge (some b) R.length (seen.push j) R.length)) r:=by
   refine⟨by rcases h with rfl|rfl<;>rfl,by rcases h with rfl|rfl<;>rfl,by rcases h with rfl|rfl<;>rfl,by simp[setBlock,q],λk E=>?_⟩;show(w1.heap.setIfInBounds r _)[k]?=_;rw[q,eW (Ne.symm E)]
  have v:tE (setBlock w1 r (ge (some b) R.length (seen.push j) R.length)) r b R.length (seen.push j):=by
   show(w1.heap.setIfInBounds r _)[r]?=_;rw[q];simp[p]
  have z:jy (setBlock w1 r (ge (some b) R.length (seen.push j) R.length)) b R:=⟨(s.block _ D).trans c.map,λy hy=>jN (c.reads y hy) (c.ne y hy) s g (λ_ _ _ e=>by cases e),c.ne⟩
  refine hK' _ _ (i j x _ d hs v s z ?_);exact run_entry_at _ r b R.length seen (gi R) R.length (Cx j x) v z.map n.1 (by rw[ag6];exact List.nodup_range)
def tF{ops:Array ai}{rest:List ai}{o:ai}{a:Act}{Q:Exit->Act->ac->Prop}(w:ac)(hg:o.guard=none)(m x v:aF)(c:o.op=Op.mapUpdate 113 m x v\/o.op=Op.insert 113 m x v)(b:Nat)(R:List WE)(y:WE)
 (d:a.eval m=dT (some b)) (e:a.eval x=dt gl y.1) (hv:a.eval v=nD y) (h:jy w b R) (hy:R.find? (λz=>z.1==y.1)=none) (f:bB w y.2.1 y.2.2.1) (g:y.2.2.1≠[])
 (i:∀w',jy w' b (R++[y])->gv w w' b->a8 PL ops Q rest (a.put o.dst undef) w'):a8 PL ops Q (o::rest) a w:=by
 refine a9 hg λn hK'=>?_;obtain⟨w',j,k,l⟩:=h.put hy f g;unfold Oper.wp
 rcases c with c|c<;>
 .simp[aI,c,d,e,hv,j,fl];exact hK' _ _ (i w' k l)
abbrev SW:=List (Int×List Int×Int)
def V6(b:List Int)(a:Int)(q:Nat):Bool:=decide ((q:Int)∈b)||(decide ((zU q).1≠a)&&decide ((zU q).2.1≠a))
def XN(a:Int)(q:Nat):Int:=(zU q).1+(zU q).2.1-a
def stepW(b c:List Int)(a:Int)(S:SW)(q:Nat):SW:=if V6 b a q then S else if XN a q∈c then S else match S.find? (λx=>x.1==a) with
 |none=>S
 |some x=>S++[(XN a q,x.2.1++[XN a q],x.2.2+(zU q).2.2)]
def N0(a b:List Int)(c:Int)(S:SW):Nat->SW
 |0=>S
 |q+1=>stepW a b c (N0 a b c S q) q
def okQ(b c:List Int)(a:Int)(S:SW):Bool:=(eh 4).all λq=>match(N0 b c a S q).find? (λx=>x.1==a) with
 |none=>false
 |some x=>decide (x.2.1.length<=10)&&decide (0<=x.2.2)&&decide (x.2.2<=1000)&&(V6 b a q||decide (XN a q∈c)||((N0 b c a S q).find? λx=>x.1==XN a q).isNone)
def strip(x:WE):Int×List Int×Int:=(x.1,x.2.2)
def nE{R:List WE}{S:SW}(h:R.map strip=S)(k:Int):S.find? (λx=>x.1==k)=(R.find? λx=>x.1==k).map strip:=by
 rw[<-h,List.find?_map];rfl
end Go.Proofs
namespace Go.Proofs
open Go.RowKit Go.Shelf
attribute [local go_sem] Oper.semAt_some
set_option maxHeartbeats 1000000
def ao6(C:CD)(w:ac)(j:Nat)(vs:Nat->aa)(W:ac):Prop:=
 (j=10->∃k,vs 10=du (some ⟨k,0,none⟩)/\w.heap.size<k/\Six W k)/\(j=11->∃k,vs 10=du (some ⟨k,0,none⟩)/\w.heap.size<k/\W.heap[k]?=some (f9 C.val 91))
def yZ(m:Int)(p:Nat):Int:=kU je p m 2 0 false
def uN(m:Int)(p:Nat):List Int:=((eh p).filter λq=>yZ m q != 2).map fun(q:Nat)=>(q:Int)+1
def IL{m:Int}{p:Nat}(h:yZ m p=2):uN m (p+1)=uN m p:=by
 simp[uN,ej,ek,h]
def IM{m:Int}{p:Nat}(h:yZ m p≠2):uN m (p+1)=uN m p++[(p:Int)+1]:=by
 simp[uN,ej,ek,h]
def V7{m:Int}{p:Nat}:(p:Int)+1∉uN m p:=by
 simp only[uN,em,List.mem_filter,ep,not_exists,not_and,and_imp];intro q a _ e;omega
abbrev zn:Int->aa:=λn=>dt gl n
structure KQ(C:CD)(w:ac)(kx kt:Nat)(W:ac):Prop where
 box:W.heap[w.heap.size]?=some (f9 C.val 27)
 bx:W.heap[kx]?=some (f9 C.val 91)
 row:Row W kt (je.map bh)
 low:bA w W
def KQ.on{C:CD}{w W b:ac}{c d:Nat}(h:KQ C w c d W)(a:bA W b):KQ C w c d b:=
 ⟨(a.block _ (cd h.box)).trans h.box,(a.block _ (cd h.bx)).trans h.bx,h.row.on a,df h.low a⟩
def KQ.turned{C:CD}{w W l:ac}{m i b:Nat}{o:Obj}(h:KQ C w m i W)(d:gv W l b)(hb:W.heap[b]?=some o)(n:∀c t f,o≠f9 c t f)(q:w.heap.size<=b):KQ C w m i l:=by
 have p:∀{k:Nat}{c:Array aa}{t:ag}{f:Nat×Nat},W.heap[k]?=some (f9 c t f)->k≠b:=λ{k c t f}e g=>by
  rw[g,hb]at e;cases e;exact n _ _ _ rfl
 refine⟨(d.block _ (p h.box)).trans h.box,(d.block _ (p h.bx)).trans h.bx,⟨by rw[d.size];exact h.row.1,λj v e=>(d.cell (a:=⟨i,j,none⟩) λg=>?_).trans (h.row.2 j v e)⟩,h.low.trans (d.below q)⟩;have:=h.row.2 j v e;simp only at g;subst g;simp only[dU,hb]at this
 cases o with
 |cells c t f=>exact n c t f rfl
 |_=>simp at this
def Sy:Ir je:=by
 have h:∀j,j<75->-10000<=je.getD j 0/\je.getD j 0<=10000:=ao;have k:∀j,¬j<75->je.getD j 0=0:=λj a=>by
  rw[eq,List.getElem?_eq_none (by show je.length<=j;have:je.length=75:=rfl;omega)];rfl
 exact⟨rfl,λj=>by by_cases a:j<75;exact(h j a).1;rw[k j a];decide,λj=>by by_cases a:j<75;exact(h j a).2;rw[k j a];decide⟩
def Sz(C:CD)(k p:Nat)(m:Int)(w:ac)(a:Row w k (je.map bh))(b:C.n5=2)(c:p<5) :
 ad PL 46 #[dC C.val,du (some ⟨k,0,none⟩),dt gl p,dt gl m] w (aO (dt gl (yZ m p)) w):=by
 have h:=Fa C k p m je Sy w a ab c;have e:kU je p m C.n5 0 false=yZ m p:=by rw[b];rfl
 rw[e]at h;exact h
def XO(m:Int):List Int:=if m=5 then[2,3,0] else[]
def A6(m:Int):Int:=if m=5 then 110 else 0
def SC(m:Int):Bool:=decide (m=5)
def zb(m:Int):Nat:=if m=5 then 2 else 1
def Ln(m:Int)(i:Nat):SW:=if i=0 then[(2,[2],0)] else if m=5 then(if i=1 then[(2,[2],0),(3,[2,3],30)] else[(2,[2],0),(3,[2,3],30),(0,[2,3,0],110)]) else[(2,[2],0)]
def tP(_:Int)(i:Nat):List Int:=if i=0 then[] else if i=1 then[2] else[2,3]
def stA(m:Int)(i:Nat):Int:=if i=0 then 2 else if m=5 then(if i=1 then 3 else 0) else -1
def V8{m:Int}(b:m=5\/m=3){i:Nat}(hi:i<=zb m):(∀j x,(Ln m i)[j]?=some x->x.1∉tP m i->x.1=stA m i/\j=i)/\(stA m i = -1\/∃x,(Ln m i)[i]?=some x/\x.1∉tP m i):=by
 rcases b with rfl|rfl
 .obtain rfl|rfl|rfl:i=0\/i=1\/i=2:=by have:zb 5=2:=rfl;omega
  .exact⟨λj x h _=>by match j,h with
    |0,h=>cases h;exact⟨rfl,rfl⟩,gj ⟨_,rfl,ao⟩⟩
  .exact⟨λj x h a=>by match j,h with
    |0,h=>cases h;exact absurd ao a
    |1,h=>cases h;exact⟨rfl,rfl⟩,gj ⟨_,rfl,ao⟩⟩
  .exact⟨λj x h a=>by match j,h with
    |0,h=>cases h;exact absurd ao a
    |1,h=>cases h;exact absurd ao a
    |2,h=>cases h;exact⟨rfl,rfl⟩,gj ⟨_,rfl,ao⟩⟩
 .obtain rfl|rfl:i=0\/i=1:=by have:zb 3=1:=rfl;omega
  .exact⟨λj x h _=>by match j,h with
    |0,h=>cases h;exact⟨rfl,rfl⟩,gj ⟨_,rfl,ao⟩⟩
  .exact⟨λj x h a=>by match j,h with
    |0,h=>cases h;exact absurd ao a,gg rfl⟩
def uO{R:List WE}{S:SW}(h:R.map strip=S){j:Nat}{x:WE}(a:R[j]?=some x):S[j]?=some (strip x):=by rw[<-h,et,a];rfl
def SD{m:Int}(j:m=5\/m=3){i:Nat}(hi:i<=zb m)(a:stA m i<=0){W:ac}{b:Nat}{R:List WE}(f:R.map strip=Ln m i)(h:jy W b R) :
 ∃p n c,(eQ 113 (dT (some b)) (dt gl 0) true).run PL W=fm (dO #[dC #[dL p n c,dt gl (A6 m)],dv (SC m)]) W/\bB W (dL p n c) (XO m):=by
 rcases j with rfl|rfl
 .obtain rfl:i=2:=by
   have k:zb 5=2:=rfl
   match i,a with
   |0,a=>exact absurd a ao
   |1,a=>exact absurd a ao
   |2,_=>rfl
   |i+3,_=>omega
  have hf:=nE f 0
  cases e:R.find? (λx=>x.1==0) with
  |none=>rw[e]at hf;cases hf
  |some x=>
   rw[e]at hf;have d:some ((0:Int),[(2:Int),3,0],(110:Int))=some (strip x):=hf;obtain⟨x1,x2,x3,x4⟩:=x;simp only[strip,fo,Prod.mk.injEq]at d;obtain⟨rfl,rfl,rfl⟩:=d;have g:=h.reads _ (eu e);have hl:=Sw h.map e;simp only[nD]at hl;have l:bB W x2 [2,3,0]:=g;obtain⟨p,c,rfl,_⟩:=l;exact⟨p,_,c,hl,g⟩
 .obtain rfl:i=1:=by
   have k:zb 3=1:=rfl
   match i,a with
   |0,a=>exact absurd a ao
   |1,_=>rfl
   |i+2,_=>omega
  have hf:=nE f 0;have e:R.find? (λx=>x.1==0)=none:=by
   cases e:R.find? (λx=>x.1==0) with
   |none=>rfl
   |some x=>rw[e]at hf;cases hf
  exact⟨none,0,0,Sx h.map e,⟨none,0,rfl,bp⟩⟩
def V9{m:Int}{i:Nat}(b:(∀j x,(Ln m i)[j]?=some x->x.1∉tP m i->x.1=stA m i/\j=i)/\(stA m i = -1\/∃x,(Ln m i)[i]?=some x/\x.1∉tP m i)){R:List WE}(c:R.map strip=Ln m i){seen:Array Nat}{f:Bool}{u:aa}
 (hv:u=dt gl (if f then stA m i else -1)) (hf:f=true↔∃j x,R[j]?=some x/\seen.contains j=true/\x.1∉tP m i) (al:∀j,j<R.length->seen.contains j=true):u=dt gl (stA m i):=by
 rw[hv]
 rcases b.2 with h|⟨x,a,d⟩
 .cases f<;>simp[h]
 .have:f=true:=by
   rw[<-c,et]at a
   cases e:R[i]? with
   |none=>rw[e]at a;cases a
   |some y=>
    rw[e]at a;cases a;exact hf.2 ⟨i,y,e,al i (List.getElem?_eq_some_iff.1 e).1,d⟩
  rw[this];rfl
def ab2{m:Int}{i:Nat}(a:(∀j x,(Ln m i)[j]?=some x->x.1∉tP m i->x.1=stA m i/\j=i)/\(stA m i = -1\/∃x,(Ln m i)[i]?=some x/\x.1∉tP m i))(d:0<stA m i):stA m i∉tP m i:=by
 rcases a.2 with h|⟨x,c,b⟩
 .omega
 .rw[<-(a.1 i x c b).1];exact b
def jy.turned{W a:ac}{b c:Nat}{R:List WE}(h:jy W b R)(d:gv W a c)(hc:∃o,W.heap[c]?=some o/\∀x t f,o≠f9 x t f)(g:b≠c):jy a b R:=by
 obtain⟨o,i,j⟩:=hc;exact⟨(d.block _ g).trans h.map,λx e=>jN (h.reads x e) (h.ne x e) d i j,h.ne⟩
def Lo{m:Int}(b:m=5\/m=3){i:Nat}(hi:i<=zb m)(a:0<stA m i):i+1<=zb m/\tP m i++[stA m i]=tP m (i+1)/\N0 (uN m 3) (tP m (i+1)) (stA m i) (Ln m i) 4=Ln m (i+1)/\okQ (uN m 3) (tP m (i+1)) (stA m i) (Ln m i)=true/\stA m i<=3:=by
 rcases b with rfl|rfl
 .obtain rfl|rfl|rfl:i=0\/i=1\/i=2:=by have:zb 5=2:=rfl;omega
  .exact⟨ao,ao,by decide +kernel,by decide +kernel,ao⟩
  .exact⟨ao,ao,by decide +kernel,by decide +kernel,ao⟩
  .exact absurd a ao
 .obtain rfl|rfl:i=0\/i=1:=by have:zb 3=1:=rfl;omega
  .exact⟨ao,ao,by decide +kernel,by decide +kernel,ao⟩
  .exact absurd a ao
def ab3{c d:List Int}{a:Int}{S:SW}(h:okQ c d a S=true){q:Nat}(f:q<4):∃x,(N0 c d a S q).find? (λx=>x.1==a)=some x/\x.2.1.length<=10/\0<=x.2.2/\x.2.2<=1000/\(V6 c a q=false->XN a q∉d->(N0 c d a S q).find? (λx=>x.1==XN a q)=none):=by
 simp only[okQ,List.all_eq_true,ep]at h;have h:=h q f
 cases e:(N0 c d a S q).find? (λx=>x.1==a) with
 |none=>rw[e]at h;cases h
 |some x=>
  rw[e]at h;simp only[ft,fA,decide_eq_true_eq,Option.isNone_iff_eq_none]at h;obtain⟨⟨⟨g,i⟩,j⟩,b⟩:=h;refine⟨x,rfl,g,i,j,λk1 k2=>?_⟩
  rcases b with(b|b)|b
  .rw[k1]at b;cases b
  .exact absurd b k2
  .exact b
def Ft(W:ac)(r:Nat):Nat:=match W.heap[r]? with
 |some (ge _ n seen _)=>Fs n seen
 |_=>0
def Fu{W:ac}{r b n:Nat}{seen:Array Nat}(h:tE W r b n seen):Ft W r=Fs n seen:=by
 have a:W.heap[r]?=some (ge (some b) n seen n):=h;simp only[Ft,a]
def tE.on{W a:ac}{r b n:Nat}{seen:Array Nat}(h:tE W r b n seen)(c:bA W a):tE a r b n seen:=(c.block _ (cd h)).trans h
def ab4(W:ac)(b:Nat):Nat:=match W.heap[b]? with
 |some (gc es _)=>es.size
 |_=>0
def Fv{W:ac}{b:Nat}{l:List Int}(h:aU W zn b l):ab4 W b=l.length:=by
 obtain⟨es,c,a,d,_⟩:=h;have:=congrArg List.length d;simp only[ab4,a];simpa using this
structure Wb(n0:Nat)(xp:List Int)(tq n:Int)(b:Bool)(j:Nat)(vs:Nat->aa)(W:ac):Prop where
 c4:j=4->b=false->eO 3 W n0 (vs 4) xp
 c6:j=6->b=false->∃k,vs 6=dL (some ⟨k,0,none⟩) 1 1/\W.heap[k]?=some (f9 #[dt gl tq] 3)
 c7:j=7->eO 3 W n0 (vs 7) (xp++[tq])
 c15:j=15->vs 15=dC #[vs 7,dt gl n]
 c16:j=16->∃k,vs 16=du (some ⟨k,0,none⟩)/\n0<=k/\W.heap[k]?=some (f9 #[dL none 0 0,dt gl 0] 112)
def zc(a b:aa)(W:ac):(eT 112 (dC #[a,b]) 0).run PL W=fm a W:=ae
def ze(a b:aa)(W:ac):(eT 112 (dC #[a,b]) 1).run PL W=fm b W:=ae
def A8{W:ac}{base e size n B o:Nat}{v u:aa}{xs:List aa}(h:W.ownsRow base e size v n xs)(c:∀j,v.ownBlock=some j->j≠B):(W.setCell ⟨B,o,none⟩ u).ownsRow base e size v n xs:=by
 obtain⟨b,h⟩:=h
 rcases h with h|⟨g,cap,a,rfl,hb,hg,d⟩
 .exact⟨b,gg h⟩
 .refine⟨b,gj ⟨g,cap,a,rfl,hb,?_,d⟩⟩;have f:g≠B:=c g rfl;simp only[d9,fb,if_neg (Ne.symm f)];exact hg
def Wc{W:ac}{r:Nat}{x0 x1 u0 u1:aa}{t:ag}(h:W.heap[r]?=some (f9 #[x0,x1] t)):((W.setCell ⟨r,0,none⟩ u0).setCell ⟨r,1,none⟩ u1).heap[r]?=some (f9 #[u0,u1] t):=by
 simp only[d9,fb,if_pos,h,Option.map_some];rfl
def SE{W:ac}{b:Nat}{R:List WE}(h:jy W b R)(k:Int):∃p n c l ok,(eQ 113 (dT (some b)) (dt gl k) true).run PL W=fm (dO #[dC #[dL p n c,dt gl l],dv ok]) W/\(R.find? (λz=>z.1==k)=none->ok=false):=by
 cases e:R.find? (λz=>z.1==k) with
 |none=>exact⟨none,0,0,0,false,Sx h.map e,λ_=>rfl⟩
 |some x=>
  obtain⟨p,c,a,_⟩:=h.reads _ (eu e);have:=Sw h.map e;simp only[nD,a]at this;exact⟨p,_,c,_,true,this,bs⟩
def ExW(t:Nat):Bool:=t != 4&&t != 6&&t != 7&&t != 15&&t != 16
def Wb.le{n0:Nat}{d:List Int}{g n:Int}{b:Bool}{j:Nat}{vs:Nat->aa}{W i:ac}(h:Wb n0 d g n b j vs W)(c:bA W i):Wb n0 d g n b j vs i:=
 ⟨λe f=>(h.c4 e f).on c,λe f=>(h.c6 e f).imp λ_ a=>⟨a.1,(c.block _ (cd a.2)).trans a.2⟩,λe=>(h.c7 e).on c,h.c15,λe=>(h.c16 e).imp λ_ a=>⟨a.1,a.2.1,(c.block _ (cd a.2.2)).trans a.2.2⟩⟩
def Ba{k2 c2 k3 c3 k4 c4 k5 c5 la ca lb cb:Nat}(C:CD)(m:Int)(hm:m=5\/m=3)(c:C=ir k2 c2 k3 c3 k4 c4 k5 c5 la ca lb cb 0)(w:ac)(h:C.At w) :
 ad PL 22 #[dC C.val,dt gl 2,dt gl m] w λe w'=>∃v,e=gf (dO #[v,dt gl (A6 m),dv (SC m),dt gl 0])/\bB w' v (XO m)/\bA w w':=by
 have HA:=cf h;have HC:=cf c;have HM:=cf hm;have hf:C.b6 true=0:=by rw[c];kernel_rfl
 have HF:=cf hf;have hb:bO 2 0 (C.p-1)=true:=by rw[c];rfl
 have HB:=cf hb
 have eP:bO m 0 999=true:=by rcases hm with rfl|rfl<;>decide
 have Kf:=cf eP;have HT:Hid (∀W,C.At W->ad PL 45 #[dC C.val] W λe w'=>∃k,e=gf (du (some ⟨k,0,none⟩))/\Row w' k (je.map bh)/\bA W w'):=cf λW hW=>tA (gg rfl) ⟨k2,c2,k3,c3,k4,c4,k5,c5,la,ca,lb,cb,c⟩ hW;have HP:Hid (-1000<=C.p/\C.p<=1000):=cf (by rw[c];exact⟨by show(-1000:Int)<=4;decide,by show(4:Int)<=1000;decide⟩);have K0:Hid (KB C w (w.alloc (f9 C.val 27))):=cf ⟨au _ _,(eM _ _).alloc (bC _) _⟩;clear h c hf hb eP hm;go_enter (fx ao Tryz.func22),Tryz.ntmps22
 go_upto_region 1 with fail
 have HW:Hid (IntKind.i64.wrap (C.p-1)=C.p-1):=cf (by obtain⟨J0,tL⟩:=HP.out;rw[HC.out];rfl);apply wp_scope_straight;apply wp_seq_k;intro _ _;refine cT 12 (KB C w) (Fo C) (λj=>j != 10&&j != 11) (ao6 C w) rfl ae ae
  (λi vs W W' hle h=>⟨λe=>(h.1 e).imp λk l=>⟨l.1,l.2.1,(hle k).2 l.2.2⟩,λe=>(h.2 e).imp λk l=>⟨l.1,l.2.1,(hle k).1 l.2.2⟩⟩) (λi o ho vs eX W he hd h=>⟨λe=>?_,λe=>?_⟩) ?_ ?_
 .subst e;rw[<-he];exact h.1 rfl
 .subst e;have e8:vs 10=eX 10:=by
   simp only[eA,eD,eE,fo]at ho;subst ho;exact hd ⟨10,.data⟩ (cH.2 ⟨ar,rfl⟩)
  rw[<-e8];exact h.2 rfl
 .exact⟨K0.out.box,K0.out.low.drew⟩
 .iterate 10 (
   apply aY
   case hE=>rfl
   case h=>
    intro vs W c hd;obtain⟨f0,f1,f2,f3,f4,f5⟩:=bf c.box;have hwr:=HW.out;go_simp
    first
    |(go_at_call 34;refine(rM HB.out _).mono ?_;rintro e W'⟨rfl,rfl⟩;exact⟨_,rfl,rfl,c,Fo.on (eM _ _)⟩)
    |(go_at_call 36;refine(kF HF.out (HA.out.below c.low)).mono ?_;rintro e W'⟨rfl,I⟩;exact⟨_,rfl,rfl,c.on I,Fo.on I⟩)
    |exact⟨rfl,Fo.on (eM _ _)⟩
   case hb=>exact H9)
  apply eH
  case hE=>rfl
  case hb=>exact H9
  case h=>
   intro vs W c hd;go_simp;have I:=(eM W.heap.size W).alloc (bC _) (f9 #[dt gl 0,dt gl 0,dL none 0 0,dL none 0 0,dL none 0 0,dL none 0 0] 91);exact⟨c.on I,Fo.on I,⟨λ_=>⟨W.heap.size,by simp[upd],c.lt,_,_,_,_,_,_,au W _⟩,bp⟩⟩
  apply eH
  case hE=>rfl
  case hb=>exact H9
  case h=>
   intro vs W c hd;obtain⟨k,l,Ll,x0,x1,x2,x3,x4,x5,J⟩:=(hd ⟨10,.data⟩ (cH.2 ⟨ar,rfl⟩) rfl).1 rfl;obtain⟨f0,f1,f2,f3,f4,f5⟩:=bf J;have fz:=tO J;rw[l];go_simp;refine⟨⟨(cM ab).trans c.box,dk c.low ab _ _ _ _ _ _⟩,λq=>?_,⟨bp,λ_=>⟨k,by simp[upd,l],Ll,nC J⟩⟩⟩;by_cases hq:q=k
   .subst hq;exact⟨λ_=>nC J,λ_=>⟨_,_,_,_,_,_,nC J⟩⟩
   .exact⟨λe=>(cM hq).trans e,fun⟨_,_,_,_,_,_,e⟩=>⟨_,_,_,_,_,_,(cM hq).trans e⟩⟩
  refine cP λvs W c hd=>?_;obtain⟨kx,l,Ll,J⟩:=(hd 11 ab rfl).2 rfl;rw[l];obtain⟨f0,f1,f2,f3,f4,f5⟩:=bf J;have HX:=cf J;have HC1:=cf c;have HKL:=cf Ll;clear J c hd l Ll;have hmm:=@run_makeMap PL
  go_upto_region 8 with(first
   |(go_at_call 44;refine(yO Kf.out _).mono ?_;rintro e w'⟨rfl,rfl⟩)
   |(go_at_call 45;go_must (refine(HT.out _ (HA.out.below HC1.out.low)).mono ?_);rintro e w1⟨P,rfl,hR,aL⟩;have K1:Hid (KQ C w kx P w1):=cf ⟨(HC1.out.on aL).box,(aL.block _ (cd HX.out)).trans HX.out,hR,(HC1.out.on aL).low⟩;clear hR aL))
  obtain⟨N,hbM⟩:=br w1.heap.size;obtain⟨W0,kS⟩:=br (w1.alloc (gc #[] 0));have K2:Hid (KQ C w kx P W0):=cf (by rw[kS];exact K1.out.on ((eM _ _).alloc (bC _) _));have S2:Hid (aU W0 zn N ([]:List Int)):=cf (by rw[kS,hbM];exact aU.made w1);have ZM:Hid (w.heap.size<=N):=cf (by rw[hbM];exact K1.out.low.size);rw[<-kS,<-hbM];clear kS hbM f0 f1 f2 f3 f4 f5;obtain⟨f0,f1,f2,f3,f4,f5⟩:=bf K2.out.box;have IB:Hid (C.b3=some ⟨C.k3,C.o3,none⟩):=cf (HA.out.s3 (by rw[HC.out];show 0<4;decide));have H3:Hid (C.n3=4):=cf (by rw[HC.out];rfl);have HX3:Hid (C.x3=zU):=cf (by rw[HC.out];rfl);have H4:Hid (C.n4=3):=cf (by rw[HC.out];rfl);have H5:Hid (C.n5=2):=cf (by rw[HC.out];rfl);have hb4:C.b4=some ⟨C.k4,C.o4,none⟩:=HA.out.s4 (by rw[H4.out];decide);have LN:Hid (∀p,p<2->(C.x4 p).ln=1/\(C.x4 p).lane 0=(p:Int)+1):=cf λp hp=>by
   rw[HC.out]
   match p,hp with
   |0,_=>exact⟨rfl,rfl⟩
   |1,_=>exact⟨rfl,rfl⟩
  have SH:Hid (yZ m 2=2):=cf (by rcases HM.out with rfl|rfl<;>rfl);go_wp2
  go_loopw [51] (λv51 wr=>∃p:Nat,p<=3/\v51=dt gl p/\aU wr zn N (uN m p)/\KQ C w kx P wr) (λv51 _=>3-(intOf v51).toNat)
  case atStart=>exact⟨0,ab,rfl,S2.out,K2.out⟩
  case round=>
   obtain⟨p,hp,rfl,g,O⟩:=hrel;clear hb4;have HS:=cf g;have HK:=cf O;clear g O f0 f1 f2 f3 f4 f5 K2 S2;by_cases Q:p<3
   .have i1:(p:Int)<C.n4:=by rw[H4.out];omega
    have hA:=HA.out.below HK.out.low;have s:p<C.n4:=by rw[H4.out];exact Q
    have p0:=hA.AD p s;have p1:=hA.dB p s 1 ab ab;have p2:=hA.dB p s 2 ab ab;have p3:=hA.dB p s 3 ab ab;have p4:=hA.dB p s 4 ab ab;have p5:=hA.dB p s 5 ab ab;have p6:=hA.dB p s 6 ab ab;have p7:=hA.dB p s 7 ab ab;have p8:=hA.dB p s 8 ab ab;have p9:=hA.dB p s 9 ab ab;have Cz:=hA.dB p s 10 ab ab;have Fy:=hA.nj p s;clear hA s;obtain⟨xb,hxb⟩:=br ((C.x4 p).lb);obtain⟨xn,hxn⟩:=br ((C.x4 p).ln);obtain⟨xc,hxc⟩:=br ((C.x4 p).lc);rw[<-hxb,<-hxn,<-hxc]at Fy;have HXB:=cf hxb;have HXN:=cf hxn;clear hxb hxn hxc
    go_upto_region 11 with fail
    obtain⟨W1,mG⟩:=br (wr.alloc (f9 #[.string (C.x4 p).name,dt gl ((C.x4 p).n 1),dt gl ((C.x4 p).n 2),dt gl ((C.x4 p).n 3),dt gl ((C.x4 p).n 4),dt gl ((C.x4 p).n 5),dt gl ((C.x4 p).n 6),dt gl ((C.x4 p).n 7),dt gl ((C.x4 p).n 8),dt gl ((C.x4 p).n 9),dt gl ((C.x4 p).n 10),dL xb xn xc] 82));rw[<-mG];have iC:bA wr W1:=by rw[mG];exact(eM _ _).alloc (bC _) _
    have hpk:W1.cell? ⟨wr.heap.size,11,none⟩=some (dL xb xn xc):=by
     have h:=au wr (f9 #[.string (C.x4 p).name,dt gl ((C.x4 p).n 1),dt gl ((C.x4 p).n 2),dt gl ((C.x4 p).n 3),dt gl ((C.x4 p).n 4),dt gl ((C.x4 p).n 5),dt gl ((C.x4 p).n 6),dt gl ((C.x4 p).n 7),dt gl ((C.x4 p).n 8),dt gl ((C.x4 p).n 9),dt gl ((C.x4 p).n 10),dL xb xn xc] 82);rw[mG];simp only[dU,h];rfl
    have Wf:wr.heap.size<W1.heap.size:=by rw[mG];simp
    have HPK:=cf (fB hpk Wf);have K3:=cf (HK.out.on iC);have S3:=cf (aG iC HS.out);clear mG iC hpk Wf p0 p1 p2 p3 p4 p5 p6 p7 p8 p9 Cz Fy;obtain⟨f0,f1,f2,f3,f4,f5⟩:=bf K3.out.bx;by_cases hs:yZ m p=2
    .go_wp2_with (go_at_call 46;go_must (refine(Sz C P p m _ K3.out.row H5.out ab).mono ?_);rintro e w3⟨rfl,qi⟩;have K4:=cf (K3.out.on qi);have S4:=cf (aG qi S3.out);clear qi)
     exact⟨⟨p+1,Q,by go_num,by rw[IL hs];exact S4.out,K4.out⟩,by simp only[intOf];omega⟩
    .have d:p<2:=by
      rcases bL p 2 with h|h
      .exact h
      .exact absurd (by rw[show p=2 by omega];exact SH.out) hs
     have zi:xn=1:=by rw[HXN.out];exact(LN.out p d).1
     subst zi
     go_upto_region 12 with(go_at_call 46;go_must (refine(Sz C P p m _ K3.out.row H5.out ab).mono ?_);rintro e w3⟨rfl,qi⟩;have K4:=cf (K3.out.on qi);have S4:=cf (aG qi S3.out);have am6:=cf ((qi.cell (p:=⟨wr.heap.size,11,none⟩) HPK.out.2).trans HPK.out.1);clear qi)
     have hA:=HA.out.below K4.out.low;have s:p<C.n4:=by rw[H4.out];exact Q
     obtain⟨el,ell⟩:=hA.l4 p s (by rw[<-HXN.out];decide);have ec:=hA.J5 p s 0 (by rw[<-HXN.out];decide);rw[(LN.out p d).2,bM]at ec;obtain⟨lk,FH⟩:=br ((C.x4 p).lk);obtain⟨lo,Cu⟩:=br ((C.x4 p).lo);rw[<-FH,<-Cu]at ec;rw[<-FH]at ell;rw[<-HXB.out,<-FH,<-Cu]at el;subst el;have EC:=cf ec;have ELL:=cf ell;have atU:=am6.out;clear hA s ec ell FH Cu;go_wp2
     go_loopw [65] (λv65 K=>∃q:Nat,q<=1/\v65=dt gl q/\aU K zn N (if q=0 then uN m p else uN m p++[(p:Int)+1])/\KQ C w kx P K/\(q=0->K.cell? ⟨lk,lo,none⟩=some (dt gl ((p:Int)+1)))) (λv65 _=>1-(intOf v65).toNat)
     case atStart=>exact⟨0,ab,rfl,S4.out,K4.out,λ_=>EC.out⟩
     case round=>
      obtain⟨q,hq,rfl,g,O,hc⟩:=hrel;have S5:=cf g;have K5:=cf O;clear g O
      match q,hq with
      |1,_=>
       clear hc;go_wp2;exact⟨⟨p+1,Q,by go_num,by rw[IM hs];exact S5.out,K5.out⟩,by simp only[intOf];omega⟩
      |0,_=>
       have ec:=hc rfl;clear hc
       go_wp2_with (at_mapUpdate;go_must (refine dH (enc:=zn) _ rfl _ _ _ 110 3 4 rfl qz ju N (uN m p) rfl S5.out ((p:Int)+1) rfl rfl V7 ?_);intro w5 g y;have S6:=cf g;have K6:=cf (by obtain⟨es,cl,hh,_⟩:=S5.out;exact K5.out.turned y hh (λ_ _ _ e=>by cases e) ZM.out:KQ C w kx P w5);clear g y;go_frame)
       exact⟨⟨1,ab,rfl,S6.out,K6.out,bp⟩,by simp[intOf]⟩
   .have hp3:p=3:=ab;subst hp3;have i1:¬((3:Int)<C.n4):=by rw[H4.out];decide
    clear Q;have ag8:=aU.lt HS.out;have HSZ:=cf ag8;have hBa:=((eM wr.heap.size wr).alloc (bC _) (gc #[] 0)).alloc ar (f9 #[dt gl 2] 3);have M0:Hid (jy ((wr.alloc (gc #[] 0)).alloc (f9 #[dt gl 2] 3)) wr.heap.size []):=cf ((jy.made wr).on ((eM _ _).alloc (bC _) _))
    have R0:Hid (bB ((wr.alloc (gc #[] 0)).alloc (f9 #[dt gl 2] 3)) (dL (some ⟨wr.heap.size+1,0,none⟩) 1 1) [2]):=cf ⟨_,_,rfl,λ_=>⟨_,_,rfl,ar,λj H=>by
     obtain rfl:j=0:=by simp at H;omega
     have h:=au (wr.alloc (gc #[] 0)) (f9 #[dt gl 2] 3);rw[d8]at h;show dU _ ⟨wr.heap.size+1,0+0,none⟩=some (dt gl 2);simp only[dU,h]
     rfl⟩⟩
    have KA:=cf (HK.out.on hBa);have SA:=cf (aG hBa HS.out);clear hBa ag8
    go_upto_region 20 with(refine tF _ rfl _ _ _ (gj rfl) wr.heap.size [] (2,dL (some ⟨wr.heap.size+1,0,none⟩) 1 1,[2],0) rfl rfl rfl M0.out rfl R0.out ar ?_;intro w5 hM y;have MB:=cf hM;have KB5:=cf (KA.out.turned y M0.out.map (λ_ _ _ e=>by cases e) HK.out.low.size);have SB:=cf (fJ SA.out (y.block _ (by have:=HSZ.out;omega)));clear hM y)
    obtain⟨S,hbR⟩:=br wr.heap.size;obtain⟨T,hbL⟩:=br w5.heap.size;have ZR:Hid (N<S/\S<T):=cf (by have:=HSZ.out;have:=cd MB.out.map;rw[hbR,hbL];omega);obtain⟨W3,hW3⟩:=br (w5.alloc (gc #[] 0));have hBb:bA w5 W3:=by rw[hW3];exact(eM _ _).alloc (bC _) _
    have K6:=cf (KB5.out.on hBb);have S6:=cf (aG hBb SB.out);have M6:Hid (jy W3 S ([]++[(2,dL (some ⟨S+1,0,none⟩) 1 1,[2],0)])):=cf (by rw[hbR];exact MB.out.on hBb);have L6:Hid (aU W3 zn T ([]:List Int)):=cf (by rw[hbL,hW3];exact aU.made w5);rw[<-hbR,<-hbL,<-hW3];clear hbR hbL hW3 hBb MB SB KB5 M0 R0 KA SA HK HS HSZ;have FJ:=IB.out;simp only[FJ];refine wp_label ?_;go_wp2
    go_loopw [19] (λ_ wr=>∃(i:Nat)(R:List WE),i<=zb m/\R.map strip=Ln m i/\jy wr S R/\aU wr zn T (tP m i)/\aU wr zn N (uN m 3)/\KQ C w kx P wr) (λ_ wr=>4-ab4 wr T)
    case atStart=>exact⟨0,_,bR _,rfl,M6.out,L6.out,S6.out,K6.out⟩
    case round=>
     obtain⟨i,R,hi,hR,XP,hL,g,O⟩:=hrel;have Xn:=cf hR;have MM:=cf XP;have LL:=cf hL;have SS:=cf g;have KK:=cf O;have CO:=cf (V8 HM.out hi);have HI:=cf hi;clear hR XP hL g O hi K6 S6 M6 L6;have hrg:=V4 MM.out
     go_upto_region 22 with fail
     obtain⟨r,hr⟩:=br wr.heap.size;obtain⟨W4,Sn⟩:=br (wr.alloc (ge (some S) R.length #[] R.length));have Ts:bA wr W4:=by rw[Sn];exact(eM _ _).alloc (bC _) _
     have I4:Hid (tE W4 r S R.length #[]):=cf (by rw[Sn,hr];exact au _ _);have M4:=cf (MM.out.on Ts);have L4:=cf (aG Ts LL.out);have S4:=cf (aG Ts SS.out);have K4:=cf (KK.out.on Ts);have ZI:Hid (S<r/\T<r/\N<r/\w.heap.size<=r):=cf (by have h1:=cd MM.out.map;have d:=aU.lt LL.out;have h3:=aU.lt SS.out;have s:=KK.out.low.size;rw[hr];exact⟨h1,d,h3,s⟩);rw[<-Sn,<-hr];clear Sn hr Ts hrg MM SS KK
     go_loopw [19] (λv19 K=>∃(seen:Array Nat)(f:Bool),tE K r S R.length seen/\jy K S R/\aU K zn T (tP m i)/\aU K zn N (uN m 3)/\KQ C w kx P K/\v19=dt gl (if f then stA m i else -1)/\(f=true↔∃j x,R[j]?=some x/\seen.contains j=true/\x.1∉tP m i)) (λ_ K=>Ft K r)
     case atStart=>exact⟨#[],false,I4.out,M4.out,L4.out,S4.out,K4.out,rfl,⟨λh=>(by cases h),fun⟨_,_,_,h,_⟩=>by simp at h⟩⟩
     case round=>
      obtain⟨seen,f,hI,XP,hL,g,O,hv,hf⟩:=hrel;have I5:=cf hI;have M5:=cf XP;have L5:=cf hL;have S5:=cf g;have K5:=cf O;have F5:=cf hf;have V5:=cf hv;clear hI XP hL g O hf hv I4 M4 L4 S4 K4
      go_upto_region 23 with(first|(at_mapUpdate;go_must (refine dH (enc:=zn) _ rfl _ _ _ 110 3 4 rfl qz ju T (tP m i) rfl L5.out (stA m i) rfl rfl (ab2 CO.out ha) ?_);intro w6 g y;go_must (have LP:=cf g;have MP:=cf (M5.out.turned y (by obtain⟨es,cl,hh,_⟩:=L5.out;exact⟨_,hh,λ_ _ _ e=>by cases e⟩) (by have:=ZR.out;omega));have SP:=cf (fJ S5.out (y.block _ (by have:=ZR.out;omega)));have KP:Hid (KQ C w kx P w6):=cf (by obtain⟨es,cl,hh,_⟩:=L5.out;exact K5.out.turned y hh (λ_ _ _ e=>by cases e) (by have:=ZM.out;have:=ZR.out;omega)));clear g y;obtain⟨f0,f1,f2,f3,f4,f5⟩:=bf KP.out.box)|(at_next;go_must (refine zX _ rfl _ rfl r S R seen rfl I5.out M5.out ?_ ?_);rotate_left;intro j x w' H hs hI y OL hen;obtain⟨xk,xv,L,xl⟩:=x;have JJ:=cf H;have NS:=cf hs;have I6:=cf hI;have T6:=cf y;have M6:=cf OL;have hk6:=cd hI;obtain⟨yb,yc,hxv,hyy⟩:=OL.reads _ (List.mem_of_getElem? H);clear hyy;simp only at hxv;subst hxv;clear H hs hI y OL;simp only[nD]at hen ⊢;rotate_left;intro oh;go_must (have hu:=V9 CO.out Xn.out V5.out F5.out oh);clear oh;go_must (subst hu);rcases Int.lt_or_le 0 (stA m i) with ha|ha;rotate_left;go_must (obtain⟨fp,fn,fc,FH,hrd⟩:=SD HM.out HI.out ha Xn.out M5.out);have RD:=cf hrd;clear hrd))
      .obtain⟨W7,hW7⟩:=br (wr.alloc (f9 #[dL fp fn fc,dt gl (A6 m)] 112));have hB7:bA wr W7:=by rw[hW7];exact(eM _ _).alloc (bC _) _
       have hc7:W7.heap[wr.heap.size]?=some (f9 #[dL fp fn fc,dt gl (A6 m)] 112):=by rw[hW7];exact au _ _
       have c0:W7.cell? ⟨wr.heap.size,0,none⟩=some (dL fp fn fc):=by simp[dU,hc7]
       have c1:W7.cell? ⟨wr.heap.size,1,none⟩=some (dt gl (A6 m)):=by simp[dU,hc7]
       have RD7:=cf (RD.out.on hB7);have LO7:=cf (df K5.out.low hB7);rw[<-hW7];clear hW7 hB7 hc7 FH
       go_quiet (fail)
       go_wp2;rw[Exit.noGoto_ret];refine aJ (v:=dO #[dL fp fn fc,dt gl (A6 m),dv (SC m),dt gl 0]) ?_ rfl ⟨_,rfl,RD7.out.on (below_drewN (eM _ _) _),below_drewN LO7.out _⟩;simp[aP,Tryz.results22,go_sem]
      .go_upto_region 24 with fail
       have L6:aU w' zn T (tP m i):=fJ L5.out (T6.out.block _ (by have:=ZI.out;omega));have S6:aU w' zn N (uN m 3):=fJ S5.out (T6.out.block _ (by have:=ZI.out;omega));have K6:KQ C w kx P w':=K5.out.turned T6.out I5.out (λ_ _ _ e=>by cases e) ZI.out.2.2.2;obtain⟨W8,hW8⟩:=br (w'.alloc (f9 #[dL yb L.length yc,dt gl xl] 112));have U:bA w' W8:=by rw[hW8];exact(eM _ _).alloc (bC _) _
       have L8:=cf (aG U L6);have S8:=cf (aG U S6);have K8:=cf (K6.on U);have M8:=cf (M6.out.on U);have I8:=cf (I6.out.on U);rw[<-hW8];clear hW8 U L6 S6 K6 hen;have V:=uO Xn.out JJ.out;have XQ:Ft W8 r<Ft wr r:=by
        rw[Fu I8.out,Fu I5.out];exact IK (List.getElem?_eq_some_iff.1 JJ.out).1 NS.out
       have HME:=cf XQ;clear XQ;by_cases J:xk∈tP m i
       .clear V
        go_wp2_with (at_lookup;go_must (refine aR (enc:=zn) _ rfl _ _ 110 3 4 rfl qz ju (mq _) T (tP m i) rfl L8.out xk rfl true (by simpa using J) ?_))
        refine⟨⟨seen.push j,f,I8.out,M8.out,L8.out,S8.out,K8.out,V5.out,F5.out.trans ⟨fun⟨a,x,h1,d,h3⟩=>⟨a,x,h1,by simp at d⊢;exact gg d,h3⟩,fun⟨a,x,h1,d,h3⟩=>⟨a,x,h1,?_,h3⟩⟩⟩,HME.out⟩
        rcases Array.mem_push.1 (by simpa using d) with h|h
        .simpa using h
        .subst h;rw[JJ.out]at h1;cases h1;exact absurd J h3
       .have hat:xk=stA m i:=(CO.out.1 j _ V J).1;have LQ:j=i:=(CO.out.1 j _ V J).2;have hf0:f=false:=by
         cases f with
         |false=>rfl
         |true=>
          obtain⟨a,x,h1,d,h3⟩:=F5.out.1 rfl;have e:=(CO.out.1 a _ (uO Xn.out h1) h3).2;rw[e,<-LQ]at d;rw[NS.out]at d;cases d
        have hu:u19=dt gl (-1):=by rw[V5.out,hf0];rfl
        subst hu;clear V hf0 hat;have HX:=cf J
        go_wp2_with (at_lookup;go_must (refine aR (enc:=zn) _ rfl _ _ 110 3 4 rfl qz ju (mq _) T (tP m i) rfl L8.out xk rfl false (by simpa using J) ?_))
        have hat:xk=stA m i:=(CO.out.1 j _ (uO Xn.out JJ.out) HX.out).1;exact⟨⟨seen.push j,true,I8.out,M8.out,L8.out,S8.out,K8.out,by rw[hat];rfl,⟨λ_=>⟨j,_,JJ.out,ar,HX.out⟩,λ_=>rfl⟩⟩,HME.out⟩
      .obtain⟨ni,nl,nq,nk,na⟩:=Lo HM.out HI.out ha;rw[nl]at LP;have NQ:=cf nq;have NK:=cf nk;have NI:=cf ni;clear nl nq nk ni;obtain⟨E,ab6⟩:=br (stA m i);rw[<-ab6]at ha na NQ NK ⊢;have HAT:=cf ab6;clear ab6 f0 f1 f2 f3 f4 f5
       go_loopw [110] (λab7 K=>∃(q:Nat)(R':List WE),q<=4/\ab7=dt gl q/\R'.map strip=N0 (uN m 3) (tP m (i+1)) E (Ln m i) q/\jy K S R'/\aU K zn T (tP m (i+1))/\aU K zn N (uN m 3)/\KQ C w kx P K) (λab7 _=>4-(intOf ab7).toNat)
       case atStart=>exact⟨0,R,ab,rfl,Xn.out,MP.out,LP.out,SP.out,KP.out⟩
       case round=>
        obtain⟨q,R',hq,rfl,hR,XP,hL,g,O⟩:=hrel;have X:=cf hR;have M7:=cf XP;have L7:=cf hL;have S7:=cf g;have K7:=cf O;clear hR XP hL g O MP LP SP KP
        rcases bL q 4 with Q|ve
        case inr=>
         obtain rfl:q=4:=ab;have j1:¬((4:Int)<C.n3):=by rw[H3.out];decide
         go_wp2;refine⟨?_,?_⟩
         .exact⟨i+1,R',NI.out,X.out.trans NQ.out,M7.out,L7.out,S7.out,K7.out⟩
         .rw[Fv L7.out,Fv LL.out,<-(Lo HM.out HI.out (HAT.out▸ha)).2.1];have h5:(tP m i).length<=2:=by unfold tP;split;exact bR _;split;exact ao;exact ao
          simp;omega
        have j1:((q:Int)<C.n3):=by rw[H3.out];omega
        have hq3:q<C.n3:=by rw[H3.out];exact Q
        have hA:=HA.out.below K7.out.low;have g0:=hA.Es q hq3;have g1:=hA.Et q hq3;have g2:=hA.Eu q hq3;rw[HX3.out]at g0 g1 g2;obtain⟨A,hAe⟩:=br ((zU q).1);obtain⟨B,hBe⟩:=br ((zU q).2.1);obtain⟨G,hGe⟩:=br ((zU q).2.2);rw[<-hAe]at g0;rw[<-hBe]at g1;rw[<-hGe]at g2;have bd:0<=A/\A<=3/\0<=B/\B<=3/\0<=G/\G<=80:=by
         rw[hAe,hBe,hGe]
         match q,Q with
         |0,_=>decide
         |1,_=>decide
         |2,_=>decide
         |3,_=>decide
        obtain⟨bA0,bA1,bB0,bB1,bG0,bG1⟩:=bd;have EA:=cf hAe;have EB:=cf hBe;have EG:=cf hGe;clear hAe hBe hGe hA hq3
        go_upto_region 31 with fail
        obtain⟨M,hW9⟩:=br (wr.alloc (f9 #[dt gl A,dt gl B,dt gl G] 88));have hB9:bA wr M:=by rw[hW9];exact(eM _ _).alloc (bC _) _
        have P9:Hid (M.heap[wr.heap.size]?=some (f9 #[dt gl A,dt gl B,dt gl G] 88)):=cf (by rw[hW9];exact au _ _);have M9:=cf (M7.out.on hB9);have L9:=cf (aG hB9 L7.out);have S9:=cf (aG hB9 S7.out);have K9:=cf (K7.out.on hB9);rw[<-hW9];clear hW9 hB9 g0 g1 g2 M7 L7 S7 K7;have h0:M.cell? ⟨wr.heap.size,0,none⟩=some (dt gl A):=by have h:=P9.out;simp[dU,h]
        have h1:M.cell? ⟨wr.heap.size,1,none⟩=some (dt gl B):=by have h:=P9.out;simp[dU,h]
        have d:M.cell? ⟨wr.heap.size,2,none⟩=some (dt gl G):=by have h:=P9.out;simp[dU,h]
        have Wf:=cd P9.out;have skip:V6 (uN m 3) E q=true->R'.map strip=N0 (uN m 3) (tP m (i+1)) E (Ln m i) (q+1):=λe=>by rw[X.out,N0,stepW,if_pos e]
        have SK:=cf skip;clear skip;by_cases sB:(q:Int)∈uN m 3
        .go_wp2_with (at_lookup;go_must (refine aR (enc:=zn) _ rfl _ _ 110 3 4 rfl qz ju (mq _) N (uN m 3) rfl S9.out (q:Int) rfl true (by simpa using sB) ?_))
         exact⟨⟨q+1,R',Q,by go_num,SK.out (by simp[V6,sB]),M9.out,L9.out,S9.out,K9.out⟩,by simp only[intOf];omega⟩
        have HCL:=cf sB;clear sB;by_cases hs:A≠E/\B≠E
        .obtain⟨s1,s2⟩:=hs;have HS:=cf (fB s1 s2);have e1:(A != E)=true:=by simpa using s1
         have e2:(B != E)=true:=by simpa using s2
         clear s1 s2
         go_wp2_with (at_lookup;go_must (refine aR (enc:=zn) _ rfl _ _ 110 3 4 rfl qz ju (mq _) N (uN m 3) rfl S9.out (q:Int) rfl false (by simpa using HCL.out) ?_))
         exact⟨⟨q+1,R',Q,by go_num,SK.out (by have h:=HS.out;rw[EA.out,EB.out]at h;simp[V6,h]),M9.out,L9.out,S9.out,K9.out⟩,by simp only[intOf];omega⟩
        have NS:=cf hs
        have NSK:Hid (V6 (uN m 3) E q=false):=cf (by
         have h:=NS.out;rw[EA.out,EB.out]at h;have d:=HCL.out
         cases e:V6 (uN m 3) E q with
         |false=>rfl
         |true=>
          simp only[V6,fA,ft,decide_eq_true_eq]at e
          rcases e with e|e
          .exact absurd e d
          .exact absurd e h)
        have E12:((A != E)=false)\/((A != E)=true/\(B != E)=false):=by
         by_cases h:A=E
         .exact gg (by simpa using h)
         .exact gj ⟨by simpa using h,by have:B=E:=Classical.byContradiction λd=>hs ⟨h,d⟩;simpa using this⟩
        clear hs
        rcases E12 with e1|⟨e1,e2⟩
        all_goals go_upto_region 33 with(at_lookup;go_must (refine aR (enc:=zn) _ rfl _ _ 110 3 4 rfl qz ju (mq _) N (uN m 3) rfl S9.out (q:Int) rfl false (by simpa using HCL.out) ?_))
        all_goals (
         obtain⟨sx,ox1,ox2,ox3,ox4,ox5⟩:=ab3 NK.out Q;have Y:=nE X.out E;rw[ox1]at Y;obtain⟨x,hxf,V⟩:∃x,R'.find? (λx=>x.1==E)=some x/\sx=strip x:=by
          cases e:R'.find? (λx=>x.1==E) with
          |none=>rw[e]at Y;cases Y
          |some x=>rw[e]at Y;cases Y;exact⟨x,rfl,rfl⟩
         subst V;obtain⟨xk,xv,L,xl⟩:=x;simp only[strip]at ox2 ox3 ox4;have hrx:=M9.out.reads _ (eu hxf);have qH:=M9.out.ne _ (eu hxf);simp only at hrx qH;have HRX:=cf hrx;obtain⟨pb,pc,rfl,hyy⟩:=hrx;obtain⟨kp,op,rfl,Tt,hcp⟩:=hyy (by cases L with|nil=>exact absurd rfl qH|cons _ _=>simp);have HCP:=cf hcp;have HXF:=cf hxf;have OX1:=cf ox1;have OX5:=cf ox5;have OX2:=cf ox2;have HKP:=cf Tt;clear hyy hcp hxf ox1 ox5 Y qH ox2 Tt;obtain⟨F,hto⟩:=br (A+B-E);have HTO:Hid (F=XN E q):=cf (by rw[hto,EA.out,EB.out];rfl);rw[<-hto];clear hto;refine iL 17 7 (λ_ W=>bA M W) (λW W'=>bA W W') ExW (Wb M.heap.size L F (xl+G)) (λ_ _ _ _=>True) (λ_ _ _ _ _=>trivial) rfl ae ae rfl
          (λb i vs W W' hle h=>h.le hle) (λi o ho vs eX W he aaZ b h=>⟨λe=>by subst e;rw[<-he];exact h.c4 rfl,λe=>by subst e;rw[<-he];exact h.c6 rfl,λe=>by subst e;rw[<-he];exact h.c7 rfl,λe=>?_,λe=>by subst e;rw[<-he];exact h.c16 rfl⟩) (eM _ _).drew ?_
         .subst e;have e7:vs 7=eX 7:=by
           simp only[eA,eD,eE,fo]at ho;subst ho;exact aaZ ⟨7,.data⟩ (cH.2 ⟨ar,rfl⟩)
          rw[<-he,<-e7];exact h.c15 rfl
         have HWR:Hid (IntKind.i64.wrap (xl+G)=xl+G):=cf (fP _ ab)
         iterate 4 (
          apply iK
          case hE=>rfl
          case h=>
           intro vs W b c hd;have hl:=IJ ((c.block _ (cd M9.out.map)).trans M9.out.map) HXF.out;have q0:=zc;have q1:=ze;have g2:=(c.cell (p:=⟨wr.heap.size,2,none⟩) Wf).trans d;have hw:=HWR.out;simp only[nD]at hl;go_simp;exact⟨rfl,eM _ _⟩
          case hb=>exact H9)
         apply ey
         case hE=>rfl
         case hb=>exact H9
         case h=>
          intro vs W D b hb c jw hi _ hd hP;go_simp;refine(tC kp op L.length pc (L.map λz=>dt gl z) _ ar (λj u e=>?_) (by simp[dp]) (by have:=OX2.out;omega) (bm HKP.out c.size)).mono ?_
          .obtain⟨z,hz,rfl⟩:∃z,L[j]?=some z/\u=dt gl z:=by
            rw[et]at e
            cases h:L[j]? with
            |none=>rw[h]at e;cases e
            |some z=>rw[h]at e;cases e;exact⟨z,rfl,rfl⟩
           have H:=(List.getElem?_eq_some_iff.1 hz).1;rw[c.cell (p:=⟨kp,op+j,none⟩) HKP.out,HCP.out j ab];simp[eq,hz]
          .rintro e W'⟨v,rfl,_,hO,I⟩;exact⟨v,rfl,df c I,λj H hE=>(hd j H hE).le I,⟨λ_ _=>by simp only[upd,if_pos];exact dJ hO c.size,bp,bp,bp,bp⟩⟩
         iterate 1 (
          apply iK
          case hE=>rfl
          case h=>
           intro vs W b c hd;have hl:=IJ ((c.block _ (cd M9.out.map)).trans M9.out.map) HXF.out;have q0:=zc;have q1:=ze;have g2:=(c.cell (p:=⟨wr.heap.size,2,none⟩) Wf).trans d;have hw:=HWR.out;simp only[nD]at hl;go_simp;exact⟨rfl,eM _ _⟩
          case hb=>exact H9)
         apply ey
         case hE=>rfl
         case hb=>exact H9
         case h=>
          intro vs W D b hb c jw hi _ hd hP;have I:=(eM W.heap.size W).alloc (bC _) (f9 #[dt gl F] 3);have HBC:=cf (df c I);clear c;go_simp;exact⟨HBC.out,λj H hE=>(hd j H hE).le I,⟨bp,λ_ _=>⟨W.heap.size,by simp[upd],au _ _⟩,bp,bp,bp⟩⟩
         apply ey
         case hE=>rfl
         case hb=>exact H9
         case h=>
          intro vs W D bb iC c jw hi _ hd hP;have hf:=iC rfl;have m4:4∈D:=jw ⟨4,.data⟩ (cH.2 ⟨ar,rfl⟩);have m6:6∈D:=jw ⟨6,.data⟩ (cH.2 ⟨ar,rfl⟩);have fO:=(hd 4 m4 rfl).c4 rfl hf;obtain⟨kq,hkq,hkc⟩:=(hd 6 m6 rfl).c6 rfl hf;have bu:=cZ fO;have hoc:=qm fO;refine abk Rz RE rfl _ _ rfl M.heap.size (vs 4) L F kq rfl fO hkq (by simp[dU,hkc]) (by have:=OX2.out;omega) c.size λv' w' e1 e2=>?_;have I:Below M.heap.size W w':=(eM _ W).grown e2 c.size bu;refine⟨c.trans I,λj H hE=>⟨λ_ e=>by simp at e,λ_ e=>by simp at e,λe=>absurd H (by rw[e];exact hi),(hd j H hE).c15,λe=>((hd j H hE).c16 e).imp λk l=>⟨l.1,l.2.1,(e2.block k (cd l.2.2) λe=>?_).trans l.2.2⟩⟩,⟨bp,bp,λ_=>by simpa[upd]using e1,bp,bp⟩,λ_ _ _=>trivial⟩;obtain⟨cur,SF⟩:=hoc k e.symm;rw[l.2.2]at SF;cases SF
         iterate 7 (
          apply iK
          case hE=>rfl
          case h=>
           intro vs W b c hd;have hl:=IJ ((c.block _ (cd M9.out.map)).trans M9.out.map) HXF.out;have q0:=zc;have q1:=ze;have g2:=(c.cell (p:=⟨wr.heap.size,2,none⟩) Wf).trans d;have hw:=HWR.out;simp only[nD]at hl;go_simp;exact⟨rfl,eM _ _⟩
          case hb=>exact H9)
         apply ey
         case hE=>rfl
         case hb=>exact H9
         case h=>
          intro vs W D bb iC c jw hi _ hd hP;have m7:7∈D:=jw ⟨7,.data⟩ (cH.2 ⟨ar,rfl⟩);obtain⟨vb,vc,h7⟩:=vB ((hd 7 m7 rfl).c7 rfl);rw[h7];have HD:=cf hd;clear hd;go_simp;exact⟨HD.out,⟨bp,bp,bp,λ_=>by simp[upd,h7],bp⟩⟩
         apply ey
         case hE=>rfl
         case hb=>exact H9
         case h=>
          intro vs W D b hb c jw hi _ hd hP;have I:=(eM W.heap.size W).alloc (bC _) (f9 #[dL none 0 0,dt gl 0] 112);have HBC:=cf (df c I);have HSZ:=cf c.size;clear c;go_simp;exact⟨HBC.out,λj H hE=>(hd j H hE).le I,⟨bp,bp,bp,bp,λ_=>⟨W.heap.size,by simp[upd],HSZ.out,au _ _⟩⟩⟩
         refine nv λvs W bb _ c hd _=>?_;have hO7:=(hd 7 ab rfl).c7 rfl;have ab8:=(hd 15 ab rfl).c15 rfl;obtain⟨kw,h16,hkw,hcw⟩:=(hd 16 ab rfl).c16 rfl;obtain⟨vb,vc,h7⟩:=vB hO7;rw[h7]at ab8 hO7;have HO7:=cf hO7;have HC1:=cf c;have HKW:=cf hkw;have HCW:=cf hcw;have y0:W.cell? ⟨kw,0,none⟩=some (dL none 0 0):=by simp[dU,hcw]
         have y1:W.cell? ⟨kw,1,none⟩=some (dt gl 0):=by simp[dU,hcw]
         have fz:=tO hcw;rw[h16,ab8];clear hd c hO7 ab8 h16 hkw hcw h7;obtain⟨nn,Va⟩:=br ((L++[F]).length);have HNN:=cf Va;rw[<-Va];clear Va
         go_upto_region 34 with fail
         obtain⟨XR,SG⟩:=br ((W.setCell ⟨kw,0,none⟩ (dL vb nn vc)).setCell ⟨kw,1,none⟩ (dt gl (xl+G)));have SI:bA M XR:=by rw[SG];exact(HC1.out.setCell (p:=⟨kw,0,none⟩) HKW.out _).setCell (p:=⟨kw,1,none⟩) HKW.out _
         have P10:Hid (XR.heap[kw]?=some (f9 #[dL vb nn vc,dt gl (xl+G)] 112)):=cf (by rw[SG];exact Wc HCW.out)
         have O10:Hid (eO 3 XR M.heap.size (dL vb nn vc) (L++[F])):=cf (by
          have hoc:=qm HO7.out;rw[HNN.out];have bu:∀j,dq (dL vb (L++[F]).length vc)=some j->j≠kw:=λj e H=>by
           obtain⟨cur,SF⟩:=hoc j e;rw[H,HCW.out]at SF;cases SF
          rw[SG]
          exact A8 (A8 HO7.out bu) bu)
         have M10:=cf (M9.out.on SI);have L10:=cf (aG SI L9.out);have S10:=cf (aG SI S9.out);have Ry:=cf (K9.out.on SI);rw[<-SG];clear SG SI y0 y1 fz;obtain⟨tp,tn,tc,tl,ok,FH,Ag⟩:=SE M10.out F;have HOK:=cf Ag;clear Ag h0 h1 d
         go_upto_region 35 with fail
         obtain⟨Z,ab9⟩:=br (XR.alloc (f9 #[dL tp tn tc,dt gl tl] 112));have IP:bA XR Z:=by rw[ab9];exact(eM _ _).alloc (bC _) _
         have P11:=cf ((IP.block _ (cd P10.out)).trans P10.out);have O11:=cf (O10.out.on IP);have M11:=cf (M10.out.on IP);have L11:=cf (aG IP L10.out);have S11:=cf (aG IP S10.out);have Tr:=cf (Ry.out.on IP);rw[<-ab9];clear ab9 IP FH M10 L10 S10 Ry O10;by_cases ht:F∈tP m (i+1)
         .have HT1:=cf ht;clear ht
          go_wp2_with (at_lookup;go_must (refine aR (enc:=zn) _ rfl _ _ 110 3 4 rfl qz ju (mq _) T (tP m (i+1)) rfl L11.out F rfl true (by simpa using HT1.out) ?_))
          exact⟨⟨q+1,R',Q,by go_num,by rw[X.out,N0,stepW,if_neg (by rw[NSK.out];decide),if_pos (by rw[<-HTO.out];exact HT1.out)],M11.out,L11.out,S11.out,Tr.out⟩,by simp only[intOf];omega⟩
         .have HT1:=cf ht;clear ht;have hnf:R'.find? (λz=>z.1==F)=none:=by
           have e:=OX5.out NSK.out (by rw[<-HTO.out];exact HT1.out);rw[<-HTO.out]at e;have e2:=nE X.out F;rw[e]at e2
           cases e3:R'.find? (λz=>z.1==F) with
           |none=>rfl
           |some z=>rw[e3]at e2;cases e2
          have Ag:ok=false:=HOK.out hnf;subst Ag;have HNF:=cf hnf;clear hnf;have z0:Z.cell? ⟨kw,0,none⟩=some (dL vb nn vc):=by have h:=P11.out;simp[dU,h]
          have z1:Z.cell? ⟨kw,1,none⟩=some (dt gl (xl+G)):=by have h:=P11.out;simp[dU,h]
          have RD:Hid (bB Z (dL vb nn vc) (L++[F])):=cf (eO.reads O11.out)
          go_wp2_with (first
           |(at_lookup;go_must (refine aR (enc:=zn) _ rfl _ _ 110 3 4 rfl qz ju (mq _) T (tP m (i+1)) rfl L11.out F rfl false (by simpa using HT1.out) ?_))
           |(at_mapUpdate;go_must (refine tF _ rfl _ _ _ (gg rfl) S R' (F,dL vb nn vc,L++[F],xl+G) rfl rfl rfl M11.out HNF.out RD.out ar ?_);intro w12 hM y;go_must (have M12:=cf hM;have L12:=cf (fJ L11.out (y.block _ (by have:=ZR.out;omega)));have S12:=cf (fJ S11.out (y.block _ (by have:=ZR.out;omega)));have VC:=cf (Tr.out.turned y M11.out.map (λ_ _ _ e=>by cases e) (by have:=ZM.out;have:=ZR.out;omega):KQ C w kx P w12));clear hM y;go_frame))
          refine⟨⟨q+1,R'++[(F,dL vb nn vc,L++[F],xl+G)],Q,by go_num,?_,M12.out,L12.out,S12.out,VC.out⟩,by simp only[intOf];omega⟩;rw[ed,X.out,N0,stepW,if_neg (by rw[NSK.out];decide),if_neg (by rw[<-HTO.out];exact HT1.out),OX1.out]
          simp only[ea,eb,strip,HTO.out,EG.out])
end Go.Proofs
namespace Go.Proofs
open Go.RowKit Go.Shelf
set_option maxHeartbeats 1000000
def uP(d:Int)(C:CD)(W:ac):Prop:=∃k2 g k3 c3 a h b i c e lb f,C=ir k2 g k3 c3 a h b i c e lb f d/\CJ W k2 k3 a b c e lb f d
def uP.on{d:Int}{C:CD}{W a:ac}(h:uP d C W)(b:bA W a):uP d C a:=by
 obtain⟨k2,c,k3,c3,f,g,i,j,k,l,lb,m,e,h⟩:=h;exact⟨k2,c,k3,c3,f,g,i,j,k,l,lb,m,e,h.on b⟩
def uP.at{d:Int}{C:CD}{W:ac}(h:uP d C W):C.At W:=by
 obtain⟨k2,a,k3,c3,b,c,e,f,g,i,lb,j,rfl,h⟩:=h;exact h.at
def uP.is{d:Int}{C:CD}{W:ac}(h:uP d C W):VB d C:=by
 obtain⟨k2,a,k3,c3,b,c,e,f,g,i,lb,j,rfl,_⟩:=h;exact⟨k2,a,k3,c3,b,c,e,f,g,i,lb,j,rfl⟩
def tG{d:Int}{C:CD}(hd:d=0\/d=1)(h:VB d C):C.b6 true=0:=by
 obtain⟨k2,a,k3,c3,b,c,e,f,g,i,lb,j,rfl⟩:=h
 rcases hd with rfl|rfl<;>kernel_rfl
def IQ{d:Int}{C:CD}(hd:d=0\/d=1)(h:VB d C):C.cx=0:=IC (tG hd h)
def agd(w:ac):ad PL 13 #[dt gl 13,dt gl (-5)] w λe w'=>e=gf (dO #[dt gl 12,dt gl 0])/\w=w':=(uD 13 (-5) w).mono λ_ _ k=>⟨k.1.trans ae,k.2.symm⟩
def age(w:ac):ad PL 13 #[dt gl 20,dt gl 11] w λe w'=>e=gf (dO #[dt gl 16,dt gl 0])/\w=w':=(uD 20 11 w).mono λ_ _ k=>⟨k.1.trans ae,k.2.symm⟩
def agf{C:CD}(w:ac)(h:uP 0 C w):ad PL 14 #[dC C.val,dt gl 0] w (aO (dO #[dC #[dt gl 16,dt gl 20],dt gl 0]) w):=by
 have k:=nB C 0 w h.at;have e:C.kR 0=dO #[dC #[dt gl 16,dt gl 20],dt gl 0]:=by
  obtain⟨k2,a,k3,c3,b,c,d,f,g,i,lb,j,rfl⟩:=h.is
  kernel_rfl
 rwa[e]at k
def agh{C:CD}(w:ac)(h:uP 0 C w):ad PL 14 #[dC C.val,dt gl 2] w (aO (dO #[dC #[dt gl 24,dt gl 25],dt gl 0]) w):=by
 have k:=nB C 2 w h.at;have e:C.kR 2=dO #[dC #[dt gl 24,dt gl 25],dt gl 0]:=by
  obtain⟨k2,a,k3,c3,b,c,d,f,g,i,lb,j,rfl⟩:=h.is
  kernel_rfl
 rwa[e]at k
def agi{C:CD}(w:ac)(h:uP 0 C w):ad PL 15 #[dC C.val,dt gl 0] w (aO (dO #[dt gl 0,dt gl 0]) w):=by
 have k:=pH C 0 w h.at;have e:C.iq 0=dO #[dt gl 0,dt gl 0]:=by
  obtain⟨k2,a,k3,c3,b,c,d,f,g,i,lb,j,rfl⟩:=h.is
  kernel_rfl
 rwa[e]at k
def agj{C:CD}(w:ac)(h:uP 0 C w):ad PL 15 #[dC C.val,dt gl 2] w (aO (dO #[dt gl 2,dt gl 0]) w):=by
 have k:=pH C 2 w h.at;have e:C.iq 2=dO #[dt gl 2,dt gl 0]:=by
  obtain⟨k2,a,k3,c3,b,c,d,f,g,i,lb,j,rfl⟩:=h.is
  kernel_rfl
 rwa[e]at k
def SJ:List Int:=[0,0,0,4,6,1,6,9,10,14,2,13,17,18,22]
def aaY:List Int:=[0,1,2,0,13]
def ahc{W:ac}{base e n:Nat}{v:aa}{xs:List aa}(h:W.ownsRow base e 5 v n xs)(l:List Int)(a:xs=l.map λz=>dt gl z):ce W v n 5 λj=>dt gl (l.getD j 0):=by
 obtain⟨hl,h⟩:=h
 rcases h with⟨rfl,rfl⟩|⟨g,cap,b,rfl,hb,hg,hc,d,hs,c⟩
 .exact⟨none,0,rfl,λh=>absurd h (bT _)⟩
 .refine⟨_,_,rfl,λf=>⟨g,0,rfl,cd hg,λj i=>?_⟩⟩;have k:l.length=n*5:=by rw[<-hl,a,List.length_map]
  have e:xs[j]?=some (dt gl (l.getD j 0)):=by
   rw[a,et,eF ab];simp[eq,eF (show j<l.length by omega)]
  rw[<-c,eI ab]at e;simp only[dU,hg,b1];simpa using e
def e34{C:CD}(w:ac)(h:uP 0 C w):ad PL 16 #[dC C.val,dt gl 0] w λe w'=>∃v,e=gf (dO #[v,dt gl 0])/\(ce w' v 3 5 λj=>dt gl (SJ.getD j 0))/\bA w w':=by
 have k:=ID C 0 w h.at (by obtain⟨k2,a,k3,c3,b,c,d,f,g,i,lb,l,rfl⟩:=h.is;show 0<2;decide) (by obtain⟨k2,a,k3,c3,b,c,d,f,g,i,lb,l,rfl⟩:=h.is;show 2<=3;decide) (tG (gg rfl) h.is) (Sa C (IQ (gg rfl) h.is) (by obtain⟨k2,a,k3,c3,b,c,d,f,g,i,lb,l,rfl⟩:=h.is;show 0<2;decide));refine k.mono ?_;rintro e w'⟨v,rfl,m,n⟩;have e:mD C 0 C.n4=[(0,0,0,4,6),(1,6,9,10,14),(2,13,17,18,22)]:=by
  obtain⟨k2,a,k3,c3,b,c,d,f,g,i,lb,l,rfl⟩:=h.is
  kernel_rfl
 unfold AY at m;rw[e]at m;exact⟨v,rfl,ahc m SJ rfl,n⟩
def e59{C:CD}(w:ac)(h:uP 0 C w):ad PL 17 #[dC C.val,dt gl 1] w (aO (dO #[dC #[dt gl 18,dt gl 23],dt gl 0]) w):=by
 have k:=Sj C 1 w h.at (by obtain⟨k2,a,k3,c3,b,c,d,f,g,i,lb,j,rfl⟩:=h.is;show 1<2;decide) (by obtain⟨k2,a,k3,c3,b,c,d,f,g,i,lb,j,rfl⟩:=h.is;show 2<=3;decide) (tG (gg rfl) h.is) (Sa C (IQ (gg rfl) h.is) (by obtain⟨k2,a,k3,c3,b,c,d,f,g,i,lb,j,rfl⟩:=h.is;show 1<2;decide));have e:nU C 1=(18,23):=by
  obtain⟨k2,a,k3,c3,b,c,d,f,g,i,lb,j,rfl⟩:=h.is
  kernel_rfl
 rwa[e]at k
def e36{C:CD}(w:ac)(h:uP 0 C w):ad PL 18 #[dC C.val,dt gl 8] w λe w'=>∃v,e=gf (dO #[v,dt gl 0])/\bB w' v [2,0,1]/\bA w w':=by
 have k:=RO C 8 je Sy w h.at (tG (gg rfl) h.is) (by obtain⟨k2,a,k3,c3,b,c,d,f,g,i,lb,j,rfl⟩:=h.is;show 3<=5;decide) (by obtain⟨k2,a,k3,c3,b,c,d,f,g,i,lb,j,rfl⟩:=h.is;show 2<=3;decide) rfl λW l=>tA (gg rfl) h.is l;have e:tB je 8 C.n5 C.n4=[2,0,1]:=by
  obtain⟨k2,a,k3,c3,b,c,d,f,g,i,lb,j,rfl⟩:=h.is
  kernel_rfl
 rwa[e]at k
def e37{C:CD}{d:Int}(hd:d=0\/d=1)(w:ac)(h:uP d C w):ad PL 19 #[dC C.val] w λe w'=>∃v,e=gf (dO #[v,dt gl 0])/\(∃b c,v=dL b (Cv d 3).length c)/\(ce w' v (Cv d 3).length 5 λj=>dt gl (aaY.getD j 0))/\bA w w':=by
 have l:C.n4=3/\C.n5=2:=by obtain⟨k2,o,k3,c3,p,q,r,s,t,u,lb,x,rfl⟩:=h.is;exact⟨rfl,rfl⟩
 have k:=Fp C (λW v=>(∃b c,v=dL b (Cv d 3).length c)/\ce W v (Cv d 3).length 5 λj=>dt gl (aaY.getD j 0)) w h.at (tG hd h.is) λW m=>(vC C d hd l.1 l.2 W m λy f=>tA hd h.is f).mono λe w'⟨v,g,a,i⟩=>⟨v,g,⟨vB a,?_⟩,i⟩
 .exact k.mono λe w'⟨v,g,a,i⟩=>⟨v,g,a.1,a.2,i⟩
 .rcases hd with rfl|rfl
  .have n:Cv 0 3=[]:=rfl;unfold kV at a;rw[n]at a⊢;obtain⟨b,c,rfl⟩:=vB a;exact⟨b,c,rfl,λh=>absurd h (bT _)⟩
  .exact ahc a aaY rfl
def e39{C:CD}{v:aa}(w:ac)(h:uP 0 C w)(hv:bB w v [0,1]):ad PL 20 #[dC C.val,v] w λe w'=>∃a,e=gf (dO #[dC a.val,dt gl 0])/\uP 1 a w'/\bA w w':=by
 obtain⟨k2,l,k3,c3,m,n,o,p,q,r,lb,s,rfl,b⟩:=h;exact(Iw w b hv).mono λe w'⟨q2,d2,q3,d3,q4,d4,q5,d5,c,d,f,g,i,j,k⟩=>⟨_,i,⟨q2,d2,q3,d3,q4,d4,q5,d5,c,d,f,g,rfl,j⟩,k⟩
def e52{C:CD}(w:ac)(h:uP 1 C w):ad PL 21 #[dC C.val] w λe w'=>∃v,e=gf (dO #[v,dv true,dt gl 0])/\bB w' v [0,0]/\bA w w':=by
 obtain⟨k2,b,k3,c3,c,d,f,g,i,j,lb,k,rfl,a⟩:=h;exact II w a
def agk{C:CD}(w:ac)(h:uP 0 C w):ad PL 22 #[dC C.val,dt gl 2,dt gl 5] w λe w'=>∃v,e=gf (dO #[v,dt gl 110,dv true,dt gl 0])/\bB w' v [2,3,0]/\bA w w':=by
 have a:=h.at;obtain⟨k2,b,k3,c3,c,d,f,g,i,j,lb,k,e,_⟩:=h;exact Ba C 5 (gg rfl) e w a
def agl{C:CD}(w:ac)(h:uP 0 C w):ad PL 22 #[dC C.val,dt gl 2,dt gl 3] w λe w'=>∃v,e=gf (dO #[v,dt gl 0,dv false,dt gl 0])/\bB w' v []/\bA w w':=by
 have a:=h.at;obtain⟨k2,b,k3,c3,c,d,f,g,i,j,lb,k,e,_⟩:=h;exact Ba C 3 (gj rfl) e w a
def e31{C:CD}(w:ac)(h:uP 0 C w):ad PL 23 #[dC C.val] w λe w'=>∃v,e=gf (dO #[v,dt gl 0])/\bB w' v [0,2]/\bA w w':=by
 have k:=Cr C w h.at (IQ (gg rfl) h.is);have e:(qC C C.p.toNat (2 ^ C.p.toNat)).getD []=[0,2]:=by
  obtain⟨k2,a,k3,c3,b,c,d,f,g,i,lb,j,rfl⟩:=h.is
  kernel_rfl
 rwa[e]at k
def agm{C:CD}(w:ac)(h:uP 0 C w):ad PL 19 #[dC C.val] w λe w'=>∃b c,e=gf (dO #[dL b 0 c,dt gl 0])/\bA w w':=
 (e37 (gg rfl) w h).mono λe w'⟨v,a,⟨b,c,d⟩,_,f⟩=>⟨b,c,by rw[a,d];rfl,f⟩
def agn{C:CD}(w:ac)(h:uP 1 C w):ad PL 19 #[dC C.val] w λe w'=>∃v,e=gf (dO #[v,dt gl 0])/\(ce w' v 1 5 λj=>dt gl (aaY.getD j 0))/\bA w w':=
 (e37 (gj rfl) w h).mono λe w'⟨v,a,_,b,c⟩=>⟨v,a,b,c⟩
def iO(W:ac)(t:ag)(m:Nat)(l:List Int)(n:Nat)(hl:l.length=n*m):ce (W.alloc (f9 (l.map λz=>dt gl z).toArray t)) (dL (some ⟨W.heap.size,0,none⟩) n n) n m λj=>dt gl (l.getD j 0):=by
 refine⟨_,_,rfl,λ_=>⟨_,_,rfl,ar,λj b=>?_⟩⟩;have h:=au W (f9 (l.map λz=>dt gl z).toArray t);have a:j<l.length:=ab;simp only[dU,h];simp[eq,a]
attribute [local go_sem] Oper.semAt_some
def NC(P:ac->Prop):Prop:=∀W a,P W->bA W a->P a
def iy(W:ac):List (ac->Prop)->Prop
 |[]=>True
 |P::l=>(P W/\NC P)/\iy W l
def iy.on{W a:ac}:∀{l:List (ac->Prop)},iy W l->bA W a->iy a l
 |[],_,_=>trivial
 |_::_,h,b=>⟨⟨h.1.2 _ _ h.1.1 b,h.1.2⟩,iy.on h.2 b⟩
def iy.add{W:ac}{l:List (ac->Prop)}(h:iy W l)(P:ac->Prop)(a:P W)(b:NC P):iy W (P::l):=⟨⟨a,b⟩,h⟩
def mE(k:Nat)(x:Obj):NC λW=>W.heap[k]?=some x:=λ_ _ h a=>(a.block _ (cd h)).trans h
def gz(v:aa)(n m:Nat)(f:Nat->aa):NC λW=>ce W v n m f:=λ_ _ h a=>Reads.on h a
def Lp(d:Int)(C:CD):NC (uP d C):=λ_ _ h a=>h.on a
def SU(w:ac):NC λW=>bA w W:=λ_ _ h a=>df h a
def IV(w:ac):ad PL 5 #[] w (aO (dv true) w):=by
 go_enter (fx ao Tryz.func5),Tryz.ntmps5
 go_upto_region 2 with(go_at_call 12;go_must (refine(EV _).mono ?_);rintro e w0⟨k2,L,k3,c3,M,q,N,r,O,P,lb,Q,rfl,⟨r2,r3,r4,r5,ra,rb⟩,a⟩;have z:Hid (uP 0 (ir k2 L k3 c3 M q N r O P lb Q 0) w0):=cf ⟨k2,L,k3,c3,M,q,N,r,O,P,lb,Q,rfl,⟨r2,r3,r4,r5,ra,rb⟩⟩;have HB:=cf a;clear r2 r3 r4 r5 ra rb a;obtain⟨C,m⟩:=br (ir k2 L k3 c3 M q N r O P lb Q 0);rw[<-m]at z ⊢;clear m)
 obtain⟨kb,R⟩:=br w0.heap.size;obtain⟨W2,i⟩:=br (w0.alloc (f9 C.val 27));have s:bA w0 W2:=by rw[i];exact(eM _ _).alloc (bC _) _
 have S:Hid (iy W2 [λW=>W.heap[kb]?=some (f9 C.val 27),uP 0 C,λW=>bA w W]):=cf ⟨⟨by rw[i,R];exact au _ _,mE _ _⟩,⟨z.out.on s,Lp _ _⟩,⟨df HB.out s,SU _⟩,trivial⟩;rw[<-i,<-R];clear i R s z HB
 go_upto_region 3 with(go_at_call 13;go_must (refine(agd _).mono ?_);rintro e w'⟨rfl,rfl⟩)
 go_upto_region 4 with(go_at_call 13;go_must (refine(age _).mono ?_);rintro e w'⟨rfl,rfl⟩)
 obtain⟨b,c,d,f,f4,g⟩:=bf S.out.1.1
 go_upto_region 5 with(go_at_call 14;go_must (refine(agf _ (S.out.2.1.1)).mono ?_);rintro e n⟨rfl,a⟩;have A:=cf (S.out.on a);clear a b c d f f4 g)
 obtain⟨T,hb⟩:=br n.heap.size;obtain⟨W4,i⟩:=br (n.alloc (f9 #[dt gl 16,dt gl 20] 39));have U:=cf ((A.out.on (show bA n W4 by rw[i];exact(eM _ _).alloc (bC _) _)).add (λW=>W.heap[T]?=some (f9 #[dt gl 16,dt gl 20] 39)) (by rw[i,hb];exact au _ _) (mE _ _));rw[<-i,<-hb];clear i hb A;obtain⟨b,c,d,f,f4,g⟩:=bf (U.out.2.1.1)
 go_upto_region 6 with(go_at_call 14;go_must (refine(agh _ (U.out.2.2.1.1)).mono ?_);rintro e o⟨rfl,a⟩;have B:=cf (U.out.on a);clear a b c d f f4 g)
 obtain⟨V,hb⟩:=br o.heap.size;obtain⟨W5,i⟩:=br (o.alloc (f9 #[dt gl 24,dt gl 25] 39));have X:=cf ((B.out.on (show bA o W5 by rw[i];exact(eM _ _).alloc (bC _) _)).add (λW=>W.heap[V]?=some (f9 #[dt gl 24,dt gl 25] 39)) (by rw[i,hb];exact au _ _) (mE _ _));rw[<-i,<-hb];clear i hb B;obtain⟨b,c,d,f,f4,g⟩:=bf (X.out.2.2.1.1)
 go_upto_region 7 with(go_at_call 15;go_must (refine(agi _ (X.out.2.2.2.1.1)).mono ?_);rintro e w6x⟨rfl,a⟩;have Y:=cf (X.out.on a);clear a b c d f f4 g;obtain⟨b,c,d,f,f4,g⟩:=bf (Y.out.2.2.1.1))
 go_upto_region 8 with(go_at_call 15;go_must (refine(agj _ (Y.out.2.2.2.1.1)).mono ?_);rintro e w7x⟨rfl,a⟩;have Z:=cf (Y.out.on a);clear a b c d f f4 g;obtain⟨b,c,d,f,f4,g⟩:=bf (Z.out.2.2.1.1))
 go_upto_region 9 with(go_at_call 16;go_must (refine(e34 _ (Z.out.2.2.2.1.1)).mono ?_);rintro e w8x⟨v8,rfl,l,a⟩;have K8:=cf ((Z.out.on a).add (λW=>ce W v8 3 5 λj=>dt gl (SJ.getD j 0)) l (gz _ _ _ _));clear l;clear a b c d f f4 g;obtain⟨b,c,d,f,f4,g⟩:=bf (K8.out.2.2.2.1.1))
 go_upto_region 10 with(go_at_call 17;go_must (refine(e59 _ (K8.out.2.2.2.2.1.1)).mono ?_);rintro e p⟨rfl,a⟩;have D:=cf (K8.out.on a);clear a b c d f f4 g)
 obtain⟨b9,hb⟩:=br p.heap.size;obtain⟨W9,i⟩:=br (p.alloc (f9 #[dt gl 18,dt gl 23] 39));have K9:=cf ((D.out.on (show bA p W9 by rw[i];exact(eM _ _).alloc (bC _) _)).add (λW=>W.heap[b9]?=some (f9 #[dt gl 18,dt gl 23] 39)) (by rw[i,hb];exact au _ _) (mE _ _));rw[<-i,<-hb];clear i hb D;obtain⟨b,c,d,f,f4,g⟩:=bf (K9.out.2.2.2.2.1.1)
 go_upto_region 11 with(go_at_call 18;go_must (refine(e36 _ (K9.out.2.2.2.2.2.1.1)).mono ?_);rintro e aul⟨E,rfl,l,a⟩;have Ry:=cf ((K9.out.on a).add (λW=>bB W E [2,0,1]) l (gz _ _ _ _));clear l;clear a b c d f f4 g;obtain⟨b,c,d,f,f4,g⟩:=bf (Ry.out.2.2.2.2.2.1.1))
 go_upto_region 12 with(go_at_call 19;go_must (refine(agm _ (Ry.out.2.2.2.2.2.2.1.1)).mono ?_);rintro e aum⟨Fy,q11,rfl,a⟩;have Tr:=cf (Ry.out.on a);clear a b c d f f4 g;obtain⟨b,c,d,f,f4,g⟩:=bf (Tr.out.2.2.2.2.2.1.1))
 go_upto_region 13 with(go_at_call 20;go_must (refine(e39 _ ((Tr.out.2.2.2.2.2.2.1.1).on ((eM _ _).alloc (bC _) _)) (iO _ 3 1 [0,1] 2 rfl)).mono ?_);rintro e K⟨C1,rfl,hE,a⟩;have F:=cf ((Tr.out.on ((eM _ _).alloc (bC _) _)).on a);have z:=cf hE;clear hE;clear a b c d f f4 g)
 obtain⟨Vv,hb⟩:=br K.heap.size;obtain⟨W12,i⟩:=br (K.alloc (f9 C1.val 27));have t:bA K W12:=by rw[i];exact(eM _ _).alloc (bC _) _
 have VC:=cf (((F.out.on t).add (λW=>W.heap[Vv]?=some (f9 C1.val 27)) (by rw[i,hb];exact au _ _) (mE _ _)).add (uP 1 C1) (z.out.on t) (Lp _ _));rw[<-i,<-hb];clear i hb t F z;obtain⟨b,c,d,f,f4,g⟩:=bf (VC.out.2.1.1)
 go_upto_region 14 with(go_at_call 19;go_must (refine(agn _ (VC.out.1.1)).mono ?_);rintro e aun⟨UW,rfl,l,a⟩;have u:=cf ((VC.out.on a).add (λW=>ce W UW 1 5 λj=>dt gl (aaY.getD j 0)) l (gz _ _ _ _));clear l;clear a b c d f f4 g;obtain⟨b,c,d,f,f4,g⟩:=bf (u.out.2.2.1.1))
 go_upto_region 15 with(go_at_call 21;go_must (refine(e52 _ (u.out.2.1.1)).mono ?_);rintro e auo⟨UX,rfl,l,a⟩;have Tq:=cf ((u.out.on a).add (λW=>bB W UX [0,0]) l (gz _ _ _ _));clear l;clear a b c d f f4 g;obtain⟨b,c,d,f,f4,g⟩:=bf (Tq.out.2.2.2.2.2.2.2.2.2.1.1))
 go_upto_region 16 with(go_at_call 22;go_must (refine(agk _ (Tq.out.2.2.2.2.2.2.2.2.2.2.1.1)).mono ?_);rintro e aup⟨H,rfl,l,a⟩;have v:=cf ((Tq.out.on a).add (λW=>bB W H [2,3,0]) l (gz _ _ _ _));clear l;clear a b c d f f4 g;obtain⟨b,c,d,f,f4,g⟩:=bf (v.out.2.2.2.2.2.2.2.2.2.2.1.1))
 go_upto_region 17 with(go_at_call 22;go_must (refine(agl _ (v.out.2.2.2.2.2.2.2.2.2.2.2.1.1)).mono ?_);rintro e auq⟨v16,rfl,l,a⟩;have x:=cf ((v.out.on a).add (λW=>bB W v16 []) l (gz _ _ _ _));clear l;clear a b c d f f4 g;obtain⟨b,c,d,f,f4,g⟩:=bf (x.out.2.2.2.2.2.2.2.2.2.2.2.1.1))
 go_upto_region 18 with(go_at_call 23;go_must (refine(e31 _ (x.out.2.2.2.2.2.2.2.2.2.2.2.2.1.1)).mono ?_);rintro e y⟨I,rfl,l,a⟩;have J:=cf ((x.out.on a).add (λW=>bB W I [0,2]) l (gz _ _ _ _));clear l;clear a b c d f f4 g;obtain⟨b,c,d,f,f4,g⟩:=bf (J.out.2.2.2.2.2.2.2.2.2.2.2.2.1.1))
 clear b c d f f4 g
 go_upto_region 20 with fail
 have KK:=J;have e4:=KK.out.2.2.2.2.2.2.2.2.2.2.2.1.1;have e5:=KK.out.2.2.2.2.2.2.2.2.2.2.1.1;have e9:=KK.out.2.2.2.2.2.2.2.2.1.1;obtain⟨wq,hwq⟩:=br y;have E4:=cf e4;have E5:=cf e5;have E9:=cf e9;clear e4 e5 e9 hwq;refine ig (λW=>bA y W) (λ_ _=>True) (λ_=>true) (λ_ _ _=>True) rfl ae (λ_ _ _ _ _ _=>trivial) (λ_ _ _ _ _ _ _ _ _=>trivial) (eM _ _).drew ?_
 iterate 49 (
  apply aY
  case hE=>rfl
  case h=>
   intro vs W m hd;have q:=(m.block _ (cd E4.out)).trans E4.out;have r:=(m.block _ (cd E5.out)).trans E5.out;have c9:=(m.block _ (cd E9.out)).trans E9.out;have x0:W.cell? ⟨T,0,none⟩=some (dt gl 16):=by simp[dU,q]
   have x1:W.cell? ⟨T,1,none⟩=some (dt gl 20):=by simp[dU,q]
   have x2:W.cell? ⟨V,0,none⟩=some (dt gl 24):=by simp[dU,r]
   have x3:W.cell? ⟨V,1,none⟩=some (dt gl 25):=by simp[dU,r]
   have x4:W.cell? ⟨b9,0,none⟩=some (dt gl 18):=by simp[dU,c9]
   have x5:W.cell? ⟨b9,1,none⟩=some (dt gl 23):=by simp[dU,c9]
   have q1:=yM;have q2:=Co;clear q r c9;go_simp
   first
   |(go_at_call 9;refine(fU _ _ _).mono ?_;rintro e W'⟨rfl,a⟩;exact⟨_,rfl,rfl,df m a⟩)
   |exact rfl
  case hb=>exact H9)
 refine cP λvs W m hd=>?_;have KK:=cf (KK.out.on m);clear hd m
 go_wp2_with (first
  |(go_at_call 9;go_must (refine(fU _ _ _).mono ?_);rintro e w'⟨rfl,a⟩;have KK:=cf (iy.on KK.out a);clear a)
  |(go_at_call 24;go_must (refine(zT v8 _ 3 (λj=>SJ.getD j 0) _ ((iy.on KK.out ((eM _ _).alloc (bC _) _)).2.2.2.2.2.2.2.2.2.1.1) (iO _ 72 5 SJ 3 rfl) ao).mono ?_);rintro e w'⟨rfl,a⟩;have KK:=cf (iy.on (iy.on KK.out ((eM _ _).alloc (bC _) _)) a);clear a)
  |(go_at_call 25;go_must (refine(Cp E _ 3 (λj=>[2,0,1].getD j 0) _ ((iy.on KK.out ((eM _ _).alloc (bC _) _)).2.2.2.2.2.2.2.1.1) (iO _ 49 1 [2,0,1] 3 rfl) ao).mono ?_);rintro e w'⟨rfl,a⟩;have KK:=cf (iy.on (iy.on KK.out ((eM _ _).alloc (bC _) _)) a);clear a)
  |(go_at_call 26;go_must (refine(vS UW _ 1 (λj=>aaY.getD j 0) _ ((iy.on KK.out ((eM _ _).alloc (bC _) _)).2.2.2.2.1.1) (iO _ 76 5 aaY 1 rfl) ao).mono ?_);rintro e w'⟨rfl,a⟩;have KK:=cf (iy.on (iy.on KK.out ((eM _ _).alloc (bC _) _)) a);clear a))
 refine(pI UX _ 2 (λj=>[0,0].getD j 0) _ ((iy.on KK.out ((eM _ _).alloc (bC _) _)).2.2.2.1.1) (iO _ 3 1 [0,0] 2 rfl) ao).mono ?_;rintro e w1x⟨rfl,a⟩;have KK:=cf (iy.on (iy.on KK.out ((eM _ _).alloc (bC _) _)) a);clear a;go_wp2;refine(pI H _ 3 (λj=>[2,3,0].getD j 0) _ ((iy.on KK.out ((eM _ _).alloc (bC _) _)).2.2.1.1) (iO _ 3 1 [2,3,0] 3 rfl) ao).mono ?_;rintro e w2x⟨rfl,a⟩;have KK:=cf (iy.on (iy.on KK.out ((eM _ _).alloc (bC _) _)) a);clear a;go_wp2;refine(pI I _ 2 (λj=>[0,2].getD j 0) _ ((iy.on KK.out ((eM _ _).alloc (bC _) _)).1.1) (iO _ 3 1 [0,2] 2 rfl) ao).mono ?_;rintro e w3x⟨rfl,a⟩;have KK:=cf (iy.on (iy.on KK.out ((eM _ _).alloc (bC _) _)) a);clear a;go_wp2;go_ret;exact⟨rfl,KK.out.2.2.2.2.2.2.2.2.2.2.2.2.2.2.1.1⟩
end Go.Proofs
namespace Go.Proofs
open Go.RowKit
structure l_(o:Obj)(w W:ac):Prop where
 box:W.heap[w.heap.size]?=some o
 low:bA w W
def ack(a b n:Int)(w:ac)(o : -1000000<=a)(hb:b<=1000000)(g:a<=b)(i:0<=n)(p:n<=1000000):ad PL 29 #[dC #[dt gl a,dt gl b],dt gl n] w (aO (dt gl (a+n % (b-a+1))) w):=by
 go_enter (fx ao Tryz.func29),Tryz.ntmps29;go_wp2;have d:l_ (f9 #[dt gl a,dt gl b] 39) w (w.alloc (f9 #[dt gl a,dt gl b] 39)):=⟨au _ _,(eM _ _).alloc (bC _) _⟩
 have e:b-a+1≠0:=ab;have j:n.tmod (b-a+1)=n % (b-a+1):=by rw[fR i]
 have k:=fY n e;have l:=f6 n (show 0<b-a+1 by omega);have e1:IntKind.i64.wrap (b-a)=b-a:=fP _ ab;have f:IntKind.i64.wrap (b-a+1)=b-a+1:=fP _ ab;have m:IntKind.i64.wrap (a+n % (b-a+1))=a+n % (b-a+1):=fP _ ab;generalize r:n % (b-a+1)=q at *;refine bi ?_;refine ig (l_ (f9 #[dt gl a,dt gl b] 39) w) (λ_ _=>True) (λ_=>true) (λ_ _ _=>True) rfl ae (λ_ _ _ _ _ h=>h) (λ_ _ _ _ _ _ _ _ h=>h) ?_ ?_
 .exact⟨d.box,d.low.drew⟩
 .iterate 12 (
   apply aY
   case hE=>rfl
   case h=>
    intro vs W c hd;have s:W.cell? ⟨w.heap.size,0,none⟩=some (dt gl a):=by rw[dU,c.box];rfl
    have t:W.cell? ⟨w.heap.size,1,none⟩=some (dt gl b):=by rw[dU,c.box];rfl
    go_simp
    first
     |exact rfl
     |exact⟨rfl,c,trivial⟩
     |(rw[e1,f,if_neg e,j];exact⟨rfl,c,trivial⟩)
     |(rw[e1,f];exact⟨rfl,c,trivial⟩)
     |(rw[e1];exact⟨rfl,c,trivial⟩)
     |(rw[m];exact⟨rfl,c,trivial⟩)
     |trace_state
   case hb=>exact H9)
  refine cP λvs W c hd=>?_;refine f8 ?_;go_wp2;go_ret;exact⟨rfl,c.low⟩
def CD.LR(C:CD):Bool:=C.small&&decide (C.cx=0)
def afD(C:CD)(w:ac)(h:C.Mem w):ad PL 4 #[dC C.val] w (aO (dv C.LR) w):=by
 have f:Hid (∀W,bA w W->C.Mem W):=cf λW g=>h.below g;have b:=cf (show KB C w (w.alloc (f9 C.val 27)) from⟨au _ _,(eM _ _).alloc (bC _) _⟩);clear h;by_cases hs:C.small=true
 .have r:Hid (∀W,bA w W->C.At W):=cf λW g=>CD.At.Ri (f.out W g) hs;have a:(!C.small)=false:=by rw[hs];rfl
  have i:Hid (∀W,C.Mem W->ad PL 10 #[dC C.val] W (aO (dv false) W)):=cf λW j=>by have:=AK C W j;rwa[a]at this
  have k:=cf hs;clear hs a;by_cases hc:C.cx=0
  all_goals
   have s:=cf hc;clear hc;go_enter (fx ao co),cq;obtain⟨l,m,n,o,f4,p⟩:=bf b.out.box
   go_wp2_with (first
    |(go_at_call 10;refine(i.out _ (f.out _ b.out.low)).mono ?_;rintro e w1⟨rfl,c⟩;have d:=cf (b.out.on c);clear c;clear l m n o f4 p;obtain⟨l,m,n,o,f4,p⟩:=bf d.out.box)
    |(go_at_call 11;refine(rK C _ (r.out _ d.out.low)).mono ?_;rintro e w2⟨rfl,q⟩;have t:=cf (d.out.on q);clear q))
   go_ret;refine⟨?_,t.out.low⟩;have:=s.out;have:=k.out;simp_all [CD.LR]
 .have a:(!C.small)=true:=by simpa using hs
  have i:Hid (∀W,C.Mem W->ad PL 10 #[dC C.val] W (aO (dv true) W)):=cf λW j=>by have:=AK C W j;rwa[a]at this
  have k:=cf hs;clear hs a;go_enter (fx ao co),cq
  go_wp2_with (first
   |(go_at_call 10;refine(i.out _ (f.out _ b.out.low)).mono ?_;rintro e w1⟨rfl,c⟩;have d:=cf (b.out.on c);clear c))
  go_ret;refine⟨?_,d.out.low⟩;have:=k.out;simp_all [CD.LR]
open Go.Shelf
attribute [local go_sem] Oper.semAt_some
abbrev N5(a b n:Int):Int:=a+n % (b-a+1)
def abe{a b n:Int}(h:a<=b):a<=N5 a b n/\N5 a b n<=b:=by
 have c:=fY n (show b-a+1≠0 by omega);have d:=f6 n (show 0<b-a+1 by omega);unfold N5;omega
end Go.Proofs
namespace Go.Proofs
open Go.RowKit
open Go.Shelf
attribute [local go_sem] Oper.semAt_some
set_option maxHeartbeats 40000000
def Z0{W:ac}{k:Nat}{a b:aa}{t:ag}(h:W.heap[k]?=some (f9 #[a,b] t)):W.cell? ⟨k,0,none⟩=some a/\W.cell? ⟨k,1,none⟩=some b:=by
 constructor<;>simp[dU,h]
def j8(W:ac)(n:Nat)(os:Array Obj):bA W (Sort.grow (W.drewN n) os):=
 ⟨rfl,rfl,rfl,by rw[Sort.size_grow];exact Nat.le_add_right _ _,λk a=>by show((W.drewN n).heap++os)[k]?=_;rw[Array.getElem?_append_left (by exact a)];rfl⟩
def abv(n a b:Int)(w:ac):ad PL 56 #[dt gl n,dt gl a,dt gl b] w λe w'=>e=gf (dv (bO n a b))/\w=w':=by
 go_enter (fx ao Tryz.func56),Tryz.ntmps56;go_wp2
 all_goals (go_ret;simp[bO];try omega)
def mor(x y:Int):Int:=if x > y then 0 else if y > x then 1 else -1
def afE(x y:Int)(w:ac):ad PL 57 #[dC #[dt gl x,dt gl y]] w λe w'=>e=gf (dt gl (mor x y))/\bA w w':=by
 have c:=au w (f9 #[dt gl x,dt gl y] 34);obtain⟨y0,y1⟩:=Z0 c;have a:=cf ((eM w.heap.size w).alloc (bC _) (f9 #[dt gl x,dt gl y] 34));unfold mor;by_cases h:x > y
 .rw[if_pos h];go_enter (fx ao ct),cv;go_wp2;go_ret;exact⟨rfl,a.out⟩
 .rw[if_neg h];by_cases b:y > x
  .rw[if_pos b];go_enter (fx ao ct),cv;go_wp2;go_ret;exact⟨rfl,a.out⟩
  .rw[if_neg b];go_enter (fx ao ct),cv;go_wp2;go_ret;exact⟨rfl,a.out⟩
def scr(x y:Int):Int:=if x > y then 2 else if y > x then 0 else 1
def agG(x y:Int)(hx:0<=x/\x<=60)(hy:0<=y/\y<=60)(k o c:Nat)(w:ac)(hk:k<w.heap.size)(h0:w.cell? ⟨k,o,none⟩=some (dt gl x))(Z:w.cell? ⟨k,o+1,none⟩=some (dt gl y)) :
 ad PL 28 #[dt gl 1,dL (some ⟨k,o,none⟩) 1 c,dL none 0 0] w λe w'=>∃q r,e=gf (dO #[dt gl (scr x y),dt gl q,dt gl r,dt gl 0])/\bA w w':=by
 obtain⟨m,a,b,M,hs,hc⟩:∃m a b:Int,mor x y=m/\scr x y=a/\((m=0/\a=2/\b=0)\/(m=1/\a=0/\b=2)\/(m = -1/\a=1/\b=1)):=by
  unfold mor scr;by_cases h:x > y
  .exact⟨0,2,0,if_pos h,if_pos h,gg ⟨rfl,rfl,rfl⟩⟩
  .by_cases h3:y > x
   .exact⟨1,0,2,by rw[if_neg h,if_pos h3],by rw[if_neg h,if_pos h3],gj (gg ⟨rfl,rfl,rfl⟩)⟩
   .exact⟨-1,1,1,by rw[if_neg h,if_neg h3],by rw[if_neg h,if_neg h3],gj (gj ⟨rfl,rfl,rfl⟩)⟩
 have X:Hid (∀W,bA w W->W.cell? ⟨k,o,none⟩=some (dt gl x)/\W.cell? ⟨k,o+1,none⟩=some (dt gl y)):=cf λW i=>⟨(i.cell (p:=⟨k,o,none⟩) hk).trans h0,(i.cell (p:=⟨k,o+1,none⟩) hk).trans Z⟩
 have BX:Hid (∀W,ad PL 56 #[dt gl x,dt gl 0,dt gl 60] W λe w'=>e=gf (dv true)/\W=w'):=cf λW=>by have:=abv x 0 60 W;rwa[Q3.2 hx]at this
 have BY:Hid (∀W,ad PL 56 #[dt gl y,dt gl 0,dt gl 60] W λe w'=>e=gf (dv true)/\W=w'):=cf λW=>by have:=abv y 0 60 W;rwa[Q3.2 hy]at this
 have B1:Hid (∀W,ad PL 56 #[dt gl 1,dt gl 1,dt gl 5] W λe w'=>e=gf (dv true)/\W=w'):=cf λW=>abv 1 1 5 W;have MX:Hid (∀W,ad PL 57 #[dC #[dt gl x,dt gl y]] W λe w'=>e=gf (dt gl m)/\bA W w'):=cf λW=>by rw[<-M];exact afE x y W
 have MA:Hid (∀W a b,ad PL 57 #[dC #[dt gl a,dt gl b]] W λe w'=>∃r,e=gf (dt gl r)/\bA W w'):=cf λW a b=>(afE a b W).mono λe w'⟨Z,h2⟩=>⟨_,Z,h2⟩
 rw[hs];clear M hs hx hy h0 Z hk
 rcases hc with⟨rfl,rfl,rfl⟩|⟨rfl,rfl,rfl⟩|⟨rfl,rfl,rfl⟩
 .go_enter (fx ao cC),cQ
  go_wp2_with (go_at_call 56;refine(B1.out _).mono ?_;rintro e w'⟨rfl,rfl⟩)
  have t:Hid (∀a b:Int,∀W:ac,W.heap[w.heap.size]?=some (f9 #[dt gl a,dt gl b] 34)->W.cell? ⟨w.heap.size,0,none⟩=some (dt gl a)/\W.cell? ⟨w.heap.size,1,none⟩=some (dt gl b)/\w.heap.size<W.heap.size/\(∀o,W.frozen? ⟨w.heap.size,o,none⟩=false)):=cf λa b W h=>⟨(Z0 h).1,(Z0 h).2,cd h,tO h⟩
  go_loopw [12,24,28,39,57,63] (λN j O P Q R wr=>((j=dt gl 0/\wr.heap[w.heap.size]?=some (f9 #[dt gl 0,dt gl 0] 34))\/(j=dt gl 1/\wr.heap[w.heap.size]?=some (f9 #[dt gl 2,dt gl 0] 34)))/\bA w wr) (λ_ j _ _ _ _ _=>1-(intOf j).toNat)
  case atStart=>exact⟨gg ⟨rfl,au _ _⟩,(eM _ _).alloc (bC _) _⟩
  case round=>
   obtain⟨⟨rfl,f⟩|⟨rfl,f⟩,i⟩:=hrel
   .have D:=cf f;have E:=cf i;obtain⟨x0,x1⟩:=X.out _ i;obtain⟨u,z,g,A⟩:=t.out _ _ _ f;clear f i
    go_wp2_with (first
     |(go_at_call 56;first|(with_reducible refine(BX.out _).mono ?_;rintro e w'⟨rfl,rfl⟩)|(with_reducible refine(BY.out _).mono ?_;rintro e w'⟨rfl,rfl⟩))
     |(go_at_call 57;refine(MX.out _).mono ?_;rintro e w5⟨rfl,l⟩;have B:=cf ((l.block _ (by simp only[d8];omega)).trans ((bj wr _ g).trans D.out));have F:=cf (E.out.trans ((((eM wr.heap.size wr).alloc (bC _) (f9 #[dt gl x,dt gl y] 34)).trans (l.mono ar)).mono (bv g)));clear l u z g A;obtain⟨u,z,g,A⟩:=t.out _ _ _ B.out))
    exact⟨⟨gj ⟨rfl,(Fe B.out).trans rfl⟩,F.out.setCell (p:=⟨w.heap.size,0,none⟩) (bC _) _⟩,by simp[intOf]⟩
   .have D:=cf f;have E:=cf i;obtain⟨u,z,g,A⟩:=t.out _ _ _ f;clear f i
    go_wp2_with (go_at_call 57;refine(MA.out _ _ _).mono ?_;rintro e w6⟨r,rfl,s⟩;have C:=cf ((s.block _ g).trans D.out);have K:=cf (E.out.trans (s.mono (bv g)));clear s u z g A;obtain⟨u,z,g,A⟩:=t.out _ _ _ C.out)
    clear u z g A
    go_loopw [8,14,98,102,113] (λS UX H T U L=>H=dt gl 0/\(∃r:Int,S=dt gl r)/\L.heap[w.heap.size]?=some (f9 #[dt gl 2,dt gl 0] 34)/\bA w L) (λ_ _ _ _ _ _=>0)
    case atStart=>exact⟨rfl,⟨_,rfl⟩,C.out,K.out⟩
    case round=>
     obtain⟨rfl,⟨V,rfl⟩,f,i⟩:=hrel;have d:=cf f;have I:=cf i;have A0:=λn J=>(t.out _ _ _ (((j8 wr n J).block _ (cd d.out)).trans d.out)).1;have A1:=λn J=>(t.out _ _ _ (((j8 wr n J).block _ (cd d.out)).trans d.out)).2.1;have M:PL.follows .mixedOrders=true:=rfl;clear f i
     go_upto_region 37 with fail
     go_quiet_grown (fail)
     go_wp2;refine aJ (v:=dO #[dt gl 2,dt gl 0,dt gl V,dt gl 0]) (by simp[aP,c8,go_sem]) rfl ⟨_,_,rfl,I.out.trans ((j8 wr nq osq).mono (bv (cd d.out)))⟩
 .go_enter (fx ao cC),cQ
  go_wp2_with (go_at_call 56;refine(B1.out _).mono ?_;rintro e w'⟨rfl,rfl⟩)
  have t:Hid (∀a b:Int,∀W:ac,W.heap[w.heap.size]?=some (f9 #[dt gl a,dt gl b] 34)->W.cell? ⟨w.heap.size,0,none⟩=some (dt gl a)/\W.cell? ⟨w.heap.size,1,none⟩=some (dt gl b)/\w.heap.size<W.heap.size/\(∀o,W.frozen? ⟨w.heap.size,o,none⟩=false)):=cf λa b W h=>⟨(Z0 h).1,(Z0 h).2,cd h,tO h⟩
  go_loopw [12,24,28,39,57,63] (λN j O P Q R wr=>((j=dt gl 0/\wr.heap[w.heap.size]?=some (f9 #[dt gl 0,dt gl 0] 34))\/(j=dt gl 1/\wr.heap[w.heap.size]?=some (f9 #[dt gl 0,dt gl 2] 34)))/\bA w wr) (λ_ j _ _ _ _ _=>1-(intOf j).toNat)
  case atStart=>exact⟨gg ⟨rfl,au _ _⟩,(eM _ _).alloc (bC _) _⟩
  case round=>
   obtain⟨⟨rfl,f⟩|⟨rfl,f⟩,i⟩:=hrel
   .have D:=cf f;have E:=cf i;obtain⟨x0,x1⟩:=X.out _ i;obtain⟨u,z,g,A⟩:=t.out _ _ _ f;clear f i
    go_wp2_with (first
     |(go_at_call 56;first|(with_reducible refine(BX.out _).mono ?_;rintro e w'⟨rfl,rfl⟩)|(with_reducible refine(BY.out _).mono ?_;rintro e w'⟨rfl,rfl⟩))
     |(go_at_call 57;refine(MX.out _).mono ?_;rintro e w5⟨rfl,l⟩;have B:=cf ((l.block _ (by simp only[d8];omega)).trans ((bj wr _ g).trans D.out));have F:=cf (E.out.trans ((((eM wr.heap.size wr).alloc (bC _) (f9 #[dt gl x,dt gl y] 34)).trans (l.mono ar)).mono (bv g)));clear l u z g A;obtain⟨u,z,g,A⟩:=t.out _ _ _ B.out))
    exact⟨⟨gj ⟨rfl,(Fe B.out).trans rfl⟩,F.out.setCell (p:=⟨w.heap.size,1,none⟩) (bC _) _⟩,by simp[intOf]⟩
   .have D:=cf f;have E:=cf i;obtain⟨u,z,g,A⟩:=t.out _ _ _ f;clear f i
    go_wp2_with (go_at_call 57;refine(MA.out _ _ _).mono ?_;rintro e w6⟨r,rfl,s⟩;have C:=cf ((s.block _ g).trans D.out);have K:=cf (E.out.trans (s.mono (bv g)));clear s u z g A;obtain⟨u,z,g,A⟩:=t.out _ _ _ C.out)
    clear u z g A
    go_loopw [8,14,98,102,113] (λS UX H T U L=>H=dt gl 0/\(∃r:Int,S=dt gl r)/\L.heap[w.heap.size]?=some (f9 #[dt gl 0,dt gl 2] 34)/\bA w L) (λ_ _ _ _ _ _=>0)
    case atStart=>exact⟨rfl,⟨_,rfl⟩,C.out,K.out⟩
    case round=>
     obtain⟨rfl,⟨V,rfl⟩,f,i⟩:=hrel;have d:=cf f;have I:=cf i;have A0:=λn J=>(t.out _ _ _ (((j8 wr n J).block _ (cd d.out)).trans d.out)).1;have A1:=λn J=>(t.out _ _ _ (((j8 wr n J).block _ (cd d.out)).trans d.out)).2.1;have M:PL.follows .mixedOrders=true:=rfl;clear f i
     go_upto_region 37 with fail
     go_quiet_grown (fail)
     go_wp2;refine aJ (v:=dO #[dt gl 0,dt gl 2,dt gl V,dt gl 0]) (by simp[aP,c8,go_sem]) rfl ⟨_,_,rfl,I.out.trans ((j8 wr nq osq).mono (bv (cd d.out)))⟩
 .go_enter (fx ao cC),cQ
  go_wp2_with (go_at_call 56;refine(B1.out _).mono ?_;rintro e w'⟨rfl,rfl⟩)
  have t:Hid (∀a b:Int,∀W:ac,W.heap[w.heap.size]?=some (f9 #[dt gl a,dt gl b] 34)->W.cell? ⟨w.heap.size,0,none⟩=some (dt gl a)/\W.cell? ⟨w.heap.size,1,none⟩=some (dt gl b)/\w.heap.size<W.heap.size/\(∀o,W.frozen? ⟨w.heap.size,o,none⟩=false)):=cf λa b W h=>⟨(Z0 h).1,(Z0 h).2,cd h,tO h⟩
  go_loopw [12,24,28,39,57,63] (λN j O P Q R wr=>((j=dt gl 0/\wr.heap[w.heap.size]?=some (f9 #[dt gl 0,dt gl 0] 34))\/(j=dt gl 1/\wr.heap[w.heap.size]?=some (f9 #[dt gl 1,dt gl 1] 34)))/\bA w wr) (λ_ j _ _ _ _ _=>1-(intOf j).toNat)
  case atStart=>exact⟨gg ⟨rfl,au _ _⟩,(eM _ _).alloc (bC _) _⟩
  case round=>
   obtain⟨⟨rfl,f⟩|⟨rfl,f⟩,i⟩:=hrel
   .have D:=cf f;have E:=cf i;obtain⟨x0,x1⟩:=X.out _ i;obtain⟨u,z,g,A⟩:=t.out _ _ _ f;clear f i
    go_wp2_with (first
     |(go_at_call 56;first|(with_reducible refine(BX.out _).mono ?_;rintro e w'⟨rfl,rfl⟩)|(with_reducible refine(BY.out _).mono ?_;rintro e w'⟨rfl,rfl⟩))
     |(go_at_call 57;refine(MX.out _).mono ?_;rintro e w5⟨rfl,l⟩;have B:=cf ((l.block _ (by simp only[d8];omega)).trans ((bj wr _ g).trans D.out));have F:=cf (E.out.trans ((((eM wr.heap.size wr).alloc (bC _) (f9 #[dt gl x,dt gl y] 34)).trans (l.mono ar)).mono (bv g)));clear l u z g A;obtain⟨u,z,g,A⟩:=t.out _ _ _ B.out))
    exact⟨⟨gj ⟨rfl,(Fe (Fe B.out)).trans rfl⟩,(F.out.setCell (p:=⟨w.heap.size,0,none⟩) (bC _) _).setCell (p:=⟨w.heap.size,1,none⟩) (bC _) _⟩,by simp[intOf]⟩
   .have D:=cf f;have E:=cf i;obtain⟨u,z,g,A⟩:=t.out _ _ _ f;clear f i
    go_wp2_with (go_at_call 57;refine(MA.out _ _ _).mono ?_;rintro e w6⟨r,rfl,s⟩;have C:=cf ((s.block _ g).trans D.out);have K:=cf (E.out.trans (s.mono (bv g)));clear s u z g A;obtain⟨u,z,g,A⟩:=t.out _ _ _ C.out)
    clear u z g A
    go_loopw [8,14,98,102,113] (λS UX H T U L=>H=dt gl 0/\(∃r:Int,S=dt gl r)/\L.heap[w.heap.size]?=some (f9 #[dt gl 1,dt gl 1] 34)/\bA w L) (λ_ _ _ _ _ _=>0)
    case atStart=>exact⟨rfl,⟨_,rfl⟩,D.out,E.out⟩
    case round=>
     obtain⟨rfl,⟨V,rfl⟩,f,i⟩:=hrel;have d:=cf f;have I:=cf i;have A0:=λn J=>(t.out _ _ _ (((j8 wr n J).block _ (cd d.out)).trans d.out)).1;have A1:=λn J=>(t.out _ _ _ (((j8 wr n J).block _ (cd d.out)).trans d.out)).2.1;have M:PL.follows .mixedOrders=true:=rfl;clear f i
     go_upto_region 37 with fail
     go_quiet_grown (fail)
     go_wp2;refine aJ (v:=dO #[dt gl 1,dt gl 1,dt gl V,dt gl 0]) (by simp[aP,c8,go_sem]) rfl ⟨_,_,rfl,I.out.trans ((j8 wr nq osq).mono (bv (cd d.out)))⟩
def abg(W:ac)(v:aa)(ps:List (Int×Int)):Prop:=∃b c,v=dL b ps.length c/\(0<ps.length->∃k o,b=some ⟨k,o,none⟩/\k<W.heap.size/\∀j,j<ps.length->W.cell? ⟨k,o+j*2,none⟩=some (dt gl (ps.getD j (0,0)).1)/\W.cell? ⟨k,o+j*2+1,none⟩=some (dt gl (ps.getD j (0,0)).2))
def abg.on{W f:ac}{v:aa}{ps:List (Int×Int)}(h:abg W v ps)(a:bA W f):abg f v ps:=by
 obtain⟨b,c,e,h⟩:=h;refine⟨b,c,e,λi=>?_⟩;obtain⟨k,o,e1,d,hc⟩:=h i;exact⟨k,o,e1,bm d a.size,λj g=>⟨(a.cell (p:=⟨k,o+j*2,none⟩) d).trans (hc j g).1,(a.cell (p:=⟨k,o+j*2+1,none⟩) d).trans (hc j g).2⟩⟩
def H8(C:CD)(ps:List (Int×Int)):Nat->Int
 |0=>0
 |i+1=>H8 C ps i+scr (if C.Cm (i % C.n4)=1 then(ps.getD i (0,0)).1 else 0) (ps.getD i (0,0)).2
def aeo(x y:Int):0<=scr x y/\scr x y<=2:=by unfold scr;grind
def afF(C:CD)(ps:List (Int×Int)):∀i:Nat,0<=H8 C ps i/\H8 C ps i<=2*i
 |0=>by simp[H8]
 |i+1=>by
  have:=afF C ps i;have:=aeo (if C.Cm (i % C.n4)=1 then(ps.getD i (0,0)).1 else 0) (ps.getD i (0,0)).2;simp only[H8];omega
def aco(C:CD)(hc:C.cx=0)(ps:List (Int×Int))(hn:ps.length<=20)(A:∀i,i<ps.length->(0<=(ps.getD i (0,0)).1/\(ps.getD i (0,0)).1<=60)/\(0<=(ps.getD i (0,0)).2/\(ps.getD i (0,0)).2<=60))(v:aa)(w:ac)(h:C.At w)(hv:abg w v ps) :
 ad PL 7 #[dC C.val,v] w λe w'=>e=gf (dO #[dt gl (H8 C ps ps.length),dv true])/\bA w w':=by
 have HA:=cf h;have I:=cf A;have RV:=cf hv;obtain⟨h41,h42⟩:=ac5 hc;have AL:Hid (∀W(q:Nat),C.At W->q<C.n4->ad PL 15 #[dC C.val,dt gl q] W (aO (dO #[dt gl (C.Cm q),dt gl 0]) W)):=cf λW q J B=>by
  have:=pH C q W J;rwa[CD.iq,if_pos (by rw[CD.b6,if_pos hc];simp[bO];omega),Int.toNat_natCast]at this
 have P:Hid (KB C w (w.alloc (f9 C.val 27))):=cf ⟨au _ _,(eM _ _).alloc (bC _) _⟩;obtain⟨b,c,rfl,_⟩:=hv;obtain⟨n,K⟩:=br ps.length;rw[<-K];have D:=cf K;have aoi:n<=20:=ab;clear h hc hn A K;go_enter (fx ao Tryz.func7),Tryz.ntmps7;go_wp2;obtain⟨Q,R⟩:=br (w.alloc (f9 C.val 27));rw[<-R]at P ⊢;clear R
 go_loopw [6,7,8,9,10,11,12,13,14] (λv6 v7 v8 v9 v10 v11 v12 UW UX wr=>∃i:Nat,i<=n/\v7=dt gl i/\v6=dt gl (H8 C ps i)/\KB C w wr) (λ_ v7 _ _ _ _ _ _ _ _=>n-(intOf v7).toNat)
 case atStart=>exact⟨0,bR _,rfl,rfl,P.out⟩
 case round=>
  obtain⟨i,hi,rfl,rfl,S⟩:=hrel;have KR:=cf S;clear S;obtain⟨T,U,V,Y,f4,Z⟩:=bf KR.out.box;obtain⟨sm,E⟩:=br (H8 C ps i);have hs:=afF C ps i;rw[<-E]at hs ⊢;by_cases F:i<n
  .have i2:(i:Int)<n:=ab;obtain⟨q,B⟩:=br (i % C.n4);have L:q<C.n4:=by rw[B];exact b8 _ ab
   have Gy:(i:Int).tmod (C.n4:Int)=(q:Int):=by rw[fR ab,B,Int.natCast_emod]
   have asj:¬(C.n4:Int)=0:=ab;have asl:¬C.n4=0:=ab;obtain⟨al,l⟩:=br (C.Cm q);have A1:Hid (∀W,C.At W->ad PL 15 #[dC C.val,dt gl q] W (aO (dO #[dt gl al,dt gl 0]) W)):=cf λW J=>by rw[l];exact AL.out W q J L
   obtain⟨b',c',e,hcell⟩:=RV.out.on KR.out.low;rw[<-D.out]at e hcell;cases e;obtain⟨k1,H,rfl,zz,lp⟩:=hcell ab;obtain⟨x0,x1⟩:=lp i F;obtain⟨⟨m,o⟩,t,u⟩:=I.out i (by rw[<-D.out];exact F);have a:Hid (H8 C ps (i+1)=sm+scr (if al=1 then(ps.getD i (0,0)).1 else 0) (ps.getD i (0,0)).2):=cf (by rw[H8,E,l,B]);obtain⟨x,hx⟩:=br ((ps.getD i (0,0)).1);obtain⟨y,hy⟩:=br ((ps.getD i (0,0)).2);rw[<-hx]at x0 m o a;rw[<-hy]at x1 t u a;have X:Hid (∀W,bA wr W->W.cell? ⟨k1,H+i*2,none⟩=some (dt gl x)/\W.cell? ⟨k1,H+i*2+1,none⟩=some (dt gl y)):=cf λW z=>⟨(z.cell (p:=⟨k1,H+i*2,none⟩) zz).trans x0,(z.cell (p:=⟨k1,H+i*2+1,none⟩) zz).trans x1⟩
   have HX:=cf (fB m o);have HY:=cf (fB t u);clear hcell lp x0 x1 hx hy m o t u l B E
   go_upto_region 5 with fail
   refine ig (λW=>bA wr W) (λ_ _=>True) (λ_=>true) (λ_ _ _=>True) rfl ae (λ_ _ _ _ _ _=>trivial) (λ_ _ _ _ _ _ _ _ h=>h) (eM _ _).drew ?_;clear T U V Y f4 Z
   iterate 12 (
    apply aY
    case hE=>rfl
    case h=>
     intro vs W d hd;obtain⟨T,U,V,Y,f4,Z⟩:=bf (KR.out.on d).box;go_simp
     first
      |with_reducible exact rfl
      |(go_at_call 15;(with_reducible refine(A1.out W (HA.out.below (KR.out.on d).low)).mono ?_);rintro e W'⟨rfl,z⟩;first|exact⟨_,rfl,rfl,df d z⟩|exact⟨_,rfl,rfl,df d z,trivial⟩)
      |exact⟨rfl,d⟩
      |exact⟨rfl,d,trivial⟩
      |trace_state
    case hb=>exact H9)
   refine cP λvs W d hd=>?_;have HB:=cf d;have K2:=cf (KR.out.on d);obtain⟨x0,x1⟩:=X.out W d;clear d hd;have j:Hid (∀k:Int,0<=k/\k<=60->ad PL 28 #[dt gl 1,dL (some ⟨W.heap.size+1,0,none⟩) 1 1,dL none 0 0] ((W.alloc (f9 #[dt gl k,dt gl y] 34)).alloc (f9 #[dt gl k,dt gl y] 34)) λe w'=>∃q r,e=gf (dO #[dt gl (scr k y),dt gl q,dt gl r,dt gl 0])/\KB C w w'):=cf λk Gt=>by
    have hb:=au (W.alloc (f9 #[dt gl k,dt gl y] 34)) (f9 #[dt gl k,dt gl y] 34);rw[d8]at hb;obtain⟨c0,c1⟩:=Z0 hb;refine(agG k y Gt HY.out (W.heap.size+1) 0 1 _ ar c0 c1).mono ?_;rintro e w'⟨q1,M,rfl,z⟩;exact⟨q1,M,rfl,((K2.out.alloc _).alloc _).on z⟩
   by_cases ha:al=1
   .subst ha;rw[if_pos rfl]at a;have SC:=cf (j.out x HX.out);obtain⟨sc,f⟩:=br (scr x y);have N:=aeo x y;rw[<-f]at N a SC;clear f j
    go_wp2_with (go_at_call 28;refine SC.out.mono ?_;rintro e w5⟨M,r2,rfl,g⟩;have O:=cf g;clear g)
    exact⟨⟨i+1,F,by go_num,by rw[a.out],O.out⟩,by simp only[intOf];omega⟩
   .rw[if_neg ha]at a;have SC:=cf (j.out 0 ab);obtain⟨sc,f⟩:=br (scr 0 y);have N:=aeo 0 y;rw[<-f]at N a SC;clear f j
    go_wp2_with (go_at_call 28;refine SC.out.mono ?_;rintro e w5⟨M,r2,rfl,g⟩;have O:=cf g;clear g)
    exact⟨⟨i+1,F,by go_num,by rw[a.out],O.out⟩,by simp only[intOf];omega⟩
  .obtain rfl:i=n:=ab
   go_wp2_with fail
   refine aJ (v:=dO #[dt gl sm,dv true]) (by simp[aP,Tryz.results7,go_sem]) rfl ⟨by rw[E],KR.out.low⟩
end Go.Proofs
namespace Go.Proofs
open Go.RowKit
open Go.Shelf
attribute [local go_sem] Oper.semAt_some
def CD.s9(C:CD)(f:Nat->iJ)(g c:Nat):CD:={ C with b4:=some ⟨g,0,none⟩,k4:=g,o4:=0,c4:=c,x4:=f }
structure afH(x y:iJ):Prop where
 name:y.name=x.name
 lb:y.lb=x.lb
 ln:y.ln=x.ln
 lk:y.lk=x.lk
 lo:y.lo=x.lo
 lane:y.lane=x.lane
def ahQ{C:CD}{w W:ac}{f:Nat->iJ}{g c:Nat}(h:C.At w)(d:bA w W)(hf:∀i,afH (C.x4 i) (f i))(hg:g<W.heap.size)(b:∀j,j<C.n4->∀q,q<12->W.cell? ⟨g,j*12+q,none⟩=(G0 (f j))[q]?):(C.s9 f g c).At W:=by
 have k:=h.below d;refine⟨k.m2,k.m3,k.m4,k.m5,k.h2,k.h3,hg,k.h5,k.s2,k.s3,λ_=>rfl,k.s5,k.Ep,k.Er,k.Es,k.Et,k.Eu,λi hi=>?_,λi hi=>?_,λi hi j e l=>?_,λi hi=>?_,λi hi hl=>?_,λi hi j a=>?_,k.nm5,k.FI,k.HU,k.J6⟩
 .show(f i).name.size<=100/\(f i).ln<=20;rw[(hf i).name,(hf i).ln];exact k.cu i hi
 .show W.cell? ⟨g,0+i*12,none⟩=_;rw[b1];exact b i hi 0 ab
 .show W.cell? ⟨g,0+i*12+j,none⟩=_;rw[b1,b i hi j ab,R1 _ e l];rfl
 .show W.cell? ⟨g,0+i*12+11,none⟩=_;rw[b1,b i hi 11 ab];rfl
 .have hl:0<(f i).ln:=hl;show(f i).lb=some ⟨(f i).lk,(f i).lo,none⟩/\(f i).lk<W.heap.size;rw[(hf i).ln]at hl;rw[(hf i).lb,(hf i).lk,(hf i).lo];exact k.l4 i hi hl
 .have a:j<(f i).ln:=a;show W.cell? ⟨(f i).lk,(f i).lo+j,none⟩=some (dt gl ((f i).lane j));rw[(hf i).ln]at a;rw[(hf i).lk,(hf i).lo,(hf i).lane];exact k.J5 i hi j a
def CD.ahf(C:CD):∀u∈C.abB,u.oneCell'=true:=by
 intro u a;obtain⟨i,_,h⟩:=List.mem_flatMap.1 a;exact ac6 _ u h
def am3(w:ac)(a b c:Obj):(((w.alloc a).alloc b).alloc c).heap[w.heap.size]?=some a/\(((w.alloc a).alloc b).alloc c).heap[w.heap.size+1]?=some b/\(((w.alloc a).alloc b).alloc c).heap[w.heap.size+2]?=some c/\(((w.alloc a).alloc b).alloc c).heap.size=w.heap.size+3/\bA w (((w.alloc a).alloc b).alloc c):=by
 have g:=au w a;have e:=au (w.alloc a) b;have f:=au ((w.alloc a).alloc b) c;rw[d8]at e;rw[d8,d8]at f;have k2:∀k,k<w.heap.size+1->((w.alloc a).alloc b).heap[k]?=(w.alloc a).heap[k]?:=λk d=>((eM (w.alloc a).heap.size _).alloc (bC _) b).block k (by rw[d8];exact d);have k3:∀k,k<w.heap.size+2->(((w.alloc a).alloc b).alloc c).heap[k]?=((w.alloc a).alloc b).heap[k]?:=λk d=>((eM ((w.alloc a).alloc b).heap.size _).alloc (bC _) c).block k (by rw[d8,d8];exact d);exact⟨(k3 _ ab).trans ((k2 _ ab).trans g),(k3 _ ab).trans e,f,ar,(((eM _ _).alloc (bC _) _).alloc ar _).alloc (by simp;omega) _⟩
def KD(sl ri:Int)(x:iJ):iJ:={ x with n:=λj=>if j=1\/j=2 then sl else if j=3\/j=4 then ri else x.n j }
def dc(C:CD)(p:Nat)(sl ri:Int)(i:Nat):iJ:=if i=p then KD sl ri (C.x4 i) else C.x4 i
def R9(C:CD)(p:Nat)(sl ri:Int)(i:Nat):afH (C.x4 i) (dc C p sl ri i):=by
 unfold dc;split
 .exact⟨rfl,rfl,rfl,rfl,rfl,rfl⟩
 .exact⟨rfl,rfl,rfl,rfl,rfl,rfl⟩
def aal(sl ri:Int)(x:iJ)(q:Nat)(c:q<12):(G0 (KD sl ri x))[q]?=if q=1\/q=2 then some (dt gl sl) else if q=3\/q=4 then some (dt gl ri) else(G0 x)[q]?:=by
 by_cases b:q=0
 .subst b;rfl
 by_cases a:q=11
 .subst a;rfl
 rw[R1 _ ab ab,R1 _ ab ab];simp only[KD];split
 .rfl
 .split<;>rfl
structure KMe(C:CD)(w:ac)(g c p:Nat)(sl ri:Int)(s1 s2:Bool)(W:ac):Prop where
 low:bA w W
 box:W.heap[w.heap.size+2]?=some (f9 #[dt gl C.l,dt gl C.p,dL C.b2 C.n2 C.c2,dL C.b3 C.n3 C.c3,dL (some ⟨g,0,none⟩) C.n4 c,dL C.b5 C.n5 C.c5] 27)
 res:W.heap[w.heap.size+1]?=some (f9 RX 27)
 abw:W.heap[w.heap.size]?=some (f9 C.val 27)
 own:w.heap.size+2<g
 row:∃cur,W.heap[g]?=some (f9 cur 82)/\C.n4*12<=cur.size/\∀j,j<C.n4->∀q,q<12->cur[j*12+q]?=(G0 (if j=p/\(s1=true/\(q=1\/q=2)\/s2=true/\(q=3\/q=4)) then KD sl ri (C.x4 j) else C.x4 j))[q]?
def KMe.on{C:CD}{w W b:ac}{g c p:Nat}{sl ri:Int}{d e:Bool}(h:KMe C w g c p sl ri d e W)(a:bA W b):KMe C w g c p sl ri d e b:=
 ⟨df h.low a,(a.block _ (cd h.box)).trans h.box,(a.block _ (cd h.res)).trans h.res,(a.block _ (cd h.abw)).trans h.abw,h.own,h.row.imp λ_ k=>⟨(a.block _ (cd k.1)).trans k.1,k.2⟩⟩
def KMe.has{C:CD}{w W:ac}{g c p:Nat}{sl ri:Int}{b d:Bool}(h:KMe C w g c p sl ri b d W){i:Nat}(hi:i<C.n4){q:Nat}(f:q<12):∃v,W.cell? ⟨g,i*12+q,none⟩=some v:=by
 obtain⟨a,e,hs,_⟩:=h.row;simp only[dU,e];exact⟨a[i*12+q]' ab,ar⟩
def KMe.acp{C:CD}{w W:ac}{g c p:Nat}{sl ri:Int}{n m:Bool}(h:KMe C w g c p sl ri n m W)(t:p<C.n4) :
 KMe C w g c p sl ri true m ((W.setCell ⟨g,p*12+1,none⟩ (dt gl sl)).setCell ⟨g,p*12+2,none⟩ (dt gl sl)):=by
 obtain⟨d,e,hs,f⟩:=h.row;have u:=h.own;have hg:w.heap.size<=g:=ab;refine⟨(h.low.setCell (p:=⟨g,_,none⟩) hg _).setCell (p:=⟨g,_,none⟩) hg _,?_,?_,?_,h.own,_,Fe (Fe e),by simpa using hs,λj o q i=>?_⟩
 .rw[aZ ab,aZ ab];exact h.box
 .rw[aZ ab,aZ ab];exact h.res
 .rw[aZ ab,aZ ab];exact h.abw
 .have f:=f j o q i;simp only[fg,fi];by_cases k:j=p/\(q=1\/q=2)
  .obtain⟨rfl,l⟩:=k;have r:j*12+q<d.size:=ab;have s:∀q,q=1\/q=2->(G0 (KD sl ri (C.x4 j)))[q]?=some (dt gl sl):=λq i=>by rw[aal _ _ _ _ ab,if_pos i]
   rcases l with rfl|rfl<;>simp[r,s]
  .rw[if_neg ab,if_neg ab,f];congr 3;simp only[eq_iff_iff];constructor
   .rintro⟨b,a|a⟩
    .exact absurd ⟨b,a.2⟩ k
    .exact⟨b,gj a⟩
   .rintro⟨b,a|a⟩
    .exact absurd ⟨b,a.2⟩ k
    .exact⟨b,gj a⟩
def KMe.ahR{C:CD}{w W:ac}{g c p:Nat}{sl ri:Int}{m n:Bool}(h:KMe C w g c p sl ri m n W)(t:p<C.n4) :
 KMe C w g c p sl ri m true ((W.setCell ⟨g,p*12+3,none⟩ (dt gl ri)).setCell ⟨g,p*12+4,none⟩ (dt gl ri)):=by
 obtain⟨d,e,hs,f⟩:=h.row;have u:=h.own;have hg:w.heap.size<=g:=ab;refine⟨(h.low.setCell (p:=⟨g,_,none⟩) hg _).setCell (p:=⟨g,_,none⟩) hg _,?_,?_,?_,h.own,_,Fe (Fe e),by simpa using hs,λj o q i=>?_⟩
 .rw[aZ ab,aZ ab];exact h.box
 .rw[aZ ab,aZ ab];exact h.res
 .rw[aZ ab,aZ ab];exact h.abw
 .have f:=f j o q i;simp only[fg,fi];by_cases k:j=p/\(q=3\/q=4)
  .obtain⟨rfl,l⟩:=k;have r:j*12+q<d.size:=ab;have s:∀q,q=3\/q=4->(G0 (KD sl ri (C.x4 j)))[q]?=some (dt gl ri):=λq i=>by rw[aal _ _ _ _ ab,if_neg ab,if_pos i]
   rcases l with rfl|rfl<;>simp[r,s]
  .rw[if_neg ab,if_neg ab,f];congr 3;simp only[eq_iff_iff];constructor
   .rintro⟨b,a|a⟩
    .exact⟨b,gg a⟩
    .exact absurd ⟨b,a.2⟩ k
   .rintro⟨b,a|a⟩
    .exact⟨b,gg a⟩
    .exact absurd ⟨b,a.2⟩ k
def KMe.done{C:CD}{w W:ac}{g c p:Nat}{sl ri:Int}{o t1:Bool}(h:KMe C w g c p sl ri true o W)(k:KMe C w g c p sl ri t1 true W):∃cur,W.heap[g]?=some (f9 cur 82)/\∀j,j<C.n4->∀q,q<12->cur[j*12+q]?=(G0 (dc C p sl ri j))[q]?:=by
 obtain⟨cur,e,hs,r⟩:=h.row;obtain⟨l,m,_,s⟩:=k.row;obtain rfl:l=cur:=by rw[e]at m;cases m;rfl
 refine⟨l,e,λj n q b=>?_⟩;have d:=r j n q b;have t:=s j n q b;unfold dc;by_cases a:j=p
 .rw[if_pos a];by_cases f:q=3\/q=4
  .rw[t,if_pos ⟨a,gj ⟨rfl,f⟩⟩]
  .by_cases i:q=1\/q=2
   .rw[d,if_pos ⟨a,gg ⟨rfl,i⟩⟩]
   .rw[aal _ _ _ _ b,if_neg i,if_neg f,d];split
    .rw[aal _ _ _ _ b,if_neg i,if_neg f]
    .rfl
 .rw[if_neg a,d,if_neg (λh=>a h.1)]
def abW(C:CD)(hc:C.cx=0)(p:Nat)(t:p<C.n4)(a b:Int)(ha:0<=a/\a<=65535)(hb:0<=b/\b<=65535)(w:ac)(h:C.At w) :
 ad PL 8 #[dC C.val,dt gl p,dt gp a,dt gp b] w λe w'=>∃g c,e=gf (dC (C.s9 (dc C p (N5 ((C.x4 p).n 1) ((C.x4 p).n 2) a) (N5 ((C.x4 p).n 3) ((C.x4 p).n 4) b)) g c).val)/\(C.s9 (dc C p (N5 ((C.x4 p).n 1) ((C.x4 p).n 2) a) (N5 ((C.x4 p).n 3) ((C.x4 p).n 4) b)) g c).At w'/\bA w w':=by
 obtain⟨a1,a2,a3,a4,a5,a6⟩:=Kq hc t;obtain⟨ha0,ha1⟩:=ha;obtain⟨Tc,lq⟩:=hb;have U:Hid (∀W,ad PL 29 #[dC #[dt gl ((C.x4 p).n 1),dt gl ((C.x4 p).n 2)],dt gl a] W (aO (dt gl (N5 ((C.x4 p).n 1) ((C.x4 p).n 2) a)) W)):=cf λW=>ack _ _ _ W ab ab ab ha0 ab;have V:Hid (∀W,ad PL 29 #[dC #[dt gl ((C.x4 p).n 3),dt gl ((C.x4 p).n 4)],dt gl b] W (aO (dt gl (N5 ((C.x4 p).n 3) ((C.x4 p).n 4) b)) W)):=cf λW=>ack _ _ _ W ab ab ab Tc ab;obtain⟨z,X⟩:=br (N5 ((C.x4 p).n 1) ((C.x4 p).n 2) a);obtain⟨ri,Y⟩:=br (N5 ((C.x4 p).n 3) ((C.x4 p).n 4) b);rw[<-X]at U ⊢;rw[<-Y]at V ⊢;clear X Y a1 a2 a3 a4 a5 a6 hc;have h4:0<C.n4:=ab;have HA:=cf h;have WB:KB C w (w.alloc (f9 C.val 27)):=⟨au _ _,(eM _ _).alloc (bC _) _⟩
 have HB:=cf WB;have S4:=cf (h.s4 h4);have r4:Hid (∀W,bA w W->∀j u,C.abB[j]?=some u->W.cell? ⟨C.k4,C.o4+j,none⟩=some u):=cf λW A=>(h.below A).abB;have m4:=h.m4;clear h h4;go_enter (fx ao Tryz.func8),Tryz.ntmps8;obtain⟨Z,f1,f2,f3,f4,f5⟩:=bf HB.out.box
 go_upto_region 2 with fail
 obtain⟨y,K⟩:=br (((w.alloc (f9 C.val 27)).alloc (f9 RX 27)).alloc (f9 C.val 27));have A3:=cf (am3 w (f9 C.val 27) (f9 RX 27) (f9 C.val 27));rw[<-K]at A3;rw[<-K];have s4:=S4.out;clear K Z f1 f2 f3 f4 f5;obtain⟨Z,f1,f2,f3,f4,f5⟩:=bf A3.out.1;rw[s4]at f4;have A3':Hid (y.heap[w.heap.size+1+1]?=some (f9 C.val 27)):=cf A3.out.2.2.1;have hz:w.heap.size+1+1<y.heap.size:=by rw[A3.out.2.2.2.1];omega
 have dx:w.heap.size+1<y.heap.size:=ab;have mF:w.heap.size<y.heap.size:=ab;have L:bA y (y.alloc (f9 #[] 82)):=(eM _ _).alloc (bC _) _;have R4:=r4.out _ (A3.out.2.2.2.2.trans (L.mono A3.out.2.2.2.2.size));have hn4:C.n4<=1000:=ab;have R4:=cf R4;have HB4:=cf L;clear L
 go_upto_region 3 with(at_builtin;refine ga (T:=24) (e:=82) VL VM rfl ao ao rfl _ _ rfl y.heap.size y.heap.size rfl (au y (f9 #[] 82)) (bC _) C.k4 C.o4 C.n4 C.c4 C.abB rfl C.abt R4.out C.ahf hn4 ?_;intro v1 w4 fO hv hb4;have hb:=HB4.out.trans hb4;have B4:Hid (w4.heap[w.heap.size+1+1]?=some (f9 C.val 27)):=cf ((hb.block _ hz).trans A3'.out);have fz:=tO B4.out;have hz4:=cd B4.out;have wC:=cf hb;obtain⟨g,c,m,rfl,M,hg,J⟩:=Fc.form (w:=y) ⟨fO,hv⟩;have HG:=cf (fB M (fB hg J));clear fO hv M hg J hb4 hb Z f1 f2 f3 f4 f5;obtain⟨g0,g1,g2,g3,g4,g5⟩:=bf B4.out)
 have hK0:KMe C w g c p z ri false false (w4.setCell ⟨w.heap.size+1+1,4,none⟩ (dL (some ⟨g,0,none⟩) C.n4 c)):=by
  obtain⟨M,hg,J⟩:=HG.out;have hs:=A3.out.2.2.2.1;have hlen:=C.abt;rw[<-J]at hlen;have h12:C.n4*12<=m.size:=by simp at hlen;omega
  refine⟨(A3.out.2.2.2.2.trans (wC.out.mono A3.out.2.2.2.2.size)).setCell (p:=⟨_,4,none⟩) (by show w.heap.size<=w.heap.size+1+1;omega) _,Fe B4.out,(aZ ab).trans ((wC.out.block _ ab).trans A3.out.2.1),(aZ ab).trans ((wC.out.block _ ab).trans A3.out.1),ab,m,(aZ ab).trans hg,h12,λj hj q hq=>?_⟩;rw[if_neg ar,<-C.ahI hj hq,<-J,eI ab];simp
 have K0:=cf hK0;clear hK0 HB4 R4 hz mF dx hz4 fz A3' B4 wC g0 g1 g2 g3 g4 g5;obtain⟨W5,hW5⟩:=br (w4.setCell ⟨w.heap.size+1+1,4,none⟩ (dL (some ⟨g,0,none⟩) C.n4 c));rw[<-hW5]at K0 ⊢;clear hW5;have pn:(p:Int)<C.n4:=ab;have wa:IntKind.i64.wrap a=a:=fP _ ab;have wb:IntKind.i64.wrap b=b:=fP _ ab
 go_wp2_with fail
 refine bi ?_;refine ig (KMe C w g c p z ri false false) (λ_ _=>True) (λ_=>true) (λ_ _ _=>True) rfl ae (λ_ _ _ _ _ h=>h) (λ_ _ _ _ _ _ _ _ h=>h) ?_ ?_
 .exact K0.out.on (eM _ _).drew
 .iterate 20 (
   apply aY
   case hE=>rfl
   case h=>
    intro vs W f hd;obtain⟨Z,f1,f2,f3,f4,f5⟩:=bf f.abw;rw[s4]at f4;have hA:=HA.out.below f.low;have p1:=hA.dB p t 1 ab ab;have p2:=hA.dB p t 2 ab ab;have p3:=hA.dB p t 3 ab ab;have p4:=hA.dB p t 4 ab ab;clear hA;go_simp
    first
     |with_reducible exact rfl
     |((with_reducible refine(U.out W).mono ?_);rintro e d⟨rfl,A⟩;exact⟨_,rfl,rfl,f.on A⟩)
     |((with_reducible refine(V.out W).mono ?_);rintro e d⟨rfl,A⟩;exact⟨_,rfl,rfl,f.on A⟩)
     |exact⟨rfl,f⟩
     |exact⟨rfl,f,trivial⟩
     |trace_state
   case hb=>exact H9)
  refine cP λvs W f hd=>?_;refine f8 ?_;have R:=cf f;clear f hd;obtain⟨F,s⟩:∃P:ac->Prop,P=λW=>∃H I,KMe C w g c p z ri H I W:=⟨_,rfl⟩
  obtain⟨N,B⟩:∃P:ac->Prop,P=λW=>∃I,KMe C w g c p z ri true I W:=⟨_,rfl⟩
  obtain⟨O,D⟩:∃P:ac->Prop,P=λW=>∃H,KMe C w g c p z ri H true W:=⟨_,rfl⟩
  obtain⟨LL,E⟩:=br (λW d=>(N W->N d)/\(O W->O d):ac->ac->Prop);have CB:Hid (∀W,F W->W.heap[w.heap.size+1+1]?=some (f9 #[dt gl C.l,dt gl C.p,dL C.b2 C.n2 C.c2,dL C.b3 C.n3 C.c3,dL (some ⟨g,0,none⟩) C.n4 c,dL C.b5 C.n5 C.c5] 27)):=cf λW hW=>by rw[s]at hW;obtain⟨_,_,hW⟩:=hW;exact hW.box
  have CO:Hid (∀W d,F W->bA W d->F d/\LL W d):=cf λW d h A=>by
   subst s B D E;exact⟨h.imp λ_ h=>h.imp λ_ h=>h.on A,λh=>h.imp λ_ h=>h.on A,λh=>h.imp λ_ h=>h.on A⟩
  have CF:Hid (∀W,F W->(∀o,W.frozen? ⟨g,o,none⟩=false)/\∀q,q<12->∃v,W.cell? ⟨g,p*12+q,none⟩=some v):=cf λW h=>by rw[s]at h;obtain⟨_,_,h⟩:=h;exact⟨h.row.elim λ_ k=>tO k.1,λq hq=>h.has t hq⟩
  have CS1:Hid (∀W d,F W->d=((W.setCell ⟨g,p*12+1,none⟩ (dt gl z)).setCell ⟨g,p*12+2,none⟩ (dt gl z))->F d/\LL W d/\N d):=cf λW d h e=>by
   subst s B D E e;obtain⟨H,I,h⟩:=h;exact⟨⟨_,_,h.acp t⟩,⟨λh=>h.imp λ_ h=>h.acp t,fun⟨_,h⟩=>⟨_,h.acp t⟩⟩,_,h.acp t⟩
  have CS2:Hid (∀W d,F W->d=((W.setCell ⟨g,p*12+3,none⟩ (dt gl ri)).setCell ⟨g,p*12+4,none⟩ (dt gl ri))->F d/\LL W d/\O d):=cf λW d h e=>by
   subst s B D E e;obtain⟨H,I,h⟩:=h;exact⟨⟨_,_,h.ahR t⟩,⟨fun⟨_,h⟩=>⟨_,h.ahR t⟩,λh=>h.imp λ_ h=>h.ahR t⟩,_,h.ahR t⟩
  have CN:Hid (∀W,N W->O W->∃m,(W.heap[g]?=some (f9 m 82)/\∀j,j<C.n4->∀q,q<12->m[j*12+q]?=(G0 (dc C p z ri j))[q]?)/\∃H I,KMe C w g c p z ri H I W):=cf λW h k=>by
   subst B D;obtain⟨I,h⟩:=h;obtain⟨H,k⟩:=k;obtain⟨m,e⟩:=h.done k;exact⟨m,e,_,_,h⟩
  have CL:Hid (∀W d,LL W d->(N W->N d)/\(O W->O d)):=cf λW d h=>by rw[E]at h;exact h
  have CK:Hid (F W):=cf (by rw[s];exact⟨_,_,R.out⟩);clear s B D E R
  go_wp2_with fail
  refine bi ?_;refine ig F LL (λj=>j != 14&&j != 17) (λj _ W=>(j=14->N W)/\(j=17->O W)) rfl ae (λ_ _ W d hle h=>⟨λe=>(CL.out _ _ hle).1 (h.1 e),λe=>(CL.out _ _ hle).2 (h.2 e)⟩) (λ_ _ _ _ _ _ _ _ h=>h) ?_ ?_
  .exact(CO.out _ _ CK.out (eM _ _).drew).1
  .iterate 14 (
    apply aY
    case hE=>rfl
    case h=>
     intro vs W f hd;obtain⟨Z,f1,f2,f3,f4,f5⟩:=bf (CB.out W f);have hL:=(CO.out W W f (eM _ _)).2;go_simp
     first
      |with_reducible exact rfl
      |with_reducible exact⟨rfl,f,hL⟩
      |(go_at_call 9;(with_reducible refine(fU _ _ _).mono ?_);rintro e d⟨rfl,A⟩;exact⟨_,rfl,rfl,CO.out _ _ f A⟩)
      |trace_state
    case hb=>exact H9)
   apply eH
   case hE=>rfl
   case hb=>exact H9
   case h=>
    intro vs W f hd;obtain⟨fz,Q⟩:=CF.out W f;obtain⟨v7,h7⟩:=Q 1 ab;obtain⟨v8,h8⟩:=Q 2 ab;have R:=cf (CS1.out W _ f rfl);clear Q;go_simp;exact R.out
   iterate 2 (
    apply aY
    case hE=>rfl
    case h=>
     intro vs W f hd;have hL:=(CO.out W W f (eM _ _)).2;go_simp
     with_reducible exact⟨rfl,f,hL⟩
    case hb=>exact H9)
   apply eH
   case hE=>rfl
   case hb=>exact H9
   case h=>
    intro vs W f hd;obtain⟨fz,Q⟩:=CF.out W f;obtain⟨v7,h7⟩:=Q 3 ab;obtain⟨v8,h8⟩:=Q 4 ab;have R:=cf (CS2.out W _ f rfl);clear Q;go_simp;exact R.out
   refine cP λvs W f hd=>?_;have K2:=cf (CN.out W ((hd 14 ab rfl).1 rfl) ((hd 17 ab rfl).2 rfl));refine f8 ?_;clear f hd;obtain⟨m,⟨J,BU⟩,H,I,hK⟩:=K2.out;have HK:=cf hK;have HR:=cf BU;have HCU:=cf J;have S:=hK.res;obtain⟨y0,y1,y2,y3,y4,y5⟩:=bf S;obtain⟨g0,g1,g2,g3,g4,g5⟩:=bf hK.box;have fz:=tO S;have hzr:=cd S;clear S hK BU J;go_wp2;have S:=HK.out.res;have hWF:=nC (u0:=dt gl C.l) (u1:=dt gl C.p) (u2:=dL C.b2 C.n2 C.c2) (u3:=dL C.b3 C.n3 C.c3) (u4:=dL (some ⟨g,0,none⟩) C.n4 c) (u5:=dL C.b5 C.n5 C.c5) S;refine aJ (v:=dC (C.s9 (dc C p z ri) g c).val) ?_ rfl ⟨g,c,rfl,?_,?_⟩
   .obtain⟨a0,a1,a2,a3,a4,a5⟩:=bf hWF;simp[aP,Tryz.results8,go_sem,a0,a1,a2,a3,a4,a5,CD.s9]
   .have qv:=dk HK.out.low (k:=w.heap.size+1) ab (dt gl C.l) (dt gl C.p) (dL C.b2 C.n2 C.c2) (dL C.b3 C.n3 C.c3) (dL (some ⟨g,0,none⟩) C.n4 c) (dL C.b5 C.n5 C.c5);have ho:=HK.out.own;have e':=(cM (W:=W) (r:=w.heap.size+1) (u0:=dt gl C.l) (u1:=dt gl C.p) (u2:=dL C.b2 C.n2 C.c2) (u3:=dL C.b3 C.n3 C.c3) (u4:=dL (some ⟨g,0,none⟩) C.n4 c) (u5:=dL C.b5 C.n5 C.c5) (show g≠w.heap.size+1 by omega)).trans HCU.out;refine ahQ HA.out qv (λi=>R9 C p z ri i) (cd e') λj hj q hq=>?_;have:=HR.out j hj q hq;simp only[dU,e'];exact this
   .exact dk HK.out.low ab _ _ _ _ _ _
end Go.Proofs
namespace Go.Proofs
open Go.RowKit Go.Shelf
def CD.L0(C:CD)(f:Nat->Int×Int)(g c:Nat):CD:={ C with b2:=some ⟨g,0,none⟩,k2:=g,o2:=0,c2:=c,x2:=f }
def ahg{C:CD}{w W:ac}{f:Nat->Int×Int}{g c:Nat}(h:C.At w)(b:bA w W)(hg:g<W.heap.size)(a:∀j,j<C.n2->W.cell? ⟨g,j*2,none⟩=some (dt gl (f j).1)/\W.cell? ⟨g,j*2+1,none⟩=some (dt gl (f j).2)):(C.L0 f g c).At W:=by
 have k:=h.below b;refine⟨k.m2,k.m3,k.m4,k.m5,hg,k.h3,k.h4,k.h5,λ_=>rfl,k.s3,k.s4,k.s5,λi hi=>?_,λi hi=>?_,k.Es,k.Et,k.Eu,k.cu,k.AD,k.dB,k.nj,k.l4,k.J5,k.nm5,k.FI,k.HU,k.J6⟩
 .show W.cell? ⟨g,0+i*2,none⟩=_;rw[b1];exact(a i hi).1
 .show W.cell? ⟨g,0+i*2+1,none⟩=_;rw[b1];exact(a i hi).2
def aaf(d:Int)(x:Int×Int):Int×Int:=(max 0 (x.1-d),min 90 (x.2+d))
def P0(C:CD)(r:Nat)(d:Int)(i:Nat):Int×Int:=if i=r then aaf d (C.x2 i) else C.x2 i
def abX{C:CD}(hc:C.cx=0){i:Nat}(hi:i<C.n2):0<=(C.x2 i).1/\(C.x2 i).1<=(C.x2 i).2/\(C.x2 i).2<=90:=by
 have a:pq C.n2 C.x2=0:=ck hc 1 ab;unfold pq at a;split at a
 case isFalse=>cases a
 split at a
 case isFalse=>cases a
 rename_i h;have:=List.all_eq_true.1 h i (List.mem_range.2 hi);simp only[eK,ft,decide_eq_true_eq]at this;omega
def abl{C D:CD}(hc:C.cx=0)(a:D.l=C.l/\D.p=C.p)(d:pq D.n2 D.x2=0)(c:D.n3=C.n3/\D.x3=C.x3)(e:kA D.p D.n2 D.n3 D.n4 D.x4=0)(b:D.n4=C.n4/\D.n5=C.n5/\D.x5=C.x5):D.cx=0:=by
 refine cz λj f=>?_;obtain rfl|rfl|rfl|rfl|rfl:j=0\/j=1\/j=2\/j=3\/j=4:=ab
 .have:jd C.l C.p=0:=ck hc 0 ab;show jd D.l D.p=0;rw[a.1,a.2];exact this
 .exact d
 .have:kz C.p C.n3 C.x3=0:=ck hc 2 ab;show kz D.p D.n3 D.x3=0;rw[a.2,c.1,c.2];exact this
 .exact e
 .have:pE C.n4 C.n5 C.x5=0:=ck hc 4 ab;show pE D.n4 D.n5 D.x5=0;rw[b.1,b.2.1,b.2.2];exact this
def acr{C:CD}(hc:C.cx=0)(r:Nat)(d:Int)(hd:0<=d)(g c:Nat):(C.L0 (P0 C r d) g c).cx=0:=by
 have a:pq C.n2 C.x2=0:=ck hc 1 ab;refine abl hc ⟨rfl,rfl⟩ ?_ ⟨rfl,rfl⟩ (ck hc 3 ab) ⟨rfl,rfl,rfl⟩;show pq C.n2 (P0 C r d)=0;unfold pq at a⊢;split at a
 case isFalse=>cases a
 rename_i hb;rw[if_pos hb,if_pos];refine List.all_eq_true.2 λi hi=>?_;have:=abX hc (List.mem_range.1 hi);unfold P0 aaf;simp only[eK,ft,decide_eq_true_eq];split<;>(try simp only[])<;>omega
def acu{C:CD}(hc:C.cx=0)(p:Nat)(y:p<C.n4)(sl ri:Int)(hs:(C.x4 p).n 1<=sl/\sl<=(C.x4 p).n 2)(z:(C.x4 p).n 3<=ri/\ri<=(C.x4 p).n 4)(g c:Nat):(C.s9 (dc C p sl ri) g c).cx=0:=by
 have k:kA C.p C.n2 C.n3 C.n4 C.x4=0:=ck hc 3 ab;refine abl hc ⟨rfl,rfl⟩ (ck hc 1 ab) ⟨rfl,rfl⟩ ?_ ⟨rfl,rfl,rfl⟩;show kA C.p C.n2 C.n3 C.n4 (dc C p sl ri)=0;unfold kA at k⊢;split at k
 case isFalse=>cases k
 rename_i hb;rw[if_pos hb];refine cz λi hi=>?_;have a:=ck k i hi;obtain⟨a1,a2,a3,a4,s,t⟩:=Kq hc hi;have nm:∀j,(dc C p sl ri j).name=(C.x4 j).name:=λj=>(R9 C p sl ri j).name;have d:∀q,5<=q->(dc C p sl ri i).n q=(C.x4 i).n q:=λq h=>by
  unfold dc;split
  .simp only[KD];rw[if_neg ab,if_neg ab]
  .rfl
 have r:∃f l m o,(dc C p sl ri i).n 1=f/\(dc C p sl ri i).n 2=l/\(dc C p sl ri i).n 3=m/\(dc C p sl ri i).n 4=o/\1<=f/\f<=l/\l<=90/\-f<=m/\m<=o/\o<=f:=by
  by_cases e:i=p
  .subst e;refine⟨sl,sl,ri,ri,by simp[dc,KD],by simp[dc,KD],by simp[dc,KD],by simp[dc,KD],?_⟩;omega
  .refine⟨_,_,_,_,by rw[dc,if_neg e],by rw[dc,if_neg e],by rw[dc,if_neg e],by rw[dc,if_neg e],a1,a2,a3,a4,s,t⟩
 obtain⟨f,l,m,o,e1,u,v,w,b⟩:=r;unfold gM at a ⊢;simp only[nm,d 5 ab,d 6 ab,d 7 ab,d 8 ab,d 9 ab,d 10 ab,(R9 C p sl ri i).ln,(R9 C p sl ri i).lane,e1,u,v,w];split at a
 case isFalse h=>exact absurd a h
 rename_i x;rw[if_pos x];split at a
 case isFalse=>cases a
 split at a
 .cases a
 rw[if_pos (by simp only[eK,ft,decide_eq_true_eq];omega),if_neg ab];exact a
def abN{c d:Int}{f g:Nat}{x:Int}:x∈cJ c d f g↔∃k,k<f/\∃j,j<g/\x=lv (c+(k:Nat)) (d+(j:Nat)):=by
 unfold cJ fD;simp only[List.mem_flatMap,ep,em];constructor
 .rintro⟨k,a,j,b,e⟩;exact⟨k,a,j,b,e.symm⟩
 .rintro⟨k,a,j,b,e⟩;exact⟨k,a,j,b,e.symm⟩
def abx{C:CD}{i:Nat}:C.Cm i=1↔∀x,x∈(C.x4 i).NY->C.zR i x=true:=by
 have k:((C.x4 i).NY.any λx=>!C.zR i x)=false↔∀x,x∈(C.x4 i).NY->C.zR i x=true:=by
  rw[List.any_eq_false];exact⟨λh x a=>by have:=h x a;simpa using this,λh x a=>by simp[h x a]⟩
 rw[<-k,CD.Cm,Ej];cases((C.x4 i).NY.any λx=>!C.zR i x)
 .simp
 .cases((C.x4 i).NY.any (C.zR i))<;>simp
def acv{C:CD}(p:Nat)(sl ri:Int)(hs:(C.x4 p).n 1<=sl/\sl<=(C.x4 p).n 2)(o:(C.x4 p).n 3<=ri/\ri<=(C.x4 p).n 4)(g c i:Nat)(h:C.Cm i=1):(C.s9 (dc C p sl ri) g c).Cm i=1:=by
 rw[abx]at h⊢;intro x a;have f:(dc C p sl ri i).n 5=(C.x4 i).n 5:=by
  unfold dc;split
  .simp only[KD];rfl
  .rfl
 have l:(C.s9 (dc C p sl ri) g c).zR i x=C.zR i x:=by
  show bO x (C.x2 ((dc C p sl ri i).n 5).toNat).1 (C.x2 ((dc C p sl ri i).n 5).toNat).2=bO x (C.x2 ((C.x4 i).n 5).toNat).1 (C.x2 ((C.x4 i).n 5).toNat).2;rw[f]
 rw[l];refine h x ?_;have a:x∈(dc C p sl ri i).NY:=a;by_cases e:i=p
 .subst e;have m:dc C i sl ri i=KD sl ri (C.x4 i):=if_pos rfl;rw[m]at a;obtain⟨k,b,j,d,rfl⟩:=abN.1 a;simp only[KD]at b d ⊢;simp at b d;refine abN.2 ⟨(sl-(C.x4 i).n 1).toNat,ab,(ri-(C.x4 i).n 3).toNat,ab,?_⟩;subst b d;simp only[if_true,true_or];congr 1
  .simp;omega
  .simp;omega
 .rw[dc,if_neg e]at a;exact a
def acw{C:CD}(r:Nat)(d:Int)(hd:0<=d)(hc:C.cx=0)(g c i:Nat)(hi:i<C.n4)(h:C.Cm i=1):(C.L0 (P0 C r d) g c).Cm i=1:=by
 rw[abx]at h⊢;intro x a;have:=h x a;have e:=abX hc (i:=((C.x4 i).n 5).toNat) (by have:=Rt hc hi;omega);show bO x (P0 C r d ((C.x4 i).n 5).toNat).1 (P0 C r d ((C.x4 i).n 5).toNat).2=true;have b:bO x (C.x2 ((C.x4 i).n 5).toNat).1 (C.x2 ((C.x4 i).n 5).toNat).2=true:=this;rw[Q3]at b⊢;unfold P0 aaf;split<;>(try simp only[])<;>omega
def ahh{x a y:Int}(h:x<=a):scr x y<=scr a y:=by
 unfold scr;split<;>split<;>(try split)<;>(try split)<;>omega
def abh{C D:CD}(ps:List (Int×Int))(b:D.n4=C.n4)(c:0<C.n4)(d:∀q,q<C.n4->C.Cm q=1->D.Cm q=1)(a:∀i,i<ps.length->0<=(ps.getD i (0,0)).1):∀i,i<=ps.length->H8 C ps i<=H8 D ps i
 |0,_=>f7 _
 |i+1,hi=>by
  have f:=abh ps b c d a i ab;simp only[H8];rw[b];have g:=a i ab;have:=d (i % C.n4) (b8 _ c);have k:scr (if C.Cm (i % C.n4)=1 then(ps.getD i (0,0)).1 else 0) (ps.getD i (0,0)).2<=scr (if D.Cm (i % C.n4)=1 then(ps.getD i (0,0)).1 else 0) (ps.getD i (0,0)).2:=by
   refine ahh ?_;by_cases e:C.Cm (i % C.n4)=1
   .rw[if_pos e,if_pos (this e)];exact f7 _
   .rw[if_neg e];split<;>omega
  omega
attribute [local go_sem] Oper.semAt_some
def CD.acy(C:CD):C.abA.length=C.n2*2:=L2 (f:=λi=>abz (C.x2 i)) (m:=2) (λ_=>rfl) _
def CD.ahS(C:CD){i j:Nat}(hi:i<C.n2)(a:j<2):C.abA[i*2+j]?=(abz (C.x2 i))[j]?:=abc (λ_=>rfl) hi a
def CD.ahi(C:CD):∀u∈C.abA,u.oneCell'=true:=by
 intro u a;obtain⟨i,_,h⟩:=List.mem_flatMap.1 a;simp only[abz,List.mem_cons,List.not_mem_nil,or_false]at h
 rcases h with rfl|rfl<;>rfl
def CD.At.abA{C:CD}{w:ac}(h:C.At w)(h2:0<C.n2):∀j u,C.abA[j]?=some u->w.cell? ⟨C.k2,C.o2+j,none⟩=some u:=by
 intro j u e;obtain⟨k,o,hb,_,hc⟩:=h.rows.anY.cells h2;rw[h.s2 h2]at hb;cases hb;exact hc j u e
def abO(C:CD)(f:Nat->iJ)(g c:Nat)(ps:List (Int×Int)):∀i,H8 (C.s9 f g c) ps i=H8 (C.s9 f 0 0) ps i
 |0=>rfl
 |i+1=>by
  simp only[H8];rw[abO C f g c ps i];rfl
def aby(C:CD)(f:Nat->Int×Int)(g c:Nat)(ps:List (Int×Int)):∀i,H8 (C.L0 f g c) ps i=H8 (C.L0 f 0 0) ps i
 |0=>rfl
 |i+1=>by
  simp only[H8];rw[aby C f g c ps i];rfl
structure KWd(C:CD)(w:ac)(z g c r:Nat)(d:Int)(s:Bool)(W:ac):Prop where
 low:bA w W
 abw:W.heap[w.heap.size]?=some (f9 C.val 27)
 box:W.heap[z]?=some (f9 #[dt gl C.l,dt gl C.p,dL (some ⟨g,0,none⟩) C.n2 c,dL C.b3 C.n3 C.c3,dL C.b4 C.n4 C.c4,dL C.b5 C.n5 C.c5] 27)
 own:w.heap.size<z/\z<g
 row:∃cur,W.heap[g]?=some (f9 cur 39)/\C.n2*2<=cur.size/\∀j,j<C.n2->∀q,q<2->cur[j*2+q]?=(abz (if j=r/\s=true then aaf d (C.x2 j) else C.x2 j))[q]?
def KWd.on{C:CD}{w W b:ac}{z g c r:Nat}{d:Int}{s:Bool}(h:KWd C w z g c r d s W)(a:bA W b):KWd C w z g c r d s b:=
 ⟨df h.low a,(a.block _ (cd h.abw)).trans h.abw,(a.block _ (cd h.box)).trans h.box,h.own,h.row.imp λ_ k=>⟨(a.block _ (cd k.1)).trans k.1,k.2⟩⟩
def KWd.has{C:CD}{w W:ac}{z g c r:Nat}{d:Int}{s:Bool}(h:KWd C w z g c r d s W){i:Nat}(hi:i<C.n2){q:Nat}(b:q<2):∃v,W.cell? ⟨g,i*2+q,none⟩=some v:=by
 obtain⟨a,e,hs,_⟩:=h.row;simp only[dU,e];exact⟨a[i*2+q]' ab,ar⟩
def KWd.acp{C:CD}{w W:ac}{z g c r:Nat}{d:Int}{s:Bool}(h:KWd C w z g c r d s W)(n:r<C.n2) :
 KWd C w z g c r d true ((W.setCell ⟨g,r*2,none⟩ (dt gl (aaf d (C.x2 r)).1)).setCell ⟨g,r*2+1,none⟩ (dt gl (aaf d (C.x2 r)).2)):=by
 obtain⟨a,e,hs,b⟩:=h.row;have o:=h.own;have hg:w.heap.size<=g:=ab;refine⟨(h.low.setCell (p:=⟨g,_,none⟩) hg _).setCell (p:=⟨g,_,none⟩) hg _,?_,?_,h.own,_,Fe (Fe e),by simpa using hs,λj i q k=>?_⟩
 .rw[aZ ab,aZ ab];exact h.abw
 .rw[aZ ab,aZ ab];exact h.box
 .have l:=b j i q k;simp only[fg,fi];by_cases f:j=r
  .subst f;have m:j*2+q<a.size:=ab;obtain rfl|rfl:q=0\/q=1:=ab
   .simp[abz];omega
   .simp[m,abz]
  .rw[if_neg ab,if_neg ab,l,if_neg (λh=>f h.1),if_neg (λh=>f h.1)]
def KWd.at_{C:CD}{w W:ac}{z g c r:Nat}{d:Int}(h:KWd C w z g c r d true W)(hA:C.At w):(C.L0 (P0 C r d) g c).At W:=by
 obtain⟨i,e,hs,a⟩:=h.row;refine ahg hA h.low (cd e) λj b=>?_;have f:=a j b 0 ab;have k:=a j b 1 ab;have key:(if j=r/\True then aaf d (C.x2 j) else C.x2 j)=P0 C r d j:=by unfold P0;simp
 simp only[dU,e];rw[bM]at f;rw[f,k];simp only[key,abz];exact⟨rfl,rfl⟩
def agH{C:CD}(hc:C.cx=0):1<=C.n2/\C.n2<=3:=by
 have a:pq C.n2 C.x2=0:=ck hc 1 ab;unfold pq at a;split at a
 case isFalse=>cases a
 rename_i hb;rw[Q3]at hb;omega
def aii(x:Int×Int):Prop:=(0<=x.1/\x.1<=60)/\(0<=x.2/\x.2<=60)
def acz(hwk:∀w,ad PL 5 #[] w (aO (dv true) w))(C:CD)(ps:List (Int×Int))(v:aa)(k s d:Int)(sl ri:Int)(w:ac)(h:C.Mem w)(hk:0<=k/\k<=255)(hs:0<=s/\s<=255)(hd:0<=d/\d<=255)(hsl:0<=sl/\sl<=65535)(hri:0<=ri/\ri<=65535)(hv:abg w v ps) :
 ad PL 3 #[dC C.val,v,dt .u8 k,dt .u8 s,dt .u8 d,dt gp sl,dt gp ri] w (aO (dv true) w):=by
 have HM:Hid (∀W,bA w W->C.Mem W):=cf λW f=>h.below f;have RV:=cf hv;have HW:=cf hwk;have HN:=cf (fB hk (fB hs (fB hd (fB hsl hri))));obtain⟨b,c,rfl,_⟩:=hv;obtain⟨n,Va⟩:=br ps.length;rw[<-Va];have F:=cf Va;have Y:Hid (KB C w (w.alloc (f9 C.val 27))):=cf ⟨au _ _,(eM _ _).alloc (bC _) _⟩;clear h hwk hk hs hd hsl hri Va;by_cases R:C.LR=true
 case neg=>
  have hff:C.LR=false:=by simpa using R
  have HG:Hid (∀W,C.Mem W->ad PL 4 #[dC C.val] W (aO (dv false) W)):=cf λW A=>by have:=afD C W A;rwa[hff]at this
  clear R hff;go_enter (fx ao da),db;obtain⟨L,M,I,N,f4,O⟩:=bf Y.out.box
  go_wp2_with (first
   |(go_at_call 4;refine(HG.out _ (HM.out _ Y.out.low)).mono ?_;rintro e w1⟨rfl,J⟩;have S:=cf (Y.out.on J);clear J)
   |(go_at_call 5;refine(HW.out _).mono ?_;rintro e w2⟨rfl,K⟩;have U:=cf (S.out.on K);clear K))
  go_ret;exact⟨rfl,U.out.low⟩
 have Z:Hid (C.small=true/\C.cx=0):=cf (by simpa[CD.LR]using R);have HA:Hid (∀W,bA w W->C.At W):=cf λW f=>CD.At.Ri (HM.out W f) Z.out.1;have HG:Hid (∀W,C.Mem W->ad PL 4 #[dC C.val] W (aO (dv true) W)):=cf λW A=>by have:=afD C W A;rwa[R]at this
 clear R;by_cases aoi:n<=20
 case neg=>
  have Zb:(20:Int)<n:=ab;clear aoi;go_enter (fx ao da),db;obtain⟨L,M,I,N,f4,O⟩:=bf Y.out.box
  go_wp2_with (first
   |(go_at_call 4;refine(HG.out _ (HM.out _ Y.out.low)).mono ?_;rintro e w1⟨rfl,J⟩;have S:=cf (Y.out.on J);clear J)
   |(go_at_call 5;refine(HW.out _).mono ?_;rintro e w2⟨rfl,K⟩;have U:=cf (S.out.on K);clear K))
  go_ret;exact⟨rfl,U.out.low⟩
 have Zb:¬(20:Int)<n:=ab;go_enter (fx ao da),db;obtain⟨L,M,I,N,f4,O⟩:=bf Y.out.box
 go_upto_region 3 with(go_at_call 4;refine(HG.out _ (HM.out _ Y.out.low)).mono ?_;rintro e w1⟨rfl,J⟩;have S:=cf (Y.out.on J);clear J;clear L M I N f4 O)
 go_wp2;clear Zb Y
 go_loopw [15] (λv15 wr=>∃i:Nat,i<=n/\v15=dt gl i/\(∀j,j<i->aii (ps.getD j (0,0)))/\KB C w wr) (λv15 _=>n-(intOf v15).toNat)
 case atStart=>exact⟨0,bR _,rfl,λj hj=>ab,S.out⟩
 case round=>
  obtain⟨i,hi,rfl,oh,hK⟩:=hrel;have KR:=cf hK;have am4:=cf oh;clear hK oh S;obtain⟨L,M,I,N,f4,O⟩:=bf KR.out.box;by_cases aH:i<n
  .have i2:(i:Int)<n:=ab;obtain⟨b',c',e,hcell⟩:=RV.out.on KR.out.low;rw[<-F.out]at e hcell;cases e;obtain⟨k1,o1,rfl,zz,lp⟩:=hcell ab;obtain⟨x0,x1⟩:=lp i aH;obtain⟨x,hx⟩:=br ((ps.getD i (0,0)).1);obtain⟨y,hy⟩:=br ((ps.getD i (0,0)).2);rw[<-hx]at x0;rw[<-hy]at x1;have HXY:Hid (x=(ps.getD i (0,0)).1/\y=(ps.getD i (0,0)).2):=cf ⟨hx,hy⟩;clear hcell lp hx hy;by_cases jM:bO x 0 60=true
   .have BX:Hid (∀W,ad PL 6 #[dt gl x,dt gl 0,dt gl 60] W λe w'=>e=gf (dv true)/\W=w'):=cf λW=>kH jM W;have Ce:=cf jM;clear jM;by_cases V:bO y 0 60=true
    .have BY:Hid (∀W,ad PL 6 #[dt gl y,dt gl 0,dt gl 60] W λe w'=>e=gf (dv true)/\W=w'):=cf λW=>kH V W;have HBY:=cf V;clear V
     go_wp2_with (go_at_call 6;first|(with_reducible refine(BX.out _).mono ?_;rintro e w'⟨rfl,rfl⟩)|(with_reducible refine(BY.out _).mono ?_;rintro e w'⟨rfl,rfl⟩))
     refine⟨⟨i+1,aH,by go_num,λj hj=>?_,KR.out⟩,by simp only[intOf];omega⟩
     rcases Nat.lt_succ_iff_lt_or_eq.1 hj with hj|rfl
     .exact am4.out j hj
     .unfold aii;rw[<-HXY.out.1,<-HXY.out.2];exact⟨Q3.1 Ce.out,Q3.1 HBY.out⟩
    .have BY:Hid (∀W,ad PL 6 #[dt gl y,dt gl 0,dt gl 60] W λe w'=>e=gf (dv false)/\W=w'):=cf λW=>vQ (by simpa using V) W;clear V
     go_wp2_with (first
      |(go_at_call 6;first|(with_reducible refine(BX.out _).mono ?_;rintro e w'⟨rfl,rfl⟩)|(with_reducible refine(BY.out _).mono ?_;rintro e w'⟨rfl,rfl⟩))
      |(go_at_call 5;refine(HW.out _).mono ?_;rintro e w2⟨rfl,K⟩;have U:=cf (KR.out.on K);clear K))
     refine aJ (v:=dv true) (by simp[aP,dd,go_sem]) rfl ⟨rfl,U.out.low⟩
   .have BX:Hid (∀W,ad PL 6 #[dt gl x,dt gl 0,dt gl 60] W λe w'=>e=gf (dv false)/\W=w'):=cf λW=>vQ (by simpa using jM) W;clear jM
    go_wp2_with (first
     |(go_at_call 6;(with_reducible refine(BX.out _).mono ?_);rintro e w'⟨rfl,rfl⟩)
     |(go_at_call 5;refine(HW.out _).mono ?_;rintro e w2⟨rfl,K⟩;have U:=cf (KR.out.on K);clear K))
    refine aJ (v:=dv true) (by simp[aP,dd,go_sem]) rfl ⟨rfl,U.out.low⟩
  .obtain rfl:i=n:=ab;obtain⟨h41,h42⟩:=ac5 Z.out.2;have h2:1<=C.n2/\C.n2<=3:=agH Z.out.2;have emod:∀(n:Int)(m:Nat),0<m->∃q:Nat,n % (m:Int)=(q:Int)/\q<m:=λn m hm=>⟨(n % (m:Int)).toNat,by have:=fY n (show(m:Int)≠0 by omega);have:=f6 n (show(0:Int)<m by omega);omega⟩
   obtain⟨p,hp,hp4⟩:=emod k C.n4 ab;obtain⟨r,hr,Tk⟩:=emod s C.n2 ab;clear emod;obtain⟨⟨WB,zz⟩,⟨hs0,vL⟩,⟨hd0,hd1⟩,⟨hl0,zi⟩,MW,GM⟩:=HN.out;have wk:IntKind.i64.wrap k=k:=fP _ ab;have ws:IntKind.i64.wrap s=s:=fP _ ab;have wd:IntKind.i64.wrap d=d:=fP _ ab;have tk:k.tmod (C.n4:Int)=(p:Int):=by rw[fR WB];exact hp
   have ts:s.tmod (C.n2:Int)=(r:Int):=by rw[fR hs0];exact hr
   have asj:¬(C.n4:Int)=0:=ab;have auI:¬(C.n2:Int)=0:=ab;have asl:¬C.n4=0:=ab;have ayS:¬C.n2=0:=ab;obtain⟨a1,a2,a3,a4,a5,a6⟩:=Kq Z.out.2 hp4;obtain⟨E,hE⟩:=br (dc C p (N5 ((C.x4 p).n 1) ((C.x4 p).n 2) sl) (N5 ((C.x4 p).n 3) ((C.x4 p).n 4) ri));have HPS:Hid (∀j,j<ps.length->(0<=(ps.getD j (0,0)).1/\(ps.getD j (0,0)).1<=60)/\(0<=(ps.getD j (0,0)).2/\(ps.getD j (0,0)).2<=60)):=cf (by rw[<-F.out];exact am4.out);have AL:Hid (∀(D:CD)W,D.cx=0->D.At W->bA w W->ad PL 7 #[dC D.val,dL b i c] W λe w'=>e=gf (dO #[dt gl (H8 D ps i),dv true])/\bA W w'):=cf λD W hD A f=>by
    have:=aco D hD ps (by rw[<-F.out];omega) HPS.out (dL b i c) W A (by rw[F.out];exact RV.out.on f);rwa[<-F.out]at this
   obtain⟨m0,hm0⟩:=br (H8 C ps i);obtain⟨m1,hm1⟩:=br (H8 (C.s9 E 0 0) ps i);obtain⟨m2,hm2⟩:=br (H8 (C.L0 (P0 C r d) 0 0) ps i);have g1:m0<=m1:=by
    rw[hm0,hm1,hE];exact abh (C:=C) (D:=C.s9 _ 0 0) ps rfl ab (λq _ h=>acv p _ _ (abe a2) (abe a5) 0 0 q h) (λj hj=>(HPS.out j hj).1.1) i (by rw[<-F.out];exact bC _)
   have g2:m0<=m2:=by
    rw[hm0,hm2];exact abh (C:=C) (D:=C.L0 _ 0 0) ps rfl ab (λq hq h=>acw r d hd0 Z.out.2 0 0 q hq h) (λj hj=>(HPS.out j hj).1.1) i (by rw[<-F.out];exact bC _)
   have A0:Hid (∀W,bA w W->ad PL 7 #[dC C.val,dL b i c] W λe w'=>e=gf (dO #[dt gl m0,dv true])/\bA W w'):=cf λW f=>by rw[hm0];exact AL.out C W Z.out.2 (HA.out W f) f
   have A1:Hid (∀W a c0,(C.s9 E a c0).At W->bA w W->ad PL 7 #[dC (C.s9 E a c0).val,dL b i c] W λe w'=>e=gf (dO #[dt gl m1,dv true])/\bA W w'):=cf λW a c0 A f=>by
    have:=AL.out (C.s9 E a c0) W (by rw[hE];exact acu Z.out.2 p hp4 _ _ (abe a2) (abe a5) a c0) A f;rwa[abO,<-hm1]at this
   have A2:Hid (∀W a c0,(C.L0 (P0 C r d) a c0).At W->bA w W->ad PL 7 #[dC #[dt gl C.l,dt gl C.p,dL (some ⟨a,0,none⟩) C.n2 c0,dL C.b3 C.n3 C.c3,dL C.b4 C.n4 C.c4,dL C.b5 C.n5 C.c5],dL b i c] W λe w'=>e=gf (dO #[dt gl m2,dv true])/\bA W w'):=cf λW a c0 A f=>by
    have:=AL.out (C.L0 (P0 C r d) a c0) W (acr Z.out.2 r d hd0 a c0) A f;rwa[aby,<-hm2]at this
   have ME:Hid (∀W,bA w W->ad PL 8 #[dC C.val,dt gl p,dt gp sl,dt gp ri] W λe w'=>∃a c0,e=gf (dC (C.s9 E a c0).val)/\(C.s9 E a c0).At w'/\bA W w'):=cf λW f=>by rw[hE];exact abW C Z.out.2 p hp4 sl ri ⟨hl0,zi⟩ ⟨MW,GM⟩ W (HA.out W f)
   have S4:=cf ((HA.out w (eM _ _)).s4 ab);have S2:=cf ((HA.out w (eM _ _)).s2 ab);clear AL hm0 hm1 hm2 hE HPS am4 a1 a2 a3 a4 a5 a6 hp hr aH hi RV
   go_upto_region 9 with(go_at_call 7;(with_reducible refine(A0.out _ KR.out.low).mono ?_);rintro e w1⟨rfl,J⟩;have S:=cf (KR.out.on J);clear J)
   refine bi ?_;refine ig (KB C w) (λW B=>∀a c0,(C.s9 E a c0).At W->(C.s9 E a c0).At B) (λj=>j != 9) (λj vs W=>j=9->∃a c0,vs 9=dC (C.s9 E a c0).val/\(C.s9 E a c0).At W) rfl ae (λi vs W B hle h e=>(h e).imp λa h=>h.imp λc0 h=>⟨h.1,hle _ _ h.2⟩) (λi o ho vs eX W he hd h e=>by subst e;rw[<-he];exact h rfl) ?_ ?_
   .exact S.out.on (eM _ _).drew
   .iterate 9 (
     apply aY
     case hE=>rfl
     case h=>
      intro vs W t hd;obtain⟨L,M,I,N,f4,O⟩:=bf t.box;go_simp
      first
       |with_reducible exact rfl
       |with_reducible exact⟨rfl,λ_ _ h=>h⟩
       |with_reducible exact⟨rfl,t,λ_ _ h=>h⟩
       |trace_state
     case hb=>exact H9)
    apply eH
    case hE=>rfl
    case hb=>exact H9
    case h=>
     intro vs W t hd;go_simp
     go_at_call 8
     (with_reducible refine(ME.out W t.low).mono ?_)
     rintro e B⟨a,c0,rfl,A,f⟩;exact⟨_,rfl,t.on f,λ_ _ h=>h.below f,a,c0,by simp[upd],A⟩
    apply aY
    case hE=>rfl
    case h=>
     intro vs W t hd;go_simp
     first
      |with_reducible exact rfl
      |with_reducible exact⟨rfl,λ_ _ h=>h⟩
      |with_reducible exact⟨rfl,t,λ_ _ h=>h⟩
    case hb=>exact H9
    apply aY
    case hE=>rfl
    case h=>
     intro vs W t hd;obtain⟨a,c0,h9,A⟩:=hd ⟨9,.data⟩ (cH.2 ⟨ar,rfl⟩) rfl rfl;rw[h9];go_simp
     go_at_call 7
     (with_reducible refine(A1.out W a c0 A t.low).mono ?_)
     rintro e B⟨rfl,f⟩;exact⟨_,rfl,rfl,t.on f,λ_ _ h=>h.below f⟩
    case hb=>exact H9
    iterate 5 (
     apply aY
     case hE=>rfl
     case h=>
      intro vs W t hd;go_simp
      first
       |with_reducible exact rfl
       |with_reducible exact⟨rfl,λ_ _ h=>h⟩
       |with_reducible exact⟨rfl,t,λ_ _ h=>h⟩
       |trace_state
     case hb=>exact H9)
    refine cP λvs W t hd=>?_;refine f8 ?_;have U:=cf t;clear t hd;obtain⟨H,hW3⟩:=br (W.alloc (f9 C.val 27));obtain⟨z,hz⟩:=br W.heap.size;have Z1:Hid (H.heap[z]?=some (f9 C.val 27)/\w.heap.size<z/\z<H.heap.size):=cf (by rw[hW3,hz];exact⟨au _ _,cd U.out.box,ar⟩);have K3:Hid (KB C w H):=cf (by rw[hW3];exact U.out.alloc _);obtain⟨L,M,I,N,f4,O⟩:=bf U.out.box
    go_upto_region 11 with fail
    rw[<-hW3,<-hz];clear hW3 hz L M I N f4 O;obtain⟨L,M,I,N,f4,O⟩:=bf K3.out.box;rw[S2.out]at I;have R2:Hid (∀j u,C.abA[j]?=some u->(H.alloc (f9 #[] 39)).cell? ⟨C.k2,C.o2+j,none⟩=some u):=cf ((HA.out _ (K3.out.alloc _).low).abA ab);have Vb:C.n2<=1000:=ab;have mF:w.heap.size<H.heap.size:=cd K3.out.box;have XZ:z<H.heap.size:=Z1.out.2.2;have HB4:Hid (bA H (H.alloc (f9 #[] 39))):=cf ((eM _ _).alloc (bC _) _)
    go_upto_region 12 with(at_builtin;refine ga (T:=22) (e:=39) VH VI rfl ao ao rfl _ _ rfl H.heap.size H.heap.size rfl (au H (f9 #[] 39)) (bC _) C.k2 C.o2 C.n2 C.c2 C.abA rfl C.acy R2.out C.ahi Vb ?_;intro v1 w4 fO hv hb4;have hb:=HB4.out.trans hb4;have B4:Hid (w4.heap[z]?=some (f9 C.val 27)):=cf ((hb.block _ Z1.out.2.2).trans Z1.out.1);have fz:=tO B4.out;have hz4:=cd B4.out;have K4:=cf (K3.out.on hb);obtain⟨g,cc,cur,rfl,hog,hg,SF⟩:=Fc.form (w:=H) ⟨fO,hv⟩;have HG:=cf (fB hog (fB hg SF));clear fO hv hog hg SF hb4 hb L M I N f4 O;obtain⟨a,g1,g2,g3,g4,g5⟩:=bf B4.out)
    have K5:Hid (KWd C w z g cc r d false (w4.setCell ⟨z,2,none⟩ (dL (some ⟨g,0,none⟩) C.n2 cc))):=cf (by
     obtain⟨hog,hg,SF⟩:=HG.out;obtain⟨z1,z2,z3⟩:=Z1.out;have hlen:=C.acy;rw[<-SF]at hlen;have h12:C.n2*2<=cur.size:=by simp at hlen;omega
     refine⟨K4.out.low.setCell (p:=⟨_,2,none⟩) (by show w.heap.size<=z;omega) _,(aZ ab).trans K4.out.box,Fe B4.out,⟨z2,ab⟩,cur,(aZ ab).trans hg,h12,λj hj q hq=>?_⟩;rw[if_neg ar,<-C.ahS hj hq,<-SF,eI ab]
     simp)
    clear HB4 R2 hz4 mF XZ fz B4 a g1 g2 g3 g4 g5 K4 K3 Z1 HG Vb;obtain⟨W5,hW5⟩:=br (w4.setCell ⟨z,2,none⟩ (dL (some ⟨g,0,none⟩) C.n2 cc));rw[<-hW5]at K5 ⊢;clear hW5;obtain⟨L,M,I,N,f4,O⟩:=bf K5.out.abw
    go_upto_region 13 with fail
    clear L M I N f4 O;obtain⟨u0,u1,u2⟩:=abX Z.out.2 Tk;obtain⟨e0,he0⟩:=br ((aaf d (C.x2 r)).1);obtain⟨e1,he1⟩:=br ((aaf d (C.x2 r)).2);have m35:e0=if d<(C.x2 r).1 then(C.x2 r).1-d else 0:=by rw[he0];simp only[aaf];split<;>omega
    have m36:e1=if(C.x2 r).2+d<90 then(C.x2 r).2+d else 90:=by rw[he1];simp only[aaf];split<;>omega
    have wm:IntKind.i64.wrap ((C.x2 r).1-d)=(C.x2 r).1-d:=fP _ ab;have wp:IntKind.i64.wrap ((C.x2 r).2+d)=(C.x2 r).2+d:=fP _ ab;have r2n:(r:Int)<C.n2:=ab;obtain⟨CC,Q⟩:∃P:ac->Prop,P=λW=>∃s1,KWd C w z g cc r d s1 W:=⟨_,rfl⟩
    obtain⟨X,hP1⟩:=br (λW=>KWd C w z g cc r d true W:ac->Prop);have CB:Hid (∀W,CC W->W.heap[z]?=some (f9 #[dt gl C.l,dt gl C.p,dL (some ⟨g,0,none⟩) C.n2 cc,dL C.b3 C.n3 C.c3,dL C.b4 C.n4 C.c4,dL C.b5 C.n5 C.c5] 27)/\W.heap[w.heap.size]?=some (f9 C.val 27)/\bA w W):=cf λW A=>by rw[Q]at A;obtain⟨_,A⟩:=A;exact⟨A.box,A.abw,A.low⟩
    have CO:Hid (∀W B,CC W->bA W B->CC B/\(X W->X B)):=cf λW B h f=>by
     subst Q hP1;exact⟨h.imp λ_ h=>h.on f,λh=>h.on f⟩
    have CF:Hid (∀W,CC W->(∀o,W.frozen? ⟨g,o,none⟩=false)/\∀q,q<2->∃v,W.cell? ⟨g,r*2+q,none⟩=some v):=cf λW h=>by rw[Q]at h;obtain⟨_,h⟩:=h;exact⟨h.row.elim λ_ k=>tO k.1,λq hq=>h.has Tk hq⟩
    have CS1:Hid (∀W B,CC W->B=((W.setCell ⟨g,r*2,none⟩ (dt gl e0)).setCell ⟨g,r*2+1,none⟩ (dt gl e1))->CC B/\(X W->X B)/\X B):=cf λW B h e=>by
     subst Q hP1 e;obtain⟨s1,h⟩:=h;rw[he0,he1];exact⟨⟨_,h.acp Tk⟩,λh=>h.acp Tk,h.acp Tk⟩
    have CN:Hid (∀W,X W->KWd C w z g cc r d true W):=cf λW h=>by subst hP1;exact h
    have CK:Hid (CC W5):=cf (by rw[Q];exact⟨_,K5.out⟩);have ME0:Hid ((e0=if d<(C.x2 r).1 then(C.x2 r).1-d else 0)/\e1=if(C.x2 r).2+d<90 then(C.x2 r).2+d else 90):=cf ⟨m35,m36⟩;clear Q hP1 K5 he0 he1 m35 m36;refine bi ?_;refine ig CC (λW B=>X W->X B) (λj=>j != 25) (λj _ W=>j=25->X W) rfl ae (λ_ _ W B hle h e=>hle (h e)) (λ_ _ _ _ _ _ _ _ h=>h) ?_ ?_
    .exact(CO.out _ _ CK.out (eM _ _).drew).1
    .iterate 25 (
      apply aY
      case hE=>rfl
      case h=>
       intro vs W t hd;obtain⟨k1,k2,k3⟩:=CB.out W t;obtain⟨L,M,I,N,f4,O⟩:=bf k1;obtain⟨q0,q1,q2,q3,q4,q5⟩:=bf k2;rw[S2.out]at q2;have hA:=HA.out W k3;have p1:=hA.Ep r Tk;have p2:=hA.Er r Tk;clear hA k1 k2 k3;have hL:X W->X W:=id;go_simp
       first
        |with_reducible exact rfl
        |with_reducible exact⟨rfl,t,hL⟩
        |with_reducible exact⟨rfl,hL⟩
        |with_reducible exact⟨rfl,t⟩
        |(go_at_call 9;(with_reducible refine(fU _ _ _).mono ?_);rintro e B⟨rfl,f⟩;exact⟨_,rfl,rfl,CO.out _ _ t f⟩)
        |trace_state
      case hb=>exact H9)
     apply eH
     case hE=>rfl
     case hb=>exact H9
     case h=>
      intro vs W t hd;obtain⟨fz,hh⟩:=CF.out W t;obtain⟨v7,h7⟩:=hh 0 ab;obtain⟨v8,h8⟩:=hh 1 ab;rw[bM]at h7;have S:=cf (CS1.out W _ t rfl);clear hh;rw[ME0.out.1,ME0.out.2]at S;go_simp;first|exact S.out|(have e1:max 0 ((C.x2 r).1-d)=if d<(C.x2 r).1 then (C.x2 r).1-d else 0:=(by split<;>omega);have e2:min 90 ((C.x2 r).2+d)=if (C.x2 r).2+d<90 then (C.x2 r).2+d else 90:=(by split<;>omega);rw[e1,e2];exact S.out)
     refine cP λvs W t hd=>?_;have K7:=cf (CN.out W (hd 25 ab rfl rfl));refine f8 ?_;clear t hd;obtain⟨L,M,I,N,f4,O⟩:=bf K7.out.box;have DA:=cf (K7.out.at_ (HA.out w (eM _ _)));have vY:m1>=m0:=g1;have BC:m2>=m0:=g2
     go_wp2_with (first
      |(go_at_call 7;(with_reducible refine(A2.out _ g cc DA.out K7.out.low).mono ?_);rintro e w1⟨rfl,J⟩;have K8:=cf (df K7.out.low J);clear J)
      |(go_at_call 5;refine(HW.out _).mono ?_;rintro e w2⟨rfl,K⟩;have K9:=cf (df K8.out K);clear K))
     all_goals refine aJ (v:=dv true) (by simp[aP,dd,go_sem]) rfl ⟨rfl,K9.out⟩
end Go.Proofs
