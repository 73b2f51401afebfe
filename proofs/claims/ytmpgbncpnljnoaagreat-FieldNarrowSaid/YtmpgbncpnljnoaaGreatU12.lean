/- Part of the proof of FieldNarrow. -/
import Derived.Test.YtmpgbncpnljnoaaGreatU11
import Derived.Deep.DeepMust
import Derived.Maps.RangeWalk
import Derived.Shelf.SlSortCmp.InsertionK
set_option linter.all false
open Go renaming Operand->ab,TypeId->ac,callsIn_wide->ad,callsIn_of_wp_marks->ae,info_parts->ag,run_takeDeferred->ai,results->ao,bodyPost_ret->ap,grownBy_putObj'->aq,execOp->ar,MapEntry->aw,underlying->aB,wpList->aF,wpList_plain->aI
open Go.World renaming size_alloc->aJ,putObj_heap_same->aP,putObj_heap_other->aS,grownBy_alloc->aT,cell?->a5,setCell->a6
open Go.RowKit.Below renaming refl->a7
open Nat renaming le_refl->a8,le_trans->a9,reduceAdd->ba,reduceSub->bc,le_succ->bg,zero_le->bi,zero_add->bj,lt_of_lt_of_le->bm,lt_irrefl->bo,le_of_lt->bp,lt_or_ge->bq
open Go.Proofs renaming getElem?_lt'->br
open Go.Lib renaming hid->bs
open Array renaming getElem?_modify->bt,replicate_succ->bv,replicate_zero->bw,getElem?_setIfInBounds_ne->bA,mem_filter->bC
open Option renaming map_some->bL
open Go.Addr renaming add->bM
open List renaming size_toArray->bR,length_cons->bT,length_nil->bX,push_toArray->b5,append_toArray->b8,nil_append->cd,cons_append->ce,length_append->cf,flatMap_append->cg,flatMap_cons->ch,append_nil->ci,getElem?_toArray->cm,getElem?_cons_succ->co,getElem?_cons_zero->cp,foldl->cq,getElem?_take_of_lt->ct,getElem?_eq_none->cu,append_assoc->cv,map_cons->cC,map_nil->cQ,map_append->c8,find?_cons->da,range->db,mem_mapIdx->dd,range_succ->df,filter_append->di,mem_range->dj,getD_eq_getElem?_getD->dk,getElem?_map->dl,mem_of_find?_eq_some->dp,getElem?_eq_getElem->dq,map_congr_left->dt
open Go.Value renaming oneCell'->du,ownBlock->dv,int->dy,func->dz,agg->dC,bool->dK,pointer->dL,slice->dO,tuple->dQ,nilFunc->dS,map->dT
open Ne renaming symm->dU
open Go.KeepsOthers renaming alloc->d8,of_grownBy->d9,setCell->ea
open Option.some renaming injEq->eb
open Go.Proofs.Below renaming zQ->ed,on->eh
open Go.Instr renaming field->ei,findNow->ej,lookup->ek,mapUpdate->em
open Go.Value.slice renaming inj->en
open Go.MapKept renaming run_getObj_map->ep
open Go.Result renaming andThen->eq,ok->et
open Bool renaming and_eq_true->eu,or_eq_true->ev
open Go.aU renaming of_heap->eA
open Go.Fn renaming func->eD
open Go.Obj renaming deferred->eE,loop->eF,cells->eI,map->eM,mapIter->eN
open Go.IntKind renaming i64->eQ
open Go.Ending renaming returned->eS
open Or renaming inl->eT,inr->eV
open Go.Ground renaming data->eW
namespace Go.Proofs
open Go.RowKit Go.Shelf
attribute [local go_sem] Oper.semAt_some
set_option maxRecDepth 100000
set_option maxHeartbeats 4000000
def yU{m:Type}{g:ab}{ps:Array Tmp}{assign body:Code}{Q:Exit->Act->World->Prop}{a:Act}{w:World}{n:Nat}(h1:1<=n){gf:Nat}{lb:Array Value}(hg:a.eval g=dz (eD gf) #[] lb)(eg:∀args w,(callFunc gf args).run PL w=et (.enter gf args) w)
 {M:m->Array Value} {q:World->World->Prop} {xs:List m} {St:World->Prop} (R:afQ (n-1) gf lb M q xs St) (XJ:∀W,Below w.heap.size w W->St W)
 (u:∀{A B C:World},q A B->q B C->q A C) (F:∀(W:World)(l:Nat)(o o':Obj),w.heap.size<=l->W.heap[l]?=some o->o.isCells=false->o.isWalk=false->q W (W.putObj l o')) (S:∀x,(M x).size=ps.size)
 (I:List m->World->Prop) (H:OwnFrom w.heap.size I) (T:AbT w.heap.size I) (h0:I [] w) (A:m->Act->World->Prop) (hA:∀x a W l o o',W.heap[l]?=some o->o.isCells=false->A x a W->A x a (W.putObj l o'))
 (U:∀{A B:World},w.heap.size<=A.heap.size->A.grownBy B none->q A B)
 (VV:∀(l:Nat)(x:m)(W:World)(K:Act->World->Prop),(∀a' y,W.grownBy y none->A x a' y->K a' y)->
   assign.wpIn (Fence.wide.inRound l) (n-1-1) PL (Exit.then K (λ_ _ _=>False)) { tmps:=(ps.zip (M x)).foldl (λt(p,v)=>t.setIfInBounds p v) a.tmps,defers:=[] } W)
 (V:∀(l:Nat)(b:List m)(x:m)(a':Act)(W:World),I b W->A x a' W->b++[x] <+: xs->body.wpIn (Fence.wide.inRound l) (n-1-1) PL (λe _ y=>match e with | .normal=>KeepsOthers W y/\q W y/\I (b++[x]) y|_=>False) a' W)
 (X:∀(D:Nat)(W:World),w.heap.size<=D->I xs W->W.heap[D]?=some (eE (some []))->Q .normal { a with defers:={ target:=.collected D,args:=#[] }::a.defers } W) :
 (Code.rangeFunc g ps assign body).wpIn Fence.wide n PL Q a w:=by
 refine wpIn_rangeFunc λfn tK=>?_;have LJ:Fence.wide.round=none:=rfl;rw[LJ];let z:LoopState->Loop:=λst=>{ state:=st,pending:=none,fn,tmps:=a.tmps,params:=ps,assign,body,defers:=w.heap.size }
 obtain⟨d,N⟩:∃d,d=(w.alloc (eE (some []))).alloc (eF (z .ready)):=⟨_,rfl⟩
 have Y:d.heap[w.heap.size+1]?=some (eF (z .ready)):=by
  grind[au,aJ]
 have hb:Below w.heap.size w d:=by rw[N];exact((a7 _ _).alloc (a8 _) _).alloc (by simp) _
 have Z:d.heap[w.heap.size]?=some (eE (some [])):=by
  rw[N];exact(((a7 (w.alloc (eE (some []))).heap.size _).alloc (a8 _) _).block _ (by simp)).trans (au w _)
 refine⟨w.heap.size+1,[{ target:=.collected w.heap.size,args:=#[] }],d,{ target:=.fn (eD gf) lb,args:=#[dz (.yield (w.heap.size+1)) #[] #[]] },d,gf,#[dz (.yield (w.heap.size+1)) #[] #[]]++lb,d,?_,?_,λf' hf'=>trivial,by simp[invoke,go_sem,eg],λ_=>h1,?_⟩
 ·rw[N];exact run_enterLoop_outer _ _ _ _ _
 ·simp only[resolve,hg];simp[go_sem]
 ·have book:∀{A B:World}{row:Option Nat}{k:Nat}{o:Obj},A.grownBy B row->(∀r,row=some r->d.heap.size<=r/\∃c t,A.heap[r]?=some (Obj.cells c t)/\t≠53/\t≠37)->A.heap[k]?=some o->o.isCells=false->B.heap[k]?=some o:=λ{A B row k o}J E f hc=>by
   refine(J.block k (br f) λe=>?_).trans f;obtain⟨_,c,t,h,_⟩:=E k e.symm;rw[f]at h;cases h;cases hc
  refine(R (w.heap.size+1) (λb W=>I b W/\W.heap[w.heap.size+1]?=some (eF (z .ready))/\W.heap[w.heap.size]?=some (eE (some []))) d (XJ _ hb) ?_ ?_ ⟨?_,Y,Z⟩).mono ?_
  ·rintro s A B row⟨hi,hl,f⟩J E;exact⟨T s A B row hi J λr e=>⟨a9 hb.size (E r e).1,(E r e).2⟩,book J E hl rfl,book J E f rfl⟩
  ·rintro b x W⟨hi,hl,f⟩Nw;refine⟨fn,_,assign,body,run_yield (P:=PL) (args:=M x) hl (S x),roundIn_of_wpIn tK (VV _ x W _ λaa O i hA1=>?_)⟩;have acY:=br hl;replace hl:=book i (λr e=>by cases e) hl rfl;replace f:=book i (λr e=>by cases e) f rfl;replace hi:=H b W O none hi i (λr e=>by cases e);have aH:=br hl;refine⟨_,run_beginRound hl rfl,?_⟩;have hl2:(O.putObj (w.heap.size+1) (eF (z .busy))).heap[w.heap.size+1]?=some (eF (z .busy)):=aP aH;have ND:(O.putObj (w.heap.size+1) (eF (z .busy))).heap[w.heap.size]?=some (eE (some [])):=(aS (by omega)).trans f;refine wpIn_mono (V _ b x aa _ (H.putObj _ hi (by omega) hl rfl) (hA _ _ _ _ _ _ hl rfl hA1) Nw) ?_;rintro e a3 W3 hp
   cases e with
   |normal=>
    obtain⟨L,alT,hi3⟩:=hp;have j:=L.same _ _ hl2 rfl;refine⟨_,_,run_endRound (P:=PL) none j,rfl,⟨H.putObj _ hi3 (by omega) j rfl,aP (br j),(aS (by omega)).trans (L.same _ _ ND rfl)⟩,?_⟩;exact u (u (u (U (by omega) i) (F O (w.heap.size+1) _ _ (by omega) hl rfl rfl)) alT) (F _ _ _ _ (by omega) j rfl rfl)
   |_=>exact hp.elim
  ·exact H [] w d none h0 (by rw[N];exact(aT w _ none).trans (aT _ _ none)) (λr e=>by cases e)
  ·rintro e W2⟨⟨v,rfl⟩,hi,hl,f⟩;exact⟨none,_,run_endLoop (P:=PL) hl (by simp[z]),X _ _ (a8 _) (H.putObj _ hi (by omega) hl rfl) ((aS (by omega)).trans f)⟩
def Fi(C:CD)(g:Int)(m5:C.n5<=3)(w:World):Calls PL 39 #[dC C.val,dy eQ g] w λe w'=>e=eS (dK (bO g 0 (C.n5-1)))/\Below w.heap.size w w':=by
 obtain⟨b,c,d,f,f4,h⟩:=bf (au w (eI C.val 27));have a:=bs (((a7 w.heap.size w).alloc (a8 _) (eI C.val 27)))
 go_enter (fx (by decide) Tryz.func39),Tryz.ntmps39
 go_wp2_with (go_at_call 49;refine(ij _ _ _ _).mono ?_;rintro e w'⟨rfl,rfl⟩)
 go_ret
 exact⟨rfl,a.out⟩
def AX(C:CD)(g:Nat)(w:World):Calls PL 41 #[dC C.val,dy eQ g] w λe w'=>e=eS (dz (eD 67) #[] #[dL (some ⟨w.heap.size,0,none⟩),dL (some ⟨w.heap.size+1,0,none⟩)])/\w'=(w.alloc (eI C.val 77)).alloc (eI #[dy eQ g] 3):=by
 go_enter (fx (by decide) Tryz.func41),Tryz.ntmps41
 go_wp2
 go_ret
 exact⟨rfl,rfl⟩
def vV(x:nR):List Value:=[dy eQ x.1,dy eQ x.2.1,dy eQ x.2.2.1,dy eQ x.2.2.2.1,dy eQ x.2.2.2.2]
def AY(W:World)(base:Nat)(v:Value)(l:List nR):Prop:=W.ownsRow base 53 5 v l.length (l.flatMap vV)
def Sf(w:World)(a:List nR)(W:World):Prop:=∃v,W.heap[w.heap.size]?=some (eI #[v] 37)/\AY W (w.heap.size+1) v a/\Below w.heap.size w W
def Fj{w W j:World}{row:Option Nat}{a:List nR}(h:Sf w a W)(hg:W.grownBy j row)(b:∀r,row=some r->w.heap.size+1<=r/\∀c,W.heap[r]?≠some (eI c 53)):Sf w a j:=by
 obtain⟨v,hb,⟨hl,d⟩,l⟩:=h;refine⟨v,(hg.block _ (br hb) λe=>by have:=(b _ e.symm).1;omega).trans hb,⟨hl,?_⟩,l.grown hg l.size λk e=>by have:=(b _ e).1;omega⟩
 rcases d with d|⟨g,cap,f,e1,m,i,n⟩
 ·exact eT d
 ·exact eV ⟨g,cap,f,e1,m,(hg.block _ (br i) λe=>(b _ e.symm).2 _ i).trans i,n⟩
def Fl(w:World):OwnFrom (w.heap.size+1) (Sf w):=λs W d row hs hg a=>Fj hs hg λr e=>⟨(a r e).1,λc h=>by
 obtain⟨_,o,b,hc⟩:=a r e
 rw[b]at h;cases h;cases hc⟩
def Sg(w:World):AbT (w.heap.size+1) (Sf w):=λs W d row hs hg a=>Fj hs hg λr e=>⟨(a r e).1,λc h=>by
 obtain⟨_,f,t,b,hc,_⟩:=a r e
 rw[b]at h;cases h;exact hc rfl⟩
def qO{w:World}{k:Nat}{x0 x1 x2 x3 x4:Value}{t:ac}(h:w.heap[k]?=some (eI #[x0,x1,x2,x3,x4] t)) :
 w.cell? ⟨k,0,none⟩=some x0/\w.cell? ⟨k,1,none⟩=some x1/\w.cell? ⟨k,2,none⟩=some x2/\w.cell? ⟨k,3,none⟩=some x3/\w.cell? ⟨k,4,none⟩=some x4:=by
 simp[a5,h]
def afX:PL.underlying 37=some (.slice 53):=by kernel_rfl
def aaV:(PL.info? 53).map (λi=>(i.zero,i.size,i.bytes))=some (some (dC #[dy eQ 0,dy eQ 0,dy eQ 0,dy eQ 0,dy eQ 0]),5,40):=by kernel_rfl
def Ny{W:World}{base e size n:Nat}{v:Value}{xs:List Value}(h:W.ownsRow base e size v n xs):∃b m c,v=dO b m c:=by
 rcases h.2 with⟨rfl,_⟩|⟨g,cap,a,rfl,_⟩<;>exact⟨_,_,_,rfl⟩
def qm{W:World}{base e size n:Nat}{v:Value}{xs:List Value}(h:W.ownsRow base e size v n xs):∀j,v.ownBlock=some j->∃cur,W.heap[j]?=some (eI cur e):=by
 rcases h.2 with⟨rfl,_⟩|⟨g,cap,cur,rfl,_,hg,_⟩
 ·intro j e;cases e
 ·intro j e;cases e;exact⟨_,hg⟩
def yV{w:World}{B:Nat}{x u:Value}{t:ac}(h:w.heap[B]?=some (eI #[x] t)):(w.setCell ⟨B,0,none⟩ u).heap[B]?=some (eI #[u] t):=by
 simp only[a6,bt,if_pos,h,bL];rfl
def VW{W:World}{b:Nat}{x:nR}(h:W.heap[b]?=some (eI #[dy eQ x.1,dy eQ x.2.1,dy eQ x.2.2.1,dy eQ x.2.2.2.1,dy eQ x.2.2.2.2] 53)):∀(j:Nat)(u:Value),(vV x)[j]?=some u->W.cell? ((⟨b,0,none⟩:Addr).add j)=some u:=by
 intro j u e
 match j,e with
 |0,e=>cases e;simp[a5,bM,h]
 |1,e=>cases e;simp[a5,bM,h]
 |2,e=>cases e;simp[a5,bM,h]
 |3,e=>cases e;simp[a5,bM,h]
 |4,e=>cases e;simp[a5,bM,h]
 |j+5,e=>simp[vV]at e
def Nz{r u:Nat}(C:CD)(g:Nat)(O:yR C g)(w:World)(hA:C.At w)(c1:w.heap[r]?=some (eI C.val 77))(P:w.heap[u]?=some (eI #[dy eQ g] 3)) :
 Calls PL 66 #[dO none 0 0,dz (eD 67) #[] #[dL (some ⟨r,0,none⟩),dL (some ⟨u,0,none⟩)]] w λe w'=>∃v,e=eS v/\AY w' (w.heap.size+1) v (mD C g C.n4)/\Below w.heap.size w w':=by
 have HA:=bs hA;have Q:=bs O;have R:=bs c1;have S:=bs P;clear hA O c1 P;refine(ad (n:=9)).1 (ae (fx (by decide) Tryz.func66) rfl trivial ?_ rfl);simp only[Tryz.ntmps66,bR,bT,bX,ba,bc,bv,bw,b5,b8,cd,ce];refine wpIn_wide.2 ?_
 go_wp2
 obtain⟨i0,hi,mF,dx,wD⟩:=ag aaV;refine(wpIn_wide (n:=9)).1 ?_;refine yU (by omega) (gf:=67) (lb:=#[dL (some ⟨r,0,none⟩),dL (some ⟨u,0,none⟩)]) rfl (enters_of (fx (by decide) Tryz.func67) (by kernel_rfl) rfl)
  (yT 8 (by omega) r u w.heap.size g C Q.out w rfl HA.out)
  (λW T=>?_) Li (λW l o U hl ho hc hw=>Lj (n:=w.heap.size) (s:=w.heap.size+1) (by omega) W l o U (by simpa using hl) ho hc hw) (λ_=>rfl)
  (Sf w) (by rw[aJ];exact Fl w) (by rw[aJ];exact Sg w) ⟨_,au _ _,⟨rfl,eT ⟨rfl,rfl⟩⟩,(a7 _ _).alloc (a8 _) _⟩
  (λx a W=>∃k,W.heap[k]?=some (eI #[dy eQ x.1,dy eQ x.2.1,dy eQ x.2.2.1,dy eQ x.2.2.2.1,dy eQ x.2.2.2.2] 53)/\a={ tmps:=#[dO none 0 0,dz (eD 67) #[] #[dL (some ⟨r,0,none⟩),dL (some ⟨u,0,none⟩)],dL (some ⟨w.heap.size,0,none⟩),undef,dO none 0 0,dL (some ⟨k,0,none⟩),dz (eD 67) #[] #[dL (some ⟨r,0,none⟩),dL (some ⟨u,0,none⟩)],dC #[dy eQ x.1,dy eQ x.2.1,dy eQ x.2.2.1,dy eQ x.2.2.2.1,dy eQ x.2.2.2.2],undef,undef,undef,undef,undef],defers:=[] })
  ?A ?kg ?assign ?body ?done
 ·have hb:=((a7 w.heap.size w).alloc (a8 _) (eI #[dO none 0 0] 37))
  have e:∀k,k<w.heap.size->W.heap[k]?=w.heap[k]?:=λk d=>(T.block k (by simp;omega)).trans (hb.block k d);exact⟨e,by have:=T.size;simp at this;omega,(e _ (br R.out)).trans R.out,(e _ (br S.out)).trans S.out⟩
 case A=>
  rintro x a W l o U hl hc⟨k,d,ha⟩;refine⟨k,(aS (λe=>?_)).trans d,ha⟩;subst e;rw[hl]at d;cases d;cases hc
 case kg=>
  intro A B hs hg;rw[aJ]at hs;exact⟨λk d=>hg.block k (by omega) (by simp),λk c t h _ _=>(hg.block k (br h) (by simp)).trans h,hg.size⟩
 case assign=>
  intro l x W K F;dsimp only[VS]
  gi_wp2
  refine F _ _ (aT W _ none) ⟨W.heap.size,au _ _,rfl⟩
 case body=>
  rintro l p x a W⟨v,i,V,X⟩⟨k,d,rfl⟩Nw;have hlen:p.length<5:=by have:=Nw.length_le;have:=Q.out.m4;rw[R7]at *;simp at *;omega
  have aH:=br i;have Ll:=br d;have b0:W.cell? ⟨w.heap.size,0,none⟩=some v:=by simp[a5,i]
  obtain⟨k0,k1,k2,k3,k4⟩:=qO d;have fb:=tO i;have H:=bs V;have Y:=bs X;have Z:=bs i;clear i d V X
  gi_wp2_with (gi_at_builtin;refine wpListIn_append_own _ rfl _ _ _ rfl (w.heap.size+1) 53 i0 _ 5 40 afX hi mF dx wD rfl (by decide) v p.length (p.flatMap vV) rfl (World.ownsRow.alloc H.out _) ⟨W.heap.size,0,none⟩ 1 1 (vV x) rfl rfl (VW (au W _)) (by simp[vV,du]) (by simp only[maxLen];omega) (by omega) (by simp;omega) ?_;intro v' w2 m f _;have I:=cZ H.out;have J:w2.heap[w.heap.size]?=some (eI #[v] 37):=(f.block _ (by simp;omega) (λe=>by have:=I _ e.symm;omega)).trans ((((a7 W.heap.size W).alloc (a8 _) _).block _ aH).trans Z.out);have fb2:=tO J;have b2:w2.cell? ⟨w.heap.size,0,none⟩=some v:=(by simp[a5,J]);obtain⟨bb,nn,cc,rfl⟩:=Ny m;have H1:=bs m;have L:=bs f;have M:=bs J;clear m f J)
  have y:∀j,v.ownBlock=some j->∃b,W.heap[j]?=some (eI b 53):=qm H.out;have I:=cZ H.out;have z:=(a7 W.heap.size W).alloc (a8 _) (eI #[dy eQ x.1,dy eQ x.2.1,dy eQ x.2.2.1,dy eQ x.2.2.2.1,dy eQ x.2.2.2.2] 53);have yp:W.heap.size<=w2.heap.size:=by have:=L.out.size;simp at this;omega
  have blk:∀q,q<W.heap.size->q≠w.heap.size->some q≠v.ownBlock->(w2.setCell ⟨w.heap.size,0,none⟩ (dO bb nn cc)).heap[q]?=W.heap[q]?:=λq m f h3=>by
   rw[aZ (dU f),L.out.block q (by simp;omega) h3,z.block q m]
  refine⟨(d8 W _).trans ((d9 L.out λj o m f=>?_).trans (ea _ _ _)),⟨λq hq=>blk q (by omega) (by omega) (λe=>by have:=I _ e.symm;omega),λq c t h m f=>(blk q (br h) (λe=>?_) (λe=>?_)).trans h,by simpa using yp⟩,?_⟩
  ·obtain⟨b,hc⟩:=y _ m;rw[z.block _ (br hc),hc]at f;cases f;rfl
  ·subst e;rw[Z.out]at h;cases h;exact f rfl
  ·obtain⟨b,hc⟩:=y _ e.symm;rw[hc]at h;cases h;exact m rfl
  ·refine⟨_,yV M.out,?_,?_⟩
   ·unfold AY;rw[cf,cg,ch,List.flatMap_nil,ci];obtain⟨e1,E⟩:=H1.out;refine⟨e1,?_⟩
    rcases E with E|⟨gg,cap,b,e2,hb,hg,E⟩
    ·exact eT E
    ·exact eV ⟨gg,cap,b,e2,hb,(aZ (by omega)).trans hg,E⟩
   ·exact((Y.out.alloc Y.out.size _).grown L.out (by simp;omega) (λk e=>by have:=I _ e;omega)).setCell (a8 _) _
 case done=>
  intro D W hD hI F;rw[aJ]at hD;have gE:=bs ((Fl w).putObj (eE none) hI (by omega) F rfl);obtain⟨v,i,-,-⟩:=hI;have b0:W.cell? ⟨w.heap.size,0,none⟩=some v:=by simp[a5,i]
  have Ce:=bs i;clear i
  go_wp2
  refine⟨by simp,eT ⟨_,_,rfl,ai F,?_⟩⟩;obtain⟨v2,eP,N,qA⟩:=gE.out;have e:v=v2:=by
   have h:=(aS (by omega:w.heap.size≠D)).symm.trans eP |>.symm
   rw[Ce.out]at h;cases h;rfl
  subst e;refine⟨v,?_,v,rfl,N,qA⟩;simp[ao,Tryz.results66,go_sem]
def NA{a b:Nat}(C:CD)(g:Nat)(c:yR C g)(w:World)(hA:C.At w)(c1:w.heap[a]?=some (eI C.val 77))(d:w.heap[b]?=some (eI #[dy eQ g] 3)) :
 Calls PL 40 #[dz (eD 67) #[] #[dL (some ⟨a,0,none⟩),dL (some ⟨b,0,none⟩)]] w λe w'=>∃v,e=eS v/\AY w' (w.heap.size+1) v (mD C g C.n4)/\Below w.heap.size w w':=by
 have i:=bs hA;have j:=bs c;have k:=bs c1;have l:=bs d;clear hA c c1 d
 go_enter (fx (by decide) Tryz.func40),Tryz.ntmps40
 go_wp2_with (go_at_call 66;refine(Nz C g j.out w i.out k.out l.out).mono ?_;rintro e w'⟨v,rfl,f,h⟩;have m:=bs f;have n:=bs h;clear f h)
 go_ret
 exact⟨_,rfl,m.out,n.out⟩
def Six(W:World)(k:Nat):Prop:=∃x0 x1 x2 x3 x4 a,W.heap[k]?=some (eI #[x0,x1,x2,x3,x4,a] 77)
def Fo(C:CD)(W a:World):Prop:=∀k:Nat,(W.heap[k]?=some (eI C.val 77)->a.heap[k]?=some (eI C.val 77))/\(Six W k->Six a k)
def Fo.on{C:CD}{W a:World}(h:Below W.heap.size W a):Fo C W a:=λk=>⟨λe=>(h.block _ (br e)).trans e,fun⟨x0,x1,x2,x3,x4,b,e⟩=>⟨x0,x1,x2,x3,x4,b,(h.block _ (br e)).trans e⟩⟩
def alU(C:CD)(w:World)(j:Nat)(vs:Nat->Value)(W:World):Prop:=
 (j=8->∃k,vs 8=dL (some ⟨k,0,none⟩)/\w.heap.size<k/\Six W k)/\(j=9->∃k,vs 8=dL (some ⟨k,0,none⟩)/\w.heap.size<k/\W.heap[k]?=some (eI C.val 77))
def AZ(C:CD)(g:Nat)(hg:g<C.n5)(m5:C.n5<=3)(w:World):Calls PL 39 #[dC C.val,dy eQ g] w λe w'=>e=eS (dK true)/\Below w.heap.size w w':=by
 have h:=Fi C g m5 w;have e:bO (g:Int) 0 (C.n5-1)=true:=by simp[bO];omega
 rwa[e]at h
def IC{C:CD}{b:Bool}(h:C.b6 b=0):C.cx=0:=by
 unfold CD.b6 at h
 split at h
 ·rename_i a;exact a
 ·rename_i a;exact absurd h a
def ID(C:CD)(g:Nat)(w:World)(h:C.At w)(hg:g<C.n5)(m5:C.n5<=3)(hf:C.b6 true=0)(n:yR C g) :
 Calls PL 8 #[dC C.val,dy eQ g] w λe w'=>∃v,e=eS (dQ #[v,dy eQ 0])/\AY w' w.heap.size v (mD C g C.n4)/\Below w.heap.size w w':=by
 have p:=bs h;have M:=bs hf;have N:=bs n;have r:Hid (KB C w (w.alloc (eI C.val 27))):=bs ⟨au _ _,(a7 _ _).alloc (a8 _) _⟩;clear h hf n
 go_enter (fx (by decide) Tryz.func8),Tryz.ntmps8
 go_upto_region 1 with fail
 refine cT 10 (KB C w) (Fo C) (λj=>j != 8&&j != 9) (alU C w) rfl (by kernel_rfl) (by kernel_rfl)
  (λi vs W s f h=>⟨λe=>(h.1 e).imp λk a=>⟨a.1,a.2.1,(f k).2 a.2.2⟩,λe=>(h.2 e).imp λk a=>⟨a.1,a.2.1,(f k).1 a.2.2⟩⟩) (λi o t vs O W P hd h=>⟨λe=>?_,λe=>?_⟩) ?_ ?_
 ·subst e;rw[<-P];exact h.1 rfl
 ·subst e;have Q:vs 8=O 8:=by
   simp only[cm,co,cp,eb]at t;subst t;exact hd ⟨8,eW⟩ (cH.2 ⟨by simp,rfl⟩)
  rw[<-Q];exact h.2 rfl
 ·exact⟨r.out.box,r.out.low.drew⟩
 ·iterate 8 (
   apply aY
   case hE=>rfl
   case h=>
    intro vs W b hd;obtain⟨u,x,y,z,f4,A⟩:=bf b.box
    go_simp
    first
    |(go_at_call 39;refine(AZ C g hg m5 _).mono ?_;rintro e s⟨rfl,d⟩;exact⟨_,rfl,rfl,b.on d,Fo.on d⟩)
    |(go_at_call 30;refine(kF M.out (p.out.below b.low)).mono ?_;rintro e s⟨rfl,d⟩;exact⟨_,rfl,rfl,b.on d,Fo.on d⟩)
    |exact⟨rfl,Fo.on (a7 _ _)⟩
   case hb=>exact j8)
  apply eH
  case hE=>rfl
  case hb=>exact j8
  case h=>
   intro vs W b hd
   go_simp
   have d:=(a7 W.heap.size W).alloc (a8 _) (eI #[dy eQ 0,dy eQ 0,dO none 0 0,dO none 0 0,dO none 0 0,dO none 0 0] 77)
   first
   |exact⟨b.on d,Fo.on d,⟨λ_=>⟨W.heap.size,by simp[upd],b.lt,_,_,_,_,_,_,au W _⟩,λe=>absurd e (by decide)⟩⟩
  apply eH
  case hE=>rfl
  case hb=>exact j8
  case h=>
   intro vs W b hd;obtain⟨k,a,B,x0,x1,x2,x3,x4,V,c⟩:=(hd ⟨8,eW⟩ (cH.2 ⟨by simp,rfl⟩) rfl).1 rfl;obtain⟨u,x,y,z,f4,A⟩:=bf c;have X:=tO c;rw[a]
   go_simp
   refine⟨⟨(cM (by omega)).trans b.box,ed b.low (by omega) _ _ _ _ _ _⟩,λq=>?_,⟨λe=>absurd e (by decide),λ_=>⟨k,by simp[upd,a],B,nC c⟩⟩⟩;by_cases m:q=k
   ·subst m;exact⟨λ_=>nC c,λ_=>⟨_,_,_,_,_,_,nC c⟩⟩
   ·exact⟨λe=>(cM m).trans e,fun⟨_,_,_,_,_,_,e⟩=>⟨_,_,_,_,_,_,(cM m).trans e⟩⟩
  refine cP λvs W b hd=>?_;obtain⟨k,a,B,c⟩:=(hd 9 (by omega) rfl).2 rfl;rw[a];obtain⟨u,x,y,z,f4,A⟩:=bf c;have Y:=bs c;have D:=bs b;clear c b hd a
  go_wp2_with (first
   |(go_at_call 41;refine(AX C g _).mono ?_;rintro e w'⟨rfl,l⟩;have E:Below W.heap.size W w':=(by rw[l];exact((a7 _ _).alloc (a8 _) _).alloc (by simp) _);have F:w'.heap[W.heap.size+1]?=some (eI #[dy eQ g] 3):=(by have H:=au (W.alloc (eI C.val 77)) (eI #[dy eQ g] 3);rw[aJ]at H;rw[l];exact H);have c1:w'.heap[W.heap.size]?=some (eI C.val 77):=(by rw[l];exact(((a7 (W.alloc (eI C.val 77)).heap.size _).alloc (a8 _) _).block _ (by simp)).trans (au W _));have I:=bs E;have R:=bs c1;have S:=bs F;clear l E c1 F)
   |(go_at_call 40;refine(NA C g N.out _ (p.out.below (eh D.out.low I.out)) R.out S.out).mono ?_;rintro e w3⟨v,rfl,J,K⟩;have T:=bs J;have U:=bs K;clear J K))
  have L:=eh D.out.low I.out;refine ap (v:=dQ #[v,dy eQ 0]) ?_ rfl ⟨v,rfl,dJ T.out (by have:=L.size;omega),eh L U.out⟩;simp[ao,Tryz.results8,go_sem]
def tD{W:World}{r:Nat}{x0 x1 x2 x3 x4 u0 u1 u2 u3 u4:Value}{t:ac}(h:W.heap[r]?=some (eI #[x0,x1,x2,x3,x4] t)):(((((W.setCell ⟨r,0,none⟩ u0).setCell ⟨r,1,none⟩ u1).setCell ⟨r,2,none⟩ u2).setCell ⟨r,3,none⟩ u3).setCell ⟨r,4,none⟩ u4).heap[r]?=some (eI #[u0,u1,u2,u3,u4] t):=by
 simp only[a6,bt,if_pos,h,bL];rfl
def gh{W:World}{r b:Nat}{u0 u1 u2 u3 u4:Value}(hb:b≠r):(((((W.setCell ⟨r,0,none⟩ u0).setCell ⟨r,1,none⟩ u1).setCell ⟨r,2,none⟩ u2).setCell ⟨r,3,none⟩ u3).setCell ⟨r,4,none⟩ u4).heap[b]?=W.heap[b]?:=by
 simp only[a6,bt,if_neg (dU hb)]
def vA(l:List nR):nR:=l.getLast?.getD (0,0,0,0,0)
abbrev aaW(x:nR):Array Value:=#[dy eQ x.1,dy eQ x.2.1,dy eQ x.2.2.1,dy eQ x.2.2.2.1,dy eQ x.2.2.2.2]
def IE(l:List nR)(x:nR):vA (l++[x])=x:=by simp[vA]
def nU(C:CD)(g:Nat):Int×Int:=(vA (mD C g C.n4)).2.2.2
structure Si(w:World)(pre:List nR)(W:World):Prop where
 res:W.heap[w.heap.size+1]?=some (eI #[dy eQ 0,dy eQ 0] 30)
 last:W.heap[w.heap.size+2]?=some (eI (aaW (vA pre)) 53)
 low:Below w.heap.size w W
def yW{w W c:World}{row:Option Nat}{a:List nR}{B:Nat}(d:w.heap.size+3<=B)(h:Si w a W)(hg:W.grownBy c row)(b:∀r,row=some r->B<=r):Si w a c:=
 ⟨(hg.block _ (br h.res) λe=>by have:=b _ e.symm;omega).trans h.res,(hg.block _ (br h.last) λe=>by have:=b _ e.symm;omega).trans h.last,h.low.grown hg h.low.size λk e=>by have:=b _ e;omega⟩
def Lm(C:CD)(g:Nat)(P:yR C g)(w:World)(hA:C.At w) :
 Calls PL 47 #[dC C.val,dy eQ g] w (aO (dC #[dy eQ (nU C g).1,dy eQ (nU C g).2]) w):=by
 have U:=bs hA;have V:=bs P;clear hA P;refine(ad (n:=9)).1 (ae (fx (by decide) Tryz.func47) rfl trivial ?_ rfl);simp only[Tryz.ntmps47,bR,bT,bX,ba,bc,bv,bw,b5,b8,cd,ce];refine wpIn_wide.2 ?_;have y:Si w [] (((w.alloc (eI C.val 77)).alloc (eI #[dy eQ 0,dy eQ 0] 30)).alloc (eI #[dy eQ 0,dy eQ 0,dy eQ 0,dy eQ 0,dy eQ 0] 53)):=by
  refine⟨?_,?_,(((a7 _ _).alloc (a8 _) _).alloc (by simp) _).alloc (by simp;omega) _⟩
  ·have b:=au (w.alloc (eI C.val 77)) (eI #[dy eQ 0,dy eQ 0] 30);rw[aJ]at b;exact(((a7 ((w.alloc (eI C.val 77)).alloc (eI #[dy eQ 0,dy eQ 0] 30)).heap.size _).alloc (a8 _) _).block _ (by simp)).trans b
  ·have b:=au ((w.alloc (eI C.val 77)).alloc (eI #[dy eQ 0,dy eQ 0] 30)) (eI #[dy eQ 0,dy eQ 0,dy eQ 0,dy eQ 0,dy eQ 0] 53);simp only[aJ]at b;exact b
 have z:=bs y;clear y
 go_wp2_with (go_at_call 41;refine(AX C g _).mono ?_;rintro e w'⟨rfl,m⟩)
 have X:=z.out.low;have J:∃Y:World,Y=(((w.alloc (eI C.val 77)).alloc (eI #[dy eQ 0,dy eQ 0] 30)).alloc (eI #[dy eQ 0,dy eQ 0,dy eQ 0,dy eQ 0,dy eQ 0] 53)):=⟨_,rfl⟩
 have E:w'.heap.size=w.heap.size+5:=by rw[m];simp
 have Q:w'.heap[w.heap.size+3]?=some (eI C.val 77):=by
  rw[m];have b:=au (((w.alloc (eI C.val 77)).alloc (eI #[dy eQ 0,dy eQ 0] 30)).alloc (eI #[dy eQ 0,dy eQ 0,dy eQ 0,dy eQ 0,dy eQ 0] 53)) (eI C.val 77);simp only[aJ]at b;exact((((a7 (World.alloc (((w.alloc (eI C.val 77)).alloc (eI #[dy eQ 0,dy eQ 0] 30)).alloc (eI #[dy eQ 0,dy eQ 0,dy eQ 0,dy eQ 0,dy eQ 0] 53)) (eI C.val 77)).heap.size _).alloc (a8 _) _).block _ (by simp)).trans b)
 have F:w'.heap[w.heap.size+4]?=some (eI #[dy eQ g] 3):=by
  rw[m];have b:=au ((((w.alloc (eI C.val 77)).alloc (eI #[dy eQ 0,dy eQ 0] 30)).alloc (eI #[dy eQ 0,dy eQ 0,dy eQ 0,dy eQ 0,dy eQ 0] 53)).alloc (eI C.val 77)) (eI #[dy eQ g] 3);simp only[aJ]at b;exact b
 have H:Si w [] w':=by
  rw[m];exact yW (a8 _) z.out ((aT _ _ none).trans (aT _ _ none)) (λr e=>by cases e)
 have d:=bs E;have L:=bs Q;have M:=bs F;rw[<-m];clear E Q F m X J;refine(wpIn_wide (n:=9)).1 ?_;refine yU (by omega) (gf:=67) (lb:=#[dL (some ⟨w.heap.size+3,0,none⟩),dL (some ⟨w.heap.size+4,0,none⟩)]) rfl (enters_of (fx (by decide) Tryz.func67) (by kernel_rfl) rfl)
  (yT 8 (by omega) (w.heap.size+3) (w.heap.size+4) w.heap.size g C V.out w rfl U.out)
  (λW I=>?_) Li (λW l o R hl Z hc hw=>Lj (n:=w.heap.size) (s:=w.heap.size+5) (by omega) W l o R (by have:=d.out;omega) Z hc hw) (λ_=>rfl)
  (Si w) (λs A B row hs hg N=>yW (B:=w'.heap.size) (by have:=d.out;omega) hs hg λr e=>(N r e).1) (λs A B row hs hg N=>yW (B:=w'.heap.size) (by have:=d.out;omega) hs hg λr e=>(N r e).1) H
  (λx a W=>∃k,W.heap[k]?=some (eI (aaW x) 53)/\a={ tmps:=#[dC C.val,dy eQ g,dL (some ⟨w.heap.size,0,none⟩),undef,dL (some ⟨w.heap.size+1,0,none⟩),dL (some ⟨w.heap.size+2,0,none⟩),dL (some ⟨k,0,none⟩),dC C.val,dy eQ g,dz (eD 67) #[] #[dL (some ⟨w.heap.size+3,0,none⟩),dL (some ⟨w.heap.size+4,0,none⟩)],dC (aaW x),undef,undef,undef],defers:=[] })
  ?A ?kg ?assign ?body ?done
 ·have e:∀k,k<w.heap.size->W.heap[k]?=w.heap[k]?:=λk f=>(I.block k (by have:=d.out;omega)).trans (H.low.block k f);exact⟨e,by have:=I.size;have:=d.out;omega,(I.block _ (by have:=d.out;omega)).trans L.out,(I.block _ (by have:=d.out;omega)).trans M.out⟩
 case A=>
  rintro x a W l o R hl hc⟨k,f,ha⟩;refine⟨k,(aS (λe=>?_)).trans f,ha⟩;subst e;rw[hl]at f;cases f;cases hc
 case kg=>
  intro A B hs hg;have:=d.out;exact⟨λk f=>hg.block k (by omega) (by simp),λk c t h _ _=>(hg.block k (br h) (by simp)).trans h,hg.size⟩
 case assign=>
  intro l x W K O;dsimp only[VS]
  gi_wp2
  refine O _ _ (aT W _ none) ⟨W.heap.size,au _ _,rfl⟩
 case body=>
  rintro l pre x a W i⟨k,f,rfl⟩Nw;obtain⟨k0,k1,k2,k3,k4⟩:=qO f;obtain⟨l0,l1,l2,l3,l4⟩:=qO i.last;have fl:=tO i.last;have j:=bs i;clear i f
  gi_wp2
  have Cu:=br j.out.last;refine⟨((((ea W _ _).trans (ea _ _ _)).trans (ea _ _ _)).trans (ea _ _ _)).trans (ea _ _ _),⟨λq hq=>gh (by omega),λq c t h b h2=>(gh (λe=>?_)).trans h,by simp⟩,⟨(gh (by omega)).trans j.out.res,by rw[IE];exact tD j.out.last,((((j.out.low.setCell (p:=⟨w.heap.size+2,0,none⟩) (by simp) _).setCell (p:=⟨w.heap.size+2,1,none⟩) (by simp) _).setCell (p:=⟨w.heap.size+2,2,none⟩) (by simp) _).setCell (p:=⟨w.heap.size+2,3,none⟩) (by simp) _).setCell (p:=⟨w.heap.size+2,4,none⟩) (by simp) _⟩⟩;subst e;have S:=j.out.last;rw[h]at S;cases S;exact b rfl
 case done=>
  intro D W T i O;obtain⟨l0,l1,l2,l3,l4⟩:=qO i.last;obtain⟨t0,t1,u0,u1⟩:=uJ i.res;have j:=bs i;have HD:=bs T;clear i T
  go_wp2
  have hK':=((ea W ⟨w.heap.size+1,0,none⟩ (dy eQ (vA (mD C g C.n4)).2.2.2.1)).trans (ea _ ⟨w.heap.size+1,1,none⟩ (dy eQ (vA (mD C g C.n4)).2.2.2.2))).same D _ O rfl;obtain⟨d0,d1,_,_⟩:=yD (u:=dy eQ (vA (mD C g C.n4)).2.2.2.1) (v:=dy eQ (vA (mD C g C.n4)).2.2.2.2) t0 t1;have e0:=cell_kept d0 (aq _ D (eE none)) (λr e=>by cases e;exact⟨_,hK',rfl⟩);have e1:=cell_kept d1 (aq _ D (eE none)) (λr e=>by cases e;exact⟨_,hK',rfl⟩);refine⟨by simp,eT ⟨_,_,rfl,ai hK',?_⟩⟩;refine⟨dC #[dy eQ (nU C g).1,dy eQ (nU C g).2],?_,rfl,(((j.out.low.setCell (p:=⟨w.heap.size+1,0,none⟩) (bg _) _).setCell (p:=⟨w.heap.size+1,1,none⟩) (bg _) _)).trans (belowK_b (w:=w) (a8 _) _ D _ _ (by have:=HD.out;have:=d.out;omega) hK' rfl rfl)⟩;simp[ao,Tryz.results47,go_sem,e0,e1,nU]
structure KE(C:CD)(w W:World):Prop where
 box:W.heap[w.heap.size]?=some (eI C.val 27)
 res:W.heap[w.heap.size+1]?=some (eI #[dy eQ 0,dy eQ 0] 30)
 low:Below w.heap.size w W
def KE.on{C:CD}{w W b:World}(h:KE C w W)(a:Below W.heap.size W b):KE C w b:=
 ⟨(a.block _ (br h.box)).trans h.box,(a.block _ (br h.res)).trans h.res,eh h.low a⟩
def KE.lt{C:CD}{w W:World}(h:KE C w W):w.heap.size+1<W.heap.size:=br h.res
def alV(C:CD)(w:World)(j:Nat)(vs:Nat->Value)(W:World):Prop:=
 (j=8->∃k,vs 8=dL (some ⟨k,0,none⟩)/\w.heap.size+1<k/\Six W k)/\(j=9->∃k,vs 8=dL (some ⟨k,0,none⟩)/\w.heap.size+1<k/\W.heap[k]?=some (eI C.val 77))
def Sj(C:CD)(g:Nat)(w:World)(h:C.At w)(hg:g<C.n5)(m5:C.n5<=3)(hf:C.b6 true=0)(x:yR C g) :
 Calls PL 20 #[dC C.val,dy eQ g] w (aO (dQ #[dC #[dy eQ (nU C g).1,dy eQ (nU C g).2],dy eQ 0]) w):=by
 have y:=bs h;have K:=bs hf;have L:=bs x
 have n:Hid (KE C w ((w.alloc (eI C.val 27)).alloc (eI #[dy eQ 0,dy eQ 0] 30))):=bs ⟨(((a7 (w.alloc (eI C.val 27)).heap.size _).alloc (a8 _) _).block _ (by simp)).trans (au w _),by
  have z:=au (w.alloc (eI C.val 27)) (eI #[dy eQ 0,dy eQ 0] 30);rw[aJ]at z
  exact z,((a7 _ _).alloc (a8 _) _).alloc (by simp) _⟩
 clear h hf x
 go_enter (fx (by decide) Tryz.func20),Tryz.ntmps20
 go_upto_region 1 with fail
 refine cT 10 (KE C w) (Fo C) (λj=>j != 8&&j != 9) (alV C w) rfl (by kernel_rfl) (by kernel_rfl)
  (λi vs W A l h=>⟨λe=>(h.1 e).imp λk b=>⟨b.1,b.2.1,(l k).2 b.2.2⟩,λe=>(h.2 e).imp λk b=>⟨b.1,b.2.1,(l k).1 b.2.2⟩⟩) (λi o B vs M W N hd h=>⟨λe=>?_,λe=>?_⟩) ?_ ?_
 ·subst e;rw[<-N];exact h.1 rfl
 ·subst e;have O:vs 8=M 8:=by
   simp only[cm,co,cp,eb]at B;subst B;exact hd ⟨8,eW⟩ (cH.2 ⟨by simp,rfl⟩)
  rw[<-O];exact h.2 rfl
 ·exact⟨n.out.box,n.out.res,n.out.low.drew⟩
 ·iterate 8 (
   apply aY
   case hE=>rfl
   case h=>
    intro vs W a hd;obtain⟨D,E,F,H,f4,I⟩:=bf a.box
    go_simp
    first
    |(go_at_call 39;refine(AZ C g hg m5 _).mono ?_;rintro e A⟨rfl,d⟩;exact⟨_,rfl,rfl,a.on d,Fo.on d⟩)
    |(go_at_call 30;refine(kF K.out (y.out.below a.low)).mono ?_;rintro e A⟨rfl,d⟩;exact⟨_,rfl,rfl,a.on d,Fo.on d⟩)
    |exact⟨rfl,Fo.on (a7 _ _)⟩
   case hb=>exact j8)
  apply eH
  case hE=>rfl
  case hb=>exact j8
  case h=>
   intro vs W a hd
   go_simp
   have d:=(a7 W.heap.size W).alloc (a8 _) (eI #[dy eQ 0,dy eQ 0,dO none 0 0,dO none 0 0,dO none 0 0,dO none 0 0] 77)
   first
   |exact⟨a.on d,Fo.on d,⟨λ_=>⟨W.heap.size,by simp[upd],a.lt,_,_,_,_,_,_,au W _⟩,λe=>absurd e (by decide)⟩⟩
  apply eH
  case hE=>rfl
  case hb=>exact j8
  case h=>
   intro vs W a hd;obtain⟨k,b,J,x0,x1,x2,x3,x4,S,c⟩:=(hd ⟨8,eW⟩ (cH.2 ⟨by simp,rfl⟩) rfl).1 rfl;obtain⟨D,E,F,H,f4,I⟩:=bf c;have T:=tO c;rw[b]
   go_simp
   refine⟨⟨(cM (by omega)).trans a.box,(cM (by omega)).trans a.res,ed a.low (by omega) _ _ _ _ _ _⟩,λq=>?_,⟨λe=>absurd e (by decide),λ_=>⟨k,by simp[upd,b],J,nC c⟩⟩⟩;by_cases r:q=k
   ·subst r;exact⟨λ_=>nC c,λ_=>⟨_,_,_,_,_,_,nC c⟩⟩
   ·exact⟨λe=>(cM r).trans e,fun⟨_,_,_,_,_,_,e⟩=>⟨_,_,_,_,_,_,(cM r).trans e⟩⟩
  refine cP λvs W a hd=>?_;obtain⟨k,b,J,c⟩:=(hd 9 (by omega) rfl).2 rfl;rw[b];obtain⟨D,E,F,H,f4,I⟩:=bf c;have U:=bs c;have f:=bs a;clear c a hd b;obtain⟨V,t1,u0,u1⟩:=uJ f.out.res;have fr:=tO f.out.res
  go_wp2_with (go_at_call 47;refine(Lm C g L.out _ (y.out.below f.out.low)).mono ?_;rintro e w3⟨rfl,s⟩;have m:=(s.block _ (br f.out.res)).trans f.out.res;obtain⟨X,v1,Y,Z⟩:=uJ m;have P:=tO m;have Q:=bs s;have t:=bs m;clear s m)
  have R:=eh f.out.low Q.out;refine ap (v:=dQ #[dC #[dy eQ (nU C g).1,dy eQ (nU C g).2],dy eQ 0]) ?_ rfl ⟨rfl,(R.setCell (p:=⟨w.heap.size+1,0,none⟩) (bg _) _).setCell (p:=⟨w.heap.size+1,1,none⟩) (bg _) _⟩;obtain⟨a0,a1,_,_⟩:=uJ (yL (u:=dy eQ (nU C g).1) (v:=dy eQ (nU C g).2) t.out);simp[ao,Tryz.results20,go_sem,a0,a1]
def Fp(C:CD)(R:World->Value->Prop)(w:World)(h:C.At w)(hf:C.b6 true=0)
 (b:∀W,C.At W->Calls PL 45 #[dC C.val] W λe w'=>∃v,e=eS v/\R w' v/\Below W.heap.size W w') :
 Calls PL 10 #[dC C.val] w λe w'=>∃v,e=eS (dQ #[v,dy eQ 0])/\R w' v/\Below w.heap.size w w':=by
 have c:=bs h;have k:=bs hf;have a:=bs b;have d:Hid (KB C w (w.alloc (eI C.val 27))):=bs ⟨au _ _,(a7 _ _).alloc (a8 _) _⟩;clear h hf b
 go_enter (fx (by decide) Tryz.func10),Tryz.ntmps10
 go_wp2_with (first
  |(go_at_call 30;refine(kF k.out (c.out.below d.out.low)).mono ?_;rintro e w1⟨rfl,f⟩;have g:=bs (d.out.on f);clear f)
  |(go_at_call 45;refine(a.out _ (c.out.below (g.out.alloc (eI C.val 77)).low)).mono ?_;rintro e w2⟨v,rfl,i,j⟩;have l:=bs ((g.out.alloc (eI C.val 77)).on j);have m:=bs i;clear j i))
 refine ap (v:=dQ #[v,dy eQ 0]) ?_ rfl ⟨v,rfl,m.out,l.out.low⟩;simp[ao,Tryz.results10,go_sem]
structure KT(C:CD)(w W:World):Prop where
 box:W.heap[w.heap.size]?=some (eI C.val 77)
 low:Below w.heap.size w W
def KT.on{C:CD}{w W a:World}(h:KT C w W)(b:Below W.heap.size W a):KT C w a:=
 ⟨(b.block _ (br h.box)).trans h.box,eh h.low b⟩
def qP(C:CD)(p:Nat):Bool:=decide (∀g,g<p->(nU C g).2<=C.l)
def IF{C:CD}{p:Nat}(h:qP C p=true)(k:(nU C p).2<=C.l):qP C (p+1)=true:=by
 simp only[qP,decide_eq_true_eq]at *;intro g hg
 rcases Nat.lt_succ_iff_lt_or_eq.1 hg with a|rfl
 ·exact h g a
 ·exact k
def Sk{C:CD}{p n:Nat}(a:p<n)(k:¬(nU C p).2<=C.l):qP C n=false:=by
 simp only[qP,decide_eq_false_iff_not];exact λh=>k (h p a)
def ag1(a b:Int)(W:World):Sem.run PL (ei 30 (dC #[dy eQ a,dy eQ b]) 1) W=et (dy eQ b) W:=by kernel_rfl
def VY(C:CD)(n:Nat)(w:World)(h:C.At w)(hc:C.cx=0)(m5:C.n5<=3)
 (q:∀W,C.At W->Calls PL 45 #[dC C.val] W λe w'=>∃b c,e=eS (dO b n c)/\Below W.heap.size W w') :
 Calls PL 46 #[dC C.val] w (aO (dK (qP C C.n5&&decide (n=0))) w):=by
 have r:=bs h;have j:=bs q;have v:=bs hc;have x:Hid (KT C w (w.alloc (eI C.val 77))):=bs ⟨au _ _,(a7 _ _).alloc (a8 _) _⟩;clear h q hc
 go_enter (fx (by decide) Tryz.func46),Tryz.ntmps46
 go_wp2
 go_loopw [8] (λk wr=>∃p:Nat,p<=C.n5/\k=dy eQ p/\qP C p=true/\KT C w wr) (λk _=>C.n5-(intOf k).toNat)
 case atStart=>exact⟨0,bi _,rfl,by simp[qP],x.out⟩
 case round=>
  obtain⟨p,K,rfl,hs,s⟩:=hrel;have f:=bs s;have t:=bs hs;clear s hs;by_cases i:p<C.n5
  ·have y:(p:Int)<C.n5:=by omega
   have z:=bs (Sa C v.out i)
   go_upto_region 4 with fail
   refine ig (KT C w) (λ_ _=>True) (λ_=>true) (λ_ _ _=>True) rfl (by kernel_rfl) (λ_ _ _ _ _ _=>trivial) (λ_ _ _ _ _ _ _ _ _=>trivial) ⟨f.out.box,f.out.low.drew⟩ ?_
   iterate 8 (
    apply aY
    case hE=>rfl
    case h=>
     intro vs W d hd;obtain⟨A,B,D,E,f4,F⟩:=bf d.box;have q1:=ag1
     go_simp
     first
     |(go_at_call 47;refine(Lm C p z.out _ (r.out.below d.low)).mono ?_;rintro e L⟨rfl,H⟩;exact⟨_,rfl,rfl,d.on H⟩)
     |exact rfl
    case hb=>exact j8)
   refine cP λvs W d hd=>?_;have g:=bs d;clear hd d;by_cases a:(nU C p).2<=C.l
   ·have m:=bs a;have I:¬(C.l<(nU C p).2):=by omega
    clear a
    go_wp2
    exact⟨⟨p+1,i,by go_num,IF t.out m.out,g.out⟩,by simp only[intOf];omega⟩
   ·have m:=bs a;have I:C.l<(nU C p).2:=by omega
    clear a
    go_wp2
    go_ret
    have hs:=Sk i (Int.not_le.2 m.out);refine⟨?_,g.out.low⟩;rw[hs,Bool.false_and];rfl
  ·have o:p=C.n5:=by omega
   have y:¬((p:Int)<C.n5):=by omega
   clear i;obtain⟨A,B,D,E,f4,F⟩:=bf f.out.box
   go_wp2_with (go_at_call 45;refine(j.out _ (r.out.below f.out.low)).mono ?_;rintro e w2⟨b,c,rfl,u⟩;have J:=bs (f.out.on u);clear u)
   go_ret
   have hs:qP C C.n5=true:=by have h:=t.out;first|(rw[o]at h;exact h)|exact h
   have e:((n:Int)==0)=decide (n=0):=by by_cases h:n=0<;>simp[h]
   refine⟨?_,J.out.low⟩;rw[hs,e,Bool.true_and];rfl
end Go.Proofs
namespace Go.Proofs
open Go.RowKit
def acw(l:List nR)(i j:Nat)(hi:i<l.length)(a:j<5):(l.flatMap vV)[i*5+j]?=(vV l[i])[j]?:=by
 induction l generalizing i with
 |nil=>cases hi
 |cons x l b=>
  rw[ch];have e:(vV x).length=5:=rfl
  grind
def abj{a:Type}(b:a->a->Bool)(x:a):List a->List a
 |[]=>[x]
 |y::P=>if b x y then y::abj b x P else x::y::P
def aag{a:Type}(b:a->a->Bool):List a->List a:=cq (λP x=>abj b x P) []
def G0{a:Type}(b:a->a->Bool)(l:List a):List a:=(aag b l).reverse
def ahm{a:Type}(b:a->a->Bool)(x:a)(P:List a):(abj b x P).length=P.length+1:=by
 induction P with
 |nil=>rfl
 |cons y P c=>rw[abj];split<;>simp[c]
def aeC{a:Type}(b:a->a->Bool)(l:List a)(x:a):aag b (l++[x])=abj b x (aag b l):=by simp[aag,List.foldl_append]
def abW{a:Type}(b:a->a->Bool)(l:List a):(aag b l).length=l.length:=by
 have key:∀(l P:List a),(cq (λP x=>abj b x P) P l).length=P.length+l.length:=by
  intro l
  induction l with
  |nil=>intro P;simp
  |cons x l c=>intro P;rw[List.foldl_cons,c,ahm,bT];omega
 rw[aag,key];simp
theorem ahn{a:Type}(b:a->a->Bool)(x:a)(P:List a)(z:a):z∈abj b x P↔z=x\/z∈P:=by
 induction P with
 |nil=>simp[abj]
 |cons y P c=>
  rw[abj]
  grind
def agN{a:Type}(b:a->a->Bool)(l:List a)(z:a):z∈aag b l↔z∈l:=by
 have key:∀(l P:List a),z∈cq (λP x=>abj b x P) P l↔z∈P\/z∈l:=by
  intro l
  induction l with
  |nil=>intro P;simp
  |cons x l c=>
   grind [ahn]
 rw[aag,key];simp
def abt{a:Type}(b:a->a->Bool)(l:List a):(G0 b l).length=l.length:=by simp[G0,abW]
def agO{a:Type}(b:a->a->Bool)(l:List a)(z:a):z∈G0 b l↔z∈l:=by simp[G0,agN]
set_option maxRecDepth 100000
set_option maxHeartbeats 4000000
def aaG(x y:nR):Bool:=decide (x.2.2.2.2<y.2.2.2.2)
def aeP(x y:nR)(w:World):Calls PL 76 #[dC (aaW x),dC (aaW y)] w λe w'=>e=eS (dy eQ (Ip x.2.2.2.2 y.2.2.2.2))/\w'=(w.alloc (eI (aaW x) 56)).alloc (eI (aaW y) 56):=by
 go_enter (fx (by decide) Tryz.func76),Tryz.ntmps76
 go_wp2_with (go_at_call 77;refine(Kw _ _ _).mono ?_;rintro e w'⟨rfl,rfl⟩)
 go_ret
 exact⟨rfl,rfl⟩
def amf(x y:nR):(Ip x.2.2.2.2 y.2.2.2.2<0)↔aaG x y=true:=by
 unfold Ip aaG;rw[decide_eq_true_iff]
 split
 ·simp[*]
 ·split<;>simp[*]
open Go.Shelf Go.Sort
def aik{a:Type}[Inhabited a](P R:List a)(x y:a):(P++y::x::R).toArray[P.length]! = y/\(P++y::x::R).toArray[P.length+1]! = x:=by
 grind
def aho{a:Type}[Inhabited a](P R:List a)(x y:a):swp (P++y::x::R).toArray (P.length+1) P.length=(P++x::y::R).toArray:=by
 unfold swp
 simp_all
def aaJ{a:Type}[Inhabited a](b:a->a->Bool)(x:a):∀(P R:List a),insInner b 0 P.length (P.reverse++x::R).toArray=((abj b x P).reverse++R).toArray
 |[],R=>by rw[bX,insInner];simp[abj]
 |y::P,R=>by
  have h:(y::P).reverse++x::R=P.reverse++y::x::R:=by simp
  have e:=aik P.reverse R x y;have hs:=aho P.reverse R x y;rw[List.length_reverse]at e hs;rw[h,bT,insInner,e.1,e.2,abj];by_cases hl:b x y=true
  ·rw[if_pos (by simp[hl]),if_pos hl,hs,aaJ b x P (y::R)];simp
  grind
def aaS{b:Type}[Inhabited b](a:b->b->Bool)(L:List b):∀(n i:Nat),L.length-i=n->insOuter a 0 L.length i (G0 a (L.take i)++L.drop i).toArray=(G0 a L).toArray
 |0,i,h=>by
  grind [insOuter_stop,List.take_of_length_le,List.drop_of_length_le]
 |n+1,i,h=>by
  have hi:i<L.length:=by omega
  have hl:(aag a (L.take i)).length=i:=by rw[abW];simp;omega
  rw[insOuter_go _ _ _ _ _ hi,<-aaS a L n (i+1) (by omega),List.drop_eq_getElem_cons hi];congr 1;have:=aaJ a L[i] (aag a (L.take i)) (L.drop (i+1));rw[hl]at this;rw[G0,this,G0,List.take_succ_eq_append_getElem hi,aeC]
def abd{b:Type}[Inhabited b](c:b->b->Bool)(L:List b):insertionSort c L.toArray 0 L.length=(G0 c L).toArray:=by
 unfold insertionSort;have:=aaS c L (L.length-1) 1 rfl;have e:G0 c (L.take 1)++L.drop 1=L:=by
  cases L with
  |nil=>rfl
  |cons a L=>simp[G0,aag,abj]
 rw[e]at this;exact this
def ag2:PL.underlying 43=some (.slice 56):=by kernel_rfl
def aaX:(PL.info? 56).map (λi=>(i.zero,i.size,i.bytes))=some (some (dC #[dy eQ 0,dy eQ 0,dy eQ 0,dy eQ 0,dy eQ 0]),5,40):=by kernel_rfl
def kV(W:World)(base:Nat)(v:Value)(l:List nR):Prop:=W.ownsRow base 56 5 v l.length (l.flatMap vV)
def kV.alloc{W:World}{base:Nat}{v:Value}{l:List nR}(h:kV W base v l)(o:Obj):kV (W.alloc o) base v l:=World.ownsRow.alloc h o
def kV.on{W b:World}{base:Nat}{v:Value}{l:List nR}(h:kV W base v l)(d:Below W.heap.size W b):kV b base v l:=by
 obtain⟨c,h⟩:=h
 rcases h with h|⟨g,cap,a,e1,hb,hg,e⟩
 ·exact⟨c,eT h⟩
 ·exact⟨c,eV ⟨g,cap,a,e1,hb,(d.block _ (br hg)).trans hg,e⟩⟩
def vB{W:World}{base e size n:Nat}{v:Value}{xs:List Value}(h:W.ownsRow base e size v n xs):∃b c,v=dO b n c:=by
 rcases h.2 with⟨rfl,d⟩|⟨g,cap,a,rfl,_⟩
 ·grind
 ·exact⟨_,_,rfl⟩
def arS:Ren:=⟨λ_=>129,λt=>if t=24 then 56 else if t=22 then 43 else if t=25 then 148 else t,λt=>t⟩
def arT:SlLaysF0.n20 PL arS where
 mixed:=rfl
 f20:=⟨ "slices.insertionSortCmpFunc[nock/api.FieldTrouble]",by decide,(fx (by decide) Tryz.func129).trans (by kernel_rfl)⟩
 t0:=by kernel_rfl
 a0:=by intro w;kernel_rfl
 z0:=by intro w;kernel_rfl
 v0:=by intro w;kernel_rfl
 t3:=by kernel_rfl
 a3:=by intro w;kernel_rfl
 z3:=by intro w;kernel_rfl
 v3:=by intro w;kernel_rfl
 t4:=by kernel_rfl
 a4:=by intro w;kernel_rfl
 z4:=by intro w;kernel_rfl
 v4:=by intro w;kernel_rfl
 t22:=by kernel_rfl
 a22:=by intro w;kernel_rfl
 z22:=by intro w;kernel_rfl
 v22:=by intro w;kernel_rfl
 t25:=by kernel_rfl
 a25:=by intro w;kernel_rfl
 z25:=by intro w;kernel_rfl
 v25:=by intro w;kernel_rfl
def acy(L:List nR)(t:Nat)(h:t<L.length*5):(L.flatMap vV)[t]?=some (flatK vV 5 L.toArray)[t]!:=by
 have a:t / 5<L.length:=by omega
 have e:=acw L (t / 5) (t % 5) a (by omega);rw[show t / 5*5+t % 5=t by omega]at e;have b:L.toArray[t / 5]! = L[t / 5]:=by grind
 rw[e,get_flatK _ _ _ _ (by simpa using h),b];have c:t % 5<(vV L[t / 5]).length:=Nat.mod_lt _ (by decide)
 grind
def acz(L:List nR)(b c base:Nat)(w:World)(h:kV w base (dO (some ⟨b,0,none⟩) L.length c) L)(hl:L.length<=20) :
 Calls PL 129 #[dO (some ⟨b,0,none⟩) L.length c,dy eQ 0,dy eQ L.length,dz (eD 76) #[] #[]] w λe w'=>(∃v,e=eS v)/\kV w' base (dO (some ⟨b,0,none⟩) L.length c) (G0 aaG L)/\Below base w w':=by
 obtain⟨F,⟨z,_⟩|⟨g,cap,a,e,hb,hg,hc,A,hs,B⟩⟩:=h
 ·cases z
 obtain⟨e1,_,C⟩:=en e;cases e1;cases C;have f:=br hg;have D:HoldsK vV 5 w b 0 L.toArray:=by
  intro j p;have p:j<L.length*5:=by simpa using p
  refine⟨?_,tO hg _⟩;have:=acy L j p;rw[<-B,ct p]at this;simp only[a5,hg,bj];simpa using this
 have q:CmpLays PL 76 #[] vV 5 (λx y=>Ip x.2.2.2.2 y.2.2.2.2) b 0 L.toArray.size w:=λm r H hd x y=>by
  refine(aeP x y _).mono ?_;rintro e w'⟨rfl,rfl⟩;exact⟨rfl,0,_,by rw[alloc_eq_grow,alloc_eq_grow,grow_grow];rfl⟩
 refine(AnyQ.insertionSortCmpFunc arT 5 (by intro w;kernel_rfl) (by intro w;kernel_rfl) vV (λ_=>rfl) (λx v hv=>by simp only[vV,List.mem_cons,List.not_mem_nil,or_false]at hv;rcases hv with rfl|rfl|rfl|rfl|rfl<;>rfl) _ 76 #[] b 0 c 0 L.length L.toArray w (JZ (fx (by decide) Tryz.func76) (by decide +kernel) rfl) q D f (bi _) (by simp) (by simp;omega)).mono ?_;rintro e w'⟨rfl,n,r,rfl⟩;have E:(ltOf λx y:nR=>Ip x.2.2.2.2 y.2.2.2.2)=aaG:=by
  funext x y;have:=amf x y;unfold ltOf
  grind
 rw[E,abd];obtain⟨S,u⟩:∃S,S=G0 aaG L:=⟨_,rfl⟩
 have d:S.length=L.length:=by rw[u,abt]
 rw[<-u];have hF:(flatK vV 5 S.toArray).size=L.length*5:=by simp[d]
 have i:(sortWorldK vV 5 w b 0 n S.toArray r).heap=w.heap.modify b (onCells (putCells id 0 (flatK vV 5 S.toArray)))++r:=rfl;refine⟨⟨_,rfl⟩,⟨?_,eV ⟨b,c,putCells id 0 (flatK vV 5 S.toArray) a,by rw[d],hb,?_,by rw[d];exact hc,A,?_,?_⟩⟩,?_⟩
 ·have:∀l:List nR,(l.flatMap vV).length=l.length*5:=λl=>by
   induction l with
   |nil=>rfl
   |cons x l s=>rw[ch,cf,s];simp[vV];omega
  exact this S
 ·rw[i,Array.getElem?_append_left (by simpa using f),bt,if_pos rfl,hg];rfl
 ·simpa[putCells]using hs
 ·apply List.ext_getElem?;intro t;rw[List.getElem?_take];have hcs:L.length*5<=a.size:=by omega
  split
  ·rename_i o;rw[d]at o;rw[acy S t (by omega)];have:a[t]?=some a[t]:=Array.getElem?_eq_getElem (by omega);simp only[putCells,Array.getElem?_toList,Array.getElem?_mapIdx,this,bL]
   grind
  ·rename_i o;rw[cu];have:∀l:List nR,(l.flatMap vV).length=l.length*5:=λl=>by
    induction l with
    |nil=>rfl
    |cons x l s=>rw[ch,cf,s];simp[vV];omega
   rw[this];omega
 ·exact⟨rfl,rfl,rfl,by rw[i];simp,λk I=>by grind⟩
end Go.Proofs
namespace Go.Proofs
open Go.RowKit Go.Shelf
attribute [local go_sem] Oper.semAt_some
set_option maxRecDepth 100000
set_option maxHeartbeats 4000000
def aby(a1 a2 a3 a4 a b c d:Int):Int:=Ej (decide (a1<d)&&decide (a<a4)) (decide (a3<=b)||decide (c<=a2))
def IU(L:List Int)(a b p:Nat):nR:=(a,(b:Nat),(p:Nat),aby (L.getD (a*25+p*5+1) 0) (L.getD (a*25+p*5+2) 0) (L.getD (a*25+p*5+3) 0) (L.getD (a*25+p*5+4) 0) (L.getD (b*25+p*5+1) 0) (L.getD (b*25+p*5+2) 0) (L.getD (b*25+p*5+3) 0) (L.getD (b*25+p*5+4) 0),max (L.getD (a*25+p*5+1) 0) (L.getD (b*25+p*5+1) 0))
def abu(L:List Int)(a b:Nat):Nat->List nR
 |0=>[]
 |p+1=>abu L a b p++if(IU L a b p).2.2.2.1=2 then[] else[IU L a b p]
def R9(L:List Int)(n a:Nat):Nat->List nR
 |0=>[]
 |k+1=>R9 L n a k++abu L a (a+1+k) n
def aay(L:List Int)(n m:Nat):Nat->List nR
 |0=>[]
 |a+1=>aay L n m a++R9 L n a (m-(a+1))
def afk(L:List Int)(n m:Nat):List nR:=G0 aaG (aay L n m m)
def acB(L:List Int)(a b p:Nat):(abu L a b p).length<=p:=by
 induction p with
 |zero=>exact a8 _
 |succ p c=>rw[abu,cf];split<;>simp<;>omega
def L2(L:List Int){n:Nat}(b:n<=5)(a k:Nat):(R9 L n a k).length<=5*k:=by
 induction k with
 |zero=>exact a8 _
 |succ k c=>have:=acB L a (a+1+k) n;rw[R9,cf];omega
def ahp(L:List Int){n m:Nat}(b:n<=5)(c:m<=3)(a:Nat):(aay L n m a).length<=15*a:=by
 induction a with
 |zero=>exact a8 _
 |succ a d=>have:=L2 L b a (m-(a+1));rw[aay,cf];omega
def abL(L:List Int){n m:Nat}(a:n<=5)(c:m<=3):(aay L n m m).length<=15:=by
 match m,c with
 |0,_=>exact bi _
 |1,_=>
  have b:=L2 L a 0 0;rw[show aay L n 1 1=R9 L n 0 0 from rfl];omega
 |2,_=>
  have b:=L2 L a 0 1;have d:=L2 L a 1 0;rw[show aay L n 2 2=R9 L n 0 1++R9 L n 1 0 from rfl,cf];omega
 |3,_=>
  have b:=L2 L a 0 2;have d:=L2 L a 1 1;have e:=L2 L a 2 0;rw[show aay L n 3 3=R9 L n 0 2++R9 L n 1 1++R9 L n 2 0 from rfl,cf,cf];omega
def z61:Array Value:=#[dy eQ 0,dy eQ 0,dy eQ 0,dy eQ 0,dy eQ 0]
def IG(n0:Nat)(A:Array Value)(j:Nat)(vs:Nat->Value)(W:World):Prop:=
 (j=14->∃k,vs 14=dL (some ⟨k,0,none⟩)/\n0<=k/\k<W.heap.size/\∃x0 x1 x2 x3 x4,W.heap[k]?=some (eI #[x0,x1,x2,x3,x4] 53))/\
 (j=15->∃k,vs 15=dL (some ⟨k,0,none⟩)/\n0<=k/\k<W.heap.size/\W.heap[k]?=some (eI z61 53))/\
 (j=16->∃k,vs 14=dL (some ⟨k,0,none⟩)/\W.heap[k]?=some (eI A 53))
def ExT(t:Nat):Bool:=t != 14&&t != 15&&t != 16
def neT(i j:Nat)(u v:Value):Prop:=(i=14/\j=15\/i=15/\j=14)->u≠v
def IG.le{n0:Nat}{A:Array Value}{j:Nat}{vs:Nat->Value}{W g:World}(h:IG n0 A j vs W)(b:Below W.heap.size W g):IG n0 A j vs g:=
 ⟨λe=>(h.1 e).imp λq⟨c,f,d,x0,x1,x2,x3,x4,a⟩=>⟨c,f,bm d b.size,x0,x1,x2,x3,x4,(b.block _ d).trans a⟩,
  λe=>(h.2.1 e).imp λq⟨c,f,d,a⟩=>⟨c,f,bm d b.size,(b.block _ d).trans a⟩,
  λe=>(h.2.2 e).imp λq⟨c,a⟩=>⟨c,(b.block _ (br a)).trans a⟩⟩
def Sl{n0:Nat}{A:Array Value}{W:World}{vs:Nat->Value}{D:List Nat}{i:Nat}(f:n0<=W.heap.size)(hi:i=14\/i=15)(hd:∀j∈D,ExT j=false->IG n0 A j vs W) :
 (∀j∈D,ExT j=false->IG n0 A j vs (W.alloc (eI z61 53)))/\IG n0 A i (upd vs i (dL (some ⟨W.heap.size,0,none⟩))) (W.alloc (eI z61 53))/\∀j∈D,ExT j=false->neT j i (vs j) (dL (some ⟨W.heap.size,0,none⟩)):=by
 have g:=(a7 W.heap.size W).alloc (a8 _) (eI z61 53);refine⟨λj c d=>(hd j c d).le g,⟨λe=>⟨W.heap.size,by simp[upd,e],f,by simp,_,_,_,_,_,au _ _⟩,λe=>⟨W.heap.size,by simp[upd,e],f,by simp,au _ _⟩,λe=>by omega⟩,λj c d e1 e=>?_⟩;obtain⟨q,a,b⟩:∃q,vs j=dL (some ⟨q,0,none⟩)/\q<W.heap.size:=by
  rcases e1 with⟨rfl,_⟩|⟨rfl,_⟩
  ·obtain⟨q,a,_,b,_⟩:=(hd _ c d).1 rfl;exact⟨q,a,b⟩
  ·obtain⟨q,a,_,b,_⟩:=(hd _ c d).2.1 rfl;exact⟨q,a,b⟩
 rw[a]at e;cases e;exact bo _ b
structure KR(C:CD)(w:World)(k:Nat)(L:List Int)(B:Nat)(W:World):Prop where
 pK:B<=W.heap.size
 kl:k<B
 bl:w.heap.size<B
 box:W.heap[w.heap.size]?=some (eI C.val 77)
 row:Row W k (L.map bh)
 low:Below w.heap.size w W
def KR.on{C:CD}{w W b:World}{k:Nat}{L:List Int}{B:Nat}(h:KR C w k L B W)(a:Below W.heap.size W b):KR C w k L B b:=
 ⟨a9 h.pK a.size,h.kl,h.bl,(a.block _ (br h.box)).trans h.box,h.row.on a,eh h.low a⟩
def Below.ag3{B:Nat}{a w:World}(h:Below B a w){k:Nat}(b:B<=k)(u0 u1 u2 u3 u4:Value):Below B a (((((w.setCell ⟨k,0,none⟩ u0).setCell ⟨k,1,none⟩ u1).setCell ⟨k,2,none⟩ u2).setCell ⟨k,3,none⟩ u3).setCell ⟨k,4,none⟩ u4):=
 ((((h.setCell (p:=⟨k,0,none⟩) b _).setCell (p:=⟨k,1,none⟩) b _).setCell (p:=⟨k,2,none⟩) b _).setCell (p:=⟨k,3,none⟩) b _).setCell (p:=⟨k,4,none⟩) b _
def Sm{W:World}{b:Nat}{x:nR}{t:ac}(h:W.heap[b]?=some (eI #[dy eQ x.1,dy eQ x.2.1,dy eQ x.2.2.1,dy eQ x.2.2.2.1,dy eQ x.2.2.2.2] t)):∀(j:Nat)(u:Value),(vV x)[j]?=some u->W.cell? ((⟨b,0,none⟩:Addr).add j)=some u:=by
 intro j u e
 match j,e with
 |0,e=>cases e;simp[a5,bM,h]
 |1,e=>cases e;simp[a5,bM,h]
 |2,e=>cases e;simp[a5,bM,h]
 |3,e=>cases e;simp[a5,bM,h]
 |4,e=>cases e;simp[a5,bM,h]
 |j+5,e=>simp[vV]at e
def KR.alloc{C:CD}{w W:World}{k:Nat}{L:List Int}{B:Nat}(h:KR C w k L B W)(o:Obj):KR C w k L B (W.alloc o):=h.on ((a7 _ _).alloc (a8 _) o)
def afl(v:Value)(L:List nR){base:Nat}{w:World}(h:kV w base v L)(hl:L.length<=15):Calls PL 75 #[v,dz (eD 76) #[] #[]] w λe w'=>e=eS v/\kV w' base v (G0 aaG L)/\Below base w w':=by
 obtain⟨n,d⟩:∃n,n=L.length:=⟨_,rfl⟩
 obtain⟨b,c,rfl⟩:=vB h;rw[<-d]
 have H:Hid (Calls PL 129 #[dO b n c,dy eQ 0,dy eQ n,dz (eD 76) #[] #[]] w λe w'=>(∃v,e=eS v)/\kV w' base (dO b n c) (G0 aaG L)/\Below base w w'):=bs (by
  have k:=h
  rcases h.2 with⟨e,l⟩|⟨g,cap,m,e,_⟩
  ·obtain⟨rfl,_,rfl⟩:=en e;obtain rfl:=List.length_eq_zero_iff.1 l;subst d;refine(zW none 0 0 0 _ w (by omega)).mono ?_;rintro e w'⟨a,rfl⟩;exact⟨a,k,a7 _ _⟩
  ·obtain⟨rfl,_,rfl⟩:=en e;rw[d]
   exact acz L g c base w k (by omega))
 rw[<-d]at hl;clear h d;have p:(n:Int)<20:=by omega
 have q:(n:Int)<=20:=by omega
 have i:Hid (Calls PL 120 #[dO b n c,dy eQ n,dz (eD 76) #[] #[]] w λe w'=>(∃v,e=eS v)/\kV w' base (dO b n c) (G0 aaG L)/\Below base w w'):=bs (by
  go_enter (fx (by decide) Tryz.func120),Tryz.ntmps120
  go_wp2
  go_loop [7,8] (λv7 o=>v7=dy eQ 0/\o=dy eQ 20) (λ_ _=>0)
  case atStart=>exact⟨rfl,rfl⟩
  case round=>
   obtain⟨rfl,rfl⟩:=hrel
   go_wp2_with (go_at_call 129;refine H.out.mono ?_;rintro e w3⟨⟨v,rfl⟩,a⟩;have f:=bs a;clear a)
   go_loop [6] (λv=>v=dy eQ 20) (λ_=>0)
   case atStart=>rfl
   case round=>
    subst hrel
    go_wp2
    go_end0
    exact⟨⟨_,rfl⟩,f.out⟩)
 have j:Hid (Calls PL 106 #[dO b n c,dz (eD 76) #[] #[]] w λe w'=>(∃v,e=eS v)/\kV w' base (dO b n c) (G0 aaG L)/\Below base w w'):=bs (by
  go_enter (fx (by decide) Tryz.func106),Tryz.ntmps106
  go_wp2_with (go_at_call 120;refine i.out.mono ?_;rintro e w'⟨⟨v,rfl⟩,a⟩;have f:=bs a;clear a)
  go_end0
  exact⟨⟨_,rfl⟩,f.out⟩)
 go_enter (fx (by decide) Tryz.func75),Tryz.ntmps75
 go_wp2_with (go_at_call 106;refine j.out.mono ?_;rintro e w'⟨⟨v,rfl⟩,a⟩;have f:=bs a;clear a)
 go_ret
 exact⟨rfl,f.out⟩
def abk(C:CD)(L:List Int)(hL:L.length=75)(h4:C.n4<=5)(h5:C.n5<=3)(w:World)(h:C.At w)
 (HT:∀W,C.At W->Calls PL 43 #[dC C.val] W λe w'=>∃k,e=eS (dL (some ⟨k,0,none⟩))/\Row w' k (L.map bh)/\Below W.heap.size W w') :
 Calls PL 45 #[dC C.val] w λe w'=>∃v,e=eS v/\kV w' w.heap.size v (afk L C.n4 C.n5)/\Below w.heap.size w w':=by
 have HA:=bs h;have HTT:=bs HT;have HLL:=bs hL;have K0:Hid (KT C w (w.alloc (eI C.val 77))):=bs ⟨au _ _,(a7 _ _).alloc (a8 _) _⟩;clear h HT hL
 go_enter (fx (by decide) Tryz.func45),Tryz.ntmps45
 go_upto_region 1 with fail
 obtain⟨W0,kS⟩:∃W0:World,W0=w.alloc (eI C.val 77):=⟨_,rfl⟩
 rw[<-kS]at K0 ⊢;clear kS;obtain⟨r,s,t,y,f4,z⟩:=bf K0.out.box
 go_wp2_with (go_at_call 43;refine(HTT.out _ (HA.out.below K0.out.low)).mono ?_;rintro e w2⟨k,rfl,hR,qA⟩;have k2:=K0.out.on qA;clear qA r s t y f4 z;have K2:Hid (KR C w k L w2.heap.size w2):=bs (KR.mk (a8 _) hR.1 (br k2.box) k2.box hR k2.low);clear k2 hR;obtain⟨r,s,t,y,f4,z⟩:=bf K2.out.box)
 go_loopw [4,19] (λv4 O wr=>∃a:Nat,a<=C.n5/\O=dy eQ a/\kV wr w2.heap.size v4 (aay L C.n4 C.n5 a)/\KR C w k L w2.heap.size wr) (λ_ O _=>C.n5-(intOf O).toNat)
 case atStart=>exact⟨0,bi _,rfl,⟨rfl,eT ⟨rfl,rfl⟩⟩,K2.out⟩
 case round=>
  obtain⟨a,ha,rfl,I,J⟩:=hrel;clear r s t y f4 z;have HO:=bs I;have HK:=bs J;clear I J K2;obtain⟨r,s,t,y,f4,z⟩:=bf HK.out.box;by_cases aH:a<C.n5
  ·have i1:(a:Int)<C.n5:=by omega
   have i3:(a:Int)<3:=by omega
   clear r s t y f4 z
   go_wp2
   go_loopw [4,6] (λv4 v6 wq=>∃b j:Nat,b=a+1+j/\b<=C.n5/\v6=dy eQ b/\kV wq w2.heap.size v4 (aay L C.n4 C.n5 a++R9 L C.n4 a j)/\KR C w k L w2.heap.size wq) (λ_ v6 _=>C.n5-(intOf v6).toNat)
   case atStart=>exact⟨a+1,0,rfl,aH,by go_num,by simpa[R9]using HO.out,HK.out⟩
   case round=>
    obtain⟨b,j,hb,eP,rfl,I,J⟩:=hrel;have A:=bs hb;have hab:a<b:=by omega
    have P:=bs I;have B:=bs J;clear I J HO HK hb;obtain⟨r,s,t,y,f4,z⟩:=bf B.out.box;by_cases as0:b<C.n5
    ·have i2:(b:Int)<C.n5:=by omega
     have i6:(b:Int)<3:=by omega
     go_wp2
     go_loopw [4,36] (λv4 Q wp=>∃p:Nat,p<=C.n4/\Q=dy eQ p/\kV wp w2.heap.size v4 (aay L C.n4 C.n5 a++R9 L C.n4 a j++abu L a b p)/\KR C w k L w2.heap.size wp) (λ_ Q _=>C.n4-(intOf Q).toNat)
     case atStart=>exact⟨0,bi _,rfl,by simpa[abu]using P.out,B.out⟩
     case round=>
      obtain⟨p,hp,rfl,I,J⟩:=hrel;have HO3:=bs I;have f:=bs J;clear I J P B r s t y f4 z;by_cases aor:p<C.n4
      ·have i4:(p:Int)<C.n4:=by omega
       have i5:(p:Int)<5:=by omega
       have cell:∀j,j<75->wr.cell? ⟨k,j,none⟩=some (dy eQ (L.getD j 0)):=λj hj=>f.out.row.getD (by rw[HLL.out];exact hj);obtain⟨a0,ea0⟩:∃x,x=L.getD (a*25+p*5) 0:=⟨_,rfl⟩
       obtain⟨a1,R⟩:∃x,x=L.getD (a*25+p*5+1) 0:=⟨_,rfl⟩
       obtain⟨a2,S⟩:∃x,x=L.getD (a*25+p*5+2) 0:=⟨_,rfl⟩
       obtain⟨a3,U⟩:∃x,x=L.getD (a*25+p*5+3) 0:=⟨_,rfl⟩
       obtain⟨a4,V⟩:∃x,x=L.getD (a*25+p*5+4) 0:=⟨_,rfl⟩
       obtain⟨b0,eb0⟩:∃x,x=L.getD (b*25+p*5) 0:=⟨_,rfl⟩
       obtain⟨g,X⟩:∃x,x=L.getD (b*25+p*5+1) 0:=⟨_,rfl⟩
       obtain⟨E,Y⟩:∃x,x=L.getD (b*25+p*5+2) 0:=⟨_,rfl⟩
       obtain⟨K,Z⟩:∃x,x=L.getD (b*25+p*5+3) 0:=⟨_,rfl⟩
       obtain⟨F,eb4⟩:∃x,x=L.getD (b*25+p*5+4) 0:=⟨_,rfl⟩
       have T:Hid (wr.cell? ⟨k,a*25+p*5,none⟩=some (dy eQ a0)/\wr.cell? ⟨k,a*25+p*5+1,none⟩=some (dy eQ a1)/\wr.cell? ⟨k,a*25+p*5+2,none⟩=some (dy eQ a2)/\wr.cell? ⟨k,a*25+p*5+3,none⟩=some (dy eQ a3)/\wr.cell? ⟨k,a*25+p*5+4,none⟩=some (dy eQ a4)/\
        wr.cell? ⟨k,b*25+p*5,none⟩=some (dy eQ b0)/\wr.cell? ⟨k,b*25+p*5+1,none⟩=some (dy eQ g)/\wr.cell? ⟨k,b*25+p*5+2,none⟩=some (dy eQ E)/\wr.cell? ⟨k,b*25+p*5+3,none⟩=some (dy eQ K)/\wr.cell? ⟨k,b*25+p*5+4,none⟩=some (dy eQ F)):=bs
        ⟨by rw[ea0];exact cell _ (by omega),by rw[R];exact cell _ (by omega),by rw[S];exact cell _ (by omega),by rw[U];exact cell _ (by omega),by rw[V];exact cell _ (by omega),by rw[eb0];exact cell _ (by omega),by rw[X];exact cell _ (by omega),by rw[Y];exact cell _ (by omega),by rw[Z];exact cell _ (by omega),by rw[eb4];exact cell _ (by omega)⟩
       obtain⟨mt,hmt⟩:∃m,m=aby a1 a2 a3 a4 g E K F:=⟨_,rfl⟩
       have ET:Hid (IU L a b p=(a,(b:Int),(p:Int),mt,max a1 g)):=bs (by rw[IU,hmt,R,S,U,V,X,Y,Z,eb4]);have HMT:=bs hmt;have Ll:=f.out.row.1;clear cell ea0 R S U V eb0 X Y Z eb4 hmt;obtain⟨r,s,t,y,f4,z⟩:=bf f.out.box
       go_upto_region 12 with fail
       clear r s t y f4 z;refine iL 17 14 (λ_ W=>Below wr.heap.size wr W) (λW W'=>Below W.heap.size W W') ExT (λ_=>IG wr.heap.size #[dy eQ a0,dy eQ a1,dy eQ a2,dy eQ a3,dy eQ a4]) neT (λ_ _ _ _ h e=>(h (e.symm.imp And.symm And.symm)).symm) rfl (by kernel_rfl) (by kernel_rfl) rfl
        (λ_ i vs W W' hle h=>h.le hle) (λi o ho vs eX W he aaZ _ h=>⟨λe=>by subst e;rw[<-he];exact h.1 rfl,λe=>by subst e;rw[<-he];exact h.2.1 rfl,λe=>?_⟩) (a7 _ _).drew ?_
       ·subst e;have e14:vs 14=eX 14:=by
         simp only[cm,co,cp,eb]at ho;subst ho;exact aaZ ⟨14,eW⟩ (cH.2 ⟨by simp,rfl⟩)
        rw[<-e14];exact h.2.2 rfl
       iterate 14 (
        apply iK
        case hE=>rfl
        case h=>
         intro vs W _ l hd;obtain⟨t0,t1,t2,t3,t4,t5,t6,t7,t8,t9⟩:=T.out;rw[<-l.cell (p:=⟨k,_,none⟩) Ll]at t0 t1 t2 t3 t4 t5 t6 t7 t8 t9
         go_simp
         exact⟨rfl,a7 _ _⟩
        case hb=>exact j8)
       iterate 2 (
        apply ey
        case hE=>rfl
        case hb=>exact j8
        case h=>
         intro vs W D _ _ l _ hi _ hd hP
         go_simp
         exact⟨l.alloc l.size _,Sl l.size (by simp) hd⟩)
       apply ey
       case hE=>rfl
       case hb=>exact j8
       case h=>
        intro vs W D _ _ l jw hi _ hd hP;have m14:14∈D:=jw ⟨14,eW⟩ (cH.2 ⟨by simp,rfl⟩);have m15:15∈D:=jw ⟨15,.phase⟩ (cH.2 ⟨by simp,rfl⟩);obtain⟨ka,H,hla,alY,x0,x1,x2,x3,x4,M⟩:=(hd 14 m14 rfl).1 rfl;obtain⟨n,NZ,Tg,ab0,iC⟩:=(hd 15 m15 rfl).2.1 rfl;have bu:n≠ka:=λe=>hP 14 m14 15 m15 (by decide) rfl rfl (eT ⟨rfl,rfl⟩) (by rw[H,NZ,e]);have fz:=tO M;rw[H];obtain⟨y0,y1,y2,y3,y4⟩:=qO M
        go_simp
        refine⟨Below.ag3 l hla _ _ _ _ _,λj hj hE=>?_,⟨λe=>absurd e (by decide),λe=>absurd e (by decide),λ_=>⟨ka,by simp[upd,H],tD M⟩⟩,λj _ _ e=>by omega⟩;refine⟨λe=>⟨ka,H,hla,by simpa using alY,_,_,_,_,_,tD M⟩,λe=>⟨n,NZ,Tg,by simpa using ab0,(gh bu).trans iC⟩,λe=>⟨ka,H,tD M⟩⟩
       refine nv λvs W _ _ l hd hX=>?_;obtain⟨ka,H,M⟩:=(hd 16 (by omega) rfl).2.2 rfl;obtain⟨n,NZ,Tg,ab0,iC⟩:=(hd 15 (by omega) rfl).2.1 rfl;have bu:ka≠n:=λe=>hX 14 15 (by omega) (by omega) (by omega) rfl rfl (eT ⟨rfl,rfl⟩) (by rw[H,NZ,e]);have NE:=bs bu;have HBA:=bs M;have wC:=bs iC;have HC:=bs l;have HLB:=bs Tg;obtain⟨y0,y1,y2,y3,y4⟩:=qO iC;have fz:=tO iC;rw[H,NZ];clear M iC l hd hX H NZ bu Tg
       go_upto_region 13 with fail
       obtain⟨W2,vp⟩:∃W2:World,W2=((((W.setCell ⟨n,0,none⟩ (dy eQ b0)).setCell ⟨n,1,none⟩ (dy eQ g)).setCell ⟨n,2,none⟩ (dy eQ E)).setCell ⟨n,3,none⟩ (dy eQ K)).setCell ⟨n,4,none⟩ (dy eQ F):=⟨_,rfl⟩
       have BA:Hid (W2.heap[ka]?=some (eI #[dy eQ a0,dy eQ a1,dy eQ a2,dy eQ a3,dy eQ a4] 53)):=bs (by rw[vp];exact(gh NE.out).trans HBA.out);have BB:Hid (W2.heap[n]?=some (eI #[dy eQ b0,dy eQ g,dy eQ E,dy eQ K,dy eQ F] 53)):=bs (by rw[vp];exact tD wC.out);have HB:Hid (Below wr.heap.size wr W2):=bs (by rw[vp];exact Below.ag3 HC.out HLB.out _ _ _ _ _);rw[<-vp];clear vp y0 y1 y2 y3 y4 fz HBA wC HC HLB NE;clear T Ll
       go_cut [10] from 37 to 111 (fun(v10:Value)(wx:World)=>v10=dy eQ mt/\wx=W2)
       case first=>
        obtain⟨z0,z1,z2,z3,z4⟩:=qO BA.out;obtain⟨y0,y1,y2,y3,y4⟩:=qO BB.out;have la:=br BA.out;have lb:=br BB.out;have s1:(a1<F/\g<a4)\/(a1<F/\¬g<a4)\/¬a1<F:=by omega
        have s2:(a3<=E)\/(¬a3<=E/\K<=a2)\/(¬a3<=E/\¬K<=a2):=by omega
        rcases s1 with⟨e1,e2⟩|⟨e1,e2⟩|e1<;>rcases s2 with e3|⟨e3,e4⟩|⟨e3,e4⟩
        all_goals (
         go_wp2_with (go_at_call 48;refine(yH _ _ _).mono ?_;rintro e w'⟨rfl,rfl⟩)
         go_meet
         case rel=>
          refine⟨?_,rfl⟩;rw[HMT.out,aby]
          first|rw[show(decide (a1<F)&&decide (g<a4))=true by simp;omega]|rw[show(decide (a1<F)&&decide (g<a4))=false by simp;omega]
          first|rw[show(decide (a3<=E)||decide (K<=a2))=true by simp;omega]|rw[show(decide (a3<=E)||decide (K<=a2))=false by simp;omega])
       case rest=>
        obtain⟨rfl,rfl⟩:=hcut;obtain⟨z0,z1,z2,z3,z4⟩:=qO BA.out;obtain⟨y0,y1,y2,y3,y4⟩:=qO BB.out;have la:=br BA.out;have lb:=br BB.out;have q1:=Rw;have q2:=Kv;have O2:=bs (HO3.out.on HB.out);have K2:=bs (f.out.on HB.out)
        go_upto_region 16 with fail
        obtain⟨mx,hmx⟩:∃m,max a1 g=m:=⟨_,rfl⟩
        rw[hmx];have HMX:Hid (IU L a b p=(a,(b:Int),(p:Int),mt,mx)):=bs (by rw[ET.out,hmx]);clear hmx z0 z1 z2 z3 z4 y0 y1 y2 y3 y4 la lb;obtain⟨N,Sn⟩:∃N:World,N=(wc.alloc (eI #[dy eQ a,dy eQ b,dy eQ p,dy eQ mt,dy eQ mx] 56)).alloc (eI #[dy eQ a,dy eQ b,dy eQ p,dy eQ 2,dy eQ mx] 56):=⟨_,rfl⟩
        have r1:N.heap[wc.heap.size]?=some (eI #[dy eQ a,dy eQ b,dy eQ p,dy eQ mt,dy eQ mx] 56):=by rw[Sn];exact(((a7 _ (wc.alloc _)).alloc (a8 _) _).block _ (by simp)).trans (au wc _)
        have r2:N.heap[wc.heap.size+1]?=some (eI #[dy eQ a,dy eQ b,dy eQ p,dy eQ 2,dy eQ mx] 56):=by
         have h:=au (wc.alloc (eI #[dy eQ a,dy eQ b,dy eQ p,dy eQ mt,dy eQ mx] 56)) (eI #[dy eQ a,dy eQ b,dy eQ p,dy eQ 2,dy eQ mx] 56);rw[aJ]at h;rw[Sn];exact h
        have O4:=bs (show kV N w2.heap.size u4 _ by rw[Sn];exact(O2.out.alloc _).alloc _);have K4:Hid (KR C w k L w2.heap.size N):=bs (by rw[Sn];exact(K2.out.alloc _).alloc _);rw[<-Sn];clear Sn;have z1:=br r1;have z2:=br r2;obtain⟨c0,c1,c2,c3,c4⟩:=qO r1;obtain⟨d0,d1,d2,d3,d4⟩:=qO r2;clear r1 r2;by_cases hm2:mt=2
        ·subst hm2
         go_wp2
         exact⟨⟨p+1,aor,by go_num,by rw[abu,if_pos (by rw[HMX.out]),ci];exact O4.out,K4.out⟩,by simp only[intOf];omega⟩
        ·obtain⟨i0,hi,mF,dx,wD⟩:=ag aaX;have NB:=bs K4.out.pK;have Tl:(aay L C.n4 C.n5 a++R9 L C.n4 a j++abu L a b p).length<=80:=by
          have:=ahp L h4 h5 a;have:=L2 L h4 a j;have:=acB L a b p;have:=A.out;simp only[cf];omega
         have HLN:=bs Tl;clear Tl
         go_wp2_with (at_builtin;refine wpList_append_own _ rfl _ _ _ rfl w2.heap.size 56 i0 _ 5 40 ag2 hi mF dx wD rfl (by decide) u4 _ _ rfl (O4.out.alloc _) ⟨N.heap.size,0,none⟩ 1 1 (vV (a,(b:Int),(p:Int),mt,mx)) rfl rfl (Sm (x:=(a,(b:Int),(p:Int),mt,mx)) (au N _)) (by simp[vV,du]) (by have:=HLN.out;simp only[maxLen];omega) (by have:=HLN.out;omega) (by have:=NB.out;simp;omega) ?_;intro v' w4 h1 h2 _;have H1:=bs h1;have H2:=bs h2;clear h1 h2)
         have bu:=cZ O4.out;have d:=K4.out.alloc (eI #[dy eQ a,dy eQ b,dy eQ p,dy eQ mt,dy eQ mx] 56);have hg:=(a7 w2.heap.size _).grown H2.out d.pK bu;refine⟨⟨p+1,aor,by go_num,?_,a9 d.pK H2.out.size,d.kl,d.bl,(hg.block _ d.bl).trans d.box,⟨bm d.row.1 H2.out.size,λj u e=>(hg.cell (p:=⟨k,j,none⟩) d.kl).trans (d.row.2 j u e)⟩,d.low.grown H2.out d.low.size λq e=>a9 (bp d.bl) (bu q e)⟩,by simp only[intOf];omega⟩;rw[abu,if_neg (by rw[HMX.out];exact hm2),HMX.out,<-cv];unfold kV;rw[cf,cg];simpa using H1.out
      ·obtain rfl:p=C.n4:=by omega
       go_wp2
       exact⟨⟨b+1,j+1,by rw[A.out];rfl,as0,by go_num,by rw[R9,<-A.out,<-cv];exact HO3.out,f.out⟩,by simp only[intOf];omega⟩
    ·have hbn:b=C.n5:=by omega
     have i2:¬((b:Int)<C.n5):=by omega
     go_wp2
     exact⟨⟨a+1,aH,by go_num,by rw[aay,show C.n5-(a+1)=j by have:=A.out;omega];exact P.out,B.out⟩,by simp only[intOf];omega⟩
  ·obtain rfl:a=C.n5:=by omega
   obtain⟨b,c,rfl⟩:=vB HO.out;have hm:=abL L h4 h5
   go_wp2_with (go_at_call 75;refine(afl _ _ HO.out (by omega)).mono ?_;rintro e w3⟨rfl,hO3,qi⟩)
   go_ret
   exact⟨_,rfl,dJ hO3 (bp HK.out.bl),HK.out.low.trans (qi.mono (bp HK.out.bl))⟩
def Cv(d:Int)(p:Nat):List nR:=if d=1/\p=3 then[(0,1,2,0,13)] else[]
def amh{d:Int}(hd:d=0\/d=1):afk (mC d) 3 2=Cv d 3:=by
 rcases hd with rfl|rfl<;>decide +kernel
def vC(C:CD)(d:Int)(hd:d=0\/d=1)(a:C.n4=3)(b:C.n5=2)(w:World)(h:C.At w)
 (c:∀W,C.At W->Calls PL 43 #[dC C.val] W λe w'=>∃k,e=eS (dL (some ⟨k,0,none⟩))/\Row w' k ((mC d).map bh)/\Below W.heap.size W w') :
 Calls PL 45 #[dC C.val] w λe w'=>∃v,e=eS v/\kV w' w.heap.size v (Cv d 3)/\Below w.heap.size w w':=by
 have:=abk C (mC d) (by rcases hd with rfl|rfl<;>rfl) (by omega) (by omega) w h c;rwa[a,b,amh hd]at this
abbrev acC(a b c:Nat):Value:=dz (eD 55) #[] #[dL (some ⟨a,0,none⟩),dL (some ⟨b,0,none⟩),dL (some ⟨c,0,none⟩)]
structure DE(V:Array Value)(k2 k3 k4 k5 la ca lb cb Bc Bd Bt B1:Nat)(W:World):Prop where
 lo:k2<B1/\k3<B1/\k4<B1/\k5<B1/\la<B1/\lb<B1/\Bc<B1/\Bd<B1/\Bt<B1
 hi:B1<=W.heap.size
 c:W.heap[Bc]?=some (eI V 27)
 d:∃v,W.heap[Bd]?=some (eI #[v] 64)
 t:W.heap[Bt]?=some (eI #[acC Bc Bd Bt] 109)
 ex:CJ W k2 k3 k4 k5 la ca lb cb 1
def Row.XM{W a:World}{k B:Nat}{l:List Value}(h:Row W k l)(c:k<B)(b:Below B W a):Row a k l:=
 ⟨bm h.1 b.size,λj v e=>(b.cell (p:=⟨k,j,none⟩) c).trans (h.2 j v e)⟩
def DE.XM{V:Array Value}{k2 k3 f g i ca lb j k l m b:Nat}{W n:World}(h:DE V k2 k3 f g i ca lb j k l m b W)(a:Below b W n):DE V k2 k3 f g i ca lb j k l m b n:=by
 obtain⟨a1,a2,a3,a4,o,p,q,r,s⟩:=h.lo;exact⟨h.lo,a9 h.hi a.size,(a.block _ q).trans h.c,h.d.imp λ_ e=>(a.block _ r).trans e,(a.block _ s).trans h.t,⟨h.ex.r2.XM a1 a,h.ex.r3.XM a2 a,h.ex.r4.XM a3 a,h.ex.r5.XM a4 a,h.ex.ra.XM o a,h.ex.rb.XM p a⟩⟩
def DE.on{V:Array Value}{k2 k3 b f g ca lb i j k l m:Nat}{W n:World}(h:DE V k2 k3 b f g ca lb i j k l m W)(a:Below W.heap.size W n):DE V k2 k3 b f g ca lb i j k l m n:=
 ⟨h.lo,a9 h.hi a.size,(a.block _ (br h.c)).trans h.c,h.d.imp λ_ e=>(a.block _ (br e)).trans e,(a.block _ (br h.t)).trans h.t,h.ex.on a⟩
def DP(a b:Nat)(w:World)(e:Ending)(w':World):Prop:=e=eS (dK true)/\(∃v,w'.heap[b]?=some (eI #[v] 64)/\bB w' v [0,0])/\Below a w w'
def Sr{k2 a k3 c3 b c d e f ca lb g:Nat}:qP (ir k2 a k3 c3 b c d e f ca lb g 0) (ir k2 a k3 c3 b c d e f ca lb g 0).n5=true:=by kernel_rfl
def Ss{k2 a k3 c3 d f g i j ca lb k:Nat}(w:World)(h:(ir k2 a k3 c3 d f g i j ca lb k 0).At w):Calls PL 46 #[dC (ir k2 a k3 c3 d f g i j ca lb k 0).val] w (aO (dK true) w):=by
 have m:=VY (ir k2 a k3 c3 d f g i j ca lb k 0) 0 w h (yQ (eT rfl)) (by simp[ir]) λW n=>(vC _ 0 (eT rfl) rfl rfl W n λq l=>tA (eT rfl) ⟨k2,a,k3,c3,d,f,g,i,j,ca,lb,k,rfl⟩ l).mono ?_
 ·rw[Sr]at m;exact m
 ·rintro e w'⟨v,rfl,o,p⟩;obtain⟨b,c,rfl⟩:=vB o;exact⟨b,c,rfl,p⟩
def ahq{W:World}{base e size n B:Nat}{v u:Value}{xs:List Value}(h:W.ownsRow base e size v n xs)(d:B<base):(W.setCell ⟨B,0,none⟩ u).ownsRow base e size v n xs:=by
 obtain⟨b,h⟩:=h
 rcases h with h|⟨g,cap,a,e1,hb,hg,c⟩
 ·exact⟨b,eT h⟩
 ·exact⟨b,eV ⟨g,cap,a,e1,hb,(aZ (by omega)).trans hg,c⟩⟩
def agP{k2 I k3 c3 o J q K r ca lb s L k M X N:Nat}{l:Value}(w:World)(h:DE (ir k2 I k3 c3 o J q K r ca lb s 1).val k2 k3 o q r ca lb s L k M X w)(hl:bB w l [0,0])(O:N<=k) :
 Calls PL 55 #[l,dy eQ 0,dL (some ⟨L,0,none⟩),dL (some ⟨k,0,none⟩),dL (some ⟨M,0,none⟩)] w (DP N k w):=by
 have P:=bs hl;obtain⟨b,c,rfl,Q⟩:=hl;obtain⟨g,m,rfl,t,x⟩:=Q (by simp);have y:=bs h;have Y:=bs (x 0 (by simp));have Z:=bs (x 1 (by simp));simp only[bT,bX,ba]at P ⊢;have R:Hid (∀W,CJ W k2 k3 o q r ca lb s 1->bB W (dO (some ⟨g,m,none⟩) 2 c) [0,0]->Calls PL 54 #[dC (ir k2 I k3 c3 o J q K r ca lb s 1).val,dO (some ⟨g,m,none⟩) 2 c] W _):=bs λW hW hR=>yP W hW hR;have z:=h.c;clear h Q x;simp only[ir,CD.val]at R z y;obtain⟨f0,f1,f2,f3,f4,f5⟩:=bf z;clear z
 go_enter (fx (by decide) Tryz.func55),Tryz.ntmps55
 go_upto_region 4 with(first
  |(go_at_call 54;go_must (refine(R.out _ y.out.ex P.out).mono ?_);rintro e w1⟨q2,p2,q3,p3,q4,p4,q5,p5,xa,ya,xb,yb,rfl,S⟩;have i:=bs S;clear S)
  |(go_at_call 46;go_must (refine(Ss _ (Rx i.out.rows.r2 i.out.rows.r3 i.out.rows.r4 i.out.rows.r5 i.out.rows.ra i.out.rows.rb)).mono ?_);rintro e w2⟨rfl,T⟩;have B2:=bs T;clear T))
 have T2:=bs (eh i.out.low B2.out);have U:∀j u,[bh 0,bh 0][j]?=some u->w2.cell? ⟨g,m+j,none⟩=some u:=λj u e=>by
  match j,e with
  |0,e=>cases e;exact(T2.out.cell (p:=⟨g,m,none⟩) t).trans Y.out
  |1,e=>cases e;exact(T2.out.cell (p:=⟨g,m+1,none⟩) t).trans Z.out
 have CL:=bs U;obtain⟨v0,a⟩:=y.out.d;have A:=bs a;have n:=(T2.out.block _ (br a)).trans a;have B:=bs n;have V:g<w2.heap.size:=bm t T2.out.size;have C:=bs V;clear U a n V
 go_wp2_with (go_at_call 56;go_must (refine(tC g m 2 c [bh 0,bh 0] _ rfl CL.out (by simp[du]) (by omega) C.out).mono ?_);rintro e w3⟨v,rfl,hv,D,E⟩;have f:=(E.block _ (br B.out)).trans B.out;have fz:=tO f;have y0:w3.cell? ⟨k,0,none⟩=some v0:=(by simp[a5,f]);obtain⟨bb,cc,rfl⟩:=vB D;have F:=bs f;have HO:=bs D;have B3:=bs E;clear f D E hv)
 go_ret
 have H:k<w2.heap.size:=br B.out;refine⟨rfl,⟨_,yV F.out,eO.reads (e:=3) (base:=w2.heap.size) (ahq HO.out H)⟩,((eh T2.out B3.out).mono (a9 O (bp (br A.out)))).setCell O _⟩
def abz{T e:ac}(a:PL.underlying T=some (.slice e))(c:(PL.info? e).map (λi=>(i.zero,i.size,i.bytes))=some (some (dy eQ 0),1,8)){ops:Array Oper}{o:Oper}{b:Act}{K:Value->World->Prop}{W:World}(d:o.guard=none)(s x:ab)
 (f:o.op=.call { callee:=.builtin .append,args:=#[s,x],argTypes:=#[T,T] }) (base:Nat) (v:Value) (l:List Int) (j:Int) (k:Nat) (hs:b.eval s=v) (g:eO e W base v l)
 (m:b.eval x=dO (some ⟨k,0,none⟩) 1 1) (hc:W.cell? ⟨k,0,none⟩=some (dy eQ j)) (hl:l.length<=1000) (n:base<=W.heap.size)
 (h:∀v' w',eO e w' base v' (l++[j])->W.grownBy w' v.ownBlock->K v' w'):fC PL ops K o b W:=by
 obtain⟨p,hi,r,t,y⟩:=ag c
 obtain⟨v',w',z,A,B,_⟩:=run_append_own (P:=PL) (w:=W) base T o.type e p (dy eQ 0) 1 8 a hi r t y rfl (by decide) v l.length _ g ⟨k,0,none⟩ 1 1 [dy eQ j] rfl (λq u e=>by
  match q,e with
  |0,e=>cases e;exact hc) (by simp[du]) (by simp only[maxLen];omega) (by omega) n
 unfold fC;rw[if_pos (by simp[Region.wanted,d])];unfold ar;simp only[f,resolve,invoke,builtin,Sem.run_bind,Sem.run_pure,Result.andThen_ok,List.map_toArray,cC,cQ,hs,m,z];refine h v' w' ?_ B;unfold eO;rw[cf,c8];exact A
structure CT(V:Array Value)(k2 k3 k4 k5 la ca lb cb Bc Bd Bt B1:Nat)(w1:World)(b:Bool)(W:World):Prop where
 de:DE V k2 k3 k4 k5 la ca lb cb Bc Bd Bt B1 W
 low:Below B1 w1 W
 old:b=false->Below w1.heap.size w1 W
def V1(n0 a:Nat)(xs:List Int)(j:Nat)(vs:Nat->Value)(W:World):Prop:=
 (j=3->∃k,vs 3=dO (some ⟨k,0,none⟩) 1 1/\n0<=k/\W.heap[k]?=some (eI #[dy eQ 0] 3))/\
 (j=4->eO 3 W a (vs 4) (xs++[0]))
def V1.le{n0 b:Nat}{xs:List Int}{j:Nat}{vs:Nat->Value}{W c:World}(h:V1 n0 b xs j vs W)(d:Below W.heap.size W c):V1 n0 b xs j vs c:=
 ⟨λe=>(h.1 e).imp λ_ a=>⟨a.1,a.2.1,(d.block _ (br a.2.2)).trans a.2.2⟩,λe=>(h.2 e).on d⟩
def ExD(t:Nat):Bool:=t != 3&&t != 4
def abX{k2 x k3 c3 f y g z m ca lb p v r s d F:Nat}{l:Value}(xs:List Int)(L:xs.length<2)(w:World)(h:DE (ir k2 x k3 c3 f y g z m ca lb p 1).val k2 k3 f g m ca lb p v r s d w)(hl:eO 3 w d l xs)(cB:F<=d)
 (M:∀W l',DE (ir k2 x k3 c3 f y g z m ca lb p 1).val k2 k3 f g m ca lb p v r s d W->eO 3 W d l' (xs++[0])->Calls PL 55 #[l',dy eQ 0,dL (some ⟨v,0,none⟩),dL (some ⟨r,0,none⟩),dL (some ⟨s,0,none⟩)] W (DP F r W)) :
 Calls PL 55 #[l,dy eQ 0,dL (some ⟨v,0,none⟩),dL (some ⟨r,0,none⟩),dL (some ⟨s,0,none⟩)] w (DP F r w):=by
 obtain⟨b,c,rfl⟩:=vB hl;have HX:=bs h;have N:=bs hl;have IH:=bs M;have O:=h.c;have i1:¬((xs.length:Int)=2):=by omega
 have H:=bs L;clear h hl M L;obtain⟨P,Q,R,S,f4,T⟩:=bf O;clear O;simp only[ir]at P Q R S f4 T
 go_enter (fx (by decide) Tryz.func55),Tryz.ntmps55
 go_wp2
 go_loopw [8] (λv8 wr=>v8=dy eQ 0/\wr=w) (λ_ _=>0)
 case atStart=>exact⟨rfl,rfl⟩
 case round=>
  obtain⟨rfl,hw⟩:=hrel;subst hw
  go_upto_region 9 with(go_at_call 53;refine(uK (n:=0) rfl _).mono ?_;rintro e w'⟨rfl,rfl⟩)
  have C0:Hid (CT (ir k2 x k3 c3 f y g z m ca lb p 1).val k2 k3 f g m ca lb p v r s d wr false wr.drew):=bs ⟨HX.out.on (a7 _ _).drew,(a7 _ _).drew,λ_=>(a7 _ _).drew⟩;clear P Q R S f4 T i1;refine iL 8 4 (CT (ir k2 x k3 c3 f y g z m ca lb p 1).val k2 k3 f g m ca lb p v r s d wr) (λW U=>Below W.heap.size W U) ExD (λ_=>V1 wr.heap.size d xs) (λ_ _ _ _=>True) (λ_ _ _ _ _=>trivial) rfl (by kernel_rfl) (by kernel_rfl) rfl
   (λ_ i vs W U I h=>h.le I) (λi o ho vs eX W V _ _ h=>⟨λe=>by subst e;rw[<-V];exact h.1 rfl,λe=>by subst e;rw[<-V];exact h.2 rfl⟩) C0.out ?_
  iterate 3 (
   apply iK
   case hE=>rfl
   case h=>
    intro vs W b a hd;have A:=a.de.t;have t0:W.cell? ⟨s,0,none⟩=some (acC v r s):=by simp[a5,A]
    clear A
    go_simp
    first
    |exact⟨rfl,a7 _ _⟩
    |exact⟨rfl,a,a7 _ _⟩
   case hb=>exact j8)
  apply ey
  case hE=>rfl
  case hb=>exact j8
  case h=>
   intro vs W D b hb a X hi _ hd hP;have u:=(a7 W.heap.size W).alloc (a8 _) (eI #[dy eQ 0] 3);have B:Hid (CT (ir k2 x k3 c3 f y g z m ca lb p 1).val k2 k3 f g m ca lb p v r s d wr b (W.alloc (eI #[dy eQ 0] 3))):=bs ⟨a.de.on u,a.low.trans (u.mono a.de.hi),λe=>eh (a.old e) u⟩;have HW:=bs (a.low.size);clear a
   go_simp
   exact⟨B.out,λj C J=>(hd j C J).le u,⟨λ_=>⟨W.heap.size,by simp[upd],HW.out,au _ _⟩,λe=>absurd e (by decide)⟩⟩
  apply ey
  case hE=>rfl
  case hb=>exact j8
  case h=>
   intro vs W D bb iC a X hi _ hd hP;have m3:3∈D:=X ⟨3,eW⟩ (cH.2 ⟨by simp,rfl⟩);obtain⟨q,hq,hql,K⟩:=(hd 3 m3 rfl).1 rfl;have hold:=a.old (iC rfl);have Y:=N.out.on hold;have bu:=cZ Y;have aH:∀j,dv (dO b xs.length c)=some j->j<wr.heap.size:=λj e=>by
    obtain⟨cur,hc⟩:=qm N.out j e;exact br hc
   refine abz Rz RE rfl _ _ rfl d (dO b xs.length c) xs 0 q rfl Y hq (by simp[a5,K]) (by have:=H.out;omega) a.de.hi λv' w' h1 Z=>?_;have u:Below d W w':=(a7 d W).grown Z a.de.hi bu;refine⟨⟨a.de.XM u,a.low.trans u,λe=>by simp at e⟩,λj C J=>⟨λe=>?_,λe=>absurd C (by rw[e];exact hi)⟩,⟨λe=>absurd e (by decide),λ_=>by simpa[upd]using h1⟩,λ_ _ _=>trivial⟩;refine((hd j C J).1 e).imp λk E=>⟨E.1,E.2.1,(Z.block k (br E.2.2) λe=>?_).trans E.2.2⟩
   have:=aH _ e.symm;omega
  iterate 3 (
   apply iK
   case hE=>rfl
   case h=>
    intro vs W b a hd
    go_simp
    exact⟨rfl,a7 _ _⟩
   case hb=>exact j8)
  refine nv λvs W bb _ a hd _=>?_;have hO:=(hd 4 (by omega) rfl).2 rfl;have HO:=bs hO;have B:=bs a;clear hd hO a
  go_wp2_with (go_at_call 55;go_must (refine(IH.out _ _ B.out.de HO.out).mono ?_);rintro e w2⟨rfl,hp,u⟩)
  go_ret
  exact⟨rfl,hp,(B.out.low.mono cB).trans u⟩
def ab1{k2 m k3 c3 d n e o f ca lb g i a j k b:Nat}(w:World)(h:DE (ir k2 m k3 c3 d n e o f ca lb g 1).val k2 k3 d e f ca lb g i a j k w)(p:b<=a)(l:b<=k) :
 Calls PL 55 #[dO none 0 0,dy eQ 0,dL (some ⟨i,0,none⟩),dL (some ⟨a,0,none⟩),dL (some ⟨j,0,none⟩)] w (DP b a w):=
 abX [] (by decide) w h ⟨rfl,eT ⟨rfl,rfl⟩⟩ l λW t q hl=>abX [0] (by decide) W q hl l λr u s c=>agP r s (eO.reads c) p
end Go.Proofs
namespace Go.Proofs
open Go.RowKit Go.Shelf
set_option maxRecDepth 100000
set_option maxHeartbeats 4000000
def abT{P:Program}{w:World}{a:Addr}{m:Mode}(f:Fn)(ts b:Array Value):(store a (dz f ts b) m).run P w=stored P w a (dz f ts b) m:=run_store P w a _ m rfl
attribute [local go_sem] abT
def V2{w:World}{B:Nat}{v:Value}{t:ac}(h:w.heap[B]?=some (eI #[v] t)):Below w.heap.size w (w.setCell ⟨B,0,none⟩ v):=
 ⟨rfl,rfl,rfl,by simp,λk _=>by
   by_cases e:k=B
   ·subst e;rw[yV h,h]
   ·exact aZ (dU e)⟩
structure ahr(V:Array Value)(w:World)(W:World):Prop where
 c:W.heap[w.heap.size]?=some (eI V 27)
 d:W.heap[w.heap.size+1]?=some (eI #[dO none 0 0] 64)
 low:Below w.heap.size w W
def ahr.on{V:Array Value}{w W b:World}(h:ahr V w W)(a:Below W.heap.size W b):ahr V w b:=
 ⟨(a.block _ (br h.c)).trans h.c,(a.block _ (br h.d)).trans h.d,eh h.low a⟩
def II{k2 i k3 c3 a j b k f ca lb g:Nat}(w:World)(h:CJ w k2 k3 a b f ca lb g 1) :
 Calls PL 22 #[dC (ir k2 i k3 c3 a j b k f ca lb g 1).val] w λe w'=>∃v,e=eS (dQ #[v,dK true,dy eQ 0])/\bB w' v [0,0]/\Below w.heap.size w w':=by
 have l:=bs h
 have q:Hid (ahr (ir k2 i k3 c3 a j b k f ca lb g 1).val w ((w.alloc (eI (ir k2 i k3 c3 a j b k f ca lb g 1).val 27)).alloc (eI #[dO none 0 0] 64))):=bs (by
  refine⟨(((a7 (w.alloc _).heap.size _).alloc (a8 _) _).block _ (by simp)).trans (au w _),?_,((a7 _ _).alloc (a8 _) _).alloc (by simp) _⟩;have h:=au (w.alloc (eI (ir k2 i k3 c3 a j b k f ca lb g 1).val 27)) (eI #[dO none 0 0] 64);rw[aJ]at h
  exact h)
 have M:Hid (∀W,CJ W k2 k3 a b f ca lb g 1->Calls PL 52 #[dC (ir k2 i k3 c3 a j b k f ca lb g 1).val] W (aO (dy eQ 0) W)):=bs λW Y=>sY (yQ (eV rfl)) Y.at;clear h;simp only[ir,CD.val]at q M ⊢
 go_enter (fx (by decide) Tryz.func22),Tryz.ntmps22
 go_upto_region 1 with fail
 obtain⟨N,O⟩:∃N:World,N=((w.alloc (eI #[dy eQ 60,dy eQ 4,dO (some ⟨k2,0,none⟩) 2 i,dO (some ⟨k3,0,none⟩) 4 c3,dO (some ⟨a,0,none⟩) 3 j,dO (some ⟨b,0,none⟩) 2 k] 27)).alloc (eI #[dO none 0 0] 64)):=⟨_,rfl⟩
 rw[<-O]at q ⊢;clear O;obtain⟨z,A,B,C,f4,D⟩:=bf q.out.c
 go_upto_region 4 with(go_at_call 52;go_must (refine(M.out _ (l.out.on q.out.low)).mono ?_);rintro e w1⟨rfl,r⟩;have I:=bs (q.out.on r);clear r z A B C f4 D;obtain⟨z,A,B,C,f4,D⟩:=bf I.out.c)
 go_upto_region 5 with fail
 obtain⟨n,E⟩:∃n:World,n=w1.alloc (eI #[dS] 109):=⟨_,rfl⟩
 have r:Below w1.heap.size w1 n:=by rw[E];exact(a7 _ _).alloc (a8 _) _
 have F:n.heap[w1.heap.size]?=some (eI #[dS] 109):=by rw[E];exact au _ _
 rw[<-E];clear E z A B C f4 D;have J:=bs (I.out.on r);have Z:=bs F;have t0:n.cell? ⟨w1.heap.size,0,none⟩=some dS:=by simp[a5,F]
 have P:=tO F;clear F r
 go_upto_region 6 with fail
 obtain⟨m,H⟩:∃m:World,m=n.setCell ⟨w1.heap.size,0,none⟩ (acC w.heap.size (w.heap.size+1) w1.heap.size):=⟨_,rfl⟩
 rw[<-H];have s:=br I.out.d
 have o:Hid (ahr #[dy eQ 60,dy eQ 4,dO (some ⟨k2,0,none⟩) 2 i,dO (some ⟨k3,0,none⟩) 4 c3,dO (some ⟨a,0,none⟩) 3 j,dO (some ⟨b,0,none⟩) 2 k] w m):=bs (by
  rw[H]
  exact⟨(aZ (by omega)).trans J.out.c,(aZ (by omega)).trans J.out.d,J.out.low.setCell (p:=⟨w1.heap.size,0,none⟩) (by simp only;omega) _⟩)
 have Q:Hid (DE (ir k2 i k3 c3 a j b k f ca lb g 1).val k2 k3 a b f ca lb g w.heap.size (w.heap.size+1) w1.heap.size (w1.heap.size+1) m):=bs (by
  have e:=l.out.on o.out.low;have l2:=l.out.r2.1;have l3:=l.out.r3.1;have l4:=l.out.r4.1;have l5:=l.out.r5.1;have f:=l.out.ra.1;have lb:=l.out.rb.1;have R:m.heap[w1.heap.size]?=some (eI #[acC w.heap.size (w.heap.size+1) w1.heap.size] 109):=by rw[H];exact yV Z.out
  exact⟨⟨by omega,by omega,by omega,by omega,by omega,by omega,by omega,by omega,by omega⟩,br R,o.out.c,⟨_,o.out.d⟩,R,e⟩)
 have S:=Q.out.t;have t1:m.cell? ⟨w1.heap.size,0,none⟩=some (acC w.heap.size (w.heap.size+1) w1.heap.size):=by simp[a5,S]
 obtain⟨z,A,B,C,f4,D⟩:=bf o.out.c;clear H t0 P S;have K:=bs s;clear s
 go_wp2
 go_loopw [19] (λL wr=>L=dy eQ 0/\wr=m) (λ_ _=>0)
 case atStart=>exact⟨rfl,rfl⟩
 case round=>
  obtain⟨rfl,hw⟩:=hrel;subst hw
  go_wp2_with (go_at_call 55;go_must (refine(ab1 _ Q.out (bg _) (by have:=K.out;omega)).mono ?_);rintro e w3⟨rfl,⟨v,hv,T⟩,U⟩;have HR:=bs T;obtain⟨x,y,rfl,Yc⟩:=T;clear Yc;have y0:w3.cell? ⟨w.heap.size+1,0,none⟩=some (dO x 2 y):=(by simp[a5,hv]);have P:=tO hv;have V:=bs hv;have X:=bs U;clear hv U)
  have hs:=V2 V.out;have hy:=yV (u:=dO x 2 y) V.out;refine ap (v:=dQ #[dO x 2 y,dK true,dy eQ 0]) ?_ rfl ⟨_,rfl,HR.out.on hs,(o.out.low.trans X.out).trans (hs.mono (a9 o.out.low.size X.out.size))⟩;have hz:=br hy;have sB:(w3.setCell ⟨w.heap.size+1,0,none⟩ (dO x 2 y)).cell? ⟨w.heap.size+1,0,none⟩=some (dO x 2 y):=by simp[a5,hy]
  clear hs;simp[ao,Tryz.results22,go_sem,sB]
end Go.Proofs
namespace Go.Proofs
open Go.RowKit Go.Instr
open Go.ChangeMaps (setBlock)
set_option maxRecDepth 100000
abbrev WE:=Int×Value×List Int×Int
def nD(x:WE):Value:=dC #[x.2.1,dy eQ x.2.2.2]
def Cx(i:Nat)(x:WE):aw:={ key:=dy eQ x.1,val:=nD x,born:=i }
def gi(R:List WE):Array aw:=(R.mapIdx Cx).toArray
structure jy(W:World)(b:Nat)(R:List WE):Prop where
 map:W.heap[b]?=some (eM (gi R) R.length)
 reads:∀x∈R,bB W x.2.1 x.2.2.1
 ne:∀x∈R,x.2.2.1≠[]
def jy.on{W a:World}{b:Nat}{R:List WE}(h:jy W b R)(c:Below W.heap.size W a):jy a b R:=
 ⟨(c.block _ (br h.map)).trans h.map,λx d=>(h.reads x d).on c,h.ne⟩
def jy.made(w:World):jy (w.alloc (eM #[] 0)) w.heap.size []:=⟨au _ _,λ_ h=>(by cases h),λ_ h=>(by cases h)⟩
def yY:PL.underlying 114=some (.map 3 113):=by kernel_rfl
def V3(w:World):(zeroValue 113).run PL w=et (dC #[dO none 0 0,dy eQ 0]) w:=by kernel_rfl
def Sv(k:Int):∀(R:List WE)(f:Nat->WE->aw)(a:Nat),(∀i x,(f i x).key=dy eQ x.1)->(∀i x,(f i x).val=nD x)->
 ∃r,ej (.int eQ) (dy eQ k) (R.mapIdx f) a=some r/\(∀x,R.find? (λx=>x.1==k)=some x->∃j,r=some (j,nD x))/\(R.find? (λx=>x.1==k)=none->r=none)
 |[],f,a,_,_=>⟨none,rfl,λx h=>by simp at h,λ_=>rfl⟩
 |y::R,f,a,b,hv=>by
  rw[List.mapIdx_cons];by_cases e:y.1=k
  ·refine⟨some (a,nD y),by simp[ej,b,hv,sameNow,e],λx h=>?_,λh=>?_⟩
   ·simp[e]at h;subst h;exact⟨a,rfl⟩
   ·simp[e]at h
  ·obtain⟨r,c,d,g⟩:=Sv k R (λi=>f (i+1)) (a+1) (λi x=>b _ x) (λi x=>hv _ x);refine⟨r,?_,λx h=>d x ?_,λh=>g ?_⟩
   ·have l:(k==y.1)=false:=by simpa using λh=>e h.symm
    simp only[ej,b,sameNow,l,if_true];simpa using c
   ·simpa[da,e]using h
   ·simpa[da,e]using h
def qn(k:Int)(R:List WE)(w:World):∃r,(findKey 3 (dy eQ k) (gi R).toList).run PL w=et r w/\(∀x,R.find? (λx=>x.1==k)=some x->∃j,r=some (j,nD x))/\(R.find? (λx=>x.1==k)=none->r=none):=by
 obtain⟨r,a,b,c⟩:=Sv k R Cx 0 (λ_ _=>rfl) (λ_ _=>rfl);exact⟨r,by simp[findKey,aB,aaj,gi,a],b,c⟩
def IJ{W:World}{b:Nat}{R:List WE}{k:Int}{x:WE}(h:W.heap[b]?=some (eM (gi R) R.length))(a:R.find? (λx=>x.1==k)=some x):(ek 114 (dT (some b)) (dy eQ k) false).run PL W=et (nD x) W:=by
 obtain⟨r,c,d,_⟩:=qn k R W;obtain⟨j,rfl⟩:=d x a;simp[ek,aB,yY,ep h,qz.check,c]
def Sw{W:World}{b:Nat}{R:List WE}{k:Int}{x:WE}(h:W.heap[b]?=some (eM (gi R) R.length))(a:R.find? (λx=>x.1==k)=some x):(ek 114 (dT (some b)) (dy eQ k) true).run PL W=et (dQ #[nD x,dK true]) W:=by
 obtain⟨r,c,d,_⟩:=qn k R W;obtain⟨j,rfl⟩:=d x a;simp[ek,aB,yY,ep h,qz.check,c]
def Sx{W:World}{b:Nat}{R:List WE}{k:Int}(h:W.heap[b]?=some (eM (gi R) R.length))(c:R.find? (λx=>x.1==k)=none):(ek 114 (dT (some b)) (dy eQ k) true).run PL W=et (dQ #[dC #[dO none 0 0,dy eQ 0],dK false]) W:=by
 obtain⟨r,a,_,d⟩:=qn k R W;rw[d c]at a;simp[ek,aB,yY,ep h,qz.check,a,V3]
def jN{W d:World}{b:Nat}{o:Obj}{v:Value}{l:List Int}(hv:bB W v l)(hl:l≠[])(h:gv W d b)(hb:W.heap[b]?=some o)(e:∀c t f,o≠eI c t f):bB d v l:=by
 obtain⟨p,c,rfl,g⟩:=hv;refine⟨p,c,rfl,λi=>?_⟩;obtain⟨k,q,rfl,m,hc⟩:=g i;have n:k≠b:=by
  rintro rfl;have:=hc 0 (by omega);simp only[a5,hb]at this
  cases o with
  |cells c t f=>exact e c t f rfl
  |_=>simp at this
 exact⟨k,q,rfl,by rw[h.size];exact m,λj r=>(h.cell (a:=⟨k,q+j,none⟩) n).trans (hc j r)⟩
def jy.put{W:World}{b:Nat}{R:List WE}(h:jy W b R){x:WE}(f:R.find? (λy=>y.1==x.1)=none)(g:bB W x.2.1 x.2.2.1)(c:x.2.2.1≠[]) :
 ∃w',(em 114 (dT (some b)) (dy eQ x.1) (nD x)).run PL W=et () w'/\jy w' b (R++[x])/\gv W w' b:=by
 obtain⟨r,d,_,i⟩:=qn x.1 R W;rw[i f]at d;have hb:=br h.map
 have a:gv W { W with heap:=W.heap.setIfInBounds b (eM ((gi R).push { key:=dy eQ x.1,val:=nD x,born:=R.length }) (R.length+1)) } b:=⟨rfl,rfl,rfl,by simp,λk j=>by
  show(W.heap.setIfInBounds b _)[k]?=_
  rw[bA (dU j)]⟩
 have l:gi (R++[x])=(gi R).push { key:=dy eQ x.1,val:=nD x,born:=R.length }:=by
  simp[gi,Cx,List.mapIdx_append]
 refine⟨_,?_,⟨?_,λy hy=>?_,λy hy=>?_⟩,a⟩
 ·simp[em,aB,yY,ep h.map,qz.check,d,MapKept.run_setObj_map _ h.map]
 ·rw[l];simp[hb]
 ·rcases List.mem_append.1 hy with hy|hy
  ·exact jN (h.reads y hy) (h.ne y hy) a h.map (λ_ _ _ e=>by cases e)
  ·rw[List.mem_singleton.1 hy];exact jN g c a h.map (λ_ _ _ e=>by cases e)
 ·rcases List.mem_append.1 hy with hy|hy
  ·exact h.ne y hy
  ·rw[List.mem_singleton.1 hy];exact c
def ag6(R:List WE):(gi R).toList.map (·.born)=db R.length:=by
 apply List.ext_getElem
 ·simp[gi]
 ·intro i a b;simp[gi,Cx]
def A5{R:List WE}{e:aw}(h:e∈(gi R).toList):∃j x,R[j]?=some x/\e=Cx j x:=by
 simp only[gi,dd]at h;obtain⟨j,a,rfl⟩:=h;exact⟨j,R[j],by simp[a],rfl⟩
def tE(W:World)(r b n:Nat)(seen:Array Nat):Prop:=W.heap[r]?=some (eN (some b) n seen n)
def V4{W:World}{b:Nat}{R:List WE}(h:jy W b R):(Instr.range 114 (dT (some b))).run PL W=et (dL (some ⟨W.heap.size,0,none⟩)) (W.alloc (eN (some b) R.length #[] R.length)):=
 run_range_map W 114 3 113 b _ _ yY h.map
def Fs(n:Nat)(seen:Array Nat):Nat:=((db n).filter λj=>!seen.contains j).length
def IK{n j:Nat}{seen:Array Nat}(a:j<n)(hs:seen.contains j=false):Fs n (seen.push j)<Fs n seen:=by
 unfold Fs;have b:(db n).filter (λq=>!(seen.push j).contains q)=((db n).filter λq=>!seen.contains q).filter λq=>decide (¬q=j):=by
  rw[List.filter_filter];refine List.filter_congr λq _=>?_;by_cases e:q=j<;>simp[e]
 rw[b];refine List.length_filter_lt_length_iff_exists.2 ⟨j,?_,by simp⟩;have c:j∉seen:=by simpa using hs
 simp[a,c]
def zX{ops:Array Oper}{rest:List Oper}{o:Oper}{a:Act}{Q:Exit->Act->World->Prop}(w:World)(hg:o.guard=none)(it:ab)(t:o.op=Op.next it false)(r b:Nat)(R:List WE)(seen:Array Nat)
 (u:a.eval it=dL (some ⟨r,0,none⟩)) (g:tE w r b R.length seen) (c:jy w b R)
 (A:(∀j,j<R.length->seen.contains j=true)->aF PL ops Q rest (a.put o.dst (dQ #[dK false])) w)
 (i:∀j x w',R[j]?=some x->seen.contains j=false->tE w' r b R.length (seen.push j)->gv w w' r->jy w' b R->(Instr.entry (dL (some ⟨r,0,none⟩))).run PL w'=et (dQ #[dy eQ x.1,nD x]) w'->
   aF PL ops Q rest (a.put o.dst (dQ #[dK true,dy eQ x.1,nD x])) w'):aF PL ops Q (o::rest) a w:=by
 refine aI hg λF hK'=>?_;unfold Oper.wp
 rcases run_next_at (P:=PL) w o.type r b R.length R.length seen (gi R) R.length g c.map (λx B=>by
  obtain⟨j,y,d,rfl⟩:=A5 B
  exact(List.getElem?_eq_some_iff.1 d).1) (a8 _) with⟨hl,l⟩|⟨e,m,w1,h,l⟩
 ·simp[ar,t,u,l,eq];refine hK' _ _ (A λj d=>?_);have f:Cx j R[j]∉leftOf (gi R) seen:=by rw[Array.eq_empty_of_size_eq_zero hl];simp
  have C:Cx j R[j]∈gi R:=by
   simp only[gi,List.mem_toArray,dd];exact⟨j,d,rfl⟩
  simp only[leftOf,bC,not_and]at f;have:=f C;simpa[Cx]using this
 ·have n:e∈(gi R).toList/\seen.contains e.born=false:=by
   simp only[leftOf,Array.mem_toList_iff,bC]at m;exact⟨Array.mem_toList_iff.2 m.1,by simpa using m.2⟩
  obtain⟨j,x,d,rfl⟩:=A5 n.1;have hs:seen.contains j=false:=n.2;simp[ar,t,u,l,eq];have p:=br g
  have q:w1.heap=w.heap:=by rcases h with rfl|rfl<;>rfl
  have D:b≠r:=by rintro rfl;have i:=c.map;have f:w.heap[b]?=_:=g;rw[i]at f;cases f
  have s:gv w (setBlock w1 r (eN (some b) R.length (seen.push j) R.length)) r:=by
   refine⟨by rcases h with rfl|rfl<;>rfl,by rcases h with rfl|rfl<;>rfl,by rcases h with rfl|rfl<;>rfl,by simp[setBlock,q],λk E=>?_⟩;show(w1.heap.setIfInBounds r _)[k]?=_;rw[q,bA (dU E)]
  have v:tE (setBlock w1 r (eN (some b) R.length (seen.push j) R.length)) r b R.length (seen.push j):=by
   show(w1.heap.setIfInBounds r _)[r]?=_;rw[q];simp[p]
  have z:jy (setBlock w1 r (eN (some b) R.length (seen.push j) R.length)) b R:=⟨(s.block _ D).trans c.map,λy hy=>jN (c.reads y hy) (c.ne y hy) s g (λ_ _ _ e=>by cases e),c.ne⟩
  refine hK' _ _ (i j x _ d hs v s z ?_);exact run_entry_at _ r b R.length seen (gi R) R.length (Cx j x) v z.map n.1 (by rw[ag6];exact List.nodup_range)
def tF{ops:Array Oper}{rest:List Oper}{o:Oper}{a:Act}{Q:Exit->Act->World->Prop}(w:World)(hg:o.guard=none)(m x v:ab)(c:o.op=Op.mapUpdate 114 m x v\/o.op=Op.insert 114 m x v)(b:Nat)(R:List WE)(y:WE)
 (d:a.eval m=dT (some b)) (e:a.eval x=dy eQ y.1) (hv:a.eval v=nD y) (h:jy w b R) (hy:R.find? (λz=>z.1==y.1)=none) (f:bB w y.2.1 y.2.2.1) (g:y.2.2.1≠[])
 (i:∀w',jy w' b (R++[y])->gv w w' b->aF PL ops Q rest (a.put o.dst undef) w'):aF PL ops Q (o::rest) a w:=by
 refine aI hg λn hK'=>?_;obtain⟨w',j,k,l⟩:=h.put hy f g;unfold Oper.wp
 rcases c with c|c<;>
 ·simp[ar,c,d,e,hv,j,eq];exact hK' _ _ (i w' k l)
abbrev SW:=List (Int×List Int×Int)
def V6(b:List Int)(a:Int)(q:Nat):Bool:=decide ((q:Int)∈b)||(decide ((zU q).1≠a)&&decide ((zU q).2.1≠a))
def XN(a:Int)(q:Nat):Int:=(zU q).1+(zU q).2.1-a
def stepW(b c:List Int)(a:Int)(S:SW)(q:Nat):SW:=if V6 b a q then S else if XN a q∈c then S else match S.find? (λx=>x.1==a) with
 |none=>S
 |some x=>S++[(XN a q,x.2.1++[XN a q],x.2.2+(zU q).2.2)]
def N0(a b:List Int)(c:Int)(S:SW):Nat->SW
 |0=>S
 |q+1=>stepW a b c (N0 a b c S q) q
def okQ(b c:List Int)(a:Int)(S:SW):Bool:=(db 4).all λq=>match(N0 b c a S q).find? (λx=>x.1==a) with
 |none=>false
 |some x=>decide (x.2.1.length<=10)&&decide (0<=x.2.2)&&decide (x.2.2<=1000)&&(V6 b a q||decide (XN a q∈c)||((N0 b c a S q).find? λx=>x.1==XN a q).isNone)
def strip(x:WE):Int×List Int×Int:=(x.1,x.2.2)
def nE{R:List WE}{S:SW}(h:R.map strip=S)(k:Int):S.find? (λx=>x.1==k)=(R.find? λx=>x.1==k).map strip:=by
 rw[<-h,List.find?_map];rfl
end Go.Proofs
namespace Go.Proofs
open Go.RowKit Go.Shelf
attribute [local go_sem] Oper.semAt_some
set_option maxRecDepth 100000
set_option maxHeartbeats 1000000
def aos(C:CD)(w:World)(j:Nat)(vs:Nat->Value)(W:World):Prop:=
 (j=10->∃k,vs 10=dL (some ⟨k,0,none⟩)/\w.heap.size<k/\Six W k)/\(j=11->∃k,vs 10=dL (some ⟨k,0,none⟩)/\w.heap.size<k/\W.heap[k]?=some (eI C.val 77))
def yZ(m:Int)(p:Nat):Int:=kU je p m 2 0 false
def uN(m:Int)(p:Nat):List Int:=((db p).filter λq=>yZ m q != 2).map fun(q:Nat)=>(q:Int)+1
def IL{m:Int}{p:Nat}(h:yZ m p=2):uN m (p+1)=uN m p:=by
 simp[uN,df,di,h]
def IM{m:Int}{p:Nat}(h:yZ m p≠2):uN m (p+1)=uN m p++[(p:Int)+1]:=by
 simp[uN,df,di,h]
def V7{m:Int}{p:Nat}:(p:Int)+1∉uN m p:=by
 simp only[uN,List.mem_map,List.mem_filter,dj,not_exists,not_and,and_imp];intro q a _ e;omega
abbrev zn:Int->Value:=λn=>dy eQ n
structure KQ(C:CD)(w:World)(kx kt:Nat)(W:World):Prop where
 box:W.heap[w.heap.size]?=some (eI C.val 27)
 bx:W.heap[kx]?=some (eI C.val 77)
 row:Row W kt (je.map bh)
 low:Below w.heap.size w W
def KQ.on{C:CD}{w W b:World}{c d:Nat}(h:KQ C w c d W)(a:Below W.heap.size W b):KQ C w c d b:=
 ⟨(a.block _ (br h.box)).trans h.box,(a.block _ (br h.bx)).trans h.bx,h.row.on a,eh h.low a⟩
def KQ.turned{C:CD}{w W l:World}{m i b:Nat}{o:Obj}(h:KQ C w m i W)(d:gv W l b)(hb:W.heap[b]?=some o)(n:∀c t f,o≠eI c t f)(q:w.heap.size<=b):KQ C w m i l:=by
 have p:∀{k:Nat}{c:Array Value}{t:ac}{f:Nat×Nat},W.heap[k]?=some (eI c t f)->k≠b:=λ{k c t f}e g=>by
  rw[g,hb]at e;cases e;exact n _ _ _ rfl
 refine⟨(d.block _ (p h.box)).trans h.box,(d.block _ (p h.bx)).trans h.bx,⟨by rw[d.size];exact h.row.1,λj v e=>(d.cell (a:=⟨i,j,none⟩) λg=>?_).trans (h.row.2 j v e)⟩,h.low.trans (d.below q)⟩;have:=h.row.2 j v e;simp only at g;subst g;simp only[a5,hb]at this
 cases o with
 |cells c t f=>exact n c t f rfl
 |_=>simp at this
def Sy:Ir je:=by
 have h:∀j,j<75->-10000<=je.getD j 0/\je.getD j 0<=10000:=by decide
 have k:∀j,¬j<75->je.getD j 0=0:=λj a=>by
  rw[dk,cu (by show je.length<=j;have:je.length=75:=rfl;omega)];rfl
 exact⟨rfl,λj=>by by_cases a:j<75;exact(h j a).1;rw[k j a];decide,λj=>by by_cases a:j<75;exact(h j a).2;rw[k j a];decide⟩
def Sz(C:CD)(k p:Nat)(m:Int)(w:World)(a:Row w k (je.map bh))(b:C.n5=2)(c:p<5) :
 Calls PL 44 #[dC C.val,dL (some ⟨k,0,none⟩),dy eQ p,dy eQ m] w (aO (dy eQ (yZ m p)) w):=by
 have h:=Fa C k p m je Sy w a (by omega) c;have e:kU je p m C.n5 0 false=yZ m p:=by rw[b];rfl
 rw[e]at h;exact h
def XO(m:Int):List Int:=if m=5 then[2,3,0] else[]
def A6(m:Int):Int:=if m=5 then 110 else 0
def SC(m:Int):Bool:=decide (m=5)
def zb(m:Int):Nat:=if m=5 then 2 else 1
def Ln(m:Int)(i:Nat):SW:=if i=0 then[(2,[2],0)] else if m=5 then(if i=1 then[(2,[2],0),(3,[2,3],30)] else[(2,[2],0),(3,[2,3],30),(0,[2,3,0],110)]) else[(2,[2],0)]
def tP(_:Int)(i:Nat):List Int:=if i=0 then[] else if i=1 then[2] else[2,3]
def stA(m:Int)(i:Nat):Int:=if i=0 then 2 else if m=5 then(if i=1 then 3 else 0) else -1
def V8{m:Int}(b:m=5\/m=3){i:Nat}(hi:i<=zb m):(∀j x,(Ln m i)[j]?=some x->x.1∉tP m i->x.1=stA m i/\j=i)/\(stA m i = -1\/∃x,(Ln m i)[i]?=some x/\x.1∉tP m i):=by
 rcases b with rfl|rfl
 ·obtain rfl|rfl|rfl:i=0\/i=1\/i=2:=by have:zb 5=2:=rfl;omega
  ·exact⟨λj x h _=>by match j,h with
    |0,h=>cases h;exact⟨rfl,rfl⟩,eV ⟨_,rfl,by decide⟩⟩
  ·exact⟨λj x h a=>by match j,h with
    |0,h=>cases h;exact absurd (by decide) a
    |1,h=>cases h;exact⟨rfl,rfl⟩,eV ⟨_,rfl,by decide⟩⟩
  ·exact⟨λj x h a=>by match j,h with
    |0,h=>cases h;exact absurd (by decide) a
    |1,h=>cases h;exact absurd (by decide) a
    |2,h=>cases h;exact⟨rfl,rfl⟩,eV ⟨_,rfl,by decide⟩⟩
 ·obtain rfl|rfl:i=0\/i=1:=by have:zb 3=1:=rfl;omega
  ·exact⟨λj x h _=>by match j,h with
    |0,h=>cases h;exact⟨rfl,rfl⟩,eV ⟨_,rfl,by decide⟩⟩
  ·exact⟨λj x h a=>by match j,h with
    |0,h=>cases h;exact absurd (by decide) a,eT rfl⟩
def uO{R:List WE}{S:SW}(h:R.map strip=S){j:Nat}{x:WE}(a:R[j]?=some x):S[j]?=some (strip x):=by rw[<-h,dl,a];rfl
def SD{m:Int}(j:m=5\/m=3){i:Nat}(hi:i<=zb m)(a:stA m i<=0){W:World}{b:Nat}{R:List WE}(f:R.map strip=Ln m i)(h:jy W b R) :
 ∃p n c,(ek 114 (dT (some b)) (dy eQ 0) true).run PL W=et (dQ #[dC #[dO p n c,dy eQ (A6 m)],dK (SC m)]) W/\bB W (dO p n c) (XO m):=by
 rcases j with rfl|rfl
 ·obtain rfl:i=2:=by
   have k:zb 5=2:=rfl
   match i,a with
   |0,a=>exact absurd a (by decide)
   |1,a=>exact absurd a (by decide)
   |2,_=>rfl
   |i+3,_=>omega
  have hf:=nE f 0
  cases e:R.find? (λx=>x.1==0) with
  |none=>rw[e]at hf;cases hf
  |some x=>
   rw[e]at hf;have d:some ((0:Int),[(2:Int),3,0],(110:Int))=some (strip x):=hf;obtain⟨x1,x2,x3,x4⟩:=x;simp only[strip,eb,Prod.mk.injEq]at d;obtain⟨rfl,rfl,rfl⟩:=d;have g:=h.reads _ (dp e);have hl:=Sw h.map e;simp only[nD]at hl;have l:bB W x2 [2,3,0]:=g;obtain⟨p,c,rfl,_⟩:=l;exact⟨p,_,c,hl,g⟩
 ·obtain rfl:i=1:=by
   have k:zb 3=1:=rfl
   match i,a with
   |0,a=>exact absurd a (by decide)
   |1,_=>rfl
   |i+2,_=>omega
  have hf:=nE f 0;have e:R.find? (λx=>x.1==0)=none:=by
   cases e:R.find? (λx=>x.1==0) with
   |none=>rfl
   |some x=>rw[e]at hf;cases hf
  exact⟨none,0,0,Sx h.map e,⟨none,0,rfl,λh=>absurd h (by decide)⟩⟩
def V9{m:Int}{i:Nat}(b:(∀j x,(Ln m i)[j]?=some x->x.1∉tP m i->x.1=stA m i/\j=i)/\(stA m i = -1\/∃x,(Ln m i)[i]?=some x/\x.1∉tP m i)){R:List WE}(c:R.map strip=Ln m i){seen:Array Nat}{f:Bool}{u:Value}
 (hv:u=dy eQ (if f then stA m i else -1)) (hf:f=true↔∃j x,R[j]?=some x/\seen.contains j=true/\x.1∉tP m i) (al:∀j,j<R.length->seen.contains j=true):u=dy eQ (stA m i):=by
 rw[hv]
 rcases b.2 with h|⟨x,a,d⟩
 ·cases f<;>simp[h]
 ·have:f=true:=by
   rw[<-c,dl]at a
   cases e:R[i]? with
   |none=>rw[e]at a;cases a
   |some y=>
    rw[e]at a;cases a;exact hf.2 ⟨i,y,e,al i (List.getElem?_eq_some_iff.1 e).1,d⟩
  rw[this];rfl
def ab2{m:Int}{i:Nat}(a:(∀j x,(Ln m i)[j]?=some x->x.1∉tP m i->x.1=stA m i/\j=i)/\(stA m i = -1\/∃x,(Ln m i)[i]?=some x/\x.1∉tP m i))(d:0<stA m i):stA m i∉tP m i:=by
 rcases a.2 with h|⟨x,c,b⟩
 ·omega
 ·rw[<-(a.1 i x c b).1];exact b
def jy.turned{W a:World}{b c:Nat}{R:List WE}(h:jy W b R)(d:gv W a c)(hc:∃o,W.heap[c]?=some o/\∀x t f,o≠eI x t f)(g:b≠c):jy a b R:=by
 obtain⟨o,i,j⟩:=hc;exact⟨(d.block _ g).trans h.map,λx e=>jN (h.reads x e) (h.ne x e) d i j,h.ne⟩
def Lo{m:Int}(b:m=5\/m=3){i:Nat}(hi:i<=zb m)(a:0<stA m i):i+1<=zb m/\tP m i++[stA m i]=tP m (i+1)/\N0 (uN m 3) (tP m (i+1)) (stA m i) (Ln m i) 4=Ln m (i+1)/\okQ (uN m 3) (tP m (i+1)) (stA m i) (Ln m i)=true/\stA m i<=3:=by
 rcases b with rfl|rfl
 ·obtain rfl|rfl|rfl:i=0\/i=1\/i=2:=by have:zb 5=2:=rfl;omega
  ·exact⟨by decide,by decide,by decide +kernel,by decide +kernel,by decide⟩
  ·exact⟨by decide,by decide,by decide +kernel,by decide +kernel,by decide⟩
  ·exact absurd a (by decide)
 ·obtain rfl|rfl:i=0\/i=1:=by have:zb 3=1:=rfl;omega
  ·exact⟨by decide,by decide,by decide +kernel,by decide +kernel,by decide⟩
  ·exact absurd a (by decide)
def ab3{c d:List Int}{a:Int}{S:SW}(h:okQ c d a S=true){q:Nat}(f:q<4):∃x,(N0 c d a S q).find? (λx=>x.1==a)=some x/\x.2.1.length<=10/\0<=x.2.2/\x.2.2<=1000/\(V6 c a q=false->XN a q∉d->(N0 c d a S q).find? (λx=>x.1==XN a q)=none):=by
 simp only[okQ,List.all_eq_true,dj]at h;have h:=h q f
 cases e:(N0 c d a S q).find? (λx=>x.1==a) with
 |none=>rw[e]at h;cases h
 |some x=>
  rw[e]at h;simp only[eu,ev,decide_eq_true_eq,Option.isNone_iff_eq_none]at h;obtain⟨⟨⟨g,i⟩,j⟩,b⟩:=h;refine⟨x,rfl,g,i,j,λk1 k2=>?_⟩
  rcases b with(b|b)|b
  ·rw[k1]at b;cases b
  ·exact absurd b k2
  ·exact b
def Ft(W:World)(r:Nat):Nat:=match W.heap[r]? with
 |some (eN _ n seen _)=>Fs n seen
 |_=>0
def Fu{W:World}{r b n:Nat}{seen:Array Nat}(h:tE W r b n seen):Ft W r=Fs n seen:=by
 have a:W.heap[r]?=some (eN (some b) n seen n):=h;simp only[Ft,a]
def tE.on{W a:World}{r b n:Nat}{seen:Array Nat}(h:tE W r b n seen)(c:Below W.heap.size W a):tE a r b n seen:=(c.block _ (br h)).trans h
def ab4(W:World)(b:Nat):Nat:=match W.heap[b]? with
 |some (eM es _)=>es.size
 |_=>0
def Fv{W:World}{b:Nat}{l:List Int}(h:aU W zn b l):ab4 W b=l.length:=by
 obtain⟨es,c,a,d,_⟩:=h;have:=congrArg List.length d;simp only[ab4,a];simpa using this
structure Wb(n0:Nat)(xp:List Int)(tq n:Int)(b:Bool)(j:Nat)(vs:Nat->Value)(W:World):Prop where
 c4:j=4->b=false->eO 3 W n0 (vs 4) xp
 c6:j=6->b=false->∃k,vs 6=dO (some ⟨k,0,none⟩) 1 1/\W.heap[k]?=some (eI #[dy eQ tq] 3)
 c7:j=7->eO 3 W n0 (vs 7) (xp++[tq])
 c15:j=15->vs 15=dC #[vs 7,dy eQ n]
 c16:j=16->∃k,vs 16=dL (some ⟨k,0,none⟩)/\n0<=k/\W.heap[k]?=some (eI #[dO none 0 0,dy eQ 0] 113)
def zc(a b:Value)(W:World):(ei 113 (dC #[a,b]) 0).run PL W=et a W:=by kernel_rfl
def ze(a b:Value)(W:World):(ei 113 (dC #[a,b]) 1).run PL W=et b W:=by kernel_rfl
def A8{W:World}{base e size n B o:Nat}{v u:Value}{xs:List Value}(h:W.ownsRow base e size v n xs)(c:∀j,v.ownBlock=some j->j≠B):(W.setCell ⟨B,o,none⟩ u).ownsRow base e size v n xs:=by
 obtain⟨b,h⟩:=h
 rcases h with h|⟨g,cap,a,rfl,hb,hg,d⟩
 ·exact⟨b,eT h⟩
 ·refine⟨b,eV ⟨g,cap,a,rfl,hb,?_,d⟩⟩;have f:g≠B:=c g rfl;simp only[a6,bt,if_neg (dU f)];exact hg
def Wc{W:World}{r:Nat}{x0 x1 u0 u1:Value}{t:ac}(h:W.heap[r]?=some (eI #[x0,x1] t)):((W.setCell ⟨r,0,none⟩ u0).setCell ⟨r,1,none⟩ u1).heap[r]?=some (eI #[u0,u1] t):=by
 simp only[a6,bt,if_pos,h,bL];rfl
def SE{W:World}{b:Nat}{R:List WE}(h:jy W b R)(k:Int):∃p n c l ok,(ek 114 (dT (some b)) (dy eQ k) true).run PL W=et (dQ #[dC #[dO p n c,dy eQ l],dK ok]) W/\(R.find? (λz=>z.1==k)=none->ok=false):=by
 cases e:R.find? (λz=>z.1==k) with
 |none=>exact⟨none,0,0,0,false,Sx h.map e,λ_=>rfl⟩
 |some x=>
  obtain⟨p,c,a,_⟩:=h.reads _ (dp e);have:=Sw h.map e;simp only[nD,a]at this;exact⟨p,_,c,_,true,this,λh=>by cases h⟩
def ExW(t:Nat):Bool:=t != 4&&t != 6&&t != 7&&t != 15&&t != 16
def Wb.le{n0:Nat}{d:List Int}{g n:Int}{b:Bool}{j:Nat}{vs:Nat->Value}{W i:World}(h:Wb n0 d g n b j vs W)(c:Below W.heap.size W i):Wb n0 d g n b j vs i:=
 ⟨λe f=>(h.c4 e f).on c,λe f=>(h.c6 e f).imp λ_ a=>⟨a.1,(c.block _ (br a.2)).trans a.2⟩,λe=>(h.c7 e).on c,h.c15,λe=>(h.c16 e).imp λ_ a=>⟨a.1,a.2.1,(c.block _ (br a.2.2)).trans a.2.2⟩⟩
def Ba{k2 c2 k3 c3 k4 c4 k5 c5 la ca lb cb:Nat}(C:CD)(m:Int)(hm:m=5\/m=3)(c:C=ir k2 c2 k3 c3 k4 c4 k5 c5 la ca lb cb 0)(w:World)(h:C.At w) :
 Calls PL 23 #[dC C.val,dy eQ 2,dy eQ m] w λe w'=>∃v,e=eS (dQ #[v,dy eQ (A6 m),dK (SC m),dy eQ 0])/\bB w' v (XO m)/\Below w.heap.size w w':=by
 have HA:=bs h;have HC:=bs c;have HM:=bs hm;have hf:C.b6 true=0:=by rw[c];kernel_rfl
 have HF:=bs hf;have hb:bO 2 0 (C.p-1)=true:=by rw[c];rfl
 have HB:=bs hb
 have eP:bO m 0 999=true:=by rcases hm with rfl|rfl<;>decide
 have Kf:=bs eP;have HT:Hid (∀W,C.At W->Calls PL 43 #[dC C.val] W λe w'=>∃k,e=eS (dL (some ⟨k,0,none⟩))/\Row w' k (je.map bh)/\Below W.heap.size W w'):=bs λW hW=>tA (eT rfl) ⟨k2,c2,k3,c3,k4,c4,k5,c5,la,ca,lb,cb,c⟩ hW;have HP:Hid (-1000<=C.p/\C.p<=1000):=bs (by rw[c];exact⟨by show(-1000:Int)<=4;decide,by show(4:Int)<=1000;decide⟩);have K0:Hid (KB C w (w.alloc (eI C.val 27))):=bs ⟨au _ _,(a7 _ _).alloc (a8 _) _⟩;clear h c hf hb eP hm
 go_enter (fx (by decide) Tryz.func23),Tryz.ntmps23
 go_upto_region 1 with fail
 have HW:Hid (IntKind.i64.wrap (C.p-1)=C.p-1):=bs (by obtain⟨J0,tL⟩:=HP.out;rw[HC.out];rfl);apply wp_scope_straight;apply wp_seq_k;intro _ _;refine cT 12 (KB C w) (Fo C) (λj=>j != 10&&j != 11) (aos C w) rfl (by kernel_rfl) (by kernel_rfl)
  (λi vs W W' hle h=>⟨λe=>(h.1 e).imp λk l=>⟨l.1,l.2.1,(hle k).2 l.2.2⟩,λe=>(h.2 e).imp λk l=>⟨l.1,l.2.1,(hle k).1 l.2.2⟩⟩) (λi o ho vs eX W he hd h=>⟨λe=>?_,λe=>?_⟩) ?_ ?_
 ·subst e;rw[<-he];exact h.1 rfl
 ·subst e;have e8:vs 10=eX 10:=by
   simp only[cm,co,cp,eb]at ho;subst ho;exact hd ⟨10,eW⟩ (cH.2 ⟨by simp,rfl⟩)
  rw[<-e8];exact h.2 rfl
 ·exact⟨K0.out.box,K0.out.low.drew⟩
 ·iterate 10 (
   apply aY
   case hE=>rfl
   case h=>
    intro vs W c hd;obtain⟨f0,f1,f2,f3,f4,f5⟩:=bf c.box;have hwr:=HW.out
    go_simp
    first
    |(go_at_call 49;refine(rM HB.out _).mono ?_;rintro e W'⟨rfl,rfl⟩;exact⟨_,rfl,rfl,c,Fo.on (a7 _ _)⟩)
    |(go_at_call 30;refine(kF HF.out (HA.out.below c.low)).mono ?_;rintro e W'⟨rfl,I⟩;exact⟨_,rfl,rfl,c.on I,Fo.on I⟩)
    |exact⟨rfl,Fo.on (a7 _ _)⟩
   case hb=>exact j8)
  apply eH
  case hE=>rfl
  case hb=>exact j8
  case h=>
   intro vs W c hd
   go_simp
   have I:=(a7 W.heap.size W).alloc (a8 _) (eI #[dy eQ 0,dy eQ 0,dO none 0 0,dO none 0 0,dO none 0 0,dO none 0 0] 77);exact⟨c.on I,Fo.on I,⟨λ_=>⟨W.heap.size,by simp[upd],c.lt,_,_,_,_,_,_,au W _⟩,λe=>absurd e (by decide)⟩⟩
  apply eH
  case hE=>rfl
  case hb=>exact j8
  case h=>
   intro vs W c hd;obtain⟨k,l,Ll,x0,x1,x2,x3,x4,x5,J⟩:=(hd ⟨10,eW⟩ (cH.2 ⟨by simp,rfl⟩) rfl).1 rfl;obtain⟨f0,f1,f2,f3,f4,f5⟩:=bf J;have fz:=tO J;rw[l]
   go_simp
   refine⟨⟨(cM (by omega)).trans c.box,ed c.low (by omega) _ _ _ _ _ _⟩,λq=>?_,⟨λe=>absurd e (by decide),λ_=>⟨k,by simp[upd,l],Ll,nC J⟩⟩⟩;by_cases hq:q=k
   ·subst hq;exact⟨λ_=>nC J,λ_=>⟨_,_,_,_,_,_,nC J⟩⟩
   ·exact⟨λe=>(cM hq).trans e,fun⟨_,_,_,_,_,_,e⟩=>⟨_,_,_,_,_,_,(cM hq).trans e⟩⟩
  refine cP λvs W c hd=>?_;obtain⟨kx,l,Ll,J⟩:=(hd 11 (by omega) rfl).2 rfl;rw[l];obtain⟨f0,f1,f2,f3,f4,f5⟩:=bf J;have HX:=bs J;have HC1:=bs c;have HKL:=bs Ll;clear J c hd l Ll;have hmm:=@run_makeMap PL
  go_upto_region 8 with(first
   |(go_at_call 42;refine(yO Kf.out _).mono ?_;rintro e w'⟨rfl,rfl⟩)
   |(go_at_call 43;go_must (refine(HT.out _ (HA.out.below HC1.out.low)).mono ?_);rintro e w1⟨P,rfl,hR,aL⟩;have K1:Hid (KQ C w kx P w1):=bs ⟨(HC1.out.on aL).box,(aL.block _ (br HX.out)).trans HX.out,hR,(HC1.out.on aL).low⟩;clear hR aL))
  obtain⟨N,hbM⟩:∃b,b=w1.heap.size:=⟨_,rfl⟩
  obtain⟨W0,kS⟩:∃W0:World,W0=w1.alloc (eM #[] 0):=⟨_,rfl⟩
  have K2:Hid (KQ C w kx P W0):=bs (by rw[kS];exact K1.out.on ((a7 _ _).alloc (a8 _) _));have S2:Hid (aU W0 zn N ([]:List Int)):=bs (by rw[kS,hbM];exact aU.made w1);have ZM:Hid (w.heap.size<=N):=bs (by rw[hbM];exact K1.out.low.size);rw[<-kS,<-hbM];clear kS hbM f0 f1 f2 f3 f4 f5;obtain⟨f0,f1,f2,f3,f4,f5⟩:=bf K2.out.box;have IB:Hid (C.b3=some ⟨C.k3,C.o3,none⟩):=bs (HA.out.s3 (by rw[HC.out];show 0<4;decide));have H3:Hid (C.n3=4):=bs (by rw[HC.out];rfl);have HX3:Hid (C.x3=zU):=bs (by rw[HC.out];rfl);have H4:Hid (C.n4=3):=bs (by rw[HC.out];rfl);have H5:Hid (C.n5=2):=bs (by rw[HC.out];rfl);have hb4:C.b4=some ⟨C.k4,C.o4,none⟩:=HA.out.s4 (by rw[H4.out];decide);have LN:Hid (∀p,p<2->(C.x4 p).ln=1/\(C.x4 p).lane 0=(p:Int)+1):=bs λp hp=>by
   rw[HC.out]
   match p,hp with
   |0,_=>exact⟨rfl,rfl⟩
   |1,_=>exact⟨rfl,rfl⟩
  have SH:Hid (yZ m 2=2):=bs (by rcases HM.out with rfl|rfl<;>rfl)
  go_wp2
  go_loopw [51] (λv51 wr=>∃p:Nat,p<=3/\v51=dy eQ p/\aU wr zn N (uN m p)/\KQ C w kx P wr) (λv51 _=>3-(intOf v51).toNat)
  case atStart=>exact⟨0,by omega,rfl,S2.out,K2.out⟩
  case round=>
   obtain⟨p,hp,rfl,g,O⟩:=hrel;clear hb4;have HS:=bs g;have HK:=bs O;clear g O f0 f1 f2 f3 f4 f5 K2 S2;by_cases Q:p<3
   ·have i1:(p:Int)<C.n4:=by rw[H4.out];omega
    have hA:=HA.out.below HK.out.low;have s:p<C.n4:=by rw[H4.out];exact Q
    have p0:=hA.AD p s;have p1:=hA.dB p s 1 (by omega) (by omega);have p2:=hA.dB p s 2 (by omega) (by omega);have p3:=hA.dB p s 3 (by omega) (by omega);have p4:=hA.dB p s 4 (by omega) (by omega);have p5:=hA.dB p s 5 (by omega) (by omega);have p6:=hA.dB p s 6 (by omega) (by omega);have p7:=hA.dB p s 7 (by omega) (by omega);have p8:=hA.dB p s 8 (by omega) (by omega);have p9:=hA.dB p s 9 (by omega) (by omega);have Cz:=hA.dB p s 10 (by omega) (by omega);have Fy:=hA.nj p s;clear hA s;obtain⟨xb,hxb⟩:∃x,x=(C.x4 p).lb:=⟨_,rfl⟩
    obtain⟨xn,hxn⟩:∃x,x=(C.x4 p).ln:=⟨_,rfl⟩
    obtain⟨xc,hxc⟩:∃x,x=(C.x4 p).lc:=⟨_,rfl⟩
    rw[<-hxb,<-hxn,<-hxc]at Fy;have HXB:=bs hxb;have HXN:=bs hxn;clear hxb hxn hxc
    go_upto_region 11 with fail
    obtain⟨W1,mG⟩:∃W1:World,W1=wr.alloc (eI #[.string (C.x4 p).name,dy eQ ((C.x4 p).n 1),dy eQ ((C.x4 p).n 2),dy eQ ((C.x4 p).n 3),dy eQ ((C.x4 p).n 4),dy eQ ((C.x4 p).n 5),dy eQ ((C.x4 p).n 6),dy eQ ((C.x4 p).n 7),dy eQ ((C.x4 p).n 8),dy eQ ((C.x4 p).n 9),dy eQ ((C.x4 p).n 10),dO xb xn xc] 85):=⟨_,rfl⟩
    rw[<-mG];have iC:Below wr.heap.size wr W1:=by rw[mG];exact(a7 _ _).alloc (a8 _) _
    have hpk:W1.cell? ⟨wr.heap.size,11,none⟩=some (dO xb xn xc):=by
     have h:=au wr (eI #[.string (C.x4 p).name,dy eQ ((C.x4 p).n 1),dy eQ ((C.x4 p).n 2),dy eQ ((C.x4 p).n 3),dy eQ ((C.x4 p).n 4),dy eQ ((C.x4 p).n 5),dy eQ ((C.x4 p).n 6),dy eQ ((C.x4 p).n 7),dy eQ ((C.x4 p).n 8),dy eQ ((C.x4 p).n 9),dy eQ ((C.x4 p).n 10),dO xb xn xc] 85);rw[mG];simp only[a5,h];rfl
    have Wf:wr.heap.size<W1.heap.size:=by rw[mG];simp
    have HPK:=bs (And.intro hpk Wf);have K3:=bs (HK.out.on iC);have S3:=bs (aG iC HS.out);clear mG iC hpk Wf p0 p1 p2 p3 p4 p5 p6 p7 p8 p9 Cz Fy;obtain⟨f0,f1,f2,f3,f4,f5⟩:=bf K3.out.bx;by_cases hs:yZ m p=2
    ·go_wp2_with (go_at_call 44;go_must (refine(Sz C P p m _ K3.out.row H5.out (by omega)).mono ?_);rintro e w3⟨rfl,qi⟩;have K4:=bs (K3.out.on qi);have S4:=bs (aG qi S3.out);clear qi)
     exact⟨⟨p+1,Q,by go_num,by rw[IL hs];exact S4.out,K4.out⟩,by simp only[intOf];omega⟩
    ·have d:p<2:=by
      rcases bq p 2 with h|h
      ·exact h
      ·exact absurd (by rw[show p=2 by omega];exact SH.out) hs
     have zi:xn=1:=by rw[HXN.out];exact(LN.out p d).1
     subst zi
     go_upto_region 12 with(go_at_call 44;go_must (refine(Sz C P p m _ K3.out.row H5.out (by omega)).mono ?_);rintro e w3⟨rfl,qi⟩;have K4:=bs (K3.out.on qi);have S4:=bs (aG qi S3.out);have am6:=bs ((qi.cell (p:=⟨wr.heap.size,11,none⟩) HPK.out.2).trans HPK.out.1);clear qi)
     have hA:=HA.out.below K4.out.low;have s:p<C.n4:=by rw[H4.out];exact Q
     obtain⟨el,ell⟩:=hA.l4 p s (by rw[<-HXN.out];decide);have ec:=hA.J5 p s 0 (by rw[<-HXN.out];decide);rw[(LN.out p d).2,Nat.add_zero]at ec;obtain⟨lk,FH⟩:∃x,x=(C.x4 p).lk:=⟨_,rfl⟩
     obtain⟨lo,Cu⟩:∃x,x=(C.x4 p).lo:=⟨_,rfl⟩
     rw[<-FH,<-Cu]at ec;rw[<-FH]at ell;rw[<-HXB.out,<-FH,<-Cu]at el;subst el;have EC:=bs ec;have ELL:=bs ell;have atU:=am6.out;clear hA s ec ell FH Cu
     go_wp2
     go_loopw [65] (λv65 K=>∃q:Nat,q<=1/\v65=dy eQ q/\aU K zn N (if q=0 then uN m p else uN m p++[(p:Int)+1])/\KQ C w kx P K/\(q=0->K.cell? ⟨lk,lo,none⟩=some (dy eQ ((p:Int)+1)))) (λv65 _=>1-(intOf v65).toNat)
     case atStart=>exact⟨0,by omega,rfl,S4.out,K4.out,λ_=>EC.out⟩
     case round=>
      obtain⟨q,hq,rfl,g,O,hc⟩:=hrel;have S5:=bs g;have K5:=bs O;clear g O
      match q,hq with
      |1,_=>
       clear hc
       go_wp2
       exact⟨⟨p+1,Q,by go_num,by rw[IM hs];exact S5.out,K5.out⟩,by simp only[intOf];omega⟩
      |0,_=>
       have ec:=hc rfl;clear hc
       go_wp2_with (at_mapUpdate;go_must (refine dH (enc:=zn) _ rfl _ _ _ 111 3 4 rfl qz ju N (uN m p) rfl S5.out ((p:Int)+1) rfl rfl V7 ?_);intro w5 g y;have S6:=bs g;have K6:=bs (by obtain⟨es,cl,hh,_⟩:=S5.out;exact K5.out.turned y hh (λ_ _ _ e=>by cases e) ZM.out:KQ C w kx P w5);clear g y;go_frame)
       exact⟨⟨1,by omega,rfl,S6.out,K6.out,λh=>absurd h (by decide)⟩,by simp[intOf]⟩
   ·have hp3:p=3:=by omega
    subst hp3;have i1:¬((3:Int)<C.n4):=by rw[H4.out];decide
    clear Q;have ag8:=aU.lt HS.out;have HSZ:=bs ag8;have hBa:=((a7 wr.heap.size wr).alloc (a8 _) (eM #[] 0)).alloc (by simp) (eI #[dy eQ 2] 3);have M0:Hid (jy ((wr.alloc (eM #[] 0)).alloc (eI #[dy eQ 2] 3)) wr.heap.size []):=bs ((jy.made wr).on ((a7 _ _).alloc (a8 _) _))
    have R0:Hid (bB ((wr.alloc (eM #[] 0)).alloc (eI #[dy eQ 2] 3)) (dO (some ⟨wr.heap.size+1,0,none⟩) 1 1) [2]):=bs ⟨_,_,rfl,λ_=>⟨_,_,rfl,by simp,λj H=>by
     obtain rfl:j=0:=by simp at H;omega
     have h:=au (wr.alloc (eM #[] 0)) (eI #[dy eQ 2] 3);rw[aJ]at h;show a5 _ ⟨wr.heap.size+1,0+0,none⟩=some (dy eQ 2);simp only[a5,h]
     rfl⟩⟩
    have KA:=bs (HK.out.on hBa);have SA:=bs (aG hBa HS.out);clear hBa ag8
    go_upto_region 20 with(refine tF _ rfl _ _ _ (eV rfl) wr.heap.size [] (2,dO (some ⟨wr.heap.size+1,0,none⟩) 1 1,[2],0) rfl rfl rfl M0.out rfl R0.out (by simp) ?_;intro w5 hM y;have MB:=bs hM;have KB5:=bs (KA.out.turned y M0.out.map (λ_ _ _ e=>by cases e) HK.out.low.size);have SB:=bs (eA SA.out (y.block _ (by have:=HSZ.out;omega)));clear hM y)
    obtain⟨S,hbR⟩:∃b,b=wr.heap.size:=⟨_,rfl⟩
    obtain⟨T,hbL⟩:∃b,b=w5.heap.size:=⟨_,rfl⟩
    have ZR:Hid (N<S/\S<T):=bs (by have:=HSZ.out;have:=br MB.out.map;rw[hbR,hbL];omega);obtain⟨W3,hW3⟩:∃W3:World,W3=w5.alloc (eM #[] 0):=⟨_,rfl⟩
    have hBb:Below w5.heap.size w5 W3:=by rw[hW3];exact(a7 _ _).alloc (a8 _) _
    have K6:=bs (KB5.out.on hBb);have S6:=bs (aG hBb SB.out);have M6:Hid (jy W3 S ([]++[(2,dO (some ⟨S+1,0,none⟩) 1 1,[2],0)])):=bs (by rw[hbR];exact MB.out.on hBb);have L6:Hid (aU W3 zn T ([]:List Int)):=bs (by rw[hbL,hW3];exact aU.made w5);rw[<-hbR,<-hbL,<-hW3];clear hbR hbL hW3 hBb MB SB KB5 M0 R0 KA SA HK HS HSZ;have FJ:=IB.out;simp only[FJ];refine wp_label ?_
    go_wp2
    go_loopw [19] (λ_ wr=>∃(i:Nat)(R:List WE),i<=zb m/\R.map strip=Ln m i/\jy wr S R/\aU wr zn T (tP m i)/\aU wr zn N (uN m 3)/\KQ C w kx P wr) (λ_ wr=>4-ab4 wr T)
    case atStart=>exact⟨0,_,bi _,rfl,M6.out,L6.out,S6.out,K6.out⟩
    case round=>
     obtain⟨i,R,hi,hR,XP,hL,g,O⟩:=hrel;have Xn:=bs hR;have MM:=bs XP;have LL:=bs hL;have SS:=bs g;have KK:=bs O;have CO:=bs (V8 HM.out hi);have HI:=bs hi;clear hR XP hL g O hi K6 S6 M6 L6;have hrg:=V4 MM.out
     go_upto_region 22 with fail
     obtain⟨r,hr⟩:∃r,r=wr.heap.size:=⟨_,rfl⟩
     obtain⟨W4,Sn⟩:∃W4:World,W4=wr.alloc (eN (some S) R.length #[] R.length):=⟨_,rfl⟩
     have Ts:Below wr.heap.size wr W4:=by rw[Sn];exact(a7 _ _).alloc (a8 _) _
     have I4:Hid (tE W4 r S R.length #[]):=bs (by rw[Sn,hr];exact au _ _);have M4:=bs (MM.out.on Ts);have L4:=bs (aG Ts LL.out);have S4:=bs (aG Ts SS.out);have K4:=bs (KK.out.on Ts);have ZI:Hid (S<r/\T<r/\N<r/\w.heap.size<=r):=bs (by have h1:=br MM.out.map;have d:=aU.lt LL.out;have h3:=aU.lt SS.out;have s:=KK.out.low.size;rw[hr];exact⟨h1,d,h3,s⟩);rw[<-Sn,<-hr];clear Sn hr Ts hrg MM SS KK
     go_loopw [19] (λv19 K=>∃(seen:Array Nat)(f:Bool),tE K r S R.length seen/\jy K S R/\aU K zn T (tP m i)/\aU K zn N (uN m 3)/\KQ C w kx P K/\v19=dy eQ (if f then stA m i else -1)/\(f=true↔∃j x,R[j]?=some x/\seen.contains j=true/\x.1∉tP m i)) (λ_ K=>Ft K r)
     case atStart=>exact⟨#[],false,I4.out,M4.out,L4.out,S4.out,K4.out,rfl,⟨λh=>(by cases h),fun⟨_,_,_,h,_⟩=>by simp at h⟩⟩
     case round=>
      obtain⟨seen,f,hI,XP,hL,g,O,hv,hf⟩:=hrel;have I5:=bs hI;have M5:=bs XP;have L5:=bs hL;have S5:=bs g;have K5:=bs O;have F5:=bs hf;have V5:=bs hv;clear hI XP hL g O hf hv I4 M4 L4 S4 K4
      go_upto_region 23 with(first|(at_mapUpdate;go_must (refine dH (enc:=zn) _ rfl _ _ _ 111 3 4 rfl qz ju T (tP m i) rfl L5.out (stA m i) rfl rfl (ab2 CO.out ha) ?_);intro w6 g y;go_must (have LP:=bs g;have MP:=bs (M5.out.turned y (by obtain⟨es,cl,hh,_⟩:=L5.out;exact⟨_,hh,λ_ _ _ e=>by cases e⟩) (by have:=ZR.out;omega));have SP:=bs (eA S5.out (y.block _ (by have:=ZR.out;omega)));have KP:Hid (KQ C w kx P w6):=bs (by obtain⟨es,cl,hh,_⟩:=L5.out;exact K5.out.turned y hh (λ_ _ _ e=>by cases e) (by have:=ZM.out;have:=ZR.out;omega)));clear g y;obtain⟨f0,f1,f2,f3,f4,f5⟩:=bf KP.out.box)|(at_next;go_must (refine zX _ rfl _ rfl r S R seen rfl I5.out M5.out ?_ ?_);rotate_left;intro j x w' H hs hI y OL hen;obtain⟨xk,xv,L,xl⟩:=x;have JJ:=bs H;have NS:=bs hs;have I6:=bs hI;have T6:=bs y;have M6:=bs OL;have hk6:=br hI;obtain⟨yb,yc,hxv,hyy⟩:=OL.reads _ (List.mem_of_getElem? H);clear hyy;simp only at hxv;subst hxv;clear H hs hI y OL;simp only[nD]at hen ⊢;rotate_left;intro oh;go_must (have hu:=V9 CO.out Xn.out V5.out F5.out oh);clear oh;go_must (subst hu);rcases Int.lt_or_le 0 (stA m i) with ha|ha;rotate_left;go_must (obtain⟨fp,fn,fc,FH,hrd⟩:=SD HM.out HI.out ha Xn.out M5.out);have RD:=bs hrd;clear hrd))
      ·obtain⟨W7,hW7⟩:∃W7:World,W7=wr.alloc (eI #[dO fp fn fc,dy eQ (A6 m)] 113):=⟨_,rfl⟩
       have hB7:Below wr.heap.size wr W7:=by rw[hW7];exact(a7 _ _).alloc (a8 _) _
       have hc7:W7.heap[wr.heap.size]?=some (eI #[dO fp fn fc,dy eQ (A6 m)] 113):=by rw[hW7];exact au _ _
       have c0:W7.cell? ⟨wr.heap.size,0,none⟩=some (dO fp fn fc):=by simp[a5,hc7]
       have c1:W7.cell? ⟨wr.heap.size,1,none⟩=some (dy eQ (A6 m)):=by simp[a5,hc7]
       have RD7:=bs (RD.out.on hB7);have LO7:=bs (eh K5.out.low hB7);rw[<-hW7];clear hW7 hB7 hc7 FH
       go_quiet (fail)
       go_wp2
       rw[Exit.noGoto_ret];refine ap (v:=dQ #[dO fp fn fc,dy eQ (A6 m),dK (SC m),dy eQ 0]) ?_ rfl ⟨_,rfl,RD7.out.on (below_drewN (a7 _ _) _),below_drewN LO7.out _⟩;simp[ao,Tryz.results23,go_sem]
      ·go_upto_region 24 with fail
       have L6:aU w' zn T (tP m i):=eA L5.out (T6.out.block _ (by have:=ZI.out;omega));have S6:aU w' zn N (uN m 3):=eA S5.out (T6.out.block _ (by have:=ZI.out;omega));have K6:KQ C w kx P w':=K5.out.turned T6.out I5.out (λ_ _ _ e=>by cases e) ZI.out.2.2.2;obtain⟨W8,hW8⟩:∃W8:World,W8=w'.alloc (eI #[dO yb L.length yc,dy eQ xl] 113):=⟨_,rfl⟩
       have U:Below w'.heap.size w' W8:=by rw[hW8];exact(a7 _ _).alloc (a8 _) _
       have L8:=bs (aG U L6);have S8:=bs (aG U S6);have K8:=bs (K6.on U);have M8:=bs (M6.out.on U);have I8:=bs (I6.out.on U);rw[<-hW8];clear hW8 U L6 S6 K6 hen;have V:=uO Xn.out JJ.out;have XQ:Ft W8 r<Ft wr r:=by
        rw[Fu I8.out,Fu I5.out];exact IK (List.getElem?_eq_some_iff.1 JJ.out).1 NS.out
       have HME:=bs XQ;clear XQ;by_cases J:xk∈tP m i
       ·clear V
        go_wp2_with (at_lookup;go_must (refine aR (enc:=zn) _ rfl _ _ 111 3 4 rfl qz ju (mq _) T (tP m i) rfl L8.out xk rfl true (by simpa using J) ?_))
        refine⟨⟨seen.push j,f,I8.out,M8.out,L8.out,S8.out,K8.out,V5.out,F5.out.trans ⟨fun⟨a,x,h1,d,h3⟩=>⟨a,x,h1,by simp at d⊢;exact eT d,h3⟩,fun⟨a,x,h1,d,h3⟩=>⟨a,x,h1,?_,h3⟩⟩⟩,HME.out⟩
        rcases Array.mem_push.1 (by simpa using d) with h|h
        ·simpa using h
        ·subst h;rw[JJ.out]at h1;cases h1;exact absurd J h3
       ·have hat:xk=stA m i:=(CO.out.1 j _ V J).1;have LQ:j=i:=(CO.out.1 j _ V J).2;have hf0:f=false:=by
         cases f with
         |false=>rfl
         |true=>
          obtain⟨a,x,h1,d,h3⟩:=F5.out.1 rfl;have e:=(CO.out.1 a _ (uO Xn.out h1) h3).2;rw[e,<-LQ]at d;rw[NS.out]at d;cases d
        have hu:u19=dy eQ (-1):=by rw[V5.out,hf0];rfl
        subst hu;clear V hf0 hat;have HX:=bs J
        go_wp2_with (at_lookup;go_must (refine aR (enc:=zn) _ rfl _ _ 111 3 4 rfl qz ju (mq _) T (tP m i) rfl L8.out xk rfl false (by simpa using J) ?_))
        have hat:xk=stA m i:=(CO.out.1 j _ (uO Xn.out JJ.out) HX.out).1;exact⟨⟨seen.push j,true,I8.out,M8.out,L8.out,S8.out,K8.out,by rw[hat];rfl,⟨λ_=>⟨j,_,JJ.out,by simp,HX.out⟩,λ_=>rfl⟩⟩,HME.out⟩
      ·obtain⟨ni,nl,nq,nk,na⟩:=Lo HM.out HI.out ha;rw[nl]at LP;have NQ:=bs nq;have NK:=bs nk;have NI:=bs ni;clear nl nq nk ni;obtain⟨E,ab6⟩:∃a,a=stA m i:=⟨_,rfl⟩
       rw[<-ab6]at ha na NQ NK ⊢;have HAT:=bs ab6;clear ab6 f0 f1 f2 f3 f4 f5
       go_loopw [110] (λab7 K=>∃(q:Nat)(R':List WE),q<=4/\ab7=dy eQ q/\R'.map strip=N0 (uN m 3) (tP m (i+1)) E (Ln m i) q/\jy K S R'/\aU K zn T (tP m (i+1))/\aU K zn N (uN m 3)/\KQ C w kx P K) (λab7 _=>4-(intOf ab7).toNat)
       case atStart=>exact⟨0,R,by omega,rfl,Xn.out,MP.out,LP.out,SP.out,KP.out⟩
       case round=>
        obtain⟨q,R',hq,rfl,hR,XP,hL,g,O⟩:=hrel;have X:=bs hR;have M7:=bs XP;have L7:=bs hL;have S7:=bs g;have K7:=bs O;clear hR XP hL g O MP LP SP KP
        rcases bq q 4 with Q|ve
        case inr=>
         obtain rfl:q=4:=by omega
         have j1:¬((4:Int)<C.n3):=by rw[H3.out];decide
         go_wp2
         refine⟨?_,?_⟩
         ·exact⟨i+1,R',NI.out,X.out.trans NQ.out,M7.out,L7.out,S7.out,K7.out⟩
         ·rw[Fv L7.out,Fv LL.out,<-(Lo HM.out HI.out (HAT.out▸ha)).2.1];have h5:(tP m i).length<=2:=by unfold tP;split;exact bi _;split;exact(by decide);exact(by decide)
          simp;omega
        have j1:((q:Int)<C.n3):=by rw[H3.out];omega
        have hq3:q<C.n3:=by rw[H3.out];exact Q
        have hA:=HA.out.below K7.out.low;have g0:=hA.Es q hq3;have g1:=hA.Et q hq3;have g2:=hA.Eu q hq3;rw[HX3.out]at g0 g1 g2;obtain⟨A,hAe⟩:∃x,x=(zU q).1:=⟨_,rfl⟩
        obtain⟨B,hBe⟩:∃x,x=(zU q).2.1:=⟨_,rfl⟩
        obtain⟨G,hGe⟩:∃x,x=(zU q).2.2:=⟨_,rfl⟩
        rw[<-hAe]at g0;rw[<-hBe]at g1;rw[<-hGe]at g2;have bd:0<=A/\A<=3/\0<=B/\B<=3/\0<=G/\G<=80:=by
         rw[hAe,hBe,hGe]
         match q,Q with
         |0,_=>decide
         |1,_=>decide
         |2,_=>decide
         |3,_=>decide
        obtain⟨bA0,bA1,bB0,bB1,bG0,bG1⟩:=bd;have EA:=bs hAe;have EB:=bs hBe;have EG:=bs hGe;clear hAe hBe hGe hA hq3
        go_upto_region 31 with fail
        obtain⟨M,hW9⟩:∃M:World,M=wr.alloc (eI #[dy eQ A,dy eQ B,dy eQ G] 104):=⟨_,rfl⟩
        have hB9:Below wr.heap.size wr M:=by rw[hW9];exact(a7 _ _).alloc (a8 _) _
        have P9:Hid (M.heap[wr.heap.size]?=some (eI #[dy eQ A,dy eQ B,dy eQ G] 104)):=bs (by rw[hW9];exact au _ _);have M9:=bs (M7.out.on hB9);have L9:=bs (aG hB9 L7.out);have S9:=bs (aG hB9 S7.out);have K9:=bs (K7.out.on hB9);rw[<-hW9];clear hW9 hB9 g0 g1 g2 M7 L7 S7 K7;have h0:M.cell? ⟨wr.heap.size,0,none⟩=some (dy eQ A):=by have h:=P9.out;simp[a5,h]
        have h1:M.cell? ⟨wr.heap.size,1,none⟩=some (dy eQ B):=by have h:=P9.out;simp[a5,h]
        have d:M.cell? ⟨wr.heap.size,2,none⟩=some (dy eQ G):=by have h:=P9.out;simp[a5,h]
        have Wf:=br P9.out;have skip:V6 (uN m 3) E q=true->R'.map strip=N0 (uN m 3) (tP m (i+1)) E (Ln m i) (q+1):=λe=>by rw[X.out,N0,stepW,if_pos e]
        have SK:=bs skip;clear skip;by_cases sB:(q:Int)∈uN m 3
        ·go_wp2_with (at_lookup;go_must (refine aR (enc:=zn) _ rfl _ _ 111 3 4 rfl qz ju (mq _) N (uN m 3) rfl S9.out (q:Int) rfl true (by simpa using sB) ?_))
         exact⟨⟨q+1,R',Q,by go_num,SK.out (by simp[V6,sB]),M9.out,L9.out,S9.out,K9.out⟩,by simp only[intOf];omega⟩
        have HCL:=bs sB;clear sB;by_cases hs:A≠E/\B≠E
        ·obtain⟨s1,s2⟩:=hs;have HS:=bs (And.intro s1 s2);have e1:(A != E)=true:=by simpa using s1
         have e2:(B != E)=true:=by simpa using s2
         clear s1 s2
         go_wp2_with (at_lookup;go_must (refine aR (enc:=zn) _ rfl _ _ 111 3 4 rfl qz ju (mq _) N (uN m 3) rfl S9.out (q:Int) rfl false (by simpa using HCL.out) ?_))
         exact⟨⟨q+1,R',Q,by go_num,SK.out (by have h:=HS.out;rw[EA.out,EB.out]at h;simp[V6,h]),M9.out,L9.out,S9.out,K9.out⟩,by simp only[intOf];omega⟩
        have NS:=bs hs
        have NSK:Hid (V6 (uN m 3) E q=false):=bs (by
         have h:=NS.out;rw[EA.out,EB.out]at h;have d:=HCL.out
         cases e:V6 (uN m 3) E q with
         |false=>rfl
         |true=>
          simp only[V6,ev,eu,decide_eq_true_eq]at e
          rcases e with e|e
          ·exact absurd e d
          ·exact absurd e h)
        have E12:((A != E)=false)\/((A != E)=true/\(B != E)=false):=by
         by_cases h:A=E
         ·exact eT (by simpa using h)
         ·exact eV ⟨by simpa using h,by have:B=E:=Classical.byContradiction λd=>hs ⟨h,d⟩;simpa using this⟩
        clear hs
        rcases E12 with e1|⟨e1,e2⟩
        all_goals go_upto_region 33 with(at_lookup;go_must (refine aR (enc:=zn) _ rfl _ _ 111 3 4 rfl qz ju (mq _) N (uN m 3) rfl S9.out (q:Int) rfl false (by simpa using HCL.out) ?_))
        all_goals (
         obtain⟨sx,ox1,ox2,ox3,ox4,ox5⟩:=ab3 NK.out Q;have Y:=nE X.out E;rw[ox1]at Y;obtain⟨x,hxf,V⟩:∃x,R'.find? (λx=>x.1==E)=some x/\sx=strip x:=by
          cases e:R'.find? (λx=>x.1==E) with
          |none=>rw[e]at Y;cases Y
          |some x=>rw[e]at Y;cases Y;exact⟨x,rfl,rfl⟩
         subst V;obtain⟨xk,xv,L,xl⟩:=x;simp only[strip]at ox2 ox3 ox4;have hrx:=M9.out.reads _ (dp hxf);have qH:=M9.out.ne _ (dp hxf);simp only at hrx qH;have HRX:=bs hrx;obtain⟨pb,pc,rfl,hyy⟩:=hrx;obtain⟨kp,op,rfl,Tt,hcp⟩:=hyy (by cases L with|nil=>exact absurd rfl qH|cons _ _=>simp);have HCP:=bs hcp;have HXF:=bs hxf;have OX1:=bs ox1;have OX5:=bs ox5;have OX2:=bs ox2;have HKP:=bs Tt;clear hyy hcp hxf ox1 ox5 Y qH ox2 Tt;obtain⟨F,hto⟩:∃t,t=A+B-E:=⟨_,rfl⟩
         have HTO:Hid (F=XN E q):=bs (by rw[hto,EA.out,EB.out];rfl);rw[<-hto];clear hto;refine iL 17 7 (λ_ W=>Below M.heap.size M W) (λW W'=>Below W.heap.size W W') ExW (Wb M.heap.size L F (xl+G)) (λ_ _ _ _=>True) (λ_ _ _ _ _=>trivial) rfl (by kernel_rfl) (by kernel_rfl) rfl
          (λb i vs W W' hle h=>h.le hle) (λi o ho vs eX W he aaZ b h=>⟨λe=>by subst e;rw[<-he];exact h.c4 rfl,λe=>by subst e;rw[<-he];exact h.c6 rfl,λe=>by subst e;rw[<-he];exact h.c7 rfl,λe=>?_,λe=>by subst e;rw[<-he];exact h.c16 rfl⟩) (a7 _ _).drew ?_
         ·subst e;have e7:vs 7=eX 7:=by
           simp only[cm,co,cp,eb]at ho;subst ho;exact aaZ ⟨7,eW⟩ (cH.2 ⟨by simp,rfl⟩)
          rw[<-he,<-e7];exact h.c15 rfl
         have HWR:Hid (IntKind.i64.wrap (xl+G)=xl+G):=bs (IntWalk.i64_in _ (by omega))
         iterate 4 (
          apply iK
          case hE=>rfl
          case h=>
           intro vs W b c hd;have hl:=IJ ((c.block _ (br M9.out.map)).trans M9.out.map) HXF.out;have q0:=zc;have q1:=ze;have g2:=(c.cell (p:=⟨wr.heap.size,2,none⟩) Wf).trans d;have hw:=HWR.out;simp only[nD]at hl
           go_simp
           exact⟨rfl,a7 _ _⟩
          case hb=>exact j8)
         apply ey
         case hE=>rfl
         case hb=>exact j8
         case h=>
          intro vs W D b hb c jw hi _ hd hP
          go_simp
          refine(tC kp op L.length pc (L.map λz=>dy eQ z) _ (by simp) (λj u e=>?_) (by simp[du]) (by have:=OX2.out;omega) (bm HKP.out c.size)).mono ?_
          ·obtain⟨z,hz,rfl⟩:∃z,L[j]?=some z/\u=dy eQ z:=by
            rw[dl]at e
            cases h:L[j]? with
            |none=>rw[h]at e;cases e
            |some z=>rw[h]at e;cases e;exact⟨z,rfl,rfl⟩
           have H:=(List.getElem?_eq_some_iff.1 hz).1;rw[c.cell (p:=⟨kp,op+j,none⟩) HKP.out,HCP.out j (by omega)];simp[dk,hz]
          ·rintro e W'⟨v,rfl,_,hO,I⟩;exact⟨v,rfl,eh c I,λj H hE=>(hd j H hE).le I,⟨λ_ _=>by simp only[upd,if_pos];exact dJ hO c.size,λe=>absurd e (by decide),λe=>absurd e (by decide),λe=>absurd e (by decide),λe=>absurd e (by decide)⟩⟩
         iterate 1 (
          apply iK
          case hE=>rfl
          case h=>
           intro vs W b c hd;have hl:=IJ ((c.block _ (br M9.out.map)).trans M9.out.map) HXF.out;have q0:=zc;have q1:=ze;have g2:=(c.cell (p:=⟨wr.heap.size,2,none⟩) Wf).trans d;have hw:=HWR.out;simp only[nD]at hl
           go_simp
           exact⟨rfl,a7 _ _⟩
          case hb=>exact j8)
         apply ey
         case hE=>rfl
         case hb=>exact j8
         case h=>
          intro vs W D b hb c jw hi _ hd hP;have I:=(a7 W.heap.size W).alloc (a8 _) (eI #[dy eQ F] 3);have HBC:=bs (eh c I);clear c
          go_simp
          exact⟨HBC.out,λj H hE=>(hd j H hE).le I,⟨λe=>absurd e (by decide),λ_ _=>⟨W.heap.size,by simp[upd],au _ _⟩,λe=>absurd e (by decide),λe=>absurd e (by decide),λe=>absurd e (by decide)⟩⟩
         apply ey
         case hE=>rfl
         case hb=>exact j8
         case h=>
          intro vs W D bb iC c jw hi _ hd hP;have hf:=iC rfl;have m4:4∈D:=jw ⟨4,eW⟩ (cH.2 ⟨by simp,rfl⟩);have m6:6∈D:=jw ⟨6,eW⟩ (cH.2 ⟨by simp,rfl⟩);have fO:=(hd 4 m4 rfl).c4 rfl hf;obtain⟨kq,hkq,hkc⟩:=(hd 6 m6 rfl).c6 rfl hf;have bu:=cZ fO;have hoc:=qm fO;refine abz Rz RE rfl _ _ rfl M.heap.size (vs 4) L F kq rfl fO hkq (by simp[a5,hkc]) (by have:=OX2.out;omega) c.size λv' w' e1 e2=>?_;have I:Below M.heap.size W w':=(a7 _ W).grown e2 c.size bu;refine⟨c.trans I,λj H hE=>⟨λ_ e=>by simp at e,λ_ e=>by simp at e,λe=>absurd H (by rw[e];exact hi),(hd j H hE).c15,λe=>((hd j H hE).c16 e).imp λk l=>⟨l.1,l.2.1,(e2.block k (br l.2.2) λe=>?_).trans l.2.2⟩⟩,⟨λe=>absurd e (by decide),λe=>absurd e (by decide),λ_=>by simpa[upd]using e1,λe=>absurd e (by decide),λe=>absurd e (by decide)⟩,λ_ _ _=>trivial⟩;obtain⟨cur,SF⟩:=hoc k e.symm;rw[l.2.2]at SF;cases SF
         iterate 7 (
          apply iK
          case hE=>rfl
          case h=>
           intro vs W b c hd;have hl:=IJ ((c.block _ (br M9.out.map)).trans M9.out.map) HXF.out;have q0:=zc;have q1:=ze;have g2:=(c.cell (p:=⟨wr.heap.size,2,none⟩) Wf).trans d;have hw:=HWR.out;simp only[nD]at hl
           go_simp
           exact⟨rfl,a7 _ _⟩
          case hb=>exact j8)
         apply ey
         case hE=>rfl
         case hb=>exact j8
         case h=>
          intro vs W D bb iC c jw hi _ hd hP;have m7:7∈D:=jw ⟨7,eW⟩ (cH.2 ⟨by simp,rfl⟩);obtain⟨vb,vc,h7⟩:=vB ((hd 7 m7 rfl).c7 rfl);rw[h7];have HD:=bs hd;clear hd
          go_simp
          exact⟨HD.out,⟨λe=>absurd e (by decide),λe=>absurd e (by decide),λe=>absurd e (by decide),λ_=>by simp[upd,h7],λe=>absurd e (by decide)⟩⟩
         apply ey
         case hE=>rfl
         case hb=>exact j8
         case h=>
          intro vs W D b hb c jw hi _ hd hP;have I:=(a7 W.heap.size W).alloc (a8 _) (eI #[dO none 0 0,dy eQ 0] 113);have HBC:=bs (eh c I);have HSZ:=bs c.size;clear c
          go_simp
          exact⟨HBC.out,λj H hE=>(hd j H hE).le I,⟨λe=>absurd e (by decide),λe=>absurd e (by decide),λe=>absurd e (by decide),λe=>absurd e (by decide),λ_=>⟨W.heap.size,by simp[upd],HSZ.out,au _ _⟩⟩⟩
         refine nv λvs W bb _ c hd _=>?_;have hO7:=(hd 7 (by omega) rfl).c7 rfl;have ab8:=(hd 15 (by omega) rfl).c15 rfl;obtain⟨kw,h16,hkw,hcw⟩:=(hd 16 (by omega) rfl).c16 rfl;obtain⟨vb,vc,h7⟩:=vB hO7;rw[h7]at ab8 hO7;have HO7:=bs hO7;have HC1:=bs c;have HKW:=bs hkw;have HCW:=bs hcw;have y0:W.cell? ⟨kw,0,none⟩=some (dO none 0 0):=by simp[a5,hcw]
         have y1:W.cell? ⟨kw,1,none⟩=some (dy eQ 0):=by simp[a5,hcw]
         have fz:=tO hcw;rw[h16,ab8];clear hd c hO7 ab8 h16 hkw hcw h7;obtain⟨nn,Va⟩:∃n,n=(L++[F]).length:=⟨_,rfl⟩
         have HNN:=bs Va;rw[<-Va];clear Va
         go_upto_region 34 with fail
         obtain⟨XR,SG⟩:∃XR:World,XR=(W.setCell ⟨kw,0,none⟩ (dO vb nn vc)).setCell ⟨kw,1,none⟩ (dy eQ (xl+G)):=⟨_,rfl⟩
         have SI:Below M.heap.size M XR:=by rw[SG];exact(HC1.out.setCell (p:=⟨kw,0,none⟩) HKW.out _).setCell (p:=⟨kw,1,none⟩) HKW.out _
         have P10:Hid (XR.heap[kw]?=some (eI #[dO vb nn vc,dy eQ (xl+G)] 113)):=bs (by rw[SG];exact Wc HCW.out)
         have O10:Hid (eO 3 XR M.heap.size (dO vb nn vc) (L++[F])):=bs (by
          have hoc:=qm HO7.out;rw[HNN.out];have bu:∀j,dv (dO vb (L++[F]).length vc)=some j->j≠kw:=λj e H=>by
           obtain⟨cur,SF⟩:=hoc j e;rw[H,HCW.out]at SF;cases SF
          rw[SG]
          exact A8 (A8 HO7.out bu) bu)
         have M10:=bs (M9.out.on SI);have L10:=bs (aG SI L9.out);have S10:=bs (aG SI S9.out);have Ry:=bs (K9.out.on SI);rw[<-SG];clear SG SI y0 y1 fz;obtain⟨tp,tn,tc,tl,ok,FH,Ag⟩:=SE M10.out F;have HOK:=bs Ag;clear Ag h0 h1 d
         go_upto_region 35 with fail
         obtain⟨Z,ab9⟩:∃Z:World,Z=XR.alloc (eI #[dO tp tn tc,dy eQ tl] 113):=⟨_,rfl⟩
         have IP:Below XR.heap.size XR Z:=by rw[ab9];exact(a7 _ _).alloc (a8 _) _
         have P11:=bs ((IP.block _ (br P10.out)).trans P10.out);have O11:=bs (O10.out.on IP);have M11:=bs (M10.out.on IP);have L11:=bs (aG IP L10.out);have S11:=bs (aG IP S10.out);have Tr:=bs (Ry.out.on IP);rw[<-ab9];clear ab9 IP FH M10 L10 S10 Ry O10;by_cases ht:F∈tP m (i+1)
         ·have HT1:=bs ht;clear ht
          go_wp2_with (at_lookup;go_must (refine aR (enc:=zn) _ rfl _ _ 111 3 4 rfl qz ju (mq _) T (tP m (i+1)) rfl L11.out F rfl true (by simpa using HT1.out) ?_))
          exact⟨⟨q+1,R',Q,by go_num,by rw[X.out,N0,stepW,if_neg (by rw[NSK.out];decide),if_pos (by rw[<-HTO.out];exact HT1.out)],M11.out,L11.out,S11.out,Tr.out⟩,by simp only[intOf];omega⟩
         ·have HT1:=bs ht;clear ht;have hnf:R'.find? (λz=>z.1==F)=none:=by
           have e:=OX5.out NSK.out (by rw[<-HTO.out];exact HT1.out);rw[<-HTO.out]at e;have e2:=nE X.out F;rw[e]at e2
           cases e3:R'.find? (λz=>z.1==F) with
           |none=>rfl
           |some z=>rw[e3]at e2;cases e2
          have Ag:ok=false:=HOK.out hnf;subst Ag;have HNF:=bs hnf;clear hnf;have z0:Z.cell? ⟨kw,0,none⟩=some (dO vb nn vc):=by have h:=P11.out;simp[a5,h]
          have z1:Z.cell? ⟨kw,1,none⟩=some (dy eQ (xl+G)):=by have h:=P11.out;simp[a5,h]
          have RD:Hid (bB Z (dO vb nn vc) (L++[F])):=bs (eO.reads O11.out)
          go_wp2_with (first
           |(at_lookup;go_must (refine aR (enc:=zn) _ rfl _ _ 111 3 4 rfl qz ju (mq _) T (tP m (i+1)) rfl L11.out F rfl false (by simpa using HT1.out) ?_))
           |(at_mapUpdate;go_must (refine tF _ rfl _ _ _ (eT rfl) S R' (F,dO vb nn vc,L++[F],xl+G) rfl rfl rfl M11.out HNF.out RD.out (by simp) ?_);intro w12 hM y;go_must (have M12:=bs hM;have L12:=bs (eA L11.out (y.block _ (by have:=ZR.out;omega)));have S12:=bs (eA S11.out (y.block _ (by have:=ZR.out;omega)));have VC:=bs (Tr.out.turned y M11.out.map (λ_ _ _ e=>by cases e) (by have:=ZM.out;have:=ZR.out;omega):KQ C w kx P w12));clear hM y;go_frame))
          refine⟨⟨q+1,R'++[(F,dO vb nn vc,L++[F],xl+G)],Q,by go_num,?_,M12.out,L12.out,S12.out,VC.out⟩,by simp only[intOf];omega⟩;rw[c8,X.out,N0,stepW,if_neg (by rw[NSK.out];decide),if_neg (by rw[<-HTO.out];exact HT1.out),OX1.out]
          simp only[cC,cQ,strip,HTO.out,EG.out])
end Go.Proofs
namespace Go.Proofs
open Go.RowKit Go.Shelf
set_option maxRecDepth 100000
set_option maxHeartbeats 1000000
def uP(d:Int)(C:CD)(W:World):Prop:=∃k2 g k3 c3 a h b i c e lb f,C=ir k2 g k3 c3 a h b i c e lb f d/\CJ W k2 k3 a b c e lb f d
def uP.on{d:Int}{C:CD}{W a:World}(h:uP d C W)(b:Below W.heap.size W a):uP d C a:=by
 obtain⟨k2,c,k3,c3,f,g,i,j,k,l,lb,m,e,h⟩:=h;exact⟨k2,c,k3,c3,f,g,i,j,k,l,lb,m,e,h.on b⟩
def uP.at{d:Int}{C:CD}{W:World}(h:uP d C W):C.At W:=by
 obtain⟨k2,a,k3,c3,b,c,e,f,g,i,lb,j,rfl,h⟩:=h;exact h.at
def uP.is{d:Int}{C:CD}{W:World}(h:uP d C W):VB d C:=by
 obtain⟨k2,a,k3,c3,b,c,e,f,g,i,lb,j,rfl,_⟩:=h;exact⟨k2,a,k3,c3,b,c,e,f,g,i,lb,j,rfl⟩
def tG{d:Int}{C:CD}(hd:d=0\/d=1)(h:VB d C):C.b6 true=0:=by
 obtain⟨k2,a,k3,c3,b,c,e,f,g,i,lb,j,rfl⟩:=h
 rcases hd with rfl|rfl<;>kernel_rfl
def IQ{d:Int}{C:CD}(hd:d=0\/d=1)(h:VB d C):C.cx=0:=IC (tG hd h)
def agd(w:World):Calls PL 17 #[dy eQ 13,dy eQ (-5)] w λe w'=>e=eS (dQ #[dy eQ 12,dy eQ 0])/\w=w':=(uD 13 (-5) w).mono λ_ _ k=>⟨k.1.trans (by kernel_rfl),k.2.symm⟩
def age(w:World):Calls PL 17 #[dy eQ 20,dy eQ 11] w λe w'=>e=eS (dQ #[dy eQ 16,dy eQ 0])/\w=w':=(uD 20 11 w).mono λ_ _ k=>⟨k.1.trans (by kernel_rfl),k.2.symm⟩
def agf{C:CD}(w:World)(h:uP 0 C w):Calls PL 18 #[dC C.val,dy eQ 0] w (aO (dQ #[dC #[dy eQ 16,dy eQ 20],dy eQ 0]) w):=by
 have k:=nB C 0 w h.at;have e:C.kR 0=dQ #[dC #[dy eQ 16,dy eQ 20],dy eQ 0]:=by
  obtain⟨k2,a,k3,c3,b,c,d,f,g,i,lb,j,rfl⟩:=h.is
  kernel_rfl
 rwa[e]at k
def agh{C:CD}(w:World)(h:uP 0 C w):Calls PL 18 #[dC C.val,dy eQ 2] w (aO (dQ #[dC #[dy eQ 24,dy eQ 25],dy eQ 0]) w):=by
 have k:=nB C 2 w h.at;have e:C.kR 2=dQ #[dC #[dy eQ 24,dy eQ 25],dy eQ 0]:=by
  obtain⟨k2,a,k3,c3,b,c,d,f,g,i,lb,j,rfl⟩:=h.is
  kernel_rfl
 rwa[e]at k
def agi{C:CD}(w:World)(h:uP 0 C w):Calls PL 19 #[dC C.val,dy eQ 0] w (aO (dQ #[dy eQ 0,dy eQ 0]) w):=by
 have k:=pH C 0 w h.at;have e:C.iq 0=dQ #[dy eQ 0,dy eQ 0]:=by
  obtain⟨k2,a,k3,c3,b,c,d,f,g,i,lb,j,rfl⟩:=h.is
  kernel_rfl
 rwa[e]at k
def agj{C:CD}(w:World)(h:uP 0 C w):Calls PL 19 #[dC C.val,dy eQ 2] w (aO (dQ #[dy eQ 2,dy eQ 0]) w):=by
 have k:=pH C 2 w h.at;have e:C.iq 2=dQ #[dy eQ 2,dy eQ 0]:=by
  obtain⟨k2,a,k3,c3,b,c,d,f,g,i,lb,j,rfl⟩:=h.is
  kernel_rfl
 rwa[e]at k
def SJ:List Int:=[0,0,0,4,6,1,6,9,10,14,2,13,17,18,22]
def abe:List Int:=[0,1,2,0,13]
def ahs{W:World}{base e n:Nat}{v:Value}{xs:List Value}(h:W.ownsRow base e 5 v n xs)(l:List Int)(a:xs=l.map λz=>dy eQ z):Reads W v n 5 λj=>dy eQ (l.getD j 0):=by
 obtain⟨hl,h⟩:=h
 rcases h with⟨rfl,rfl⟩|⟨g,cap,b,rfl,hb,hg,hc,d,hs,c⟩
 ·exact⟨none,0,rfl,λh=>absurd h (bo _)⟩
 ·refine⟨_,_,rfl,λf=>⟨g,0,rfl,br hg,λj i=>?_⟩⟩;have k:l.length=n*5:=by rw[<-hl,a,List.length_map]
  have e:xs[j]?=some (dy eQ (l.getD j 0)):=by
   rw[a,dl,dq (by omega)];simp[dk,dq (show j<l.length by omega)]
  rw[<-c,ct (by omega)]at e;simp only[a5,hg,bj];simpa using e
def e34{C:CD}(w:World)(h:uP 0 C w):Calls PL 8 #[dC C.val,dy eQ 0] w λe w'=>∃v,e=eS (dQ #[v,dy eQ 0])/\(Reads w' v 3 5 λj=>dy eQ (SJ.getD j 0))/\Below w.heap.size w w':=by
 have k:=ID C 0 w h.at (by obtain⟨k2,a,k3,c3,b,c,d,f,g,i,lb,l,rfl⟩:=h.is;show 0<2;decide) (by obtain⟨k2,a,k3,c3,b,c,d,f,g,i,lb,l,rfl⟩:=h.is;show 2<=3;decide) (tG (eT rfl) h.is) (Sa C (IQ (eT rfl) h.is) (by obtain⟨k2,a,k3,c3,b,c,d,f,g,i,lb,l,rfl⟩:=h.is;show 0<2;decide));refine k.mono ?_;rintro e w'⟨v,rfl,m,n⟩;have e:mD C 0 C.n4=[(0,0,0,4,6),(1,6,9,10,14),(2,13,17,18,22)]:=by
  obtain⟨k2,a,k3,c3,b,c,d,f,g,i,lb,l,rfl⟩:=h.is
  kernel_rfl
 unfold AY at m;rw[e]at m;exact⟨v,rfl,ahs m SJ rfl,n⟩
def e59{C:CD}(w:World)(h:uP 0 C w):Calls PL 20 #[dC C.val,dy eQ 1] w (aO (dQ #[dC #[dy eQ 18,dy eQ 23],dy eQ 0]) w):=by
 have k:=Sj C 1 w h.at (by obtain⟨k2,a,k3,c3,b,c,d,f,g,i,lb,j,rfl⟩:=h.is;show 1<2;decide) (by obtain⟨k2,a,k3,c3,b,c,d,f,g,i,lb,j,rfl⟩:=h.is;show 2<=3;decide) (tG (eT rfl) h.is) (Sa C (IQ (eT rfl) h.is) (by obtain⟨k2,a,k3,c3,b,c,d,f,g,i,lb,j,rfl⟩:=h.is;show 1<2;decide));have e:nU C 1=(18,23):=by
  obtain⟨k2,a,k3,c3,b,c,d,f,g,i,lb,j,rfl⟩:=h.is
  kernel_rfl
 rwa[e]at k
def e36{C:CD}(w:World)(h:uP 0 C w):Calls PL 9 #[dC C.val,dy eQ 8] w λe w'=>∃v,e=eS (dQ #[v,dy eQ 0])/\bB w' v [2,0,1]/\Below w.heap.size w w':=by
 have k:=RO C 8 je Sy w h.at (tG (eT rfl) h.is) (by obtain⟨k2,a,k3,c3,b,c,d,f,g,i,lb,j,rfl⟩:=h.is;show 3<=5;decide) (by obtain⟨k2,a,k3,c3,b,c,d,f,g,i,lb,j,rfl⟩:=h.is;show 2<=3;decide) rfl λW l=>tA (eT rfl) h.is l;have e:tB je 8 C.n5 C.n4=[2,0,1]:=by
  obtain⟨k2,a,k3,c3,b,c,d,f,g,i,lb,j,rfl⟩:=h.is
  kernel_rfl
 rwa[e]at k
def e37{C:CD}{d:Int}(hd:d=0\/d=1)(w:World)(h:uP d C w):Calls PL 10 #[dC C.val] w λe w'=>∃v,e=eS (dQ #[v,dy eQ 0])/\(∃b c,v=dO b (Cv d 3).length c)/\(Reads w' v (Cv d 3).length 5 λj=>dy eQ (abe.getD j 0))/\Below w.heap.size w w':=by
 have l:C.n4=3/\C.n5=2:=by obtain⟨k2,o,k3,c3,p,q,r,s,t,u,lb,x,rfl⟩:=h.is;exact⟨rfl,rfl⟩
 have k:=Fp C (λW v=>(∃b c,v=dO b (Cv d 3).length c)/\Reads W v (Cv d 3).length 5 λj=>dy eQ (abe.getD j 0)) w h.at (tG hd h.is) λW m=>(vC C d hd l.1 l.2 W m λy f=>tA hd h.is f).mono λe w'⟨v,g,a,i⟩=>⟨v,g,⟨vB a,?_⟩,i⟩
 ·exact k.mono λe w'⟨v,g,a,i⟩=>⟨v,g,a.1,a.2,i⟩
 ·rcases hd with rfl|rfl
  ·have n:Cv 0 3=[]:=rfl;unfold kV at a;rw[n]at a⊢;obtain⟨b,c,rfl⟩:=vB a;exact⟨b,c,rfl,λh=>absurd h (bo _)⟩
  ·exact ahs a abe rfl
def e39{C:CD}{v:Value}(w:World)(h:uP 0 C w)(hv:bB w v [0,1]):Calls PL 21 #[dC C.val,v] w λe w'=>∃a,e=eS (dQ #[dC a.val,dy eQ 0])/\uP 1 a w'/\Below w.heap.size w w':=by
 obtain⟨k2,l,k3,c3,m,n,o,p,q,r,lb,s,rfl,b⟩:=h;exact(Iw w b hv).mono λe w'⟨q2,d2,q3,d3,q4,d4,q5,d5,c,d,f,g,i,j,k⟩=>⟨_,i,⟨q2,d2,q3,d3,q4,d4,q5,d5,c,d,f,g,rfl,j⟩,k⟩
def e52{C:CD}(w:World)(h:uP 1 C w):Calls PL 22 #[dC C.val] w λe w'=>∃v,e=eS (dQ #[v,dK true,dy eQ 0])/\bB w' v [0,0]/\Below w.heap.size w w':=by
 obtain⟨k2,b,k3,c3,c,d,f,g,i,j,lb,k,rfl,a⟩:=h;exact II w a
def agk{C:CD}(w:World)(h:uP 0 C w):Calls PL 23 #[dC C.val,dy eQ 2,dy eQ 5] w λe w'=>∃v,e=eS (dQ #[v,dy eQ 110,dK true,dy eQ 0])/\bB w' v [2,3,0]/\Below w.heap.size w w':=by
 have a:=h.at;obtain⟨k2,b,k3,c3,c,d,f,g,i,j,lb,k,e,_⟩:=h;exact Ba C 5 (eT rfl) e w a
def agl{C:CD}(w:World)(h:uP 0 C w):Calls PL 23 #[dC C.val,dy eQ 2,dy eQ 3] w λe w'=>∃v,e=eS (dQ #[v,dy eQ 0,dK false,dy eQ 0])/\bB w' v []/\Below w.heap.size w w':=by
 have a:=h.at;obtain⟨k2,b,k3,c3,c,d,f,g,i,j,lb,k,e,_⟩:=h;exact Ba C 3 (eV rfl) e w a
def e31{C:CD}(w:World)(h:uP 0 C w):Calls PL 24 #[dC C.val] w λe w'=>∃v,e=eS (dQ #[v,dy eQ 0])/\bB w' v [0,2]/\Below w.heap.size w w':=by
 have k:=Cr C w h.at (IQ (eT rfl) h.is);have e:(qC C C.p.toNat (2 ^ C.p.toNat)).getD []=[0,2]:=by
  obtain⟨k2,a,k3,c3,b,c,d,f,g,i,lb,j,rfl⟩:=h.is
  kernel_rfl
 rwa[e]at k
def agm{C:CD}(w:World)(h:uP 0 C w):Calls PL 10 #[dC C.val] w λe w'=>∃b c,e=eS (dQ #[dO b 0 c,dy eQ 0])/\Below w.heap.size w w':=
 (e37 (eT rfl) w h).mono λe w'⟨v,a,⟨b,c,d⟩,_,f⟩=>⟨b,c,by rw[a,d];rfl,f⟩
def agn{C:CD}(w:World)(h:uP 1 C w):Calls PL 10 #[dC C.val] w λe w'=>∃v,e=eS (dQ #[v,dy eQ 0])/\(Reads w' v 1 5 λj=>dy eQ (abe.getD j 0))/\Below w.heap.size w w':=
 (e37 (eV rfl) w h).mono λe w'⟨v,a,_,b,c⟩=>⟨v,a,b,c⟩
def iO(W:World)(t:ac)(m:Nat)(l:List Int)(n:Nat)(hl:l.length=n*m):Reads (W.alloc (eI (l.map λz=>dy eQ z).toArray t)) (dO (some ⟨W.heap.size,0,none⟩) n n) n m λj=>dy eQ (l.getD j 0):=by
 refine⟨_,_,rfl,λ_=>⟨_,_,rfl,by simp,λj b=>?_⟩⟩;have h:=au W (eI (l.map λz=>dy eQ z).toArray t);have a:j<l.length:=by omega
 simp only[a5,h];simp[dk,a]
attribute [local go_sem] Oper.semAt_some
def NC(P:World->Prop):Prop:=∀W a,P W->Below W.heap.size W a->P a
def iy(W:World):List (World->Prop)->Prop
 |[]=>True
 |P::l=>(P W/\NC P)/\iy W l
def iy.on{W a:World}:∀{l:List (World->Prop)},iy W l->Below W.heap.size W a->iy a l
 |[],_,_=>trivial
 |_::_,h,b=>⟨⟨h.1.2 _ _ h.1.1 b,h.1.2⟩,iy.on h.2 b⟩
def iy.add{W:World}{l:List (World->Prop)}(h:iy W l)(P:World->Prop)(a:P W)(b:NC P):iy W (P::l):=⟨⟨a,b⟩,h⟩
def mE(k:Nat)(x:Obj):NC λW=>W.heap[k]?=some x:=λ_ _ h a=>(a.block _ (br h)).trans h
def gz(v:Value)(n m:Nat)(f:Nat->Value):NC λW=>Reads W v n m f:=λ_ _ h a=>Reads.on h a
def Lp(d:Int)(C:CD):NC (uP d C):=λ_ _ h a=>h.on a
def SU(w:World):NC λW=>Below w.heap.size w W:=λ_ _ h a=>eh h a
def IV(w:World):Calls PL 5 #[] w (aO (dK true) w):=by
 go_enter (fx (by decide) Tryz.func5),Tryz.ntmps5
 go_upto_region 2 with(go_at_call 16;go_must (refine(EV _).mono ?_);rintro e w0⟨k2,L,k3,c3,M,q,N,r,O,P,lb,Q,rfl,⟨r2,r3,r4,r5,ra,rb⟩,a⟩;have z:Hid (uP 0 (ir k2 L k3 c3 M q N r O P lb Q 0) w0):=bs ⟨k2,L,k3,c3,M,q,N,r,O,P,lb,Q,rfl,⟨r2,r3,r4,r5,ra,rb⟩⟩;have HB:=bs a;clear r2 r3 r4 r5 ra rb a;obtain⟨C,m⟩:∃C,C=ir k2 L k3 c3 M q N r O P lb Q 0:=⟨_,rfl⟩;rw[<-m]at z ⊢;clear m)
 obtain⟨kb,R⟩:∃k,k=w0.heap.size:=⟨_,rfl⟩
 obtain⟨W2,i⟩:∃W:World,W=w0.alloc (eI C.val 27):=⟨_,rfl⟩
 have s:Below w0.heap.size w0 W2:=by rw[i];exact(a7 _ _).alloc (a8 _) _
 have S:Hid (iy W2 [λW=>W.heap[kb]?=some (eI C.val 27),uP 0 C,λW=>Below w.heap.size w W]):=bs ⟨⟨by rw[i,R];exact au _ _,mE _ _⟩,⟨z.out.on s,Lp _ _⟩,⟨eh HB.out s,SU _⟩,trivial⟩;rw[<-i,<-R];clear i R s z HB
 go_upto_region 3 with(go_at_call 17;go_must (refine(agd _).mono ?_);rintro e w'⟨rfl,rfl⟩)
 go_upto_region 4 with(go_at_call 17;go_must (refine(age _).mono ?_);rintro e w'⟨rfl,rfl⟩)
 obtain⟨b,c,d,f,f4,g⟩:=bf S.out.1.1
 go_upto_region 5 with(go_at_call 18;go_must (refine(agf _ (S.out.2.1.1)).mono ?_);rintro e n⟨rfl,a⟩;have A:=bs (S.out.on a);clear a b c d f f4 g)
 obtain⟨T,hb⟩:∃k,k=n.heap.size:=⟨_,rfl⟩
 obtain⟨W4,i⟩:∃W:World,W=n.alloc (eI #[dy eQ 16,dy eQ 20] 30):=⟨_,rfl⟩
 have U:=bs ((A.out.on (show Below n.heap.size n W4 by rw[i];exact(a7 _ _).alloc (a8 _) _)).add (λW=>W.heap[T]?=some (eI #[dy eQ 16,dy eQ 20] 30)) (by rw[i,hb];exact au _ _) (mE _ _));rw[<-i,<-hb];clear i hb A;obtain⟨b,c,d,f,f4,g⟩:=bf (U.out.2.1.1)
 go_upto_region 6 with(go_at_call 18;go_must (refine(agh _ (U.out.2.2.1.1)).mono ?_);rintro e o⟨rfl,a⟩;have B:=bs (U.out.on a);clear a b c d f f4 g)
 obtain⟨V,hb⟩:∃k,k=o.heap.size:=⟨_,rfl⟩
 obtain⟨W5,i⟩:∃W:World,W=o.alloc (eI #[dy eQ 24,dy eQ 25] 30):=⟨_,rfl⟩
 have X:=bs ((B.out.on (show Below o.heap.size o W5 by rw[i];exact(a7 _ _).alloc (a8 _) _)).add (λW=>W.heap[V]?=some (eI #[dy eQ 24,dy eQ 25] 30)) (by rw[i,hb];exact au _ _) (mE _ _));rw[<-i,<-hb];clear i hb B;obtain⟨b,c,d,f,f4,g⟩:=bf (X.out.2.2.1.1)
 go_upto_region 7 with(go_at_call 19;go_must (refine(agi _ (X.out.2.2.2.1.1)).mono ?_);rintro e w6x⟨rfl,a⟩;have Y:=bs (X.out.on a);clear a b c d f f4 g;obtain⟨b,c,d,f,f4,g⟩:=bf (Y.out.2.2.1.1))
 go_upto_region 8 with(go_at_call 19;go_must (refine(agj _ (Y.out.2.2.2.1.1)).mono ?_);rintro e w7x⟨rfl,a⟩;have Z:=bs (Y.out.on a);clear a b c d f f4 g;obtain⟨b,c,d,f,f4,g⟩:=bf (Z.out.2.2.1.1))
 go_upto_region 9 with(go_at_call 8;go_must (refine(e34 _ (Z.out.2.2.2.1.1)).mono ?_);rintro e w8x⟨v8,rfl,l,a⟩;have K8:=bs ((Z.out.on a).add (λW=>Reads W v8 3 5 λj=>dy eQ (SJ.getD j 0)) l (gz _ _ _ _));clear l;clear a b c d f f4 g;obtain⟨b,c,d,f,f4,g⟩:=bf (K8.out.2.2.2.1.1))
 go_upto_region 10 with(go_at_call 20;go_must (refine(e59 _ (K8.out.2.2.2.2.1.1)).mono ?_);rintro e p⟨rfl,a⟩;have D:=bs (K8.out.on a);clear a b c d f f4 g)
 obtain⟨b9,hb⟩:∃k,k=p.heap.size:=⟨_,rfl⟩
 obtain⟨W9,i⟩:∃W:World,W=p.alloc (eI #[dy eQ 18,dy eQ 23] 30):=⟨_,rfl⟩
 have K9:=bs ((D.out.on (show Below p.heap.size p W9 by rw[i];exact(a7 _ _).alloc (a8 _) _)).add (λW=>W.heap[b9]?=some (eI #[dy eQ 18,dy eQ 23] 30)) (by rw[i,hb];exact au _ _) (mE _ _));rw[<-i,<-hb];clear i hb D;obtain⟨b,c,d,f,f4,g⟩:=bf (K9.out.2.2.2.2.1.1)
 go_upto_region 11 with(go_at_call 9;go_must (refine(e36 _ (K9.out.2.2.2.2.2.1.1)).mono ?_);rintro e aul⟨E,rfl,l,a⟩;have Ry:=bs ((K9.out.on a).add (λW=>bB W E [2,0,1]) l (gz _ _ _ _));clear l;clear a b c d f f4 g;obtain⟨b,c,d,f,f4,g⟩:=bf (Ry.out.2.2.2.2.2.1.1))
 go_upto_region 12 with(go_at_call 10;go_must (refine(agm _ (Ry.out.2.2.2.2.2.2.1.1)).mono ?_);rintro e aum⟨Fy,q11,rfl,a⟩;have Tr:=bs (Ry.out.on a);clear a b c d f f4 g;obtain⟨b,c,d,f,f4,g⟩:=bf (Tr.out.2.2.2.2.2.1.1))
 go_upto_region 13 with(go_at_call 21;go_must (refine(e39 _ ((Tr.out.2.2.2.2.2.2.1.1).on ((a7 _ _).alloc (a8 _) _)) (iO _ 3 1 [0,1] 2 rfl)).mono ?_);rintro e K⟨C1,rfl,hE,a⟩;have F:=bs ((Tr.out.on ((a7 _ _).alloc (a8 _) _)).on a);have z:=bs hE;clear hE;clear a b c d f f4 g)
 obtain⟨Vv,hb⟩:∃k,k=K.heap.size:=⟨_,rfl⟩
 obtain⟨W12,i⟩:∃W:World,W=K.alloc (eI C1.val 27):=⟨_,rfl⟩
 have t:Below K.heap.size K W12:=by rw[i];exact(a7 _ _).alloc (a8 _) _
 have VC:=bs (((F.out.on t).add (λW=>W.heap[Vv]?=some (eI C1.val 27)) (by rw[i,hb];exact au _ _) (mE _ _)).add (uP 1 C1) (z.out.on t) (Lp _ _));rw[<-i,<-hb];clear i hb t F z;obtain⟨b,c,d,f,f4,g⟩:=bf (VC.out.2.1.1)
 go_upto_region 14 with(go_at_call 10;go_must (refine(agn _ (VC.out.1.1)).mono ?_);rintro e aun⟨UW,rfl,l,a⟩;have u:=bs ((VC.out.on a).add (λW=>Reads W UW 1 5 λj=>dy eQ (abe.getD j 0)) l (gz _ _ _ _));clear l;clear a b c d f f4 g;obtain⟨b,c,d,f,f4,g⟩:=bf (u.out.2.2.1.1))
 go_upto_region 15 with(go_at_call 22;go_must (refine(e52 _ (u.out.2.1.1)).mono ?_);rintro e auo⟨UX,rfl,l,a⟩;have Tq:=bs ((u.out.on a).add (λW=>bB W UX [0,0]) l (gz _ _ _ _));clear l;clear a b c d f f4 g;obtain⟨b,c,d,f,f4,g⟩:=bf (Tq.out.2.2.2.2.2.2.2.2.2.1.1))
 go_upto_region 16 with(go_at_call 23;go_must (refine(agk _ (Tq.out.2.2.2.2.2.2.2.2.2.2.1.1)).mono ?_);rintro e aup⟨H,rfl,l,a⟩;have v:=bs ((Tq.out.on a).add (λW=>bB W H [2,3,0]) l (gz _ _ _ _));clear l;clear a b c d f f4 g;obtain⟨b,c,d,f,f4,g⟩:=bf (v.out.2.2.2.2.2.2.2.2.2.2.1.1))
 go_upto_region 17 with(go_at_call 23;go_must (refine(agl _ (v.out.2.2.2.2.2.2.2.2.2.2.2.1.1)).mono ?_);rintro e auq⟨v16,rfl,l,a⟩;have x:=bs ((v.out.on a).add (λW=>bB W v16 []) l (gz _ _ _ _));clear l;clear a b c d f f4 g;obtain⟨b,c,d,f,f4,g⟩:=bf (x.out.2.2.2.2.2.2.2.2.2.2.2.1.1))
 go_upto_region 18 with(go_at_call 24;go_must (refine(e31 _ (x.out.2.2.2.2.2.2.2.2.2.2.2.2.1.1)).mono ?_);rintro e y⟨I,rfl,l,a⟩;have J:=bs ((x.out.on a).add (λW=>bB W I [0,2]) l (gz _ _ _ _));clear l;clear a b c d f f4 g;obtain⟨b,c,d,f,f4,g⟩:=bf (J.out.2.2.2.2.2.2.2.2.2.2.2.2.1.1))
 clear b c d f f4 g
 go_upto_region 20 with fail
 have KK:=J;have e4:=KK.out.2.2.2.2.2.2.2.2.2.2.2.1.1;have e5:=KK.out.2.2.2.2.2.2.2.2.2.2.1.1;have e9:=KK.out.2.2.2.2.2.2.2.2.1.1;obtain⟨wq,hwq⟩:∃W:World,W=y:=⟨_,rfl⟩
 have E4:=bs e4;have E5:=bs e5;have E9:=bs e9;clear e4 e5 e9 hwq;refine ig (λW=>Below y.heap.size y W) (λ_ _=>True) (λ_=>true) (λ_ _ _=>True) rfl (by kernel_rfl) (λ_ _ _ _ _ _=>trivial) (λ_ _ _ _ _ _ _ _ _=>trivial) (a7 _ _).drew ?_
 iterate 49 (
  apply aY
  case hE=>rfl
  case h=>
   intro vs W m hd;have q:=(m.block _ (br E4.out)).trans E4.out;have r:=(m.block _ (br E5.out)).trans E5.out;have c9:=(m.block _ (br E9.out)).trans E9.out;have x0:W.cell? ⟨T,0,none⟩=some (dy eQ 16):=by simp[a5,q]
   have x1:W.cell? ⟨T,1,none⟩=some (dy eQ 20):=by simp[a5,q]
   have x2:W.cell? ⟨V,0,none⟩=some (dy eQ 24):=by simp[a5,r]
   have x3:W.cell? ⟨V,1,none⟩=some (dy eQ 25):=by simp[a5,r]
   have x4:W.cell? ⟨b9,0,none⟩=some (dy eQ 18):=by simp[a5,c9]
   have x5:W.cell? ⟨b9,1,none⟩=some (dy eQ 23):=by simp[a5,c9]
   have q1:=yM;have q2:=Co;clear q r c9
   go_simp
   first
   |(go_at_call 25;refine(fU _ _ _).mono ?_;rintro e W'⟨rfl,a⟩;exact⟨_,rfl,rfl,eh m a⟩)
   |exact rfl
  case hb=>exact j8)
 refine cP λvs W m hd=>?_;have KK:=bs (KK.out.on m);clear hd m
 go_wp2_with (first
  |(go_at_call 25;go_must (refine(fU _ _ _).mono ?_);rintro e w'⟨rfl,a⟩;have KK:=bs (iy.on KK.out a);clear a)
  |(go_at_call 26;go_must (refine(zT v8 _ 3 (λj=>SJ.getD j 0) _ ((iy.on KK.out ((a7 _ _).alloc (a8 _) _)).2.2.2.2.2.2.2.2.2.1.1) (iO _ 53 5 SJ 3 rfl) (by decide)).mono ?_);rintro e w'⟨rfl,a⟩;have KK:=bs (iy.on (iy.on KK.out ((a7 _ _).alloc (a8 _) _)) a);clear a)
  |(go_at_call 27;go_must (refine(Cp E _ 3 (λj=>[2,0,1].getD j 0) _ ((iy.on KK.out ((a7 _ _).alloc (a8 _) _)).2.2.2.2.2.2.2.1.1) (iO _ 48 1 [2,0,1] 3 rfl) (by decide)).mono ?_);rintro e w'⟨rfl,a⟩;have KK:=bs (iy.on (iy.on KK.out ((a7 _ _).alloc (a8 _) _)) a);clear a)
  |(go_at_call 28;go_must (refine(vS UW _ 1 (λj=>abe.getD j 0) _ ((iy.on KK.out ((a7 _ _).alloc (a8 _) _)).2.2.2.2.1.1) (iO _ 56 5 abe 1 rfl) (by decide)).mono ?_);rintro e w'⟨rfl,a⟩;have KK:=bs (iy.on (iy.on KK.out ((a7 _ _).alloc (a8 _) _)) a);clear a))
 refine(pI UX _ 2 (λj=>[0,0].getD j 0) _ ((iy.on KK.out ((a7 _ _).alloc (a8 _) _)).2.2.2.1.1) (iO _ 3 1 [0,0] 2 rfl) (by decide)).mono ?_;rintro e w1x⟨rfl,a⟩;have KK:=bs (iy.on (iy.on KK.out ((a7 _ _).alloc (a8 _) _)) a);clear a;go_wp2;refine(pI H _ 3 (λj=>[2,3,0].getD j 0) _ ((iy.on KK.out ((a7 _ _).alloc (a8 _) _)).2.2.1.1) (iO _ 3 1 [2,3,0] 3 rfl) (by decide)).mono ?_;rintro e w2x⟨rfl,a⟩;have KK:=bs (iy.on (iy.on KK.out ((a7 _ _).alloc (a8 _) _)) a);clear a;go_wp2;refine(pI I _ 2 (λj=>[0,2].getD j 0) _ ((iy.on KK.out ((a7 _ _).alloc (a8 _) _)).1.1) (iO _ 3 1 [0,2] 2 rfl) (by decide)).mono ?_;rintro e w3x⟨rfl,a⟩;have KK:=bs (iy.on (iy.on KK.out ((a7 _ _).alloc (a8 _) _)) a);clear a;go_wp2
 go_ret
 exact⟨rfl,KK.out.2.2.2.2.2.2.2.2.2.2.2.2.2.2.1.1⟩
end Go.Proofs
namespace Go.Proofs
open Go.RowKit
structure amj(C D:CD):Prop where
 l:D.l=C.l
 p:D.p=C.p
 n2:D.n2=C.n2
 x2:D.x2=C.x2
 n3:D.n3=C.n3
 x3:D.x3=C.x3
 n4:D.n4=C.n4
 x4:∀i,(D.x4 i).name=(C.x4 i).name/\(∀j,j<=6->(D.x4 i).n j=(C.x4 i).n j)/\(D.x4 i).ln=(C.x4 i).ln/\(D.x4 i).lane=(C.x4 i).lane
 n5:D.n5=C.n5
 x5:∀i,(D.x5 i).1=(C.x5 i).1/\(D.x5 i).2.1=(C.x5 i).2.1
def amj.check{C D:CD}(h:amj C D)(f:∀i,i<C.n4->eK ((D.x4 i).n 7) ((D.x4 i).n 8) 1 60=true/\eK ((D.x4 i).n 9) ((D.x4 i).n 10) 0 60=true)(g:∀i,i<C.n5->bO (D.x5 i).2.2 0 12=true)(hc:C.cx=0):D.cx=0:=by
 have b:∀j,j<5->C.dP j=0:=ck hc;refine cz λj d=>?_;have a:=b j d
 match j,d with
 |0,_=>simp only[CD.dP,h.l,h.p]at *;exact a
 |1,_=>simp only[CD.dP,h.n2,h.x2]at *;exact a
 |2,_=>simp only[CD.dP,h.p,h.n3,h.x3]at *;exact a
 |3,_=>
  simp only[CD.dP,h.p,h.n2,h.n3,h.n4,kA]at *
  split at a
  ·rename_i hb;rw[if_pos hb];have b:=ck a;refine cz λi hi=>?_;have c:=b i hi;obtain⟨e1,k,m,o⟩:=h.x4 i;have e:((db i).map λj=>(D.x4 j).name)=(db i).map λj=>(C.x4 j).name:=dt λj _=>(h.x4 j).1;unfold gM at c⊢
   grind
  ·cases a
 |4,_=>
  simp only[CD.dP,h.n4,h.n5,pE]at *
  split at a
  ·cases a
  ·rename_i hb;rw[if_neg hb];have b:=ck a;refine cz λi hi=>?_;have c:=b i hi;have e:((db i).map λj=>(D.x5 j).1)=(db i).map λj=>(C.x5 j).1:=dt λj _=>(h.x5 j).1;have es:((db i).map λj=>(D.x5 j).2.1)=(db i).map λj=>(C.x5 j).2.1:=dt λj _=>(h.x5 j).2;unfold iI at c⊢;rw[(h.x5 i).1,(h.x5 i).2,e,es]
   grind
open Go.Shelf
attribute [local go_sem] Oper.semAt_some
set_option maxRecDepth 100000
set_option maxHeartbeats 4000000
def abf(x:iJ)(a b c d:Int):iJ:={ x with n:=λj=>if j=7 then a else if j=8 then b else if j=9 then c else if j=10 then d else x.n j }
def X0(x:iJ)(a b k1 k2:Int):iJ:=abf x (max (x.n 7) a) (min (x.n 8) b) (max (x.n 9) k1) (min (x.n 10) k2)
def aaz(x:iJ)(a b k1 k2:Int):Int:=
 if eK a b 0 60&&eK k1 k2 0 60 then(if max (x.n 7) a > min (x.n 8) b then 10 else if max (x.n 9) k1 > min (x.n 10) k2 then 10 else 0) else 1
def amk(w:World)(a b c d:Obj):((((w.alloc a).alloc b).alloc c).alloc d).heap[w.heap.size]?=some a/\((((w.alloc a).alloc b).alloc c).alloc d).heap[w.heap.size+1]?=some b/\((((w.alloc a).alloc b).alloc c).alloc d).heap[w.heap.size+2]?=some c/\((((w.alloc a).alloc b).alloc c).alloc d).heap[w.heap.size+3]?=some d/\Below w.heap.size w ((((w.alloc a).alloc b).alloc c).alloc d):=by
 have k1:=au w a;have k2:=au (w.alloc a) b;have k3:=au ((w.alloc a).alloc b) c;have f:=au (((w.alloc a).alloc b).alloc c) d;simp only[aJ]at k2 k3 f;have e:∀(W:World)(o:Obj)(k:Nat)(x:Obj),W.heap[k]?=some x->(W.alloc o).heap[k]?=some x:=λW o k x h=>((a7 W.heap.size W).alloc (a8 _) o).block k (br h) |>.trans h
 exact⟨e _ _ _ _ (e _ _ _ _ (e _ _ _ _ k1)),e _ _ _ _ (e _ _ _ _ k2),e _ _ _ _ k3,f,((((a7 _ _).alloc (a8 _) _).alloc (by simp) _).alloc (by simp;omega) _).alloc (by simp;omega) _⟩
structure KNb(C:CD)(s1 s2 k1 k2:Int)(w W:World):Prop where
 box:W.heap[w.heap.size]?=some (eI C.val 27)
 b1:W.heap[w.heap.size+1]?=some (eI #[dy eQ s1,dy eQ s2] 30)
 b2:W.heap[w.heap.size+1+1]?=some (eI #[dy eQ k1,dy eQ k2] 30)
 res:W.heap[w.heap.size+1+1+1]?=some (eI RX 27)
 low:Below w.heap.size w W
def KNb.on{C:CD}{b c k1 k2:Int}{w W d:World}(h:KNb C b c k1 k2 w W)(a:Below W.heap.size W d):KNb C b c k1 k2 w d:=
 ⟨(a.block _ (br h.box)).trans h.box,(a.block _ (br h.b1)).trans h.b1,(a.block _ (br h.b2)).trans h.b2,(a.block _ (br h.res)).trans h.res,eh h.low a⟩
theorem KNb.set{C:CD}{a b k1 k2:Int}{w W:World}(h:KNb C a b k1 k2 w W){K o:Nat}(c:w.heap.size+3<K)(v:Value):KNb C a b k1 k2 w (W.setCell ⟨K,o,none⟩ v):=
 ⟨(aZ (by omega)).trans h.box,(aZ (by omega)).trans h.b1,(aZ (by omega)).trans h.b2,(aZ (by omega)).trans h.res,h.low.setCell (p:=⟨K,o,none⟩) (bp (Nat.lt_of_le_of_lt (Nat.le_add_right _ 3) c)) v⟩
def asG(C:CD)(n0:Nat)(j:Nat)(vs:Nat->Value)(W:World):Prop:=
 (j=8->∃k,vs 8=dL (some ⟨k,0,none⟩)/\n0<k/\Six W k)/\(j=9->∃k,vs 8=dL (some ⟨k,0,none⟩)/\n0<k/\W.heap[k]?=some (eI C.val 77))
def Z0{W:World}{k:Nat}{x0 x1:Value}(h:W.heap[k]?=some (eI #[x0,x1] 30)):W.cell? ⟨k,0,none⟩=some x0/\W.cell? ⟨k,1,none⟩=some x1:=by
 constructor<;>simp[a5,h]
structure KNa(C:CD)(s1 s2 k1 k2:Int)(Y:aaf)(f:Nat->iJ)(p B:Nat)(w:World)(a b c d:Int)(W:World):Prop where
 kb:KNb C s1 s2 k1 k2 w W
 two:W.heap[B]?=some (eI (C.xu Y f).val 27)
 hi:w.heap.size+3<Y.K4
 own:j9 w.heap.size C.n4 (C.xu Y λj=>if j=p then abf (f j) a b c d else f j) W
def KNa.on{C:CD}{g i k1 k2:Int}{Y:aaf}{f:Nat->iJ}{p B:Nat}{w:World}{a b c d:Int}{W j:World}(h:KNa C g i k1 k2 Y f p B w a b c d W)(e:Below W.heap.size W j):KNa C g i k1 k2 Y f p B w a b c d j:=
 ⟨h.kb.on e,(e.block _ (br h.two)).trans h.two,h.hi,h.own.on e⟩
def KNa.cell{C:CD}{g i k1 k2:Int}{Y:aaf}{f:Nat->iJ}{p B:Nat}{w:World}{a b c d:Int}{W:World}(h:KNa C g i k1 k2 Y f p B w a b c d W)(k:p<C.n4):W.cell? ⟨Y.K4,p*12+7,none⟩=some (dy eQ a)/\W.cell? ⟨Y.K4,p*12+8,none⟩=some (dy eQ b)/\W.cell? ⟨Y.K4,p*12+9,none⟩=some (dy eQ c)/\W.cell? ⟨Y.K4,p*12+10,none⟩=some (dy eQ d):=by
 have key:∀q,7<=q->q<=10->W.cell? ⟨Y.K4,p*12+q,none⟩=some (dy eQ ((abf (f p) a b c d).n q)):=λq l m=>by
  have:=h.own.mem.r4 p k q (by omega);have e:(⟨(C.xu Y λj=>if j=p then abf (f j) a b c d else f j).k4,(C.xu Y λj=>if j=p then abf (f j) a b c d else f j).o4+p*12+q,none⟩:Addr)=⟨Y.K4,p*12+q,none⟩:=by grind
  rw[e]at this;rw[this];show(aax (if p=p then _ else _))[q]?=_;rw[if_pos rfl,Q3 _ (by omega) (by omega)]
 exact⟨key 7 (by omega) (by omega),key 8 (by omega) (by omega),key 9 (by omega) (by omega),key 10 (by omega) (by omega)⟩
theorem KNa.set{C:CD}{g i k1 k2:Int}{Y:aaf}{f:Nat->iJ}{p B:Nat}{w:World}{a b c d:Int}{W:World}(h:KNa C g i k1 k2 Y f p B w a b c d W)(l:p<C.n4){r:Nat}(o:7<=r/\r<=10)(x:Int) :
 KNa C g i k1 k2 Y f p B w (if r=7 then x else a) (if r=8 then x else b) (if r=9 then x else c) (if r=10 then x else d) (W.setCell ⟨Y.K4,p*12+r,none⟩ (dy eQ x)):=by
 have m:Typ W Y.K4 85:=h.own.t4.2.2.imp λ_ k=>k.1;have hs:=h.own.arG (D:=C.xu Y λj=>if j=p then abf (f j) a b c d else f j) l (r:=r) (by omega) x;refine⟨h.kb.set h.hi _,(aZ (m.ne ⟨_,h.two⟩ (by decide))).trans h.two,h.hi,?_⟩;have e:(λj=>if j=p then abf (f j) (if r=7 then x else a) (if r=8 then x else b) (if r=9 then x else c) (if r=10 then x else d) else f j)=λj=>if j=p then { (if j=p then abf (f j) a b c d else f j) with n:=λq=>if q=r then x else(if j=p then abf (f j) a b c d else f j).n q } else(if j=p then abf (f j) a b c d else f j):=by
  funext j;by_cases e:j=p
  ·subst e;simp only[if_pos,abf]
   grind
  ·simp only[if_neg e]
 rw[e];exact hs
def KNa.start{C:CD}{a b k1 k2:Int}{Y:aaf}{f:Nat->iJ}{p B:Nat}{w W:World}(kb:KNb C a b k1 k2 w W)(two:W.heap[B]?=some (eI (C.xu Y f).val 27))(hi:w.heap.size+3<Y.K4)(own:j9 w.heap.size C.n4 (C.xu Y f) W):KNa C a b k1 k2 Y f p B w ((f p).n 7) ((f p).n 8) ((f p).n 9) ((f p).n 10) W:=by
 refine⟨kb,two,hi,?_⟩;have e:(λj=>if j=p then abf (f j) ((f p).n 7) ((f p).n 8) ((f p).n 9) ((f p).n 10) else f j)=f:=by
  funext j;by_cases e:j=p
  ·subst e;rw[if_pos rfl];unfold abf;congr 1
   grind
  ·rw[if_neg e]
 rw[e];exact own
def am1(a0 m1 b0 m2:Int)(a b:World->Prop)(j:Nat)(vs:Nat->Value)(W:World):Prop:=
 (j=8->vs 8=dy eQ a0\/vs 8=dy eQ m1)/\(j=17->vs 17=dy eQ b0\/vs 17=dy eQ m2)/\(j=24->a W)/\(j=27->b W)
structure Rnd(K Q B:Nat)(y1 y2:Int)(ST:Int->Int->World->Prop):Prop where
 on:∀a b W W',ST a b W->Below W.heap.size W W'->ST a b W'
 ca:∀a b W,ST a b W->W.cell? ⟨K,Q,none⟩=some (dy eQ a)
 cb:∀a b W,ST a b W->W.cell? ⟨K,Q+1,none⟩=some (dy eQ b)
 fz:∀a b W,ST a b W->∀o,W.frozen? ⟨K,o,none⟩=false
 bx:∀a b W,ST a b W->W.heap[B]?=some (eI #[dL (some ⟨K,Q,none⟩),dy eQ y1,dy eQ y2] 87)
 sa:∀a b W x,ST a b W->ST x b (W.setCell ⟨K,Q,none⟩ (dy eQ x))
 sb:∀a b W x,ST a b W->ST a x (W.setCell ⟨K,Q+1,none⟩ (dy eQ x))
def abl{W:World}{k:Nat}{x0 x1 x2:Value}(h:W.heap[k]?=some (eI #[x0,x1,x2] 87)):W.cell? ⟨k,0,none⟩=some x0/\W.cell? ⟨k,1,none⟩=some x1/\W.cell? ⟨k,2,none⟩=some x2:=by
 refine⟨?_,?_,?_⟩<;>simp[a5,h]
end Go.Proofs
