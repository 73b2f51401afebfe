/- Part of the proof of FieldFlat and FieldMarshals. -/
import Derived.Test.YtmkjeaacgibnoaaGreatY16
import Derived.Test.YtmkjeaacgibnoaaGreatY19
set_option linter.all false
open Go renaming Goroutine->aa,setRow_other->ab,setRow_heap->ac,Program->ad,GoStatus->ae
open Go.Ph renaming fin->ag,nobody->ai
open Go.World renaming alloc_heap_new->ao,putObj_heap_other->ap,cell?->aq,size_alloc->ar
open Array renaming getElem?_push_lt->aw,getElem?_eq_getElem->aF,getElem?_push_size->aH,getElem?_eq_none->aI
open Go.ConcM renaming MuAt->aL
open Ne renaming symm->aP
open Go.ConcR renaming WgAt->aT
open Nat renaming le_refl->a5,le_trans->a6
open Option.some renaming inj->a7
open Go.Instr renaming box->a8
namespace Go.Proofs
open Go.Ph Go.Conc Go.ConcN Go.bJ
open Go.cD (Th bP)
set_option maxRecDepth 100000
section
variable {X:Fix}{V:Vw}{D:jB}{np s n:Nat}{dl:Int}{gn:ByteArray}{bc bg bt:Nat}{w0 w w':World}{M:Own}{ρ:Ren}{Fin:World->Prop}{g gy gL:aa}{wL:World}{b0 b1 lb b5 r m:Nat}{st:LoopState}
def P3(k:zl X V D np s n dl gn bc bg bt w0)(I:r<np)(h:Iv X V np D n bc bg bt b0 b1 w0 ρ M lb .ready gL wL gy w)(J:Rows X V np s n D dl r w)(hg:gy=G gy.frame [xN X np D n bc bg bt b0 b1 lb,ez PP])(i:Nat)
 (K:∀A w2 i,Iv X V np D n bc bg bt b0 b1 w0 ρ A lb .ready gL wL gy w2->Rows X V np s n D dl (r+1) w2->ay X V false (eU X V Fin i (bP m)) A 0 (ag gy (.bool true)) w2) :
 ay X V false (eU X V Fin i { pc:=.l0,r:=m }) M 0 (rd0 X.Wg bc bg X.Mu bt (sJ np D) n (vO b0 b1) (.agg (cG np s D r (bS np s D dl r))) lb (gy.frame::[xN X np D n bc bg bt b0 b1 lb,ez PP]) (λ_=>undef)) w:=by
 refine(q_0 ..).run k.hP k.hg ?_;obtain⟨o,j,p⟩:=jC (aj0 X.Wg bc bg X.Mu bt (sJ np D) n (vO b0 b1) (.agg (cG np s D r (bS np s D dl r))) lb (gy.frame::[xN X np D n bc bg bt b0 b1 lb,ez PP]) (λ_=>undef));obtain⟨L,hi,N⟩:=aeg;refine .new h.lk.clear (aK j).1 h.kn.live (o':=λ_=>.cells lD 61) (G':=λb=>ag (q0 X.Wg bc bg X.Mu bt (sJ np D) n (vO b0 b1) (.agg (cG np s D r (bS np s D dl r))) lb (gy.frame::[xN X np D n bc bg bt b0 b1 lb,ez PP]) (λ_=>undef)) (pt b)) (λc q=>?_) (λb=>(aK j).2.2 _) λc q=>?_
 ·have:=jY (P:=X.P) (mn:=V.g==0) (w:=c) j p (by rw[k.hP];exact hi) N;exact this
 have v:=h.rl q;obtain⟨y,B⟩:=v.alloc k (.cells lD 61);have O:=J.row k (by omega) q.row;have C:(c.alloc (.cells lD 61)).heap[c.heap.size]?=some (.cells lD 61):=ao _ _;have Q:Rows X V np s n D dl r (c.alloc (.cells lD 61)):=by
  have E:X.Tb<c.heap.size:=by
   obtain⟨_,_,F,z,_⟩:=v.kn.live;exact bn z
  refine O.tb ?_;show(c.heap.push _)[X.Tb]?=_;rw[aw E,<-aF E]
 refine(q_1 ..).run k.hP k.hg ?_;obtain⟨p,R,hy⟩:=aj1 X.Wg bc bg X.Mu bt (sJ np D) n (vO b0 b1) (.agg (cG np s D r (bS np s D dl r))) lb c.heap.size (gy.frame::[xN X np D n bc bg bt b0 b1 lb,ez PP]) (λ_=>undef);obtain⟨o,j,p⟩:=jC p;refine .DS (b:=c.heap.size) (cur:=lD) (ty:=61) y.lk.clear y.kn.live (.inr rfl) j p R hy C (by rw[k.hP,Un];rfl) (by show 0+5<=5;omega) (D9 _) λw2 q2=>?_;rw[show(Value.agg (cG np s D r (bS np s D dl r))).cells=cG np s D r (bS np s D dl r) from rfl,rH (show lD.size=(cG np s D r (bS np s D dl r)).size from rfl)];have t:=y.rl q2;have S:w2.heap[c.heap.size]?=some (.cells lD 61):=(q2.own _ (.inr rfl)).trans C;have u:jm X c.heap.size:=t.lk.clear.own _ (.inr rfl);have f:∀b,b≠c.heap.size->(w2.setRow c.heap.size (cG np s D r (bS np s D dl r))).heap[b]?=w2.heap[b]?:=λb hb=>ab _ _ _ _ hb;have T:Live X (w2.setRow c.heap.size (cG np s D r (bS np s D dl r))):=by
  obtain⟨⟨_,_,v1⟩,⟨_,_,H⟩,F,z,U⟩:=t.kn.live;exact⟨⟨_,_,by unfold aL at v1 ⊢;rw[f _ (aP u.1)];exact v1⟩,⟨_,_,by unfold aT at H ⊢;rw[f _ (aP u.2.1)];exact H⟩,F,by rw[f _ (aP u.2.2)];exact z,U⟩
 have W:lb-1<c.heap.size:=bn v.gd.hd;have d:Hd X V np s D n dl bc bg bt b0 b1 w0 ρ (λb=>M b\/b=c.heap.size) lb c.heap.size r r .ready gL wL gy (w2.setRow c.heap.size (cG np s D r (bS np s D dl r))):=by
  refine⟨t.same T (by simp) (λa b x=>f b λe=>B a (e▸x)) (λb hb=>f b λe=>(t.lk.sG b hb).2 (.inr e)) (f _ (by omega)),.inr rfl,B,ac _ _ _ _ _ _ S,(Q.row k (by omega) q2.row).tb (f X.Tb (aP u.2.2))⟩
 refine(q_2 ..).run k.hP k.hg ?_;rw[aj2];refine .rec (b:=lb) (o':=.loop (Ti X np D n bc bg bt b0 b1 lb .busy)) d.iv.lk.clear rfl d.iv.kn.live d.iv.gd.ml (bn d.iv.gd.hl) (g':=G ⟨137,qJ X.Wg bc bg X.Mu bt (sJ np D) n (vO b0 b1) (.agg (cG np s D r (bS np s D dl r))) (pt c.heap.size) (λ_=>undef),[.code lZ],[],.run,.normal,some lb⟩ (gy.frame::[xN X np D n bc bg bt b0 b1 lb,ez PP])) (λw3 q3=>G5 (d.iv.gd.rl q3).hl rfl rfl) rfl λw3 q3=>?_;have Y:=(d.rl k (by omega) q3).PY (st':=.busy);refine(q_3 ..).run k.hP k.hg ?_;rw[aj3];have l:=MH (Fin:=Fin) (k:=i) (Hd.lk (r:=r) k (show r<=np by omega) d.iv.lk.clear) m (Hh (m:=m) k I d.iv.lk.clear hg (λw2 i h=>K _ w2 i h.iv h.rows) (λ_=>undef)) Y;rw[k.hP]at l;exact l
def P4(k:zl X V D np s n dl gn bc bg bt w0)(t:∀w,Rows X V np s n D dl np w->Fin w)(h:Iv X V np D n bc bg bt b0 b1 w0 ρ M lb .ready gL wL g w)(u:Rows X V np s n D dl np w)(f:Y9 144 gL)(v:Nat) :
 ay X V false (eU X V Fin v (bP 1)) M 0 g w:=by
 refine ay.mono (Stop:=O0 X V Fin) ?_ λM d g w h=>by
  show(if(bP 1).pc=.out then O0 X V Fin M d g w else _);rw[if_pos (show(bP 1).pc=.out from rfl)];exact h
 obtain⟨x,rfl,e1,y,z,A,_⟩:=h.lk.back f.mode f.defers f.callers;obtain⟨fn,B,C⟩:=Zh;refine .leave0 h.lk.clear y z A (by rw[k.hP,e1,f.fn];exact B) C ?_;have E:=h.kn.live;have c:=h.gd.ml;have e:=h.gd.md;have O:=h.gd.pos;have hc:=h.lk.clear;refine .rec (b:=lb) (o':=.loop (Ti X np D n bc bg bt b0 b1 lb .exhausted)) hc rfl E c (bn h.gd.hl) (g':=G ⟨137,qJ X.Wg bc bg X.Mu bt (sJ np D) n (vO b0 b1) undef undef (λ_=>undef),kk,Pz X.Wg (lb-1),.run,.deferred,none⟩ [ez PP]) (λo q=>BT (h.gd.rl q).hl rfl rfl) rfl λo q=>?_;have H:=hc.own lb c;have i:=(h.rl q).PY (st':=.exhausted);have I:Rows X V np s n D dl np (o.putObj lb (.loop (Ti X np D n bc bg bt b0 b1 lb .exhausted))):=(u.row k (a5 _) q.row).tb (ap (aP H.2.2));refine(e_1 ..).run k.hP k.hg ?_;rw[ajb];refine .rec (b:=lb-1) (o':=.deferred none) hc rfl i.kn.live e (bn i.gd.hd) (g':=G ⟨137,qJ X.Wg bc bg X.Mu bt (sJ np D) n (vO b0 b1) undef undef (λ_=>undef),[],rG X.Wg,.returning,.deferred,none⟩ [ez PP]) (λP q2=>step_take (i.gd.rl q2).hd) rfl λw2 q2=>?_;obtain⟨x1,x2⟩:=e_2 X.Wg bc bg X.Mu bt (sJ np D) n (vO b0 b1);refine .quiet (mn:=false) k.hg 1 (by rw[k.hP];exact x1) ?_;rw[k.hP,x2,ajc];have j:=hc.own _ e;have l:∀b,b≠lb-1->(w2.putObj (lb-1) (.deferred none)).heap[b]?=w2.heap[b]?:=λb hb=>ap hb;have J:=i.rl q2;refine MF (F:=λw=>Live X w/\Rows X V np s n D dl np w) ⟨k.hP,k.hg,hc,λw w' a q=>⟨q.live a.1,a.2.row k (a5 _) q.row⟩,λw a=>a.1,k.n3⟩ (λw a=>t w a.2) _ [] ⟨?_,(I.row k (a5 _) q2.row).tb (l X.Tb (aP j.2.2))⟩
 obtain⟨⟨_,_,v1⟩,⟨_,_,p⟩,K,L,N⟩:=J.kn.live;exact⟨⟨_,_,by unfold aL at v1 ⊢;rw[l _ (aP j.1)];exact v1⟩,⟨_,_,by unfold aT at p ⊢;rw[l _ (aP j.2.1)];exact p⟩,K,by rw[l _ (aP j.2.2)];exact L,N⟩
def MN(k:zl X V D np s n dl gn bc bg bt w0)(c:FE np s)(F:∀w,Rows X V np s n D dl np w->Fin w):∀(m r:Nat),r+(m+1)=np->∀{ρ M f Z g w},Iv X V np D n bc bg bt b0 b1 w0 ρ M lb .ready (gR np s (aW np D) r f) (wR np s (aW np D) (hU np D w0) n dl gn r (bS np s D dl r) Z) g w->Rows X V np s n D dl r w->
 ∀a,ay X V false (eU X V Fin a { pc:=.l0,r:=m+1 }) M 0 g w:=by
 intro m
 induction m with
 |zero=>
  intro r H ρ M f Z g w h l a;have b:r<np:=by omega
  refine JE k c b h λI J d i K w2 o p=>?_;refine yields k c b o λw3 t u hg=>?_;refine P3 k b t ((l.row k (by omega) p).row k (by omega) u) hg a λL w4 a x y=>?_;have z:=c.round r b;have A:=x.fin (v:=.bool true) (v':=.bool true) (.bool true);refine A.seg k (q:=Nx (gY np s (aW np D) r (bS np s D dl r) d) (wY np s (aW np D) (hU np D w0) n dl gn r (l9 np s (aW np D) r (bS np s D dl r)) i)) (by delta Nx;rfl) (z.e5 _ _ _ _ _ _ _ _ _) λB N O w6 j C=>?_;have P:=(c.last r (by omega)).back (aW np D) (hU np D w0) n dl gn (bS np s D dl r) (l9 np s (aW np D) r (bS np s D dl r)) d i;have E:=y.row k (by omega) C;rw[show r+1=np by omega]at E;exact P4 k F j E P a
 |succ m Q=>
  intro r H ρ M f Z g w h l a;have b:r<np:=by omega
  refine JE k c b h λI J d i K w2 o p=>?_;refine yields k c b o λw3 t u hg=>?_;refine P3 k b t ((l.row k (by omega) p).row k (by omega) u) hg a λL w4 a x y=>?_;have z:=c.round r b;have A:=x.fin (v:=.bool true) (v':=.bool true) (.bool true);refine A.seg k (q:=Nx (gY np s (aW np D) r (bS np s D dl r) d) (wY np s (aW np D) (hU np D w0) n dl gn r (l9 np s (aW np D) r (bS np s D dl r)) i)) (by delta Nx;rfl) (z.e5 _ _ _ _ _ _ _ _ _) λB N O w6 j C=>?_;obtain⟨S,T,R⟩:=(c.next r (by omega)).next (aW np D) (hU np D w0) n dl gn (bS np s D dl r) d i;rw[R]at j;have e:bP (m+1+1)={ pc:=.l0,r:=m+1 }:=by
   unfold bP;rw[if_neg (by omega)];rfl
  rw[e];exact Q (r+1) (by omega) j (y.row k (by omega) C) a
end
def aei:(PP.info? 121).map (·.size)=some 6:=by kernel_rfl
def aej:PP.underlying 121=some (.struct (fieldsOf 121)):=by kernel_rfl
def ajA(W bc bg a bt:Nat)(c:Value)(n:Int):wu PP false DT 400 (ag (k1 W bc bg a bt c) (.int .i64 n))=k2 W bc bg a bt c n:=by delta k2;rfl
section
variable {X:Fix}{V:Vw}{D:jB}{np s n:Nat}{dl:Int}{gn:ByteArray}{bc bg bt:Nat}{w0 w:World}{Fin:World->Prop}
def Hl(k:zl X V D np s n dl gn bc bg bt w0)(c:FE np s)(MC:1<=np)(C:∀w,Rows X V np s n D dl np w->Fin w)(a:Kn X V w0 w)(e:∀j,V.row j->(j<n*25\/n*25+np*5<=j)->w.cell? ⟨X.Tb,j,none⟩=some (.int .i64 0))(A:Nat) :
 ay X V false (eU X V Fin A { pc:=.l0,r:=np }) ai 0 (uy X.Wg bc bg X.Mu bt) w:=by
 have hc:Clear X V ai:=k.clear λb hb=>hb.elim;refine(k_E X.Wg bc bg X.Mu bt).run k.hP k.hg ?_;obtain⟨o,x,g,i,l⟩:=kO (aiW X.Wg bc bg X.Mu bt);have hcell:∀w,Kn X V w0 w->∀j,j<6->w.cell? ((⟨bc,0,none⟩:Addr).add j)=some ((cA np D).getD j undef):=λw a j hj=>by
  rw[dY,Nat.zero_add,a.cell k.bc.1,cell_of_row _ _ _ _ _ _ k.bc.2];obtain rfl|rfl|rfl|rfl|rfl|rfl:j=0\/j=1\/j=2\/j=3\/j=4\/j=5:=by omega
  all_goals rfl
 have E:((List.range 6).map λj=>(cA np D).getD j undef).toArray=cA np D:=rfl;refine .qM (v:=sJ np D) hc a.live g i l (λB q=>?_) (JB k k.bc.1) ?_
 ·have h:=hcell B (a.rl q);have:=sH (P:=X.P) (t:=121) (by rw[k.hP];exact aej) rfl (by rw[k.hP];exact aei) h;rw[E]at this;exact⟨this,pY (by have:=h 0 (by omega);rwa[dY]at this)⟩
 refine(k_0 X.Wg bc bg X.Mu bt (sJ np D)).run k.hP k.hg ?_;obtain⟨o,x,g,i,l⟩:=kO (aiX X.Wg bc bg X.Mu bt (sJ np D));refine .qM (v:=.int .i64 (n:Int)) hc a.live g i l (λB q=>?_) (JB k k.bg.1) ?_
 ·have h:=((a.rl q).cell k.bg.1).trans k.bg.2;exact⟨l8 (by rw[k.hP];exact ty3) rfl h,pY h⟩
 obtain⟨x1,x2⟩:=k_1 X.Wg bc bg X.Mu bt (sJ np D) n;refine .oO (S:=DT) k.hg 400 (by rw[k.hP];exact x1) ?_;rw[k.hP,x2,ajA,aiY];refine Zi k c a λaJ M1 b0 F w1 H zz I J p K L=>?_;refine Zj k zz H c I J K p λM N O w2 u Q R T y=>?_;have z:Iv X V np D n bc bg bt b0 F w0 M N O .ready (gL1 np) (A0 np (aW np D) (hU np D w0) n).2 _ w2:=⟨u,Q,R,T⟩
 refine Zk k c z λU M3 f Z g3 w3 W Y=>?_;have sQ:Rows X V np s n D dl 0 w3:=⟨λr' gl=>absurd gl (Nat.not_lt_zero _),λj d u=>(Y j d).trans ((y j d).trans ((L.row j d).trans (e j d u)))⟩
 obtain⟨m,rfl⟩:∃m,np=m+1:=⟨np-1,by omega⟩
 exact MN k c C m 0 (by omega) W sQ A
end
end Go.Proofs
namespace Go.Proofs
open Go.Ph Go.Conc
set_option maxRecDepth 100000
def eL(g:aa):Bool:=match g.frame.mode with
 |.run=>match g.frame.todo with
  |[.code _]=>g.frame.fn==136||g.frame.fn==141
  |.inRegion _ (_::_)::_=>match bF g with
   |some o=>match o.op with
    |.load .. | .store .. | .alloc .. | .box .. | .go ..=>true
    |_=>false
   |none=>false
  |_=>false
 |.returning=>true
 |_=>false
noncomputable abbrev T6(g:aa):aa:=wu PP true eL 400 g
structure jq(g g':aa):Prop where
 q:ff PP true eL 400 g
 d:∀d,xD PP true eL 400 d g=d
 e:T6 g=g'
def dm{g g':aa}(e:T6 g=g')(a:ff PP true eL 400 g:=by exact⟨λ_=>by kernel_rfl,by kernel_rfl⟩)(hd:∀d,xD PP true eL 400 d g=d:=by intro _;kernel_rfl):jq g g':=⟨a,hd,e⟩
def jq.run{X:Fix}{V:Vw}{q:Bool}{Stop:Stp}{M:Own}{d:Nat}{g g':aa}{w:World}(h:jq g g')(a:X.P=PP)(hg:(V.g==0)=true)(b:ay X V q Stop M d g' w):ay X V q Stop M d g w:=by
 refine .oO (S:=eL) hg 400 (by rw[a];exact h.q) ?_;have e:wu PP true eL 400 g=g':=h.e;rw[a,h.d,e];exact b
noncomputable def dZ:Array Value:=Array.replicate 75 (.int .i64 0)
structure CA where
 arr:Array Value
 f:Nat->Value
 rest:List Value
noncomputable def Ho:Code:=(Tryz.f98.body).getD .skip
noncomputable def fE(ca:CA):Frame:=⟨98,⟨.agg ca.arr::ca.f 1::ca.f 2::ca.f 3::ca.f 4::ca.f 5::ca.f 6::ca.f 7::ca.f 8::ca.f 9::ca.f 10::ca.f 11::ca.f 12::ca.f 13::ca.f 14::ca.f 15::ca.f 16::ca.f 17::ca.f 18::ca.f 19::ca.f 20::ca.rest⟩,[.code Ho],[],.run,.normal,none⟩
section
variable (ca:CA)(bc Tb bt Mu Wg:Nat)(sa:Option Addr)(cg:Nat)(cs:List Frame)
noncomputable def m0:aa:=T6 (G (fE ca) cs)
def m_0:jq (G (fE ca) cs) (m0 ca cs):=dm (by delta m0;rfl)
def ajX:(bF (m0 ca cs)).map (·.op)=some (.box 121 (.tmp 0))/\(m0 ca cs).frame.eval (.tmp 0)=.agg ca.arr:=⟨by kernel_rfl,by kernel_rfl⟩
noncomputable def m1:aa:=T6 (fin (m0 ca cs) (pt bc))
def m_1:jq (fin (m0 ca cs) (pt bc)) (m1 ca bc cs):=dm (by delta m1;rfl)
def ajY:(bF (m1 ca bc cs)).map (·.op)=some (.box 183 (.tmp 7))/\(m1 ca bc cs).frame.eval (.tmp 7)=.agg dZ:=⟨by kernel_rfl,by kernel_rfl⟩
noncomputable def m2:aa:=T6 (fin (m1 ca bc cs) (pt Tb))
def m_2:jq (fin (m1 ca bc cs) (pt Tb)) (m2 ca bc Tb cs):=dm (by delta m2;rfl)
def ajZ:(bF (m2 ca bc Tb cs)).map (·.op)=some (.alloc 134):=by kernel_rfl
noncomputable def m3:aa:=T6 (fin (m2 ca bc Tb cs) (pt bt))
def m_3:jq (fin (m2 ca bc Tb cs) (pt bt)) (m3 ca bc Tb bt cs):=dm (by delta m3;rfl)
def ak0:(bF (m3 ca bc Tb bt cs)).map (·.op)=some (.store 134 (.tmp 3) (.tmp 8))/\(m3 ca bc Tb bt cs).frame.eval (.tmp 3)=pt bt/\(m3 ca bc Tb bt cs).frame.eval (.tmp 8)=pt Tb:=⟨by kernel_rfl,by kernel_rfl,by kernel_rfl⟩
noncomputable def m4:aa:=T6 (fin (m3 ca bc Tb bt cs) undef)
def m_4:jq (fin (m3 ca bc Tb bt cs) undef) (m4 ca bc Tb bt cs):=dm (by delta m4;rfl)
def ak1:(bF (m4 ca bc Tb bt cs)).map (·.op)=some (.alloc 190):=by kernel_rfl
noncomputable def m5:aa:=T6 (fin (m4 ca bc Tb bt cs) (pt Mu))
def m_5:jq (fin (m4 ca bc Tb bt cs) (pt Mu)) (m5 ca bc Tb bt Mu cs):=dm (by delta m5;rfl)
def ak2:(bF (m5 ca bc Tb bt Mu cs)).map (·.op)=some (.alloc 197):=by kernel_rfl
noncomputable def m6:aa:=T6 (fin (m5 ca bc Tb bt Mu cs) (pt Wg))
def m_6:jq (fin (m5 ca bc Tb bt Mu cs) (pt Wg)) (m6 ca bc Tb bt Mu Wg cs):=dm (by delta m6;rfl)
def aes:(bF (m6 ca bc Tb bt Mu Wg cs)).map (·.op)=some (.load 25 (.tmp 10))/\(m6 ca bc Tb bt Mu Wg cs).frame.eval (.tmp 10)=.pointer (some ⟨bc,5,none⟩)/\(m6 ca bc Tb bt Mu Wg cs).status=.running:=⟨by kernel_rfl,by kernel_rfl,by kernel_rfl⟩
end
noncomputable def tdA:List Item:=(T6 (fin (m6 ⟨#[],λ_=>undef,[]⟩ 0 0 0 0 0 []) (.slice none 2 0))).frame.todo
section
variable (ca:CA)(bc Tb bt Mu Wg bg:Nat)(sa:Option Addr)(cg:Nat)(cs:List Frame)(f:Nat->Value)
noncomputable def UI:aa:=G ⟨98,⟨.agg ca.arr :: .pointer (some ⟨bc,0,none⟩) :: .pointer none :: .pointer (some ⟨bt,0,none⟩) :: .pointer (some ⟨Mu,0,none⟩) :: .pointer (some ⟨Wg,0,none⟩)::f 6::f 7::f 8::f 9::f 10::f 11 :: .int .i64 2 :: .int .i64 0::f 14 :: .int .i64 0::f 16::f 17::f 18::f 19::f 20::ca.rest⟩,tdA,[],.run,.normal,none⟩ cs
noncomputable def UJ:aa:=G ⟨98,⟨.agg ca.arr :: .pointer (some ⟨bc,0,none⟩) :: .pointer none :: .pointer (some ⟨bt,0,none⟩) :: .pointer (some ⟨Mu,0,none⟩) :: .pointer (some ⟨Wg,0,none⟩)::f 6::f 7::f 8::f 9::f 10::f 11 :: .int .i64 2 :: .int .i64 1::f 14 :: .int .i64 1::f 16::f 17::f 18::f 19::f 20::ca.rest⟩,tdA,[],.run,.normal,none⟩ cs
def ak3:∃f',jq (fin (m6 ca bc Tb bt Mu Wg cs) (.slice sa 2 cg)) (UI ca bc bt Mu Wg cs f'):=
 ⟨λi=>(T6 (fin (m6 ca bc Tb bt Mu Wg cs) (.slice sa 2 cg))).frame.tmps[i]!,dm (by kernel_rfl)⟩
def ak4:(bF (UI ca bc bt Mu Wg cs f)).map (·.op)=some (.alloc 3):=by kernel_rfl
noncomputable def Hp:aa:=T6 (fin (UI ca bc bt Mu Wg cs f) (pt bg))
def ak5:jq (fin (UI ca bc bt Mu Wg cs f) (pt bg)) (Hp ca bc bt Mu Wg bg cs f):=dm (by delta Hp;rfl)
def ak6:(bF (Hp ca bc bt Mu Wg bg cs f)).map (·.op)=some (.store 3 (.tmp 6) (.tmp 15))/\(Hp ca bc bt Mu Wg bg cs f).frame.eval (.tmp 6)=pt bg/\(Hp ca bc bt Mu Wg bg cs f).frame.eval (.tmp 15)=.int .i64 (0:Nat):=⟨by kernel_rfl,by kernel_rfl,by kernel_rfl⟩
noncomputable def UK:aa:=T6 (fin (Hp ca bc bt Mu Wg bg cs f) undef)
def ak7:jq (fin (Hp ca bc bt Mu Wg bg cs f) undef) (UK ca bc bt Mu Wg bg cs f):=dm (by delta UK;rfl)
noncomputable def ZD:Frame:=(UK ca bc bt Mu Wg bg cs f).callers.headD default
def ak8:UK ca bc bt Mu Wg bg cs f=aE Wg (ZD ca bc bt Mu Wg bg cs f) cs:=by kernel_rfl
noncomputable def Ec:aa:=T6 (G ((ZD ca bc bt Mu Wg bg cs f).finish (.tuple #[])) cs)
def ak9:jq (G ((ZD ca bc bt Mu Wg bg cs f).finish (.tuple #[])) cs) (Ec ca bc bt Mu Wg bg cs f):=dm (by delta Ec;rfl)
def aet:∀w,stepG PP true (Ec ca bc bt Mu Wg bg cs f) w=.spawn (fin (Ec ca bc bt Mu Wg bg cs f) undef) (uy Wg bc bg Mu bt) w #[]:=λw=>by kernel_rfl
def aka:(Ec ca bc bt Mu Wg bg cs f).status=.running/\(fin (Ec ca bc bt Mu Wg bg cs f) undef).status=.running:=⟨by kernel_rfl,by kernel_rfl⟩
def akb:∃f',jq (fin (Ec ca bc bt Mu Wg bg cs f) undef) (UJ ca bc bt Mu Wg cs f'):=
 ⟨λi=>(T6 (fin (Ec ca bc bt Mu Wg bg cs f) undef)).frame.tmps[i]!,dm (by kernel_rfl)⟩
def akc:(bF (UJ ca bc bt Mu Wg cs f)).map (·.op)=some (.alloc 3):=by kernel_rfl
noncomputable def Hq:aa:=T6 (fin (UJ ca bc bt Mu Wg cs f) (pt bg))
def akd:jq (fin (UJ ca bc bt Mu Wg cs f) (pt bg)) (Hq ca bc bt Mu Wg bg cs f):=dm (by delta Hq;rfl)
def ake:(bF (Hq ca bc bt Mu Wg bg cs f)).map (·.op)=some (.store 3 (.tmp 6) (.tmp 15))/\(Hq ca bc bt Mu Wg bg cs f).frame.eval (.tmp 6)=pt bg/\(Hq ca bc bt Mu Wg bg cs f).frame.eval (.tmp 15)=.int .i64 (1:Nat):=⟨by kernel_rfl,by kernel_rfl,by kernel_rfl⟩
noncomputable def UL:aa:=T6 (fin (Hq ca bc bt Mu Wg bg cs f) undef)
def akf:jq (fin (Hq ca bc bt Mu Wg bg cs f) undef) (UL ca bc bt Mu Wg bg cs f):=dm (by delta UL;rfl)
noncomputable def ZE:Frame:=(UL ca bc bt Mu Wg bg cs f).callers.headD default
def akg:UL ca bc bt Mu Wg bg cs f=aE Wg (ZE ca bc bt Mu Wg bg cs f) cs:=by kernel_rfl
noncomputable def Ed:aa:=T6 (G ((ZE ca bc bt Mu Wg bg cs f).finish (.tuple #[])) cs)
def akh:jq (G ((ZE ca bc bt Mu Wg bg cs f).finish (.tuple #[])) cs) (Ed ca bc bt Mu Wg bg cs f):=dm (by delta Ed;rfl)
def aeu:∀w,stepG PP true (Ed ca bc bt Mu Wg bg cs f) w=.spawn (fin (Ed ca bc bt Mu Wg bg cs f) undef) (uy Wg bc bg Mu bt) w #[]:=λw=>by kernel_rfl
def aki:(Ed ca bc bt Mu Wg bg cs f).status=.running/\(fin (Ed ca bc bt Mu Wg bg cs f) undef).status=.running:=⟨by kernel_rfl,by kernel_rfl⟩
noncomputable def sW2:aa:=T6 (fin (Ed ca bc bt Mu Wg bg cs f) undef)
def vp:jq (fin (Ed ca bc bt Mu Wg bg cs f) undef) (sW2 ca bc bt Mu Wg bg cs f):=dm (by delta sW2;rfl)
noncomputable def cW2:Frame:=(sW2 ca bc bt Mu Wg bg cs f).callers.headD default
def eW2:sW2 ca bc bt Mu Wg bg cs f=wE Wg (cW2 ca bc bt Mu Wg bg cs f) cs:=by kernel_rfl
noncomputable def sL2:aa:=T6 (G ((cW2 ca bc bt Mu Wg bg cs f).finish (.tuple #[])) cs)
def hL2:jq (G ((cW2 ca bc bt Mu Wg bg cs f).finish (.tuple #[])) cs) (sL2 ca bc bt Mu Wg bg cs f):=dm (by delta sL2;rfl)
def oL2:(bF (sL2 ca bc bt Mu Wg bg cs f)).map (·.op)=some (.load 134 (.tmp 3))/\(sL2 ca bc bt Mu Wg bg cs f).frame.eval (.tmp 3)=pt bt:=⟨by kernel_rfl,by kernel_rfl⟩
noncomputable def UM:aa:=T6 (fin (sL2 ca bc bt Mu Wg bg cs f) (pt Tb))
def hR2:jq (fin (sL2 ca bc bt Mu Wg bg cs f) (pt Tb)) (UM ca bc Tb bt Mu Wg bg cs f):=dm (by delta UM;rfl)
def eR2:UM ca bc Tb bt Mu Wg bg cs f=G (UM ca bc Tb bt Mu Wg bg cs f).frame cs/\(UM ca bc Tb bt Mu Wg bg cs f).frame.mode=.returning/\(UM ca bc Tb bt Mu Wg bg cs f).frame.kind=.normal/\(UM ca bc Tb bt Mu Wg bg cs f).frame.defers=[]/\(UM ca bc Tb bt Mu Wg bg cs f).frame.fn=98/\(UM ca bc Tb bt Mu Wg bg cs f).frame.tmps.getD 2 undef=pt Tb:=
 ⟨by kernel_rfl,by kernel_rfl,by kernel_rfl,by kernel_rfl,by kernel_rfl,by kernel_rfl⟩
end
open Go.ConcN Go.bJ
open Go.cD (Th bP)
def akl:∃i,PP.info? 3=some i/\i.zero=some (.int .i64 0):=by
 have h:(PP.info? 3).map (·.zero)=some (some (.int .i64 0)):=by kernel_rfl
 cases hi:PP.info? 3 with
 |none=>rw[hi]at h;cases h
 |some i=>rw[hi]at h;exact⟨i,rfl,a7 h⟩
def sz3:(PP.info? 3).map (·.size)=some 1:=by kernel_rfl
structure Cf(np ng:Nat)(D:jB)(S:Nat->Nat)(dl:Nat->Int)(gn:Nat->ByteArray)(w0:World):Prop where
 blk:∀b,b∈dR np D->b<w0.heap.size/\∃c t fz,w0.heap[b]?=some (.cells c t fz)
 G8:∀i,i<np->∀j,j<12->w0.cell? ⟨D.pb,D.po+12*i+j,none⟩=(pA D i)[j]?
 PM:∀k,k<ng->∀j,j<3->w0.cell? ⟨D.gb,D.go+3*k+j,none⟩=(gA (S k) (dl k) (gn k))[j]?
 Zb:D.ng=ng
 hs:∀k,k<ng->S k<np
 MC:1<=np/\np<=5
 hn:ng<=3
section
variable {X:Fix}{V:Vw}{M:Own}{D:jB}{np ng:Nat}{S:Nat->Nat}{dl:Nat->Int}{gn:Nat->ByteArray}{bc bt:Nat}{w0 w w':World}
structure Mk(X:Fix)(np:Nat)(D:jB)(bc bt:Nat)(w0 w:World):Prop where
 live:Live X w
 blk:∀b,b∈dR np D->w.heap[b]?=w0.heap[b]?
 bc:w.heap[bc]?=some (.cells (cA np D) 121)
 bt:w.heap[bt]?=some (.cells #[.pointer (some ⟨X.Tb,0,none⟩)] 134)
structure Mv(X:Fix)(V:Vw)(M:Own)(np:Nat)(D:jB)(bc bt:Nat)(w:World):Prop where
 hg:V.g=0
 clear:Clear X V M
 shun:∀b,V.st b\/M b->∀a':Addr,a'.block=b->¬X.Shun (.cell a')
 low:∀b,V.st b\/M b->b<w.heap.size
 has:∀b,(b∈dR np D\/b=bc\/b=bt)->V.st b\/M b
def Mv.keep(h:Mv X V M np D bc bt w)(r:Rl X V M w w'){b:Nat}(hb:V.st b\/M b):w'.heap[b]?=w.heap[b]?:=hb.elim (r.st b) (r.own b)
def Mk.rl(h:Mk X np D bc bt w0 w)(v:Mv X V M np D bc bt w)(r:Rl X V M w w'):Mk X np D bc bt w0 w':=
 ⟨r.live h.live,λb hb=>(v.keep r (v.has b (.inl hb))).trans (h.blk b hb),(v.keep r (v.has bc (.inr (.inl rfl)))).trans h.bc,(v.keep r (v.has bt (.inr (.inr rfl)))).trans h.bt⟩
def Mv.rl(v:Mv X V M np D bc bt w)(r:Rl X V M w w'):Mv X V M np D bc bt w':={ v with low:=λb hb=>Nat.lt_of_lt_of_le (v.low b hb) r.size }
variable {c:Nat}{row:Nat->Nat->Prop}{Post:Own->aa->World->Prop}
def JH(X:Fix)(np:Nat)(D:jB)(S:Nat->Nat)(dl:Nat->Int)(row:Nat->Nat->Prop)(k:Nat)(w:World):Prop:=k<3->Rows X ⟨0,λ_=>False,row k⟩ np (S k) k D (dl k) np w
def aev(h:X.P=PP)(l:X.size=75)(p:X.n<=3)(r:0<c)(a:Cf np ng D S dl gn w0){k:Nat}(e:k<ng)(q:∀j,k*25<=j->j<k*25+25->row k j){d:Nat}(v:Mv X V M np D bc bt w)(m:Mk X np D bc bt w0 w)(f:V.st d\/M d)(hg:w.heap[d]?=some (.cells #[.int .i64 (k:Int)] 3)) :
 zl X (rj c row k V M) D np (S k) k (dl k) (gn k) bc d bt w:=by
 have cell:∀{b:Nat}{o:Nat},b∈dR np D->w.cell? ⟨b,o,none⟩=w0.cell? ⟨b,o,none⟩:=λhb=>by simp only[aq,m.blk _ hb]
 refine⟨h,by show(c+k==0)=false;simp;omega,v.clear.ids,λb hb=>hb.elim (v.clear.st b) (v.clear.own b),λb hb=>v.shun b hb,p,l,λb hb=>v.low b hb,⟨v.has bc (.inr (.inl rfl)),m.bc⟩,⟨f,by simp only[aq,hg];rfl⟩,⟨v.has bt (.inr (.inr rfl)),by simp only[aq,m.bt];rfl⟩,
  λb hb=>⟨v.has b (.inl hb),by rw[m.blk b hb];exact(a.blk b hb).2⟩,λi hi j g=>(cell (by simp[dR])).trans (a.G8 i hi j g),λj g=>(cell (by simp[dR])).trans (a.PM k e j g),by have:=a.hn;omega,by rw[a.Zb];exact e,a.hs k e,a.MC.2,q⟩
def Aw(f:X.P=PP)(fW:X.size=75)(W:X.n<=3)(Xe:0<c)(Y:Cf np ng D S dl gn w0)(hX:X.n=ng){k r:Nat}(hk:k+(r+1)=ng)(sg:FE np (S k))(BU:∀j,k*25<=j->j<k*25+25->row k j)
 {gA:aa} {x p:Nat->aa} {fA:Nat->Frame} {cs:List Frame} (oA:(bF gA).map (·.op)=some (.alloc 3)) (hB:∀d,jq (ag gA (pt d)) (x d)) (oB:∀d,(bF (x d)).map (·.op)=some (.store 3 (.tmp 6) (.tmp 15))/\(x d).frame.eval (.tmp 6)=pt d/\(x d).frame.eval (.tmp 15)=.int .i64 (k:Int))
 (hC:∀d,jq (ag (x d) undef) (aE X.Wg (fA d) cs)) (hD:∀d,jq (G ((fA d).finish (.tuple #[])) cs) (p d)) (E:∀d w,stepG PP true (p d) w=.spawn (ag (p d) undef) (uy X.Wg bc d X.Mu bt) w #[]) (Z:∀d,(p d).status=.running/\(ag (p d) undef).status=.running)
 (v:Mv X V M np D bc bt w) (m:Mk X np D bc bt w0 w) (qU:∀b,w0.heap.size<=b->∀a':Addr,a'.block=b->¬X.Shun (.cell a')) (FA:w0.heap.size<=w.heap.size)
 (K:∀d w1,Mv X (V.more λb=>M b\/b=d) ai np D bc bt w1->Mk X np D bc bt w0 w1->w0.heap.size<=w1.heap.size->ay X (V.more λb=>M b\/b=d) false (Ta X c np row (JH X np D S dl row) Post r (V.more λb=>M b\/b=d)) ai 0 (ag (p d) undef) w1) :
 ay X V false (Ta X c np row (JH X np D S dl row) Post (r+1) V) M 0 gA w:=by
 have y:(V.g==0)=true:=by rw[v.hg];rfl
 obtain⟨o,z,A⟩:=jC oA;obtain⟨i3,hi,hz⟩:=akl;refine .new v.clear (aK z).1 m.live (o':=λ_=>.cells #[.int .i64 0] 3) (G':=λb=>ag gA (pt b)) (λa q=>?_) (λb=>(aK z).2.2 _) λa q=>?_
 ·have:=jY (P:=X.P) (mn:=V.g==0) (w:=a) z A (by rw[f];exact hi) hz;exact this
 have m1:=m.rl v q;have v1:=v.rl q;obtain⟨⟨_,_,s⟩,⟨_,_,t⟩,H,C,I⟩:=m1.live;have lM:=bn s;have lW:=bn t;have lT:=bn C;have e:∀(o:Obj)(b:Nat),b<a.heap.size->(a.alloc o).heap[b]?=a.heap[b]?:=λo b hb=>by
  show(a.heap.push _)[b]?=_;rw[aw hb,<-aF hb]
 have B:(a.alloc (.cells #[.int .i64 0] 3)).heap[a.heap.size]?=some (.cells #[.int .i64 0] 3):=ao _ _;have J:Mv X V (λb=>M b\/b=a.heap.size) np D bc bt (a.alloc (.cells #[.int .i64 0] 3)):=by
  refine⟨v1.hg,⟨v1.clear.ids,v1.clear.st,λb hb=>?_⟩,λb hb=>?_,λb hb=>?_,λb hb=>(v1.has b hb).imp id .inl⟩
  ·rcases hb with hb|rfl
   ·exact v1.clear.own b hb
   ·exact⟨by omega,by omega,by omega⟩
  ·rcases hb with hb|hb|rfl
   ·exact v1.shun b (.inl hb)
   ·exact v1.shun b (.inr hb)
   ·exact qU _ (a6 FA q.size)
  ·simp only[ar]
   rcases hb with hb|hb|rfl
   ·have:=v1.low b (.inl hb);omega
   ·have:=v1.low b (.inr hb);omega
   ·omega
 have m2:Mk X np D bc bt w0 (a.alloc (.cells #[.int .i64 0] 3)):=by
  refine⟨⟨⟨_,_,by unfold aL at s ⊢;rw[e _ _ lM];exact s⟩,⟨_,_,by unfold aT at t ⊢;rw[e _ _ lW];exact t⟩,H,by rw[e _ _ lT];exact C,I⟩,λb hb=>?_,?_,?_⟩
  ·rw[e _ _ (v1.low b (v1.has b (.inl hb)))];exact m1.blk b hb
  ·rw[e _ _ (v1.low bc (v1.has bc (.inr (.inl rfl))))];exact m1.bc
  ·rw[e _ _ (v1.low bt (v1.has bt (.inr (.inr rfl))))];exact m1.bt
 refine(hB a.heap.size).run f y ?_;obtain⟨A,hx,hy⟩:=oB a.heap.size;obtain⟨o,z,A⟩:=jC A;have L:=v1.low
 refine .DS (b:=a.heap.size) (cur:=#[.int .i64 0]) (ty:=3) J.clear m2.live (.inr rfl) z A hx hy B (by rw[f,sz3];rfl) (by show 0+1<=1;omega) (λc hc=>by
  have:c=.int .i64 (k:Int):=by simpa[Value.cells]using hc
  subst this;rfl) λw2 q2=>?_
 rw[show(Value.int .i64 (k:Int)).cells=#[.int .i64 (k:Int)] from rfl,rH (show(#[.int .i64 0]:Array Value).size=(#[.int .i64 (k:Int)]:Array Value).size from rfl)];have m3:=m2.rl J q2;have N:=J.rl q2;have eP:w2.heap[a.heap.size]?=some (.cells #[.int .i64 0] 3):=(q2.own _ (.inr rfl)).trans B;have O:jm X a.heap.size:=N.clear.own _ (.inr rfl);have u:∀b,b≠a.heap.size->(w2.setRow a.heap.size #[.int .i64 (k:Int)]).heap[b]?=w2.heap[b]?:=λb hb=>ab _ _ _ _ hb;have m4:Mk X np D bc bt w0 (w2.setRow a.heap.size #[.int .i64 (k:Int)]):=by
  obtain⟨⟨_,_,s⟩,⟨_,_,t⟩,H,C,I⟩:=m3.live;refine⟨⟨⟨_,_,by unfold aL at s ⊢;rw[u _ (aP O.1)];exact s⟩,⟨_,_,by unfold aT at t ⊢;rw[u _ (aP O.2.1)];exact t⟩,H,by rw[u _ (aP O.2.2)];exact C,I⟩,λb hb=>?_,?_,?_⟩
  ·rw[u _ (by have:=L b (v1.has b (.inl hb));omega)];exact m3.blk b hb
  ·rw[u _ (by have:=L bc (v1.has bc (.inr (.inl rfl)));omega)];exact m3.bc
  ·rw[u _ (by have:=L bt (v1.has bt (.inr (.inr rfl)));omega)];exact m3.bt
 have v4:Mv X V (λb=>M b\/b=a.heap.size) np D bc bt (w2.setRow a.heap.size #[.int .i64 (k:Int)]):={ N with low:=λb hb=>by simpa using N.low b hb }
 have g4:(w2.setRow a.heap.size #[.int .i64 (k:Int)]).heap[a.heap.size]?=some (.cells #[.int .i64 (k:Int)] 3):=ac _ _ _ _ _ _ eP;refine(hC a.heap.size).run f y ?_;have Q:w0.heap.size<=w2.heap.size:=by
  have:=q.size;have:=q2.size;simp only[ar]at this;omega
 refine P6 (F:=λw=>Mk X np D bc bt w0 w/\Mv X V (λb=>M b\/b=a.heap.size) np D bc bt w/\w.heap[a.heap.size]?=some (.cells #[.int .i64 (k:Int)] 3)/\w0.heap.size<=w.heap.size)
  ⟨f,y,v4.clear,λw w' h q=>⟨h.1.rl h.2.1 q,h.2.1.rl q,(q.own _ (.inr rfl)).trans h.2.2.1,a6 h.2.2.2 q.size⟩,λw h=>h.1.live,W⟩ r (λw5 h5=>?_) ⟨m4,v4,g4,by simpa using Q⟩
 refine(hD a.heap.size).run f y (.stop λw6 q6=>?_);obtain⟨R,i,T,U⟩:=h5;have m6:=R.rl i q6;have v6:=i.rl q6;have g6:w6.heap[a.heap.size]?=some (.cells #[.int .i64 (k:Int)] 3):=(q6.own _ (.inr rfl)).trans T;have ek:X.n-(r+1)=k:=by omega
 rw[ek];refine⟨(Z _).1,rfl,_,_,by rw[f,y];exact E _ _,(Z _).2,rfl,λl kf=>?_,?_⟩
 ·have GH:=aev (c:=c) (row:=row) f fW W Xe Y (show k<ng by omega) BU v6 m6 (.inr (.inr rfl)) g6;refine Hl GH sg Y.MC.1 (λw h _=>⟨h.put,h.rest⟩) ⟨m6.live,λ_ _=>rfl,a5 _⟩ (λj hj _=>l j hj) kf
 ·refine K _ _ ⟨i.hg,⟨v6.clear.ids,λb hb=>hb.elim (v6.clear.st b) (v6.clear.own b),λb hb=>hb.elim⟩,λb hb=>hb.elim (λhb=>v6.shun b hb) (λhb=>hb.elim),λb hb=>hb.elim (λhb=>v6.low b hb) (λhb=>hb.elim),λb hb=>.inl (v6.has b hb)⟩ m6 (a6 U q6.size)
end
end Go.Proofs
namespace Go.Proofs
open Go.Ph Go.Conc Go.ConcN Go.bJ
set_option maxRecDepth 100000
def aew:∃fn,PP.funcs[98]?=some fn/\fn.results=#[.tmp 2]:=⟨Tryz.f98,Tryz.func98,rfl⟩
section
variable {jf:Nat->Value}{jr:List Value}{X:Fix}{V:Vw}{M:Own}{D:jB}{np:Nat}{S:Nat->Nat}{dl:Nat->Int}{gn:Nat->ByteArray}{bc bt:Nat}{w0 w:World}{c:Nat}{row:Nat->Nat->Prop}{c':Frame}{l':List Frame}
def P8(X:Fix)(c':Frame)(l':List Frame):Own->aa->World->Prop:=λ_ g _=>g=G (c'.finish (.pointer (some ⟨X.Tb,0,none⟩))) l'
def Hs(d:X.P=PP)(K:X.size=75)(L:X.n=2)(N:0<c)(u:Cf np 2 D S dl gn w0)(R:FE np (S 0))(T:FE np (S 1))(O:∀k,k<2->∀j,k*25<=j->j<k*25+25->row k j)
 (v:Mv X V M np D bc bt w) (m:Mk X np D bc bt w0 w) (Q:∀b,w0.heap.size<=b->∀a':Addr,a'.block=b->¬X.Shun (.cell a')) (U:w0.heap.size<=w.heap.size) :
 ay X V false (Ta X c np row (JH X np D S dl row) (P8 X c' l') 2 V) M 0 (m6 (CA.mk (cA np D) jf jr) bc X.Tb bt X.Mu X.Wg (c'::l')) w:=by
 have x:X.n<=3:=by omega
 have W:(V.g==0)=true:=by rw[v.hg];rfl
 obtain⟨i,y,_⟩:=aes (CA.mk (cA np D) jf jr) bc X.Tb bt X.Mu X.Wg (c'::l');obtain⟨o,z,i⟩:=jC i;have Y:=u.Zb;refine .qM (v:=.slice (some ⟨D.gb,D.go,none⟩) 2 D.cg) v.clear m.live z i y (λt q=>?_) ((v.has bc (.inr (.inl rfl))).imp (λh=>⟨h,v.shun bc (.inl h)⟩) id) ?_
 ·have m1:=m.rl v q;have h:t.cell? ⟨bc,5,none⟩=some (.slice (some ⟨D.gb,D.go,none⟩) 2 D.cg):=by
   simp only[aq,m1.bc];rw[<-Y];rfl
  exact⟨l8 (by rw[d];exact adX) rfl h,pY h⟩
 obtain⟨A,B⟩:=ak3 (CA.mk (cA np D) jf jr) bc X.Tb bt X.Mu X.Wg (some ⟨D.gb,D.go,none⟩) D.cg (c'::l');refine B.run d W ?_;refine Aw (r:=1) (k:=0) d K x N u L rfl R (O 0 (by omega)) (ak4 ..) (λa=>ak5 (CA.mk (cA np D) jf jr) bc bt X.Mu X.Wg a (c'::l') A) (λa=>ak6 ..) (λa=>by rw[<-ak8];exact ak7 ..) (λa=>ak9 (CA.mk (cA np D) jf jr) bc bt X.Mu X.Wg a (c'::l') A) (λa w=>aet ..) (λa=>aka ..) v m Q U λe w1 v1 m1 Z=>?_;obtain⟨l,C⟩:=akb (CA.mk (cA np D) jf jr) bc bt X.Mu X.Wg e (c'::l') A;have E:((V.more λb=>M b\/b=e).g==0)=true:=by rw[v1.hg];rfl
 refine C.run d E ?_;refine Aw (r:=0) (k:=1) d K x N u L rfl T (O 1 (by omega)) (akc ..) (λa=>akd (CA.mk (cA np D) jf jr) bc bt X.Mu X.Wg a (c'::l') l) (λa=>ake ..) (λa=>by rw[<-akg];exact akf ..) (λa=>akh (CA.mk (cA np D) jf jr) bc bt X.Mu X.Wg a (c'::l') l) (λa w=>aeu ..) (λa=>aki ..) v1 m1 Q Z λp w2 H m2 JF=>?_;have f:(((V.more λb=>M b\/b=e).more λb=>ai b\/b=p).g==0)=true:=by rw[H.hg];rfl
 refine(vp (CA.mk (cA np D) jf jr) bc bt X.Mu X.Wg p (c'::l') l).run d f ?_;rw[eW2];refine MR (F:=λw=>Mk X np D bc bt w0 w/\Mv X ((V.more λb=>M b\/b=e).more λb=>ai b\/b=p) ai np D bc bt w) ⟨d,f,H.clear,λw w' h q=>⟨h.1.rl h.2 q,h.2.rl q⟩,λw h=>h.1.live,x⟩ (λw3 h3=>?_) ⟨m2,H⟩;obtain⟨m3,s⟩:=h3;refine(hL2 (CA.mk (cA np D) jf jr) bc bt X.Mu X.Wg p (c'::l') l).run d f ?_;obtain⟨i,y⟩:=oL2 (CA.mk (cA np D) jf jr) bc bt X.Mu X.Wg p (c'::l') l;obtain⟨o,z,i⟩:=jC i;refine .qM (v:=.pointer (some ⟨X.Tb,0,none⟩)) s.clear m3.live z i y (λt q=>?_) ((s.has bt (.inr (.inr rfl))).imp (λh=>⟨h,s.shun bt (.inl h)⟩) id) ?_
 ·have m4:=m3.rl s q;have h:t.cell? ⟨bt,0,none⟩=some (.pointer (some ⟨X.Tb,0,none⟩)):=by simp only[aq,m4.bt];rfl
  exact⟨l8 (by rw[d];exact WW) rfl h,pY h⟩
 refine(hR2 (CA.mk (cA np D) jf jr) bc X.Tb bt X.Mu X.Wg p (c'::l') l).run d f ?_;obtain⟨e1,e2,e3,e4,e5,e6⟩:=eR2 (CA.mk (cA np D) jf jr) bc X.Tb bt X.Mu X.Wg p (c'::l') l;rw[e1];obtain⟨fn,I,J⟩:=aew;refine .leave1 s.clear e2 e3 e4 (by rw[d,e5];exact I) J ?_;rw[e6];exact .stop λt _=>⟨rfl,rfl,rfl⟩
end
section
variable (P:ad)(S:aa->Bool)
noncomputable def nM(w:World):Nat->aa->List (ae×GStep)
 |0,_=>[]
 |n+1,g=>@Bool.rec (λ_=>List (ae×GStep)) ((g.status,stepG P true g w)::nM w n (nx P true g)) [] (S g)
noncomputable def nN(w:World):Nat->aa->List (ae×GStep)
 |0,_=>[]
 |n+1,g=>@Bool.rec (λ_=>List (ae×GStep)) ((.running,.go (nx P true g) w #[])::nN w n (nx P true g)) [] (S g)
end
section
variable {Shun:Loc->Prop}{Q:Nat->aa->World->Prop}
def jF.quiet{P:ad}{S:aa->Bool}{K:World->Prop}(f:∀w d,K w->K (w.at d)):∀(n:Nat){B:Nat}{g:aa},(∀w,nM P S w n g=nN P S w n g)->(∀w,K w->jF P Shun Q B (wu P true S n g) w)->∀w,K w->jF P Shun Q B g w
 |0,_,_,_,a,w,b=>a w b
 |n+1,B,g,h,a,w,b=>by
  cases c:S g with
  |true=>simpa only[wu,c]using a w b
  |false=>
   simp only[wu,c]at a;have e:∀w,g.status=.running/\stepG P true g w=.go (nx P true g) w #[]/\nM P S w n (nx P true g)=nN P S w n (nx P true g):=λw=>by
    have:=h w;simp only[nM,nN,c,List.cons.injEq,Prod.mk.injEq]at this;exact⟨this.1.1,this.1.2,this.2⟩
   refine .one B (e w).1 (a5 _) λd=>⟨_,_,#[],(e (w.at d)).2.1,by simp,?_⟩
   exact jF.quiet f n (λw=>(e w).2.2) a _ (f w d b)
def xU{P:ad}{mn:Bool}{w:World}{g:aa}{o:Oper}{t:TypeId}{x:Operand}{v:Value}(a:bF g=some o)(b:o.op=.box t x)(c:g.frame.eval x=v) :
 stepG P mn g w=.go (ag g (.pointer (some ⟨w.heap.size,0,none⟩))) (w.alloc (.cells v.cells t)) #[]:=by
 have e1:execOp g.frame.eval o=(do pure (.value (<-a8 t v)):Sem Next):=by
  unfold execOp;simp only[b,c]
 have d:(a8 t v).run P w=.ok (.pointer (some ⟨w.heap.size,0,none⟩)) (w.alloc (.cells v.cells t)):=by
  simp[a8,newVar,newRow]
 have e:(a8 t v).events P w #[]=#[]:=by
  simp[a8,newVar,newRow]
 rw[dF (v:=.pointer (some ⟨w.heap.size,0,none⟩)) (w':=w.alloc (.cells v.cells t)) a (by rw[e1];simp[d]),e1];simp[e,seen_none]
structure Ee(w:World)(h:Array Obj)(w':World):Prop where
 tape:w'.tape=w.tape
 os:w'.os=w.os
 output:w'.output=w.output
 heap:w'.heap=h
def Ee.at{w w':World}{h:Array Obj}(k:Ee w h w')(d:Nat):Ee w h (w'.at d):=⟨k.tape,k.os,k.output,k.heap⟩
def Ee.alloc{w w':World}{h:Array Obj}(k:Ee w h w')(o:Obj):Ee w (h.push o) (w'.alloc o):=⟨k.tape,k.os,k.output,by show w'.heap.push o=_;rw[k.heap]⟩
noncomputable def JI:Value:=.pointer none
def ZJ:∃i,PP.info? 134=some i/\i.zero=some JI:=by
 have h:(PP.info? 134).map (·.zero)=some (some JI):=by kernel_rfl
 cases hi:PP.info? 134 with
 |none=>rw[hi]at h;cases h
 |some i=>rw[hi]at h;exact⟨i,rfl,a7 h⟩
noncomputable def kP:Array Value:=#[.int .i32 0,.int .u32 0]
def ZK:∃i,PP.info? 190=some i/\i.zero=some (.agg kP):=by
 have h:(PP.info? 190).map (·.zero)=some (some (.agg kP)):=by kernel_rfl
 cases hi:PP.info? 190 with
 |none=>rw[hi]at h;cases h
 |some i=>rw[hi]at h;exact⟨i,rfl,a7 h⟩
noncomputable def nc:Array Value:=#[.int .u64 0,.int .u32 0]
def ZL:∃i,PP.info? 197=some i/\i.zero=some (.agg nc):=by
 have h:(PP.info? 197).map (·.zero)=some (some (.agg nc)):=by kernel_rfl
 cases hi:PP.info? 197 with
 |none=>rw[hi]at h;cases h
 |some i=>rw[hi]at h;exact⟨i,rfl,a7 h⟩
def aex:(PP.info? 134).map (·.size)=some 1:=by kernel_rfl
variable (ca:CA)(bc Tb bt Mu Wg:Nat)(cs:List Frame)
def z_0:∀w,nM PP eL w 400 (G (fE ca) cs)=nN PP eL w 400 (G (fE ca) cs):=λw=>by kernel_rfl
def z_1:∀w,nM PP eL w 400 (ag (m0 ca cs) (pt bc))=nN PP eL w 400 (ag (m0 ca cs) (pt bc)):=λw=>by kernel_rfl
def z_2:∀w,nM PP eL w 400 (ag (m1 ca bc cs) (pt Tb))=nN PP eL w 400 (ag (m1 ca bc cs) (pt Tb)):=λw=>by kernel_rfl
def z_3:∀w,nM PP eL w 400 (ag (m2 ca bc Tb cs) (pt bt))=nN PP eL w 400 (ag (m2 ca bc Tb cs) (pt bt)):=λw=>by kernel_rfl
def z_4:∀w,nM PP eL w 400 (ag (m3 ca bc Tb bt cs) undef)=nN PP eL w 400 (ag (m3 ca bc Tb bt cs) undef):=λw=>by kernel_rfl
def z_5:∀w,nM PP eL w 400 (ag (m4 ca bc Tb bt cs) (pt Mu))=nN PP eL w 400 (ag (m4 ca bc Tb bt cs) (pt Mu)):=λw=>by kernel_rfl
def z_6:∀w,nM PP eL w 400 (ag (m5 ca bc Tb bt Mu cs) (pt Wg))=nN PP eL w 400 (ag (m5 ca bc Tb bt Mu cs) (pt Wg)):=λw=>by kernel_rfl
def jF.aB{Shun:Loc->Prop}{Q:Nat->aa->World->Prop}{K:World->Prop}(a:∀w d,K w->K (w.at d)){B:Nat}{g g':aa}(b:jq g g')(h:∀w,nM PP eL w 400 g=nN PP eL w 400 g)(c:∀w,K w->jF PP Shun Q B g' w):∀w,K w->jF PP Shun Q B g w:=
 jF.quiet a 400 h (by rw[show wu PP true eL 400 g=g' from b.e];exact c)
noncomputable def oX(h:Array Obj)(ca:Array Value):Array Obj:=((((h.push (.cells ca 121)).push (.cells dZ 183)).push (.cells #[.pointer (some ⟨h.size+1,0,none⟩)] 134)).push (.cells kP 190)).push (.cells nc 197)
def ZN{w:World}(z:∀b,w.heap.size<=b->∀o,¬Shun (.cell ⟨b,o,none⟩))(A:∀w',Ee w (oX w.heap ca.arr) w'->Q (w.heap.size+3) (m6 ca w.heap.size (w.heap.size+1) (w.heap.size+2) (w.heap.size+3) (w.heap.size+4) cs) w') :
 jF PP Shun Q w.heap.size (G (fE ca) cs) w:=by
 have R:=w.heap.size;refine jF.aB (K:=Ee w w.heap) (λ_ d h=>h.at d) (m_0 ca cs) (z_0 ca cs) (λw1 p=>?_) w ⟨rfl,rfl,rfl,rfl⟩;obtain⟨a,k⟩:=ajX ca cs;obtain⟨o,f,a⟩:=jC a;refine .one (g:=m0 ca cs) w.heap.size (aK f).1 (a5 _) λd=>⟨_,_,#[],xU f a k,by simp,?_⟩
 have k1:=(p.at d).alloc (.cells ca.arr 121);have B:(w1.at d).heap.size=w.heap.size:=by rw[(p.at d).heap]
 rw[B];refine jF.aB (K:=Ee w (w.heap.push (.cells ca.arr 121))) (λ_ d h=>h.at d) (m_1 ca w.heap.size cs) (z_1 ca w.heap.size cs) (λw2 q=>?_) _ k1;obtain⟨a,k⟩:=ajY ca w.heap.size cs;obtain⟨o,f,a⟩:=jC a;refine .one (g:=m1 ca w.heap.size cs) w.heap.size (aK f).1 (a5 _) λd=>⟨_,_,#[],xU f a k,by simp,?_⟩
 have k2:=(q.at d).alloc (.cells dZ 183);have C:(w2.at d).heap.size=w.heap.size+1:=by rw[(q.at d).heap];simp
 rw[C];refine jF.aB (K:=Ee w ((w.heap.push (.cells ca.arr 121)).push (.cells dZ 183))) (λ_ d h=>h.at d) (m_2 ca w.heap.size (w.heap.size+1) cs) (z_2 ca w.heap.size (w.heap.size+1) cs) (λw3 r=>?_) _ k2;obtain⟨o,f,a⟩:=jC (ajZ ca w.heap.size (w.heap.size+1) cs);obtain⟨i,hi,l⟩:=ZJ;refine .one (g:=m2 ca w.heap.size (w.heap.size+1) cs) w.heap.size (aK f).1 (a5 _) λd=>⟨_,_,#[],jY f a hi l,by simp,?_⟩
 have k3:=(r.at d).alloc (.cells #[.pointer none] 134);have D:(w3.at d).heap.size=w.heap.size+2:=by rw[(r.at d).heap];simp
 rw[D];refine jF.aB (K:=Ee w (((w.heap.push (.cells ca.arr 121)).push (.cells dZ 183)).push (.cells #[.pointer none] 134))) (λ_ d h=>h.at d) (m_3 ca w.heap.size (w.heap.size+1) (w.heap.size+2) cs) (z_3 ca w.heap.size (w.heap.size+1) (w.heap.size+2) cs) (λw4 m=>?_) _ k3;obtain⟨a,k,hy⟩:=ak0 ca w.heap.size (w.heap.size+1) (w.heap.size+2) cs;obtain⟨o,f,a⟩:=jC a;refine .one (g:=m3 ca w.heap.size (w.heap.size+1) (w.heap.size+2) cs) (w.heap.size+3) (aK f).1 (by omega) λd=>?_;have n:((w.heap.push (.cells ca.arr 121)).push (.cells dZ 183)).size=w.heap.size+2:=by simp
 have hb:(w4.at d).heap[w.heap.size+2]?=some (.cells #[.pointer none] 134 (0,0)):=by rw[(m.at d).heap,<-n,aH]
 obtain⟨es,st,E⟩:=rC (P:=PP) (mn:=true) f a k hy hb (by rw[aex];rfl) (by show 0+1<=1;omega) (λc hc=>by
  have:c=.pointer (some ⟨w.heap.size+1,0,none⟩):=by simpa[Value.cells]using hc
  subst this;rfl)
 refine⟨_,_,es,st,λe F=>?_,?_⟩
 ·obtain⟨j,T,rfl⟩:=E e F;refine⟨λx s hs=>?_,by simp,by simp,?_⟩
  ·have e1:(MemAct.ofEvent ⟨.cell ⟨w.heap.size+2,0+j,none⟩,true,false⟩).touch? = some ⟨.cell ⟨w.heap.size+2,0+j,none⟩,true,.plain⟩:=rfl;rw[e1]at s;cases s;exact absurd hs (z _ (by omega) _)
  ·show w.heap.size+2<w.heap.size+3;omega
 have H:Ee w (((w.heap.push (.cells ca.arr 121)).push (.cells dZ 183)).push (.cells #[.pointer (some ⟨w.heap.size+1,0,none⟩)] 134)) ((w4.at d).setRow (w.heap.size+2) (eI #[.pointer none] 0 (pt (w.heap.size+1)).cells)):=by
  refine⟨m.tape,m.os,m.output,?_⟩;rw[rH (show(#[.pointer none]:Array Value).size=(pt (w.heap.size+1)).cells.size from rfl)];apply Array.ext_getElem?;intro b;have I:=(m.at d).heap;by_cases t:b=w.heap.size+2
  ·subst t;rw[ac _ _ _ _ _ _ hb,<-n,aH];rfl
  ·rw[ab _ _ _ _ t,I]
   rcases Nat.lt_or_ge b (w.heap.size+2) with u|U
   ·rw[aw (by rw[n];exact u),aw (by rw[n];exact u)]
   ·rw[aI (by simp;omega),aI (by simp;omega)]
 refine jF.aB (K:=Ee w (((w.heap.push (.cells ca.arr 121)).push (.cells dZ 183)).push (.cells #[.pointer (some ⟨w.heap.size+1,0,none⟩)] 134))) (λ_ d h=>h.at d) (m_4 ca w.heap.size (w.heap.size+1) (w.heap.size+2) cs) (z_4 ca w.heap.size (w.heap.size+1) (w.heap.size+2) cs) (λw5 v=>?_) _ H;obtain⟨o,f,a⟩:=jC (ak1 ca w.heap.size (w.heap.size+1) (w.heap.size+2) cs);obtain⟨i,hi,l⟩:=ZK;refine .one (g:=m4 ca w.heap.size (w.heap.size+1) (w.heap.size+2) cs) (w.heap.size+3) (aK f).1 (a5 _) λd=>⟨_,_,#[],jY f a hi l,by simp,?_⟩
 have J:=(v.at d).alloc (.cells kP 190);have L:(w5.at d).heap.size=w.heap.size+3:=by rw[(v.at d).heap];simp
 rw[L];refine jF.aB (K:=Ee w ((((w.heap.push (.cells ca.arr 121)).push (.cells dZ 183)).push (.cells #[.pointer (some ⟨w.heap.size+1,0,none⟩)] 134)).push (.cells kP 190))) (λ_ d h=>h.at d) (m_5 ca w.heap.size (w.heap.size+1) (w.heap.size+2) (w.heap.size+3) cs) (z_5 ca w.heap.size (w.heap.size+1) (w.heap.size+2) (w.heap.size+3) cs) (λw6 y=>?_) _ J;obtain⟨o,f,a⟩:=jC (ak2 ca w.heap.size (w.heap.size+1) (w.heap.size+2) (w.heap.size+3) cs);obtain⟨i,hi,l⟩:=ZL;refine .one (g:=m5 ca w.heap.size (w.heap.size+1) (w.heap.size+2) (w.heap.size+3) cs) (w.heap.size+3) (aK f).1 (a5 _) λd=>⟨_,_,#[],jY f a hi l,by simp,?_⟩
 have M:=(y.at d).alloc (.cells nc 197);have N:(w6.at d).heap.size=w.heap.size+4:=by rw[(y.at d).heap];simp
 rw[N];refine jF.aB (K:=Ee w (oX w.heap ca.arr)) (λ_ d h=>h.at d) (m_6 ca w.heap.size (w.heap.size+1) (w.heap.size+2) (w.heap.size+3) (w.heap.size+4) cs) (z_6 ca w.heap.size (w.heap.size+1) (w.heap.size+2) (w.heap.size+3) (w.heap.size+4) cs) (λw7 O=>.done (A w7 O)) _ M
end
end Go.Proofs
