/- Part of the proof of FieldLevels: see X45. -/
import Derived.Test.YtmkjeaacgibnoaaGreatX23
set_option linter.all false
open Go renaming Goroutine->aa,setRow_other->ab,setRow_heap->ac,Program->ad,GoStatus->ae
open Option.some renaming inj->ag
open Go.World renaming cell?->ai,size_alloc->ao
open Go.Ph renaming fin->aq,nobody->ar
open Array renaming getElem?_push_lt->aw,getElem?_eq_getElem->aF,getElem?_push_size->aH,getElem?_eq_none->aI
open Nat renaming le_trans->aJ,le_refl->aL,not_lt_zero->aP
open Go.Instr renaming box->aT
open Go.Conc renaming mem_of_getElem?->a5
namespace Go.Proofs
open Go.Ph Go.Conc
set_option maxRecDepth 100000
noncomputable def tdA:List Item:=(T6 (fin (m6 ⟨#[],λ_=>undef,[]⟩ 0 0 0 0 0 []) (.slice none 2 0))).frame.todo
section
variable (ca:CA)(bc Tb bt Mu Wg bg:Nat)(sa:Option Addr)(cg:Nat)(cs:List Frame)(f:Nat->Value)
noncomputable def UI:aa:=G ⟨98,⟨.agg ca.arr :: .pointer (some ⟨bc,0,none⟩) :: .pointer none :: .pointer (some ⟨bt,0,none⟩) :: .pointer (some ⟨Mu,0,none⟩) :: .pointer (some ⟨Wg,0,none⟩)::f 6::f 7::f 8::f 9::f 10::f 11 :: .int .i64 2 :: .int .i64 0::f 14 :: .int .i64 0::f 16::f 17::f 18::f 19::f 20::ca.rest⟩,tdA,[],.run,.normal,none⟩ cs
noncomputable def UJ:aa:=G ⟨98,⟨.agg ca.arr :: .pointer (some ⟨bc,0,none⟩) :: .pointer none :: .pointer (some ⟨bt,0,none⟩) :: .pointer (some ⟨Mu,0,none⟩) :: .pointer (some ⟨Wg,0,none⟩)::f 6::f 7::f 8::f 9::f 10::f 11 :: .int .i64 2 :: .int .i64 1::f 14 :: .int .i64 1::f 16::f 17::f 18::f 19::f 20::ca.rest⟩,tdA,[],.run,.normal,none⟩ cs
def ak3:∃f',jq (fin (m6 ca bc Tb bt Mu Wg cs) (.slice sa 2 cg)) (UI ca bc bt Mu Wg cs f'):=
 ⟨λi=>(T6 (fin (m6 ca bc Tb bt Mu Wg cs) (.slice sa 2 cg))).frame.tmps[i]!,dm (by kernel_rfl)⟩
def ak4:(bF (UI ca bc bt Mu Wg cs f)).map (·.op)=some (.alloc 3):=by kernel_rfl
noncomputable def Hp:aa:=T6 (fin (UI ca bc bt Mu Wg cs f) (pt bg))
def ak5:jq (fin (UI ca bc bt Mu Wg cs f) (pt bg)) (Hp ca bc bt Mu Wg bg cs f):=dm (by delta Hp;rfl)
def ak6:(bF (Hp ca bc bt Mu Wg bg cs f)).map (·.op)=some (.store 3 (.tmp 6) (.tmp 15))/\(Hp ca bc bt Mu Wg bg cs f).frame.eval (.tmp 6)=pt bg/\(Hp ca bc bt Mu Wg bg cs f).frame.eval (.tmp 15)=.int .i64 (0:Nat):=⟨by kernel_rfl,by kernel_rfl,by kernel_rfl⟩
noncomputable def UK:aa:=T6 (fin (Hp ca bc bt Mu Wg bg cs f) undef)
def ak7:jq (fin (Hp ca bc bt Mu Wg bg cs f) undef) (UK ca bc bt Mu Wg bg cs f):=dm (by delta UK;rfl)
noncomputable def ZD:Frame:=(UK ca bc bt Mu Wg bg cs f).callers.headD default
def ak8:UK ca bc bt Mu Wg bg cs f=aE Wg (ZD ca bc bt Mu Wg bg cs f) cs:=by kernel_rfl
noncomputable def Ec:aa:=T6 (G ((ZD ca bc bt Mu Wg bg cs f).finish (.tuple #[])) cs)
def ak9:jq (G ((ZD ca bc bt Mu Wg bg cs f).finish (.tuple #[])) cs) (Ec ca bc bt Mu Wg bg cs f):=dm (by delta Ec;rfl)
def aet:∀w,stepG PP true (Ec ca bc bt Mu Wg bg cs f) w=.spawn (fin (Ec ca bc bt Mu Wg bg cs f) undef) (uy Wg bc bg Mu bt) w #[]:=λw=>by kernel_rfl
def aka:(Ec ca bc bt Mu Wg bg cs f).status=.running/\(fin (Ec ca bc bt Mu Wg bg cs f) undef).status=.running:=⟨by kernel_rfl,by kernel_rfl⟩
def akb:∃f',jq (fin (Ec ca bc bt Mu Wg bg cs f) undef) (UJ ca bc bt Mu Wg cs f'):=
 ⟨λi=>(T6 (fin (Ec ca bc bt Mu Wg bg cs f) undef)).frame.tmps[i]!,dm (by kernel_rfl)⟩
def akc:(bF (UJ ca bc bt Mu Wg cs f)).map (·.op)=some (.alloc 3):=by kernel_rfl
noncomputable def Hq:aa:=T6 (fin (UJ ca bc bt Mu Wg cs f) (pt bg))
def akd:jq (fin (UJ ca bc bt Mu Wg cs f) (pt bg)) (Hq ca bc bt Mu Wg bg cs f):=dm (by delta Hq;rfl)
def ake:(bF (Hq ca bc bt Mu Wg bg cs f)).map (·.op)=some (.store 3 (.tmp 6) (.tmp 15))/\(Hq ca bc bt Mu Wg bg cs f).frame.eval (.tmp 6)=pt bg/\(Hq ca bc bt Mu Wg bg cs f).frame.eval (.tmp 15)=.int .i64 (1:Nat):=⟨by kernel_rfl,by kernel_rfl,by kernel_rfl⟩
noncomputable def UL:aa:=T6 (fin (Hq ca bc bt Mu Wg bg cs f) undef)
def akf:jq (fin (Hq ca bc bt Mu Wg bg cs f) undef) (UL ca bc bt Mu Wg bg cs f):=dm (by delta UL;rfl)
noncomputable def ZE:Frame:=(UL ca bc bt Mu Wg bg cs f).callers.headD default
def akg:UL ca bc bt Mu Wg bg cs f=aE Wg (ZE ca bc bt Mu Wg bg cs f) cs:=by kernel_rfl
noncomputable def Ed:aa:=T6 (G ((ZE ca bc bt Mu Wg bg cs f).finish (.tuple #[])) cs)
def akh:jq (G ((ZE ca bc bt Mu Wg bg cs f).finish (.tuple #[])) cs) (Ed ca bc bt Mu Wg bg cs f):=dm (by delta Ed;rfl)
def aeu:∀w,stepG PP true (Ed ca bc bt Mu Wg bg cs f) w=.spawn (fin (Ed ca bc bt Mu Wg bg cs f) undef) (uy Wg bc bg Mu bt) w #[]:=λw=>by kernel_rfl
def aki:(Ed ca bc bt Mu Wg bg cs f).status=.running/\(fin (Ed ca bc bt Mu Wg bg cs f) undef).status=.running:=⟨by kernel_rfl,by kernel_rfl⟩
noncomputable def sW2:aa:=T6 (fin (Ed ca bc bt Mu Wg bg cs f) undef)
def vp:jq (fin (Ed ca bc bt Mu Wg bg cs f) undef) (sW2 ca bc bt Mu Wg bg cs f):=dm (by delta sW2;rfl)
noncomputable def cW2:Frame:=(sW2 ca bc bt Mu Wg bg cs f).callers.headD default
def eW2:sW2 ca bc bt Mu Wg bg cs f=wE Wg (cW2 ca bc bt Mu Wg bg cs f) cs:=by kernel_rfl
noncomputable def sL2:aa:=T6 (G ((cW2 ca bc bt Mu Wg bg cs f).finish (.tuple #[])) cs)
def hL2:jq (G ((cW2 ca bc bt Mu Wg bg cs f).finish (.tuple #[])) cs) (sL2 ca bc bt Mu Wg bg cs f):=dm (by delta sL2;rfl)
def oL2:(bF (sL2 ca bc bt Mu Wg bg cs f)).map (·.op)=some (.load 134 (.tmp 3))/\(sL2 ca bc bt Mu Wg bg cs f).frame.eval (.tmp 3)=pt bt:=⟨by kernel_rfl,by kernel_rfl⟩
noncomputable def UM:aa:=T6 (fin (sL2 ca bc bt Mu Wg bg cs f) (pt Tb))
def hR2:jq (fin (sL2 ca bc bt Mu Wg bg cs f) (pt Tb)) (UM ca bc Tb bt Mu Wg bg cs f):=dm (by delta UM;rfl)
def eR2:UM ca bc Tb bt Mu Wg bg cs f=G (UM ca bc Tb bt Mu Wg bg cs f).frame cs/\(UM ca bc Tb bt Mu Wg bg cs f).frame.mode=.returning/\(UM ca bc Tb bt Mu Wg bg cs f).frame.kind=.normal/\(UM ca bc Tb bt Mu Wg bg cs f).frame.defers=[]/\(UM ca bc Tb bt Mu Wg bg cs f).frame.fn=98/\(UM ca bc Tb bt Mu Wg bg cs f).frame.tmps.getD 2 undef=pt Tb:=
 ⟨by kernel_rfl,by kernel_rfl,by kernel_rfl,by kernel_rfl,by kernel_rfl,by kernel_rfl⟩
end
open Go.ConcN Go.bJ
open Go.cD (Th bP)
def akl:∃i,PP.info? 3=some i/\i.zero=some (.int .i64 0):=by
 have h:(PP.info? 3).map (·.zero)=some (some (.int .i64 0)):=by kernel_rfl
 cases hi:PP.info? 3 with
 |none=>rw[hi]at h;cases h
 |some i=>rw[hi]at h;exact⟨i,rfl,ag h⟩
def sz3:(PP.info? 3).map (·.size)=some 1:=by kernel_rfl
structure Cf(np ng:Nat)(D:jB)(S:Nat->Nat)(dl:Nat->Int)(gn:Nat->ByteArray)(w0:World):Prop where
 blk:∀b,b∈dR np D->b<w0.heap.size/\∃c t fz,w0.heap[b]?=some (.cells c t fz)
 G8:∀i,i<np->∀j,j<12->w0.cell? ⟨D.pb,D.po+12*i+j,none⟩=(pA D i)[j]?
 PM:∀k,k<ng->∀j,j<3->w0.cell? ⟨D.gb,D.go+3*k+j,none⟩=(gA (S k) (dl k) (gn k))[j]?
 Zb:D.ng=ng
 hs:∀k,k<ng->S k<np
 MC:1<=np/\np<=5
 hn:ng<=3
section
variable {X:Fix}{V:Vw}{M:Own}{D:jB}{np ng:Nat}{S:Nat->Nat}{dl:Nat->Int}{gn:Nat->ByteArray}{bc bt:Nat}{w0 w w':World}
structure Mk(X:Fix)(np:Nat)(D:jB)(bc bt:Nat)(w0 w:World):Prop where
 live:Live X w
 blk:∀b,b∈dR np D->w.heap[b]?=w0.heap[b]?
 bc:w.heap[bc]?=some (.cells (cA np D) 121)
 bt:w.heap[bt]?=some (.cells #[.pointer (some ⟨X.Tb,0,none⟩)] 134)
structure Mv(X:Fix)(V:Vw)(M:Own)(np:Nat)(D:jB)(bc bt:Nat)(w:World):Prop where
 hg:V.g=0
 clear:Clear X V M
 shun:∀b,V.st b\/M b->∀a':Addr,a'.block=b->¬X.Shun (.cell a')
 low:∀b,V.st b\/M b->b<w.heap.size
 has:∀b,(b∈dR np D\/b=bc\/b=bt)->V.st b\/M b
def Mv.keep(h:Mv X V M np D bc bt w)(r:Rl X V M w w'){b:Nat}(hb:V.st b\/M b):w'.heap[b]?=w.heap[b]?:=hb.elim (r.st b) (r.own b)
def Mk.rl(h:Mk X np D bc bt w0 w)(v:Mv X V M np D bc bt w)(r:Rl X V M w w'):Mk X np D bc bt w0 w':=
 ⟨r.live h.live,λb hb=>(v.keep r (v.has b (.inl hb))).trans (h.blk b hb),(v.keep r (v.has bc (.inr (.inl rfl)))).trans h.bc,(v.keep r (v.has bt (.inr (.inr rfl)))).trans h.bt⟩
def Mv.rl(v:Mv X V M np D bc bt w)(r:Rl X V M w w'):Mv X V M np D bc bt w':={ v with low:=λb hb=>Nat.lt_of_lt_of_le (v.low b hb) r.size }
variable {c:Nat}{row:Nat->Nat->Prop}{Post:Own->aa->World->Prop}
def JH(X:Fix)(np:Nat)(D:jB)(S:Nat->Nat)(dl:Nat->Int)(row:Nat->Nat->Prop)(k:Nat)(w:World):Prop:=k<3->Rows X ⟨0,λ_=>False,row k⟩ np (S k) k D (dl k) np w
def aev(h:X.P=PP)(l:X.size=75)(p:X.n<=3)(r:0<c)(a:Cf np ng D S dl gn w0){k:Nat}(e:k<ng)(q:∀j,k*25<=j->j<k*25+25->row k j){d:Nat}(v:Mv X V M np D bc bt w)(m:Mk X np D bc bt w0 w)(f:V.st d\/M d)(hg:w.heap[d]?=some (.cells #[.int .i64 (k:Int)] 3)) :
 zl X (rj c row k V M) D np (S k) k (dl k) (gn k) bc d bt w:=by
 have cell:∀{b:Nat}{o:Nat},b∈dR np D->w.cell? ⟨b,o,none⟩=w0.cell? ⟨b,o,none⟩:=λhb=>by simp only[ai,m.blk _ hb]
 refine⟨h,by show(c+k==0)=false;simp;omega,v.clear.ids,λb hb=>hb.elim (v.clear.st b) (v.clear.own b),λb hb=>v.shun b hb,p,l,λb hb=>v.low b hb,⟨v.has bc (.inr (.inl rfl)),m.bc⟩,⟨f,by simp only[ai,hg];rfl⟩,⟨v.has bt (.inr (.inr rfl)),by simp only[ai,m.bt];rfl⟩,
  λb hb=>⟨v.has b (.inl hb),by rw[m.blk b hb];exact(a.blk b hb).2⟩,λi hi j g=>(cell (by simp[dR])).trans (a.G8 i hi j g),λj g=>(cell (by simp[dR])).trans (a.PM k e j g),by have:=a.hn;omega,by rw[a.Zb];exact e,a.hs k e,a.MC.2,q⟩
def Aw(f:X.P=PP)(fW:X.size=75)(W:X.n<=3)(Xe:0<c)(Y:Cf np ng D S dl gn w0)(hX:X.n=ng){k r:Nat}(hk:k+(r+1)=ng)(sg:FE np (S k))(BU:∀j,k*25<=j->j<k*25+25->row k j)
 {gA:aa} {x p:Nat->aa} {fA:Nat->Frame} {cs:List Frame} (oA:(bF gA).map (·.op)=some (.alloc 3)) (hB:∀d,jq (aq gA (pt d)) (x d)) (oB:∀d,(bF (x d)).map (·.op)=some (.store 3 (.tmp 6) (.tmp 15))/\(x d).frame.eval (.tmp 6)=pt d/\(x d).frame.eval (.tmp 15)=.int .i64 (k:Int))
 (hC:∀d,jq (aq (x d) undef) (aE X.Wg (fA d) cs)) (hD:∀d,jq (G ((fA d).finish (.tuple #[])) cs) (p d)) (E:∀d w,stepG PP true (p d) w=.spawn (aq (p d) undef) (uy X.Wg bc d X.Mu bt) w #[]) (Z:∀d,(p d).status=.running/\(aq (p d) undef).status=.running)
 (v:Mv X V M np D bc bt w) (m:Mk X np D bc bt w0 w) (qU:∀b,w0.heap.size<=b->∀a':Addr,a'.block=b->¬X.Shun (.cell a')) (FA:w0.heap.size<=w.heap.size)
 (K:∀d w1,Mv X (V.more λb=>M b\/b=d) ar np D bc bt w1->Mk X np D bc bt w0 w1->w0.heap.size<=w1.heap.size->ay X (V.more λb=>M b\/b=d) false (Ta X c np row (JH X np D S dl row) Post r (V.more λb=>M b\/b=d)) ar 0 (aq (p d) undef) w1) :
 ay X V false (Ta X c np row (JH X np D S dl row) Post (r+1) V) M 0 gA w:=by
 have y:(V.g==0)=true:=by rw[v.hg];rfl
 obtain⟨o,z,A⟩:=jC oA;obtain⟨i3,hi,hz⟩:=akl;refine .new v.clear (aK z).1 m.live (o':=λ_=>.cells #[.int .i64 0] 3) (G':=λb=>aq gA (pt b)) (λa q=>?_) (λb=>(aK z).2.2 _) λa q=>?_
 ·have:=jY (P:=X.P) (mn:=V.g==0) (w:=a) z A (by rw[f];exact hi) hz;exact this
 have m1:=m.rl v q;have v1:=v.rl q;obtain⟨⟨_,_,s⟩,⟨_,_,t⟩,H,C,I⟩:=m1.live;have lM:=bn s;have lW:=bn t;have lT:=bn C;have e:∀(o:Obj)(b:Nat),b<a.heap.size->(a.alloc o).heap[b]?=a.heap[b]?:=λo b hb=>by
  show(a.heap.push _)[b]?=_;rw[aw hb,<-aF hb]
 have B:(a.alloc (.cells #[.int .i64 0] 3)).heap[a.heap.size]?=some (.cells #[.int .i64 0] 3):=World.alloc_heap_new _ _;have J:Mv X V (λb=>M b\/b=a.heap.size) np D bc bt (a.alloc (.cells #[.int .i64 0] 3)):=by
  refine⟨v1.hg,⟨v1.clear.ids,v1.clear.st,λb hb=>?_⟩,λb hb=>?_,λb hb=>?_,λb hb=>(v1.has b hb).imp id .inl⟩
  ·rcases hb with hb|rfl
   ·exact v1.clear.own b hb
   ·exact⟨by omega,by omega,by omega⟩
  ·rcases hb with hb|hb|rfl
   ·exact v1.shun b (.inl hb)
   ·exact v1.shun b (.inr hb)
   ·exact qU _ (aJ FA q.size)
  ·simp only[ao]
   rcases hb with hb|hb|rfl
   ·have:=v1.low b (.inl hb);omega
   ·have:=v1.low b (.inr hb);omega
   ·omega
 have m2:Mk X np D bc bt w0 (a.alloc (.cells #[.int .i64 0] 3)):=by
  refine⟨⟨⟨_,_,by unfold Go.ConcM.MuAt at s ⊢;rw[e _ _ lM];exact s⟩,⟨_,_,by unfold Go.ConcR.WgAt at t ⊢;rw[e _ _ lW];exact t⟩,H,by rw[e _ _ lT];exact C,I⟩,λb hb=>?_,?_,?_⟩
  ·rw[e _ _ (v1.low b (v1.has b (.inl hb)))];exact m1.blk b hb
  ·rw[e _ _ (v1.low bc (v1.has bc (.inr (.inl rfl))))];exact m1.bc
  ·rw[e _ _ (v1.low bt (v1.has bt (.inr (.inr rfl))))];exact m1.bt
 refine(hB a.heap.size).run f y ?_;obtain⟨A,hx,hy⟩:=oB a.heap.size;obtain⟨o,z,A⟩:=jC A;have L:=v1.low
 refine .DS (b:=a.heap.size) (cur:=#[.int .i64 0]) (ty:=3) J.clear m2.live (.inr rfl) z A hx hy B (by rw[f,sz3];rfl) (by show 0+1<=1;omega) (λc hc=>by
  have:c=.int .i64 (k:Int):=by simpa[Value.cells]using hc
  subst this;rfl) λw2 q2=>?_
 rw[show(Value.int .i64 (k:Int)).cells=#[.int .i64 (k:Int)] from rfl,rH (show(#[.int .i64 0]:Array Value).size=(#[.int .i64 (k:Int)]:Array Value).size from rfl)];have m3:=m2.rl J q2;have N:=J.rl q2;have eP:w2.heap[a.heap.size]?=some (.cells #[.int .i64 0] 3):=(q2.own _ (.inr rfl)).trans B;have O:jm X a.heap.size:=N.clear.own _ (.inr rfl);have u:∀b,b≠a.heap.size->(w2.setRow a.heap.size #[.int .i64 (k:Int)]).heap[b]?=w2.heap[b]?:=λb hb=>ab _ _ _ _ hb;have m4:Mk X np D bc bt w0 (w2.setRow a.heap.size #[.int .i64 (k:Int)]):=by
  obtain⟨⟨_,_,s⟩,⟨_,_,t⟩,H,C,I⟩:=m3.live;refine⟨⟨⟨_,_,by unfold Go.ConcM.MuAt at s ⊢;rw[u _ (Ne.symm O.1)];exact s⟩,⟨_,_,by unfold Go.ConcR.WgAt at t ⊢;rw[u _ (Ne.symm O.2.1)];exact t⟩,H,by rw[u _ (Ne.symm O.2.2)];exact C,I⟩,λb hb=>?_,?_,?_⟩
  ·rw[u _ (by have:=L b (v1.has b (.inl hb));omega)];exact m3.blk b hb
  ·rw[u _ (by have:=L bc (v1.has bc (.inr (.inl rfl)));omega)];exact m3.bc
  ·rw[u _ (by have:=L bt (v1.has bt (.inr (.inr rfl)));omega)];exact m3.bt
 have v4:Mv X V (λb=>M b\/b=a.heap.size) np D bc bt (w2.setRow a.heap.size #[.int .i64 (k:Int)]):={ N with low:=λb hb=>by simpa using N.low b hb }
 have g4:(w2.setRow a.heap.size #[.int .i64 (k:Int)]).heap[a.heap.size]?=some (.cells #[.int .i64 (k:Int)] 3):=ac _ _ _ _ _ _ eP;refine(hC a.heap.size).run f y ?_;have Q:w0.heap.size<=w2.heap.size:=by
  have:=q.size;have:=q2.size;simp only[ao]at this;omega
 refine P6 (F:=λw=>Mk X np D bc bt w0 w/\Mv X V (λb=>M b\/b=a.heap.size) np D bc bt w/\w.heap[a.heap.size]?=some (.cells #[.int .i64 (k:Int)] 3)/\w0.heap.size<=w.heap.size)
  ⟨f,y,v4.clear,λw w' h q=>⟨h.1.rl h.2.1 q,h.2.1.rl q,(q.own _ (.inr rfl)).trans h.2.2.1,aJ h.2.2.2 q.size⟩,λw h=>h.1.live,W⟩ r (λw5 h5=>?_) ⟨m4,v4,g4,by simpa using Q⟩
 refine(hD a.heap.size).run f y (.stop λw6 q6=>?_);obtain⟨R,i,T,U⟩:=h5;have m6:=R.rl i q6;have v6:=i.rl q6;have g6:w6.heap[a.heap.size]?=some (.cells #[.int .i64 (k:Int)] 3):=(q6.own _ (.inr rfl)).trans T;have ek:X.n-(r+1)=k:=by omega
 rw[ek];refine⟨(Z _).1,rfl,_,_,by rw[f,y];exact E _ _,(Z _).2,rfl,λl kf=>?_,?_⟩
 ·have GH:=aev (c:=c) (row:=row) f fW W Xe Y (show k<ng by omega) BU v6 m6 (.inr (.inr rfl)) g6;refine Hl GH sg Y.MC.1 (λw h _=>⟨h.put,h.rest⟩) ⟨m6.live,λ_ _=>rfl,aL _⟩ (λj hj _=>l j hj) kf
 ·refine K _ _ ⟨i.hg,⟨v6.clear.ids,λb hb=>hb.elim (v6.clear.st b) (v6.clear.own b),λb hb=>hb.elim⟩,λb hb=>hb.elim (λhb=>v6.shun b hb) (λhb=>hb.elim),λb hb=>hb.elim (λhb=>v6.low b hb) (λhb=>hb.elim),λb hb=>.inl (v6.has b hb)⟩ m6 (aJ U q6.size)
end
end Go.Proofs
namespace Go.Proofs
open Go.Ph Go.Conc Go.ConcN Go.bJ
set_option maxRecDepth 100000
def aew:∃fn,PP.funcs[98]?=some fn/\fn.results=#[.tmp 2]:=⟨Tryz.f98,Tryz.func98,rfl⟩
section
variable {jf:Nat->Value}{jr:List Value}{X:Fix}{V:Vw}{M:Own}{D:jB}{np:Nat}{S:Nat->Nat}{dl:Nat->Int}{gn:Nat->ByteArray}{bc bt:Nat}{w0 w:World}{c:Nat}{row:Nat->Nat->Prop}{c':Frame}{l':List Frame}
def P8(X:Fix)(c':Frame)(l':List Frame):Own->aa->World->Prop:=λ_ g _=>g=G (c'.finish (.pointer (some ⟨X.Tb,0,none⟩))) l'
def Hs(d:X.P=PP)(K:X.size=75)(L:X.n=2)(N:0<c)(u:Cf np 2 D S dl gn w0)(R:FE np (S 0))(T:FE np (S 1))(O:∀k,k<2->∀j,k*25<=j->j<k*25+25->row k j)
 (v:Mv X V M np D bc bt w) (m:Mk X np D bc bt w0 w) (Q:∀b,w0.heap.size<=b->∀a':Addr,a'.block=b->¬X.Shun (.cell a')) (U:w0.heap.size<=w.heap.size) :
 ay X V false (Ta X c np row (JH X np D S dl row) (P8 X c' l') 2 V) M 0 (m6 (CA.mk (cA np D) jf jr) bc X.Tb bt X.Mu X.Wg (c'::l')) w:=by
 have x:X.n<=3:=by omega
 have W:(V.g==0)=true:=by rw[v.hg];rfl
 obtain⟨i,y,_⟩:=aes (CA.mk (cA np D) jf jr) bc X.Tb bt X.Mu X.Wg (c'::l');obtain⟨o,z,i⟩:=jC i;have Y:=u.Zb;refine .qM (v:=.slice (some ⟨D.gb,D.go,none⟩) 2 D.cg) v.clear m.live z i y (λt q=>?_) ((v.has bc (.inr (.inl rfl))).imp (λh=>⟨h,v.shun bc (.inl h)⟩) id) ?_
 ·have m1:=m.rl v q;have h:t.cell? ⟨bc,5,none⟩=some (.slice (some ⟨D.gb,D.go,none⟩) 2 D.cg):=by
   simp only[ai,m1.bc];rw[<-Y];rfl
  exact⟨l8 (by rw[d];exact adX) rfl h,pY h⟩
 obtain⟨A,B⟩:=ak3 (CA.mk (cA np D) jf jr) bc X.Tb bt X.Mu X.Wg (some ⟨D.gb,D.go,none⟩) D.cg (c'::l');refine B.run d W ?_;refine Aw (r:=1) (k:=0) d K x N u L rfl R (O 0 (by omega)) (ak4 ..) (λa=>ak5 (CA.mk (cA np D) jf jr) bc bt X.Mu X.Wg a (c'::l') A) (λa=>ak6 ..) (λa=>by rw[<-ak8];exact ak7 ..) (λa=>ak9 (CA.mk (cA np D) jf jr) bc bt X.Mu X.Wg a (c'::l') A) (λa w=>aet ..) (λa=>aka ..) v m Q U λe w1 v1 m1 Z=>?_;obtain⟨l,C⟩:=akb (CA.mk (cA np D) jf jr) bc bt X.Mu X.Wg e (c'::l') A;have E:((V.more λb=>M b\/b=e).g==0)=true:=by rw[v1.hg];rfl
 refine C.run d E ?_;refine Aw (r:=0) (k:=1) d K x N u L rfl T (O 1 (by omega)) (akc ..) (λa=>akd (CA.mk (cA np D) jf jr) bc bt X.Mu X.Wg a (c'::l') l) (λa=>ake ..) (λa=>by rw[<-akg];exact akf ..) (λa=>akh (CA.mk (cA np D) jf jr) bc bt X.Mu X.Wg a (c'::l') l) (λa w=>aeu ..) (λa=>aki ..) v1 m1 Q Z λp w2 H m2 JF=>?_;have f:(((V.more λb=>M b\/b=e).more λb=>ar b\/b=p).g==0)=true:=by rw[H.hg];rfl
 refine(vp (CA.mk (cA np D) jf jr) bc bt X.Mu X.Wg p (c'::l') l).run d f ?_;rw[eW2];refine MR (F:=λw=>Mk X np D bc bt w0 w/\Mv X ((V.more λb=>M b\/b=e).more λb=>ar b\/b=p) ar np D bc bt w) ⟨d,f,H.clear,λw w' h q=>⟨h.1.rl h.2 q,h.2.rl q⟩,λw h=>h.1.live,x⟩ (λw3 h3=>?_) ⟨m2,H⟩;obtain⟨m3,s⟩:=h3;refine(hL2 (CA.mk (cA np D) jf jr) bc bt X.Mu X.Wg p (c'::l') l).run d f ?_;obtain⟨i,y⟩:=oL2 (CA.mk (cA np D) jf jr) bc bt X.Mu X.Wg p (c'::l') l;obtain⟨o,z,i⟩:=jC i;refine .qM (v:=.pointer (some ⟨X.Tb,0,none⟩)) s.clear m3.live z i y (λt q=>?_) ((s.has bt (.inr (.inr rfl))).imp (λh=>⟨h,s.shun bt (.inl h)⟩) id) ?_
 ·have m4:=m3.rl s q;have h:t.cell? ⟨bt,0,none⟩=some (.pointer (some ⟨X.Tb,0,none⟩)):=by simp only[ai,m4.bt];rfl
  exact⟨l8 (by rw[d];exact WW) rfl h,pY h⟩
 refine(hR2 (CA.mk (cA np D) jf jr) bc X.Tb bt X.Mu X.Wg p (c'::l') l).run d f ?_;obtain⟨e1,e2,e3,e4,e5,e6⟩:=eR2 (CA.mk (cA np D) jf jr) bc X.Tb bt X.Mu X.Wg p (c'::l') l;rw[e1];obtain⟨fn,I,J⟩:=aew;refine .leave1 s.clear e2 e3 e4 (by rw[d,e5];exact I) J ?_;rw[e6];exact .stop λt _=>⟨rfl,rfl,rfl⟩
end
section
variable (P:ad)(S:aa->Bool)
noncomputable def nM(w:World):Nat->aa->List (ae×GStep)
 |0,_=>[]
 |n+1,g=>@Bool.rec (λ_=>List (ae×GStep)) ((g.status,stepG P true g w)::nM w n (nx P true g)) [] (S g)
noncomputable def nN(w:World):Nat->aa->List (ae×GStep)
 |0,_=>[]
 |n+1,g=>@Bool.rec (λ_=>List (ae×GStep)) ((.running,.go (nx P true g) w #[])::nN w n (nx P true g)) [] (S g)
end
section
variable {Shun:Loc->Prop}{Q:Nat->aa->World->Prop}
def jF.quiet{P:ad}{S:aa->Bool}{K:World->Prop}(f:∀w d,K w->K (w.at d)):∀(n:Nat){B:Nat}{g:aa},(∀w,nM P S w n g=nN P S w n g)->(∀w,K w->jF P Shun Q B (wu P true S n g) w)->∀w,K w->jF P Shun Q B g w
 |0,_,_,_,a,w,b=>a w b
 |n+1,B,g,h,a,w,b=>by
  cases c:S g with
  |true=>simpa only[wu,c]using a w b
  |false=>
   simp only[wu,c]at a;have e:∀w,g.status=.running/\stepG P true g w=.go (nx P true g) w #[]/\nM P S w n (nx P true g)=nN P S w n (nx P true g):=λw=>by
    have:=h w;simp only[nM,nN,c,List.cons.injEq,Prod.mk.injEq]at this;exact⟨this.1.1,this.1.2,this.2⟩
   refine .one B (e w).1 (aL _) λd=>⟨_,_,#[],(e (w.at d)).2.1,by simp,?_⟩
   exact jF.quiet f n (λw=>(e w).2.2) a _ (f w d b)
def xU{P:ad}{mn:Bool}{w:World}{g:aa}{o:Oper}{t:TypeId}{x:Operand}{v:Value}(a:bF g=some o)(b:o.op=.box t x)(c:g.frame.eval x=v) :
 stepG P mn g w=.go (aq g (.pointer (some ⟨w.heap.size,0,none⟩))) (w.alloc (.cells v.cells t)) #[]:=by
 have e1:execOp g.frame.eval o=(do pure (.value (<-aT t v)):Sem Next):=by
  unfold execOp;simp only[b,c]
 have d:(aT t v).run P w=.ok (.pointer (some ⟨w.heap.size,0,none⟩)) (w.alloc (.cells v.cells t)):=by
  simp[aT,newVar,newRow]
 have e:(aT t v).events P w #[]=#[]:=by
  simp[aT,newVar,newRow]
 rw[dF (v:=.pointer (some ⟨w.heap.size,0,none⟩)) (w':=w.alloc (.cells v.cells t)) a (by rw[e1];simp[d]),e1];simp[e,seen_none]
structure Ee(w:World)(h:Array Obj)(w':World):Prop where
 tape:w'.tape=w.tape
 os:w'.os=w.os
 output:w'.output=w.output
 heap:w'.heap=h
def Ee.at{w w':World}{h:Array Obj}(k:Ee w h w')(d:Nat):Ee w h (w'.at d):=⟨k.tape,k.os,k.output,k.heap⟩
def Ee.alloc{w w':World}{h:Array Obj}(k:Ee w h w')(o:Obj):Ee w (h.push o) (w'.alloc o):=⟨k.tape,k.os,k.output,by show w'.heap.push o=_;rw[k.heap]⟩
noncomputable def JI:Value:=.pointer none
def ZJ:∃i,PP.info? 134=some i/\i.zero=some JI:=by
 have h:(PP.info? 134).map (·.zero)=some (some JI):=by kernel_rfl
 cases hi:PP.info? 134 with
 |none=>rw[hi]at h;cases h
 |some i=>rw[hi]at h;exact⟨i,rfl,ag h⟩
noncomputable def kP:Array Value:=#[.int .i32 0,.int .u32 0]
def ZK:∃i,PP.info? 190=some i/\i.zero=some (.agg kP):=by
 have h:(PP.info? 190).map (·.zero)=some (some (.agg kP)):=by kernel_rfl
 cases hi:PP.info? 190 with
 |none=>rw[hi]at h;cases h
 |some i=>rw[hi]at h;exact⟨i,rfl,ag h⟩
noncomputable def nc:Array Value:=#[.int .u64 0,.int .u32 0]
def ZL:∃i,PP.info? 197=some i/\i.zero=some (.agg nc):=by
 have h:(PP.info? 197).map (·.zero)=some (some (.agg nc)):=by kernel_rfl
 cases hi:PP.info? 197 with
 |none=>rw[hi]at h;cases h
 |some i=>rw[hi]at h;exact⟨i,rfl,ag h⟩
def aex:(PP.info? 134).map (·.size)=some 1:=by kernel_rfl
variable (ca:CA)(bc Tb bt Mu Wg:Nat)(cs:List Frame)
def z_0:∀w,nM PP eL w 400 (G (fE ca) cs)=nN PP eL w 400 (G (fE ca) cs):=λw=>by kernel_rfl
def z_1:∀w,nM PP eL w 400 (aq (m0 ca cs) (pt bc))=nN PP eL w 400 (aq (m0 ca cs) (pt bc)):=λw=>by kernel_rfl
def z_2:∀w,nM PP eL w 400 (aq (m1 ca bc cs) (pt Tb))=nN PP eL w 400 (aq (m1 ca bc cs) (pt Tb)):=λw=>by kernel_rfl
def z_3:∀w,nM PP eL w 400 (aq (m2 ca bc Tb cs) (pt bt))=nN PP eL w 400 (aq (m2 ca bc Tb cs) (pt bt)):=λw=>by kernel_rfl
def z_4:∀w,nM PP eL w 400 (aq (m3 ca bc Tb bt cs) undef)=nN PP eL w 400 (aq (m3 ca bc Tb bt cs) undef):=λw=>by kernel_rfl
def z_5:∀w,nM PP eL w 400 (aq (m4 ca bc Tb bt cs) (pt Mu))=nN PP eL w 400 (aq (m4 ca bc Tb bt cs) (pt Mu)):=λw=>by kernel_rfl
def z_6:∀w,nM PP eL w 400 (aq (m5 ca bc Tb bt Mu cs) (pt Wg))=nN PP eL w 400 (aq (m5 ca bc Tb bt Mu cs) (pt Wg)):=λw=>by kernel_rfl
def jF.aB{Shun:Loc->Prop}{Q:Nat->aa->World->Prop}{K:World->Prop}(a:∀w d,K w->K (w.at d)){B:Nat}{g g':aa}(b:jq g g')(h:∀w,nM PP eL w 400 g=nN PP eL w 400 g)(c:∀w,K w->jF PP Shun Q B g' w):∀w,K w->jF PP Shun Q B g w:=
 jF.quiet a 400 h (by rw[show wu PP true eL 400 g=g' from b.e];exact c)
noncomputable def oX(h:Array Obj)(ca:Array Value):Array Obj:=((((h.push (.cells ca 121)).push (.cells dZ 183)).push (.cells #[.pointer (some ⟨h.size+1,0,none⟩)] 134)).push (.cells kP 190)).push (.cells nc 197)
def ZN{w:World}(z:∀b,w.heap.size<=b->∀o,¬Shun (.cell ⟨b,o,none⟩))(A:∀w',Ee w (oX w.heap ca.arr) w'->Q (w.heap.size+3) (m6 ca w.heap.size (w.heap.size+1) (w.heap.size+2) (w.heap.size+3) (w.heap.size+4) cs) w') :
 jF PP Shun Q w.heap.size (G (fE ca) cs) w:=by
 have R:=w.heap.size;refine jF.aB (K:=Ee w w.heap) (λ_ d h=>h.at d) (m_0 ca cs) (z_0 ca cs) (λw1 p=>?_) w ⟨rfl,rfl,rfl,rfl⟩;obtain⟨a,k⟩:=ajX ca cs;obtain⟨o,f,a⟩:=jC a;refine .one (g:=m0 ca cs) w.heap.size (aK f).1 (aL _) λd=>⟨_,_,#[],xU f a k,by simp,?_⟩
 have k1:=(p.at d).alloc (.cells ca.arr 121);have B:(w1.at d).heap.size=w.heap.size:=by rw[(p.at d).heap]
 rw[B];refine jF.aB (K:=Ee w (w.heap.push (.cells ca.arr 121))) (λ_ d h=>h.at d) (m_1 ca w.heap.size cs) (z_1 ca w.heap.size cs) (λw2 q=>?_) _ k1;obtain⟨a,k⟩:=ajY ca w.heap.size cs;obtain⟨o,f,a⟩:=jC a;refine .one (g:=m1 ca w.heap.size cs) w.heap.size (aK f).1 (aL _) λd=>⟨_,_,#[],xU f a k,by simp,?_⟩
 have k2:=(q.at d).alloc (.cells dZ 183);have C:(w2.at d).heap.size=w.heap.size+1:=by rw[(q.at d).heap];simp
 rw[C];refine jF.aB (K:=Ee w ((w.heap.push (.cells ca.arr 121)).push (.cells dZ 183))) (λ_ d h=>h.at d) (m_2 ca w.heap.size (w.heap.size+1) cs) (z_2 ca w.heap.size (w.heap.size+1) cs) (λw3 r=>?_) _ k2;obtain⟨o,f,a⟩:=jC (ajZ ca w.heap.size (w.heap.size+1) cs);obtain⟨i,hi,l⟩:=ZJ;refine .one (g:=m2 ca w.heap.size (w.heap.size+1) cs) w.heap.size (aK f).1 (aL _) λd=>⟨_,_,#[],jY f a hi l,by simp,?_⟩
 have k3:=(r.at d).alloc (.cells #[.pointer none] 134);have D:(w3.at d).heap.size=w.heap.size+2:=by rw[(r.at d).heap];simp
 rw[D];refine jF.aB (K:=Ee w (((w.heap.push (.cells ca.arr 121)).push (.cells dZ 183)).push (.cells #[.pointer none] 134))) (λ_ d h=>h.at d) (m_3 ca w.heap.size (w.heap.size+1) (w.heap.size+2) cs) (z_3 ca w.heap.size (w.heap.size+1) (w.heap.size+2) cs) (λw4 m=>?_) _ k3;obtain⟨a,k,hy⟩:=ak0 ca w.heap.size (w.heap.size+1) (w.heap.size+2) cs;obtain⟨o,f,a⟩:=jC a;refine .one (g:=m3 ca w.heap.size (w.heap.size+1) (w.heap.size+2) cs) (w.heap.size+3) (aK f).1 (by omega) λd=>?_;have n:((w.heap.push (.cells ca.arr 121)).push (.cells dZ 183)).size=w.heap.size+2:=by simp
 have hb:(w4.at d).heap[w.heap.size+2]?=some (.cells #[.pointer none] 134 (0,0)):=by rw[(m.at d).heap,<-n,aH]
 obtain⟨es,st,E⟩:=rC (P:=PP) (mn:=true) f a k hy hb (by rw[aex];rfl) (by show 0+1<=1;omega) (λc hc=>by
  have:c=.pointer (some ⟨w.heap.size+1,0,none⟩):=by simpa[Value.cells]using hc
  subst this;rfl)
 refine⟨_,_,es,st,λe F=>?_,?_⟩
 ·obtain⟨j,T,rfl⟩:=E e F;refine⟨λx s hs=>?_,by simp,by simp,?_⟩
  ·have e1:(MemAct.ofEvent ⟨.cell ⟨w.heap.size+2,0+j,none⟩,true,false⟩).touch? = some ⟨.cell ⟨w.heap.size+2,0+j,none⟩,true,.plain⟩:=rfl;rw[e1]at s;cases s;exact absurd hs (z _ (by omega) _)
  ·show w.heap.size+2<w.heap.size+3;omega
 have H:Ee w (((w.heap.push (.cells ca.arr 121)).push (.cells dZ 183)).push (.cells #[.pointer (some ⟨w.heap.size+1,0,none⟩)] 134)) ((w4.at d).setRow (w.heap.size+2) (eI #[.pointer none] 0 (pt (w.heap.size+1)).cells)):=by
  refine⟨m.tape,m.os,m.output,?_⟩;rw[rH (show(#[.pointer none]:Array Value).size=(pt (w.heap.size+1)).cells.size from rfl)];apply Array.ext_getElem?;intro b;have I:=(m.at d).heap;by_cases t:b=w.heap.size+2
  ·subst t;rw[ac _ _ _ _ _ _ hb,<-n,aH];rfl
  ·rw[ab _ _ _ _ t,I]
   rcases Nat.lt_or_ge b (w.heap.size+2) with u|U
   ·rw[aw (by rw[n];exact u),aw (by rw[n];exact u)]
   ·rw[aI (by simp;omega),aI (by simp;omega)]
 refine jF.aB (K:=Ee w (((w.heap.push (.cells ca.arr 121)).push (.cells dZ 183)).push (.cells #[.pointer (some ⟨w.heap.size+1,0,none⟩)] 134))) (λ_ d h=>h.at d) (m_4 ca w.heap.size (w.heap.size+1) (w.heap.size+2) cs) (z_4 ca w.heap.size (w.heap.size+1) (w.heap.size+2) cs) (λw5 v=>?_) _ H;obtain⟨o,f,a⟩:=jC (ak1 ca w.heap.size (w.heap.size+1) (w.heap.size+2) cs);obtain⟨i,hi,l⟩:=ZK;refine .one (g:=m4 ca w.heap.size (w.heap.size+1) (w.heap.size+2) cs) (w.heap.size+3) (aK f).1 (aL _) λd=>⟨_,_,#[],jY f a hi l,by simp,?_⟩
 have J:=(v.at d).alloc (.cells kP 190);have L:(w5.at d).heap.size=w.heap.size+3:=by rw[(v.at d).heap];simp
 rw[L];refine jF.aB (K:=Ee w ((((w.heap.push (.cells ca.arr 121)).push (.cells dZ 183)).push (.cells #[.pointer (some ⟨w.heap.size+1,0,none⟩)] 134)).push (.cells kP 190))) (λ_ d h=>h.at d) (m_5 ca w.heap.size (w.heap.size+1) (w.heap.size+2) (w.heap.size+3) cs) (z_5 ca w.heap.size (w.heap.size+1) (w.heap.size+2) (w.heap.size+3) cs) (λw6 y=>?_) _ J;obtain⟨o,f,a⟩:=jC (ak2 ca w.heap.size (w.heap.size+1) (w.heap.size+2) (w.heap.size+3) cs);obtain⟨i,hi,l⟩:=ZL;refine .one (g:=m5 ca w.heap.size (w.heap.size+1) (w.heap.size+2) (w.heap.size+3) cs) (w.heap.size+3) (aK f).1 (aL _) λd=>⟨_,_,#[],jY f a hi l,by simp,?_⟩
 have M:=(y.at d).alloc (.cells nc 197);have N:(w6.at d).heap.size=w.heap.size+4:=by rw[(y.at d).heap];simp
 rw[N];refine jF.aB (K:=Ee w (oX w.heap ca.arr)) (λ_ d h=>h.at d) (m_6 ca w.heap.size (w.heap.size+1) (w.heap.size+2) (w.heap.size+3) (w.heap.size+4) cs) (z_6 ca w.heap.size (w.heap.size+1) (w.heap.size+2) (w.heap.size+3) (w.heap.size+4) cs) (λw7 O=>.done (A w7 O)) _ M
end
end Go.Proofs
namespace Go.Ph
open Go.Conc Go.ConcN
def TI.ZO{Shun Sh:Loc->Prop}{c:Nat}{t:Trace}{B:Nat}(h:Past Shun B t)(n:∀l,Sh l->l.isMemory=true/\¬l.low B)(Own o:Nat->Loc->Prop)(hg:∀op∈t,c<=op.g->op.act.touch? = none):TI Shun Sh Own o c 0 t:=by
 have p:∀(i:Nat)(op:MemOp)(x:Touch),t[i]?=some op->op.act.touch? = some x->¬Sh x.loc:=by
  intro i op x hi d hs;obtain⟨f,hl⟩:=n _ hs;refine hl ?_;have:=h.seen op (a5 hi);generalize op.act=act at d this
  cases act with
  |access e=>cases e.sync<;>(simp[MemAct.touch?]at d;subst d;exact this)
  |mark m=>cases m<;>simp[MemAct.touch?]at d<;>(subst d;exact this)
  |_=>simp[MemAct.touch?]at d
 refine⟨h.clean,λi a b _ f=>(h.known i a b f).imp id (·.2),λi op x hi d hs=>absurd hs (p i op x hi d),λk _ _=>by omega,λk _ _=>by omega,λl f _ hs _ i a b e=>?_,λl f _ hs _ i a b e _=>?_,
  λi op a hi _ _ b f=>h.known i a (by rw[touchAt_of hi];exact b) f,λi g hi q _ hc=>h.over i g hi q hc,λi op a hi j b=>?_,λi op hi j=>hg op (a5 hi) j⟩
 ·rcases h.known i a b (by rw[e];exact f) with k|⟨k,_⟩
  ·exact k
  ·exact absurd (e▸k) hs
 ·rcases h.known i a b (by rw[e];exact f) with k|⟨k,_⟩
  ·exact k
  ·exact absurd (e▸k) hs
 ·rw[hg op (a5 hi) j]at b;cases b
end Go.Ph
namespace Go.Proofs
open Go.Ph Go.Conc Go.ConcN Go.bJ
set_option maxRecDepth 100000
section
variable {h:Array Obj}{ca:Array Value}
def xV:(oX h ca).size=h.size+5:=by simp[oX]
def Ay{b:Nat}(hb:b<h.size):(oX h ca)[b]?=h[b]?:=by
 unfold oX;rw[aw (by simp;omega),<-aF,aw (by simp;omega),<-aF,aw (by simp;omega),<-aF,aw (by simp;omega),<-aF,aw hb,<-aF]
def oY(k:Nat):(oX h ca)[h.size+k]?=(#[.cells ca 121,.cells dZ 183,.cells #[.pointer (some ⟨h.size+1,0,none⟩)] 134,.cells kP 190,.cells nc 197]:Array Obj)[k]?:=by
 have e:oX h ca=h ++ #[.cells ca 121,.cells dZ 183,.cells #[.pointer (some ⟨h.size+1,0,none⟩)] 134,.cells kP 190,.cells nc 197]:=by
  apply Array.ext';simp[oX]
 rw[e,Array.getElem?_append_right (by omega)];congr 1;omega
end
noncomputable def zL(Shun:Loc->Prop)(n0:Nat):Fix:={ P:=PP,tM:=190,tW:=197,tT:=183,Mu:=n0+3,Wg:=n0+4,Tb:=n0+1,size:=75,n:=2,Shun }
def Ef(k o:Nat):Prop:=k<3/\k*25<=o/\o<k*25+25
noncomputable def xW(Shun:Loc->Prop)(n0 c np:Nat)(D:jB)(S:Nat->Nat)(dl:Nat->Int)(c':Frame)(l':List Frame)(w₀:World):CB:=
 { zL Shun n0 with c,np,row:=Ef,Fin:=JH (zL Shun n0) np D S dl Ef,Post:=P8 (zL Shun n0) c' l',sE:=n0,w₀ }
noncomputable def ZP(n0 np:Nat)(D:jB)(tr:Tree)(q:Nat->Nat):Gh where
 j:=0
 th:=λ_=>{ pc:=.l0,r:=np }
 wp:=λ_=>.mu
 mp:=.add
 V:=λ_=>⟨0,(·∈dR np D),λ_=>False⟩
 M:=λ_ b=>b=n0\/b=n0+2
 tr:=λ_=>tr
 q:=q
 fu:=λ_=>1000
 s:=⟨{},0,0,0,0⟩
def akp(n np:Nat)(k:1<=np):cD.Inv n ⟨λ_=>{ pc:=.l0,r:=np },{},0⟩:=by
 have z:∀(f:cD.Th->Nat),f { pc:=.l0,r:=np }=0->sumTo n (λi=>f ((λ_=>({ pc:=.l0,r:=np }:cD.Th)) i))=0:=by
  intro f hf;show sumTo n (λ_=>f { pc:=.l0,r:=np })=0;rw[hf]
  induction n with
  |zero=>rfl
  |succ n a=>simp[sumTo,a]
 have b:=z cD.fh rfl;have c:=z cD.fq rfl;have d:=z cD.fk rfl;have e:=z cD.fa rfl;have g:=z cD.fr rfl;have j:=z cD.fw rfl;refine⟨λi _=>⟨?_,?_,?_,?_,?_,?_,?_,?_,?_,?_,?_⟩,?_,?_,?_,?_,?_⟩
 all_goals first
  |(simp;done)
  |(simp;omega)
  |(simp only[b];simp;done)
  |(simp only[j,g,d,e,c];simp;done)
  |skip
def aey{Shun:Loc->Prop}{n0 c np:Nat}{D:jB}{S:Nat->Nat}{dl:Nat->Int}{c':Frame}{l':List Frame}{w₀:World}{tr:Tree}{q:Nat->Nat}:vK (xW Shun n0 c np D S dl c' l' w₀) (ZP n0 np D tr q)=120:=rfl
def UO{Shun:Loc->Prop}{n0 c np:Nat}{D:jB}{S:Nat->Nat}{dl:Nat->Int}{c':Frame}{l':List Frame}{w₀:World}(f:1<=np/\np<=5):nG (xW Shun n0 c np D S dl c' l' w₀):=by
 intro k w w' h hf a;have b:=hf a;refine⟨λd g j i=>?_,λj e l=>?_⟩
 ·refine(h _ ⟨a,by omega,?_⟩).trans (b.put d g j i);have:=oW (s:=S k) f.1 (r:=d);omega
 ·exact(h j e).trans (b.rest j e l)
def JK{Shun:Loc->Prop}{n0 c np:Nat}{D:jB}{S:Nat->Nat}{dl:Nat->Int}{c':Frame}{l':List Frame}{w₀:World}:Jn (xW Shun n0 c np D S dl c' l' w₀):=by
 intro k k' o a h b;obtain⟨_,d,e⟩:=h;obtain⟨_,f,g⟩:=b;have:k=k':=by omega
 exact a this
def Qa{Shun:Loc->Prop}{n0 c np:Nat}{D:jB}{S:Nat->Nat}{dl:Nat->Int}{c':Frame}{l':List Frame}{w₀:World}:GL (xW Shun n0 c np D S dl c' l' w₀):=λ_ _ _ _ h=>h
def MS{o:Nat}(h:o<75):dZ[o]?=some (.int .i64 0):=by
 unfold dZ;rw[aF (by simpa using h)];simp
section
variable {jf:Nat->Value}{jr:List Value}{Shun:Loc->Prop}{np:Nat}{D:jB}{S:Nat->Nat}{dl:Nat->Int}{gn:Nat->ByteArray}{c':Frame}{l':List Frame}
def UP{gs:Array aa}{w w1:World}{t:Trace}{q:Nat->Nat}(x:Cf np 2 D S dl gn w)(P:FE np (S 0))(Q:FE np (S 1))
 (y:∀l,Shun l->l.low w.heap.size/\l.isMemory=true) (z:∀b∈dR np D,∀a':Addr,a'.block=b->¬Shun (.cell a'))
 (n:Ee w (oX w.heap (cA np D)) w1) (J:gs[0]?=some (m6 (CA.mk (cA np D) jf jr) w.heap.size (w.heap.size+1) (w.heap.size+2) (w.heap.size+3) (w.heap.size+4) (c'::l')))
 (K:Leavers PP t gs q) (u:Past Shun (w.heap.size+3) t) (R:∀op∈t,gs.size<=op.g->op.act.touch? = none) :
 ∃tr,MI (xW Shun w.heap.size gs.size np D S dl c' l' w1) (ZP w.heap.size np D tr q) gs w1 t:=by
 have L:0<gs.size:=(Array.getElem?_eq_some_iff.1 J).1;have fW:w1.heap.size=w.heap.size+5:=by rw[n.heap,xV]
 have hold:∀b,b<w.heap.size->w1.heap[b]?=w.heap[b]?:=λb hb=>by rw[n.heap,Ay hb]
 have T:w1.heap[w.heap.size]?=some (.cells (cA np D) 121):=by rw[n.heap];exact oY 0
 have p:w1.heap[w.heap.size+1]?=some (.cells dZ 183):=by rw[n.heap];exact oY 1
 have A:w1.heap[w.heap.size+2]?=some (.cells #[.pointer (some ⟨w.heap.size+1,0,none⟩)] 134):=by rw[n.heap];exact oY 2
 have B:w1.heap[w.heap.size+3]?=some (.cells kP 190):=by rw[n.heap];exact oY 3
 have C:w1.heap[w.heap.size+4]?=some (.cells nc 197):=by rw[n.heap];exact oY 4
 have r:∀b,b∈dR np D->b<w.heap.size:=λb hb=>(x.blk b hb).1;have E:ShAt (zL Shun w.heap.size) w1 ⟨{},0,0,0,0⟩:=⟨B,C⟩
 have U:=Hs (jf:=jf) (jr:=jr) (X:=zL Shun w.heap.size) (V:=⟨0,(·∈dR np D),λ_=>False⟩) (M:=λb=>b=w.heap.size\/b=w.heap.size+2) (bc:=w.heap.size) (bt:=w.heap.size+2) (c:=gs.size) (row:=Ef) (c':=c') (l':=l') (w:=w1) rfl rfl rfl L x P Q
  (λk e j f m=>⟨by omega,f,m⟩)
  ⟨rfl,⟨⟨by show w.heap.size+3≠w.heap.size+4;omega,by show w.heap.size+3≠w.heap.size+1;omega,by show w.heap.size+4≠w.heap.size+1;omega⟩,
    λb hb=>by
     have:=r b hb;exact⟨by show b≠w.heap.size+3;omega,by show b≠w.heap.size+4;omega,by show b≠w.heap.size+1;omega⟩,
    λb hb=>by
     have:b=w.heap.size\/b=w.heap.size+2:=hb
     exact⟨by show b≠w.heap.size+3;omega,by show b≠w.heap.size+4;omega,by show b≠w.heap.size+1;omega⟩⟩,
    λb hb a' ha' hs=>by
     rcases hb with hb|hb
     ·exact z b hb a' ha' hs
     ·have f:a'.block<w.heap.size:=(y _ hs).1;have m:b=w.heap.size\/b=w.heap.size+2:=hb;omega,
    λb hb=>by
     rcases hb with hb|hb
     ·have:=r b hb;omega
     ·have m:b=w.heap.size\/b=w.heap.size+2:=hb;omega,
    λb hb=>by
     rcases hb with hb|hb
     ·exact .inl hb
     ·exact .inr hb⟩
  ⟨⟨⟨_,_,E.1⟩,⟨_,_,E.2⟩,dZ,p,by show dZ.size=75;simp[dZ]⟩,λb hb=>hold b (r b hb),T,A⟩
  (λb hb a' ha' hs=>by
    have f:a'.block<w.heap.size:=(y _ hs).1
    omega) (by omega)
 obtain⟨tr,F⟩:=U;obtain⟨_,_,W⟩:=aes (CA.mk (cA np D) jf jr) w.heap.size (w.heap.size+1) (w.heap.size+2) (w.heap.size+3) (w.heap.size+4) (c'::l');refine⟨tr,?_⟩;have z0:∀a,a<=(ZP w.heap.size np D tr q).j->a=0:=λa d=>Nat.le_zero.1 d;constructor
 case cpos=>exact L
 case size=>rfl
 case sit=>
  intro a d g hg;obtain rfl:=z0 a d;have:g=m6 (CA.mk (cA np D) jf jr) w.heap.size (w.heap.size+1) (w.heap.size+2) (w.heap.size+3) (w.heap.size+4) (c'::l'):=by
   have N:gs[0]?=some g:=hg;rw[J]at N;exact(ag N).symm
  subst this;refine .run (λh=>h) W ?_;have hd:Deaf t (gid (xW Shun w.heap.size gs.size np D S dl c' l' w1) 0)=0:=u.hears;rw[hd];exact F
 case old=>exact λi g f _ O=>K.old i g f O
 case above=>exact K.above
 case sh=>exact E
 case tb=>exact⟨dZ,p,by show dZ.size=75;simp[dZ]⟩
 case mun=>exact akp 2 np x.MC.1
 case fresh=>exact λ_ _ _=>rfl
 case out=>exact λk e=>absurd e (aP _)
 case wi=>
  refine⟨rfl,λ_=>by show 0<2;omega,λh=>absurd rfl h,Nat.zero_le _,λ_=>⟨rfl,rfl,rfl,rfl⟩,(λh=>by cases h),(λh=>by rcases h with h|h|h<;>cases h),(λv h=>by cases h)⟩
 case fuel=>exact λk e=>absurd e (aP _)
 case fuel0=>rw[aey];show 120+1<=1000;omega
 case oi=>
  constructor
  case ap=>
   intro a d b hb
   rcases hb with hb|hb
   ·have m:b=w.heap.size\/b=w.heap.size+2:=hb;exact⟨by omega,by show b≠w.heap.size+3;omega,by show b≠w.heap.size+4;omega,by show b≠w.heap.size+1;omega⟩
   ·have:=r b hb;exact⟨by omega,by show b≠w.heap.size+3;omega,by show b≠w.heap.size+4;omega,by show b≠w.heap.size+1;omega⟩
  case dj=>exact λa a' d ha' H=>absurd ((z0 a d).trans (z0 a' ha').symm) H
  case self=>
   intro a d b hb hs;have m:b=w.heap.size\/b=w.heap.size+2:=hb;have:=r b hs;omega
  case rows=>exact λa a' d ha' H=>absurd ((z0 a d).trans (z0 a' ha').symm) H
  case base=>
   intro a d b hb;have m:b=w.heap.size\/b=w.heap.size+2:=hb;show w.heap.size<=b;omega
  case num=>intro a d;obtain rfl:=z0 a d;rfl
  case ids=>
   show w.heap.size+3≠w.heap.size+4/\w.heap.size+3≠w.heap.size+1/\w.heap.size+4≠w.heap.size+1/\w.heap.size<=w.heap.size+3/\w.heap.size<=w.heap.size+4/\w.heap.size<=w.heap.size+1/\w.heap.size+3<w1.heap.size/\w.heap.size+4<w1.heap.size/\w.heap.size+1<w1.heap.size;omega
  case main=>rfl
  case rowV=>exact λk e=>absurd e (aP _)
 case shun=>exact y
 case tri=>
  refine TI.ZO u (λl hl=>?_) _ _ R;obtain⟨a,rfl,d⟩:=hl;refine⟨rfl,λY=>?_⟩;have f:a.block<w.heap.size+3:=Y;have m:a.block=w.heap.size+3\/a.block=w.heap.size+4:=d;omega
 case rel=>exact λk e=>absurd e (aP _)
 case norel=>
  intro i hi;obtain⟨op,I,Z⟩:∃op,t[i]?=some op/\op.act=.mark (.release (Go.ConcR.stA (w.heap.size+4))):=by
   unfold Trace.act? at hi
   cases s:t[i]? with
   |none=>rw[s]at hi;cases hi
   |some op=>rw[s]at hi;exact⟨op,rfl,ag hi⟩
  have:=u.seen op (a5 I);rw[Z]at this;have f:w.heap.size+4<w.heap.size+3:=this;omega
 case low=>exact λop I=>MemAct.low_mono (by omega) (u.seen op I)
 case fin=>exact λk e=>absurd e (aP _)
 case acq=>exact λh=>by cases h
 case tape=>rfl
 case output=>rfl
 case os=>exact .refl _
 case kept=>exact λ_ _=>rfl
 case rowok=>exact JK (Shun:=Shun) (n0:=w.heap.size) (c:=gs.size) (np:=np) (D:=D) (S:=S) (dl:=dl) (c':=c') (l':=l') (w₀:=w1)
 case un=>
  intro k _ o ho;obtain⟨f,m,O⟩:=ho;show w1.cell? ⟨w.heap.size+1,o,none⟩=_;simp only[ai,p];exact MS (by omega)
end
end Go.Proofs
