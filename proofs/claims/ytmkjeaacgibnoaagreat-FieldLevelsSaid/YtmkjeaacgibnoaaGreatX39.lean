/- Part of the proof of FieldLevels: see X45. -/
import Derived.Test.YtmkjeaacgibnoaaGreatX38
set_option linter.all false
open Go.Proofs renaming getElem?_lt'->ab
open Go.Lib renaming hid->ac
open Go.RowKit.Below renaming refl->ad
open Nat renaming le_refl->ae,le_trans->ag,lt_of_lt_of_le->ai,reduceAdd->ao,reduceSub->ap
open List renaming range->aq,size_toArray->ar,length_cons->aw,length_nil->aB,push_toArray->aF,append_toArray->aI,nil_append->aJ,cons_append->aL
open Bool renaming and_eq_true->aP
open Go.World renaming putObj->aT,cell?->a5,size_alloc->a6,grownBy_alloc->a7,putObj_heap_same->a8,putObj_heap_other->a9
open Array renaming replicate_succ->ba,replicate_zero->bc
namespace Go.Proofs
open Go.RowKit Go.Shelf
attribute [local go_sem] Oper.semAt_some
set_option maxRecDepth 100000
set_option maxHeartbeats 4000000
structure aaR(B:Nat)(w w':World):Prop where
 os:w'.os=w.os
 tape:w'.tape=w.tape
 output:w'.output=w.output
 size:w.heap.size<=w'.heap.size
 block:∀k,k<w.heap.size->k≠B->w'.heap[k]?=w.heap[k]?
def uL(B:Nat)(a hi x y:Int)(w:World)(h:w.heap[B]?=some (.cells #[.int .i64 a,.int .i64 hi] 35))(b : -10000<=a/\a<=10000)(c : -10000<=hi/\hi<=10000)(d:0<=x/\x<=100)(f:0<=y/\y<=100) :
 Calls PL 145 #[.agg #[.int .i64 x,.int .i64 y],.pointer (some ⟨B,0,none⟩)] w λe w'=>e=.returned (.agg #[.int .i64 (a+x),.int .i64 (hi+y)])/\w'.heap[B]?=some (.cells #[.int .i64 (a+x),.int .i64 (hi+y)] 35)/\aaR B w w':=by
 obtain⟨n,t1,u0,u1⟩:=uJ h;have o:=ab h;have H:=ac h;clear h;obtain⟨b,p⟩:=b;obtain⟨c,q⟩:=c;obtain⟨d,i⟩:=d;obtain⟨f,j⟩:=f
 go_enter (fx (by decide) Tryz.func145),Tryz.ntmps145
 go_wp2
 have g:=yL (u:=.int .i64 (a+x)) (v:=.int .i64 (hi+y)) H.out;refine bodyPost_ret (v:=.agg #[.int .i64 (a+x),.int .i64 (hi+y)]) ?_ rfl ⟨rfl,?_,rfl,rfl,rfl,by simp;omega,λk l m=>?_⟩
 ·simp[results,Tryz.results145,go_sem]
 ·have hl:=ab g;exact(((ad _ _).alloc (ae _) _).alloc (by simp) _ |>.block B hl).trans g
 ·have hl:k<((w.setCell ⟨B,0,none⟩ (.int .i64 (a+x))).setCell ⟨B,1,none⟩ (.int .i64 (hi+y))).heap.size:=by simpa using l
  exact(((ad _ _).alloc (ae _) _).alloc (by simp) _ |>.block k hl).trans (tv m)
def Ff(C:CD)(p:Nat):Nat:=if p+1=C.n4 then 0 else p+1
def nT(C:CD)(g:Nat):Nat->Nat×Int×Int
 |0=>((C.x5 g).2.1.toNat,(C.x5 g).2.2,(C.x5 g).2.2)
 |k+1=>(Ff C (nT C g k).1,(nT C g k).2.1+(C.x4 (nT C g k).1).n 7+(C.x4 (nT C g k).1).n 9,(nT C g k).2.2+(C.x4 (nT C g k).1).n 8+(C.x4 (nT C g k).1).n 10)
abbrev nR:=Nat×Int×Int×Int×Int
def Nu(C:CD)(g k:Nat):nR:=((nT C g k).1,(nT C g k).2.1,(nT C g k).2.2,(nT C g k).2.1+(C.x4 (nT C g k).1).n 7,(nT C g k).2.2+(C.x4 (nT C g k).1).n 8)
def mD(C:CD)(g n:Nat):List nR:=(aq n).map (Nu C g)
def uM(C:CD)(g n:Nat):mD C g (n+1)=mD C g n++[Nu C g n]:=by simp[mD,List.range_succ]
def R7(C:CD)(g n:Nat):(mD C g n).length=n:=by simp[mD]
def R8(C:CD)(g:Nat){k n:Nat}(h:k<n):mD C g k++[Nu C g k] <+: mD C g n:=by
 rw[<-uM];have e:aq n=aq (k+1)++(aq (n-(k+1))).map (k+1 + ·):=by
  rw[<-List.range_add];congr 1;omega
 unfold mD;rw[e,List.map_append];exact List.prefix_append _ _
structure yR(C:CD)(g:Nat):Prop where
 g5:g<C.n5
 p4:∀k,(nT C g k).1<C.n4
 m4:C.n4<=5
 lo:∀k,k<=C.n4->0<=(nT C g k).2.1/\(nT C g k).2.1<=12+120*k
 hi:∀k,k<=C.n4->0<=(nT C g k).2.2/\(nT C g k).2.2<=12+120*k
 nn:∀i,i<C.n4->(0<=(C.x4 i).n 7/\(C.x4 i).n 7<=60)/\(0<=(C.x4 i).n 8/\(C.x4 i).n 8<=60)/\(0<=(C.x4 i).n 9/\(C.x4 i).n 9<=60)/\(0<=(C.x4 i).n 10/\(C.x4 i).n 10<=60)
 start:(C.x5 g).2.1=((C.x5 g).2.1.toNat:Int)
def Sa(C:CD)(hc:C.cx=0){g:Nat}(hg:g<C.n5):yR C g:=by
 have d:kA C.p C.n2 C.n3 C.n4 C.x4=0:=ck hc 3 (by omega);have e:pE C.n4 C.n5 C.x5=0:=ck hc 4 (by omega);unfold kA at d
 split at d
 case isFalse=>cases d
 rename_i hb;simp only[bO,aP,decide_eq_true_eq]at hb;have j:∀i,i<C.n4->(0<=(C.x4 i).n 7/\(C.x4 i).n 7<=60)/\(0<=(C.x4 i).n 8/\(C.x4 i).n 8<=60)/\(0<=(C.x4 i).n 9/\(C.x4 i).n 9<=60)/\(0<=(C.x4 i).n 10/\(C.x4 i).n 10<=60):=by
  intro i hi;have a:=ck d i hi;unfold gM at a
  split at a
  case isFalse h=>exact absurd a h
  split at a
  case isFalse=>cases a
  split at a
  ·cases a
  split at a
  case isFalse=>cases a
  split at a
  case isFalse=>cases a
  rename_i m;simp only[eK,aP,decide_eq_true_eq]at m;omega
 obtain⟨hs,s,o⟩:(0<=(C.x5 g).2.1/\(C.x5 g).2.1<C.n4)/\0<=(C.x5 g).2.2/\(C.x5 g).2.2<=12:=by
  unfold pE at e
  split at e
  ·cases e
  have a:=ck e g hg;unfold iI at a
  split at a
  case isFalse h=>exact absurd a h
  split at a
  case isFalse=>cases a
  rename_i q
  split at a
  ·cases a
  split at a
  case isFalse=>cases a
  rename_i r;simp only[bO,aP,decide_eq_true_eq]at q r;omega
 have c:∀k,(nT C g k).1<C.n4:=by
  intro k
  induction k with
  |zero=>simp only[nT];omega
  |succ k l=>
   simp only[nT,Ff]
   split<;>omega
 have b:∀k,k<=C.n4->(0<=(nT C g k).2.1/\(nT C g k).2.1<=12+120*k)/\(0<=(nT C g k).2.2/\(nT C g k).2.2<=12+120*k):=by
  intro k
  induction k with
  |zero=>intro _;simp only[nT];omega
  |succ k l=>
   intro f;have:=l (by omega);have:=j _ (c k);simp only[nT]
   push_cast
   omega
 exact⟨hg,c,by omega,λk f=>(b k f).1,λk f=>(b k f).2,j,by omega⟩
def Fg(n0:Nat)(W a:World):Prop:=(∀k:Nat,k<n0->a.heap[k]?=W.heap[k]?)/\(∀(k:Nat)(c:Array Value)(t:TypeId),W.heap[k]?=some (Obj.cells c t)->t≠61->t≠50->a.heap[k]?=some (Obj.cells c t))/\W.heap.size<=a.heap.size
def Li{n:Nat}{X Y Z:World}(h:Fg n X Y)(k:Fg n Y Z):Fg n X Z:=
 ⟨λb hb=>(k.1 b hb).trans (h.1 b hb),λb c t e a d=>k.2.1 b c t (h.2.1 b c t e a d) a d,ag h.2.2 k.2.2⟩
def Lj{n s:Nat}(d:n<=s)(W:World)(l:Nat)(o o':Obj)(hl:s<=l)(b:W.heap[l]?=some o)(hc:o.isCells=false)(_:o.isWalk=false):Fg n W (W.putObj l o'):=by
 have a:∀k,l≠k->(W.putObj l o').heap[k]?=W.heap[k]?:=λk h=>by
  simp only[aT];exact Array.getElem?_setIfInBounds_ne h
 refine⟨λk f=>a k (by omega),λk c t e _ _=>(a k λh=>?_).trans e,by simp[aT]⟩;rw[<-h,b]at e;cases e;cases hc
def CD.At.keep{C:CD}{w w':World}(h:C.At w)(f:∀k,k<w.heap.size->w'.heap[k]?=w.heap[k]?)(s:w.heap.size<=w'.heap.size):C.At w':=by
 have cell:∀b o,b<w.heap.size->w'.cell? ⟨b,o,none⟩=w.cell? ⟨b,o,none⟩:=λb o hb=>by simp[a5,f b hb]
 have e:∀o,w'.cell? ⟨C.k2,o,none⟩=w.cell? ⟨C.k2,o,none⟩:=λo=>cell _ _ h.h2;have a:∀o,w'.cell? ⟨C.k3,o,none⟩=w.cell? ⟨C.k3,o,none⟩:=λo=>cell _ _ h.h3;have c:∀o,w'.cell? ⟨C.k4,o,none⟩=w.cell? ⟨C.k4,o,none⟩:=λo=>cell _ _ h.h4;have d:∀o,w'.cell? ⟨C.k5,o,none⟩=w.cell? ⟨C.k5,o,none⟩:=λo=>cell _ _ h.h5;obtain⟨m2,m3,m4,m5,h2,h3,h4,h5,s2,s3,s4,s5,Ep,Er,Es,Et,Eu,cu,AD,dB,nj,l4,J5,nm5,FI,HU,J6⟩:=h
 exact⟨m2,m3,m4,m5,by omega,by omega,by omega,by omega,s2,s3,s4,s5,λi hi=>(e _).trans (Ep i hi),λi hi=>(e _).trans (Er i hi),λi hi=>(a _).trans (Es i hi),λi hi=>(a _).trans (Et i hi),λi hi=>(a _).trans (Eu i hi),cu,
  λi hi=>(c _).trans (AD i hi),λi hi j g h2=>(c _).trans (dB i hi j g h2),λi hi=>(c _).trans (nj i hi),λi hi hl=>⟨(l4 i hi hl).1,ai (l4 i hi hl).2 s⟩,
  λi hi j l=>(cell _ _ (l4 i hi (by omega)).2).trans (J5 i hi j l),nm5,λi hi=>(d _).trans (FI i hi),λi hi=>(d _).trans (HU i hi),λi hi=>(d _).trans (J6 i hi)⟩
def VS(x:nR):Array Value:=#[.agg #[.int .i64 x.1,.int .i64 x.2.1,.int .i64 x.2.2.1,.int .i64 x.2.2.2.1,.int .i64 x.2.2.2.2]]
end Go.Proofs
namespace Go.Proofs
open Go.RowKit
set_option maxRecDepth 100000
set_option maxHeartbeats 4000000
def zW(b:Option Addr)(m c n:Nat)(f:Value)(w:World)(a:n<=1):Calls PL 199 #[.slice b m c,.int .i64 0,.int .i64 n,f] w λe w'=>(∃v,e=.returned v)/\w=w':=by
 have d:(n:Int)<=1:=by omega
 go_enter (fx (by decide) Tryz.func199),Tryz.ntmps199
 go_wp2
 go_loop [8] (λv=>v=.int .i64 1) (λ_=>0)
 case atStart=>rfl
 case round=>
  subst hrel
  go_wp2
  go_end0
  exact⟨⟨_,rfl⟩,rfl⟩
def Iy(b:Option Addr)(c n:Nat)(f:Value)(w:World)(a:n<=1):Calls PL 191 #[.slice b n c,.int .i64 n,f] w λe w'=>(∃v,e=.returned v)/\w=w':=by
 have g:(n:Int)<=1:=by omega
 have h:(n:Int)<20:=by omega
 have i:(n:Int)<=20:=by omega
 go_enter (fx (by decide) Tryz.func191),Tryz.ntmps191
 go_wp2
 go_loop [7,8] (λv7 d=>v7=.int .i64 0/\d=.int .i64 20) (λ_ _=>0)
 case atStart=>exact⟨rfl,rfl⟩
 case round=>
  obtain⟨rfl,rfl⟩:=hrel
  go_wp2_with (go_at_call 199;refine(zW _ _ _ n _ _ a).mono ?_;rintro e w'⟨⟨v,rfl⟩,rfl⟩)
  go_loop [6] (λv=>v=.int .i64 20) (λ_=>0)
  case atStart=>rfl
  case round=>
   subst hrel
   go_wp2
   go_end0
   exact⟨⟨_,rfl⟩,rfl⟩
def yS(b:Option Addr)(c n:Nat)(f:Value)(w:World)(a:n<=1):Calls PL 181 #[.slice b n c,f] w λe w'=>(∃v,e=.returned v)/\w=w':=by
 go_enter (fx (by decide) Tryz.func181),Tryz.ntmps181
 go_wp2_with (go_at_call 191;refine(Iy _ _ n _ _ a).mono ?_;rintro e w'⟨⟨v,rfl⟩,rfl⟩)
 go_end0
 exact⟨⟨_,rfl⟩,rfl⟩
def Iz(b:Option Addr)(c n:Nat)(f:Value)(w:World)(a:n<=1):Calls PL 146 #[.slice b n c,f] w λe w'=>e=.returned (.slice b n c)/\w=w':=by
 go_enter (fx (by decide) Tryz.func146),Tryz.ntmps146
 go_wp2_with (go_at_call 181;refine(yS _ _ n _ _ a).mono ?_;rintro e w'⟨⟨v,rfl⟩,rfl⟩)
 go_ret
 exact⟨rfl,rfl⟩
open Go.Shelf
def AbT{b:Type}(B:Nat)(J:b->World->Prop):Prop:=
 ∀s W a row,J s W->W.grownBy a row->(∀r,row=some r->B<=r/\∃c t,W.heap[r]?=some (Obj.cells c t)/\t≠61/\t≠50)->J s a
def afQ{c:Type}(n:Nat)(gf:Nat)(lb:Array Value)(f:c->Array Value)(g:World->World->Prop)(xs:List c)(St:World->Prop):Prop:=
 ∀(l:Nat)(J:List c->World->Prop)(W:World),St W->AbT W.heap.size J->
  (∀a x d,J a d->a++[x] <+: xs->YieldAt Fence.wide (n-1) PL l (f x) d λe b=>e=.returned (.bool true)/\J (a++[x]) b/\g d b)->
  J [] W->CallsIn Fence.wide n PL gf (#[.func (.yield l) #[] #[]]++lb) W λe b=>(∃v,e=.returned v)/\J xs b
attribute [local go_sem] Oper.semAt_some
def aaR.grown{B:Nat}{w w':World}(h:aaR B w w'):w.grownBy w' (some B):=
 ⟨h.os,h.tape,h.output,h.size,λk a b=>h.block k a (λe=>b (by rw[e]))⟩
structure StV(C:CD)(g n0 Bc Bg:Nat)(wb W:World):Prop where
 low:∀k,k<n0->W.heap[k]?=wb.heap[k]?
 size:n0<=W.heap.size
 box:W.heap[Bc]?=some (.cells C.val 121)
 PM:W.heap[Bg]?=some (.cells #[.int .i64 g] 3)
def yT(n:Nat)(hn:2<=n)(v w n0 g:Nat)(C:CD)(s:yR C g)(P:World)(j:P.heap.size=n0)(hA:C.At P):afQ n 144 #[.pointer (some ⟨v,0,none⟩),.pointer (some ⟨w,0,none⟩)] VS (Fg n0) (mD C g C.n4) (StV C g n0 v w P):=by
 intro l J W L hJ hY h0;have HA:=ac hA;have Q:=ac s;have M:=ac L;have HJ:=ac hJ;have HY:=ac hY;have hA0:=ac (hA.keep (by rw[j];exact L.low) (by rw[j];exact L.size));have c1:=L.box;have c2:=L.PM;clear hA L hJ hY;refine callsIn_of_wp (fx (by decide) Tryz.func144) rfl trivial ?_ rfl;simp only[Tryz.ntmps144,ar,aw,aB,ao,ap,ba,bc,aF,aI,aJ,aL];obtain⟨R,S,T,U,f4,N⟩:=bf c1;obtain⟨g0,g1⟩:=aaA c2;have x5:=hA0.out.s5 (by have:=s.g5;omega);have x50:=hA0.out.FI g s.g5;have x51:=hA0.out.HU g s.g5;have x52:=hA0.out.J6 g s.g5;have hg5:=s.g5;rw[x5]at N;have Ts:=ab c1;have hBg:=ab c2;have hh5:=hA0.out.h5;have y:=s.start;have HST:=ac y;clear c1 c2 s y
 gi_wp2
 obtain⟨O,V⟩:∃O:World,O=(W.alloc (.cells #[.string (C.x5 g).1,.int .i64 (C.x5 g).2.1,.int .i64 (C.x5 g).2.2] 67)).alloc (.cells #[.int .i64 (C.x5 g).2.2,.int .i64 (C.x5 g).2.2] 35):=⟨_,rfl⟩
 have b:Below W.heap.size W O:=by rw[V];exact((ad _ _).alloc (ae _) _).alloc (by simp) _
 have X:O.heap[W.heap.size+1]?=some (.cells #[.int .i64 (C.x5 g).2.2,.int .i64 (C.x5 g).2.2] 35):=by
  have Y:=au (W.alloc (.cells #[.string (C.x5 g).1,.int .i64 (C.x5 g).2.1,.int .i64 (C.x5 g).2.2] 67)) (.cells #[.int .i64 (C.x5 g).2.2,.int .i64 (C.x5 g).2.2] 35);rw[a6]at Y;rw[V];exact Y
 have Z:J [] O:=HJ.out [] W O none h0 (by rw[V];exact(a7 W _ none).trans (a7 _ _ none)) (λr e=>by cases e);have HN:=ac X;have HJ0:=ac Z;have HBW:=ac b;rw[<-V];clear V X Z h0
 gi_loopw [7,28] (λv7 z wr=>∃k:Nat,k<=C.n4/\z=.int .i64 k/\v7=.int .i64 (nT C g k).1/\J (mD C g k) wr/\StV C g n0 v w P wr/\wr.heap[W.heap.size+1]?=some (.cells #[.int .i64 (nT C g k).2.1,.int .i64 (nT C g k).2.2] 35)) (λ_ z _=>C.n4-(intOf z).toNat)
 case atStart=>
  refine⟨0,Nat.zero_le _,rfl,by rw[nT,<-HST.out],HJ0.out,⟨λk f=>(b.block k (ai f M.out.size)).trans (M.out.low k f),ag M.out.size b.size,(b.block _ Ts).trans M.out.box,(b.block _ hBg).trans M.out.PM⟩,HN.out⟩
 case round=>
  obtain⟨k,f,rfl,rfl,hJk,hS,hN⟩:=hrel;have HJk:=ac hJk;have t:=ac hS;have c:=ac hN;clear hJk hS hN R S T U f4 N g0 g1 x5 x50 x51 x52 b;by_cases aH:k<C.n4
  ·have i2:(k:Int)<C.n4:=by omega
   have Xi:=Q.out.p4 k;have Cu:=Q.out.lo k (by omega);have hhi:=Q.out.hi k (by omega);have hm4:=Q.out.m4;obtain⟨p,hp⟩:∃p,p=(nT C g k).1:=⟨_,rfl⟩
   obtain⟨a,Sc⟩:∃x,x=(nT C g k).2.1:=⟨_,rfl⟩
   obtain⟨hi,Se⟩:∃x,x=(nT C g k).2.2:=⟨_,rfl⟩
   have alK:Hid (Nu C g k=(p,a,hi,a+(C.x4 p).n 7,hi+(C.x4 p).n 8)):=ac (by rw[Nu,<-hp,<-Sc,<-Se]);have y:Hid (nT C g (k+1)=(Ff C p,a+(C.x4 p).n 7+(C.x4 p).n 9,hi+(C.x4 p).n 8+(C.x4 p).n 10)):=ac (by rw[nT,<-hp,<-Sc,<-Se]);rw[<-hp]at Xi ⊢;rw[<-Sc]at Cu;rw[<-Se]at hhi;rw[<-Sc,<-Se]at c;clear hp Sc Se;obtain⟨⟨n7,n7'⟩,⟨n8,n8'⟩,⟨n9,n9'⟩,⟨n10,atn⟩⟩:=Q.out.nn p Xi;have hAk:=ac (HA.out.keep (by rw[j];exact t.out.low) (by rw[j];exact t.out.size));obtain⟨s4,y0,y1,y2,y3,y4,y5,y6,y7,y8,y9,y10,y11,ER⟩:=yK hAk.out Xi;obtain⟨R,S,T,U,f4,N⟩:=bf t.out.box;rw[s4]at f4;obtain⟨t0,t1,u0,u1⟩:=uJ c.out;have alL:=ab t.out.box;have hNl:=ab c.out;have att:(p:Int)<C.n4:=by omega
   have sv:Hid (((wr.alloc (.cells (C.x4 p).val 73)).alloc (.cells #[.int .i64 p,.int .i64 a,.int .i64 hi,.int .i64 0,.int .i64 0] 61)).heap[W.heap.size+1]?=some (.cells #[.int .i64 a,.int .i64 hi] 35)):=ac ((((ad wr.heap.size wr).alloc (ae _) _).alloc (by simp) _ |>.block _ hNl).trans c.out)
   have sv2:Hid (((wr.alloc (.cells (C.x4 p).val 73)).alloc (.cells #[.int .i64 p,.int .i64 a,.int .i64 hi,.int .i64 0,.int .i64 0] 61)).heap[wr.heap.size+1]?=some (.cells #[.int .i64 p,.int .i64 a,.int .i64 hi,.int .i64 0,.int .i64 0] 61)):=ac (by
    have Y:=au (wr.alloc (.cells (C.x4 p).val 73)) (.cells #[.int .i64 p,.int .i64 a,.int .i64 hi,.int .i64 0,.int .i64 0] 61)
    rw[a6]at Y;exact Y)
   have sp:Hid (((wr.alloc (.cells (C.x4 p).val 73)).alloc (.cells #[.int .i64 p,.int .i64 a,.int .i64 hi,.int .i64 0,.int .i64 0] 61)).heap[wr.heap.size]?=some (.cells (C.x4 p).val 73)):=ac ((((ad (wr.alloc (.cells (C.x4 p).val 73)).heap.size _).alloc (ae _) _).block _ (by simp)).trans (au wr _));have so:Hid (∀k,k<wr.heap.size->((wr.alloc (.cells (C.x4 p).val 73)).alloc (.cells #[.int .i64 p,.int .i64 a,.int .i64 hi,.int .i64 0,.int .i64 0] 61)).heap[k]?=wr.heap[k]?):=ac λk f=>(((ad wr.heap.size wr).alloc (ae _) _).alloc (by simp) _).block k f;clear s4
   gi_wp2_with (refine⟨trivial,λ_=>(by omega),?_⟩;refine(callsIn_wide.2 (uL (W.heap.size+1) a hi _ _ _ sv.out (by omega) (by omega) (by omega) (by omega))).mono ?_;rintro e w2⟨rfl,Vb,iC⟩;have yp:wr.heap.size+2<=w2.heap.size:=(by have:=iC.size;simp at this;omega);have u:=(iC.block (wr.heap.size+1) (by simp) (by omega)).trans sv2.out;have tL:=(iC.block wr.heap.size (by simp;omega) (by omega)).trans sp.out;have fz:=tO u;have v0:w2.cell? ⟨wr.heap.size+1,0,none⟩=some (.int .i64 p):=(by simp[a5,u]);have v1:w2.cell? ⟨wr.heap.size+1,1,none⟩=some (.int .i64 a):=(by simp[a5,u]);have v2:w2.cell? ⟨wr.heap.size+1,2,none⟩=some (.int .i64 hi):=(by simp[a5,u]);have v3:w2.cell? ⟨wr.heap.size+1,3,none⟩=some (.int .i64 0):=(by simp[a5,u]);have v4:w2.cell? ⟨wr.heap.size+1,4,none⟩=some (.int .i64 0):=(by simp[a5,u]);have HN2:=ac Vb;have Kf:=ac iC;have HV2:=ac u;have HP2:=ac tL;clear Vb iC u tL;obtain⟨Wy,m⟩:∃W:World,W=(w2.setCell ⟨wr.heap.size+1,3,none⟩ (.int .i64 (a+(C.x4 p).n 7))).setCell ⟨wr.heap.size+1,4,none⟩ (.int .i64 (hi+(C.x4 p).n 8)):=⟨_,rfl⟩;have A:wr.grownBy Wy (some (W.heap.size+1)):=(by rw[m];exact⟨Kf.out.os,Kf.out.tape,Kf.out.output,by simp only[World.size_setCell];omega,λk f bu=>by rw[aZ (by omega),aZ (by omega),Kf.out.block k (by simp;omega) (λe=>bu (by rw[e]))];exact so.out k f⟩);obtain⟨fn,tmps,assign,body,hy,hR⟩:=HY.out (mD C g k) (Nu C g k) Wy (HJ.out _ wr Wy _ HJk.out A (λr e=>by cases e;exact⟨by omega,_,_,c.out,by decide,by decide⟩)) (R8 C g aH);rw[alK.out,m]at hy;dsimp only[VS]at hy;have B:=ac A;have d:=ac m;clear A m)
   refine⟨λ_=>(by omega),?_⟩;refine RoundIn.mono (by have h:=hR;rw[d.out]at h;exact h) ?_;rintro e i⟨rfl,hJ',D⟩;rw[<-d.out]at D;have hWs:=M.out.size;have E:i.heap[W.heap.size+1]?=some (.cells #[.int .i64 (a+(C.x4 p).n 7),.int .i64 (hi+(C.x4 p).n 8)] 35):=D.2.1 _ _ _ (by rw[d.out,aZ (by omega),aZ (by omega)];exact HN2.out) (by decide) (by decide);have VT:i.heap[wr.heap.size]?=some (.cells (C.x4 p).val 73):=D.2.1 _ _ _ (by rw[d.out,aZ (by omega),aZ (by omega)];exact HP2.out) (by decide) (by decide);have sW:i.heap[v]?=some (.cells C.val 121):=D.2.1 _ _ _ ((B.out.block v alL (λe=>by injection e with e;omega)).trans t.out.box) (by decide) (by decide);have afU:i.heap[w]?=some (.cells #[.int .i64 g] 3):=D.2.1 _ _ _ ((B.out.block w (by have:=t.out.PM;exact ab this) (λe=>by injection e with e;omega)).trans t.out.PM) (by decide) (by decide);have qv:Hid (∀k,k<n0->i.heap[k]?=P.heap[k]?):=ac λk f=>(D.1 k f).trans ((B.out.block k (by omega) (λe=>by injection e with e;omega)).trans (t.out.low k f));have atv:W.heap.size+2<=i.heap.size:=by have:=ab E;omega
   have z9:i.cell? ⟨wr.heap.size,9,none⟩=some (.int .i64 ((C.x4 p).n 9)):=by simp[a5,VT]
   have UZ:i.cell? ⟨wr.heap.size,10,none⟩=some (.int .i64 ((C.x4 p).n 10)):=by simp[a5,VT]
   have fz9:=tO VT;have VU:=ac E;have Ce:=ac sW;have HGR:=ac afU;have HJ':=ac hJ';clear E VT sW afU hJ' D hR hy HY R S T U f4 N t0 t1 u0 u1 y0 y1 y2 y3 y4 y5 y6 y7 y8 y9 y10 y11 v0 v1 v2 v3 v4 fz sv sv2 sp so Kf HN2 HV2 HP2 d yp;by_cases hw:p+1=C.n4
   ·have i5:((p:Int)+1=C.n4):=by omega
    have HW:=ac hw;clear hw
    gi_wp2_with (refine⟨trivial,λ_=>(by omega),?_⟩;refine(callsIn_wide.2 (uL (W.heap.size+1) (a+(C.x4 p).n 7) (hi+(C.x4 p).n 8) _ _ _ VU.out (by omega) (by omega) (by omega) (by omega))).mono ?_;rintro e w3⟨rfl,Hr,F⟩;have H:=(F.block v (by omega) (by omega)).trans Ce.out;obtain⟨R,S,T,U,f4,N⟩:=bf H;have I:=ac H;have K:=ac Hr;have o:=ac F;clear H Hr F)
    refine⟨⟨k+1,aH,by go_num,by rw[y.out];simp only[Ff];rw[if_pos HW.out];rfl,?_,⟨λq hq=>(o.out.block q (by omega) (by omega)).trans (qv.out q hq),by have:=o.out.size;omega,I.out,(o.out.block w (by omega) (by omega)).trans HGR.out⟩,by rw[y.out];exact K.out⟩,by simp only[intOf];omega⟩;rw[uM];exact HJ.out _ i w3 _ HJ'.out o.out.grown (λr e=>by cases e;exact⟨by omega,_,_,VU.out,by decide,by decide⟩)
   ·have i5:¬((p:Int)+1=C.n4):=by omega
    have HW:=ac hw;clear hw
    gi_wp2_with (refine⟨trivial,λ_=>(by omega),?_⟩;refine(callsIn_wide.2 (uL (W.heap.size+1) (a+(C.x4 p).n 7) (hi+(C.x4 p).n 8) _ _ _ VU.out (by omega) (by omega) (by omega) (by omega))).mono ?_;rintro e w3⟨rfl,Hr,F⟩;have H:=(F.block v (by omega) (by omega)).trans Ce.out;obtain⟨R,S,T,U,f4,N⟩:=bf H;have I:=ac H;have K:=ac Hr;have o:=ac F;clear H Hr F)
    refine⟨⟨k+1,aH,by go_num,by rw[y.out];simp only[Ff];rw[if_neg HW.out];go_num,?_,⟨λq hq=>(o.out.block q (by omega) (by omega)).trans (qv.out q hq),by have:=o.out.size;omega,I.out,(o.out.block w (by omega) (by omega)).trans HGR.out⟩,by rw[y.out];exact K.out⟩,by simp only[intOf];omega⟩;rw[uM];exact HJ.out _ i w3 _ HJ'.out o.out.grown (λr e=>by cases e;exact⟨by omega,_,_,VU.out,by decide,by decide⟩)
  ·have By:k=C.n4:=by omega
   have i2:¬((k:Int)<C.n4):=by omega
   clear aH
   gi_wp2
   go_end0
   exact⟨⟨_,rfl⟩,by have h:=HJk.out;first|(rw[By]at h;exact h)|exact h⟩
def yU{q:Type}{g:Operand}{ps:Array Tmp}{assign body:Code}{Q:Exit->Act->World->Prop}{a:Act}{w:World}{n:Nat}(h1:1<=n){gf:Nat}{lb:Array Value}(hg:a.eval g=.func (.func gf) #[] lb)(eg:∀args w,(callFunc gf args).run PL w=.ok (.enter gf args) w)
 {N:q->Array Value} {u:World->World->Prop} {xs:List q} {St:World->Prop} (R:afQ (n-1) gf lb N u xs St) (XJ:∀W,Below w.heap.size w W->St W)
 (y:∀{A B C:World},u A B->u B C->u A C) (F:∀(W:World)(l:Nat)(o o':Obj),w.heap.size<=l->W.heap[l]?=some o->o.isCells=false->o.isWalk=false->u W (W.putObj l o')) (S:∀x,(N x).size=ps.size)
 (I:List q->World->Prop) (H:OwnFrom w.heap.size I) (T:AbT w.heap.size I) (h0:I [] w) (A:q->Act->World->Prop) (hA:∀x a W l o o',W.heap[l]?=some o->o.isCells=false->A x a W->A x a (W.putObj l o'))
 (U:∀{A B:World},w.heap.size<=A.heap.size->A.grownBy B none->u A B)
 (VV:∀(l:Nat)(x:q)(W:World)(K:Act->World->Prop),(∀a' z,W.grownBy z none->A x a' z->K a' z)->
   assign.wpIn (Fence.wide.inRound l) (n-1-1) PL (Exit.then K (λ_ _ _=>False)) { tmps:=(ps.zip (N x)).foldl (λt(p,v)=>t.setIfInBounds p v) a.tmps,defers:=[] } W)
 (V:∀(l:Nat)(b:List q)(x:q)(a':Act)(W:World),I b W->A x a' W->b++[x] <+: xs->body.wpIn (Fence.wide.inRound l) (n-1-1) PL (λe _ z=>match e with | .normal=>KeepsOthers W z/\u W z/\I (b++[x]) z|_=>False) a' W)
 (X:∀(D:Nat)(W:World),w.heap.size<=D->I xs W->W.heap[D]?=some (.deferred (some []))->Q .normal { a with defers:={ target:=.collected D,args:=#[] }::a.defers } W) :
 (Code.rangeFunc g ps assign body).wpIn Fence.wide n PL Q a w:=by
 refine wpIn_rangeFunc λfn tK=>?_;have LJ:Fence.wide.round=none:=rfl;rw[LJ];let m:LoopState->Loop:=λst=>{ state:=st,pending:=none,fn,tmps:=a.tmps,params:=ps,assign,body,defers:=w.heap.size }
 obtain⟨d,J⟩:∃d,d=(w.alloc (.deferred (some []))).alloc (.loop (m .ready)):=⟨_,rfl⟩
 have Y:d.heap[w.heap.size+1]?=some (.loop (m .ready)):=by
  have:=au (w.alloc (.deferred (some []))) (.loop (m .ready));rw[a6]at this;rw[J];exact this
 have hb:Below w.heap.size w d:=by rw[J];exact((ad _ _).alloc (ae _) _).alloc (by simp) _
 have Z:d.heap[w.heap.size]?=some (.deferred (some [])):=by
  rw[J];exact(((ad (w.alloc (.deferred (some []))).heap.size _).alloc (ae _) _).block _ (by simp)).trans (au w _)
 refine⟨w.heap.size+1,[{ target:=.collected w.heap.size,args:=#[] }],d,{ target:=.fn (.func gf) lb,args:=#[.func (.yield (w.heap.size+1)) #[] #[]] },d,gf,#[.func (.yield (w.heap.size+1)) #[] #[]]++lb,d,?_,?_,λf' hf'=>trivial,by simp[invoke,go_sem,eg],λ_=>h1,?_⟩
 ·rw[J];exact run_enterLoop_outer _ _ _ _ _
 ·simp only[resolve,hg];simp[go_sem]
 ·have book:∀{A B:World}{row:Option Nat}{k:Nat}{o:Obj},A.grownBy B row->(∀r,row=some r->d.heap.size<=r/\∃c t,A.heap[r]?=some (Obj.cells c t)/\t≠61/\t≠50)->A.heap[k]?=some o->o.isCells=false->B.heap[k]?=some o:=λ{A B row k o}L E f hc=>by
   refine(L.block k (ab f) λe=>?_).trans f;obtain⟨_,c,t,h,_⟩:=E k e.symm;rw[f]at h;cases h;cases hc
  refine(R (w.heap.size+1) (λb W=>I b W/\W.heap[w.heap.size+1]?=some (.loop (m .ready))/\W.heap[w.heap.size]?=some (.deferred (some []))) d (XJ _ hb) ?_ ?_ ⟨?_,Y,Z⟩).mono ?_
  ·rintro s A B row⟨hi,hl,f⟩L E;exact⟨T s A B row hi L λr e=>⟨ag hb.size (E r e).1,(E r e).2⟩,book L E hl rfl,book L E f rfl⟩
  ·rintro b x W⟨hi,hl,f⟩Nw;refine⟨fn,_,assign,body,run_yield (P:=PL) (args:=N x) hl (S x),roundIn_of_wpIn tK (VV _ x W _ λaa O i hA1=>?_)⟩;have acY:=ab hl;replace hl:=book i (λr e=>by cases e) hl rfl;replace f:=book i (λr e=>by cases e) f rfl;replace hi:=H b W O none hi i (λr e=>by cases e);have aH:=ab hl;refine⟨_,run_beginRound hl rfl,?_⟩;have hl2:(O.putObj (w.heap.size+1) (.loop (m .busy))).heap[w.heap.size+1]?=some (.loop (m .busy)):=a8 aH;have ND:(O.putObj (w.heap.size+1) (.loop (m .busy))).heap[w.heap.size]?=some (.deferred (some [])):=(a9 (by omega)).trans f;refine wpIn_mono (V _ b x aa _ (H.putObj _ hi (by omega) hl rfl) (hA _ _ _ _ _ _ hl rfl hA1) Nw) ?_;rintro e a3 W3 hp
   cases e with
   |normal=>
    obtain⟨M,alT,hi3⟩:=hp;have j:=M.same _ _ hl2 rfl;refine⟨_,_,run_endRound (P:=PL) none j,rfl,⟨H.putObj _ hi3 (by omega) j rfl,a8 (ab j),(a9 (by omega)).trans (M.same _ _ ND rfl)⟩,?_⟩;exact y (y (y (U (by omega) i) (F O (w.heap.size+1) _ _ (by omega) hl rfl rfl)) alT) (F _ _ _ _ (by omega) j rfl rfl)
   |_=>exact hp.elim
  ·exact H [] w d none h0 (by rw[J];exact(a7 w _ none).trans (a7 _ _ none)) (λr e=>by cases e)
  ·rintro e W2⟨⟨v,rfl⟩,hi,hl,f⟩;exact⟨none,_,run_endLoop (P:=PL) hl (by simp[m]),X _ _ (ae _) (H.putObj _ hi (by omega) hl rfl) ((a9 (by omega)).trans f)⟩
def Fi(C:CD)(g:Int)(m5:C.n5<=3)(w:World):Calls PL 108 #[.agg C.val,.int .i64 g] w λe w'=>e=.returned (.bool (bO g 0 (C.n5-1)))/\Below w.heap.size w w':=by
 obtain⟨b,c,d,f,f4,h⟩:=bf (au w (.cells C.val 27));have a:=ac (((ad w.heap.size w).alloc (ae _) (.cells C.val 27)))
 go_enter (fx (by decide) Tryz.func108),Tryz.ntmps108
 go_wp2_with (go_at_call 78;refine(ij _ _ _ _).mono ?_;rintro e w'⟨rfl,rfl⟩)
 go_ret
 exact⟨rfl,a.out⟩
def AX(C:CD)(g:Nat)(w:World):Calls PL 110 #[.agg C.val,.int .i64 g] w λe w'=>e=.returned (.func (.func 144) #[] #[.pointer (some ⟨w.heap.size,0,none⟩),.pointer (some ⟨w.heap.size+1,0,none⟩)])/\w'=(w.alloc (.cells C.val 121)).alloc (.cells #[.int .i64 g] 3):=by
 go_enter (fx (by decide) Tryz.func110),Tryz.ntmps110
 go_wp2
 go_ret
 exact⟨rfl,rfl⟩
def vV(x:nR):List Value:=[.int .i64 x.1,.int .i64 x.2.1,.int .i64 x.2.2.1,.int .i64 x.2.2.2.1,.int .i64 x.2.2.2.2]
def AY(W:World)(base:Nat)(v:Value)(l:List nR):Prop:=W.ownsRow base 61 5 v l.length (l.flatMap vV)
def Sf(w:World)(a:List nR)(W:World):Prop:=∃v,W.heap[w.heap.size]?=some (.cells #[v] 50)/\AY W (w.heap.size+1) v a/\Below w.heap.size w W
def Fj{w W j:World}{row:Option Nat}{a:List nR}(h:Sf w a W)(hg:W.grownBy j row)(b:∀r,row=some r->w.heap.size+1<=r/\∀c,W.heap[r]?≠some (.cells c 61)):Sf w a j:=by
 obtain⟨v,hb,⟨hl,d⟩,l⟩:=h;refine⟨v,(hg.block _ (ab hb) λe=>by have:=(b _ e.symm).1;omega).trans hb,⟨hl,?_⟩,l.grown hg l.size λk e=>by have:=(b _ e).1;omega⟩
 rcases d with d|⟨g,cap,f,e1,m,i,n⟩
 ·exact .inl d
 ·exact .inr ⟨g,cap,f,e1,m,(hg.block _ (ab i) λe=>(b _ e.symm).2 _ i).trans i,n⟩
def Fl(w:World):OwnFrom (w.heap.size+1) (Sf w):=λs W d row hs hg a=>Fj hs hg λr e=>⟨(a r e).1,λc h=>by
 obtain⟨_,o,b,hc⟩:=a r e
 rw[b]at h;cases h;cases hc⟩
def Sg(w:World):AbT (w.heap.size+1) (Sf w):=λs W d row hs hg a=>Fj hs hg λr e=>⟨(a r e).1,λc h=>by
 obtain⟨_,f,t,b,hc,_⟩:=a r e
 rw[b]at h;cases h;exact hc rfl⟩
def qO{w:World}{k:Nat}{x0 x1 x2 x3 x4:Value}{t:TypeId}(h:w.heap[k]?=some (.cells #[x0,x1,x2,x3,x4] t)) :
 w.cell? ⟨k,0,none⟩=some x0/\w.cell? ⟨k,1,none⟩=some x1/\w.cell? ⟨k,2,none⟩=some x2/\w.cell? ⟨k,3,none⟩=some x3/\w.cell? ⟨k,4,none⟩=some x4:=by
 simp[a5,h]
def afX:PL.underlying 50=some (.slice 61):=by kernel_rfl
def aaV:(PL.info? 61).map (λi=>(i.zero,i.size,i.bytes))=some (some (.agg #[.int .i64 0,.int .i64 0,.int .i64 0,.int .i64 0,.int .i64 0]),5,40):=by kernel_rfl
def Ny{W:World}{base e size n:Nat}{v:Value}{xs:List Value}(h:W.ownsRow base e size v n xs):∃b m c,v=.slice b m c:=by
 rcases h.2 with⟨rfl,_⟩|⟨g,cap,a,rfl,_⟩<;>exact⟨_,_,_,rfl⟩
def qm{W:World}{base e size n:Nat}{v:Value}{xs:List Value}(h:W.ownsRow base e size v n xs):∀j,v.ownBlock=some j->∃cur,W.heap[j]?=some (.cells cur e):=by
 rcases h.2 with⟨rfl,_⟩|⟨g,cap,cur,rfl,_,hg,_⟩
 ·intro j e;cases e
 ·intro j e;cases e;exact⟨_,hg⟩
def yV{w:World}{B:Nat}{x u:Value}{t:TypeId}(h:w.heap[B]?=some (.cells #[x] t)):(w.setCell ⟨B,0,none⟩ u).heap[B]?=some (.cells #[u] t):=by
 simp only[World.setCell,Array.getElem?_modify,if_pos,h,Option.map_some];rfl
def VW{W:World}{b:Nat}{x:nR}(h:W.heap[b]?=some (.cells #[.int .i64 x.1,.int .i64 x.2.1,.int .i64 x.2.2.1,.int .i64 x.2.2.2.1,.int .i64 x.2.2.2.2] 61)):∀(j:Nat)(u:Value),(vV x)[j]?=some u->W.cell? ((⟨b,0,none⟩:Addr).add j)=some u:=by
 intro j u e
 match j,e with
 |0,e=>cases e;simp[a5,Addr.add,h]
 |1,e=>cases e;simp[a5,Addr.add,h]
 |2,e=>cases e;simp[a5,Addr.add,h]
 |3,e=>cases e;simp[a5,Addr.add,h]
 |4,e=>cases e;simp[a5,Addr.add,h]
 |j+5,e=>simp[vV]at e
def Nz{r u:Nat}(C:CD)(g:Nat)(O:yR C g)(w:World)(hA:C.At w)(c1:w.heap[r]?=some (.cells C.val 121))(P:w.heap[u]?=some (.cells #[.int .i64 g] 3)) :
 Calls PL 143 #[.slice none 0 0,.func (.func 144) #[] #[.pointer (some ⟨r,0,none⟩),.pointer (some ⟨u,0,none⟩)]] w λe w'=>∃v,e=.returned v/\AY w' (w.heap.size+1) v (mD C g C.n4)/\Below w.heap.size w w':=by
 have HA:=ac hA;have Q:=ac O;have R:=ac c1;have S:=ac P;clear hA O c1 P;refine(callsIn_wide (n:=9)).1 (callsIn_of_wp_marks (fx (by decide) Tryz.func143) rfl trivial ?_ rfl);simp only[Tryz.ntmps143,ar,aw,aB,ao,ap,ba,bc,aF,aI,aJ,aL];refine wpIn_wide.2 ?_
 go_wp2
 obtain⟨i0,hi,mF,dx,wD⟩:=info_parts aaV;refine(wpIn_wide (n:=9)).1 ?_;refine yU (by omega) (gf:=144) (lb:=#[.pointer (some ⟨r,0,none⟩),.pointer (some ⟨u,0,none⟩)]) rfl (enters_of (fx (by decide) Tryz.func144) (by kernel_rfl) rfl)
  (yT 8 (by omega) r u w.heap.size g C Q.out w rfl HA.out)
  (λW T=>?_) Li (λW l o U hl ho hc hw=>Lj (n:=w.heap.size) (s:=w.heap.size+1) (by omega) W l o U (by simpa using hl) ho hc hw) (λ_=>rfl)
  (Sf w) (by rw[a6];exact Fl w) (by rw[a6];exact Sg w) ⟨_,au _ _,⟨rfl,.inl ⟨rfl,rfl⟩⟩,(ad _ _).alloc (ae _) _⟩
  (λx a W=>∃k,W.heap[k]?=some (.cells #[.int .i64 x.1,.int .i64 x.2.1,.int .i64 x.2.2.1,.int .i64 x.2.2.2.1,.int .i64 x.2.2.2.2] 61)/\a={ tmps:=#[.slice none 0 0,.func (.func 144) #[] #[.pointer (some ⟨r,0,none⟩),.pointer (some ⟨u,0,none⟩)],.pointer (some ⟨w.heap.size,0,none⟩),undef,.slice none 0 0,.pointer (some ⟨k,0,none⟩),.func (.func 144) #[] #[.pointer (some ⟨r,0,none⟩),.pointer (some ⟨u,0,none⟩)],.agg #[.int .i64 x.1,.int .i64 x.2.1,.int .i64 x.2.2.1,.int .i64 x.2.2.2.1,.int .i64 x.2.2.2.2],undef,undef,undef,undef,undef],defers:=[] })
  ?A ?kg ?assign ?body ?done
 ·have hb:=((ad w.heap.size w).alloc (ae _) (.cells #[.slice none 0 0] 50))
  have e:∀k,k<w.heap.size->W.heap[k]?=w.heap[k]?:=λk d=>(T.block k (by simp;omega)).trans (hb.block k d);exact⟨e,by have:=T.size;simp at this;omega,(e _ (ab R.out)).trans R.out,(e _ (ab S.out)).trans S.out⟩
 case A=>
  rintro x a W l o U hl hc⟨k,d,ha⟩;refine⟨k,(a9 (λe=>?_)).trans d,ha⟩;subst e;rw[hl]at d;cases d;cases hc
 case kg=>
  intro A B hs hg;rw[a6]at hs;exact⟨λk d=>hg.block k (by omega) (by simp),λk c t h _ _=>(hg.block k (ab h) (by simp)).trans h,hg.size⟩
 case assign=>
  intro l x W K F;dsimp only[VS]
  gi_wp2
  refine F _ _ (a7 W _ none) ⟨W.heap.size,au _ _,rfl⟩
 case body=>
  rintro l p x a W⟨v,i,V,X⟩⟨k,d,rfl⟩Nw;have hlen:p.length<5:=by have:=Nw.length_le;have:=Q.out.m4;rw[R7]at *;simp at *;omega
  have aH:=ab i;have Ll:=ab d;have b0:W.cell? ⟨w.heap.size,0,none⟩=some v:=by simp[a5,i]
  obtain⟨k0,k1,k2,k3,k4⟩:=qO d;have fb:=tO i;have H:=ac V;have Y:=ac X;have Z:=ac i;clear i d V X
  gi_wp2_with (gi_at_builtin;refine wpListIn_append_own _ rfl _ _ _ rfl (w.heap.size+1) 61 i0 _ 5 40 afX hi mF dx wD rfl (by decide) v p.length (p.flatMap vV) rfl (World.ownsRow.alloc H.out _) ⟨W.heap.size,0,none⟩ 1 1 (vV x) rfl rfl (VW (au W _)) (by simp[vV,Value.oneCell']) (by simp only[maxLen];omega) (by omega) (by simp;omega) ?_;intro v' w2 m f _;have I:=cZ H.out;have J:w2.heap[w.heap.size]?=some (.cells #[v] 50):=(f.block _ (by simp;omega) (λe=>by have:=I _ e.symm;omega)).trans ((((ad W.heap.size W).alloc (ae _) _).block _ aH).trans Z.out);have fb2:=tO J;have b2:w2.cell? ⟨w.heap.size,0,none⟩=some v:=(by simp[a5,J]);obtain⟨bb,nn,cc,rfl⟩:=Ny m;have H1:=ac m;have L:=ac f;have M:=ac J;clear m f J)
  have y:∀j,v.ownBlock=some j->∃b,W.heap[j]?=some (.cells b 61):=qm H.out;have I:=cZ H.out;have z:=(ad W.heap.size W).alloc (ae _) (.cells #[.int .i64 x.1,.int .i64 x.2.1,.int .i64 x.2.2.1,.int .i64 x.2.2.2.1,.int .i64 x.2.2.2.2] 61);have yp:W.heap.size<=w2.heap.size:=by have:=L.out.size;simp at this;omega
  have blk:∀q,q<W.heap.size->q≠w.heap.size->some q≠v.ownBlock->(w2.setCell ⟨w.heap.size,0,none⟩ (.slice bb nn cc)).heap[q]?=W.heap[q]?:=λq m f h3=>by
   rw[aZ (Ne.symm f),L.out.block q (by simp;omega) h3,z.block q m]
  refine⟨(KeepsOthers.alloc W _).trans ((KeepsOthers.of_grownBy L.out λj o m f=>?_).trans (KeepsOthers.setCell _ _ _)),⟨λq hq=>blk q (by omega) (by omega) (λe=>by have:=I _ e.symm;omega),λq c t h m f=>(blk q (ab h) (λe=>?_) (λe=>?_)).trans h,by simpa using yp⟩,?_⟩
  ·obtain⟨b,hc⟩:=y _ m;rw[z.block _ (ab hc),hc]at f;cases f;rfl
  ·subst e;rw[Z.out]at h;cases h;exact f rfl
  ·obtain⟨b,hc⟩:=y _ e.symm;rw[hc]at h;cases h;exact m rfl
  ·refine⟨_,yV M.out,?_,?_⟩
   ·unfold AY;rw[List.length_append,List.flatMap_append,List.flatMap_cons,List.flatMap_nil,List.append_nil];obtain⟨e1,E⟩:=H1.out;refine⟨e1,?_⟩
    rcases E with E|⟨gg,cap,b,e2,hb,hg,E⟩
    ·exact .inl E
    ·exact .inr ⟨gg,cap,b,e2,hb,(aZ (by omega)).trans hg,E⟩
   ·exact((Y.out.alloc Y.out.size _).grown L.out (by simp;omega) (λk e=>by have:=I _ e;omega)).setCell (ae _) _
 case done=>
  intro D W hD hI F;rw[a6]at hD;have gE:=ac ((Fl w).putObj (.deferred none) hI (by omega) F rfl);obtain⟨v,i,-,-⟩:=hI;have b0:W.cell? ⟨w.heap.size,0,none⟩=some v:=by simp[a5,i]
  have Ce:=ac i;clear i
  go_wp2
  refine⟨by simp,.inl ⟨_,_,rfl,run_takeDeferred F,?_⟩⟩;obtain⟨v2,eP,N,qA⟩:=gE.out;have e:v=v2:=by
   have h:=(a9 (by omega:w.heap.size≠D)).symm.trans eP |>.symm
   rw[Ce.out]at h;cases h;rfl
  subst e;refine⟨v,?_,v,rfl,N,qA⟩;simp[results,Tryz.results143,go_sem]
def NA{a b:Nat}(C:CD)(g:Nat)(c:yR C g)(w:World)(hA:C.At w)(c1:w.heap[a]?=some (.cells C.val 121))(d:w.heap[b]?=some (.cells #[.int .i64 g] 3)) :
 Calls PL 109 #[.func (.func 144) #[] #[.pointer (some ⟨a,0,none⟩),.pointer (some ⟨b,0,none⟩)]] w λe w'=>∃v,e=.returned v/\AY w' (w.heap.size+1) v (mD C g C.n4)/\Below w.heap.size w w':=by
 have i:=ac hA;have j:=ac c;have k:=ac c1;have l:=ac d;clear hA c c1 d
 go_enter (fx (by decide) Tryz.func109),Tryz.ntmps109
 go_wp2_with (go_at_call 143;refine(Nz C g j.out w i.out k.out l.out).mono ?_;rintro e w'⟨v,rfl,f,h⟩;have m:=ac f;have n:=ac h;clear f h)
 go_ret
 exact⟨_,rfl,m.out,n.out⟩
end Go.Proofs
