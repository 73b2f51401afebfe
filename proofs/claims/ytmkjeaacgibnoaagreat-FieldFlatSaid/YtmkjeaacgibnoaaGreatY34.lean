/- Part of the proof of FieldFlat and FieldMarshals. -/
import Derived.Test.YtmkjeaacgibnoaaGreatY33
set_option linter.all false
open List renaming range_succ->aa,filter_append->ab,mem_range->ac,getD_eq_getElem?_getD->ad,getElem?_map->ae,mem_of_find?_eq_some->ag,getElem?_toArray->ai,getElem?_cons_succ->ao,getElem?_cons_zero->ap,setIfInBounds_toArray->aq,set_cons_zero->ar,set_cons_succ->aw
open Go.Proofs renaming getElem?_lt'->aB
open Go.World renaming cell?->aF,setCell->aH
open Option.some renaming injEq->aI
open Bool renaming and_eq_true->aJ,or_eq_true->aP
open Go.Lib renaming hid->aT
open Go.RowKit.Below renaming refl->a5
open Nat renaming le_refl->a6,lt_or_ge->a7,zero_le->a8
open Go.Act renaming put->a9
open Go.aU renaming of_heap->ba
namespace Go.Proofs
open Go.RowKit Go.Shelf
attribute [local go_sem] Oper.semAt_some
set_option maxRecDepth 100000
set_option maxHeartbeats 1000000
def am1(C:CD)(w:World)(j:Nat)(vs:Nat->Value)(W:World):Prop:=
 (j=10->∃k,vs 10=.pointer (some ⟨k,0,none⟩)/\w.heap.size<k/\Six W k)/\(j=11->∃k,vs 10=.pointer (some ⟨k,0,none⟩)/\w.heap.size<k/\W.heap[k]?=some (.cells C.val 121))
def yZ(m:Int)(p:Nat):Int:=kU je p m 2 0 false
def uN(m:Int)(p:Nat):List Int:=((List.range p).filter λq=>yZ m q != 2).map fun(q:Nat)=>(q:Int)+1
def IL{m:Int}{p:Nat}(h:yZ m p=2):uN m (p+1)=uN m p:=by
 simp[uN,aa,ab,h]
def IM{m:Int}{p:Nat}(h:yZ m p≠2):uN m (p+1)=uN m p++[(p:Int)+1]:=by
 simp[uN,aa,ab,h]
def V7{m:Int}{p:Nat}:(p:Int)+1∉uN m p:=by
 simp only[uN,List.mem_map,List.mem_filter,ac,not_exists,not_and,and_imp];intro q a _ e;omega
abbrev zn:Int->Value:=λn=>.int .i64 n
structure KQ(C:CD)(w:World)(kx kt:Nat)(W:World):Prop where
 box:W.heap[w.heap.size]?=some (.cells C.val 27)
 bx:W.heap[kx]?=some (.cells C.val 121)
 row:Row W kt (je.map bh)
 low:Below w.heap.size w W
def KQ.on{C:CD}{w W b:World}{c d:Nat}(h:KQ C w c d W)(a:Below W.heap.size W b):KQ C w c d b:=
 ⟨(a.block _ (aB h.box)).trans h.box,(a.block _ (aB h.bx)).trans h.bx,h.row.on a,Below.on h.low a⟩
def KQ.turned{C:CD}{w W l:World}{m i b:Nat}{o:Obj}(h:KQ C w m i W)(d:gv W l b)(hb:W.heap[b]?=some o)(n:∀c t f,o≠.cells c t f)(q:w.heap.size<=b):KQ C w m i l:=by
 have p:∀{k:Nat}{c:Array Value}{t:TypeId}{f:Nat×Nat},W.heap[k]?=some (.cells c t f)->k≠b:=λ{k c t f}e g=>by
  rw[g,hb]at e;cases e;exact n _ _ _ rfl
 refine⟨(d.block _ (p h.box)).trans h.box,(d.block _ (p h.bx)).trans h.bx,⟨by rw[d.size];exact h.row.1,λj v e=>(d.cell (a:=⟨i,j,none⟩) λg=>?_).trans (h.row.2 j v e)⟩,h.low.trans (d.below q)⟩;have:=h.row.2 j v e;simp only at g;subst g;simp only[aF,hb]at this
 cases o with
 |cells c t f=>exact n c t f rfl
 |_=>simp at this
def Sy:Ir je:=by
 have h:∀j,j<75->-10000<=je.getD j 0/\je.getD j 0<=10000:=by decide
 have k:∀j,¬j<75->je.getD j 0=0:=λj a=>by
  rw[ad,List.getElem?_eq_none (by show je.length<=j;have:je.length=75:=rfl;omega)];rfl
 exact⟨rfl,λj=>by by_cases a:j<75;exact(h j a).1;rw[k j a];decide,λj=>by by_cases a:j<75;exact(h j a).2;rw[k j a];decide⟩
def Sz(C:CD)(k p:Nat)(m:Int)(w:World)(a:Row w k (je.map bh))(b:C.n5=2)(c:p<5) :
 Calls PL 99 #[.agg C.val,.pointer (some ⟨k,0,none⟩),.int .i64 p,.int .i64 m] w (aO (.int .i64 (yZ m p)) w):=by
 have h:=Fa C k p m je Sy w a (by omega) c;have e:kU je p m C.n5 0 false=yZ m p:=by rw[b];rfl
 rw[e]at h;exact h
def XO(m:Int):List Int:=if m=5 then[2,3,0] else[]
def A6(m:Int):Int:=if m=5 then 110 else 0
def SC(m:Int):Bool:=decide (m=5)
def zb(m:Int):Nat:=if m=5 then 2 else 1
def Ln(m:Int)(i:Nat):SW:=if i=0 then[(2,[2],0)] else if m=5 then(if i=1 then[(2,[2],0),(3,[2,3],30)] else[(2,[2],0),(3,[2,3],30),(0,[2,3,0],110)]) else[(2,[2],0)]
def tP(_:Int)(i:Nat):List Int:=if i=0 then[] else if i=1 then[2] else[2,3]
def stA(m:Int)(i:Nat):Int:=if i=0 then 2 else if m=5 then(if i=1 then 3 else 0) else -1
def V8{m:Int}(b:m=5\/m=3){i:Nat}(hi:i<=zb m):(∀j x,(Ln m i)[j]?=some x->x.1∉tP m i->x.1=stA m i/\j=i)/\(stA m i = -1\/∃x,(Ln m i)[i]?=some x/\x.1∉tP m i):=by
 rcases b with rfl|rfl
 ·obtain rfl|rfl|rfl:i=0\/i=1\/i=2:=by have:zb 5=2:=rfl;omega
  ·exact⟨λj x h _=>by match j,h with
    |0,h=>cases h;exact⟨rfl,rfl⟩,.inr ⟨_,rfl,by decide⟩⟩
  ·exact⟨λj x h a=>by match j,h with
    |0,h=>cases h;exact absurd (by decide) a
    |1,h=>cases h;exact⟨rfl,rfl⟩,.inr ⟨_,rfl,by decide⟩⟩
  ·exact⟨λj x h a=>by match j,h with
    |0,h=>cases h;exact absurd (by decide) a
    |1,h=>cases h;exact absurd (by decide) a
    |2,h=>cases h;exact⟨rfl,rfl⟩,.inr ⟨_,rfl,by decide⟩⟩
 ·obtain rfl|rfl:i=0\/i=1:=by have:zb 3=1:=rfl;omega
  ·exact⟨λj x h _=>by match j,h with
    |0,h=>cases h;exact⟨rfl,rfl⟩,.inr ⟨_,rfl,by decide⟩⟩
  ·exact⟨λj x h a=>by match j,h with
    |0,h=>cases h;exact absurd (by decide) a,.inl rfl⟩
def uO{R:List WE}{S:SW}(h:R.map strip=S){j:Nat}{x:WE}(a:R[j]?=some x):S[j]?=some (strip x):=by rw[<-h,ae,a];rfl
def SD{m:Int}(j:m=5\/m=3){i:Nat}(hi:i<=zb m)(a:stA m i<=0){W:World}{b:Nat}{R:List WE}(f:R.map strip=Ln m i)(h:jy W b R) :
 ∃p n c,(Instr.lookup 140 (.map (some b)) (.int .i64 0) true).run PL W=.ok (.tuple #[.agg #[.slice p n c,.int .i64 (A6 m)],.bool (SC m)]) W/\bB W (.slice p n c) (XO m):=by
 rcases j with rfl|rfl
 ·obtain rfl:i=2:=by
   have k:zb 5=2:=rfl
   match i,a with
   |0,a=>exact absurd a (by decide)
   |1,a=>exact absurd a (by decide)
   |2,_=>rfl
   |i+3,_=>omega
  have hf:=nE f 0
  cases e:R.find? (λx=>x.1==0) with
  |none=>rw[e]at hf;cases hf
  |some x=>
   rw[e]at hf;have d:some ((0:Int),[(2:Int),3,0],(110:Int))=some (strip x):=hf;obtain⟨x1,x2,x3,x4⟩:=x;simp only[strip,aI,Prod.mk.injEq]at d;obtain⟨rfl,rfl,rfl⟩:=d;have g:=h.reads _ (ag e);have hl:=Sw h.map e;simp only[nD]at hl;have l:bB W x2 [2,3,0]:=g;obtain⟨p,c,rfl,_⟩:=l;exact⟨p,_,c,hl,g⟩
 ·obtain rfl:i=1:=by
   have k:zb 3=1:=rfl
   match i,a with
   |0,a=>exact absurd a (by decide)
   |1,_=>rfl
   |i+2,_=>omega
  have hf:=nE f 0;have e:R.find? (λx=>x.1==0)=none:=by
   cases e:R.find? (λx=>x.1==0) with
   |none=>rfl
   |some x=>rw[e]at hf;cases hf
  exact⟨none,0,0,Sx h.map e,⟨none,0,rfl,λh=>absurd h (by decide)⟩⟩
def V9{m:Int}{i:Nat}(b:(∀j x,(Ln m i)[j]?=some x->x.1∉tP m i->x.1=stA m i/\j=i)/\(stA m i = -1\/∃x,(Ln m i)[i]?=some x/\x.1∉tP m i)){R:List WE}(c:R.map strip=Ln m i){seen:Array Nat}{f:Bool}{u:Value}
 (hv:u=.int .i64 (if f then stA m i else -1)) (hf:f=true↔∃j x,R[j]?=some x/\seen.contains j=true/\x.1∉tP m i) (al:∀j,j<R.length->seen.contains j=true):u=.int .i64 (stA m i):=by
 rw[hv]
 rcases b.2 with h|⟨x,a,d⟩
 ·cases f<;>simp[h]
 ·have:f=true:=by
   rw[<-c,ae]at a
   cases e:R[i]? with
   |none=>rw[e]at a;cases a
   |some y=>
    rw[e]at a;cases a;exact hf.2 ⟨i,y,e,al i (List.getElem?_eq_some_iff.1 e).1,d⟩
  rw[this];rfl
def ab2{m:Int}{i:Nat}(a:(∀j x,(Ln m i)[j]?=some x->x.1∉tP m i->x.1=stA m i/\j=i)/\(stA m i = -1\/∃x,(Ln m i)[i]?=some x/\x.1∉tP m i))(d:0<stA m i):stA m i∉tP m i:=by
 rcases a.2 with h|⟨x,c,b⟩
 ·omega
 ·rw[<-(a.1 i x c b).1];exact b
def jy.turned{W a:World}{b c:Nat}{R:List WE}(h:jy W b R)(d:gv W a c)(hc:∃o,W.heap[c]?=some o/\∀x t f,o≠.cells x t f)(g:b≠c):jy a b R:=by
 obtain⟨o,i,j⟩:=hc;exact⟨(d.block _ g).trans h.map,λx e=>jN (h.reads x e) (h.ne x e) d i j,h.ne⟩
def Lo{m:Int}(b:m=5\/m=3){i:Nat}(hi:i<=zb m)(a:0<stA m i):i+1<=zb m/\tP m i++[stA m i]=tP m (i+1)/\N0 (uN m 3) (tP m (i+1)) (stA m i) (Ln m i) 4=Ln m (i+1)/\okQ (uN m 3) (tP m (i+1)) (stA m i) (Ln m i)=true/\stA m i<=3:=by
 rcases b with rfl|rfl
 ·obtain rfl|rfl|rfl:i=0\/i=1\/i=2:=by have:zb 5=2:=rfl;omega
  ·exact⟨by decide,by decide,by decide +kernel,by decide +kernel,by decide⟩
  ·exact⟨by decide,by decide,by decide +kernel,by decide +kernel,by decide⟩
  ·exact absurd a (by decide)
 ·obtain rfl|rfl:i=0\/i=1:=by have:zb 3=1:=rfl;omega
  ·exact⟨by decide,by decide,by decide +kernel,by decide +kernel,by decide⟩
  ·exact absurd a (by decide)
def ab3{c d:List Int}{a:Int}{S:SW}(h:okQ c d a S=true){q:Nat}(f:q<4):∃x,(N0 c d a S q).find? (λx=>x.1==a)=some x/\x.2.1.length<=10/\0<=x.2.2/\x.2.2<=1000/\(V6 c a q=false->XN a q∉d->(N0 c d a S q).find? (λx=>x.1==XN a q)=none):=by
 simp only[okQ,List.all_eq_true,ac]at h;have h:=h q f
 cases e:(N0 c d a S q).find? (λx=>x.1==a) with
 |none=>rw[e]at h;cases h
 |some x=>
  rw[e]at h;simp only[aJ,aP,decide_eq_true_eq,Option.isNone_iff_eq_none]at h;obtain⟨⟨⟨g,i⟩,j⟩,b⟩:=h;refine⟨x,rfl,g,i,j,λk1 k2=>?_⟩
  rcases b with(b|b)|b
  ·rw[k1]at b;cases b
  ·exact absurd b k2
  ·exact b
def Ft(W:World)(r:Nat):Nat:=match W.heap[r]? with
 |some (.mapIter _ n seen _)=>Fs n seen
 |_=>0
def Fu{W:World}{r b n:Nat}{seen:Array Nat}(h:tE W r b n seen):Ft W r=Fs n seen:=by
 have a:W.heap[r]?=some (.mapIter (some b) n seen n):=h;simp only[Ft,a]
def tE.on{W a:World}{r b n:Nat}{seen:Array Nat}(h:tE W r b n seen)(c:Below W.heap.size W a):tE a r b n seen:=(c.block _ (aB h)).trans h
def ab4(W:World)(b:Nat):Nat:=match W.heap[b]? with
 |some (.map es _)=>es.size
 |_=>0
def Fv{W:World}{b:Nat}{l:List Int}(h:aU W zn b l):ab4 W b=l.length:=by
 obtain⟨es,c,a,d,_⟩:=h;have:=congrArg List.length d;simp only[ab4,a];simpa using this
structure Wb(n0:Nat)(xp:List Int)(tq n:Int)(b:Bool)(j:Nat)(vs:Nat->Value)(W:World):Prop where
 c4:j=4->b=false->eO 3 W n0 (vs 4) xp
 c6:j=6->b=false->∃k,vs 6=.slice (some ⟨k,0,none⟩) 1 1/\W.heap[k]?=some (.cells #[.int .i64 tq] 3)
 c7:j=7->eO 3 W n0 (vs 7) (xp++[tq])
 c15:j=15->vs 15=.agg #[vs 7,.int .i64 n]
 c16:j=16->∃k,vs 16=.pointer (some ⟨k,0,none⟩)/\n0<=k/\W.heap[k]?=some (.cells #[.slice none 0 0,.int .i64 0] 139)
def zc(a b:Value)(W:World):(Instr.field 139 (.agg #[a,b]) 0).run PL W=.ok a W:=by kernel_rfl
def ze(a b:Value)(W:World):(Instr.field 139 (.agg #[a,b]) 1).run PL W=.ok b W:=by kernel_rfl
def A8{W:World}{base e size n B o:Nat}{v u:Value}{xs:List Value}(h:W.ownsRow base e size v n xs)(c:∀j,v.ownBlock=some j->j≠B):(W.setCell ⟨B,o,none⟩ u).ownsRow base e size v n xs:=by
 obtain⟨b,h⟩:=h
 rcases h with h|⟨g,cap,a,rfl,hb,hg,d⟩
 ·exact⟨b,.inl h⟩
 ·refine⟨b,.inr ⟨g,cap,a,rfl,hb,?_,d⟩⟩;have f:g≠B:=c g rfl;simp only[aH,Array.getElem?_modify,if_neg (Ne.symm f)];exact hg
def Wc{W:World}{r:Nat}{x0 x1 u0 u1:Value}{t:TypeId}(h:W.heap[r]?=some (.cells #[x0,x1] t)):((W.setCell ⟨r,0,none⟩ u0).setCell ⟨r,1,none⟩ u1).heap[r]?=some (.cells #[u0,u1] t):=by
 simp only[aH,Array.getElem?_modify,if_pos,h,Option.map_some];rfl
def SE{W:World}{b:Nat}{R:List WE}(h:jy W b R)(k:Int):∃p n c l ok,(Instr.lookup 140 (.map (some b)) (.int .i64 k) true).run PL W=.ok (.tuple #[.agg #[.slice p n c,.int .i64 l],.bool ok]) W/\(R.find? (λz=>z.1==k)=none->ok=false):=by
 cases e:R.find? (λz=>z.1==k) with
 |none=>exact⟨none,0,0,0,false,Sx h.map e,λ_=>rfl⟩
 |some x=>
  obtain⟨p,c,a,_⟩:=h.reads _ (ag e);have:=Sw h.map e;simp only[nD,a]at this;exact⟨p,_,c,_,true,this,λh=>by cases h⟩
def ExW(t:Nat):Bool:=t != 4&&t != 6&&t != 7&&t != 15&&t != 16
def Wb.le{n0:Nat}{d:List Int}{g n:Int}{b:Bool}{j:Nat}{vs:Nat->Value}{W i:World}(h:Wb n0 d g n b j vs W)(c:Below W.heap.size W i):Wb n0 d g n b j vs i:=
 ⟨λe f=>(h.c4 e f).on c,λe f=>(h.c6 e f).imp λ_ a=>⟨a.1,(c.block _ (aB a.2)).trans a.2⟩,λe=>(h.c7 e).on c,h.c15,λe=>(h.c16 e).imp λ_ a=>⟨a.1,a.2.1,(c.block _ (aB a.2.2)).trans a.2.2⟩⟩
def Ba{k2 c2 k3 c3 k4 c4 k5 c5 la ca lb cb:Nat}(C:CD)(m:Int)(hm:m=5\/m=3)(c:C=ir k2 c2 k3 c3 k4 c4 k5 c5 la ca lb cb 0)(w:World)(h:C.At w) :
 Calls PL 28 #[.agg C.val,.int .i64 2,.int .i64 m] w λe w'=>∃v,e=.returned (.tuple #[v,.int .i64 (A6 m),.bool (SC m),.int .i64 0])/\bB w' v (XO m)/\Below w.heap.size w w':=by
 have HA:=aT h;have HC:=aT c;have HM:=aT hm;have hf:C.b6 true=0:=by rw[c];kernel_rfl
 have HF:=aT hf;have hb:bO 2 0 (C.p-1)=true:=by rw[c];rfl
 have HB:=aT hb
 have eP:bO m 0 999=true:=by rcases hm with rfl|rfl<;>decide
 have Kf:=aT eP;have HT:Hid (∀W,C.At W->Calls PL 98 #[.agg C.val] W λe w'=>∃k,e=.returned (.pointer (some ⟨k,0,none⟩))/\Row w' k (je.map bh)/\Below W.heap.size W w'):=aT λW hW=>tA (.inl rfl) ⟨k2,c2,k3,c3,k4,c4,k5,c5,la,ca,lb,cb,c⟩ hW;have HP:Hid (-1000<=C.p/\C.p<=1000):=aT (by rw[c];exact⟨by show(-1000:Int)<=4;decide,by show(4:Int)<=1000;decide⟩);have K0:Hid (KB C w (w.alloc (.cells C.val 27))):=aT ⟨au _ _,(a5 _ _).alloc (a6 _) _⟩;clear h c hf hb eP hm
 go_enter (fx (by decide) Tryz.func28),Tryz.ntmps28
 go_upto_region 1 with fail
 have HW:Hid (IntKind.i64.wrap (C.p-1)=C.p-1):=aT (by obtain⟨J0,tL⟩:=HP.out;rw[HC.out];rfl);apply wp_scope_straight;apply wp_seq_k;intro _ _;refine cT 12 (KB C w) (Fo C) (λj=>j != 10&&j != 11) (am1 C w) rfl (by kernel_rfl) (by kernel_rfl)
  (λi vs W W' hle h=>⟨λe=>(h.1 e).imp λk l=>⟨l.1,l.2.1,(hle k).2 l.2.2⟩,λe=>(h.2 e).imp λk l=>⟨l.1,l.2.1,(hle k).1 l.2.2⟩⟩) (λi o ho vs eX W he hd h=>⟨λe=>?_,λe=>?_⟩) ?_ ?_
 ·subst e;rw[<-he];exact h.1 rfl
 ·subst e;have e8:vs 10=eX 10:=by
   simp only[ai,ao,ap,aI]at ho;subst ho;exact hd ⟨10,.data⟩ (cH.2 ⟨by simp,rfl⟩)
  rw[<-e8];exact h.2 rfl
 ·exact⟨K0.out.box,K0.out.low.drew⟩
 ·iterate 10 (
   apply aY
   case hE=>rfl
   case h=>
    intro vs W c hd;obtain⟨f0,f1,f2,f3,f4,f5⟩:=bf c.box;have hwr:=HW.out
    go_simp
    first
    |(go_at_call 78;refine(rM HB.out _).mono ?_;rintro e W'⟨rfl,rfl⟩;exact⟨_,rfl,rfl,c,Fo.on (a5 _ _)⟩)
    |(go_at_call 90;refine(kF HF.out (HA.out.below c.low)).mono ?_;rintro e W'⟨rfl,I⟩;exact⟨_,rfl,rfl,c.on I,Fo.on I⟩)
    |exact⟨rfl,Fo.on (a5 _ _)⟩
   case hb=>intro vs;simp only[a9,aq,ar,aw];rfl)
  apply eH
  case hE=>rfl
  case hb=>intro vs;simp only[a9,aq,ar,aw];rfl
  case h=>
   intro vs W c hd
   go_simp
   have I:=(a5 W.heap.size W).alloc (a6 _) (.cells #[.int .i64 0,.int .i64 0,.slice none 0 0,.slice none 0 0,.slice none 0 0,.slice none 0 0] 121);exact⟨c.on I,Fo.on I,⟨λ_=>⟨W.heap.size,by simp[upd],c.lt,_,_,_,_,_,_,au W _⟩,λe=>absurd e (by decide)⟩⟩
  apply eH
  case hE=>rfl
  case hb=>intro vs;simp only[a9];rfl
  case h=>
   intro vs W c hd;obtain⟨k,l,Ll,x0,x1,x2,x3,x4,x5,J⟩:=(hd ⟨10,.data⟩ (cH.2 ⟨by simp,rfl⟩) rfl).1 rfl;obtain⟨f0,f1,f2,f3,f4,f5⟩:=bf J;have fz:=tO J;rw[l]
   go_simp
   refine⟨⟨(cM (by omega)).trans c.box,Below.zQ c.low (by omega) _ _ _ _ _ _⟩,λq=>?_,⟨λe=>absurd e (by decide),λ_=>⟨k,by simp[upd,l],Ll,nC J⟩⟩⟩;by_cases hq:q=k
   ·subst hq;exact⟨λ_=>nC J,λ_=>⟨_,_,_,_,_,_,nC J⟩⟩
   ·exact⟨λe=>(cM hq).trans e,fun⟨_,_,_,_,_,_,e⟩=>⟨_,_,_,_,_,_,(cM hq).trans e⟩⟩
  refine cP λvs W c hd=>?_;obtain⟨kx,l,Ll,J⟩:=(hd 11 (by omega) rfl).2 rfl;rw[l];obtain⟨f0,f1,f2,f3,f4,f5⟩:=bf J;have HX:=aT J;have HC1:=aT c;have HKL:=aT Ll;clear J c hd l Ll;have hmm:=@run_makeMap PL
  go_upto_region 8 with(first
   |(go_at_call 97;refine(yO Kf.out _).mono ?_;rintro e w'⟨rfl,rfl⟩)
   |(go_at_call 98;go_must (refine(HT.out _ (HA.out.below HC1.out.low)).mono ?_);rintro e w1⟨P,rfl,hR,aL⟩;have K1:Hid (KQ C w kx P w1):=aT ⟨(HC1.out.on aL).box,(aL.block _ (aB HX.out)).trans HX.out,hR,(HC1.out.on aL).low⟩;clear hR aL))
  obtain⟨N,hbM⟩:∃b,b=w1.heap.size:=⟨_,rfl⟩
  obtain⟨W0,kS⟩:∃W0:World,W0=w1.alloc (.map #[] 0):=⟨_,rfl⟩
  have K2:Hid (KQ C w kx P W0):=aT (by rw[kS];exact K1.out.on ((a5 _ _).alloc (a6 _) _));have S2:Hid (aU W0 zn N ([]:List Int)):=aT (by rw[kS,hbM];exact aU.made w1);have ZM:Hid (w.heap.size<=N):=aT (by rw[hbM];exact K1.out.low.size);rw[<-kS,<-hbM];clear kS hbM f0 f1 f2 f3 f4 f5;obtain⟨f0,f1,f2,f3,f4,f5⟩:=bf K2.out.box;have IB:Hid (C.b3=some ⟨C.k3,C.o3,none⟩):=aT (HA.out.s3 (by rw[HC.out];show 0<4;decide));have H3:Hid (C.n3=4):=aT (by rw[HC.out];rfl);have HX3:Hid (C.x3=zU):=aT (by rw[HC.out];rfl);have H4:Hid (C.n4=3):=aT (by rw[HC.out];rfl);have H5:Hid (C.n5=2):=aT (by rw[HC.out];rfl);have hb4:C.b4=some ⟨C.k4,C.o4,none⟩:=HA.out.s4 (by rw[H4.out];decide);have LN:Hid (∀p,p<2->(C.x4 p).ln=1/\(C.x4 p).lane 0=(p:Int)+1):=aT λp hp=>by
   rw[HC.out]
   match p,hp with
   |0,_=>exact⟨rfl,rfl⟩
   |1,_=>exact⟨rfl,rfl⟩
  have SH:Hid (yZ m 2=2):=aT (by rcases HM.out with rfl|rfl<;>rfl)
  go_wp2
  go_loopw [51] (λv51 wr=>∃p:Nat,p<=3/\v51=.int .i64 p/\aU wr zn N (uN m p)/\KQ C w kx P wr) (λv51 _=>3-(intOf v51).toNat)
  case atStart=>exact⟨0,by omega,rfl,S2.out,K2.out⟩
  case round=>
   obtain⟨p,hp,rfl,g,O⟩:=hrel;clear hb4;have HS:=aT g;have HK:=aT O;clear g O f0 f1 f2 f3 f4 f5 K2 S2;by_cases Q:p<3
   ·have i1:(p:Int)<C.n4:=by rw[H4.out];omega
    have hA:=HA.out.below HK.out.low;have s:p<C.n4:=by rw[H4.out];exact Q
    have p0:=hA.AD p s;have p1:=hA.dB p s 1 (by omega) (by omega);have p2:=hA.dB p s 2 (by omega) (by omega);have p3:=hA.dB p s 3 (by omega) (by omega);have p4:=hA.dB p s 4 (by omega) (by omega);have p5:=hA.dB p s 5 (by omega) (by omega);have p6:=hA.dB p s 6 (by omega) (by omega);have p7:=hA.dB p s 7 (by omega) (by omega);have p8:=hA.dB p s 8 (by omega) (by omega);have p9:=hA.dB p s 9 (by omega) (by omega);have Cz:=hA.dB p s 10 (by omega) (by omega);have Fy:=hA.nj p s;clear hA s;obtain⟨xb,hxb⟩:∃x,x=(C.x4 p).lb:=⟨_,rfl⟩
    obtain⟨xn,hxn⟩:∃x,x=(C.x4 p).ln:=⟨_,rfl⟩
    obtain⟨xc,hxc⟩:∃x,x=(C.x4 p).lc:=⟨_,rfl⟩
    rw[<-hxb,<-hxn,<-hxc]at Fy;have HXB:=aT hxb;have HXN:=aT hxn;clear hxb hxn hxc
    go_upto_region 11 with fail
    obtain⟨W1,mG⟩:∃W1:World,W1=wr.alloc (.cells #[.string (C.x4 p).name,.int .i64 ((C.x4 p).n 1),.int .i64 ((C.x4 p).n 2),.int .i64 ((C.x4 p).n 3),.int .i64 ((C.x4 p).n 4),.int .i64 ((C.x4 p).n 5),.int .i64 ((C.x4 p).n 6),.int .i64 ((C.x4 p).n 7),.int .i64 ((C.x4 p).n 8),.int .i64 ((C.x4 p).n 9),.int .i64 ((C.x4 p).n 10),.slice xb xn xc] 73):=⟨_,rfl⟩
    rw[<-mG];have iC:Below wr.heap.size wr W1:=by rw[mG];exact(a5 _ _).alloc (a6 _) _
    have hpk:W1.cell? ⟨wr.heap.size,11,none⟩=some (.slice xb xn xc):=by
     have h:=au wr (.cells #[.string (C.x4 p).name,.int .i64 ((C.x4 p).n 1),.int .i64 ((C.x4 p).n 2),.int .i64 ((C.x4 p).n 3),.int .i64 ((C.x4 p).n 4),.int .i64 ((C.x4 p).n 5),.int .i64 ((C.x4 p).n 6),.int .i64 ((C.x4 p).n 7),.int .i64 ((C.x4 p).n 8),.int .i64 ((C.x4 p).n 9),.int .i64 ((C.x4 p).n 10),.slice xb xn xc] 73);rw[mG];simp only[aF,h];rfl
    have Wf:wr.heap.size<W1.heap.size:=by rw[mG];simp
    have HPK:=aT (And.intro hpk Wf);have K3:=aT (HK.out.on iC);have S3:=aT (aG iC HS.out);clear mG iC hpk Wf p0 p1 p2 p3 p4 p5 p6 p7 p8 p9 Cz Fy;obtain⟨f0,f1,f2,f3,f4,f5⟩:=bf K3.out.bx;by_cases hs:yZ m p=2
    ·go_wp2_with (go_at_call 99;go_must (refine(Sz C P p m _ K3.out.row H5.out (by omega)).mono ?_);rintro e w3⟨rfl,qi⟩;have K4:=aT (K3.out.on qi);have S4:=aT (aG qi S3.out);clear qi)
     exact⟨⟨p+1,Q,by go_num,by rw[IL hs];exact S4.out,K4.out⟩,by simp only[intOf];omega⟩
    ·have d:p<2:=by
      rcases a7 p 2 with h|h
      ·exact h
      ·exact absurd (by rw[show p=2 by omega];exact SH.out) hs
     have zi:xn=1:=by rw[HXN.out];exact(LN.out p d).1
     subst zi
     go_upto_region 12 with(go_at_call 99;go_must (refine(Sz C P p m _ K3.out.row H5.out (by omega)).mono ?_);rintro e w3⟨rfl,qi⟩;have K4:=aT (K3.out.on qi);have S4:=aT (aG qi S3.out);have am6:=aT ((qi.cell (p:=⟨wr.heap.size,11,none⟩) HPK.out.2).trans HPK.out.1);clear qi)
     have hA:=HA.out.below K4.out.low;have s:p<C.n4:=by rw[H4.out];exact Q
     obtain⟨el,ell⟩:=hA.l4 p s (by rw[<-HXN.out];decide);have ec:=hA.J5 p s 0 (by rw[<-HXN.out];decide);rw[(LN.out p d).2,Nat.add_zero]at ec;obtain⟨lk,FH⟩:∃x,x=(C.x4 p).lk:=⟨_,rfl⟩
     obtain⟨lo,Cu⟩:∃x,x=(C.x4 p).lo:=⟨_,rfl⟩
     rw[<-FH,<-Cu]at ec;rw[<-FH]at ell;rw[<-HXB.out,<-FH,<-Cu]at el;subst el;have EC:=aT ec;have ELL:=aT ell;have atU:=am6.out;clear hA s ec ell FH Cu
     go_wp2
     go_loopw [65] (λv65 K=>∃q:Nat,q<=1/\v65=.int .i64 q/\aU K zn N (if q=0 then uN m p else uN m p++[(p:Int)+1])/\KQ C w kx P K/\(q=0->K.cell? ⟨lk,lo,none⟩=some (.int .i64 ((p:Int)+1)))) (λv65 _=>1-(intOf v65).toNat)
     case atStart=>exact⟨0,by omega,rfl,S4.out,K4.out,λ_=>EC.out⟩
     case round=>
      obtain⟨q,hq,rfl,g,O,hc⟩:=hrel;have S5:=aT g;have K5:=aT O;clear g O
      match q,hq with
      |1,_=>
       clear hc
       go_wp2
       exact⟨⟨p+1,Q,by go_num,by rw[IM hs];exact S5.out,K5.out⟩,by simp only[intOf];omega⟩
      |0,_=>
       have ec:=hc rfl;clear hc
       go_wp2_with (at_mapUpdate;go_must (refine dH (enc:=zn) _ rfl _ _ _ 136 3 4 rfl qz ju N (uN m p) rfl S5.out ((p:Int)+1) rfl rfl V7 ?_);intro w5 g y;have S6:=aT g;have K6:=aT (by obtain⟨es,cl,hh,_⟩:=S5.out;exact K5.out.turned y hh (λ_ _ _ e=>by cases e) ZM.out:KQ C w kx P w5);clear g y;go_frame)
       exact⟨⟨1,by omega,rfl,S6.out,K6.out,λh=>absurd h (by decide)⟩,by simp[intOf]⟩
   ·have hp3:p=3:=by omega
    subst hp3;have i1:¬((3:Int)<C.n4):=by rw[H4.out];decide
    clear Q;have ag8:=aU.lt HS.out;have HSZ:=aT ag8;have hBa:=((a5 wr.heap.size wr).alloc (a6 _) (.map #[] 0)).alloc (by simp) (.cells #[.int .i64 2] 3);have M0:Hid (jy ((wr.alloc (.map #[] 0)).alloc (.cells #[.int .i64 2] 3)) wr.heap.size []):=aT ((jy.made wr).on ((a5 _ _).alloc (a6 _) _))
    have R0:Hid (bB ((wr.alloc (.map #[] 0)).alloc (.cells #[.int .i64 2] 3)) (.slice (some ⟨wr.heap.size+1,0,none⟩) 1 1) [2]):=aT ⟨_,_,rfl,λ_=>⟨_,_,rfl,by simp,λj H=>by
     obtain rfl:j=0:=by simp at H;omega
     have h:=au (wr.alloc (.map #[] 0)) (.cells #[.int .i64 2] 3);rw[World.size_alloc]at h;show aF _ ⟨wr.heap.size+1,0+0,none⟩=some (.int .i64 2);simp only[aF,h]
     rfl⟩⟩
    have KA:=aT (HK.out.on hBa);have SA:=aT (aG hBa HS.out);clear hBa ag8
    go_upto_region 20 with(refine tF _ rfl _ _ _ (.inr rfl) wr.heap.size [] (2,.slice (some ⟨wr.heap.size+1,0,none⟩) 1 1,[2],0) rfl rfl rfl M0.out rfl R0.out (by simp) ?_;intro w5 hM y;have MB:=aT hM;have KB5:=aT (KA.out.turned y M0.out.map (λ_ _ _ e=>by cases e) HK.out.low.size);have SB:=aT (ba SA.out (y.block _ (by have:=HSZ.out;omega)));clear hM y)
    obtain⟨S,hbR⟩:∃b,b=wr.heap.size:=⟨_,rfl⟩
    obtain⟨T,hbL⟩:∃b,b=w5.heap.size:=⟨_,rfl⟩
    have ZR:Hid (N<S/\S<T):=aT (by have:=HSZ.out;have:=aB MB.out.map;rw[hbR,hbL];omega);obtain⟨W3,hW3⟩:∃W3:World,W3=w5.alloc (.map #[] 0):=⟨_,rfl⟩
    have hBb:Below w5.heap.size w5 W3:=by rw[hW3];exact(a5 _ _).alloc (a6 _) _
    have K6:=aT (KB5.out.on hBb);have S6:=aT (aG hBb SB.out);have M6:Hid (jy W3 S ([]++[(2,.slice (some ⟨S+1,0,none⟩) 1 1,[2],0)])):=aT (by rw[hbR];exact MB.out.on hBb);have L6:Hid (aU W3 zn T ([]:List Int)):=aT (by rw[hbL,hW3];exact aU.made w5);rw[<-hbR,<-hbL,<-hW3];clear hbR hbL hW3 hBb MB SB KB5 M0 R0 KA SA HK HS HSZ;have FJ:=IB.out;simp only[FJ];refine wp_label ?_
    go_wp2
    go_loopw [19] (λ_ wr=>∃(i:Nat)(R:List WE),i<=zb m/\R.map strip=Ln m i/\jy wr S R/\aU wr zn T (tP m i)/\aU wr zn N (uN m 3)/\KQ C w kx P wr) (λ_ wr=>4-ab4 wr T)
    case atStart=>exact⟨0,_,a8 _,rfl,M6.out,L6.out,S6.out,K6.out⟩
    case round=>
     obtain⟨i,R,hi,hR,XP,hL,g,O⟩:=hrel;have Xn:=aT hR;have MM:=aT XP;have LL:=aT hL;have SS:=aT g;have KK:=aT O;have CO:=aT (V8 HM.out hi);have HI:=aT hi;clear hR XP hL g O hi K6 S6 M6 L6;have hrg:=V4 MM.out
     go_upto_region 22 with fail
     obtain⟨r,hr⟩:∃r,r=wr.heap.size:=⟨_,rfl⟩
     obtain⟨W4,Sn⟩:∃W4:World,W4=wr.alloc (.mapIter (some S) R.length #[] R.length):=⟨_,rfl⟩
     have Ts:Below wr.heap.size wr W4:=by rw[Sn];exact(a5 _ _).alloc (a6 _) _
     have I4:Hid (tE W4 r S R.length #[]):=aT (by rw[Sn,hr];exact au _ _);have M4:=aT (MM.out.on Ts);have L4:=aT (aG Ts LL.out);have S4:=aT (aG Ts SS.out);have K4:=aT (KK.out.on Ts);have ZI:Hid (S<r/\T<r/\N<r/\w.heap.size<=r):=aT (by have h1:=aB MM.out.map;have d:=aU.lt LL.out;have h3:=aU.lt SS.out;have s:=KK.out.low.size;rw[hr];exact⟨h1,d,h3,s⟩);rw[<-Sn,<-hr];clear Sn hr Ts hrg MM SS KK
     go_loopw [19] (λv19 K=>∃(seen:Array Nat)(f:Bool),tE K r S R.length seen/\jy K S R/\aU K zn T (tP m i)/\aU K zn N (uN m 3)/\KQ C w kx P K/\v19=.int .i64 (if f then stA m i else -1)/\(f=true↔∃j x,R[j]?=some x/\seen.contains j=true/\x.1∉tP m i)) (λ_ K=>Ft K r)
     case atStart=>exact⟨#[],false,I4.out,M4.out,L4.out,S4.out,K4.out,rfl,⟨λh=>(by cases h),fun⟨_,_,_,h,_⟩=>by simp at h⟩⟩
     case round=>
      obtain⟨seen,f,hI,XP,hL,g,O,hv,hf⟩:=hrel;have I5:=aT hI;have M5:=aT XP;have L5:=aT hL;have S5:=aT g;have K5:=aT O;have F5:=aT hf;have V5:=aT hv;clear hI XP hL g O hf hv I4 M4 L4 S4 K4
      go_upto_region 23 with(first|(at_mapUpdate;go_must (refine dH (enc:=zn) _ rfl _ _ _ 136 3 4 rfl qz ju T (tP m i) rfl L5.out (stA m i) rfl rfl (ab2 CO.out ha) ?_);intro w6 g y;go_must (have LP:=aT g;have MP:=aT (M5.out.turned y (by obtain⟨es,cl,hh,_⟩:=L5.out;exact⟨_,hh,λ_ _ _ e=>by cases e⟩) (by have:=ZR.out;omega));have SP:=aT (ba S5.out (y.block _ (by have:=ZR.out;omega)));have KP:Hid (KQ C w kx P w6):=aT (by obtain⟨es,cl,hh,_⟩:=L5.out;exact K5.out.turned y hh (λ_ _ _ e=>by cases e) (by have:=ZM.out;have:=ZR.out;omega)));clear g y;obtain⟨f0,f1,f2,f3,f4,f5⟩:=bf KP.out.box)|(at_next;go_must (refine zX _ rfl _ rfl r S R seen rfl I5.out M5.out ?_ ?_);rotate_left;intro j x w' H hs hI y OL hen;obtain⟨xk,xv,L,xl⟩:=x;have JJ:=aT H;have NS:=aT hs;have I6:=aT hI;have T6:=aT y;have M6:=aT OL;have hk6:=aB hI;obtain⟨yb,yc,hxv,hyy⟩:=OL.reads _ (List.mem_of_getElem? H);clear hyy;simp only at hxv;subst hxv;clear H hs hI y OL;simp only[nD]at hen ⊢;rotate_left;intro oh;go_must (have hu:=V9 CO.out Xn.out V5.out F5.out oh);clear oh;go_must (subst hu);rcases Int.lt_or_le 0 (stA m i) with ha|ha;rotate_left;go_must (obtain⟨fp,fn,fc,FH,hrd⟩:=SD HM.out HI.out ha Xn.out M5.out);have RD:=aT hrd;clear hrd))
      ·obtain⟨W7,hW7⟩:∃W7:World,W7=wr.alloc (.cells #[.slice fp fn fc,.int .i64 (A6 m)] 139):=⟨_,rfl⟩
       have hB7:Below wr.heap.size wr W7:=by rw[hW7];exact(a5 _ _).alloc (a6 _) _
       have hc7:W7.heap[wr.heap.size]?=some (.cells #[.slice fp fn fc,.int .i64 (A6 m)] 139):=by rw[hW7];exact au _ _
       have c0:W7.cell? ⟨wr.heap.size,0,none⟩=some (.slice fp fn fc):=by simp[aF,hc7]
       have c1:W7.cell? ⟨wr.heap.size,1,none⟩=some (.int .i64 (A6 m)):=by simp[aF,hc7]
       have RD7:=aT (RD.out.on hB7);have LO7:=aT (Below.on K5.out.low hB7);rw[<-hW7];clear hW7 hB7 hc7 FH
       go_quiet (fail)
       go_wp2
       rw[Exit.noGoto_ret];refine bodyPost_ret (v:=.tuple #[.slice fp fn fc,.int .i64 (A6 m),.bool (SC m),.int .i64 0]) ?_ rfl ⟨_,rfl,RD7.out.on (below_drewN (a5 _ _) _),below_drewN LO7.out _⟩;simp[results,Tryz.results28,go_sem]
      ·go_upto_region 24 with fail
       have L6:aU w' zn T (tP m i):=ba L5.out (T6.out.block _ (by have:=ZI.out;omega));have S6:aU w' zn N (uN m 3):=ba S5.out (T6.out.block _ (by have:=ZI.out;omega));have K6:KQ C w kx P w':=K5.out.turned T6.out I5.out (λ_ _ _ e=>by cases e) ZI.out.2.2.2;obtain⟨W8,hW8⟩:∃W8:World,W8=w'.alloc (.cells #[.slice yb L.length yc,.int .i64 xl] 139):=⟨_,rfl⟩
       have U:Below w'.heap.size w' W8:=by rw[hW8];exact(a5 _ _).alloc (a6 _) _
       have L8:=aT (aG U L6);have S8:=aT (aG U S6);have K8:=aT (K6.on U);have M8:=aT (M6.out.on U);have I8:=aT (I6.out.on U);rw[<-hW8];clear hW8 U L6 S6 K6 hen;have V:=uO Xn.out JJ.out;have XQ:Ft W8 r<Ft wr r:=by
        rw[Fu I8.out,Fu I5.out];exact IK (List.getElem?_eq_some_iff.1 JJ.out).1 NS.out
       have HME:=aT XQ;clear XQ;by_cases J:xk∈tP m i
       ·clear V
        go_wp2_with (at_lookup;go_must (refine aR (enc:=zn) _ rfl _ _ 136 3 4 rfl qz ju (mq _) T (tP m i) rfl L8.out xk rfl true (by simpa using J) ?_))
        refine⟨⟨seen.push j,f,I8.out,M8.out,L8.out,S8.out,K8.out,V5.out,F5.out.trans ⟨fun⟨a,x,h1,d,h3⟩=>⟨a,x,h1,by simp at d⊢;exact .inl d,h3⟩,fun⟨a,x,h1,d,h3⟩=>⟨a,x,h1,?_,h3⟩⟩⟩,HME.out⟩
        rcases Array.mem_push.1 (by simpa using d) with h|h
        ·simpa using h
        ·subst h;rw[JJ.out]at h1;cases h1;exact absurd J h3
       ·have hat:xk=stA m i:=(CO.out.1 j _ V J).1;have LQ:j=i:=(CO.out.1 j _ V J).2;have hf0:f=false:=by
         cases f with
         |false=>rfl
         |true=>
          obtain⟨a,x,h1,d,h3⟩:=F5.out.1 rfl;have e:=(CO.out.1 a _ (uO Xn.out h1) h3).2;rw[e,<-LQ]at d;rw[NS.out]at d;cases d
        have hu:u19=.int .i64 (-1):=by rw[V5.out,hf0];rfl
        subst hu;clear V hf0 hat;have HX:=aT J
        go_wp2_with (at_lookup;go_must (refine aR (enc:=zn) _ rfl _ _ 136 3 4 rfl qz ju (mq _) T (tP m i) rfl L8.out xk rfl false (by simpa using J) ?_))
        have hat:xk=stA m i:=(CO.out.1 j _ (uO Xn.out JJ.out) HX.out).1;exact⟨⟨seen.push j,true,I8.out,M8.out,L8.out,S8.out,K8.out,by rw[hat];rfl,⟨λ_=>⟨j,_,JJ.out,by simp,HX.out⟩,λ_=>rfl⟩⟩,HME.out⟩
      ·obtain⟨ni,nl,nq,nk,na⟩:=Lo HM.out HI.out ha;rw[nl]at LP;have NQ:=aT nq;have NK:=aT nk;have NI:=aT ni;clear nl nq nk ni;obtain⟨E,ab6⟩:∃a,a=stA m i:=⟨_,rfl⟩
       rw[<-ab6]at ha na NQ NK ⊢;have HAT:=aT ab6;clear ab6 f0 f1 f2 f3 f4 f5
       go_loopw [110] (λab7 K=>∃(q:Nat)(R':List WE),q<=4/\ab7=.int .i64 q/\R'.map strip=N0 (uN m 3) (tP m (i+1)) E (Ln m i) q/\jy K S R'/\aU K zn T (tP m (i+1))/\aU K zn N (uN m 3)/\KQ C w kx P K) (λab7 _=>4-(intOf ab7).toNat)
       case atStart=>exact⟨0,R,by omega,rfl,Xn.out,MP.out,LP.out,SP.out,KP.out⟩
       case round=>
        obtain⟨q,R',hq,rfl,hR,XP,hL,g,O⟩:=hrel;have X:=aT hR;have M7:=aT XP;have L7:=aT hL;have S7:=aT g;have K7:=aT O;clear hR XP hL g O MP LP SP KP
        rcases a7 q 4 with Q|ve
        case inr=>
         obtain rfl:q=4:=by omega
         have j1:¬((4:Int)<C.n3):=by rw[H3.out];decide
         go_wp2
         refine⟨?_,?_⟩
         ·exact⟨i+1,R',NI.out,X.out.trans NQ.out,M7.out,L7.out,S7.out,K7.out⟩
         ·rw[Fv L7.out,Fv LL.out,<-(Lo HM.out HI.out (HAT.out▸ha)).2.1];have h5:(tP m i).length<=2:=by unfold tP;split;exact a8 _;split;exact(by decide);exact(by decide)
          simp;omega
        have j1:((q:Int)<C.n3):=by rw[H3.out];omega
        have hq3:q<C.n3:=by rw[H3.out];exact Q
        have hA:=HA.out.below K7.out.low;have g0:=hA.Es q hq3;have g1:=hA.Et q hq3;have g2:=hA.Eu q hq3;rw[HX3.out]at g0 g1 g2;obtain⟨A,hAe⟩:∃x,x=(zU q).1:=⟨_,rfl⟩
        obtain⟨B,hBe⟩:∃x,x=(zU q).2.1:=⟨_,rfl⟩
        obtain⟨G,hGe⟩:∃x,x=(zU q).2.2:=⟨_,rfl⟩
        rw[<-hAe]at g0;rw[<-hBe]at g1;rw[<-hGe]at g2;have bd:0<=A/\A<=3/\0<=B/\B<=3/\0<=G/\G<=80:=by
         rw[hAe,hBe,hGe]
         match q,Q with
         |0,_=>decide
         |1,_=>decide
         |2,_=>decide
         |3,_=>decide
        obtain⟨bA0,bA1,bB0,bB1,bG0,bG1⟩:=bd;have EA:=aT hAe;have EB:=aT hBe;have EG:=aT hGe;clear hAe hBe hGe hA hq3
        go_upto_region 31 with fail
        obtain⟨M,hW9⟩:∃M:World,M=wr.alloc (.cells #[.int .i64 A,.int .i64 B,.int .i64 G] 79):=⟨_,rfl⟩
        have hB9:Below wr.heap.size wr M:=by rw[hW9];exact(a5 _ _).alloc (a6 _) _
        have P9:Hid (M.heap[wr.heap.size]?=some (.cells #[.int .i64 A,.int .i64 B,.int .i64 G] 79)):=aT (by rw[hW9];exact au _ _);have M9:=aT (M7.out.on hB9);have L9:=aT (aG hB9 L7.out);have S9:=aT (aG hB9 S7.out);have K9:=aT (K7.out.on hB9);rw[<-hW9];clear hW9 hB9 g0 g1 g2 M7 L7 S7 K7;have h0:M.cell? ⟨wr.heap.size,0,none⟩=some (.int .i64 A):=by have h:=P9.out;simp[aF,h]
        have h1:M.cell? ⟨wr.heap.size,1,none⟩=some (.int .i64 B):=by have h:=P9.out;simp[aF,h]
        have d:M.cell? ⟨wr.heap.size,2,none⟩=some (.int .i64 G):=by have h:=P9.out;simp[aF,h]
        have Wf:=aB P9.out;have skip:V6 (uN m 3) E q=true->R'.map strip=N0 (uN m 3) (tP m (i+1)) E (Ln m i) (q+1):=λe=>by rw[X.out,N0,stepW,if_pos e]
        have SK:=aT skip;clear skip;by_cases sB:(q:Int)∈uN m 3
        ·go_wp2_with (at_lookup;go_must (refine aR (enc:=zn) _ rfl _ _ 136 3 4 rfl qz ju (mq _) N (uN m 3) rfl S9.out (q:Int) rfl true (by simpa using sB) ?_))
         exact⟨⟨q+1,R',Q,by go_num,SK.out (by simp[V6,sB]),M9.out,L9.out,S9.out,K9.out⟩,by simp only[intOf];omega⟩
        have HCL:=aT sB;clear sB;by_cases hs:A≠E/\B≠E
        ·obtain⟨s1,s2⟩:=hs;have HS:=aT (And.intro s1 s2);have e1:(A != E)=true:=by simpa using s1
         have e2:(B != E)=true:=by simpa using s2
         clear s1 s2
         go_wp2_with (at_lookup;go_must (refine aR (enc:=zn) _ rfl _ _ 136 3 4 rfl qz ju (mq _) N (uN m 3) rfl S9.out (q:Int) rfl false (by simpa using HCL.out) ?_))
         exact⟨⟨q+1,R',Q,by go_num,SK.out (by have h:=HS.out;rw[EA.out,EB.out]at h;simp[V6,h]),M9.out,L9.out,S9.out,K9.out⟩,by simp only[intOf];omega⟩
        have NS:=aT hs
        have NSK:Hid (V6 (uN m 3) E q=false):=aT (by
         have h:=NS.out;rw[EA.out,EB.out]at h;have d:=HCL.out
         cases e:V6 (uN m 3) E q with
         |false=>rfl
         |true=>
          simp only[V6,aP,aJ,decide_eq_true_eq]at e
          rcases e with e|e
          ·exact absurd e d
          ·exact absurd e h)
        have E12:((A != E)=false)\/((A != E)=true/\(B != E)=false):=by
         by_cases h:A=E
         ·exact .inl (by simpa using h)
         ·exact .inr ⟨by simpa using h,by have:B=E:=Classical.byContradiction λd=>hs ⟨h,d⟩;simpa using this⟩
        clear hs
        rcases E12 with e1|⟨e1,e2⟩
        all_goals go_upto_region 33 with(at_lookup;go_must (refine aR (enc:=zn) _ rfl _ _ 136 3 4 rfl qz ju (mq _) N (uN m 3) rfl S9.out (q:Int) rfl false (by simpa using HCL.out) ?_))
        all_goals (
         obtain⟨sx,ox1,ox2,ox3,ox4,ox5⟩:=ab3 NK.out Q;have Y:=nE X.out E;rw[ox1]at Y;obtain⟨x,hxf,V⟩:∃x,R'.find? (λx=>x.1==E)=some x/\sx=strip x:=by
          cases e:R'.find? (λx=>x.1==E) with
          |none=>rw[e]at Y;cases Y
          |some x=>rw[e]at Y;cases Y;exact⟨x,rfl,rfl⟩
         subst V;obtain⟨xk,xv,L,xl⟩:=x;simp only[strip]at ox2 ox3 ox4;have hrx:=M9.out.reads _ (ag hxf);have qH:=M9.out.ne _ (ag hxf);simp only at hrx qH;have HRX:=aT hrx;obtain⟨pb,pc,rfl,hyy⟩:=hrx;obtain⟨kp,op,rfl,Tt,hcp⟩:=hyy (by cases L with|nil=>exact absurd rfl qH|cons _ _=>simp);have HCP:=aT hcp;have HXF:=aT hxf;have OX1:=aT ox1;have OX5:=aT ox5;have OX2:=aT ox2;have HKP:=aT Tt;clear hyy hcp hxf ox1 ox5 Y qH ox2 Tt;obtain⟨F,hto⟩:∃t,t=A+B-E:=⟨_,rfl⟩
         have HTO:Hid (F=XN E q):=aT (by rw[hto,EA.out,EB.out];rfl);rw[<-hto];clear hto;refine iL 17 7 (λ_ W=>Below M.heap.size M W) (λW W'=>Below W.heap.size W W') ExW (Wb M.heap.size L F (xl+G)) (λ_ _ _ _=>True) (λ_ _ _ _ _=>trivial) rfl (by kernel_rfl) (by kernel_rfl) rfl
          (λb i vs W W' hle h=>h.le hle) (λi o ho vs eX W he aaZ b h=>⟨λe=>by subst e;rw[<-he];exact h.c4 rfl,λe=>by subst e;rw[<-he];exact h.c6 rfl,λe=>by subst e;rw[<-he];exact h.c7 rfl,λe=>?_,λe=>by subst e;rw[<-he];exact h.c16 rfl⟩) (a5 _ _).drew ?_
         ·subst e;have e7:vs 7=eX 7:=by
           simp only[ai,ao,ap,aI]at ho;subst ho;exact aaZ ⟨7,.data⟩ (cH.2 ⟨by simp,rfl⟩)
          rw[<-he,<-e7];exact h.c15 rfl
         have HWR:Hid (IntKind.i64.wrap (xl+G)=xl+G):=aT (IntWalk.i64_in _ (by omega))
         iterate 4 (
          apply iK
          case hE=>rfl
          case h=>
           intro vs W b c hd;have hl:=IJ ((c.block _ (aB M9.out.map)).trans M9.out.map) HXF.out;have q0:=zc;have q1:=ze;have g2:=(c.cell (p:=⟨wr.heap.size,2,none⟩) Wf).trans d;have hw:=HWR.out;simp only[nD]at hl
           go_simp
           exact⟨rfl,a5 _ _⟩
          case hb=>intro vs;simp only[a9,aq,ar,aw];rfl)
         apply ey
         case hE=>rfl
         case hb=>intro vs;simp only[a9,aq,ar,aw];rfl
         case h=>
          intro vs W D b hb c jw hi _ hd hP
          go_simp
          refine(tC kp op L.length pc (L.map λz=>.int .i64 z) _ (by simp) (λj u e=>?_) (by simp[Value.oneCell']) (by have:=OX2.out;omega) (Nat.lt_of_lt_of_le HKP.out c.size)).mono ?_
          ·obtain⟨z,hz,rfl⟩:∃z,L[j]?=some z/\u=.int .i64 z:=by
            rw[ae]at e
            cases h:L[j]? with
            |none=>rw[h]at e;cases e
            |some z=>rw[h]at e;cases e;exact⟨z,rfl,rfl⟩
           have H:=(List.getElem?_eq_some_iff.1 hz).1;rw[c.cell (p:=⟨kp,op+j,none⟩) HKP.out,HCP.out j (by omega)];simp[ad,hz]
          ·rintro e W'⟨v,rfl,_,hO,I⟩;exact⟨v,rfl,Below.on c I,λj H hE=>(hd j H hE).le I,⟨λ_ _=>by simp only[upd,if_pos];exact dJ hO c.size,λe=>absurd e (by decide),λe=>absurd e (by decide),λe=>absurd e (by decide),λe=>absurd e (by decide)⟩⟩
         iterate 1 (
          apply iK
          case hE=>rfl
          case h=>
           intro vs W b c hd;have hl:=IJ ((c.block _ (aB M9.out.map)).trans M9.out.map) HXF.out;have q0:=zc;have q1:=ze;have g2:=(c.cell (p:=⟨wr.heap.size,2,none⟩) Wf).trans d;have hw:=HWR.out;simp only[nD]at hl
           go_simp
           exact⟨rfl,a5 _ _⟩
          case hb=>intro vs;simp only[a9,aq,ar,aw];rfl)
         apply ey
         case hE=>rfl
         case hb=>intro vs;simp only[a9,aq,ar,aw];rfl
         case h=>
          intro vs W D b hb c jw hi _ hd hP;have I:=(a5 W.heap.size W).alloc (a6 _) (.cells #[.int .i64 F] 3);have HBC:=aT (Below.on c I);clear c
          go_simp
          exact⟨HBC.out,λj H hE=>(hd j H hE).le I,⟨λe=>absurd e (by decide),λ_ _=>⟨W.heap.size,by simp[upd],au _ _⟩,λe=>absurd e (by decide),λe=>absurd e (by decide),λe=>absurd e (by decide)⟩⟩
         apply ey
         case hE=>rfl
         case hb=>intro vs;simp only[a9,aq,ar,aw];rfl
         case h=>
          intro vs W D bb iC c jw hi _ hd hP;have hf:=iC rfl;have m4:4∈D:=jw ⟨4,.data⟩ (cH.2 ⟨by simp,rfl⟩);have m6:6∈D:=jw ⟨6,.data⟩ (cH.2 ⟨by simp,rfl⟩);have fO:=(hd 4 m4 rfl).c4 rfl hf;obtain⟨kq,hkq,hkc⟩:=(hd 6 m6 rfl).c6 rfl hf;have bu:=cZ fO;have hoc:=qm fO;refine yX Rz RE rfl _ _ rfl M.heap.size (vs 4) L F kq rfl fO hkq (by simp[aF,hkc]) (by have:=OX2.out;omega) c.size λv' w' e1 e2=>?_;have I:Below M.heap.size W w':=(a5 _ W).grown e2 c.size bu;refine⟨c.trans I,λj H hE=>⟨λ_ e=>by simp at e,λ_ e=>by simp at e,λe=>absurd H (by rw[e];exact hi),(hd j H hE).c15,λe=>((hd j H hE).c16 e).imp λk l=>⟨l.1,l.2.1,(e2.block k (aB l.2.2) λe=>?_).trans l.2.2⟩⟩,⟨λe=>absurd e (by decide),λe=>absurd e (by decide),λ_=>by simpa[upd]using e1,λe=>absurd e (by decide),λe=>absurd e (by decide)⟩,λ_ _ _=>trivial⟩;obtain⟨cur,SF⟩:=hoc k e.symm;rw[l.2.2]at SF;cases SF
         iterate 7 (
          apply iK
          case hE=>rfl
          case h=>
           intro vs W b c hd;have hl:=IJ ((c.block _ (aB M9.out.map)).trans M9.out.map) HXF.out;have q0:=zc;have q1:=ze;have g2:=(c.cell (p:=⟨wr.heap.size,2,none⟩) Wf).trans d;have hw:=HWR.out;simp only[nD]at hl
           go_simp
           exact⟨rfl,a5 _ _⟩
          case hb=>intro vs;simp only[a9,aq,ar,aw];rfl)
         apply ey
         case hE=>rfl
         case hb=>intro vs;simp only[a9,aq,ar,aw];rfl
         case h=>
          intro vs W D bb iC c jw hi _ hd hP;have m7:7∈D:=jw ⟨7,.data⟩ (cH.2 ⟨by simp,rfl⟩);obtain⟨vb,vc,h7⟩:=vB ((hd 7 m7 rfl).c7 rfl);rw[h7];have HD:=aT hd;clear hd
          go_simp
          exact⟨HD.out,⟨λe=>absurd e (by decide),λe=>absurd e (by decide),λe=>absurd e (by decide),λ_=>by simp[upd,h7],λe=>absurd e (by decide)⟩⟩
         apply ey
         case hE=>rfl
         case hb=>intro vs;simp only[a9,aq,ar,aw];rfl
         case h=>
          intro vs W D b hb c jw hi _ hd hP;have I:=(a5 W.heap.size W).alloc (a6 _) (.cells #[.slice none 0 0,.int .i64 0] 139);have HBC:=aT (Below.on c I);have HSZ:=aT c.size;clear c
          go_simp
          exact⟨HBC.out,λj H hE=>(hd j H hE).le I,⟨λe=>absurd e (by decide),λe=>absurd e (by decide),λe=>absurd e (by decide),λe=>absurd e (by decide),λ_=>⟨W.heap.size,by simp[upd],HSZ.out,au _ _⟩⟩⟩
         refine nv λvs W bb _ c hd _=>?_;have hO7:=(hd 7 (by omega) rfl).c7 rfl;have ab8:=(hd 15 (by omega) rfl).c15 rfl;obtain⟨kw,h16,hkw,hcw⟩:=(hd 16 (by omega) rfl).c16 rfl;obtain⟨vb,vc,h7⟩:=vB hO7;rw[h7]at ab8 hO7;have HO7:=aT hO7;have HC1:=aT c;have HKW:=aT hkw;have HCW:=aT hcw;have y0:W.cell? ⟨kw,0,none⟩=some (.slice none 0 0):=by simp[aF,hcw]
         have y1:W.cell? ⟨kw,1,none⟩=some (.int .i64 0):=by simp[aF,hcw]
         have fz:=tO hcw;rw[h16,ab8];clear hd c hO7 ab8 h16 hkw hcw h7;obtain⟨nn,Va⟩:∃n,n=(L++[F]).length:=⟨_,rfl⟩
         have HNN:=aT Va;rw[<-Va];clear Va
         go_upto_region 34 with fail
         obtain⟨XR,SG⟩:∃XR:World,XR=(W.setCell ⟨kw,0,none⟩ (.slice vb nn vc)).setCell ⟨kw,1,none⟩ (.int .i64 (xl+G)):=⟨_,rfl⟩
         have SI:Below M.heap.size M XR:=by rw[SG];exact(HC1.out.setCell (p:=⟨kw,0,none⟩) HKW.out _).setCell (p:=⟨kw,1,none⟩) HKW.out _
         have P10:Hid (XR.heap[kw]?=some (.cells #[.slice vb nn vc,.int .i64 (xl+G)] 139)):=aT (by rw[SG];exact Wc HCW.out)
         have O10:Hid (eO 3 XR M.heap.size (.slice vb nn vc) (L++[F])):=aT (by
          have hoc:=qm HO7.out;rw[HNN.out];have bu:∀j,Value.ownBlock (.slice vb (L++[F]).length vc)=some j->j≠kw:=λj e H=>by
           obtain⟨cur,SF⟩:=hoc j e;rw[H,HCW.out]at SF;cases SF
          rw[SG]
          exact A8 (A8 HO7.out bu) bu)
         have M10:=aT (M9.out.on SI);have L10:=aT (aG SI L9.out);have S10:=aT (aG SI S9.out);have Ry:=aT (K9.out.on SI);rw[<-SG];clear SG SI y0 y1 fz;obtain⟨tp,tn,tc,tl,ok,FH,Ag⟩:=SE M10.out F;have HOK:=aT Ag;clear Ag h0 h1 d
         go_upto_region 35 with fail
         obtain⟨Z,ab9⟩:∃Z:World,Z=XR.alloc (.cells #[.slice tp tn tc,.int .i64 tl] 139):=⟨_,rfl⟩
         have IP:Below XR.heap.size XR Z:=by rw[ab9];exact(a5 _ _).alloc (a6 _) _
         have P11:=aT ((IP.block _ (aB P10.out)).trans P10.out);have O11:=aT (O10.out.on IP);have M11:=aT (M10.out.on IP);have L11:=aT (aG IP L10.out);have S11:=aT (aG IP S10.out);have Tr:=aT (Ry.out.on IP);rw[<-ab9];clear ab9 IP FH M10 L10 S10 Ry O10;by_cases ht:F∈tP m (i+1)
         ·have HT1:=aT ht;clear ht
          go_wp2_with (at_lookup;go_must (refine aR (enc:=zn) _ rfl _ _ 136 3 4 rfl qz ju (mq _) T (tP m (i+1)) rfl L11.out F rfl true (by simpa using HT1.out) ?_))
          exact⟨⟨q+1,R',Q,by go_num,by rw[X.out,N0,stepW,if_neg (by rw[NSK.out];decide),if_pos (by rw[<-HTO.out];exact HT1.out)],M11.out,L11.out,S11.out,Tr.out⟩,by simp only[intOf];omega⟩
         ·have HT1:=aT ht;clear ht;have hnf:R'.find? (λz=>z.1==F)=none:=by
           have e:=OX5.out NSK.out (by rw[<-HTO.out];exact HT1.out);rw[<-HTO.out]at e;have e2:=nE X.out F;rw[e]at e2
           cases e3:R'.find? (λz=>z.1==F) with
           |none=>rfl
           |some z=>rw[e3]at e2;cases e2
          have Ag:ok=false:=HOK.out hnf;subst Ag;have HNF:=aT hnf;clear hnf;have z0:Z.cell? ⟨kw,0,none⟩=some (.slice vb nn vc):=by have h:=P11.out;simp[aF,h]
          have z1:Z.cell? ⟨kw,1,none⟩=some (.int .i64 (xl+G)):=by have h:=P11.out;simp[aF,h]
          have RD:Hid (bB Z (.slice vb nn vc) (L++[F])):=aT (eO.reads O11.out)
          go_wp2_with (first
           |(at_lookup;go_must (refine aR (enc:=zn) _ rfl _ _ 136 3 4 rfl qz ju (mq _) T (tP m (i+1)) rfl L11.out F rfl false (by simpa using HT1.out) ?_))
           |(at_mapUpdate;go_must (refine tF _ rfl _ _ _ (.inl rfl) S R' (F,.slice vb nn vc,L++[F],xl+G) rfl rfl rfl M11.out HNF.out RD.out (by simp) ?_);intro w12 hM y;go_must (have M12:=aT hM;have L12:=aT (ba L11.out (y.block _ (by have:=ZR.out;omega)));have S12:=aT (ba S11.out (y.block _ (by have:=ZR.out;omega)));have VC:=aT (Tr.out.turned y M11.out.map (λ_ _ _ e=>by cases e) (by have:=ZM.out;have:=ZR.out;omega):KQ C w kx P w12));clear hM y;go_frame))
          refine⟨⟨q+1,R'++[(F,.slice vb nn vc,L++[F],xl+G)],Q,by go_num,?_,M12.out,L12.out,S12.out,VC.out⟩,by simp only[intOf];omega⟩;rw[List.map_append,X.out,N0,stepW,if_neg (by rw[NSK.out];decide),if_neg (by rw[<-HTO.out];exact HT1.out),OX1.out]
          simp only[List.map_cons,List.map_nil,strip,HTO.out,EG.out])
end Go.Proofs
