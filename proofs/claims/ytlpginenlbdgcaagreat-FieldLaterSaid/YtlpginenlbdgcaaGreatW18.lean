/- Part of the proof of FieldReached and FieldLater. -/
import Derived.Test.YtlpginenlbdgcaaGreatW17
import Derived.Shelf.SlSortCmp.QuietGrown
set_option linter.all false
open List renaming range->aa,range_succ->ab,filter_append->ac,mem_range->ad,getD_eq_getElem?_getD->ae,getElem?_eq_none->ag,getElem?_map->ai,mem_of_find?_eq_some->ao,getElem?_toArray->ap,getElem?_cons_succ->aq,getElem?_cons_zero->ar,getElem?_eq_getElem->aw,getElem?_take_of_lt->aB,map_congr_left->aF,getElem?_range->aH,mem_append->aI
open Go.Proofs renaming getElem?_lt'->aJ
open Go.Proofs.Below renaming on->aP
open Go.World renaming cell?->aS,setCell->aT
open Option.some renaming injEq->a5
open Bool renaming and_eq_true->a6,or_eq_true->a7
open Option renaming map_some->a8,getD_some->a9
open Go.Lib renaming hid->ba
open Go.RowKit.Below renaming refl->bc
open Nat renaming le_refl->bg,lt_or_ge->bi,add_zero->bj,zero_le->bm,lt_of_lt_of_le->bo,lt_irrefl->bp,zero_add->bq
open Go.aU renaming of_heap->br
open Go.IntWalk renaming i64_in->bs
namespace Go.Proofs
open Go.RowKit Go.Shelf
attribute [local go_sem] Oper.semAt_some
set_option maxRecDepth 100000
set_option maxHeartbeats 1000000
def am1(C:CD)(w:World)(j:Nat)(vs:Nat->Value)(W:World):Prop:=
 (j=10->∃k,vs 10=.pointer (some ⟨k,0,none⟩)/\w.heap.size<k/\Six W k)/\(j=11->∃k,vs 10=.pointer (some ⟨k,0,none⟩)/\w.heap.size<k/\W.heap[k]?=some (.cells C.val 76))
def yZ(m:Int)(p:Nat):Int:=kU je p m 2 0 false
def uN(m:Int)(p:Nat):List Int:=((aa p).filter λq=>yZ m q != 2).map fun(q:Nat)=>(q:Int)+1
def IL{m:Int}{p:Nat}(h:yZ m p=2):uN m (p+1)=uN m p:=by
 simp[uN,ab,ac,h]
def IM{m:Int}{p:Nat}(h:yZ m p≠2):uN m (p+1)=uN m p++[(p:Int)+1]:=by
 simp[uN,ab,ac,h]
def V7{m:Int}{p:Nat}:(p:Int)+1∉uN m p:=by
 simp only[uN,List.mem_map,List.mem_filter,ad,not_exists,not_and,and_imp];intro q a _ e;omega
abbrev zn:Int->Value:=λn=>.int .i64 n
structure KQ(C:CD)(w:World)(kx kt:Nat)(W:World):Prop where
 box:W.heap[w.heap.size]?=some (.cells C.val 27)
 bx:W.heap[kx]?=some (.cells C.val 76)
 row:Row W kt (je.map bh)
 low:Below w.heap.size w W
def KQ.on{C:CD}{w W b:World}{c d:Nat}(h:KQ C w c d W)(a:Below W.heap.size W b):KQ C w c d b:=
 ⟨(a.block _ (aJ h.box)).trans h.box,(a.block _ (aJ h.bx)).trans h.bx,h.row.on a,aP h.low a⟩
def KQ.turned{C:CD}{w W l:World}{m i b:Nat}{o:Obj}(h:KQ C w m i W)(d:gv W l b)(hb:W.heap[b]?=some o)(n:∀c t f,o≠.cells c t f)(q:w.heap.size<=b):KQ C w m i l:=by
 have p:∀{k:Nat}{c:Array Value}{t:TypeId}{f:Nat×Nat},W.heap[k]?=some (.cells c t f)->k≠b:=λ{k c t f}e g=>by
  rw[g,hb]at e;cases e;exact n _ _ _ rfl
 refine⟨(d.block _ (p h.box)).trans h.box,(d.block _ (p h.bx)).trans h.bx,⟨by rw[d.size];exact h.row.1,λj v e=>(d.cell (a:=⟨i,j,none⟩) λg=>?_).trans (h.row.2 j v e)⟩,h.low.trans (d.below q)⟩;have:=h.row.2 j v e;simp only at g;subst g;simp only[aS,hb]at this
 cases o with
 |cells c t f=>exact n c t f rfl
 |_=>simp at this
def Sy:Ir je:=by
 have h:∀j,j<75->-10000<=je.getD j 0/\je.getD j 0<=10000:=by decide
 have k:∀j,¬j<75->je.getD j 0=0:=λj a=>by
  rw[ae,ag (by show je.length<=j;have:je.length=75:=rfl;omega)];rfl
 exact⟨rfl,λj=>by by_cases a:j<75;exact(h j a).1;rw[k j a];decide,λj=>by by_cases a:j<75;exact(h j a).2;rw[k j a];decide⟩
def Sz(C:CD)(k p:Nat)(m:Int)(w:World)(a:Row w k (je.map bh))(b:C.n5=2)(c:p<5) :
 Calls PL 33 #[.agg C.val,.pointer (some ⟨k,0,none⟩),.int .i64 p,.int .i64 m] w (aO (.int .i64 (yZ m p)) w):=by
 have h:=Fa C k p m je Sy w a (by omega) c;have e:kU je p m C.n5 0 false=yZ m p:=by rw[b];rfl
 rw[e]at h;exact h
def XO(m:Int):List Int:=if m=5 then[2,3,0] else[]
def A6(m:Int):Int:=if m=5 then 110 else 0
def SC(m:Int):Bool:=decide (m=5)
def zb(m:Int):Nat:=if m=5 then 2 else 1
def Ln(m:Int)(i:Nat):SW:=if i=0 then[(2,[2],0)] else if m=5 then(if i=1 then[(2,[2],0),(3,[2,3],30)] else[(2,[2],0),(3,[2,3],30),(0,[2,3,0],110)]) else[(2,[2],0)]
def tP(_:Int)(i:Nat):List Int:=if i=0 then[] else if i=1 then[2] else[2,3]
def stA(m:Int)(i:Nat):Int:=if i=0 then 2 else if m=5 then(if i=1 then 3 else 0) else -1
def V8{m:Int}(b:m=5\/m=3){i:Nat}(hi:i<=zb m):(∀j x,(Ln m i)[j]?=some x->x.1∉tP m i->x.1=stA m i/\j=i)/\(stA m i = -1\/∃x,(Ln m i)[i]?=some x/\x.1∉tP m i):=by
 rcases b with rfl|rfl
 ·obtain rfl|rfl|rfl:i=0\/i=1\/i=2:=by have:zb 5=2:=rfl;omega
  ·exact⟨λj x h _=>by match j,h with
    |0,h=>cases h;exact⟨rfl,rfl⟩,.inr ⟨_,rfl,by decide⟩⟩
  ·exact⟨λj x h a=>by match j,h with
    |0,h=>cases h;exact absurd (by decide) a
    |1,h=>cases h;exact⟨rfl,rfl⟩,.inr ⟨_,rfl,by decide⟩⟩
  ·exact⟨λj x h a=>by match j,h with
    |0,h=>cases h;exact absurd (by decide) a
    |1,h=>cases h;exact absurd (by decide) a
    |2,h=>cases h;exact⟨rfl,rfl⟩,.inr ⟨_,rfl,by decide⟩⟩
 ·obtain rfl|rfl:i=0\/i=1:=by have:zb 3=1:=rfl;omega
  ·exact⟨λj x h _=>by match j,h with
    |0,h=>cases h;exact⟨rfl,rfl⟩,.inr ⟨_,rfl,by decide⟩⟩
  ·exact⟨λj x h a=>by match j,h with
    |0,h=>cases h;exact absurd (by decide) a,.inl rfl⟩
def uO{R:List WE}{S:SW}(h:R.map strip=S){j:Nat}{x:WE}(a:R[j]?=some x):S[j]?=some (strip x):=by rw[<-h,ai,a];rfl
def SD{m:Int}(j:m=5\/m=3){i:Nat}(hi:i<=zb m)(a:stA m i<=0){W:World}{b:Nat}{R:List WE}(f:R.map strip=Ln m i)(h:jy W b R) :
 ∃p n c,(Instr.lookup 107 (.map (some b)) (.int .i64 0) true).run PL W=.ok (.tuple #[.agg #[.slice p n c,.int .i64 (A6 m)],.bool (SC m)]) W/\bB W (.slice p n c) (XO m):=by
 rcases j with rfl|rfl
 ·obtain rfl:i=2:=by
   have k:zb 5=2:=rfl
   match i,a with
   |0,a=>exact absurd a (by decide)
   |1,a=>exact absurd a (by decide)
   |2,_=>rfl
   |i+3,_=>omega
  have hf:=nE f 0
  cases e:R.find? (λx=>x.1==0) with
  |none=>rw[e]at hf;cases hf
  |some x=>
   rw[e]at hf;have d:some ((0:Int),[(2:Int),3,0],(110:Int))=some (strip x):=hf;obtain⟨x1,x2,x3,x4⟩:=x;simp only[strip,a5,Prod.mk.injEq]at d;obtain⟨rfl,rfl,rfl⟩:=d;have g:=h.reads _ (ao e);have hl:=Sw h.map e;simp only[nD]at hl;have l:bB W x2 [2,3,0]:=g;obtain⟨p,c,rfl,_⟩:=l;exact⟨p,_,c,hl,g⟩
 ·obtain rfl:i=1:=by
   have k:zb 3=1:=rfl
   match i,a with
   |0,a=>exact absurd a (by decide)
   |1,_=>rfl
   |i+2,_=>omega
  have hf:=nE f 0;have e:R.find? (λx=>x.1==0)=none:=by
   cases e:R.find? (λx=>x.1==0) with
   |none=>rfl
   |some x=>rw[e]at hf;cases hf
  exact⟨none,0,0,Sx h.map e,⟨none,0,rfl,λh=>absurd h (by decide)⟩⟩
def V9{m:Int}{i:Nat}(b:(∀j x,(Ln m i)[j]?=some x->x.1∉tP m i->x.1=stA m i/\j=i)/\(stA m i = -1\/∃x,(Ln m i)[i]?=some x/\x.1∉tP m i)){R:List WE}(c:R.map strip=Ln m i){seen:Array Nat}{f:Bool}{u:Value}
 (hv:u=.int .i64 (if f then stA m i else -1)) (hf:f=true↔∃j x,R[j]?=some x/\seen.contains j=true/\x.1∉tP m i) (al:∀j,j<R.length->seen.contains j=true):u=.int .i64 (stA m i):=by
 rw[hv]
 rcases b.2 with h|⟨x,a,d⟩
 ·cases f<;>simp[h]
 ·have:f=true:=by
   rw[<-c,ai]at a
   cases e:R[i]? with
   |none=>rw[e]at a;cases a
   |some y=>
    rw[e]at a;cases a;exact hf.2 ⟨i,y,e,al i (List.getElem?_eq_some_iff.1 e).1,d⟩
  rw[this];rfl
def ab2{m:Int}{i:Nat}(a:(∀j x,(Ln m i)[j]?=some x->x.1∉tP m i->x.1=stA m i/\j=i)/\(stA m i = -1\/∃x,(Ln m i)[i]?=some x/\x.1∉tP m i))(d:0<stA m i):stA m i∉tP m i:=by
 rcases a.2 with h|⟨x,c,b⟩
 ·omega
 ·rw[<-(a.1 i x c b).1];exact b
def jy.turned{W a:World}{b c:Nat}{R:List WE}(h:jy W b R)(d:gv W a c)(hc:∃o,W.heap[c]?=some o/\∀x t f,o≠.cells x t f)(g:b≠c):jy a b R:=by
 obtain⟨o,i,j⟩:=hc;exact⟨(d.block _ g).trans h.map,λx e=>jN (h.reads x e) (h.ne x e) d i j,h.ne⟩
def Lo{m:Int}(b:m=5\/m=3){i:Nat}(hi:i<=zb m)(a:0<stA m i):i+1<=zb m/\tP m i++[stA m i]=tP m (i+1)/\N0 (uN m 3) (tP m (i+1)) (stA m i) (Ln m i) 4=Ln m (i+1)/\okQ (uN m 3) (tP m (i+1)) (stA m i) (Ln m i)=true/\stA m i<=3:=by
 rcases b with rfl|rfl
 ·obtain rfl|rfl|rfl:i=0\/i=1\/i=2:=by have:zb 5=2:=rfl;omega
  ·exact⟨by decide,by decide,by decide +kernel,by decide +kernel,by decide⟩
  ·exact⟨by decide,by decide,by decide +kernel,by decide +kernel,by decide⟩
  ·exact absurd a (by decide)
 ·obtain rfl|rfl:i=0\/i=1:=by have:zb 3=1:=rfl;omega
  ·exact⟨by decide,by decide,by decide +kernel,by decide +kernel,by decide⟩
  ·exact absurd a (by decide)
def ab3{c d:List Int}{a:Int}{S:SW}(h:okQ c d a S=true){q:Nat}(f:q<4):∃x,(N0 c d a S q).find? (λx=>x.1==a)=some x/\x.2.1.length<=10/\0<=x.2.2/\x.2.2<=1000/\(V6 c a q=false->XN a q∉d->(N0 c d a S q).find? (λx=>x.1==XN a q)=none):=by
 simp only[okQ,List.all_eq_true,ad]at h;have h:=h q f
 cases e:(N0 c d a S q).find? (λx=>x.1==a) with
 |none=>rw[e]at h;cases h
 |some x=>
  rw[e]at h;simp only[a6,a7,decide_eq_true_eq,Option.isNone_iff_eq_none]at h;obtain⟨⟨⟨g,i⟩,j⟩,b⟩:=h;refine⟨x,rfl,g,i,j,λk1 k2=>?_⟩
  rcases b with(b|b)|b
  ·rw[k1]at b;cases b
  ·exact absurd b k2
  ·exact b
def Ft(W:World)(r:Nat):Nat:=match W.heap[r]? with
 |some (.mapIter _ n seen _)=>Fs n seen
 |_=>0
def Fu{W:World}{r b n:Nat}{seen:Array Nat}(h:tE W r b n seen):Ft W r=Fs n seen:=by
 have a:W.heap[r]?=some (.mapIter (some b) n seen n):=h;simp only[Ft,a]
def tE.on{W a:World}{r b n:Nat}{seen:Array Nat}(h:tE W r b n seen)(c:Below W.heap.size W a):tE a r b n seen:=(c.block _ (aJ h)).trans h
def ab4(W:World)(b:Nat):Nat:=match W.heap[b]? with
 |some (.map es _)=>es.size
 |_=>0
def Fv{W:World}{b:Nat}{l:List Int}(h:aU W zn b l):ab4 W b=l.length:=by
 obtain⟨es,c,a,d,_⟩:=h;have:=congrArg List.length d;simp only[ab4,a];simpa using this
structure Wb(n0:Nat)(xp:List Int)(tq n:Int)(b:Bool)(j:Nat)(vs:Nat->Value)(W:World):Prop where
 c4:j=4->b=false->eO 3 W n0 (vs 4) xp
 c6:j=6->b=false->∃k,vs 6=.slice (some ⟨k,0,none⟩) 1 1/\W.heap[k]?=some (.cells #[.int .i64 tq] 3)
 c7:j=7->eO 3 W n0 (vs 7) (xp++[tq])
 c15:j=15->vs 15=.agg #[vs 7,.int .i64 n]
 c16:j=16->∃k,vs 16=.pointer (some ⟨k,0,none⟩)/\n0<=k/\W.heap[k]?=some (.cells #[.slice none 0 0,.int .i64 0] 106)
def zc(a b:Value)(W:World):(Instr.field 106 (.agg #[a,b]) 0).run PL W=.ok a W:=by kernel_rfl
def ze(a b:Value)(W:World):(Instr.field 106 (.agg #[a,b]) 1).run PL W=.ok b W:=by kernel_rfl
def A8{W:World}{base e size n B o:Nat}{v u:Value}{xs:List Value}(h:W.ownsRow base e size v n xs)(c:∀j,v.ownBlock=some j->j≠B):(W.setCell ⟨B,o,none⟩ u).ownsRow base e size v n xs:=by
 obtain⟨b,h⟩:=h
 rcases h with h|⟨g,cap,a,rfl,hb,hg,d⟩
 ·exact⟨b,.inl h⟩
 ·refine⟨b,.inr ⟨g,cap,a,rfl,hb,?_,d⟩⟩;have f:g≠B:=c g rfl;simp only[aT,Array.getElem?_modify,if_neg (Ne.symm f)];exact hg
def Wc{W:World}{r:Nat}{x0 x1 u0 u1:Value}{t:TypeId}(h:W.heap[r]?=some (.cells #[x0,x1] t)):((W.setCell ⟨r,0,none⟩ u0).setCell ⟨r,1,none⟩ u1).heap[r]?=some (.cells #[u0,u1] t):=by
 simp only[aT,Array.getElem?_modify,if_pos,h,a8];rfl
def SE{W:World}{b:Nat}{R:List WE}(h:jy W b R)(k:Int):∃p n c l ok,(Instr.lookup 107 (.map (some b)) (.int .i64 k) true).run PL W=.ok (.tuple #[.agg #[.slice p n c,.int .i64 l],.bool ok]) W/\(R.find? (λz=>z.1==k)=none->ok=false):=by
 cases e:R.find? (λz=>z.1==k) with
 |none=>exact⟨none,0,0,0,false,Sx h.map e,λ_=>rfl⟩
 |some x=>
  obtain⟨p,c,a,_⟩:=h.reads _ (ao e);have:=Sw h.map e;simp only[nD,a]at this;exact⟨p,_,c,_,true,this,λh=>by cases h⟩
def ExW(t:Nat):Bool:=t != 4&&t != 6&&t != 7&&t != 15&&t != 16
def Wb.le{n0:Nat}{d:List Int}{g n:Int}{b:Bool}{j:Nat}{vs:Nat->Value}{W i:World}(h:Wb n0 d g n b j vs W)(c:Below W.heap.size W i):Wb n0 d g n b j vs i:=
 ⟨λe f=>(h.c4 e f).on c,λe f=>(h.c6 e f).imp λ_ a=>⟨a.1,(c.block _ (aJ a.2)).trans a.2⟩,λe=>(h.c7 e).on c,h.c15,λe=>(h.c16 e).imp λ_ a=>⟨a.1,a.2.1,(c.block _ (aJ a.2.2)).trans a.2.2⟩⟩
def Ba{k2 c2 k3 c3 k4 c4 k5 c5 la ca lb cb:Nat}(C:CD)(m:Int)(hm:m=5\/m=3)(c:C=ir k2 c2 k3 c3 k4 c4 k5 c5 la ca lb cb 0)(w:World)(h:C.At w) :
 Calls PL 21 #[.agg C.val,.int .i64 2,.int .i64 m] w λe w'=>∃v,e=.returned (.tuple #[v,.int .i64 (A6 m),.bool (SC m),.int .i64 0])/\bB w' v (XO m)/\Below w.heap.size w w':=by
 have HA:=ba h;have HC:=ba c;have HM:=ba hm;have hf:C.b6 true=0:=by rw[c];kernel_rfl
 have HF:=ba hf;have hb:bO 2 0 (C.p-1)=true:=by rw[c];rfl
 have HB:=ba hb
 have eP:bO m 0 999=true:=by rcases hm with rfl|rfl<;>decide
 have Kf:=ba eP;have HT:Hid (∀W,C.At W->Calls PL 32 #[.agg C.val] W λe w'=>∃k,e=.returned (.pointer (some ⟨k,0,none⟩))/\Row w' k (je.map bh)/\Below W.heap.size W w'):=ba λW hW=>tA (.inl rfl) ⟨k2,c2,k3,c3,k4,c4,k5,c5,la,ca,lb,cb,c⟩ hW;have HP:Hid (-1000<=C.p/\C.p<=1000):=ba (by rw[c];exact⟨by show(-1000:Int)<=4;decide,by show(4:Int)<=1000;decide⟩);have K0:Hid (KB C w (w.alloc (.cells C.val 27))):=ba ⟨au _ _,(bc _ _).alloc (bg _) _⟩;clear h c hf hb eP hm
 go_enter (fx (by decide) Tryz.func21),Tryz.ntmps21
 go_upto_region 1 with fail
 have HW:Hid (IntKind.i64.wrap (C.p-1)=C.p-1):=ba (by obtain⟨J0,tL⟩:=HP.out;rw[HC.out];rfl);apply wp_scope_straight;apply wp_seq_k;intro _ _;refine cT 12 (KB C w) (Fo C) (λj=>j != 10&&j != 11) (am1 C w) rfl (by kernel_rfl) (by kernel_rfl)
  (λi vs W W' hle h=>⟨λe=>(h.1 e).imp λk l=>⟨l.1,l.2.1,(hle k).2 l.2.2⟩,λe=>(h.2 e).imp λk l=>⟨l.1,l.2.1,(hle k).1 l.2.2⟩⟩) (λi o ho vs eX W he hd h=>⟨λe=>?_,λe=>?_⟩) ?_ ?_
 ·subst e;rw[<-he];exact h.1 rfl
 ·subst e;have e8:vs 10=eX 10:=by
   simp only[ap,aq,ar,a5]at ho;subst ho;exact hd ⟨10,.data⟩ (cH.2 ⟨by simp,rfl⟩)
  rw[<-e8];exact h.2 rfl
 ·exact⟨K0.out.box,K0.out.low.drew⟩
 ·iterate 10 (
   apply aY
   case hE=>rfl
   case h=>
    intro vs W c hd;obtain⟨f0,f1,f2,f3,f4,f5⟩:=bf c.box;have hwr:=HW.out
    go_simp
    first
    |(go_at_call 43;refine(rM HB.out _).mono ?_;rintro e W'⟨rfl,rfl⟩;exact⟨_,rfl,rfl,c,Fo.on (bc _ _)⟩)
    |(go_at_call 27;refine(kF HF.out (HA.out.below c.low)).mono ?_;rintro e W'⟨rfl,I⟩;exact⟨_,rfl,rfl,c.on I,Fo.on I⟩)
    |exact⟨rfl,Fo.on (bc _ _)⟩
   case hb=>exact hbT)
  apply eH
  case hE=>rfl
  case hb=>exact hbT
  case h=>
   intro vs W c hd
   go_simp
   have I:=(bc W.heap.size W).alloc (bg _) (.cells #[.int .i64 0,.int .i64 0,.slice none 0 0,.slice none 0 0,.slice none 0 0,.slice none 0 0] 76);exact⟨c.on I,Fo.on I,⟨λ_=>⟨W.heap.size,by simp[upd],c.lt,_,_,_,_,_,_,au W _⟩,λe=>absurd e (by decide)⟩⟩
  apply eH
  case hE=>rfl
  case hb=>exact hbT
  case h=>
   intro vs W c hd;obtain⟨k,l,Ll,x0,x1,x2,x3,x4,x5,J⟩:=(hd ⟨10,.data⟩ (cH.2 ⟨by simp,rfl⟩) rfl).1 rfl;obtain⟨f0,f1,f2,f3,f4,f5⟩:=bf J;have fz:=tO J;rw[l]
   go_simp
   refine⟨⟨(cM (by omega)).trans c.box,Below.zQ c.low (by omega) _ _ _ _ _ _⟩,λq=>?_,⟨λe=>absurd e (by decide),λ_=>⟨k,by simp[upd,l],Ll,nC J⟩⟩⟩;by_cases hq:q=k
   ·subst hq;exact⟨λ_=>nC J,λ_=>⟨_,_,_,_,_,_,nC J⟩⟩
   ·exact⟨λe=>(cM hq).trans e,fun⟨_,_,_,_,_,_,e⟩=>⟨_,_,_,_,_,_,(cM hq).trans e⟩⟩
  refine cP λvs W c hd=>?_;obtain⟨kx,l,Ll,J⟩:=(hd 11 (by omega) rfl).2 rfl;rw[l];obtain⟨f0,f1,f2,f3,f4,f5⟩:=bf J;have HX:=ba J;have HC1:=ba c;have HKL:=ba Ll;clear J c hd l Ll;have hmm:=@run_makeMap PL
  go_upto_region 8 with(first
   |(go_at_call 31;refine(yO Kf.out _).mono ?_;rintro e w'⟨rfl,rfl⟩)
   |(go_at_call 32;go_must (refine(HT.out _ (HA.out.below HC1.out.low)).mono ?_);rintro e w1⟨P,rfl,hR,aL⟩;have K1:Hid (KQ C w kx P w1):=ba ⟨(HC1.out.on aL).box,(aL.block _ (aJ HX.out)).trans HX.out,hR,(HC1.out.on aL).low⟩;clear hR aL))
  obtain⟨N,hbM⟩:∃b,b=w1.heap.size:=⟨_,rfl⟩
  obtain⟨W0,kS⟩:∃W0:World,W0=w1.alloc (.map #[] 0):=⟨_,rfl⟩
  have K2:Hid (KQ C w kx P W0):=ba (by rw[kS];exact K1.out.on ((bc _ _).alloc (bg _) _));have S2:Hid (aU W0 zn N ([]:List Int)):=ba (by rw[kS,hbM];exact aU.made w1);have ZM:Hid (w.heap.size<=N):=ba (by rw[hbM];exact K1.out.low.size);rw[<-kS,<-hbM];clear kS hbM f0 f1 f2 f3 f4 f5;obtain⟨f0,f1,f2,f3,f4,f5⟩:=bf K2.out.box;have IB:Hid (C.b3=some ⟨C.k3,C.o3,none⟩):=ba (HA.out.s3 (by rw[HC.out];show 0<4;decide));have H3:Hid (C.n3=4):=ba (by rw[HC.out];rfl);have HX3:Hid (C.x3=zU):=ba (by rw[HC.out];rfl);have H4:Hid (C.n4=3):=ba (by rw[HC.out];rfl);have H5:Hid (C.n5=2):=ba (by rw[HC.out];rfl);have hb4:C.b4=some ⟨C.k4,C.o4,none⟩:=HA.out.s4 (by rw[H4.out];decide);have LN:Hid (∀p,p<2->(C.x4 p).ln=1/\(C.x4 p).lane 0=(p:Int)+1):=ba λp hp=>by
   rw[HC.out]
   match p,hp with
   |0,_=>exact⟨rfl,rfl⟩
   |1,_=>exact⟨rfl,rfl⟩
  have SH:Hid (yZ m 2=2):=ba (by rcases HM.out with rfl|rfl<;>rfl)
  go_wp2
  go_loopw [51] (λv51 wr=>∃p:Nat,p<=3/\v51=.int .i64 p/\aU wr zn N (uN m p)/\KQ C w kx P wr) (λv51 _=>3-(intOf v51).toNat)
  case atStart=>exact⟨0,by omega,rfl,S2.out,K2.out⟩
  case round=>
   obtain⟨p,hp,rfl,g,O⟩:=hrel;clear hb4;have HS:=ba g;have HK:=ba O;clear g O f0 f1 f2 f3 f4 f5 K2 S2;by_cases Q:p<3
   ·have i1:(p:Int)<C.n4:=by rw[H4.out];omega
    have hA:=HA.out.below HK.out.low;have s:p<C.n4:=by rw[H4.out];exact Q
    have p0:=hA.AD p s;have p1:=hA.dB p s 1 (by omega) (by omega);have p2:=hA.dB p s 2 (by omega) (by omega);have p3:=hA.dB p s 3 (by omega) (by omega);have p4:=hA.dB p s 4 (by omega) (by omega);have p5:=hA.dB p s 5 (by omega) (by omega);have p6:=hA.dB p s 6 (by omega) (by omega);have p7:=hA.dB p s 7 (by omega) (by omega);have p8:=hA.dB p s 8 (by omega) (by omega);have p9:=hA.dB p s 9 (by omega) (by omega);have Cz:=hA.dB p s 10 (by omega) (by omega);have Fy:=hA.nj p s;clear hA s;obtain⟨xb,hxb⟩:∃x,x=(C.x4 p).lb:=⟨_,rfl⟩
    obtain⟨xn,hxn⟩:∃x,x=(C.x4 p).ln:=⟨_,rfl⟩
    obtain⟨xc,hxc⟩:∃x,x=(C.x4 p).lc:=⟨_,rfl⟩
    rw[<-hxb,<-hxn,<-hxc]at Fy;have HXB:=ba hxb;have HXN:=ba hxn;clear hxb hxn hxc
    go_upto_region 11 with fail
    obtain⟨W1,mG⟩:∃W1:World,W1=wr.alloc (.cells #[.string (C.x4 p).name,.int .i64 ((C.x4 p).n 1),.int .i64 ((C.x4 p).n 2),.int .i64 ((C.x4 p).n 3),.int .i64 ((C.x4 p).n 4),.int .i64 ((C.x4 p).n 5),.int .i64 ((C.x4 p).n 6),.int .i64 ((C.x4 p).n 7),.int .i64 ((C.x4 p).n 8),.int .i64 ((C.x4 p).n 9),.int .i64 ((C.x4 p).n 10),.slice xb xn xc] 85):=⟨_,rfl⟩
    rw[<-mG];have iC:Below wr.heap.size wr W1:=by rw[mG];exact(bc _ _).alloc (bg _) _
    have hpk:W1.cell? ⟨wr.heap.size,11,none⟩=some (.slice xb xn xc):=by
     have h:=au wr (.cells #[.string (C.x4 p).name,.int .i64 ((C.x4 p).n 1),.int .i64 ((C.x4 p).n 2),.int .i64 ((C.x4 p).n 3),.int .i64 ((C.x4 p).n 4),.int .i64 ((C.x4 p).n 5),.int .i64 ((C.x4 p).n 6),.int .i64 ((C.x4 p).n 7),.int .i64 ((C.x4 p).n 8),.int .i64 ((C.x4 p).n 9),.int .i64 ((C.x4 p).n 10),.slice xb xn xc] 85);rw[mG];simp only[aS,h];rfl
    have Wf:wr.heap.size<W1.heap.size:=by rw[mG];simp
    have HPK:=ba (And.intro hpk Wf);have K3:=ba (HK.out.on iC);have S3:=ba (aG iC HS.out);clear mG iC hpk Wf p0 p1 p2 p3 p4 p5 p6 p7 p8 p9 Cz Fy;obtain⟨f0,f1,f2,f3,f4,f5⟩:=bf K3.out.bx;by_cases hs:yZ m p=2
    ·go_wp2_with (go_at_call 33;go_must (refine(Sz C P p m _ K3.out.row H5.out (by omega)).mono ?_);rintro e w3⟨rfl,qi⟩;have K4:=ba (K3.out.on qi);have S4:=ba (aG qi S3.out);clear qi)
     exact⟨⟨p+1,Q,by go_num,by rw[IL hs];exact S4.out,K4.out⟩,by simp only[intOf];omega⟩
    ·have d:p<2:=by
      rcases bi p 2 with h|h
      ·exact h
      ·exact absurd (by rw[show p=2 by omega];exact SH.out) hs
     have zi:xn=1:=by rw[HXN.out];exact(LN.out p d).1
     subst zi
     go_upto_region 12 with(go_at_call 33;go_must (refine(Sz C P p m _ K3.out.row H5.out (by omega)).mono ?_);rintro e w3⟨rfl,qi⟩;have K4:=ba (K3.out.on qi);have S4:=ba (aG qi S3.out);have am6:=ba ((qi.cell (p:=⟨wr.heap.size,11,none⟩) HPK.out.2).trans HPK.out.1);clear qi)
     have hA:=HA.out.below K4.out.low;have s:p<C.n4:=by rw[H4.out];exact Q
     obtain⟨el,ell⟩:=hA.l4 p s (by rw[<-HXN.out];decide);have ec:=hA.J5 p s 0 (by rw[<-HXN.out];decide);rw[(LN.out p d).2,bj]at ec;obtain⟨lk,FH⟩:∃x,x=(C.x4 p).lk:=⟨_,rfl⟩
     obtain⟨lo,Cu⟩:∃x,x=(C.x4 p).lo:=⟨_,rfl⟩
     rw[<-FH,<-Cu]at ec;rw[<-FH]at ell;rw[<-HXB.out,<-FH,<-Cu]at el;subst el;have EC:=ba ec;have ELL:=ba ell;have atU:=am6.out;clear hA s ec ell FH Cu
     go_wp2
     go_loopw [65] (λv65 K=>∃q:Nat,q<=1/\v65=.int .i64 q/\aU K zn N (if q=0 then uN m p else uN m p++[(p:Int)+1])/\KQ C w kx P K/\(q=0->K.cell? ⟨lk,lo,none⟩=some (.int .i64 ((p:Int)+1)))) (λv65 _=>1-(intOf v65).toNat)
     case atStart=>exact⟨0,by omega,rfl,S4.out,K4.out,λ_=>EC.out⟩
     case round=>
      obtain⟨q,hq,rfl,g,O,hc⟩:=hrel;have S5:=ba g;have K5:=ba O;clear g O
      match q,hq with
      |1,_=>
       clear hc
       go_wp2
       exact⟨⟨p+1,Q,by go_num,by rw[IM hs];exact S5.out,K5.out⟩,by simp only[intOf];omega⟩
      |0,_=>
       have ec:=hc rfl;clear hc
       go_wp2_with (at_mapUpdate;go_must (refine dH (enc:=zn) _ rfl _ _ _ 104 3 4 rfl qz ju N (uN m p) rfl S5.out ((p:Int)+1) rfl rfl V7 ?_);intro w5 g y;have S6:=ba g;have K6:=ba (by obtain⟨es,cl,hh,_⟩:=S5.out;exact K5.out.turned y hh (λ_ _ _ e=>by cases e) ZM.out:KQ C w kx P w5);clear g y;go_frame)
       exact⟨⟨1,by omega,rfl,S6.out,K6.out,λh=>absurd h (by decide)⟩,by simp[intOf]⟩
   ·have hp3:p=3:=by omega
    subst hp3;have i1:¬((3:Int)<C.n4):=by rw[H4.out];decide
    clear Q;have ag8:=aU.lt HS.out;have HSZ:=ba ag8;have hBa:=((bc wr.heap.size wr).alloc (bg _) (.map #[] 0)).alloc (by simp) (.cells #[.int .i64 2] 3);have M0:Hid (jy ((wr.alloc (.map #[] 0)).alloc (.cells #[.int .i64 2] 3)) wr.heap.size []):=ba ((jy.made wr).on ((bc _ _).alloc (bg _) _))
    have R0:Hid (bB ((wr.alloc (.map #[] 0)).alloc (.cells #[.int .i64 2] 3)) (.slice (some ⟨wr.heap.size+1,0,none⟩) 1 1) [2]):=ba ⟨_,_,rfl,λ_=>⟨_,_,rfl,by simp,λj H=>by
     obtain rfl:j=0:=by simp at H;omega
     have h:=au (wr.alloc (.map #[] 0)) (.cells #[.int .i64 2] 3);rw[World.size_alloc]at h;show aS _ ⟨wr.heap.size+1,0+0,none⟩=some (.int .i64 2);simp only[aS,h]
     rfl⟩⟩
    have KA:=ba (HK.out.on hBa);have SA:=ba (aG hBa HS.out);clear hBa ag8
    go_upto_region 20 with(refine tF _ rfl _ _ _ (.inr rfl) wr.heap.size [] (2,.slice (some ⟨wr.heap.size+1,0,none⟩) 1 1,[2],0) rfl rfl rfl M0.out rfl R0.out (by simp) ?_;intro w5 hM y;have MB:=ba hM;have KB5:=ba (KA.out.turned y M0.out.map (λ_ _ _ e=>by cases e) HK.out.low.size);have SB:=ba (br SA.out (y.block _ (by have:=HSZ.out;omega)));clear hM y)
    obtain⟨S,hbR⟩:∃b,b=wr.heap.size:=⟨_,rfl⟩
    obtain⟨T,hbL⟩:∃b,b=w5.heap.size:=⟨_,rfl⟩
    have ZR:Hid (N<S/\S<T):=ba (by have:=HSZ.out;have:=aJ MB.out.map;rw[hbR,hbL];omega);obtain⟨W3,hW3⟩:∃W3:World,W3=w5.alloc (.map #[] 0):=⟨_,rfl⟩
    have hBb:Below w5.heap.size w5 W3:=by rw[hW3];exact(bc _ _).alloc (bg _) _
    have K6:=ba (KB5.out.on hBb);have S6:=ba (aG hBb SB.out);have M6:Hid (jy W3 S ([]++[(2,.slice (some ⟨S+1,0,none⟩) 1 1,[2],0)])):=ba (by rw[hbR];exact MB.out.on hBb);have L6:Hid (aU W3 zn T ([]:List Int)):=ba (by rw[hbL,hW3];exact aU.made w5);rw[<-hbR,<-hbL,<-hW3];clear hbR hbL hW3 hBb MB SB KB5 M0 R0 KA SA HK HS HSZ;have FJ:=IB.out;simp only[FJ];refine wp_label ?_
    go_wp2
    go_loopw [19] (λ_ wr=>∃(i:Nat)(R:List WE),i<=zb m/\R.map strip=Ln m i/\jy wr S R/\aU wr zn T (tP m i)/\aU wr zn N (uN m 3)/\KQ C w kx P wr) (λ_ wr=>4-ab4 wr T)
    case atStart=>exact⟨0,_,bm _,rfl,M6.out,L6.out,S6.out,K6.out⟩
    case round=>
     obtain⟨i,R,hi,hR,XP,hL,g,O⟩:=hrel;have Xn:=ba hR;have MM:=ba XP;have LL:=ba hL;have SS:=ba g;have KK:=ba O;have CO:=ba (V8 HM.out hi);have HI:=ba hi;clear hR XP hL g O hi K6 S6 M6 L6;have hrg:=V4 MM.out
     go_upto_region 22 with fail
     obtain⟨r,hr⟩:∃r,r=wr.heap.size:=⟨_,rfl⟩
     obtain⟨W4,Sn⟩:∃W4:World,W4=wr.alloc (.mapIter (some S) R.length #[] R.length):=⟨_,rfl⟩
     have Ts:Below wr.heap.size wr W4:=by rw[Sn];exact(bc _ _).alloc (bg _) _
     have I4:Hid (tE W4 r S R.length #[]):=ba (by rw[Sn,hr];exact au _ _);have M4:=ba (MM.out.on Ts);have L4:=ba (aG Ts LL.out);have S4:=ba (aG Ts SS.out);have K4:=ba (KK.out.on Ts);have ZI:Hid (S<r/\T<r/\N<r/\w.heap.size<=r):=ba (by have h1:=aJ MM.out.map;have d:=aU.lt LL.out;have h3:=aU.lt SS.out;have s:=KK.out.low.size;rw[hr];exact⟨h1,d,h3,s⟩);rw[<-Sn,<-hr];clear Sn hr Ts hrg MM SS KK
     go_loopw [19] (λv19 K=>∃(seen:Array Nat)(f:Bool),tE K r S R.length seen/\jy K S R/\aU K zn T (tP m i)/\aU K zn N (uN m 3)/\KQ C w kx P K/\v19=.int .i64 (if f then stA m i else -1)/\(f=true↔∃j x,R[j]?=some x/\seen.contains j=true/\x.1∉tP m i)) (λ_ K=>Ft K r)
     case atStart=>exact⟨#[],false,I4.out,M4.out,L4.out,S4.out,K4.out,rfl,⟨λh=>(by cases h),fun⟨_,_,_,h,_⟩=>by simp at h⟩⟩
     case round=>
      obtain⟨seen,f,hI,XP,hL,g,O,hv,hf⟩:=hrel;have I5:=ba hI;have M5:=ba XP;have L5:=ba hL;have S5:=ba g;have K5:=ba O;have F5:=ba hf;have V5:=ba hv;clear hI XP hL g O hf hv I4 M4 L4 S4 K4
      go_upto_region 23 with(first|(at_mapUpdate;go_must (refine dH (enc:=zn) _ rfl _ _ _ 104 3 4 rfl qz ju T (tP m i) rfl L5.out (stA m i) rfl rfl (ab2 CO.out ha) ?_);intro w6 g y;go_must (have LP:=ba g;have MP:=ba (M5.out.turned y (by obtain⟨es,cl,hh,_⟩:=L5.out;exact⟨_,hh,λ_ _ _ e=>by cases e⟩) (by have:=ZR.out;omega));have SP:=ba (br S5.out (y.block _ (by have:=ZR.out;omega)));have KP:Hid (KQ C w kx P w6):=ba (by obtain⟨es,cl,hh,_⟩:=L5.out;exact K5.out.turned y hh (λ_ _ _ e=>by cases e) (by have:=ZM.out;have:=ZR.out;omega)));clear g y;obtain⟨f0,f1,f2,f3,f4,f5⟩:=bf KP.out.box)|(at_next;go_must (refine zX _ rfl _ rfl r S R seen rfl I5.out M5.out ?_ ?_);rotate_left;intro j x w' H hs hI y OL hen;obtain⟨xk,xv,L,xl⟩:=x;have JJ:=ba H;have NS:=ba hs;have I6:=ba hI;have T6:=ba y;have M6:=ba OL;have hk6:=aJ hI;obtain⟨yb,yc,hxv,hyy⟩:=OL.reads _ (List.mem_of_getElem? H);clear hyy;simp only at hxv;subst hxv;clear H hs hI y OL;simp only[nD]at hen ⊢;rotate_left;intro oh;go_must (have hu:=V9 CO.out Xn.out V5.out F5.out oh);clear oh;go_must (subst hu);rcases Int.lt_or_le 0 (stA m i) with ha|ha;rotate_left;go_must (obtain⟨fp,fn,fc,FH,hrd⟩:=SD HM.out HI.out ha Xn.out M5.out);have RD:=ba hrd;clear hrd))
      ·obtain⟨W7,hW7⟩:∃W7:World,W7=wr.alloc (.cells #[.slice fp fn fc,.int .i64 (A6 m)] 106):=⟨_,rfl⟩
       have hB7:Below wr.heap.size wr W7:=by rw[hW7];exact(bc _ _).alloc (bg _) _
       have hc7:W7.heap[wr.heap.size]?=some (.cells #[.slice fp fn fc,.int .i64 (A6 m)] 106):=by rw[hW7];exact au _ _
       have c0:W7.cell? ⟨wr.heap.size,0,none⟩=some (.slice fp fn fc):=by simp[aS,hc7]
       have c1:W7.cell? ⟨wr.heap.size,1,none⟩=some (.int .i64 (A6 m)):=by simp[aS,hc7]
       have RD7:=ba (RD.out.on hB7);have LO7:=ba (aP K5.out.low hB7);rw[<-hW7];clear hW7 hB7 hc7 FH
       go_quiet (fail)
       go_wp2
       rw[Exit.noGoto_ret];refine bodyPost_ret (v:=.tuple #[.slice fp fn fc,.int .i64 (A6 m),.bool (SC m),.int .i64 0]) ?_ rfl ⟨_,rfl,RD7.out.on (below_drewN (bc _ _) _),below_drewN LO7.out _⟩;simp[results,Tryz.results21,go_sem]
      ·go_upto_region 24 with fail
       have L6:aU w' zn T (tP m i):=br L5.out (T6.out.block _ (by have:=ZI.out;omega));have S6:aU w' zn N (uN m 3):=br S5.out (T6.out.block _ (by have:=ZI.out;omega));have K6:KQ C w kx P w':=K5.out.turned T6.out I5.out (λ_ _ _ e=>by cases e) ZI.out.2.2.2;obtain⟨W8,hW8⟩:∃W8:World,W8=w'.alloc (.cells #[.slice yb L.length yc,.int .i64 xl] 106):=⟨_,rfl⟩
       have U:Below w'.heap.size w' W8:=by rw[hW8];exact(bc _ _).alloc (bg _) _
       have L8:=ba (aG U L6);have S8:=ba (aG U S6);have K8:=ba (K6.on U);have M8:=ba (M6.out.on U);have I8:=ba (I6.out.on U);rw[<-hW8];clear hW8 U L6 S6 K6 hen;have V:=uO Xn.out JJ.out;have XQ:Ft W8 r<Ft wr r:=by
        rw[Fu I8.out,Fu I5.out];exact IK (List.getElem?_eq_some_iff.1 JJ.out).1 NS.out
       have HME:=ba XQ;clear XQ;by_cases J:xk∈tP m i
       ·clear V
        go_wp2_with (at_lookup;go_must (refine aR (enc:=zn) _ rfl _ _ 104 3 4 rfl qz ju (mq _) T (tP m i) rfl L8.out xk rfl true (by simpa using J) ?_))
        refine⟨⟨seen.push j,f,I8.out,M8.out,L8.out,S8.out,K8.out,V5.out,F5.out.trans ⟨fun⟨a,x,h1,d,h3⟩=>⟨a,x,h1,by simp at d⊢;exact .inl d,h3⟩,fun⟨a,x,h1,d,h3⟩=>⟨a,x,h1,?_,h3⟩⟩⟩,HME.out⟩
        rcases Array.mem_push.1 (by simpa using d) with h|h
        ·simpa using h
        ·subst h;rw[JJ.out]at h1;cases h1;exact absurd J h3
       ·have hat:xk=stA m i:=(CO.out.1 j _ V J).1;have LQ:j=i:=(CO.out.1 j _ V J).2;have hf0:f=false:=by
         cases f with
         |false=>rfl
         |true=>
          obtain⟨a,x,h1,d,h3⟩:=F5.out.1 rfl;have e:=(CO.out.1 a _ (uO Xn.out h1) h3).2;rw[e,<-LQ]at d;rw[NS.out]at d;cases d
        have hu:u19=.int .i64 (-1):=by rw[V5.out,hf0];rfl
        subst hu;clear V hf0 hat;have HX:=ba J
        go_wp2_with (at_lookup;go_must (refine aR (enc:=zn) _ rfl _ _ 104 3 4 rfl qz ju (mq _) T (tP m i) rfl L8.out xk rfl false (by simpa using J) ?_))
        have hat:xk=stA m i:=(CO.out.1 j _ (uO Xn.out JJ.out) HX.out).1;exact⟨⟨seen.push j,true,I8.out,M8.out,L8.out,S8.out,K8.out,by rw[hat];rfl,⟨λ_=>⟨j,_,JJ.out,by simp,HX.out⟩,λ_=>rfl⟩⟩,HME.out⟩
      ·obtain⟨ni,nl,nq,nk,na⟩:=Lo HM.out HI.out ha;rw[nl]at LP;have NQ:=ba nq;have NK:=ba nk;have NI:=ba ni;clear nl nq nk ni;obtain⟨E,ab6⟩:∃a,a=stA m i:=⟨_,rfl⟩
       rw[<-ab6]at ha na NQ NK ⊢;have HAT:=ba ab6;clear ab6 f0 f1 f2 f3 f4 f5
       go_loopw [110] (λab7 K=>∃(q:Nat)(R':List WE),q<=4/\ab7=.int .i64 q/\R'.map strip=N0 (uN m 3) (tP m (i+1)) E (Ln m i) q/\jy K S R'/\aU K zn T (tP m (i+1))/\aU K zn N (uN m 3)/\KQ C w kx P K) (λab7 _=>4-(intOf ab7).toNat)
       case atStart=>exact⟨0,R,by omega,rfl,Xn.out,MP.out,LP.out,SP.out,KP.out⟩
       case round=>
        obtain⟨q,R',hq,rfl,hR,XP,hL,g,O⟩:=hrel;have X:=ba hR;have M7:=ba XP;have L7:=ba hL;have S7:=ba g;have K7:=ba O;clear hR XP hL g O MP LP SP KP
        rcases bi q 4 with Q|ve
        case inr=>
         obtain rfl:q=4:=by omega
         have j1:¬((4:Int)<C.n3):=by rw[H3.out];decide
         go_wp2
         refine⟨?_,?_⟩
         ·exact⟨i+1,R',NI.out,X.out.trans NQ.out,M7.out,L7.out,S7.out,K7.out⟩
         ·rw[Fv L7.out,Fv LL.out,<-(Lo HM.out HI.out (HAT.out▸ha)).2.1];have h5:(tP m i).length<=2:=by unfold tP;split;exact bm _;split;exact(by decide);exact(by decide)
          simp;omega
        have j1:((q:Int)<C.n3):=by rw[H3.out];omega
        have hq3:q<C.n3:=by rw[H3.out];exact Q
        have hA:=HA.out.below K7.out.low;have g0:=hA.Es q hq3;have g1:=hA.Et q hq3;have g2:=hA.Eu q hq3;rw[HX3.out]at g0 g1 g2;obtain⟨A,hAe⟩:∃x,x=(zU q).1:=⟨_,rfl⟩
        obtain⟨B,hBe⟩:∃x,x=(zU q).2.1:=⟨_,rfl⟩
        obtain⟨G,hGe⟩:∃x,x=(zU q).2.2:=⟨_,rfl⟩
        rw[<-hAe]at g0;rw[<-hBe]at g1;rw[<-hGe]at g2;have bd:0<=A/\A<=3/\0<=B/\B<=3/\0<=G/\G<=80:=by
         rw[hAe,hBe,hGe]
         match q,Q with
         |0,_=>decide
         |1,_=>decide
         |2,_=>decide
         |3,_=>decide
        obtain⟨bA0,bA1,bB0,bB1,bG0,bG1⟩:=bd;have EA:=ba hAe;have EB:=ba hBe;have EG:=ba hGe;clear hAe hBe hGe hA hq3
        go_upto_region 31 with fail
        obtain⟨M,hW9⟩:∃M:World,M=wr.alloc (.cells #[.int .i64 A,.int .i64 B,.int .i64 G] 96):=⟨_,rfl⟩
        have hB9:Below wr.heap.size wr M:=by rw[hW9];exact(bc _ _).alloc (bg _) _
        have P9:Hid (M.heap[wr.heap.size]?=some (.cells #[.int .i64 A,.int .i64 B,.int .i64 G] 96)):=ba (by rw[hW9];exact au _ _);have M9:=ba (M7.out.on hB9);have L9:=ba (aG hB9 L7.out);have S9:=ba (aG hB9 S7.out);have K9:=ba (K7.out.on hB9);rw[<-hW9];clear hW9 hB9 g0 g1 g2 M7 L7 S7 K7;have h0:M.cell? ⟨wr.heap.size,0,none⟩=some (.int .i64 A):=by have h:=P9.out;simp[aS,h]
        have h1:M.cell? ⟨wr.heap.size,1,none⟩=some (.int .i64 B):=by have h:=P9.out;simp[aS,h]
        have d:M.cell? ⟨wr.heap.size,2,none⟩=some (.int .i64 G):=by have h:=P9.out;simp[aS,h]
        have Wf:=aJ P9.out;have skip:V6 (uN m 3) E q=true->R'.map strip=N0 (uN m 3) (tP m (i+1)) E (Ln m i) (q+1):=λe=>by rw[X.out,N0,stepW,if_pos e]
        have SK:=ba skip;clear skip;by_cases sB:(q:Int)∈uN m 3
        ·go_wp2_with (at_lookup;go_must (refine aR (enc:=zn) _ rfl _ _ 104 3 4 rfl qz ju (mq _) N (uN m 3) rfl S9.out (q:Int) rfl true (by simpa using sB) ?_))
         exact⟨⟨q+1,R',Q,by go_num,SK.out (by simp[V6,sB]),M9.out,L9.out,S9.out,K9.out⟩,by simp only[intOf];omega⟩
        have HCL:=ba sB;clear sB;by_cases hs:A≠E/\B≠E
        ·obtain⟨s1,s2⟩:=hs;have HS:=ba (And.intro s1 s2);have e1:(A != E)=true:=by simpa using s1
         have e2:(B != E)=true:=by simpa using s2
         clear s1 s2
         go_wp2_with (at_lookup;go_must (refine aR (enc:=zn) _ rfl _ _ 104 3 4 rfl qz ju (mq _) N (uN m 3) rfl S9.out (q:Int) rfl false (by simpa using HCL.out) ?_))
         exact⟨⟨q+1,R',Q,by go_num,SK.out (by have h:=HS.out;rw[EA.out,EB.out]at h;simp[V6,h]),M9.out,L9.out,S9.out,K9.out⟩,by simp only[intOf];omega⟩
        have NS:=ba hs
        have NSK:Hid (V6 (uN m 3) E q=false):=ba (by
         have h:=NS.out;rw[EA.out,EB.out]at h;have d:=HCL.out
         cases e:V6 (uN m 3) E q with
         |false=>rfl
         |true=>
          simp only[V6,a7,a6,decide_eq_true_eq]at e
          rcases e with e|e
          ·exact absurd e d
          ·exact absurd e h)
        have E12:((A != E)=false)\/((A != E)=true/\(B != E)=false):=by
         by_cases h:A=E
         ·exact .inl (by simpa using h)
         ·exact .inr ⟨by simpa using h,by have:B=E:=Classical.byContradiction λd=>hs ⟨h,d⟩;simpa using this⟩
        clear hs
        rcases E12 with e1|⟨e1,e2⟩
        all_goals go_upto_region 33 with(at_lookup;go_must (refine aR (enc:=zn) _ rfl _ _ 104 3 4 rfl qz ju (mq _) N (uN m 3) rfl S9.out (q:Int) rfl false (by simpa using HCL.out) ?_))
        all_goals (
         obtain⟨sx,ox1,ox2,ox3,ox4,ox5⟩:=ab3 NK.out Q;have Y:=nE X.out E;rw[ox1]at Y;obtain⟨x,hxf,V⟩:∃x,R'.find? (λx=>x.1==E)=some x/\sx=strip x:=by
          cases e:R'.find? (λx=>x.1==E) with
          |none=>rw[e]at Y;cases Y
          |some x=>rw[e]at Y;cases Y;exact⟨x,rfl,rfl⟩
         subst V;obtain⟨xk,xv,L,xl⟩:=x;simp only[strip]at ox2 ox3 ox4;have hrx:=M9.out.reads _ (ao hxf);have qH:=M9.out.ne _ (ao hxf);simp only at hrx qH;have HRX:=ba hrx;obtain⟨pb,pc,rfl,hyy⟩:=hrx;obtain⟨kp,op,rfl,Tt,hcp⟩:=hyy (by cases L with|nil=>exact absurd rfl qH|cons _ _=>simp);have HCP:=ba hcp;have HXF:=ba hxf;have OX1:=ba ox1;have OX5:=ba ox5;have OX2:=ba ox2;have HKP:=ba Tt;clear hyy hcp hxf ox1 ox5 Y qH ox2 Tt;obtain⟨F,hto⟩:∃t,t=A+B-E:=⟨_,rfl⟩
         have HTO:Hid (F=XN E q):=ba (by rw[hto,EA.out,EB.out];rfl);rw[<-hto];clear hto;refine iL 17 7 (λ_ W=>Below M.heap.size M W) (λW W'=>Below W.heap.size W W') ExW (Wb M.heap.size L F (xl+G)) (λ_ _ _ _=>True) (λ_ _ _ _ _=>trivial) rfl (by kernel_rfl) (by kernel_rfl) rfl
          (λb i vs W W' hle h=>h.le hle) (λi o ho vs eX W he aaZ b h=>⟨λe=>by subst e;rw[<-he];exact h.c4 rfl,λe=>by subst e;rw[<-he];exact h.c6 rfl,λe=>by subst e;rw[<-he];exact h.c7 rfl,λe=>?_,λe=>by subst e;rw[<-he];exact h.c16 rfl⟩) (bc _ _).drew ?_
         ·subst e;have e7:vs 7=eX 7:=by
           simp only[ap,aq,ar,a5]at ho;subst ho;exact aaZ ⟨7,.data⟩ (cH.2 ⟨by simp,rfl⟩)
          rw[<-he,<-e7];exact h.c15 rfl
         have HWR:Hid (IntKind.i64.wrap (xl+G)=xl+G):=ba (bs _ (by omega))
         iterate 4 (
          apply iK
          case hE=>rfl
          case h=>
           intro vs W b c hd;have hl:=IJ ((c.block _ (aJ M9.out.map)).trans M9.out.map) HXF.out;have q0:=zc;have q1:=ze;have g2:=(c.cell (p:=⟨wr.heap.size,2,none⟩) Wf).trans d;have hw:=HWR.out;simp only[nD]at hl
           go_simp
           exact⟨rfl,bc _ _⟩
          case hb=>exact hbT)
         apply ey
         case hE=>rfl
         case hb=>exact hbT
         case h=>
          intro vs W D b hb c jw hi _ hd hP
          go_simp
          refine(tC kp op L.length pc (L.map λz=>.int .i64 z) _ (by simp) (λj u e=>?_) (by simp[Value.oneCell']) (by have:=OX2.out;omega) (bo HKP.out c.size)).mono ?_
          ·obtain⟨z,hz,rfl⟩:∃z,L[j]?=some z/\u=.int .i64 z:=by
            rw[ai]at e
            cases h:L[j]? with
            |none=>rw[h]at e;cases e
            |some z=>rw[h]at e;cases e;exact⟨z,rfl,rfl⟩
           have H:=(List.getElem?_eq_some_iff.1 hz).1;rw[c.cell (p:=⟨kp,op+j,none⟩) HKP.out,HCP.out j (by omega)];simp[ae,hz]
          ·rintro e W'⟨v,rfl,_,hO,I⟩;exact⟨v,rfl,aP c I,λj H hE=>(hd j H hE).le I,⟨λ_ _=>by simp only[upd,if_pos];exact dJ hO c.size,λe=>absurd e (by decide),λe=>absurd e (by decide),λe=>absurd e (by decide),λe=>absurd e (by decide)⟩⟩
         iterate 1 (
          apply iK
          case hE=>rfl
          case h=>
           intro vs W b c hd;have hl:=IJ ((c.block _ (aJ M9.out.map)).trans M9.out.map) HXF.out;have q0:=zc;have q1:=ze;have g2:=(c.cell (p:=⟨wr.heap.size,2,none⟩) Wf).trans d;have hw:=HWR.out;simp only[nD]at hl
           go_simp
           exact⟨rfl,bc _ _⟩
          case hb=>exact hbT)
         apply ey
         case hE=>rfl
         case hb=>exact hbT
         case h=>
          intro vs W D b hb c jw hi _ hd hP;have I:=(bc W.heap.size W).alloc (bg _) (.cells #[.int .i64 F] 3);have HBC:=ba (aP c I);clear c
          go_simp
          exact⟨HBC.out,λj H hE=>(hd j H hE).le I,⟨λe=>absurd e (by decide),λ_ _=>⟨W.heap.size,by simp[upd],au _ _⟩,λe=>absurd e (by decide),λe=>absurd e (by decide),λe=>absurd e (by decide)⟩⟩
         apply ey
         case hE=>rfl
         case hb=>exact hbT
         case h=>
          intro vs W D bb iC c jw hi _ hd hP;have hf:=iC rfl;have m4:4∈D:=jw ⟨4,.data⟩ (cH.2 ⟨by simp,rfl⟩);have m6:6∈D:=jw ⟨6,.data⟩ (cH.2 ⟨by simp,rfl⟩);have fO:=(hd 4 m4 rfl).c4 rfl hf;obtain⟨kq,hkq,hkc⟩:=(hd 6 m6 rfl).c6 rfl hf;have bu:=cZ fO;have hoc:=qm fO;refine yX Rz RE rfl _ _ rfl M.heap.size (vs 4) L F kq rfl fO hkq (by simp[aS,hkc]) (by have:=OX2.out;omega) c.size λv' w' e1 e2=>?_;have I:Below M.heap.size W w':=(bc _ W).grown e2 c.size bu;refine⟨c.trans I,λj H hE=>⟨λ_ e=>by simp at e,λ_ e=>by simp at e,λe=>absurd H (by rw[e];exact hi),(hd j H hE).c15,λe=>((hd j H hE).c16 e).imp λk l=>⟨l.1,l.2.1,(e2.block k (aJ l.2.2) λe=>?_).trans l.2.2⟩⟩,⟨λe=>absurd e (by decide),λe=>absurd e (by decide),λ_=>by simpa[upd]using e1,λe=>absurd e (by decide),λe=>absurd e (by decide)⟩,λ_ _ _=>trivial⟩;obtain⟨cur,SF⟩:=hoc k e.symm;rw[l.2.2]at SF;cases SF
         iterate 7 (
          apply iK
          case hE=>rfl
          case h=>
           intro vs W b c hd;have hl:=IJ ((c.block _ (aJ M9.out.map)).trans M9.out.map) HXF.out;have q0:=zc;have q1:=ze;have g2:=(c.cell (p:=⟨wr.heap.size,2,none⟩) Wf).trans d;have hw:=HWR.out;simp only[nD]at hl
           go_simp
           exact⟨rfl,bc _ _⟩
          case hb=>exact hbT)
         apply ey
         case hE=>rfl
         case hb=>exact hbT
         case h=>
          intro vs W D bb iC c jw hi _ hd hP;have m7:7∈D:=jw ⟨7,.data⟩ (cH.2 ⟨by simp,rfl⟩);obtain⟨vb,vc,h7⟩:=vB ((hd 7 m7 rfl).c7 rfl);rw[h7];have HD:=ba hd;clear hd
          go_simp
          exact⟨HD.out,⟨λe=>absurd e (by decide),λe=>absurd e (by decide),λe=>absurd e (by decide),λ_=>by simp[upd,h7],λe=>absurd e (by decide)⟩⟩
         apply ey
         case hE=>rfl
         case hb=>exact hbT
         case h=>
          intro vs W D b hb c jw hi _ hd hP;have I:=(bc W.heap.size W).alloc (bg _) (.cells #[.slice none 0 0,.int .i64 0] 106);have HBC:=ba (aP c I);have HSZ:=ba c.size;clear c
          go_simp
          exact⟨HBC.out,λj H hE=>(hd j H hE).le I,⟨λe=>absurd e (by decide),λe=>absurd e (by decide),λe=>absurd e (by decide),λe=>absurd e (by decide),λ_=>⟨W.heap.size,by simp[upd],HSZ.out,au _ _⟩⟩⟩
         refine nv λvs W bb _ c hd _=>?_;have hO7:=(hd 7 (by omega) rfl).c7 rfl;have ab8:=(hd 15 (by omega) rfl).c15 rfl;obtain⟨kw,h16,hkw,hcw⟩:=(hd 16 (by omega) rfl).c16 rfl;obtain⟨vb,vc,h7⟩:=vB hO7;rw[h7]at ab8 hO7;have HO7:=ba hO7;have HC1:=ba c;have HKW:=ba hkw;have HCW:=ba hcw;have y0:W.cell? ⟨kw,0,none⟩=some (.slice none 0 0):=by simp[aS,hcw]
         have y1:W.cell? ⟨kw,1,none⟩=some (.int .i64 0):=by simp[aS,hcw]
         have fz:=tO hcw;rw[h16,ab8];clear hd c hO7 ab8 h16 hkw hcw h7;obtain⟨nn,Va⟩:∃n,n=(L++[F]).length:=⟨_,rfl⟩
         have HNN:=ba Va;rw[<-Va];clear Va
         go_upto_region 34 with fail
         obtain⟨XR,SG⟩:∃XR:World,XR=(W.setCell ⟨kw,0,none⟩ (.slice vb nn vc)).setCell ⟨kw,1,none⟩ (.int .i64 (xl+G)):=⟨_,rfl⟩
         have SI:Below M.heap.size M XR:=by rw[SG];exact(HC1.out.setCell (p:=⟨kw,0,none⟩) HKW.out _).setCell (p:=⟨kw,1,none⟩) HKW.out _
         have P10:Hid (XR.heap[kw]?=some (.cells #[.slice vb nn vc,.int .i64 (xl+G)] 106)):=ba (by rw[SG];exact Wc HCW.out)
         have O10:Hid (eO 3 XR M.heap.size (.slice vb nn vc) (L++[F])):=ba (by
          have hoc:=qm HO7.out;rw[HNN.out];have bu:∀j,Value.ownBlock (.slice vb (L++[F]).length vc)=some j->j≠kw:=λj e H=>by
           obtain⟨cur,SF⟩:=hoc j e;rw[H,HCW.out]at SF;cases SF
          rw[SG]
          exact A8 (A8 HO7.out bu) bu)
         have M10:=ba (M9.out.on SI);have L10:=ba (aG SI L9.out);have S10:=ba (aG SI S9.out);have Ry:=ba (K9.out.on SI);rw[<-SG];clear SG SI y0 y1 fz;obtain⟨tp,tn,tc,tl,ok,FH,Ag⟩:=SE M10.out F;have HOK:=ba Ag;clear Ag h0 h1 d
         go_upto_region 35 with fail
         obtain⟨Z,ab9⟩:∃Z:World,Z=XR.alloc (.cells #[.slice tp tn tc,.int .i64 tl] 106):=⟨_,rfl⟩
         have IP:Below XR.heap.size XR Z:=by rw[ab9];exact(bc _ _).alloc (bg _) _
         have P11:=ba ((IP.block _ (aJ P10.out)).trans P10.out);have O11:=ba (O10.out.on IP);have M11:=ba (M10.out.on IP);have L11:=ba (aG IP L10.out);have S11:=ba (aG IP S10.out);have Tr:=ba (Ry.out.on IP);rw[<-ab9];clear ab9 IP FH M10 L10 S10 Ry O10;by_cases ht:F∈tP m (i+1)
         ·have HT1:=ba ht;clear ht
          go_wp2_with (at_lookup;go_must (refine aR (enc:=zn) _ rfl _ _ 104 3 4 rfl qz ju (mq _) T (tP m (i+1)) rfl L11.out F rfl true (by simpa using HT1.out) ?_))
          exact⟨⟨q+1,R',Q,by go_num,by rw[X.out,N0,stepW,if_neg (by rw[NSK.out];decide),if_pos (by rw[<-HTO.out];exact HT1.out)],M11.out,L11.out,S11.out,Tr.out⟩,by simp only[intOf];omega⟩
         ·have HT1:=ba ht;clear ht;have hnf:R'.find? (λz=>z.1==F)=none:=by
           have e:=OX5.out NSK.out (by rw[<-HTO.out];exact HT1.out);rw[<-HTO.out]at e;have e2:=nE X.out F;rw[e]at e2
           cases e3:R'.find? (λz=>z.1==F) with
           |none=>rfl
           |some z=>rw[e3]at e2;cases e2
          have Ag:ok=false:=HOK.out hnf;subst Ag;have HNF:=ba hnf;clear hnf;have z0:Z.cell? ⟨kw,0,none⟩=some (.slice vb nn vc):=by have h:=P11.out;simp[aS,h]
          have z1:Z.cell? ⟨kw,1,none⟩=some (.int .i64 (xl+G)):=by have h:=P11.out;simp[aS,h]
          have RD:Hid (bB Z (.slice vb nn vc) (L++[F])):=ba (eO.reads O11.out)
          go_wp2_with (first
           |(at_lookup;go_must (refine aR (enc:=zn) _ rfl _ _ 104 3 4 rfl qz ju (mq _) T (tP m (i+1)) rfl L11.out F rfl false (by simpa using HT1.out) ?_))
           |(at_mapUpdate;go_must (refine tF _ rfl _ _ _ (.inl rfl) S R' (F,.slice vb nn vc,L++[F],xl+G) rfl rfl rfl M11.out HNF.out RD.out (by simp) ?_);intro w12 hM y;go_must (have M12:=ba hM;have L12:=ba (br L11.out (y.block _ (by have:=ZR.out;omega)));have S12:=ba (br S11.out (y.block _ (by have:=ZR.out;omega)));have VC:=ba (Tr.out.turned y M11.out.map (λ_ _ _ e=>by cases e) (by have:=ZM.out;have:=ZR.out;omega):KQ C w kx P w12));clear hM y;go_frame))
          refine⟨⟨q+1,R'++[(F,.slice vb nn vc,L++[F],xl+G)],Q,by go_num,?_,M12.out,L12.out,S12.out,VC.out⟩,by simp only[intOf];omega⟩;rw[List.map_append,X.out,N0,stepW,if_neg (by rw[NSK.out];decide),if_neg (by rw[<-HTO.out];exact HT1.out),OX1.out]
          simp only[List.map_cons,List.map_nil,strip,HTO.out,EG.out])
end Go.Proofs
namespace Go.Proofs
open Go.RowKit Go.Shelf
set_option maxRecDepth 100000
set_option maxHeartbeats 1000000
def uP(d:Int)(C:CD)(W:World):Prop:=∃k2 g k3 c3 a h b i c e lb f,C=ir k2 g k3 c3 a h b i c e lb f d/\CJ W k2 k3 a b c e lb f d
def uP.on{d:Int}{C:CD}{W a:World}(h:uP d C W)(b:Below W.heap.size W a):uP d C a:=by
 obtain⟨k2,c,k3,c3,f,g,i,j,k,l,lb,m,e,h⟩:=h;exact⟨k2,c,k3,c3,f,g,i,j,k,l,lb,m,e,h.on b⟩
def uP.at{d:Int}{C:CD}{W:World}(h:uP d C W):C.At W:=by
 obtain⟨k2,a,k3,c3,b,c,e,f,g,i,lb,j,rfl,h⟩:=h;exact h.at
def uP.is{d:Int}{C:CD}{W:World}(h:uP d C W):VB d C:=by
 obtain⟨k2,a,k3,c3,b,c,e,f,g,i,lb,j,rfl,_⟩:=h;exact⟨k2,a,k3,c3,b,c,e,f,g,i,lb,j,rfl⟩
def tG{d:Int}{C:CD}(hd:d=0\/d=1)(h:VB d C):C.b6 true=0:=by
 obtain⟨k2,a,k3,c3,b,c,e,f,g,i,lb,j,rfl⟩:=h
 rcases hd with rfl|rfl<;>kernel_rfl
def IQ{d:Int}{C:CD}(hd:d=0\/d=1)(h:VB d C):C.cx=0:=IC (tG hd h)
def agd(w:World):Calls PL 16 #[.int .i64 13,.int .i64 (-5)] w λe w'=>e=.returned (.tuple #[.int .i64 12,.int .i64 0])/\w=w':=(uD 13 (-5) w).mono λ_ _ k=>⟨k.1.trans (by kernel_rfl),k.2.symm⟩
def age(w:World):Calls PL 16 #[.int .i64 20,.int .i64 11] w λe w'=>e=.returned (.tuple #[.int .i64 16,.int .i64 0])/\w=w':=(uD 20 11 w).mono λ_ _ k=>⟨k.1.trans (by kernel_rfl),k.2.symm⟩
def agf{C:CD}(w:World)(h:uP 0 C w):Calls PL 17 #[.agg C.val,.int .i64 0] w (aO (.tuple #[.agg #[.int .i64 16,.int .i64 20],.int .i64 0]) w):=by
 have k:=nB C 0 w h.at;have e:C.kR 0=.tuple #[.agg #[.int .i64 16,.int .i64 20],.int .i64 0]:=by
  obtain⟨k2,a,k3,c3,b,c,d,f,g,i,lb,j,rfl⟩:=h.is
  kernel_rfl
 rwa[e]at k
def agh{C:CD}(w:World)(h:uP 0 C w):Calls PL 17 #[.agg C.val,.int .i64 2] w (aO (.tuple #[.agg #[.int .i64 24,.int .i64 25],.int .i64 0]) w):=by
 have k:=nB C 2 w h.at;have e:C.kR 2=.tuple #[.agg #[.int .i64 24,.int .i64 25],.int .i64 0]:=by
  obtain⟨k2,a,k3,c3,b,c,d,f,g,i,lb,j,rfl⟩:=h.is
  kernel_rfl
 rwa[e]at k
def agi{C:CD}(w:World)(h:uP 0 C w):Calls PL 18 #[.agg C.val,.int .i64 0] w (aO (.tuple #[.int .i64 0,.int .i64 0]) w):=by
 have k:=pH C 0 w h.at;have e:C.iq 0=.tuple #[.int .i64 0,.int .i64 0]:=by
  obtain⟨k2,a,k3,c3,b,c,d,f,g,i,lb,j,rfl⟩:=h.is
  kernel_rfl
 rwa[e]at k
def agj{C:CD}(w:World)(h:uP 0 C w):Calls PL 18 #[.agg C.val,.int .i64 2] w (aO (.tuple #[.int .i64 2,.int .i64 0]) w):=by
 have k:=pH C 2 w h.at;have e:C.iq 2=.tuple #[.int .i64 2,.int .i64 0]:=by
  obtain⟨k2,a,k3,c3,b,c,d,f,g,i,lb,j,rfl⟩:=h.is
  kernel_rfl
 rwa[e]at k
def SJ:List Int:=[0,0,0,4,6,1,6,9,10,14,2,13,17,18,22]
def abj:List Int:=[0,1,2,0,13]
def ahf{W:World}{base e n:Nat}{v:Value}{xs:List Value}(h:W.ownsRow base e 5 v n xs)(l:List Int)(a:xs=l.map λz=>.int .i64 z):Reads W v n 5 λj=>.int .i64 (l.getD j 0):=by
 obtain⟨hl,h⟩:=h
 rcases h with⟨rfl,rfl⟩|⟨g,cap,b,rfl,hb,hg,hc,d,hs,c⟩
 ·exact⟨none,0,rfl,λh=>absurd h (bp _)⟩
 ·refine⟨_,_,rfl,λf=>⟨g,0,rfl,aJ hg,λj i=>?_⟩⟩;have k:l.length=n*5:=by rw[<-hl,a,List.length_map]
  have e:xs[j]?=some (.int .i64 (l.getD j 0)):=by
   rw[a,ai,aw (by omega)];simp[ae,aw (show j<l.length by omega)]
  rw[<-c,aB (by omega)]at e;simp only[aS,hg,bq];simpa using e
def e34{C:CD}(w:World)(h:uP 0 C w):Calls PL 7 #[.agg C.val,.int .i64 0] w λe w'=>∃v,e=.returned (.tuple #[v,.int .i64 0])/\(Reads w' v 3 5 λj=>.int .i64 (SJ.getD j 0))/\Below w.heap.size w w':=by
 have k:=ID C 0 w h.at (by obtain⟨k2,a,k3,c3,b,c,d,f,g,i,lb,l,rfl⟩:=h.is;show 0<2;decide) (by obtain⟨k2,a,k3,c3,b,c,d,f,g,i,lb,l,rfl⟩:=h.is;show 2<=3;decide) (tG (.inl rfl) h.is) (Sa C (IQ (.inl rfl) h.is) (by obtain⟨k2,a,k3,c3,b,c,d,f,g,i,lb,l,rfl⟩:=h.is;show 0<2;decide));refine k.mono ?_;rintro e w'⟨v,rfl,m,n⟩;have e:mD C 0 C.n4=[(0,0,0,4,6),(1,6,9,10,14),(2,13,17,18,22)]:=by
  obtain⟨k2,a,k3,c3,b,c,d,f,g,i,lb,l,rfl⟩:=h.is
  kernel_rfl
 unfold AY at m;rw[e]at m;exact⟨v,rfl,ahf m SJ rfl,n⟩
def e59{C:CD}(w:World)(h:uP 0 C w):Calls PL 19 #[.agg C.val,.int .i64 1] w (aO (.tuple #[.agg #[.int .i64 18,.int .i64 23],.int .i64 0]) w):=by
 have k:=Sj C 1 w h.at (by obtain⟨k2,a,k3,c3,b,c,d,f,g,i,lb,j,rfl⟩:=h.is;show 1<2;decide) (by obtain⟨k2,a,k3,c3,b,c,d,f,g,i,lb,j,rfl⟩:=h.is;show 2<=3;decide) (tG (.inl rfl) h.is) (Sa C (IQ (.inl rfl) h.is) (by obtain⟨k2,a,k3,c3,b,c,d,f,g,i,lb,j,rfl⟩:=h.is;show 1<2;decide));have e:nU C 1=(18,23):=by
  obtain⟨k2,a,k3,c3,b,c,d,f,g,i,lb,j,rfl⟩:=h.is
  kernel_rfl
 rwa[e]at k
def e36{C:CD}(w:World)(h:uP 0 C w):Calls PL 9 #[.agg C.val,.int .i64 8] w λe w'=>∃v,e=.returned (.tuple #[v,.int .i64 0])/\bB w' v [2,0,1]/\Below w.heap.size w w':=by
 have k:=RO C 8 je Sy w h.at (tG (.inl rfl) h.is) (by obtain⟨k2,a,k3,c3,b,c,d,f,g,i,lb,j,rfl⟩:=h.is;show 3<=5;decide) (by obtain⟨k2,a,k3,c3,b,c,d,f,g,i,lb,j,rfl⟩:=h.is;show 2<=3;decide) rfl λW l=>tA (.inl rfl) h.is l;have e:tB je 8 C.n5 C.n4=[2,0,1]:=by
  obtain⟨k2,a,k3,c3,b,c,d,f,g,i,lb,j,rfl⟩:=h.is
  kernel_rfl
 rwa[e]at k
def e37{C:CD}{d:Int}(hd:d=0\/d=1)(w:World)(h:uP d C w):Calls PL 10 #[.agg C.val] w λe w'=>∃v,e=.returned (.tuple #[v,.int .i64 0])/\(∃b c,v=.slice b (Cv d 3).length c)/\(Reads w' v (Cv d 3).length 5 λj=>.int .i64 (abj.getD j 0))/\Below w.heap.size w w':=by
 have l:C.n4=3/\C.n5=2:=by obtain⟨k2,o,k3,c3,p,q,r,s,t,u,lb,x,rfl⟩:=h.is;exact⟨rfl,rfl⟩
 have k:=Fp C (λW v=>(∃b c,v=.slice b (Cv d 3).length c)/\Reads W v (Cv d 3).length 5 λj=>.int .i64 (abj.getD j 0)) w h.at (tG hd h.is) λW m=>(vC C d hd l.1 l.2 W m λy f=>tA hd h.is f).mono λe w'⟨v,g,a,i⟩=>⟨v,g,⟨vB a,?_⟩,i⟩
 ·exact k.mono λe w'⟨v,g,a,i⟩=>⟨v,g,a.1,a.2,i⟩
 ·rcases hd with rfl|rfl
  ·have n:Cv 0 3=[]:=rfl;unfold kV at a;rw[n]at a⊢;obtain⟨b,c,rfl⟩:=vB a;exact⟨b,c,rfl,λh=>absurd h (bp _)⟩
  ·exact ahf a abj rfl
def e39{C:CD}{v:Value}(w:World)(h:uP 0 C w)(hv:bB w v [0,1]):Calls PL 12 #[.agg C.val,v] w λe w'=>∃a,e=.returned (.tuple #[.agg a.val,.int .i64 0])/\uP 1 a w'/\Below w.heap.size w w':=by
 obtain⟨k2,l,k3,c3,m,n,o,p,q,r,lb,s,rfl,b⟩:=h;exact(Iw w b hv).mono λe w'⟨q2,d2,q3,d3,q4,d4,q5,d5,c,d,f,g,i,j,k⟩=>⟨_,i,⟨q2,d2,q3,d3,q4,d4,q5,d5,c,d,f,g,rfl,j⟩,k⟩
def e52{C:CD}(w:World)(h:uP 1 C w):Calls PL 20 #[.agg C.val] w λe w'=>∃v,e=.returned (.tuple #[v,.bool true,.int .i64 0])/\bB w' v [0,0]/\Below w.heap.size w w':=by
 obtain⟨k2,b,k3,c3,c,d,f,g,i,j,lb,k,rfl,a⟩:=h;exact II w a
def agk{C:CD}(w:World)(h:uP 0 C w):Calls PL 21 #[.agg C.val,.int .i64 2,.int .i64 5] w λe w'=>∃v,e=.returned (.tuple #[v,.int .i64 110,.bool true,.int .i64 0])/\bB w' v [2,3,0]/\Below w.heap.size w w':=by
 have a:=h.at;obtain⟨k2,b,k3,c3,c,d,f,g,i,j,lb,k,e,_⟩:=h;exact Ba C 5 (.inl rfl) e w a
def agl{C:CD}(w:World)(h:uP 0 C w):Calls PL 21 #[.agg C.val,.int .i64 2,.int .i64 3] w λe w'=>∃v,e=.returned (.tuple #[v,.int .i64 0,.bool false,.int .i64 0])/\bB w' v []/\Below w.heap.size w w':=by
 have a:=h.at;obtain⟨k2,b,k3,c3,c,d,f,g,i,j,lb,k,e,_⟩:=h;exact Ba C 3 (.inr rfl) e w a
def e31{C:CD}(w:World)(h:uP 0 C w):Calls PL 22 #[.agg C.val] w λe w'=>∃v,e=.returned (.tuple #[v,.int .i64 0])/\bB w' v [0,2]/\Below w.heap.size w w':=by
 have k:=Cr C w h.at (IQ (.inl rfl) h.is);have e:(qC C C.p.toNat (2 ^ C.p.toNat)).getD []=[0,2]:=by
  obtain⟨k2,a,k3,c3,b,c,d,f,g,i,lb,j,rfl⟩:=h.is
  kernel_rfl
 rwa[e]at k
def agm{C:CD}(w:World)(h:uP 0 C w):Calls PL 10 #[.agg C.val] w λe w'=>∃b c,e=.returned (.tuple #[.slice b 0 c,.int .i64 0])/\Below w.heap.size w w':=
 (e37 (.inl rfl) w h).mono λe w'⟨v,a,⟨b,c,d⟩,_,f⟩=>⟨b,c,by rw[a,d];rfl,f⟩
def agn{C:CD}(w:World)(h:uP 1 C w):Calls PL 10 #[.agg C.val] w λe w'=>∃v,e=.returned (.tuple #[v,.int .i64 0])/\(Reads w' v 1 5 λj=>.int .i64 (abj.getD j 0))/\Below w.heap.size w w':=
 (e37 (.inr rfl) w h).mono λe w'⟨v,a,_,b,c⟩=>⟨v,a,b,c⟩
def iO(W:World)(t:TypeId)(m:Nat)(l:List Int)(n:Nat)(hl:l.length=n*m):Reads (W.alloc (.cells (l.map λz=>Value.int .i64 z).toArray t)) (.slice (some ⟨W.heap.size,0,none⟩) n n) n m λj=>.int .i64 (l.getD j 0):=by
 refine⟨_,_,rfl,λ_=>⟨_,_,rfl,by simp,λj b=>?_⟩⟩;have h:=au W (.cells (l.map λz=>Value.int .i64 z).toArray t);have a:j<l.length:=by omega
 simp only[aS,h];simp[ae,a]
attribute [local go_sem] Oper.semAt_some
def NC(P:World->Prop):Prop:=∀W a,P W->Below W.heap.size W a->P a
def iy(W:World):List (World->Prop)->Prop
 |[]=>True
 |P::l=>(P W/\NC P)/\iy W l
def iy.on{W a:World}:∀{l:List (World->Prop)},iy W l->Below W.heap.size W a->iy a l
 |[],_,_=>trivial
 |_::_,h,b=>⟨⟨h.1.2 _ _ h.1.1 b,h.1.2⟩,iy.on h.2 b⟩
def iy.add{W:World}{l:List (World->Prop)}(h:iy W l)(P:World->Prop)(a:P W)(b:NC P):iy W (P::l):=⟨⟨a,b⟩,h⟩
def mE(k:Nat)(x:Obj):NC λW=>W.heap[k]?=some x:=λ_ _ h a=>(a.block _ (aJ h)).trans h
def gz(v:Value)(n m:Nat)(f:Nat->Value):NC λW=>Reads W v n m f:=λ_ _ h a=>Reads.on h a
def Lp(d:Int)(C:CD):NC (uP d C):=λ_ _ h a=>h.on a
def SU(w:World):NC λW=>Below w.heap.size w W:=λ_ _ h a=>aP h a
def IV(w:World):Calls PL 6 #[] w (aO (.bool true) w):=by
 go_enter (fx (by decide) Tryz.func6),Tryz.ntmps6
 go_upto_region 2 with(go_at_call 15;go_must (refine(EV _).mono ?_);rintro e w0⟨k2,L,k3,c3,M,q,N,r,O,P,lb,Q,rfl,⟨r2,r3,r4,r5,ra,rb⟩,a⟩;have z:Hid (uP 0 (ir k2 L k3 c3 M q N r O P lb Q 0) w0):=ba ⟨k2,L,k3,c3,M,q,N,r,O,P,lb,Q,rfl,⟨r2,r3,r4,r5,ra,rb⟩⟩;have HB:=ba a;clear r2 r3 r4 r5 ra rb a;obtain⟨C,m⟩:∃C,C=ir k2 L k3 c3 M q N r O P lb Q 0:=⟨_,rfl⟩;rw[<-m]at z ⊢;clear m)
 obtain⟨kb,R⟩:∃k,k=w0.heap.size:=⟨_,rfl⟩
 obtain⟨W2,i⟩:∃W:World,W=w0.alloc (.cells C.val 27):=⟨_,rfl⟩
 have s:Below w0.heap.size w0 W2:=by rw[i];exact(bc _ _).alloc (bg _) _
 have S:Hid (iy W2 [λW=>W.heap[kb]?=some (.cells C.val 27),uP 0 C,λW=>Below w.heap.size w W]):=ba ⟨⟨by rw[i,R];exact au _ _,mE _ _⟩,⟨z.out.on s,Lp _ _⟩,⟨aP HB.out s,SU _⟩,trivial⟩;rw[<-i,<-R];clear i R s z HB
 go_upto_region 3 with(go_at_call 16;go_must (refine(agd _).mono ?_);rintro e w'⟨rfl,rfl⟩)
 go_upto_region 4 with(go_at_call 16;go_must (refine(age _).mono ?_);rintro e w'⟨rfl,rfl⟩)
 obtain⟨b,c,d,f,f4,g⟩:=bf S.out.1.1
 go_upto_region 5 with(go_at_call 17;go_must (refine(agf _ (S.out.2.1.1)).mono ?_);rintro e n⟨rfl,a⟩;have A:=ba (S.out.on a);clear a b c d f f4 g)
 obtain⟨T,hb⟩:∃k,k=n.heap.size:=⟨_,rfl⟩
 obtain⟨W4,i⟩:∃W:World,W=n.alloc (.cells #[.int .i64 16,.int .i64 20] 43):=⟨_,rfl⟩
 have U:=ba ((A.out.on (show Below n.heap.size n W4 by rw[i];exact(bc _ _).alloc (bg _) _)).add (λW=>W.heap[T]?=some (.cells #[.int .i64 16,.int .i64 20] 43)) (by rw[i,hb];exact au _ _) (mE _ _));rw[<-i,<-hb];clear i hb A;obtain⟨b,c,d,f,f4,g⟩:=bf (U.out.2.1.1)
 go_upto_region 6 with(go_at_call 17;go_must (refine(agh _ (U.out.2.2.1.1)).mono ?_);rintro e o⟨rfl,a⟩;have B:=ba (U.out.on a);clear a b c d f f4 g)
 obtain⟨V,hb⟩:∃k,k=o.heap.size:=⟨_,rfl⟩
 obtain⟨W5,i⟩:∃W:World,W=o.alloc (.cells #[.int .i64 24,.int .i64 25] 43):=⟨_,rfl⟩
 have X:=ba ((B.out.on (show Below o.heap.size o W5 by rw[i];exact(bc _ _).alloc (bg _) _)).add (λW=>W.heap[V]?=some (.cells #[.int .i64 24,.int .i64 25] 43)) (by rw[i,hb];exact au _ _) (mE _ _));rw[<-i,<-hb];clear i hb B;obtain⟨b,c,d,f,f4,g⟩:=bf (X.out.2.2.1.1)
 go_upto_region 7 with(go_at_call 18;go_must (refine(agi _ (X.out.2.2.2.1.1)).mono ?_);rintro e w6x⟨rfl,a⟩;have Y:=ba (X.out.on a);clear a b c d f f4 g;obtain⟨b,c,d,f,f4,g⟩:=bf (Y.out.2.2.1.1))
 go_upto_region 8 with(go_at_call 18;go_must (refine(agj _ (Y.out.2.2.2.1.1)).mono ?_);rintro e w7x⟨rfl,a⟩;have Z:=ba (Y.out.on a);clear a b c d f f4 g;obtain⟨b,c,d,f,f4,g⟩:=bf (Z.out.2.2.1.1))
 go_upto_region 9 with(go_at_call 7;go_must (refine(e34 _ (Z.out.2.2.2.1.1)).mono ?_);rintro e w8x⟨v8,rfl,l,a⟩;have K8:=ba ((Z.out.on a).add (λW=>Reads W v8 3 5 λj=>.int .i64 (SJ.getD j 0)) l (gz _ _ _ _));clear l;clear a b c d f f4 g;obtain⟨b,c,d,f,f4,g⟩:=bf (K8.out.2.2.2.1.1))
 go_upto_region 10 with(go_at_call 19;go_must (refine(e59 _ (K8.out.2.2.2.2.1.1)).mono ?_);rintro e p⟨rfl,a⟩;have D:=ba (K8.out.on a);clear a b c d f f4 g)
 obtain⟨b9,hb⟩:∃k,k=p.heap.size:=⟨_,rfl⟩
 obtain⟨W9,i⟩:∃W:World,W=p.alloc (.cells #[.int .i64 18,.int .i64 23] 43):=⟨_,rfl⟩
 have K9:=ba ((D.out.on (show Below p.heap.size p W9 by rw[i];exact(bc _ _).alloc (bg _) _)).add (λW=>W.heap[b9]?=some (.cells #[.int .i64 18,.int .i64 23] 43)) (by rw[i,hb];exact au _ _) (mE _ _));rw[<-i,<-hb];clear i hb D;obtain⟨b,c,d,f,f4,g⟩:=bf (K9.out.2.2.2.2.1.1)
 go_upto_region 11 with(go_at_call 9;go_must (refine(e36 _ (K9.out.2.2.2.2.2.1.1)).mono ?_);rintro e aul⟨E,rfl,l,a⟩;have Ry:=ba ((K9.out.on a).add (λW=>bB W E [2,0,1]) l (gz _ _ _ _));clear l;clear a b c d f f4 g;obtain⟨b,c,d,f,f4,g⟩:=bf (Ry.out.2.2.2.2.2.1.1))
 go_upto_region 12 with(go_at_call 10;go_must (refine(agm _ (Ry.out.2.2.2.2.2.2.1.1)).mono ?_);rintro e aum⟨Fy,q11,rfl,a⟩;have Tr:=ba (Ry.out.on a);clear a b c d f f4 g;obtain⟨b,c,d,f,f4,g⟩:=bf (Tr.out.2.2.2.2.2.1.1))
 go_upto_region 13 with(go_at_call 12;go_must (refine(e39 _ ((Tr.out.2.2.2.2.2.2.1.1).on ((bc _ _).alloc (bg _) _)) (iO _ 3 1 [0,1] 2 rfl)).mono ?_);rintro e K⟨C1,rfl,hE,a⟩;have F:=ba ((Tr.out.on ((bc _ _).alloc (bg _) _)).on a);have z:=ba hE;clear hE;clear a b c d f f4 g)
 obtain⟨Vv,hb⟩:∃k,k=K.heap.size:=⟨_,rfl⟩
 obtain⟨W12,i⟩:∃W:World,W=K.alloc (.cells C1.val 27):=⟨_,rfl⟩
 have t:Below K.heap.size K W12:=by rw[i];exact(bc _ _).alloc (bg _) _
 have VC:=ba (((F.out.on t).add (λW=>W.heap[Vv]?=some (.cells C1.val 27)) (by rw[i,hb];exact au _ _) (mE _ _)).add (uP 1 C1) (z.out.on t) (Lp _ _));rw[<-i,<-hb];clear i hb t F z;obtain⟨b,c,d,f,f4,g⟩:=bf (VC.out.2.1.1)
 go_upto_region 14 with(go_at_call 10;go_must (refine(agn _ (VC.out.1.1)).mono ?_);rintro e aun⟨UW,rfl,l,a⟩;have u:=ba ((VC.out.on a).add (λW=>Reads W UW 1 5 λj=>.int .i64 (abj.getD j 0)) l (gz _ _ _ _));clear l;clear a b c d f f4 g;obtain⟨b,c,d,f,f4,g⟩:=bf (u.out.2.2.1.1))
 go_upto_region 15 with(go_at_call 20;go_must (refine(e52 _ (u.out.2.1.1)).mono ?_);rintro e auo⟨UX,rfl,l,a⟩;have Tq:=ba ((u.out.on a).add (λW=>bB W UX [0,0]) l (gz _ _ _ _));clear l;clear a b c d f f4 g;obtain⟨b,c,d,f,f4,g⟩:=bf (Tq.out.2.2.2.2.2.2.2.2.2.1.1))
 go_upto_region 16 with(go_at_call 21;go_must (refine(agk _ (Tq.out.2.2.2.2.2.2.2.2.2.2.1.1)).mono ?_);rintro e aup⟨H,rfl,l,a⟩;have v:=ba ((Tq.out.on a).add (λW=>bB W H [2,3,0]) l (gz _ _ _ _));clear l;clear a b c d f f4 g;obtain⟨b,c,d,f,f4,g⟩:=bf (v.out.2.2.2.2.2.2.2.2.2.2.1.1))
 go_upto_region 17 with(go_at_call 21;go_must (refine(agl _ (v.out.2.2.2.2.2.2.2.2.2.2.2.1.1)).mono ?_);rintro e auq⟨v16,rfl,l,a⟩;have x:=ba ((v.out.on a).add (λW=>bB W v16 []) l (gz _ _ _ _));clear l;clear a b c d f f4 g;obtain⟨b,c,d,f,f4,g⟩:=bf (x.out.2.2.2.2.2.2.2.2.2.2.2.1.1))
 go_upto_region 18 with(go_at_call 22;go_must (refine(e31 _ (x.out.2.2.2.2.2.2.2.2.2.2.2.2.1.1)).mono ?_);rintro e y⟨I,rfl,l,a⟩;have J:=ba ((x.out.on a).add (λW=>bB W I [0,2]) l (gz _ _ _ _));clear l;clear a b c d f f4 g;obtain⟨b,c,d,f,f4,g⟩:=bf (J.out.2.2.2.2.2.2.2.2.2.2.2.2.1.1))
 clear b c d f f4 g
 go_upto_region 20 with fail
 have KK:=J;have e4:=KK.out.2.2.2.2.2.2.2.2.2.2.2.1.1;have e5:=KK.out.2.2.2.2.2.2.2.2.2.2.1.1;have e9:=KK.out.2.2.2.2.2.2.2.2.1.1;obtain⟨wq,hwq⟩:∃W:World,W=y:=⟨_,rfl⟩
 have E4:=ba e4;have E5:=ba e5;have E9:=ba e9;clear e4 e5 e9 hwq;refine ig (λW=>Below y.heap.size y W) (λ_ _=>True) (λ_=>true) (λ_ _ _=>True) rfl (by kernel_rfl) (λ_ _ _ _ _ _=>trivial) (λ_ _ _ _ _ _ _ _ _=>trivial) (bc _ _).drew ?_
 iterate 49 (
  apply aY
  case hE=>rfl
  case h=>
   intro vs W m hd;have q:=(m.block _ (aJ E4.out)).trans E4.out;have r:=(m.block _ (aJ E5.out)).trans E5.out;have c9:=(m.block _ (aJ E9.out)).trans E9.out;have x0:W.cell? ⟨T,0,none⟩=some (.int .i64 16):=by simp[aS,q]
   have x1:W.cell? ⟨T,1,none⟩=some (.int .i64 20):=by simp[aS,q]
   have x2:W.cell? ⟨V,0,none⟩=some (.int .i64 24):=by simp[aS,r]
   have x3:W.cell? ⟨V,1,none⟩=some (.int .i64 25):=by simp[aS,r]
   have x4:W.cell? ⟨b9,0,none⟩=some (.int .i64 18):=by simp[aS,c9]
   have x5:W.cell? ⟨b9,1,none⟩=some (.int .i64 23):=by simp[aS,c9]
   have q1:=yM;have q2:=Co;clear q r c9
   go_simp
   first
   |(go_at_call 11;refine(fU _ _ _).mono ?_;rintro e W'⟨rfl,a⟩;exact⟨_,rfl,rfl,aP m a⟩)
   |exact rfl
  case hb=>exact hbT)
 refine cP λvs W m hd=>?_;have KK:=ba (KK.out.on m);clear hd m
 go_wp2_with (first
  |(go_at_call 11;go_must (refine(fU _ _ _).mono ?_);rintro e w'⟨rfl,a⟩;have KK:=ba (iy.on KK.out a);clear a)
  |(go_at_call 23;go_must (refine(zT v8 _ 3 (λj=>SJ.getD j 0) _ ((iy.on KK.out ((bc _ _).alloc (bg _) _)).2.2.2.2.2.2.2.2.2.1.1) (iO _ 45 5 SJ 3 rfl) (by decide)).mono ?_);rintro e w'⟨rfl,a⟩;have KK:=ba (iy.on (iy.on KK.out ((bc _ _).alloc (bg _) _)) a);clear a)
  |(go_at_call 24;go_must (refine(Cp E _ 3 (λj=>[2,0,1].getD j 0) _ ((iy.on KK.out ((bc _ _).alloc (bg _) _)).2.2.2.2.2.2.2.1.1) (iO _ 47 1 [2,0,1] 3 rfl) (by decide)).mono ?_);rintro e w'⟨rfl,a⟩;have KK:=ba (iy.on (iy.on KK.out ((bc _ _).alloc (bg _) _)) a);clear a)
  |(go_at_call 25;go_must (refine(vS UW _ 1 (λj=>abj.getD j 0) _ ((iy.on KK.out ((bc _ _).alloc (bg _) _)).2.2.2.2.1.1) (iO _ 49 5 abj 1 rfl) (by decide)).mono ?_);rintro e w'⟨rfl,a⟩;have KK:=ba (iy.on (iy.on KK.out ((bc _ _).alloc (bg _) _)) a);clear a))
 refine(pI UX _ 2 (λj=>[0,0].getD j 0) _ ((iy.on KK.out ((bc _ _).alloc (bg _) _)).2.2.2.1.1) (iO _ 3 1 [0,0] 2 rfl) (by decide)).mono ?_;rintro e w1x⟨rfl,a⟩;have KK:=ba (iy.on (iy.on KK.out ((bc _ _).alloc (bg _) _)) a);clear a;go_wp2;refine(pI H _ 3 (λj=>[2,3,0].getD j 0) _ ((iy.on KK.out ((bc _ _).alloc (bg _) _)).2.2.1.1) (iO _ 3 1 [2,3,0] 3 rfl) (by decide)).mono ?_;rintro e w2x⟨rfl,a⟩;have KK:=ba (iy.on (iy.on KK.out ((bc _ _).alloc (bg _) _)) a);clear a;go_wp2;refine(pI I _ 2 (λj=>[0,2].getD j 0) _ ((iy.on KK.out ((bc _ _).alloc (bg _) _)).1.1) (iO _ 3 1 [0,2] 2 rfl) (by decide)).mono ?_;rintro e w3x⟨rfl,a⟩;have KK:=ba (iy.on (iy.on KK.out ((bc _ _).alloc (bg _) _)) a);clear a;go_wp2
 go_ret
 exact⟨rfl,KK.out.2.2.2.2.2.2.2.2.2.2.2.2.2.2.1.1⟩
end Go.Proofs
namespace Go.Proofs
open Go.RowKit
structure ahV(C D:CD):Prop where
 l:D.l=C.l
 p:D.p=C.p
 n2:D.n2=C.n2
 x2:D.x2=C.x2
 n3:D.n3=C.n3
 x3:D.x3=C.x3
 n4:D.n4=C.n4
 x4:∀i,(D.x4 i).name=(C.x4 i).name/\(∀j,j<=6->(D.x4 i).n j=(C.x4 i).n j)/\(D.x4 i).ln=(C.x4 i).ln/\(D.x4 i).lane=(C.x4 i).lane
 n5:D.n5=C.n5
 x5:∀i,(D.x5 i).1=(C.x5 i).1/\(D.x5 i).2.1=(C.x5 i).2.1
def ahV.check{C D:CD}(h:ahV C D)(f:∀i,i<C.n4->eK ((D.x4 i).n 7) ((D.x4 i).n 8) 1 60=true/\eK ((D.x4 i).n 9) ((D.x4 i).n 10) 0 60=true)(k:∀i,i<C.n5->bO (D.x5 i).2.2 0 12=true)(hc:C.cx=0):D.cx=0:=by
 have d:∀j,j<5->C.dP j=0:=ck hc;refine cz λj g=>?_;have b:=d j g
 match j,g with
 |0,_=>simp only[CD.dP,h.l,h.p]at *;exact b
 |1,_=>simp only[CD.dP,h.n2,h.x2]at *;exact b
 |2,_=>simp only[CD.dP,h.p,h.n3,h.x3]at *;exact b
 |3,_=>
  simp only[CD.dP,h.p,h.n2,h.n3,h.n4,kA]at *
  split at b
  ·rename_i hb;rw[if_pos hb];have d:=ck b;refine cz λi hi=>?_;have a:=d i hi;obtain⟨e1,c,m,o⟩:=h.x4 i;have e:((aa i).map λj=>(D.x4 j).name)=(aa i).map λj=>(C.x4 j).name:=aF λj _=>(h.x4 j).1;unfold gM at a⊢;rw[e1,e,c 1 (by omega),c 2 (by omega),c 3 (by omega),c 4 (by omega),c 5 (by omega),c 6 (by omega),m,o,(f i hi).1,(f i hi).2]
   split at a
   ·rename_i k1;rw[if_pos k1]
    split at a
    ·rename_i k2;rw[if_pos k2]
     split at a
     ·cases a
     ·rename_i k3;rw[if_neg k3]
      split at a
      ·rename_i q;rw[if_pos q]
       split at a
       ·exact a
       ·cases a
      ·cases a
    ·cases a
   ·exact absurd a (by assumption)
  ·cases b
 |4,_=>
  simp only[CD.dP,h.n4,h.n5,pE]at *
  split at b
  ·cases b
  ·rename_i hb;rw[if_neg hb];have d:=ck b;refine cz λi hi=>?_;have a:=d i hi;have e:((aa i).map λj=>(D.x5 j).1)=(aa i).map λj=>(C.x5 j).1:=aF λj _=>(h.x5 j).1;have es:((aa i).map λj=>(D.x5 j).2.1)=(aa i).map λj=>(C.x5 j).2.1:=aF λj _=>(h.x5 j).2;unfold iI at a⊢;rw[(h.x5 i).1,(h.x5 i).2,e,es]
   split at a
   ·rename_i k1;rw[if_pos k1]
    split at a
    ·rename_i k2;rw[if_pos k2]
     split at a
     ·cases a
     ·rename_i k3;rw[if_neg k3,if_pos (k i hi)]
    ·cases a
   ·exact absurd a (by assumption)
set_option maxRecDepth 100000
set_option maxHeartbeats 4000000
def CD.LR(C:CD):Bool:=C.small&&decide (C.cx=0)
def abE(C:CD)(w:World)(h:C.Mem w):Calls PL 5 #[.agg C.val] w (aO (.bool C.LR) w):=by
 have f:Hid (∀W,Below w.heap.size w W->C.Mem W):=ba λW g=>h.below g;have b:=ba (show KB C w (w.alloc (.cells C.val 27)) from⟨au _ _,(bc _ _).alloc (bg _) _⟩);clear h;by_cases hs:C.small=true
 ·have r:Hid (∀W,Below w.heap.size w W->C.At W):=ba λW g=>CD.At.Ri (f.out W g) hs;have a:(!C.small)=false:=by rw[hs];rfl
  have i:Hid (∀W,C.Mem W->Calls PL 13 #[.agg C.val] W (aO (.bool false) W)):=ba λW j=>by have:=AK C W j;rwa[a]at this
  have k:=ba hs;clear hs a;by_cases hc:C.cx=0
  all_goals
   have s:=ba hc;clear hc
   go_enter (fx (by decide) Tryz.func5),Tryz.ntmps5
   obtain⟨l,m,n,o,f4,p⟩:=bf b.out.box
   go_wp2_with (first
    |(go_at_call 13;refine(i.out _ (f.out _ b.out.low)).mono ?_;rintro e w1⟨rfl,c⟩;have d:=ba (b.out.on c);clear c;clear l m n o f4 p;obtain⟨l,m,n,o,f4,p⟩:=bf d.out.box)
    |(go_at_call 14;refine(rK C _ (r.out _ d.out.low)).mono ?_;rintro e w2⟨rfl,q⟩;have t:=ba (d.out.on q);clear q))
   go_ret
   refine⟨?_,t.out.low⟩;have:=s.out;have:=k.out
   simp_all [CD.LR]
 ·have a:(!C.small)=true:=by simpa using hs
  have i:Hid (∀W,C.Mem W->Calls PL 13 #[.agg C.val] W (aO (.bool true) W)):=ba λW j=>by have:=AK C W j;rwa[a]at this
  have k:=ba hs;clear hs a
  go_enter (fx (by decide) Tryz.func5),Tryz.ntmps5
  go_wp2_with (first
   |(go_at_call 13;refine(i.out _ (f.out _ b.out.low)).mono ?_;rintro e w1⟨rfl,c⟩;have d:=ba (b.out.on c);clear c))
  go_ret
  refine⟨?_,d.out.low⟩;have:=k.out
  simp_all [CD.LR]
open Go.Shelf
attribute [local go_sem] Oper.semAt_some
def b7(W:World)(v:Value)(l:List nR):Prop:=∃b c,v=.slice b l.length c/\(0<l.length->∃k o,b=some ⟨k,o,none⟩/\k<W.heap.size/\∀i(hi:i<l.length),
 W.cell? ⟨k,o+i*5,none⟩=some (.int .i64 (l[i].1:Nat))/\W.cell? ⟨k,o+i*5+1,none⟩=some (.int .i64 l[i].2.1)/\W.cell? ⟨k,o+i*5+2,none⟩=some (.int .i64 l[i].2.2.1)/\W.cell? ⟨k,o+i*5+3,none⟩=some (.int .i64 l[i].2.2.2.1)/\W.cell? ⟨k,o+i*5+4,none⟩=some (.int .i64 l[i].2.2.2.2))
def b7.on{W a:World}{v:Value}{l:List nR}(h:b7 W v l)(d:Below W.heap.size W a):b7 a v l:=by
 obtain⟨b,c,e,h⟩:=h;refine⟨b,c,e,λg=>?_⟩;obtain⟨k,o,e1,f,hc⟩:=h g;have e:∀j,a.cell? ⟨k,j,none⟩=W.cell? ⟨k,j,none⟩:=λj=>d.cell (p:=⟨k,j,none⟩) f;exact⟨k,o,e1,bo f d.size,λi hi=>by simp only[e];exact hc i hi⟩
def SQ{T:TypeId}{W:World}{base:Nat}{v:Value}{l:List nR}(h:W.ownsRow base T 5 v l.length (l.flatMap vV)):b7 W v l:=by
 obtain⟨_,h⟩:=h
 rcases h with⟨rfl,a⟩|⟨g,cap,b,rfl,hb,hg,hc,f,hs,c⟩
 ·exact⟨none,0,by rw[a],λh=>by omega⟩
 ·refine⟨_,_,rfl,λa=>⟨g,0,rfl,aJ hg,λi hi=>?_⟩⟩;have key:∀j u,j<5->(vV l[i])[j]?=some u->W.cell? ⟨g,0+i*5+j,none⟩=some u:=by
   intro j u d e;rw[<-acz l i j hi d,<-c,aB (by omega)]at e;simp only[aS,hg,bq];simpa using e
  exact⟨key 0 _ (by omega) rfl,key 1 _ (by omega) rfl,key 2 _ (by omega) rfl,key 3 _ (by omega) rfl,key 4 _ (by omega) rfl⟩
def AY.reads{W:World}{base:Nat}{v:Value}{l:List nR}(h:AY W base v l):b7 W v l:=SQ h
def CD.rp(C:CD)(g i:Nat):Nat:=j9 C.n4 (C.S g) i
end Go.Proofs
namespace Go.Proofs
open Go.RowKit
def abS{C:CD}(hc:C.cx=0){g:Nat}(hg:g<C.n5)(k:Nat):(nT C g k).1=C.rp g k:=by
 have b:=(L2 hc).1;have hs:=(abv hc hg).1
 induction k with
 |zero=>
  show C.S g=j9 C.n4 (C.S g) 0;unfold j9;rw[bj,Nat.mod_eq_of_lt];unfold CD.S;omega
 |succ k a=>
  show Ff C (nT C g k).1=j9 C.n4 (C.S g) (k+1);rw[a,abt (by omega)];rfl
def ama{C:CD}(hc:C.cx=0){g:Nat}(hg:g<C.n5){r:Nat}(d:r<=C.n4):cmV C.pn C.n4 (C.S g) (C.dl g) r=(nT C g r).2:=by
 have a:=Sa C hc hg
 induction r with
 |zero=>rfl
 |succ r f=>
  have b:=a.lo (r+1) d;have c:=a.hi (r+1) d;have h:=a.lo r (by omega);have i:=a.hi r (by omega);have e:=a.nn _ (a.p4 r);have j:=a.m4;rw[cmV,f (by omega)];simp only[nT]at b c ⊢;rw[abS hc hg]at b c e ⊢;simp only[CD.rp]at b c e ⊢;simp only[CD.pn];rw[bs ((nT C g r).2.1+_) (by omega),bs ((nT C g r).2.1+_+_) (by omega),bs ((nT C g r).2.2+_) (by omega),bs ((nT C g r).2.2+_+_) (by omega)]
def abk(x:nR):Nat->Int
 |0=>(x.1:Nat)
 |1=>x.2.1
 |2=>x.2.2.1
 |3=>x.2.2.2.1
 |_=>x.2.2.2.2
def afM{C:CD}(hc:C.cx=0){g:Nat}(hg:g<C.n5){r:Nat}(c:r<C.n4)(j:Nat):vsV C.pn C.n4 (C.S g) (C.dl g) r j=abk (Nu C g r) j:=by
 have a:=Sa C hc hg;have d:=a.lo r (by omega);have f:=a.hi r (by omega);have b:=a.nn _ (a.p4 r);have h:=a.m4;rw[abS hc hg]at b;have e:=ama hc hg (show r<=C.n4 by omega)
 match j with
 |0=>simp only[vsV,abk,Nu,abS hc hg];rfl
 |1=>simp only[vsV,abk,Nu,e]
 |2=>simp only[vsV,abk,Nu,e]
 |3=>
  simp only[vsV,abk,Nu,e,abS hc hg];simp only[CD.rp,CD.pn]at b ⊢;exact bs _ (by omega)
 |j+4=>
  simp only[vsV,abk,Nu,e,abS hc hg];simp only[CD.rp,CD.pn]at b ⊢;exact bs _ (by omega)
def abp{C:CD}(hc:C.cx=0){g:Nat}(hg:g<C.n5){r:Nat}(b:r<C.n4)(j:Nat):0<=abk (Nu C g r) j/\abk (Nu C g r) j<=1000:=by
 have a:=Sa C hc hg;have c:=a.lo r (by omega);have d:=a.hi r (by omega);have e:=a.nn _ (a.p4 r);have f:=a.m4;have h:=a.p4 r
 match j with
 |0=>simp only[abk,Nu];omega
 |1=>simp only[abk,Nu];omega
 |2=>simp only[abk,Nu];omega
 |3=>simp only[abk,Nu];omega
 |j+4=>simp only[abk,Nu];omega
def CD.Z0{C:CD}(hc:C.cx=0){g p j:Nat}(hg:g<C.n5)(a:p<C.n4)(b:j<5):C.P0.getD (g*25+p*5+j) 0=abk (Nu C g (acu C.n4 (C.S g) p)) j:=by
 have c:=(L2 hc).2;have d:=xu hc;rw[<-afM hc hg (abn (by omega))];unfold CD.P0 ac7;rw[ae,ai,aH (by omega)];simp only[a8,a9];rw[agB,show(g*25+p*5+j) / 25=g by omega,show(g*25+p*5+j) % 25 / 5=p by omega,show(g*25+p*5+j) % 5=j by omega,if_pos ⟨hg,a⟩]
def CD.aav{C:CD}(hc:C.cx=0):Ir C.P0:=by
 have key:∀o,-10000<=C.P0.getD o 0/\C.P0.getD o 0<=10000:=λo=>by
  unfold CD.P0 ac7;rw[ae,ai]
  rcases bi o 75 with a|a
  ·rw[aH a];simp only[a8,a9];rw[agB]
   split
   ·rename_i b;have:=abp hc b.1 (abn (np:=C.n4) (s:=C.S (o / 25)) (p:=o % 25 / 5) (by omega)) (o % 5);rw[afM hc b.1 (abn (by omega))];omega
   ·omega
  ·rw[ag (by simpa using a)];simp
 exact⟨by simp[CD.P0,ac7],λj=>(key j).1,λj=>(key j).2⟩
def acO{L:List Int}{a b n:Nat}{x:nR}:x∈aaD L a b n↔∃p,p<n/\(IU L a b p).2.2.2.1≠2/\x=IU L a b p:=by
 induction n with
 |zero=>simp[aaD]
 |succ n d=>
  rw[aaD,aI,d];constructor
  ·rintro(⟨p,f,c,g⟩|h)
   ·exact⟨p,by omega,c,g⟩
   ·split at h
    ·cases h
    ·rename_i i;exact⟨n,by omega,i,by simpa using h⟩
  ·rintro⟨p,f,c,rfl⟩;by_cases e:p=n
   ·subst e;rw[if_neg c];exact .inr (by simp)
   ·exact .inl ⟨p,by omega,c,rfl⟩
def acV{L:List Int}{n a k:Nat}{x:nR}:x∈N5 L n a k↔∃j,j<k/\x∈aaD L a (a+1+j) n:=by
 induction k with
 |zero=>simp[N5]
 |succ k c=>
  rw[N5,aI,c];constructor
  ·rintro(⟨j,d,b⟩|h)
   ·exact⟨j,by omega,b⟩
   ·exact⟨k,by omega,h⟩
  ·rintro⟨j,d,b⟩;by_cases e:j=k
   ·subst e;exact .inr b
   ·exact .inl ⟨j,by omega,b⟩
def ahh{L:List Int}{n m k:Nat}{x:nR}:x∈aas L n m k↔∃a,a<k/\x∈N5 L n a (m-(a+1)):=by
 induction k with
 |zero=>simp[aas]
 |succ k c=>
  rw[aas,aI,c];constructor
  ·rintro(⟨j,d,b⟩|h)
   ·exact⟨j,by omega,b⟩
   ·exact⟨k,by omega,h⟩
  ·rintro⟨j,d,b⟩;by_cases e:j=k
   ·subst e;exact .inr b
   ·exact .inl ⟨j,by omega,b⟩
def ad1{L:List Int}{n m:Nat}{x:nR}:x∈acE L n m↔∃a b p,a<b/\b<m/\p<n/\(IU L a b p).2.2.2.1≠2/\x=IU L a b p:=by
 rw[acE,agJ,ahh];constructor
 ·rintro⟨a,g,e⟩;obtain⟨j,f,c⟩:=acV.1 e;obtain⟨p,d,h,i⟩:=acO.1 c;exact⟨a,_,p,by omega,by omega,d,h,i⟩
 ·rintro⟨a,b,p,g,e,f,c,d⟩;exact⟨a,by omega,acV.2 ⟨b-(a+1),by omega,acO.2 ⟨p,f,by rw[show a+1+(b-(a+1))=b by omega];exact⟨c,d⟩⟩⟩⟩
open Go.Shelf
attribute [local go_sem] Oper.semAt_some
set_option maxRecDepth 100000
set_option maxHeartbeats 4000000
def CD.Cv(C:CD):List nR:=acE C.P0 C.n4 C.n5
def ai4{C:CD}(hc:C.cx=0){w:World}(h:C.At w):Calls PL 34 #[.agg C.val] w λe w'=>∃v,e=.returned v/\kV w' w.heap.size v C.Cv/\Below w.heap.size w w':=
 abo C C.P0 (CD.aav hc).len (L2 hc).2 (xu hc) w h (λ_ a=>afI a hc)
def kV.reads{W:World}{base:Nat}{v:Value}{l:List nR}(h:kV W base v l):b7 W v l:=SQ h
def abl{C:CD}{w:World}(h:C.At w)(hc:C.cx=0):Calls PL 10 #[.agg C.val] w λe w'=>∃b c,e=.returned (.tuple #[.slice b C.Cv.length c,.int .i64 0])/\b7 w' (.slice b C.Cv.length c) C.Cv/\Below w.heap.size w w':=by
 refine(Fp C (λW v=>b7 W v C.Cv) w h (by rw[CD.b6,if_pos hc];rfl) λW f=>(ai4 hc f).mono ?_).mono ?_
 ·rintro e w'⟨v,rfl,a,d⟩;exact⟨v,rfl,a.reads,d⟩
 ·rintro e w'⟨v,rfl,a,d⟩;have g:=a;obtain⟨b,c,rfl,_⟩:=g;exact⟨b,c,rfl,a,d⟩
set_option maxHeartbeats 40000000
def L0{W:World}{b:Option Addr}{n c:Nat}{l:List nR}(h:b7 W (.slice b n c) l){i:Nat}(hi:i<l.length):∃k o,b=some ⟨k,o,none⟩/\∀a,Below W.heap.size W a->a.cell? ⟨k,o+i*5,none⟩=some (.int .i64 (l[i].1:Nat))/\a.cell? ⟨k,o+i*5+1,none⟩=some (.int .i64 l[i].2.1)/\a.cell? ⟨k,o+i*5+2,none⟩=some (.int .i64 l[i].2.2.1)/\a.cell? ⟨k,o+i*5+3,none⟩=some (.int .i64 l[i].2.2.2.1)/\a.cell? ⟨k,o+i*5+4,none⟩=some (.int .i64 l[i].2.2.2.2):=by
 obtain⟨b',g,e,h⟩:=h;cases e;obtain⟨k,o,e1,d,hc⟩:=h (by omega);refine⟨k,o,e1,λa f=>?_⟩;have e:∀j,a.cell? ⟨k,j,none⟩=W.cell? ⟨k,j,none⟩:=λj=>f.cell (p:=⟨k,j,none⟩) d;simp only[e];exact hc i hi
def abq{C:CD}{g:Nat}{w:World}(h:C.At w)(hc:C.cx=0)(hg:g<C.n5):Calls PL 7 #[.agg C.val,.int .i64 g] w λe w'=>∃b c,e=.returned (.tuple #[.slice b C.n4 c,.int .i64 0])/\b7 w' (.slice b C.n4 c) (mD C g C.n4)/\Below w.heap.size w w':=by
 refine(ID C g w h hg (xu hc) (by rw[CD.b6,if_pos hc];rfl) (Sa C hc hg)).mono ?_;rintro e w'⟨v,rfl,d,f⟩;have a:=d.reads;have i:=a;obtain⟨b,c,rfl,_⟩:=i;rw[R7]at a⊢;exact⟨b,c,rfl,a,f⟩
def amc{C:CD}{m:Int}{w:World}(h:C.At w)(hc:C.cx=0)(d:bO m 0 999=true):Calls PL 9 #[.agg C.val,.int .i64 m] w λe w'=>∃b c,e=.returned (.tuple #[.slice b C.n4 c,.int .i64 0])/\bB w' (.slice b C.n4 c) (tB C.P0 m C.n5 C.n4)/\Below w.heap.size w w':=by
 refine(RO C m C.P0 (CD.aav hc) w h (by rw[CD.b6,if_pos hc];rfl) (L2 hc).2 (xu hc) d (λW f=>afI f hc)).mono ?_;rintro e w'⟨v,rfl,a,g⟩;have i:=a;obtain⟨b,c,rfl,_⟩:=i;rw[Nt]at a⊢;exact⟨b,c,rfl,a,g⟩
def s7(W:World)(n:Nat)(os:Array Obj):Below W.heap.size W (Sort.grow (W.drewN n) os):=
 ⟨rfl,rfl,rfl,by rw[Sort.size_grow];exact Nat.le_add_right _ _,λk a=>by show((W.drewN n).heap++os)[k]?=_;rw[Array.getElem?_append_left (by exact a)];rfl⟩
def afN(a b:Int)(W:World):Calls PL 11 #[.int .i64 a,.int .i64 b] W λe w'=>e=.returned (.agg #[.int .i64 a,.int .i64 b])/\∃q c,w'=Sort.grow (W.drewN q) c:=by
 go_enter (fx (by decide) Tryz.func11),Tryz.ntmps11
 go_wp2
 refine bodyPost_ret (v:=.agg #[.int .i64 a,.int .i64 b]) ?_ rfl ⟨rfl,0,_,Sort.alloc_eq_grow _ _⟩;simp[results,Tryz.results11,go_sem]
end Go.Proofs
