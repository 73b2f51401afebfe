/- Part of the proof of FieldFlat and FieldMarshals. -/
import Derived.Test.YtmkjeaacgibnoaaGreatY30
set_option linter.all false
open Go.Proofs renaming getElem?_lt'->aa,tO->ab
open Nat renaming le_trans->ac,le_refl->ad,le_succ->ae,reduceAdd->ag,lt_of_lt_of_le->ai
open Go renaming TypeId->ao,wp_region_noPanic->ap,bodyPost_ret->aq,results->ar
open Go.World renaming setCell->aw,size_alloc->aB,cell?->aF,putObj->aH
open Ne renaming symm->aI
open Go.Lib renaming hid->aJ
open Go.RowKit.Below renaming refl->aP
open List renaming take_succ_cons->aT,take_zero->a5,setIfInBounds_toArray->a6,set_cons_zero->a7,set_cons_succ->a8,drop_succ_cons->a9,drop_zero->ba,length_cons->bb,length_nil->bc,range->bd
open Go.Act renaming put->bg
open Go.Value renaming oneCell'->bi
open Go.NoPanic renaming normal->bj
open Bool renaming and_eq_true->bl
namespace Go.Proofs
open Go.RowKit
set_option maxRecDepth 100000
set_option maxHeartbeats 4000000
abbrev RX:Array Value:=#[.int .i64 0,.int .i64 0,.slice none 0 0,.slice none 0 0,.slice none 0 0,.slice none 0 0]
structure KO(V:Array Value)(w W:World):Prop where
 box:W.heap[w.heap.size]?=some (.cells V 27)
 res:W.heap[w.heap.size+1]?=some (.cells RX 27)
 low:Below w.heap.size w W
def KO.on{V:Array Value}{w W b:World}(h:KO V w W)(a:Below W.heap.size W b):KO V w b:=
 ⟨(a.block _ (aa h.box)).trans h.box,(a.block _ (aa h.res)).trans h.res,Below.on h.low a⟩
def iN{W b:World}{base e m n:Nat}{v:Value}{l:List Value}(h:W.ownsRow base e m v n l)(d:Below W.heap.size W b):b.ownsRow base e m v n l:=by
 obtain⟨c,h⟩:=h
 rcases h with h|⟨g,cap,a,e1,hb,hg,f⟩
 ·exact⟨c,.inl h⟩
 ·exact⟨c,.inr ⟨g,cap,a,e1,hb,(d.block _ (aa hg)).trans hg,f⟩⟩
def dJ{W:World}{b b' e m n:Nat}{v:Value}{l:List Value}(h:W.ownsRow b e m v n l)(hb:b'<=b):W.ownsRow b' e m v n l:=by
 obtain⟨c,h⟩:=h
 rcases h with h|⟨g,cap,a,e1,d,hg,f⟩
 ·exact⟨c,.inl h⟩
 ·exact⟨c,.inr ⟨g,cap,a,e1,ac hb d,hg,f⟩⟩
def Fc(w W:World)(e m:Nat)(v:Value)(n:Nat)(l:List Value):Prop:=W.ownsRow w.heap.size e m v n l/\v≠.slice none 0 0
def Fc.form{w W:World}{e m n:Nat}{v:Value}{l:List Value}(h:Fc w W e m v n l):∃g cap cur,v=.slice (some ⟨g,0,none⟩) n cap/\w.heap.size<=g/\W.heap[g]?=some (.cells cur e)/\cur.toList.take (n*m)=l:=by
 obtain⟨⟨_,h⟩,hv⟩:=h
 rcases h with⟨rfl,_⟩|⟨g,cap,cur,e1,hb,hg,_,_,_,a⟩
 ·exact absurd rfl hv
 ·exact⟨g,cap,cur,e1,hb,hg,a⟩
def Row.take{W:World}{g:Nat}{cur:Array Value}{e:ao}{n:Nat}{l:List Value}(hg:W.heap[g]?=some (.cells cur e))(a:cur.toList.take n=l):Row W g l:=
 Row.of hg λj v hv=>by
  rw[<-a,List.getElem?_take]at hv
  split at hv
  ·simpa using hv
  ·cases hv
def RY(d:Int)(a ca lb b:Nat)(w:World)(i:Nat)(vs:Nat->Value)(W:World):Prop:=
 (i=2->Fc w W 35 2 (vs 2) 2 vT)/\(i=5->Fc w W 79 3 (vs 5) 4 vU)/\(i=8->Fc w W 73 12 (vs 8) 3 (rO a ca lb b))/\(i=11->Fc w W 67 3 (vs 11) 2 (qB d))
def VP{d:Int}{b ca lb c:Nat}{w W f:World}{i:Nat}{vs:Nat->Value}(a:Below W.heap.size W f)(h:RY d b ca lb c w i vs W):RY d b ca lb c w i vs f:=
 ⟨λe=>⟨iN (h.1 e).1 a,(h.1 e).2⟩,λe=>⟨iN (h.2.1 e).1 a,(h.2.1 e).2⟩,λe=>⟨iN (h.2.2.1 e).1 a,(h.2.2.1 e).2⟩,λe=>⟨iN (h.2.2.2 e).1 a,(h.2.2.2 e).2⟩⟩
def RZ{d:Int}{b ca lb c:Nat}{w W:World}{i:Nat}{vs f:Nat->Value}(a:vs i=f i)(h:RY d b ca lb c w i vs W):RY d b ca lb c w i f W:=
 ⟨λe=>by subst e;rw[<-a];exact h.1 rfl,λe=>by subst e;rw[<-a];exact h.2.1 rfl,λe=>by subst e;rw[<-a];exact h.2.2.1 rfl,λe=>by subst e;rw[<-a];exact h.2.2.2 rfl⟩
structure CJ(W:World)(k2 k3 k4 k5 la ca lb cb:Nat)(d:Int):Prop where
 r2:Row W k2 vT
 r3:Row W k3 vU
 r4:Row W k4 (rO la ca lb cb)
 r5:Row W k5 (qB d)
 ra:Row W la [bh 1]
 rb:Row W lb [bh 2]
def CJ.on{W b:World}{k2 k3 c e f ca lb g:Nat}{d:Int}(h:CJ W k2 k3 c e f ca lb g d)(a:Below W.heap.size W b):CJ b k2 k3 c e f ca lb g d:=
 ⟨h.r2.on a,h.r3.on a,h.r4.on a,h.r5.on a,h.ra.on a,h.rb.on a⟩
def Row.news{W:World}{k:Nat}{l:List Value}(h:Row W k l):∀j u,l[j]?=some u->W.cell? ⟨k,0+j,none⟩=some u:=λj u e=>by rw[Nat.zero_add];exact h.2 j u e
def iu{W:World}{a b:Nat}{x y:Array Value}{t u:ao}(h:W.heap[a]?=some (.cells x t))(k:W.heap[b]?=some (.cells y u))(c:t≠u):a≠b:=λe=>by
 subst e;rw[h]at k;cases k;exact c rfl
def Fe{W:World}{b o:Nat}{v:Value}{c:Array Value}{t:ao}(h:W.heap[b]?=some (.cells c t)):(W.setCell ⟨b,o,none⟩ v).heap[b]?=some (.cells (c.setIfInBounds o v) t):=by
 simp only[aw,Array.getElem?_modify,if_pos,h,Option.map_some];rfl
def aZ{W:World}{b o k:Nat}{v:Value}(h:b≠k):(W.setCell ⟨b,o,none⟩ v).heap[k]?=W.heap[k]?:=by
 simp only[aw,Array.getElem?_modify,if_neg h]
def Row.cC{W:World}{k:Nat}{l:List Value}(h:Row W k l){R:Nat}(a:R≠k)(o:Nat)(v:Value):Row (W.setCell ⟨R,o,none⟩ v) k l:=
 ⟨by rw[World.size_setCell];exact h.1,λj u e=>(World.cell?_setCell_other _ _ _ _ (λe=>by have:=congrArg Addr.block e;simp only at this;omega)).trans (h.2 j u e)⟩
def mH(W:World)(g:Nat)(e:ao)(l:List Value):Prop:=∃u:Array Value,W.heap[g]?=some (.cells u e)/\u.toList.take l.length=l
def mH.on{W a:World}{g:Nat}{e:ao}{l:List Value}(h:mH W g e l)(b:Below W.heap.size W a):mH a g e l:=
 h.imp λ_ k=>⟨(b.block _ (aa k.1)).trans k.1,k.2⟩
def mH.row{W:World}{g:Nat}{e:ao}{l:List Value}(h:mH W g e l):Row W g l:=by
 obtain⟨u,a,b⟩:=h;exact Row.take a b
def mH.lt{W:World}{g:Nat}{e:ao}{l:List Value}(h:mH W g e l):g<W.heap.size:=h.row.1
def mH.ne{W:World}{g g':Nat}{e e':ao}{l l':List Value}(h:mH W g e l)(a:mH W g' e' l')(b:e≠e'):g≠g':=by
 obtain⟨u,c,_⟩:=h;obtain⟨f,d,_⟩:=a;exact iu c d b
def mH.set{W:World}{g o:Nat}{e:ao}{l:List Value}{v:Value}(h:mH W g e l):mH (W.setCell ⟨g,o,none⟩ v) g e (l.set o v):=by
 obtain⟨u,a,b⟩:=h;refine⟨_,Fe a,?_⟩;rw[Array.toList_setIfInBounds,List.length_set,List.take_set,b]
def mH.other{W:World}{g R o:Nat}{e:ao}{l:List Value}{v:Value}(h:mH W g e l)(a:R≠g):mH (W.setCell ⟨R,o,none⟩ v) g e l:=by
 obtain⟨u,b,c⟩:=h;exact⟨u,(aZ a).trans b,c⟩
def mH.tO{W:World}{g:Nat}{e:ao}{l:List Value}(h:mH W g e l):∀o,W.frozen? ⟨g,o,none⟩=false:=by
 obtain⟨u,a,_⟩:=h;exact ab a
structure KI(w:World)(g2 p2 g3 p3 g4 p4 g5 p5:Nat)(d:Int)(a1 c1 b1 e1:Nat)(W:World):Prop where
 box:mH W w.heap.size 27 [bh 60,bh 4,.slice (some ⟨g2,0,none⟩) 2 p2,.slice (some ⟨g3,0,none⟩) 4 p3,.slice (some ⟨g4,0,none⟩) 3 p4,.slice (some ⟨g5,0,none⟩) 2 p5]
 res:W.heap[w.heap.size+1]?=some (.cells RX 27)
 low:Below w.heap.size w W
 q2:mH W g2 35 vT
 q3:mH W g3 79 vU
 q4:mH W g4 73 (rO a1 c1 b1 e1)
 q5:mH W g5 67 (qB d)
 ra:Row W a1 [bh 1]
 rb:Row W b1 [bh 2]
 na:a1≠g4/\a1≠g5
 nb:b1≠g4/\b1≠g5
 nr:a1≠w.heap.size+1/\b1≠w.heap.size+1
 o4:w.heap.size<=g4
 o5:w.heap.size<=g5
def KI.on{w:World}{b c e f g i j k:Nat}{d:Int}{a1 c1 l e1:Nat}{W m:World}(h:KI w b c e f g i j k d a1 c1 l e1 W)(a:Below W.heap.size W m):KI w b c e f g i j k d a1 c1 l e1 m:=
 ⟨h.box.on a,(a.block _ (aa h.res)).trans h.res,Below.on h.low a,h.q2.on a,h.q3.on a,h.q4.on a,h.q5.on a,h.ra.on a,h.rb.on a,h.na,h.nb,h.nr,h.o4,h.o5⟩
def KI.set{w:World}{e f g i a j c l:Nat}{d:Int}{a1 c1 m e1:Nat}{W:World}(h:KI w e f g i a j c l d a1 c1 m e1 W){o:Nat}{v:Value}{a2 n b q:Nat}
 (hl:(rO a1 c1 m e1).set o v=rO a2 n b q) (ra:Row W a2 [bh 1]) (rb:Row W b [bh 2]) (na:a2≠a/\a2≠c) (nb:b≠a/\b≠c) (nr:a2≠w.heap.size+1/\b≠w.heap.size+1) :
 KI w e f g i a j c l d a2 n b q (W.setCell ⟨a,o,none⟩ v):=
 ⟨h.box.other (h.box.ne h.q4 (by decide)).symm,(aZ (h.q4.elim λ_ k=>iu k.1 h.res (by decide))).trans h.res,h.low.setCell (p:=⟨a,o,none⟩) h.o4 v,h.q2.other (h.q2.ne h.q4 (by decide)).symm,h.q3.other (h.q3.ne h.q4 (by decide)).symm,hl▸h.q4.set,
   h.q5.other (h.q5.ne h.q4 (by decide)).symm,ra.cC (aI na.1) _ _,rb.cC (aI nb.1) _ _,na,nb,nr,h.o4,h.o5⟩
structure Made(w W:World)(k2 k3 k4 k5 la ca lb cb:Nat)(d:Int):Prop where
 rows:CJ W k2 k3 k4 k5 la ca lb cb d
 R5:w.heap.size<=k5
 blk:mH W k5 67 (qB d)
 ne2:k2≠k5
 ne3:k3≠k5
 ne4:k4≠k5
 nea:la≠k5
 neb:lb≠k5
 low:Below w.heap.size w W
def aaQ{k2 D k3 c3 y E z F H ca lb I:Nat}{d:Int}(w:World)(h:CJ w k2 k3 y z H ca lb I d):Calls PL 128 #[.agg (ir k2 D k3 c3 y E z F H ca lb I d).val] w λe w'=>∃XB FB XC Kb XD Kc XE Ke XF XG XH XI,e=.returned (.agg (ir XB FB XC Kb XD Kc XE Ke XF XG XH XI d).val)/\Made w w' XB XC XD XE XF XG XH XI d:=by
 have Q:=aJ h;clear h;simp only[ir,CD.val];have WB:KO #[.int .i64 60,.int .i64 4,.slice (some ⟨k2,0,none⟩) 2 D,.slice (some ⟨k3,0,none⟩) 4 c3,.slice (some ⟨y,0,none⟩) 3 E,.slice (some ⟨z,0,none⟩) 2 F] w ((w.alloc (.cells #[.int .i64 60,.int .i64 4,.slice (some ⟨k2,0,none⟩) 2 D,.slice (some ⟨k3,0,none⟩) 4 c3,.slice (some ⟨y,0,none⟩) 3 E,.slice (some ⟨z,0,none⟩) 2 F] 27)).alloc (.cells RX 27)):=by
  refine⟨?_,?_,((aP _ _).alloc (ad _) _).alloc (by simp) _⟩
  ·exact(((aP (w.alloc (.cells #[.int .i64 60,.int .i64 4,.slice (some ⟨k2,0,none⟩) 2 D,.slice (some ⟨k3,0,none⟩) 4 c3,.slice (some ⟨y,0,none⟩) 3 E,.slice (some ⟨z,0,none⟩) 2 F] 27)).heap.size _).alloc (ad _) _).block _ (by simp)).trans (au w _)
  ·have h1:=au (w.alloc (.cells #[.int .i64 60,.int .i64 4,.slice (some ⟨k2,0,none⟩) 2 D,.slice (some ⟨k3,0,none⟩) 4 c3,.slice (some ⟨y,0,none⟩) 3 E,.slice (some ⟨z,0,none⟩) 2 F] 27)) (.cells RX 27);rw[aB]at h1;exact h1
 have K0:=aJ WB;clear WB
 go_enter (fx (by decide) Tryz.func128),Tryz.ntmps128
 go_wp2
 refine ap ?_;refine cT 13 (KO #[.int .i64 60,.int .i64 4,.slice (some ⟨k2,0,none⟩) 2 D,.slice (some ⟨k3,0,none⟩) 4 c3,.slice (some ⟨y,0,none⟩) 3 E,.slice (some ⟨z,0,none⟩) 2 F] w) (λW g=>Below W.heap.size W g) (λj=>j % 3 != 2||j==12) (RY d H ca lb I w) rfl (by kernel_rfl) (by kernel_rfl) (λ_ _ _ _ r h=>VP r h) (λ_ _ _ _ _ _ R _ h=>RZ R h) ?_ ?_
 ·exact K0.out.on (aP _ _).drew
 ·simp only[aT,a5]
  iterate 13 (
   first
   |(apply aY
     case hE=>rfl
     case h=>
      intro vs W a hd;obtain⟨f0,f1,f2,f3,f4,f5⟩:=bf a.box
      go_simp
      exact⟨rfl,aP _ _⟩
     case hb=>intro vs;simp only[bg,a6,a7,a8];rfl)
   |(apply eH
     case hE=>rfl
     case h=>
      intro vs W a hd;have l:=Q.out.on (a.low)
      go_simp
      first
      |(go_at_call 151;refine(RQ k2 0 2 D vT _ rfl l.r2.news (by simp[vT,vU,rO,qB,bi]) (by omega) l.r2.1).mono ?_;rintro e g⟨v,rfl,hv,s,c⟩;exact⟨_,rfl,a.on c,c,⟨(λ_=>⟨dJ s a.low.size,hv⟩),(λe=>absurd e (by decide)),(λe=>absurd e (by decide)),(λe=>absurd e (by decide))⟩⟩)
      |(go_at_call 152;refine(RR k3 0 4 c3 vU _ rfl l.r3.news (by simp[vT,vU,rO,qB,bi]) (by omega) l.r3.1).mono ?_;rintro e g⟨v,rfl,hv,s,c⟩;exact⟨_,rfl,a.on c,c,⟨(λe=>absurd e (by decide)),(λ_=>⟨dJ s a.low.size,hv⟩),(λe=>absurd e (by decide)),(λe=>absurd e (by decide))⟩⟩)
      |(go_at_call 153;refine(RS y 0 3 E (rO H ca lb I) _ rfl l.r4.news (by simp[vT,vU,rO,qB,bi]) (by omega) l.r4.1).mono ?_;rintro e g⟨v,rfl,hv,s,c⟩;exact⟨_,rfl,a.on c,c,⟨(λe=>absurd e (by decide)),(λe=>absurd e (by decide)),(λ_=>⟨dJ s a.low.size,hv⟩),(λe=>absurd e (by decide))⟩⟩)
      |(go_at_call 154;refine(RU z 0 2 F (qB d) _ rfl l.r5.news (by simp[vT,vU,rO,qB,bi]) (by omega) l.r5.1).mono ?_;rintro e g⟨v,rfl,hv,s,c⟩;exact⟨_,rfl,a.on c,c,⟨(λe=>absurd e (by decide)),(λe=>absurd e (by decide)),(λe=>absurd e (by decide)),(λ_=>⟨dJ s a.low.size,hv⟩)⟩⟩)
     case hb=>intro vs;simp only[bg,a6,a7,a8];rfl))
  refine cP λvs W a hd=>?_;have h2:=((hd 2 (by omega) rfl).1 rfl)
  have h5:=((hd 5 (by omega) rfl).2.1 rfl)
  have h8:=((hd 8 (by omega) rfl).2.2.1 rfl)
  have J:=((hd 11 (by omega) rfl).2.2.2 rfl)
  have m:=aJ a;clear hd a;obtain⟨f0,f1,f2,f3,f4,f5⟩:=bf m.out.box;have S:=tO m.out.box;have hz:=aa m.out.box;obtain⟨v2,e2⟩:∃v,v=vs 2:=⟨_,rfl⟩
  obtain⟨v3,e3⟩:∃v,v=vs 5:=⟨_,rfl⟩
  obtain⟨v4,e4⟩:∃v,v=vs 8:=⟨_,rfl⟩
  obtain⟨v5,e5⟩:∃v,v=vs 11:=⟨_,rfl⟩
  rw[<-e2]at h2⊢;rw[<-e3]at h5⊢;rw[<-e4]at h8⊢;rw[<-e5]at J ⊢;clear e2 e3 e4 e5;obtain⟨t,K,u2,rfl,o2,b2,t2⟩:=h2.form;obtain⟨u,L,u3,rfl,o3,b3,t3⟩:=h5.form;obtain⟨o,M,u4,rfl,o4,b4,t4⟩:=h8.form;obtain⟨x,N,u5,rfl,o5,b5,t5⟩:=J.form;have H2:=aJ (And.intro b2 t2);have H3:=aJ (And.intro b3 t3);have H4:=aJ (And.intro b4 t4);have H5:=aJ (And.intro b5 t5);clear h2 h5 h8 J b2 t2 b3 t3 b4 t4 b5 t5;simp only[a9,ba]
  go_upto_region 2 with fail
  refine bj ?_;obtain⟨W1,mG⟩:∃W1:World,W1=(((W.setCell ⟨w.heap.size,2,none⟩ (.slice (some ⟨t,0,none⟩) 2 K)).setCell ⟨w.heap.size,3,none⟩ (.slice (some ⟨u,0,none⟩) 4 L)).setCell ⟨w.heap.size,4,none⟩ (.slice (some ⟨o,0,none⟩) 3 M)).setCell ⟨w.heap.size,5,none⟩ (.slice (some ⟨x,0,none⟩) 2 N):=⟨_,rfl⟩
  have l:=Q.out.on m.out.low;have T:=iu m.out.box H2.out.1 (by decide);have U:=iu m.out.box H3.out.1 (by decide);have V:=iu m.out.box H4.out.1 (by decide);have X:=iu m.out.box H5.out.1 (by decide);have Y:w.heap.size≠H:=λe=>by have:=Q.out.ra.1;omega
  have Z:w.heap.size≠lb:=λe=>by have:=Q.out.rb.1;omega
  have la4:=Q.out.ra.1;have lb4:=Q.out.rb.1
  have KK:Hid (KI w t K u L o M x N d H ca lb I W1):=aJ (by
   rw[mG];have B0:mH W w.heap.size 27 [bh 60,bh 4,.slice (some ⟨k2,0,none⟩) 2 D,.slice (some ⟨k3,0,none⟩) 4 c3,.slice (some ⟨y,0,none⟩) 3 E,.slice (some ⟨z,0,none⟩) 2 F]:=⟨_,m.out.box,rfl⟩
   refine⟨B0.set.set.set.set,?_,((((m.out.low.setCell (p:=⟨w.heap.size,2,none⟩) (ad _) _).setCell (p:=⟨w.heap.size,3,none⟩) (ad _) _).setCell (p:=⟨w.heap.size,4,none⟩) (ad _) _).setCell (p:=⟨w.heap.size,5,none⟩) (ad _) _),?_,?_,?_,?_,?_,?_,⟨by omega,by omega⟩,⟨by omega,by omega⟩,⟨by omega,by omega⟩,o4,o5⟩
   ·rw[aZ (by omega),aZ (by omega),aZ (by omega),aZ (by omega)];exact m.out.res
   ·exact(((mH.other (show mH W t 35 vT from⟨_,H2.out.1,H2.out.2⟩) T).other T).other T).other T
   ·exact(((mH.other (show mH W u 79 vU from⟨_,H3.out.1,H3.out.2⟩) U).other U).other U).other U
   ·exact(((mH.other (show mH W o 73 (rO H ca lb I) from⟨_,H4.out.1,H4.out.2⟩) V).other V).other V).other V
   ·exact(((mH.other (show mH W x 67 (qB d) from⟨_,H5.out.1,H5.out.2⟩) X).other X).other X).other X
   ·exact(((l.ra.cC Y _ _).cC Y _ _).cC Y _ _).cC Y _ _
   ·exact(((l.rb.cC Z _ _).cC Z _ _).cC Z _ _).cC Z _ _)
  rw[<-mG];clear mG l f0 f1 f2 f3 f4 f5 S hz m H2 H3 H4 H5 T U V X Y Z;have f4:=KK.out.box.row.2 4 _ rfl
  go_upto_region 3 with fail
  go_loopw [23] (λO wr=>∃i a1 c1 A e1:Nat,i<=3/\O=.int .i64 i/\KI w t K u L o M x N d a1 c1 A e1 wr) (λO _=>3-(intOf O).toNat)
  case atStart=>exact⟨0,H,ca,lb,I,by omega,rfl,KK.out⟩
  case round=>
   obtain⟨i,a1,c1,A,e1,hi,rfl,hK⟩:=hrel;have b:=aJ hK;clear hK f4
   match i,hi with
   |0,_=>
    go_upto_region 5 with fail
    refine ap ?_;refine cT 10 (λW=>KI w t K u L o M x N d a1 c1 A e1 W/\wr.heap.size<=W.heap.size) (λW g=>Below W.heap.size W g) (λj=>j != 9) (λj vs W=>j=9->Fc wr W 3 1 (vs 9) 1 [bh 1]) rfl (by kernel_rfl) (by kernel_rfl) (λ_ _ _ _ r h e=>⟨iN (h e).1 r,(h e).2⟩) (λj _ _ vs eX W R _ h e=>by subst e;rw[<-R];exact h rfl) ?_ ?_
    ·exact⟨b.out.on (aP _ _).drew,ad _⟩
    simp only[aT,a5]
    iterate 10 (
     first
     |(apply aY
       case hE=>rfl
       case h=>
        rintro vs W⟨a,q⟩hd;have f4:=a.box.row.2 4 _ rfl;have fl:W.cell? ⟨o,11,none⟩=_:=a.q4.row.2 11 _ rfl
        go_simp
        first
        |exact⟨rfl,a,aP _ _⟩
        |exact⟨rfl,aP _ _⟩
        |exact rfl
       case hb=>intro vs;simp only[bg,a6,a7,a8];rfl)
     |(apply eH
       case hE=>rfl
       case h=>
        rintro vs W⟨a,q⟩hd
        go_simp
        (go_at_call 101;refine(tC a1 0 1 c1 [bh 1] _ rfl a.ra.news (by simp[bi]) (by omega) a.ra.1).mono ?_;rintro e g⟨v,rfl,hv,s,c⟩;exact⟨_,rfl,⟨a.on c,ac q c.size⟩,c,⟨dJ s q,hv⟩⟩)
       case hb=>intro vs;simp only[bg,a6,a7,a8];rfl))
    refine cP λvs W a hd=>?_;obtain⟨a,q⟩:=a;have P:=hd 9 (by omega) rfl rfl;obtain⟨v9,e9⟩:∃v,v=vs 9:=⟨_,rfl⟩
    rw[<-e9]at P⊢;clear e9 hd;obtain⟨g9,p9,u9',rfl,o9,b9,t9⟩:=P.form;have f:=aJ a;have R9:Hid (Row W g9 [bh 1]):=aJ (Row.take (n:=1) b9 t9);have lt4:=b.out.q4.lt;have lt5:=b.out.q5.lt;have ltr:=aa b.out.res;have fl:=a.q4.row.2 11 _ rfl;have S:=a.q4.tO;clear P b9 t9 a;simp only[a9,ba]
    go_upto_region 6 with fail
    refine bj ?_
    go_wp2
    refine⟨⟨1,g9,p9,A,e1,by omega,rfl,f.out.set rfl R9.out f.out.rb ⟨by omega,by omega⟩ f.out.nb ⟨by omega,f.out.nr.2⟩⟩,by simp[intOf]⟩
   |1,_=>
    go_upto_region 5 with fail
    refine ap ?_;refine cT 10 (λW=>KI w t K u L o M x N d a1 c1 A e1 W/\wr.heap.size<=W.heap.size) (λW g=>Below W.heap.size W g) (λj=>j != 9) (λj vs W=>j=9->Fc wr W 3 1 (vs 9) 1 [bh 2]) rfl (by kernel_rfl) (by kernel_rfl) (λ_ _ _ _ r h e=>⟨iN (h e).1 r,(h e).2⟩) (λj _ _ vs eX W R _ h e=>by subst e;rw[<-R];exact h rfl) ?_ ?_
    ·exact⟨b.out.on (aP _ _).drew,ad _⟩
    simp only[aT,a5]
    iterate 10 (
     first
     |(apply aY
       case hE=>rfl
       case h=>
        rintro vs W⟨a,q⟩hd;have f4:=a.box.row.2 4 _ rfl;have fl:W.cell? ⟨o,23,none⟩=_:=a.q4.row.2 23 _ rfl
        go_simp
        first
        |exact⟨rfl,a,aP _ _⟩
        |exact⟨rfl,aP _ _⟩
        |exact rfl
       case hb=>intro vs;simp only[bg,a6,a7,a8];rfl)
     |(apply eH
       case hE=>rfl
       case h=>
        rintro vs W⟨a,q⟩hd
        go_simp
        (go_at_call 101;refine(tC A 0 1 e1 [bh 2] _ rfl a.rb.news (by simp[bi]) (by omega) a.rb.1).mono ?_;rintro e g⟨v,rfl,hv,s,c⟩;exact⟨_,rfl,⟨a.on c,ac q c.size⟩,c,⟨dJ s q,hv⟩⟩)
       case hb=>intro vs;simp only[bg,a6,a7,a8];rfl))
    refine cP λvs W a hd=>?_;obtain⟨a,q⟩:=a;have P:=hd 9 (by omega) rfl rfl;obtain⟨v9,e9⟩:∃v,v=vs 9:=⟨_,rfl⟩
    rw[<-e9]at P⊢;clear e9 hd;obtain⟨g9,p9,u9',rfl,o9,b9,t9⟩:=P.form;have f:=aJ a;have R9:Hid (Row W g9 [bh 2]):=aJ (Row.take (n:=1) b9 t9);have lt4:=b.out.q4.lt;have lt5:=b.out.q5.lt;have ltr:=aa b.out.res;have fl:=a.q4.row.2 23 _ rfl;have S:=a.q4.tO;clear P b9 t9 a;simp only[a9,ba]
    go_upto_region 6 with fail
    refine bj ?_
    go_wp2
    refine⟨⟨2,a1,c1,g9,p9,by omega,rfl,f.out.set rfl f.out.ra R9.out f.out.na ⟨by omega,by omega⟩ ⟨f.out.nr.1,by omega⟩⟩,by simp[intOf]⟩
   |2,_=>
    go_upto_region 5 with fail
    refine ap ?_;refine cT 10 (λW=>KI w t K u L o M x N d a1 c1 A e1 W/\wr.heap.size<=W.heap.size) (λW g=>Below W.heap.size W g) (λ_=>true) (λ_ _ _=>True) rfl (by kernel_rfl) (by kernel_rfl) (λ_ _ _ _ _ h=>h) (λ_ _ _ _ _ _ _ _ h=>h) ?_ ?_
    ·exact⟨b.out.on (aP _ _).drew,ad _⟩
    simp only[aT,a5]
    iterate 10 (
     apply aY
     case hE=>rfl
     case h=>
      rintro vs W⟨a,q⟩hd;have f4:=a.box.row.2 4 _ rfl;have fl:=a.q4.row.2 35 _ rfl
      go_simp
      first
      |exact⟨rfl,a,aP _ _⟩
      |exact⟨rfl,aP _ _⟩
      |(go_at_call 101;refine(Ct _).mono ?_;rintro e g⟨rfl,rfl⟩;exact⟨_,rfl,rfl,⟨a,q⟩,aP _ _⟩)
     case hb=>intro vs;simp only[bg,a6,a7,a8];rfl)
    refine cP λvs W a hd=>?_;obtain⟨a,q⟩:=a;have f:=aJ a;have fl:=a.q4.row.2 35 _ rfl;have S:=a.q4.tO;clear a hd;simp only[a9,ba]
    go_upto_region 6 with fail
    refine bj ?_
    go_wp2
    refine⟨⟨3,a1,c1,A,e1,by omega,rfl,f.out.set rfl f.out.ra f.out.rb f.out.na f.out.nb f.out.nr⟩,by simp[intOf]⟩
   |3,_=>
    have f0:=b.out.box.row.2 0 _ rfl;have f1:=b.out.box.row.2 1 _ rfl;have f2:=b.out.box.row.2 2 _ rfl;have f3:=b.out.box.row.2 3 _ rfl;have f4:=b.out.box.row.2 4 _ rfl;have f5:=b.out.box.row.2 5 _ rfl;obtain⟨y0,y1,y2,y3,y4,y5⟩:=bf b.out.res;have S:=tO b.out.res;have m2:w.heap.size+1≠t:=b.out.q2.elim λ_ k=>iu b.out.res k.1 (by decide);have m3:w.heap.size+1≠u:=b.out.q3.elim λ_ k=>iu b.out.res k.1 (by decide);have m4:w.heap.size+1≠o:=b.out.q4.elim λ_ k=>iu b.out.res k.1 (by decide);have m5:w.heap.size+1≠x:=b.out.q5.elim λ_ k=>iu b.out.res k.1 (by decide);have B:=aI b.out.nr.1;have C:=aI b.out.nr.2;have hzr:=aa b.out.res;clear m2 m3 m4 m5 B C
    go_wp2
    have m2:w.heap.size+1≠t:=b.out.q2.elim λ_ k=>iu b.out.res k.1 (by decide);have m3:w.heap.size+1≠u:=b.out.q3.elim λ_ k=>iu b.out.res k.1 (by decide);have m4:w.heap.size+1≠o:=b.out.q4.elim λ_ k=>iu b.out.res k.1 (by decide);have m5:w.heap.size+1≠x:=b.out.q5.elim λ_ k=>iu b.out.res k.1 (by decide);have B:=aI b.out.nr.1;have C:=aI b.out.nr.2;refine aq (v:=.agg (ir t K u L o M x N a1 c1 A e1 d).val) ?_ rfl ⟨_,_,_,_,_,_,_,_,_,_,_,_,rfl,⟨⟨((((((((((((b.out.q2.row).cC m2 _ _)).cC m2 _ _)).cC m2 _ _)).cC m2 _ _)).cC m2 _ _)).cC m2 _ _),((((((((((((b.out.q3.row).cC m3 _ _)).cC m3 _ _)).cC m3 _ _)).cC m3 _ _)).cC m3 _ _)).cC m3 _ _),((((((((((((b.out.q4.row).cC m4 _ _)).cC m4 _ _)).cC m4 _ _)).cC m4 _ _)).cC m4 _ _)).cC m4 _ _),((((((((((((b.out.q5.row).cC m5 _ _)).cC m5 _ _)).cC m5 _ _)).cC m5 _ _)).cC m5 _ _)).cC m5 _ _),((((((((((((b.out.ra).cC B _ _)).cC B _ _)).cC B _ _)).cC B _ _)).cC B _ _)).cC B _ _),((((((((((((b.out.rb).cC C _ _)).cC C _ _)).cC C _ _)).cC C _ _)).cC C _ _)).cC C _ _)⟩,b.out.o5,(mH.other (mH.other (mH.other (mH.other (mH.other (mH.other b.out.q5 m5) m5) m5) m5) m5) m5),b.out.q2.ne b.out.q5 (by decide),b.out.q3.ne b.out.q5 (by decide),b.out.q4.ne b.out.q5 (by decide),b.out.na.2,b.out.nb.2,((((((((((((b.out.low).setCell (p:=⟨w.heap.size+1,0,none⟩) (ae _) _)).setCell (p:=⟨w.heap.size+1,1,none⟩) (ae _) _)).setCell (p:=⟨w.heap.size+1,2,none⟩) (ae _) _)).setCell (p:=⟨w.heap.size+1,3,none⟩) (ae _) _)).setCell (p:=⟨w.heap.size+1,4,none⟩) (ae _) _)).setCell (p:=⟨w.heap.size+1,5,none⟩) (ae _) _)⟩⟩
    clear m2 m3 m4 m5 B C;simp[ar,Tryz.results128,go_sem,y0,y1,y2,y3,y4,y5,hzr,ir]
def Row.jD{W:World}{k R:Nat}{l:List Value}{c:Array Value}{t:ao}(h:Row W k l)(a:W.heap[R]?=some (.cells c t))(j:Nat){u v:Value}(b:l[j]?=some u)(d:c[j]?=some v)(f:u≠v):R≠k:=λe=>by
 subst e;have:=h.2 j u b;simp only[aF,a]at this;rw[d]at this;cases this;exact f rfl
def Made.on{w W b:World}{k2 k3 c e f ca lb g:Nat}{d:Int}(h:Made w W k2 k3 c e f ca lb g d)(a:Below W.heap.size W b):Made w b k2 k3 c e f ca lb g d:=
 ⟨h.rows.on a,h.R5,h.blk.on a,h.ne2,h.ne3,h.ne4,h.nea,h.neb,Below.on h.low a⟩
def Made.set{w W:World}{k2 k3 b a c ca lb f:Nat}{d e:Int}(h:Made w W k2 k3 b a c ca lb f d){o:Nat}{v:Value}(hl:(qB d).set o v=qB e):Made w (W.setCell ⟨a,o,none⟩ v) k2 k3 b a c ca lb f e:=by
 have hb:mH (W.setCell ⟨a,o,none⟩ v) a 67 (qB e):=hl▸h.blk.set;exact⟨⟨h.rows.r2.cC (aI h.ne2) _ _,h.rows.r3.cC (aI h.ne3) _ _,h.rows.r4.cC (aI h.ne4) _ _,hb.row,h.rows.ra.cC (aI h.nea) _ _,h.rows.rb.cC (aI h.neb) _ _⟩,h.R5,hb,h.ne2,h.ne3,h.ne4,h.nea,h.neb,h.low.setCell (p:=⟨a,o,none⟩) h.R5 v⟩
def Made.other{w W:World}{k2 k3 a b c ca lb e:Nat}{d:Int}(h:Made w W k2 k3 a b c ca lb e d){R:Nat}(o:Nat)(v:Value)(g:w.heap.size<=R)(i:R≠k2)(j:R≠k3)(k:R≠a)(f:R≠b)(l:R≠c)(m:R≠lb):Made w (W.setCell ⟨R,o,none⟩ v) k2 k3 a b c ca lb e d:=
 ⟨⟨h.rows.r2.cC i _ _,h.rows.r3.cC j _ _,h.rows.r4.cC k _ _,h.rows.r5.cC f _ _,h.rows.ra.cC l _ _,h.rows.rb.cC m _ _⟩,h.R5,h.blk.other f,h.ne2,h.ne3,h.ne4,h.nea,h.neb,h.low.setCell (p:=⟨R,o,none⟩) g v⟩
def Made.zu{w w0 W:World}{k2 k3 a b c ca lb e:Nat}{d:Int}(h:Made w W k2 k3 a b c ca lb e d)(f:Below w0.heap.size w0 w):Made w0 W k2 k3 a b c ca lb e d:=
 ⟨h.rows,ac f.size h.R5,h.blk,h.ne2,h.ne3,h.ne4,h.nea,h.neb,Below.on f h.low⟩
structure KJ(w:World)(B:Nat)(V:Array Value)(k2 k3 k4 k5 la ca lb cb:Nat)(e:Int)(W:World):Prop where
 made:Made w W k2 k3 k4 k5 la ca lb cb e
 box:W.heap[B]?=some (.cells V 27)
 res:W.heap[w.heap.size+1]?=some (.cells RX 27)
def yP{k2 q k3 c3 g r j s F ca lb H:Nat}{d y:Int}{v:Value}(w:World)(h:CJ w k2 k3 g j F ca lb H d)(hv:bB w v [0,y]):Calls PL 113 #[.agg (ir k2 q k3 c3 g r j s F ca lb H d).val,v] w λe w'=>∃XB FB XC Kb XD Kc XE Ke XF XG XH XI,e=.returned (.agg (ir XB FB XC Kb XD Kc XE Ke XF XG XH XI y).val)/\Made w w' XB XC XD XE XF XG XH XI y:=by
 obtain⟨b,c,rfl,hr⟩:=hv;obtain⟨t,u,rfl,VQ,R⟩:=hr (by simp);have e0:w.cell? ⟨t,u,none⟩=some (.int .i64 0):=R 0 (by simp);have e1:w.cell? ⟨t,u+1,none⟩=some (.int .i64 y):=R 1 (by simp);have HX:=aJ h;have E0:=aJ e0;have E1:=aJ e1;clear h hr R e0 e1;simp only[bb,bc,ag];have OW:Hid (∀W,CJ W k2 k3 g j F ca lb H d->Calls PL 128 #[.agg (ir k2 q k3 c3 g r j s F ca lb H d).val] W _):=aJ λW hW=>aaQ W hW;simp only[ir,CD.val]at OW ⊢;obtain⟨x,z⟩:∃x:World,x=(w.alloc (.cells #[.int .i64 60,.int .i64 4,.slice (some ⟨k2,0,none⟩) 2 q,.slice (some ⟨k3,0,none⟩) 4 c3,.slice (some ⟨g,0,none⟩) 3 r,.slice (some ⟨j,0,none⟩) 2 s] 27)).alloc (.cells RX 27):=⟨_,rfl⟩
 have Tc:Below w.heap.size w x:=by rw[z];exact((aP _ _).alloc (ad _) _).alloc (by simp) _
 have MW:x.heap[w.heap.size+1]?=some (.cells RX 27):=by
  have h1:=au (w.alloc (.cells #[.int .i64 60,.int .i64 4,.slice (some ⟨k2,0,none⟩) 2 q,.slice (some ⟨k3,0,none⟩) 4 c3,.slice (some ⟨g,0,none⟩) 3 r,.slice (some ⟨j,0,none⟩) 2 s] 27)) (.cells RX 27);rw[aB]at h1;rw[z];exact h1
 have XA:x.heap[w.heap.size]?=some (.cells #[.int .i64 60,.int .i64 4,.slice (some ⟨k2,0,none⟩) 2 q,.slice (some ⟨k3,0,none⟩) 4 c3,.slice (some ⟨g,0,none⟩) 3 r,.slice (some ⟨j,0,none⟩) 2 s] 27):=by
  rw[z];exact(((aP (w.alloc (.cells #[.int .i64 60,.int .i64 4,.slice (some ⟨k2,0,none⟩) 2 q,.slice (some ⟨k3,0,none⟩) 4 c3,.slice (some ⟨g,0,none⟩) 3 r,.slice (some ⟨j,0,none⟩) 2 s] 27)).heap.size _).alloc (ad _) _).block _ (by simp)).trans (au w _)
 have X0:=aJ XA;have B0:=aJ Tc;have R0:=aJ MW;have S:=aJ z;clear Tc MW z XA
 go_enter (fx (by decide) Tryz.func113),Tryz.ntmps113
 go_upto_region 1 with fail
 rw[<-S.out];obtain⟨f0,f1,f2,f3,f4,f5⟩:=bf X0.out;have T:=aa R0.out
 go_upto_region 2 with(go_at_call 128;refine(OW.out _ (HX.out.on B0.out)).mono ?_;rintro e w1⟨q2,A,q3,B,q4,C,q5,D,U,V,X,Y,rfl,Z⟩;have M1:=aJ Z;have I:=Z.low;clear Z)
 obtain⟨J,K⟩:∃J:World,J=w1.alloc (.cells #[.int .i64 60,.int .i64 4,.slice (some ⟨q2,0,none⟩) 2 A,.slice (some ⟨q3,0,none⟩) 4 B,.slice (some ⟨q4,0,none⟩) 3 C,.slice (some ⟨q5,0,none⟩) 2 D] 27):=⟨_,rfl⟩
 have J1:Hid (KJ w w1.heap.size #[.int .i64 60,.int .i64 4,.slice (some ⟨q2,0,none⟩) 2 A,.slice (some ⟨q3,0,none⟩) 4 B,.slice (some ⟨q4,0,none⟩) 3 C,.slice (some ⟨q5,0,none⟩) 2 D] q2 q3 q4 q5 U V X Y d J):=aJ (by
  have iC:Below w1.heap.size w1 J:=by rw[K];exact(aP _ _).alloc (ad _) _
  refine⟨(M1.out.on iC).zu B0.out,by rw[K];exact au _ _,(iC.block _ (ai T I.size)).trans ((I.block _ T).trans R0.out)⟩)
 have Z1:w.heap.size+1<w1.heap.size:=ai T I.size;rw[<-K];clear K f0 f1 f2 f3 f4 f5 I;obtain⟨L,M,N,O,P,Q⟩:=bf J1.out.box
 go_upto_region 3 with fail
 go_loopw [12] (λJQ wr=>∃(i:Nat)(e:Int),i<=2/\JQ=.int .i64 i/\(i<2->e=d)/\(i=2->e=y)/\KJ w w1.heap.size #[.int .i64 60,.int .i64 4,.slice (some ⟨q2,0,none⟩) 2 A,.slice (some ⟨q3,0,none⟩) 4 B,.slice (some ⟨q4,0,none⟩) 3 C,.slice (some ⟨q5,0,none⟩) 2 D] q2 q3 q4 q5 U V X Y e wr) (λJQ _=>2-(intOf JQ).toNat)
 case atStart=>exact⟨0,d,by omega,rfl,λ_=>rfl,λh=>absurd h (by decide),J1.out⟩
 case round=>
  obtain⟨i,e,hi,rfl,he,hy,hJ⟩:=hrel;have a:=aJ hJ;clear hJ L M N O P Q
  match i,hi with
  |0,_=>
   obtain rfl:e=d:=he (by omega);have fl:=a.out.made.blk.row.2 2 _ rfl;have fz:=a.out.made.blk.tO;have ed:wr.cell? ⟨t,u,none⟩=some (.int .i64 0):=(a.out.made.low.cell (p:=⟨t,u,none⟩) VQ).trans E0.out;obtain⟨L,M,N,O,P,Q⟩:=bf a.out.box;have f:=a.out.made.blk.row.jD a.out.box 0 rfl rfl (λe=>by cases e);have E:=a.out.made.blk.row.jD a.out.res 0 rfl rfl (λe=>by cases e);have N5:=aJ f;have NR:=aJ E;clear f E
   go_wp2
   refine⟨⟨1,_,by omega,rfl,by intro h;first|rfl|omega,by intro h;first|rfl|omega,⟨a.out.made.set rfl,(aZ (aI N5.out)).trans a.out.box,(aZ (aI NR.out)).trans a.out.res⟩⟩,by simp[intOf]⟩
  |1,_=>
   obtain rfl:e=d:=he (by omega);have fl:=a.out.made.blk.row.2 5 _ rfl;have fz:=a.out.made.blk.tO;have ed:wr.cell? ⟨t,u+1,none⟩=some (.int .i64 y):=(a.out.made.low.cell (p:=⟨t,u+1,none⟩) VQ).trans E1.out;obtain⟨L,M,N,O,P,Q⟩:=bf a.out.box;have f:=a.out.made.blk.row.jD a.out.box 0 rfl rfl (λe=>by cases e);have E:=a.out.made.blk.row.jD a.out.res 0 rfl rfl (λe=>by cases e);have N5:=aJ f;have NR:=aJ E;clear f E
   go_wp2
   refine⟨⟨2,_,by omega,rfl,by intro h;first|rfl|omega,by intro h;first|rfl|omega,⟨a.out.made.set rfl,(aZ (aI N5.out)).trans a.out.box,(aZ (aI NR.out)).trans a.out.res⟩⟩,by simp[intOf]⟩
  |2,_=>
   obtain rfl:e=y:=hy rfl;obtain⟨L,M,N,O,P,Q⟩:=bf a.out.box;obtain⟨y0,y1,y2,y3,y4,y5⟩:=bf a.out.res;have fz:=tO a.out.res
   go_wp2
   have k:=a.out.made.rows.r2.jD a.out.res 0 rfl rfl (λe=>by cases e);have l:=a.out.made.rows.r3.jD a.out.res 1 rfl rfl (λe=>by cases e);have m:=a.out.made.rows.r4.jD a.out.res 0 rfl rfl (λe=>by cases e);have f:=a.out.made.rows.r5.jD a.out.res 0 rfl rfl (λe=>by cases e);have n:=a.out.made.rows.ra.jD a.out.res 0 rfl rfl (λe=>by cases e);have o:=a.out.made.rows.rb.jD a.out.res 0 rfl rfl (λe=>by cases e);refine aq (v:=.agg #[.int .i64 60,.int .i64 4,.slice (some ⟨q2,0,none⟩) 2 A,.slice (some ⟨q3,0,none⟩) 4 B,.slice (some ⟨q4,0,none⟩) 3 C,.slice (some ⟨q5,0,none⟩) 2 D]) ?_ rfl ⟨q2,A,q3,B,q4,C,q5,⟨D,rfl⟩,U,V,X,Y,(Made.other (Made.other (Made.other (Made.other (Made.other (Made.other a.out.made 0 _ (ae _) k l m f n o) 1 _ (ae _) k l m f n o) 2 _ (ae _) k l m f n o) 3 _ (ae _) k l m f n o) 4 _ (ae _) k l m f n o) 5 _ (ae _) k l m f n o)⟩;clear k l m f n o;have hzr:=aa a.out.res;simp[ar,Tryz.results113,go_sem,y0,y1,y2,y3,y4,y5,hzr]
def CJ.at{W:World}{k2 f k3 c3 a g b i c ca lb e:Nat}{d:Int}(h:CJ W k2 k3 a b c ca lb e d):(ir k2 f k3 c3 a g b i c ca lb e d).At W:=Rx h.r2 h.r3 h.r4 h.r5 h.ra h.rb
def yQ{k2 a k3 c3 b c e f g ca lb h:Nat}{d:Int}(hd:d=0\/d=1):(ir k2 a k3 c3 b c e f g ca lb h d).cx=0:=by
 rcases hd with rfl|rfl<;>kernel_rfl
def uK{n:Int}(h:bO n 0 12=true)(w:World):Calls PL 112 #[.int .i64 n] w λe w'=>e=.returned (.bool true)/\w=w':=by
 have:=o8 n w;rw[h]at this;exact this.mono λ_ _ k=>⟨k.1,k.2.symm⟩
def Iw{k2 q k3 c3 l r m s y ca lb z:Nat}{v:Value}(w:World)(h:CJ w k2 k3 l m y ca lb z 0)(hv:bB w v [0,1]):Calls PL 39 #[.agg (ir k2 q k3 c3 l r m s y ca lb z 0).val,v] w λe w'=>∃L FB M Kb N Kc O Ke P Q R S,e=.returned (.tuple #[.agg (ir L FB M Kb N Kc O Ke P Q R S 1).val,.int .i64 0])/\CJ w' L M N O P Q R S 1/\Below w.heap.size w w':=by
 have T:=aJ hv;obtain⟨b,c,rfl,U⟩:=hv;obtain⟨A,B,rfl,V,E⟩:=U (by simp);have X:w.cell? ⟨A,B,none⟩=some (.int .i64 0):=E 0 (by simp);have e1:w.cell? ⟨A,B+1,none⟩=some (.int .i64 1):=E 1 (by simp);have Y:=aJ h;have E0:=aJ X;have E1:=aJ e1;clear h U E X e1;simp only[bb,bc,ag]at T ⊢;have Z:Hid (∀W,CJ W k2 k3 l m y ca lb z 0->bB W (.slice (some ⟨A,B,none⟩) 2 c) [0,1]->Calls PL 113 #[.agg (ir k2 q k3 c3 l r m s y ca lb z 0).val,.slice (some ⟨A,B,none⟩) 2 c] W _):=aJ λW F hR=>yP W F hR;have CK:Hid (∀W,CJ W k2 k3 l m y ca lb z 0->Calls PL 22 #[.agg (ir k2 q k3 c3 l r m s y ca lb z 0).val] W (aO (.int .i64 0) W)):=aJ λW F=>sY (yQ (.inl rfl)) F.at;simp only[ir,CD.val]at Z CK ⊢;obtain⟨C,D⟩:∃C:World,C=(w.alloc (.cells #[.int .i64 60,.int .i64 4,.slice (some ⟨k2,0,none⟩) 2 q,.slice (some ⟨k3,0,none⟩) 4 c3,.slice (some ⟨l,0,none⟩) 3 r,.slice (some ⟨m,0,none⟩) 2 s] 27)).alloc (.cells RX 27):=⟨_,rfl⟩
 have Tc:Below w.heap.size w C:=by rw[D];exact((aP _ _).alloc (ad _) _).alloc (by simp) _
 have MW:C.heap[w.heap.size+1]?=some (.cells RX 27):=by
  have h1:=au (w.alloc (.cells #[.int .i64 60,.int .i64 4,.slice (some ⟨k2,0,none⟩) 2 q,.slice (some ⟨k3,0,none⟩) 4 c3,.slice (some ⟨l,0,none⟩) 3 r,.slice (some ⟨m,0,none⟩) 2 s] 27)) (.cells RX 27);rw[aB]at h1;rw[D];exact h1
 have XA:C.heap[w.heap.size]?=some (.cells #[.int .i64 60,.int .i64 4,.slice (some ⟨k2,0,none⟩) 2 q,.slice (some ⟨k3,0,none⟩) 4 c3,.slice (some ⟨l,0,none⟩) 3 r,.slice (some ⟨m,0,none⟩) 2 s] 27):=by
  rw[D];exact(((aP (w.alloc (.cells #[.int .i64 60,.int .i64 4,.slice (some ⟨k2,0,none⟩) 2 q,.slice (some ⟨k3,0,none⟩) 4 c3,.slice (some ⟨l,0,none⟩) 3 r,.slice (some ⟨m,0,none⟩) 2 s] 27)).heap.size _).alloc (ad _) _).block _ (by simp)).trans (au w _)
 have H:Hid (KO #[.int .i64 60,.int .i64 4,.slice (some ⟨k2,0,none⟩) 2 q,.slice (some ⟨k3,0,none⟩) 4 c3,.slice (some ⟨l,0,none⟩) 3 r,.slice (some ⟨m,0,none⟩) 2 s] w C):=aJ ⟨XA,MW,Tc⟩;have I:=aJ D;clear Tc MW D XA
 go_enter (fx (by decide) Tryz.func39),Tryz.ntmps39
 go_upto_region 1 with fail
 rw[<-I.out];obtain⟨f0,f1,f2,f3,f4,f5⟩:=bf H.out.box
 go_upto_region 7 with(go_at_call 22;refine(CK.out _ (Y.out.on H.out.low)).mono ?_;rintro e w1⟨rfl,aL⟩;have u:=aJ (H.out.on aL);clear aL f0 f1 f2 f3 f4 f5;obtain⟨f0,f1,f2,f3,f4,f5⟩:=bf u.out.box)
 have c0:=(u.out.low.cell (p:=⟨A,B,none⟩) V).trans E0.out;have c1:=(u.out.low.cell (p:=⟨A,B+1,none⟩) V).trans E1.out
 go_loop [24] (λx=>∃i:Nat,i<=2/\x=.int .i64 i) (λx=>2-(intOf x).toNat)
 case atStart=>exact⟨0,by omega,rfl⟩
 case round=>
  obtain⟨i,hi,rfl⟩:=hrel
  match i,hi with
  |0,_=>
   go_wp2_with (go_at_call 112;refine(uK (n:=0) rfl _).mono ?_;rintro e w'⟨rfl,rfl⟩)
   refine⟨⟨1,by omega,rfl⟩,by simp[intOf]⟩
  |1,_=>
   go_wp2_with (go_at_call 112;refine(uK (n:=1) rfl _).mono ?_;rintro e w'⟨rfl,rfl⟩)
   refine⟨⟨2,by omega,rfl⟩,by simp[intOf]⟩
  |2,_=>
   go_wp2_with (go_at_call 113;refine(Z.out _ (Y.out.on u.out.low) (T.out.on u.out.low)).mono ?_;rintro e w2⟨q2,p2,q3,p3,q4,p4,q5,p5,xa,ya,xb,yb,rfl,J⟩;have t:=aJ (J.zu u.out.low);have o:=aJ (u.out.on J.low);clear J;obtain⟨y0,y1,y2,y3,y4,y5⟩:=bf o.out.res;have fz:=tO o.out.res)
   have a:=t.out.rows.r2.jD o.out.res 0 rfl rfl (λe=>by cases e);have d:=t.out.rows.r3.jD o.out.res 1 rfl rfl (λe=>by cases e);have f:=t.out.rows.r4.jD o.out.res 0 rfl rfl (λe=>by cases e);have g:=t.out.rows.r5.jD o.out.res 0 rfl rfl (λe=>by cases e);have j:=t.out.rows.ra.jD o.out.res 0 rfl rfl (λe=>by cases e);have k:=t.out.rows.rb.jD o.out.res 0 rfl rfl (λe=>by cases e);refine aq (v:=.tuple #[.agg #[.int .i64 60,.int .i64 4,.slice (some ⟨q2,0,none⟩) 2 p2,.slice (some ⟨q3,0,none⟩) 4 p3,.slice (some ⟨q4,0,none⟩) 3 p4,.slice (some ⟨q5,0,none⟩) 2 p5],.int .i64 0]) ?_ rfl ⟨q2,p2,q3,p3,q4,p4,q5,p5,xa,ya,xb,yb,rfl,(Made.other (Made.other (Made.other (Made.other (Made.other (Made.other t.out 0 _ (ae _) a d f g j k) 1 _ (ae _) a d f g j k) 2 _ (ae _) a d f g j k) 3 _ (ae _) a d f g j k) 4 _ (ae _) a d f g j k) 5 _ (ae _) a d f g j k).rows,(Made.other (Made.other (Made.other (Made.other (Made.other (Made.other t.out 0 _ (ae _) a d f g j k) 1 _ (ae _) a d f g j k) 2 _ (ae _) a d f g j k) 3 _ (ae _) a d f g j k) 4 _ (ae _) a d f g j k) 5 _ (ae _) a d f g j k).low⟩;clear a d f g j k;have K:=aa o.out.res;simp[ar,Tryz.results39,go_sem,y0,y1,y2,y3,y4,y5,K]
open Go.Shelf
attribute [local go_sem] Oper.semAt_some
structure aaR(B:Nat)(w w':World):Prop where
 os:w'.os=w.os
 tape:w'.tape=w.tape
 output:w'.output=w.output
 size:w.heap.size<=w'.heap.size
 block:∀k,k<w.heap.size->k≠B->w'.heap[k]?=w.heap[k]?
def uL(B:Nat)(a hi x y:Int)(w:World)(h:w.heap[B]?=some (.cells #[.int .i64 a,.int .i64 hi] 35))(b : -10000<=a/\a<=10000)(c : -10000<=hi/\hi<=10000)(d:0<=x/\x<=100)(f:0<=y/\y<=100) :
 Calls PL 145 #[.agg #[.int .i64 x,.int .i64 y],.pointer (some ⟨B,0,none⟩)] w λe w'=>e=.returned (.agg #[.int .i64 (a+x),.int .i64 (hi+y)])/\w'.heap[B]?=some (.cells #[.int .i64 (a+x),.int .i64 (hi+y)] 35)/\aaR B w w':=by
 obtain⟨n,t1,u0,u1⟩:=uJ h;have o:=aa h;have H:=aJ h;clear h;obtain⟨b,p⟩:=b;obtain⟨c,q⟩:=c;obtain⟨d,i⟩:=d;obtain⟨f,j⟩:=f
 go_enter (fx (by decide) Tryz.func145),Tryz.ntmps145
 go_wp2
 have g:=yL (u:=.int .i64 (a+x)) (v:=.int .i64 (hi+y)) H.out;refine aq (v:=.agg #[.int .i64 (a+x),.int .i64 (hi+y)]) ?_ rfl ⟨rfl,?_,rfl,rfl,rfl,by simp;omega,λk l m=>?_⟩
 ·simp[ar,Tryz.results145,go_sem]
 ·have hl:=aa g;exact(((aP _ _).alloc (ad _) _).alloc (by simp) _ |>.block B hl).trans g
 ·have hl:k<((w.setCell ⟨B,0,none⟩ (.int .i64 (a+x))).setCell ⟨B,1,none⟩ (.int .i64 (hi+y))).heap.size:=by simpa using l
  exact(((aP _ _).alloc (ad _) _).alloc (by simp) _ |>.block k hl).trans (tv m)
def Ff(C:CD)(p:Nat):Nat:=if p+1=C.n4 then 0 else p+1
def nT(C:CD)(g:Nat):Nat->Nat×Int×Int
 |0=>((C.x5 g).2.1.toNat,(C.x5 g).2.2,(C.x5 g).2.2)
 |k+1=>(Ff C (nT C g k).1,(nT C g k).2.1+(C.x4 (nT C g k).1).n 7+(C.x4 (nT C g k).1).n 9,(nT C g k).2.2+(C.x4 (nT C g k).1).n 8+(C.x4 (nT C g k).1).n 10)
abbrev nR:=Nat×Int×Int×Int×Int
def Nu(C:CD)(g k:Nat):nR:=((nT C g k).1,(nT C g k).2.1,(nT C g k).2.2,(nT C g k).2.1+(C.x4 (nT C g k).1).n 7,(nT C g k).2.2+(C.x4 (nT C g k).1).n 8)
def mD(C:CD)(g n:Nat):List nR:=(bd n).map (Nu C g)
def uM(C:CD)(g n:Nat):mD C g (n+1)=mD C g n++[Nu C g n]:=by simp[mD,List.range_succ]
def R7(C:CD)(g n:Nat):(mD C g n).length=n:=by simp[mD]
def R8(C:CD)(g:Nat){k n:Nat}(h:k<n):mD C g k++[Nu C g k] <+: mD C g n:=by
 rw[<-uM];have e:bd n=bd (k+1)++(bd (n-(k+1))).map (k+1 + ·):=by
  rw[<-List.range_add];congr 1;omega
 unfold mD;rw[e,List.map_append];exact List.prefix_append _ _
structure yR(C:CD)(g:Nat):Prop where
 g5:g<C.n5
 p4:∀k,(nT C g k).1<C.n4
 m4:C.n4<=5
 lo:∀k,k<=C.n4->0<=(nT C g k).2.1/\(nT C g k).2.1<=12+120*k
 hi:∀k,k<=C.n4->0<=(nT C g k).2.2/\(nT C g k).2.2<=12+120*k
 nn:∀i,i<C.n4->(0<=(C.x4 i).n 7/\(C.x4 i).n 7<=60)/\(0<=(C.x4 i).n 8/\(C.x4 i).n 8<=60)/\(0<=(C.x4 i).n 9/\(C.x4 i).n 9<=60)/\(0<=(C.x4 i).n 10/\(C.x4 i).n 10<=60)
 start:(C.x5 g).2.1=((C.x5 g).2.1.toNat:Int)
def Sa(C:CD)(hc:C.cx=0){g:Nat}(hg:g<C.n5):yR C g:=by
 have d:kA C.p C.n2 C.n3 C.n4 C.x4=0:=ck hc 3 (by omega);have e:pE C.n4 C.n5 C.x5=0:=ck hc 4 (by omega);unfold kA at d
 split at d
 case isFalse=>cases d
 rename_i hb;simp only[bO,bl,decide_eq_true_eq]at hb;have j:∀i,i<C.n4->(0<=(C.x4 i).n 7/\(C.x4 i).n 7<=60)/\(0<=(C.x4 i).n 8/\(C.x4 i).n 8<=60)/\(0<=(C.x4 i).n 9/\(C.x4 i).n 9<=60)/\(0<=(C.x4 i).n 10/\(C.x4 i).n 10<=60):=by
  intro i hi;have a:=ck d i hi;unfold gM at a
  split at a
  case isFalse h=>exact absurd a h
  split at a
  case isFalse=>cases a
  split at a
  ·cases a
  split at a
  case isFalse=>cases a
  split at a
  case isFalse=>cases a
  rename_i m;simp only[eK,bl,decide_eq_true_eq]at m;omega
 obtain⟨hs,s,o⟩:(0<=(C.x5 g).2.1/\(C.x5 g).2.1<C.n4)/\0<=(C.x5 g).2.2/\(C.x5 g).2.2<=12:=by
  unfold pE at e
  split at e
  ·cases e
  have a:=ck e g hg;unfold iI at a
  split at a
  case isFalse h=>exact absurd a h
  split at a
  case isFalse=>cases a
  rename_i q
  split at a
  ·cases a
  split at a
  case isFalse=>cases a
  rename_i r;simp only[bO,bl,decide_eq_true_eq]at q r;omega
 have c:∀k,(nT C g k).1<C.n4:=by
  intro k
  induction k with
  |zero=>simp only[nT];omega
  |succ k l=>
   simp only[nT,Ff]
   split<;>omega
 have b:∀k,k<=C.n4->(0<=(nT C g k).2.1/\(nT C g k).2.1<=12+120*k)/\(0<=(nT C g k).2.2/\(nT C g k).2.2<=12+120*k):=by
  intro k
  induction k with
  |zero=>intro _;simp only[nT];omega
  |succ k l=>
   intro f;have:=l (by omega);have:=j _ (c k);simp only[nT]
   push_cast
   omega
 exact⟨hg,c,by omega,λk f=>(b k f).1,λk f=>(b k f).2,j,by omega⟩
def Fg(n0:Nat)(W a:World):Prop:=(∀k:Nat,k<n0->a.heap[k]?=W.heap[k]?)/\(∀(k:Nat)(c:Array Value)(t:ao),W.heap[k]?=some (Obj.cells c t)->t≠61->t≠50->a.heap[k]?=some (Obj.cells c t))/\W.heap.size<=a.heap.size
def Li{n:Nat}{X Y Z:World}(h:Fg n X Y)(k:Fg n Y Z):Fg n X Z:=
 ⟨λb hb=>(k.1 b hb).trans (h.1 b hb),λb c t e a d=>k.2.1 b c t (h.2.1 b c t e a d) a d,ac h.2.2 k.2.2⟩
def Lj{n s:Nat}(d:n<=s)(W:World)(l:Nat)(o o':Obj)(hl:s<=l)(b:W.heap[l]?=some o)(hc:o.isCells=false)(_:o.isWalk=false):Fg n W (W.putObj l o'):=by
 have a:∀k,l≠k->(W.putObj l o').heap[k]?=W.heap[k]?:=λk h=>by
  simp only[aH];exact Array.getElem?_setIfInBounds_ne h
 refine⟨λk f=>a k (by omega),λk c t e _ _=>(a k λh=>?_).trans e,by simp[aH]⟩;rw[<-h,b]at e;cases e;cases hc
def CD.At.keep{C:CD}{w w':World}(h:C.At w)(f:∀k,k<w.heap.size->w'.heap[k]?=w.heap[k]?)(s:w.heap.size<=w'.heap.size):C.At w':=by
 have cell:∀b o,b<w.heap.size->w'.cell? ⟨b,o,none⟩=w.cell? ⟨b,o,none⟩:=λb o hb=>by simp[aF,f b hb]
 have e:∀o,w'.cell? ⟨C.k2,o,none⟩=w.cell? ⟨C.k2,o,none⟩:=λo=>cell _ _ h.h2;have a:∀o,w'.cell? ⟨C.k3,o,none⟩=w.cell? ⟨C.k3,o,none⟩:=λo=>cell _ _ h.h3;have c:∀o,w'.cell? ⟨C.k4,o,none⟩=w.cell? ⟨C.k4,o,none⟩:=λo=>cell _ _ h.h4;have d:∀o,w'.cell? ⟨C.k5,o,none⟩=w.cell? ⟨C.k5,o,none⟩:=λo=>cell _ _ h.h5;obtain⟨m2,m3,m4,m5,h2,h3,h4,h5,s2,s3,s4,s5,Ep,Er,Es,Et,Eu,cu,AD,dB,nj,l4,J5,nm5,FI,HU,J6⟩:=h
 exact⟨m2,m3,m4,m5,by omega,by omega,by omega,by omega,s2,s3,s4,s5,λi hi=>(e _).trans (Ep i hi),λi hi=>(e _).trans (Er i hi),λi hi=>(a _).trans (Es i hi),λi hi=>(a _).trans (Et i hi),λi hi=>(a _).trans (Eu i hi),cu,
  λi hi=>(c _).trans (AD i hi),λi hi j g h2=>(c _).trans (dB i hi j g h2),λi hi=>(c _).trans (nj i hi),λi hi hl=>⟨(l4 i hi hl).1,ai (l4 i hi hl).2 s⟩,
  λi hi j l=>(cell _ _ (l4 i hi (by omega)).2).trans (J5 i hi j l),nm5,λi hi=>(d _).trans (FI i hi),λi hi=>(d _).trans (HU i hi),λi hi=>(d _).trans (J6 i hi)⟩
def VS(x:nR):Array Value:=#[.agg #[.int .i64 x.1,.int .i64 x.2.1,.int .i64 x.2.2.1,.int .i64 x.2.2.2.1,.int .i64 x.2.2.2.2]]
end Go.Proofs
namespace Go.Proofs
open Go.RowKit
set_option maxRecDepth 100000
set_option maxHeartbeats 4000000
def zW(b:Option Addr)(m c n:Nat)(f:Value)(w:World)(a:n<=1):Calls PL 199 #[.slice b m c,.int .i64 0,.int .i64 n,f] w λe w'=>(∃v,e=.returned v)/\w=w':=by
 have d:(n:Int)<=1:=by omega
 go_enter (fx (by decide) Tryz.func199),Tryz.ntmps199
 go_wp2
 go_loop [8] (λv=>v=.int .i64 1) (λ_=>0)
 case atStart=>rfl
 case round=>
  subst hrel
  go_wp2
  go_end0
  exact⟨⟨_,rfl⟩,rfl⟩
def Iy(b:Option Addr)(c n:Nat)(f:Value)(w:World)(a:n<=1):Calls PL 191 #[.slice b n c,.int .i64 n,f] w λe w'=>(∃v,e=.returned v)/\w=w':=by
 have g:(n:Int)<=1:=by omega
 have h:(n:Int)<20:=by omega
 have i:(n:Int)<=20:=by omega
 go_enter (fx (by decide) Tryz.func191),Tryz.ntmps191
 go_wp2
 go_loop [7,8] (λv7 d=>v7=.int .i64 0/\d=.int .i64 20) (λ_ _=>0)
 case atStart=>exact⟨rfl,rfl⟩
 case round=>
  obtain⟨rfl,rfl⟩:=hrel
  go_wp2_with (go_at_call 199;refine(zW _ _ _ n _ _ a).mono ?_;rintro e w'⟨⟨v,rfl⟩,rfl⟩)
  go_loop [6] (λv=>v=.int .i64 20) (λ_=>0)
  case atStart=>rfl
  case round=>
   subst hrel
   go_wp2
   go_end0
   exact⟨⟨_,rfl⟩,rfl⟩
def yS(b:Option Addr)(c n:Nat)(f:Value)(w:World)(a:n<=1):Calls PL 181 #[.slice b n c,f] w λe w'=>(∃v,e=.returned v)/\w=w':=by
 go_enter (fx (by decide) Tryz.func181),Tryz.ntmps181
 go_wp2_with (go_at_call 191;refine(Iy _ _ n _ _ a).mono ?_;rintro e w'⟨⟨v,rfl⟩,rfl⟩)
 go_end0
 exact⟨⟨_,rfl⟩,rfl⟩
def Iz(b:Option Addr)(c n:Nat)(f:Value)(w:World)(a:n<=1):Calls PL 146 #[.slice b n c,f] w λe w'=>e=.returned (.slice b n c)/\w=w':=by
 go_enter (fx (by decide) Tryz.func146),Tryz.ntmps146
 go_wp2_with (go_at_call 181;refine(yS _ _ n _ _ a).mono ?_;rintro e w'⟨⟨v,rfl⟩,rfl⟩)
 go_ret
 exact⟨rfl,rfl⟩
open Go.Shelf
def AbT{b:Type}(B:Nat)(J:b->World->Prop):Prop:=
 ∀s W a row,J s W->W.grownBy a row->(∀r,row=some r->B<=r/\∃c t,W.heap[r]?=some (Obj.cells c t)/\t≠61/\t≠50)->J s a
def afQ{c:Type}(n:Nat)(gf:Nat)(lb:Array Value)(f:c->Array Value)(g:World->World->Prop)(xs:List c)(St:World->Prop):Prop:=
 ∀(l:Nat)(J:List c->World->Prop)(W:World),St W->AbT W.heap.size J->
  (∀a x d,J a d->a++[x] <+: xs->YieldAt Fence.wide (n-1) PL l (f x) d λe b=>e=.returned (.bool true)/\J (a++[x]) b/\g d b)->
  J [] W->CallsIn Fence.wide n PL gf (#[.func (.yield l) #[] #[]]++lb) W λe b=>(∃v,e=.returned v)/\J xs b
end Go.Proofs
