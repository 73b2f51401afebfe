/- Part of the proof of FieldTrue and FieldMeets. -/
import Derived.Test.YticmdlaalagfoaaGreatV15
set_option linter.all false
open Go.Proofs renaming getElem?_lt'->ab,tO->ac
open Go.Proofs.Below renaming on->ad,zQ->ae
open Nat renaming le_trans->ag,zero_add->ai,le_refl->ao,le_succ->ap,reduceAdd->aq,lt_of_lt_of_le->ar,reduceSub->aw,zero_le->aB
open Go renaming TypeId->aF,wp_region_noPanic->aI,bodyPost_ret->aJ,results->aP,callsIn_wide->aS,callsIn_of_wp_marks->aT,run_takeDeferred->a5,grownBy_putObj'->a6
open Go.World renaming setCell->a7,size_setCell->a8,size_alloc->a9,cell?->ba,putObj->bc,grownBy_alloc->bd,putObj_heap_same->bg,putObj_heap_other->bi
open Array renaming getElem?_modify->bj,replicate_succ->bm,replicate_zero->bo
open Option renaming map_some->bp
open Ne renaming symm->bq
open Go.Lib renaming hid->br
open Go.RowKit.Below renaming refl->bs
open List renaming take_succ_cons->bt,take_zero->bv,drop_succ_cons->bw,drop_zero->bx,length_cons->bA,length_nil->bC,range->bL,size_toArray->bM,push_toArray->bR,append_toArray->bT,nil_append->bX,cons_append->b7,flatMap_cons->b8,getElem?_toArray->cd,getElem?_cons_succ->ce,getElem?_cons_zero->cf,foldl->cg,foldl_cons->ch,mem_cons->ci
open Go.Value renaming oneCell'->cl
open Go.NoPanic renaming normal->cm
open Bool renaming and_eq_true->co
open Go.KeepsOthers renaming alloc->cp,of_grownBy->cq,setCell->ct
namespace Go.Proofs
open Go.RowKit
set_option maxRecDepth 100000
set_option maxHeartbeats 4000000
abbrev RX:Array Value:=#[.int .i64 0,.int .i64 0,.slice none 0 0,.slice none 0 0,.slice none 0 0,.slice none 0 0]
structure KO(V:Array Value)(w W:World):Prop where
 box:W.heap[w.heap.size]?=some (.cells V 27)
 res:W.heap[w.heap.size+1]?=some (.cells RX 27)
 low:Below w.heap.size w W
def KO.on{V:Array Value}{w W b:World}(h:KO V w W)(a:Below W.heap.size W b):KO V w b:=
 ⟨(a.block _ (ab h.box)).trans h.box,(a.block _ (ab h.res)).trans h.res,ad h.low a⟩
def iN{W b:World}{base e m n:Nat}{v:Value}{l:List Value}(h:W.ownsRow base e m v n l)(d:Below W.heap.size W b):b.ownsRow base e m v n l:=by
 obtain⟨c,h⟩:=h
 rcases h with h|⟨g,cap,a,e1,hb,hg,f⟩
 ·exact⟨c,.inl h⟩
 ·exact⟨c,.inr ⟨g,cap,a,e1,hb,(d.block _ (ab hg)).trans hg,f⟩⟩
def dJ{W:World}{b b' e m n:Nat}{v:Value}{l:List Value}(h:W.ownsRow b e m v n l)(hb:b'<=b):W.ownsRow b' e m v n l:=by
 obtain⟨c,h⟩:=h
 rcases h with h|⟨g,cap,a,e1,d,hg,f⟩
 ·exact⟨c,.inl h⟩
 ·exact⟨c,.inr ⟨g,cap,a,e1,ag hb d,hg,f⟩⟩
def Fc(w W:World)(e m:Nat)(v:Value)(n:Nat)(l:List Value):Prop:=W.ownsRow w.heap.size e m v n l/\v≠.slice none 0 0
def Fc.form{w W:World}{e m n:Nat}{v:Value}{l:List Value}(h:Fc w W e m v n l):∃g cap cur,v=.slice (some ⟨g,0,none⟩) n cap/\w.heap.size<=g/\W.heap[g]?=some (.cells cur e)/\cur.toList.take (n*m)=l:=by
 obtain⟨⟨_,h⟩,hv⟩:=h
 rcases h with⟨rfl,_⟩|⟨g,cap,cur,e1,hb,hg,_,_,_,a⟩
 ·exact absurd rfl hv
 ·exact⟨g,cap,cur,e1,hb,hg,a⟩
def Row.take{W:World}{g:Nat}{cur:Array Value}{e:aF}{n:Nat}{l:List Value}(hg:W.heap[g]?=some (.cells cur e))(a:cur.toList.take n=l):Row W g l:=
 Row.of hg λj v hv=>by
  rw[<-a,List.getElem?_take]at hv
  split at hv
  ·simpa using hv
  ·cases hv
def RY(d:Int)(a ca lb b:Nat)(w:World)(i:Nat)(vs:Nat->Value)(W:World):Prop:=
 (i=2->Fc w W 43 2 (vs 2) 2 vT)/\(i=5->Fc w W 108 3 (vs 5) 4 vU)/\(i=8->Fc w W 92 12 (vs 8) 3 (rO a ca lb b))/\(i=11->Fc w W 99 3 (vs 11) 2 (qB d))
def VP{d:Int}{b ca lb c:Nat}{w W f:World}{i:Nat}{vs:Nat->Value}(a:Below W.heap.size W f)(h:RY d b ca lb c w i vs W):RY d b ca lb c w i vs f:=
 ⟨λe=>⟨iN (h.1 e).1 a,(h.1 e).2⟩,λe=>⟨iN (h.2.1 e).1 a,(h.2.1 e).2⟩,λe=>⟨iN (h.2.2.1 e).1 a,(h.2.2.1 e).2⟩,λe=>⟨iN (h.2.2.2 e).1 a,(h.2.2.2 e).2⟩⟩
def RZ{d:Int}{b ca lb c:Nat}{w W:World}{i:Nat}{vs f:Nat->Value}(a:vs i=f i)(h:RY d b ca lb c w i vs W):RY d b ca lb c w i f W:=
 ⟨λe=>by subst e;rw[<-a];exact h.1 rfl,λe=>by subst e;rw[<-a];exact h.2.1 rfl,λe=>by subst e;rw[<-a];exact h.2.2.1 rfl,λe=>by subst e;rw[<-a];exact h.2.2.2 rfl⟩
structure CJ(W:World)(k2 k3 k4 k5 la ca lb cb:Nat)(d:Int):Prop where
 r2:Row W k2 vT
 r3:Row W k3 vU
 r4:Row W k4 (rO la ca lb cb)
 r5:Row W k5 (qB d)
 ra:Row W la [bh 1]
 rb:Row W lb [bh 2]
def CJ.on{W b:World}{k2 k3 c e f ca lb g:Nat}{d:Int}(h:CJ W k2 k3 c e f ca lb g d)(a:Below W.heap.size W b):CJ b k2 k3 c e f ca lb g d:=
 ⟨h.r2.on a,h.r3.on a,h.r4.on a,h.r5.on a,h.ra.on a,h.rb.on a⟩
def Row.news{W:World}{k:Nat}{l:List Value}(h:Row W k l):∀j u,l[j]?=some u->W.cell? ⟨k,0+j,none⟩=some u:=λj u e=>by rw[ai];exact h.2 j u e
def iu{W:World}{a b:Nat}{x y:Array Value}{t u:aF}(h:W.heap[a]?=some (.cells x t))(k:W.heap[b]?=some (.cells y u))(c:t≠u):a≠b:=λe=>by
 subst e;rw[h]at k;cases k;exact c rfl
def Fe{W:World}{b o:Nat}{v:Value}{c:Array Value}{t:aF}(h:W.heap[b]?=some (.cells c t)):(W.setCell ⟨b,o,none⟩ v).heap[b]?=some (.cells (c.setIfInBounds o v) t):=by
 simp only[a7,bj,if_pos,h,bp];rfl
def aZ{W:World}{b o k:Nat}{v:Value}(h:b≠k):(W.setCell ⟨b,o,none⟩ v).heap[k]?=W.heap[k]?:=by
 simp only[a7,bj,if_neg h]
def Row.cC{W:World}{k:Nat}{l:List Value}(h:Row W k l){R:Nat}(a:R≠k)(o:Nat)(v:Value):Row (W.setCell ⟨R,o,none⟩ v) k l:=
 ⟨by rw[a8];exact h.1,λj u e=>(World.cell?_setCell_other _ _ _ _ (λe=>by have:=congrArg Addr.block e;simp only at this;omega)).trans (h.2 j u e)⟩
def mH(W:World)(g:Nat)(e:aF)(l:List Value):Prop:=∃u:Array Value,W.heap[g]?=some (.cells u e)/\u.toList.take l.length=l
def mH.on{W a:World}{g:Nat}{e:aF}{l:List Value}(h:mH W g e l)(b:Below W.heap.size W a):mH a g e l:=
 h.imp λ_ k=>⟨(b.block _ (ab k.1)).trans k.1,k.2⟩
def mH.row{W:World}{g:Nat}{e:aF}{l:List Value}(h:mH W g e l):Row W g l:=by
 obtain⟨u,a,b⟩:=h;exact Row.take a b
def mH.lt{W:World}{g:Nat}{e:aF}{l:List Value}(h:mH W g e l):g<W.heap.size:=h.row.1
def mH.ne{W:World}{g g':Nat}{e e':aF}{l l':List Value}(h:mH W g e l)(a:mH W g' e' l')(b:e≠e'):g≠g':=by
 obtain⟨u,c,_⟩:=h;obtain⟨f,d,_⟩:=a;exact iu c d b
def mH.set{W:World}{g o:Nat}{e:aF}{l:List Value}{v:Value}(h:mH W g e l):mH (W.setCell ⟨g,o,none⟩ v) g e (l.set o v):=by
 obtain⟨u,a,b⟩:=h;refine⟨_,Fe a,?_⟩;rw[Array.toList_setIfInBounds,List.length_set,List.take_set,b]
def mH.other{W:World}{g R o:Nat}{e:aF}{l:List Value}{v:Value}(h:mH W g e l)(a:R≠g):mH (W.setCell ⟨R,o,none⟩ v) g e l:=by
 obtain⟨u,b,c⟩:=h;exact⟨u,(aZ a).trans b,c⟩
def mH.tO{W:World}{g:Nat}{e:aF}{l:List Value}(h:mH W g e l):∀o,W.frozen? ⟨g,o,none⟩=false:=by
 obtain⟨u,a,_⟩:=h;exact ac a
structure KI(w:World)(g2 p2 g3 p3 g4 p4 g5 p5:Nat)(d:Int)(a1 c1 b1 e1:Nat)(W:World):Prop where
 box:mH W w.heap.size 27 [bh 60,bh 4,.slice (some ⟨g2,0,none⟩) 2 p2,.slice (some ⟨g3,0,none⟩) 4 p3,.slice (some ⟨g4,0,none⟩) 3 p4,.slice (some ⟨g5,0,none⟩) 2 p5]
 res:W.heap[w.heap.size+1]?=some (.cells RX 27)
 low:Below w.heap.size w W
 q2:mH W g2 43 vT
 q3:mH W g3 108 vU
 q4:mH W g4 92 (rO a1 c1 b1 e1)
 q5:mH W g5 99 (qB d)
 ra:Row W a1 [bh 1]
 rb:Row W b1 [bh 2]
 na:a1≠g4/\a1≠g5
 nb:b1≠g4/\b1≠g5
 nr:a1≠w.heap.size+1/\b1≠w.heap.size+1
 o4:w.heap.size<=g4
 o5:w.heap.size<=g5
def KI.on{w:World}{b c e f g i j k:Nat}{d:Int}{a1 c1 l e1:Nat}{W m:World}(h:KI w b c e f g i j k d a1 c1 l e1 W)(a:Below W.heap.size W m):KI w b c e f g i j k d a1 c1 l e1 m:=
 ⟨h.box.on a,(a.block _ (ab h.res)).trans h.res,ad h.low a,h.q2.on a,h.q3.on a,h.q4.on a,h.q5.on a,h.ra.on a,h.rb.on a,h.na,h.nb,h.nr,h.o4,h.o5⟩
def KI.set{w:World}{e f g i a j c l:Nat}{d:Int}{a1 c1 m e1:Nat}{W:World}(h:KI w e f g i a j c l d a1 c1 m e1 W){o:Nat}{v:Value}{a2 n b q:Nat}
 (hl:(rO a1 c1 m e1).set o v=rO a2 n b q) (ra:Row W a2 [bh 1]) (rb:Row W b [bh 2]) (na:a2≠a/\a2≠c) (nb:b≠a/\b≠c) (nr:a2≠w.heap.size+1/\b≠w.heap.size+1) :
 KI w e f g i a j c l d a2 n b q (W.setCell ⟨a,o,none⟩ v):=
 ⟨h.box.other (h.box.ne h.q4 (by decide)).symm,(aZ (h.q4.elim λ_ k=>iu k.1 h.res (by decide))).trans h.res,h.low.setCell (p:=⟨a,o,none⟩) h.o4 v,h.q2.other (h.q2.ne h.q4 (by decide)).symm,h.q3.other (h.q3.ne h.q4 (by decide)).symm,hl▸h.q4.set,
   h.q5.other (h.q5.ne h.q4 (by decide)).symm,ra.cC (bq na.1) _ _,rb.cC (bq nb.1) _ _,na,nb,nr,h.o4,h.o5⟩
structure Made(w W:World)(k2 k3 k4 k5 la ca lb cb:Nat)(d:Int):Prop where
 rows:CJ W k2 k3 k4 k5 la ca lb cb d
 R5:w.heap.size<=k5
 blk:mH W k5 99 (qB d)
 ne2:k2≠k5
 ne3:k3≠k5
 ne4:k4≠k5
 nea:la≠k5
 neb:lb≠k5
 low:Below w.heap.size w W
def aaQ{k2 D k3 c3 y E z F H ca lb I:Nat}{d:Int}(w:World)(h:CJ w k2 k3 y z H ca lb I d):Calls PL 84 #[.agg (ir k2 D k3 c3 y E z F H ca lb I d).val] w λe w'=>∃XB FB XC Kb XD Kc XE Ke XF XG XH XI,e=.returned (.agg (ir XB FB XC Kb XD Kc XE Ke XF XG XH XI d).val)/\Made w w' XB XC XD XE XF XG XH XI d:=by
 have Q:=br h;clear h;simp only[ir,CD.val];have WB:KO #[.int .i64 60,.int .i64 4,.slice (some ⟨k2,0,none⟩) 2 D,.slice (some ⟨k3,0,none⟩) 4 c3,.slice (some ⟨y,0,none⟩) 3 E,.slice (some ⟨z,0,none⟩) 2 F] w ((w.alloc (.cells #[.int .i64 60,.int .i64 4,.slice (some ⟨k2,0,none⟩) 2 D,.slice (some ⟨k3,0,none⟩) 4 c3,.slice (some ⟨y,0,none⟩) 3 E,.slice (some ⟨z,0,none⟩) 2 F] 27)).alloc (.cells RX 27)):=by
  refine⟨?_,?_,((bs _ _).alloc (ao _) _).alloc (by simp) _⟩
  ·exact(((bs (w.alloc (.cells #[.int .i64 60,.int .i64 4,.slice (some ⟨k2,0,none⟩) 2 D,.slice (some ⟨k3,0,none⟩) 4 c3,.slice (some ⟨y,0,none⟩) 3 E,.slice (some ⟨z,0,none⟩) 2 F] 27)).heap.size _).alloc (ao _) _).block _ (by simp)).trans (au w _)
  ·have h1:=au (w.alloc (.cells #[.int .i64 60,.int .i64 4,.slice (some ⟨k2,0,none⟩) 2 D,.slice (some ⟨k3,0,none⟩) 4 c3,.slice (some ⟨y,0,none⟩) 3 E,.slice (some ⟨z,0,none⟩) 2 F] 27)) (.cells RX 27);rw[a9]at h1;exact h1
 have K0:=br WB;clear WB
 go_enter (fx (by decide) Tryz.func84),Tryz.ntmps84
 go_wp2
 refine aI ?_;refine cT 13 (KO #[.int .i64 60,.int .i64 4,.slice (some ⟨k2,0,none⟩) 2 D,.slice (some ⟨k3,0,none⟩) 4 c3,.slice (some ⟨y,0,none⟩) 3 E,.slice (some ⟨z,0,none⟩) 2 F] w) (λW g=>Below W.heap.size W g) (λj=>j % 3 != 2||j==12) (RY d H ca lb I w) rfl (by kernel_rfl) (by kernel_rfl) (λ_ _ _ _ r h=>VP r h) (λ_ _ _ _ _ _ R _ h=>RZ R h) ?_ ?_
 ·exact K0.out.on (bs _ _).drew
 ·simp only[bt,bv]
  iterate 13 (
   first
   |(apply aY
     case hE=>rfl
     case h=>
      intro vs W a hd;obtain⟨f0,f1,f2,f3,f4,f5⟩:=bf a.box
      go_simp
      exact⟨rfl,bs _ _⟩
     case hb=>exact P0)
   |(apply eH
     case hE=>rfl
     case h=>
      intro vs W a hd;have l:=Q.out.on (a.low)
      go_simp
      first
      |(go_at_call 113;refine(RQ k2 0 2 D vT _ rfl l.r2.news (by simp[vT,vU,rO,qB,cl]) (by omega) l.r2.1).mono ?_;rintro e g⟨v,rfl,hv,s,c⟩;exact⟨_,rfl,a.on c,c,⟨(λ_=>⟨dJ s a.low.size,hv⟩),(λe=>absurd e (by decide)),(λe=>absurd e (by decide)),(λe=>absurd e (by decide))⟩⟩)
      |(go_at_call 114;refine(RR k3 0 4 c3 vU _ rfl l.r3.news (by simp[vT,vU,rO,qB,cl]) (by omega) l.r3.1).mono ?_;rintro e g⟨v,rfl,hv,s,c⟩;exact⟨_,rfl,a.on c,c,⟨(λe=>absurd e (by decide)),(λ_=>⟨dJ s a.low.size,hv⟩),(λe=>absurd e (by decide)),(λe=>absurd e (by decide))⟩⟩)
      |(go_at_call 115;refine(RS y 0 3 E (rO H ca lb I) _ rfl l.r4.news (by simp[vT,vU,rO,qB,cl]) (by omega) l.r4.1).mono ?_;rintro e g⟨v,rfl,hv,s,c⟩;exact⟨_,rfl,a.on c,c,⟨(λe=>absurd e (by decide)),(λe=>absurd e (by decide)),(λ_=>⟨dJ s a.low.size,hv⟩),(λe=>absurd e (by decide))⟩⟩)
      |(go_at_call 116;refine(RU z 0 2 F (qB d) _ rfl l.r5.news (by simp[vT,vU,rO,qB,cl]) (by omega) l.r5.1).mono ?_;rintro e g⟨v,rfl,hv,s,c⟩;exact⟨_,rfl,a.on c,c,⟨(λe=>absurd e (by decide)),(λe=>absurd e (by decide)),(λe=>absurd e (by decide)),(λ_=>⟨dJ s a.low.size,hv⟩)⟩⟩)
     case hb=>exact P0))
  refine cP λvs W a hd=>?_;have h2:=((hd 2 (by omega) rfl).1 rfl)
  have h5:=((hd 5 (by omega) rfl).2.1 rfl)
  have h8:=((hd 8 (by omega) rfl).2.2.1 rfl)
  have J:=((hd 11 (by omega) rfl).2.2.2 rfl)
  have m:=br a;clear hd a;obtain⟨f0,f1,f2,f3,f4,f5⟩:=bf m.out.box;have S:=tO m.out.box;have hz:=ab m.out.box;obtain⟨v2,e2⟩:∃v,v=vs 2:=⟨_,rfl⟩
  obtain⟨v3,e3⟩:∃v,v=vs 5:=⟨_,rfl⟩
  obtain⟨v4,e4⟩:∃v,v=vs 8:=⟨_,rfl⟩
  obtain⟨v5,e5⟩:∃v,v=vs 11:=⟨_,rfl⟩
  rw[<-e2]at h2⊢;rw[<-e3]at h5⊢;rw[<-e4]at h8⊢;rw[<-e5]at J ⊢;clear e2 e3 e4 e5;obtain⟨t,K,u2,rfl,o2,b2,t2⟩:=h2.form;obtain⟨u,L,u3,rfl,o3,b3,t3⟩:=h5.form;obtain⟨o,M,u4,rfl,o4,b4,t4⟩:=h8.form;obtain⟨x,N,u5,rfl,o5,b5,t5⟩:=J.form;have H2:=br (And.intro b2 t2);have H3:=br (And.intro b3 t3);have H4:=br (And.intro b4 t4);have H5:=br (And.intro b5 t5);clear h2 h5 h8 J b2 t2 b3 t3 b4 t4 b5 t5;simp only[bw,bx]
  go_upto_region 2 with fail
  refine cm ?_;obtain⟨W1,mG⟩:∃W1:World,W1=(((W.setCell ⟨w.heap.size,2,none⟩ (.slice (some ⟨t,0,none⟩) 2 K)).setCell ⟨w.heap.size,3,none⟩ (.slice (some ⟨u,0,none⟩) 4 L)).setCell ⟨w.heap.size,4,none⟩ (.slice (some ⟨o,0,none⟩) 3 M)).setCell ⟨w.heap.size,5,none⟩ (.slice (some ⟨x,0,none⟩) 2 N):=⟨_,rfl⟩
  have l:=Q.out.on m.out.low;have T:=iu m.out.box H2.out.1 (by decide);have U:=iu m.out.box H3.out.1 (by decide);have V:=iu m.out.box H4.out.1 (by decide);have X:=iu m.out.box H5.out.1 (by decide);have Y:w.heap.size≠H:=λe=>by have:=Q.out.ra.1;omega
  have Z:w.heap.size≠lb:=λe=>by have:=Q.out.rb.1;omega
  have la4:=Q.out.ra.1;have lb4:=Q.out.rb.1
  have KK:Hid (KI w t K u L o M x N d H ca lb I W1):=br (by
   rw[mG];have B0:mH W w.heap.size 27 [bh 60,bh 4,.slice (some ⟨k2,0,none⟩) 2 D,.slice (some ⟨k3,0,none⟩) 4 c3,.slice (some ⟨y,0,none⟩) 3 E,.slice (some ⟨z,0,none⟩) 2 F]:=⟨_,m.out.box,rfl⟩
   refine⟨B0.set.set.set.set,?_,((((m.out.low.setCell (p:=⟨w.heap.size,2,none⟩) (ao _) _).setCell (p:=⟨w.heap.size,3,none⟩) (ao _) _).setCell (p:=⟨w.heap.size,4,none⟩) (ao _) _).setCell (p:=⟨w.heap.size,5,none⟩) (ao _) _),?_,?_,?_,?_,?_,?_,⟨by omega,by omega⟩,⟨by omega,by omega⟩,⟨by omega,by omega⟩,o4,o5⟩
   ·rw[aZ (by omega),aZ (by omega),aZ (by omega),aZ (by omega)];exact m.out.res
   ·exact(((mH.other (show mH W t 43 vT from⟨_,H2.out.1,H2.out.2⟩) T).other T).other T).other T
   ·exact(((mH.other (show mH W u 108 vU from⟨_,H3.out.1,H3.out.2⟩) U).other U).other U).other U
   ·exact(((mH.other (show mH W o 92 (rO H ca lb I) from⟨_,H4.out.1,H4.out.2⟩) V).other V).other V).other V
   ·exact(((mH.other (show mH W x 99 (qB d) from⟨_,H5.out.1,H5.out.2⟩) X).other X).other X).other X
   ·exact(((l.ra.cC Y _ _).cC Y _ _).cC Y _ _).cC Y _ _
   ·exact(((l.rb.cC Z _ _).cC Z _ _).cC Z _ _).cC Z _ _)
  rw[<-mG];clear mG l f0 f1 f2 f3 f4 f5 S hz m H2 H3 H4 H5 T U V X Y Z;have f4:=KK.out.box.row.2 4 _ rfl
  go_upto_region 3 with fail
  go_loopw [23] (λO wr=>∃i a1 c1 A e1:Nat,i<=3/\O=.int .i64 i/\KI w t K u L o M x N d a1 c1 A e1 wr) (λO _=>3-(intOf O).toNat)
  case atStart=>exact⟨0,H,ca,lb,I,by omega,rfl,KK.out⟩
  case round=>
   obtain⟨i,a1,c1,A,e1,hi,rfl,hK⟩:=hrel;have b:=br hK;clear hK f4
   match i,hi with
   |0,_=>
    go_upto_region 5 with fail
    refine aI ?_;refine cT 10 (λW=>KI w t K u L o M x N d a1 c1 A e1 W/\wr.heap.size<=W.heap.size) (λW g=>Below W.heap.size W g) (λj=>j != 9) (λj vs W=>j=9->Fc wr W 3 1 (vs 9) 1 [bh 1]) rfl (by kernel_rfl) (by kernel_rfl) (λ_ _ _ _ r h e=>⟨iN (h e).1 r,(h e).2⟩) (λj _ _ vs eX W R _ h e=>by subst e;rw[<-R];exact h rfl) ?_ ?_
    ·exact⟨b.out.on (bs _ _).drew,ao _⟩
    simp only[bt,bv]
    iterate 10 (
     first
     |(apply aY
       case hE=>rfl
       case h=>
        rintro vs W⟨a,q⟩hd;have f4:=a.box.row.2 4 _ rfl;have fl:W.cell? ⟨o,11,none⟩=_:=a.q4.row.2 11 _ rfl
        go_simp
        first
        |exact⟨rfl,a,bs _ _⟩
        |exact⟨rfl,bs _ _⟩
        |exact rfl
       case hb=>exact P0)
     |(apply eH
       case hE=>rfl
       case h=>
        rintro vs W⟨a,q⟩hd
        go_simp
        (go_at_call 60;refine(tC a1 0 1 c1 [bh 1] _ rfl a.ra.news (by simp[cl]) (by omega) a.ra.1).mono ?_;rintro e g⟨v,rfl,hv,s,c⟩;exact⟨_,rfl,⟨a.on c,ag q c.size⟩,c,⟨dJ s q,hv⟩⟩)
       case hb=>exact P0))
    refine cP λvs W a hd=>?_;obtain⟨a,q⟩:=a;have P:=hd 9 (by omega) rfl rfl;obtain⟨v9,e9⟩:∃v,v=vs 9:=⟨_,rfl⟩
    rw[<-e9]at P⊢;clear e9 hd;obtain⟨g9,p9,u9',rfl,o9,b9,t9⟩:=P.form;have f:=br a;have R9:Hid (Row W g9 [bh 1]):=br (Row.take (n:=1) b9 t9);have lt4:=b.out.q4.lt;have lt5:=b.out.q5.lt;have ltr:=ab b.out.res;have fl:=a.q4.row.2 11 _ rfl;have S:=a.q4.tO;clear P b9 t9 a;simp only[bw,bx]
    go_upto_region 6 with fail
    refine cm ?_
    go_wp2
    refine⟨⟨1,g9,p9,A,e1,by omega,rfl,f.out.set rfl R9.out f.out.rb ⟨by omega,by omega⟩ f.out.nb ⟨by omega,f.out.nr.2⟩⟩,by simp[intOf]⟩
   |1,_=>
    go_upto_region 5 with fail
    refine aI ?_;refine cT 10 (λW=>KI w t K u L o M x N d a1 c1 A e1 W/\wr.heap.size<=W.heap.size) (λW g=>Below W.heap.size W g) (λj=>j != 9) (λj vs W=>j=9->Fc wr W 3 1 (vs 9) 1 [bh 2]) rfl (by kernel_rfl) (by kernel_rfl) (λ_ _ _ _ r h e=>⟨iN (h e).1 r,(h e).2⟩) (λj _ _ vs eX W R _ h e=>by subst e;rw[<-R];exact h rfl) ?_ ?_
    ·exact⟨b.out.on (bs _ _).drew,ao _⟩
    simp only[bt,bv]
    iterate 10 (
     first
     |(apply aY
       case hE=>rfl
       case h=>
        rintro vs W⟨a,q⟩hd;have f4:=a.box.row.2 4 _ rfl;have fl:W.cell? ⟨o,23,none⟩=_:=a.q4.row.2 23 _ rfl
        go_simp
        first
        |exact⟨rfl,a,bs _ _⟩
        |exact⟨rfl,bs _ _⟩
        |exact rfl
       case hb=>exact P0)
     |(apply eH
       case hE=>rfl
       case h=>
        rintro vs W⟨a,q⟩hd
        go_simp
        (go_at_call 60;refine(tC A 0 1 e1 [bh 2] _ rfl a.rb.news (by simp[cl]) (by omega) a.rb.1).mono ?_;rintro e g⟨v,rfl,hv,s,c⟩;exact⟨_,rfl,⟨a.on c,ag q c.size⟩,c,⟨dJ s q,hv⟩⟩)
       case hb=>exact P0))
    refine cP λvs W a hd=>?_;obtain⟨a,q⟩:=a;have P:=hd 9 (by omega) rfl rfl;obtain⟨v9,e9⟩:∃v,v=vs 9:=⟨_,rfl⟩
    rw[<-e9]at P⊢;clear e9 hd;obtain⟨g9,p9,u9',rfl,o9,b9,t9⟩:=P.form;have f:=br a;have R9:Hid (Row W g9 [bh 2]):=br (Row.take (n:=1) b9 t9);have lt4:=b.out.q4.lt;have lt5:=b.out.q5.lt;have ltr:=ab b.out.res;have fl:=a.q4.row.2 23 _ rfl;have S:=a.q4.tO;clear P b9 t9 a;simp only[bw,bx]
    go_upto_region 6 with fail
    refine cm ?_
    go_wp2
    refine⟨⟨2,a1,c1,g9,p9,by omega,rfl,f.out.set rfl f.out.ra R9.out f.out.na ⟨by omega,by omega⟩ ⟨f.out.nr.1,by omega⟩⟩,by simp[intOf]⟩
   |2,_=>
    go_upto_region 5 with fail
    refine aI ?_;refine cT 10 (λW=>KI w t K u L o M x N d a1 c1 A e1 W/\wr.heap.size<=W.heap.size) (λW g=>Below W.heap.size W g) (λ_=>true) (λ_ _ _=>True) rfl (by kernel_rfl) (by kernel_rfl) (λ_ _ _ _ _ h=>h) (λ_ _ _ _ _ _ _ _ h=>h) ?_ ?_
    ·exact⟨b.out.on (bs _ _).drew,ao _⟩
    simp only[bt,bv]
    iterate 10 (
     apply aY
     case hE=>rfl
     case h=>
      rintro vs W⟨a,q⟩hd;have f4:=a.box.row.2 4 _ rfl;have fl:=a.q4.row.2 35 _ rfl
      go_simp
      first
      |exact⟨rfl,a,bs _ _⟩
      |exact⟨rfl,bs _ _⟩
      |(go_at_call 60;refine(Ct _).mono ?_;rintro e g⟨rfl,rfl⟩;exact⟨_,rfl,rfl,⟨a,q⟩,bs _ _⟩)
     case hb=>exact P0)
    refine cP λvs W a hd=>?_;obtain⟨a,q⟩:=a;have f:=br a;have fl:=a.q4.row.2 35 _ rfl;have S:=a.q4.tO;clear a hd;simp only[bw,bx]
    go_upto_region 6 with fail
    refine cm ?_
    go_wp2
    refine⟨⟨3,a1,c1,A,e1,by omega,rfl,f.out.set rfl f.out.ra f.out.rb f.out.na f.out.nb f.out.nr⟩,by simp[intOf]⟩
   |3,_=>
    have f0:=b.out.box.row.2 0 _ rfl;have f1:=b.out.box.row.2 1 _ rfl;have f2:=b.out.box.row.2 2 _ rfl;have f3:=b.out.box.row.2 3 _ rfl;have f4:=b.out.box.row.2 4 _ rfl;have f5:=b.out.box.row.2 5 _ rfl;obtain⟨y0,y1,y2,y3,y4,y5⟩:=bf b.out.res;have S:=tO b.out.res;have m2:w.heap.size+1≠t:=b.out.q2.elim λ_ k=>iu b.out.res k.1 (by decide);have m3:w.heap.size+1≠u:=b.out.q3.elim λ_ k=>iu b.out.res k.1 (by decide);have m4:w.heap.size+1≠o:=b.out.q4.elim λ_ k=>iu b.out.res k.1 (by decide);have m5:w.heap.size+1≠x:=b.out.q5.elim λ_ k=>iu b.out.res k.1 (by decide);have B:=bq b.out.nr.1;have C:=bq b.out.nr.2;have hzr:=ab b.out.res;clear m2 m3 m4 m5 B C
    go_wp2
    have m2:w.heap.size+1≠t:=b.out.q2.elim λ_ k=>iu b.out.res k.1 (by decide);have m3:w.heap.size+1≠u:=b.out.q3.elim λ_ k=>iu b.out.res k.1 (by decide);have m4:w.heap.size+1≠o:=b.out.q4.elim λ_ k=>iu b.out.res k.1 (by decide);have m5:w.heap.size+1≠x:=b.out.q5.elim λ_ k=>iu b.out.res k.1 (by decide);have B:=bq b.out.nr.1;have C:=bq b.out.nr.2;refine aJ (v:=.agg (ir t K u L o M x N a1 c1 A e1 d).val) ?_ rfl ⟨_,_,_,_,_,_,_,_,_,_,_,_,rfl,⟨⟨((((((((((((b.out.q2.row).cC m2 _ _)).cC m2 _ _)).cC m2 _ _)).cC m2 _ _)).cC m2 _ _)).cC m2 _ _),((((((((((((b.out.q3.row).cC m3 _ _)).cC m3 _ _)).cC m3 _ _)).cC m3 _ _)).cC m3 _ _)).cC m3 _ _),((((((((((((b.out.q4.row).cC m4 _ _)).cC m4 _ _)).cC m4 _ _)).cC m4 _ _)).cC m4 _ _)).cC m4 _ _),((((((((((((b.out.q5.row).cC m5 _ _)).cC m5 _ _)).cC m5 _ _)).cC m5 _ _)).cC m5 _ _)).cC m5 _ _),((((((((((((b.out.ra).cC B _ _)).cC B _ _)).cC B _ _)).cC B _ _)).cC B _ _)).cC B _ _),((((((((((((b.out.rb).cC C _ _)).cC C _ _)).cC C _ _)).cC C _ _)).cC C _ _)).cC C _ _)⟩,b.out.o5,(mH.other (mH.other (mH.other (mH.other (mH.other (mH.other b.out.q5 m5) m5) m5) m5) m5) m5),b.out.q2.ne b.out.q5 (by decide),b.out.q3.ne b.out.q5 (by decide),b.out.q4.ne b.out.q5 (by decide),b.out.na.2,b.out.nb.2,((((((((((((b.out.low).setCell (p:=⟨w.heap.size+1,0,none⟩) (ap _) _)).setCell (p:=⟨w.heap.size+1,1,none⟩) (ap _) _)).setCell (p:=⟨w.heap.size+1,2,none⟩) (ap _) _)).setCell (p:=⟨w.heap.size+1,3,none⟩) (ap _) _)).setCell (p:=⟨w.heap.size+1,4,none⟩) (ap _) _)).setCell (p:=⟨w.heap.size+1,5,none⟩) (ap _) _)⟩⟩
    clear m2 m3 m4 m5 B C;simp[aP,Tryz.results84,go_sem,y0,y1,y2,y3,y4,y5,hzr,ir]
def Row.jD{W:World}{k R:Nat}{l:List Value}{c:Array Value}{t:aF}(h:Row W k l)(a:W.heap[R]?=some (.cells c t))(j:Nat){u v:Value}(b:l[j]?=some u)(d:c[j]?=some v)(f:u≠v):R≠k:=λe=>by
 subst e;have:=h.2 j u b;simp only[ba,a]at this;rw[d]at this;cases this;exact f rfl
def Made.on{w W b:World}{k2 k3 c e f ca lb g:Nat}{d:Int}(h:Made w W k2 k3 c e f ca lb g d)(a:Below W.heap.size W b):Made w b k2 k3 c e f ca lb g d:=
 ⟨h.rows.on a,h.R5,h.blk.on a,h.ne2,h.ne3,h.ne4,h.nea,h.neb,ad h.low a⟩
def Made.set{w W:World}{k2 k3 b a c ca lb f:Nat}{d e:Int}(h:Made w W k2 k3 b a c ca lb f d){o:Nat}{v:Value}(hl:(qB d).set o v=qB e):Made w (W.setCell ⟨a,o,none⟩ v) k2 k3 b a c ca lb f e:=by
 have hb:mH (W.setCell ⟨a,o,none⟩ v) a 99 (qB e):=hl▸h.blk.set;exact⟨⟨h.rows.r2.cC (bq h.ne2) _ _,h.rows.r3.cC (bq h.ne3) _ _,h.rows.r4.cC (bq h.ne4) _ _,hb.row,h.rows.ra.cC (bq h.nea) _ _,h.rows.rb.cC (bq h.neb) _ _⟩,h.R5,hb,h.ne2,h.ne3,h.ne4,h.nea,h.neb,h.low.setCell (p:=⟨a,o,none⟩) h.R5 v⟩
def Made.other{w W:World}{k2 k3 a b c ca lb e:Nat}{d:Int}(h:Made w W k2 k3 a b c ca lb e d){R:Nat}(o:Nat)(v:Value)(g:w.heap.size<=R)(i:R≠k2)(j:R≠k3)(k:R≠a)(f:R≠b)(l:R≠c)(m:R≠lb):Made w (W.setCell ⟨R,o,none⟩ v) k2 k3 a b c ca lb e d:=
 ⟨⟨h.rows.r2.cC i _ _,h.rows.r3.cC j _ _,h.rows.r4.cC k _ _,h.rows.r5.cC f _ _,h.rows.ra.cC l _ _,h.rows.rb.cC m _ _⟩,h.R5,h.blk.other f,h.ne2,h.ne3,h.ne4,h.nea,h.neb,h.low.setCell (p:=⟨R,o,none⟩) g v⟩
def Made.zu{w w0 W:World}{k2 k3 a b c ca lb e:Nat}{d:Int}(h:Made w W k2 k3 a b c ca lb e d)(f:Below w0.heap.size w0 w):Made w0 W k2 k3 a b c ca lb e d:=
 ⟨h.rows,ag f.size h.R5,h.blk,h.ne2,h.ne3,h.ne4,h.nea,h.neb,ad f h.low⟩
structure KJ(w:World)(B:Nat)(V:Array Value)(k2 k3 k4 k5 la ca lb cb:Nat)(e:Int)(W:World):Prop where
 made:Made w W k2 k3 k4 k5 la ca lb cb e
 box:W.heap[B]?=some (.cells V 27)
 res:W.heap[w.heap.size+1]?=some (.cells RX 27)
def yP{k2 r k3 c3 g s j t H ca lb I:Nat}{d y:Int}{v:Value}(w:World)(h:CJ w k2 k3 g j H ca lb I d)(hv:bB w v [0,y]):Calls PL 58 #[.agg (ir k2 r k3 c3 g s j t H ca lb I d).val,v] w λe w'=>∃XB FB XC Kb XD Kc XE Ke XF XG XH XI,e=.returned (.agg (ir XB FB XC Kb XD Kc XE Ke XF XG XH XI y).val)/\Made w w' XB XC XD XE XF XG XH XI y:=by
 obtain⟨b,c,rfl,hr⟩:=hv;obtain⟨u,x,rfl,VQ,S⟩:=hr (by simp);have e0:w.cell? ⟨u,x,none⟩=some (.int .i64 0):=S 0 (by simp);have e1:w.cell? ⟨u,x+1,none⟩=some (.int .i64 y):=S 1 (by simp);have HX:=br h;have E0:=br e0;have E1:=br e1;clear h hr S e0 e1;simp only[bA,bC,aq];have OW:Hid (∀W,CJ W k2 k3 g j H ca lb I d->Calls PL 84 #[.agg (ir k2 r k3 c3 g s j t H ca lb I d).val] W _):=br λW hW=>aaQ W hW;simp only[ir,CD.val]at OW ⊢;obtain⟨z,A⟩:∃z:World,z=(w.alloc (.cells #[.int .i64 60,.int .i64 4,.slice (some ⟨k2,0,none⟩) 2 r,.slice (some ⟨k3,0,none⟩) 4 c3,.slice (some ⟨g,0,none⟩) 3 s,.slice (some ⟨j,0,none⟩) 2 t] 27)).alloc (.cells RX 27):=⟨_,rfl⟩
 have Tc:Below w.heap.size w z:=by rw[A];exact((bs _ _).alloc (ao _) _).alloc (by simp) _
 have MW:z.heap[w.heap.size+1]?=some (.cells RX 27):=by
  have h1:=au (w.alloc (.cells #[.int .i64 60,.int .i64 4,.slice (some ⟨k2,0,none⟩) 2 r,.slice (some ⟨k3,0,none⟩) 4 c3,.slice (some ⟨g,0,none⟩) 3 s,.slice (some ⟨j,0,none⟩) 2 t] 27)) (.cells RX 27);rw[a9]at h1;rw[A];exact h1
 have XA:z.heap[w.heap.size]?=some (.cells #[.int .i64 60,.int .i64 4,.slice (some ⟨k2,0,none⟩) 2 r,.slice (some ⟨k3,0,none⟩) 4 c3,.slice (some ⟨g,0,none⟩) 3 s,.slice (some ⟨j,0,none⟩) 2 t] 27):=by
  rw[A];exact(((bs (w.alloc (.cells #[.int .i64 60,.int .i64 4,.slice (some ⟨k2,0,none⟩) 2 r,.slice (some ⟨k3,0,none⟩) 4 c3,.slice (some ⟨g,0,none⟩) 3 s,.slice (some ⟨j,0,none⟩) 2 t] 27)).heap.size _).alloc (ao _) _).block _ (by simp)).trans (au w _)
 have X0:=br XA;have B0:=br Tc;have R0:=br MW;have T:=br A;clear Tc MW A XA
 go_enter (fx (by decide) Tryz.func58),Tryz.ntmps58
 go_upto_region 1 with fail
 rw[<-T.out];obtain⟨f0,f1,f2,f3,f4,f5⟩:=bf X0.out;have U:=ab R0.out
 go_upto_region 2 with(go_at_call 84;refine(OW.out _ (HX.out.on B0.out)).mono ?_;rintro e w1⟨q2,B,q3,C,q4,D,q5,E,V,X,Y,Z,rfl,hM⟩;have M1:=br hM;have J:=hM.low;clear hM)
 obtain⟨K,L⟩:∃K:World,K=w1.alloc (.cells #[.int .i64 60,.int .i64 4,.slice (some ⟨q2,0,none⟩) 2 B,.slice (some ⟨q3,0,none⟩) 4 C,.slice (some ⟨q4,0,none⟩) 3 D,.slice (some ⟨q5,0,none⟩) 2 E] 27):=⟨_,rfl⟩
 have J1:Hid (KJ w w1.heap.size #[.int .i64 60,.int .i64 4,.slice (some ⟨q2,0,none⟩) 2 B,.slice (some ⟨q3,0,none⟩) 4 C,.slice (some ⟨q4,0,none⟩) 3 D,.slice (some ⟨q5,0,none⟩) 2 E] q2 q3 q4 q5 V X Y Z d K):=br (by
  have iC:Below w1.heap.size w1 K:=by rw[L];exact(bs _ _).alloc (ao _) _
  refine⟨(M1.out.on iC).zu B0.out,by rw[L];exact au _ _,(iC.block _ (ar U J.size)).trans ((J.block _ U).trans R0.out)⟩)
 have Z1:w.heap.size+1<w1.heap.size:=ar U J.size;rw[<-L];clear L f0 f1 f2 f3 f4 f5 J;obtain⟨M,N,O,P,Q,R⟩:=bf J1.out.box
 go_upto_region 3 with fail
 go_loopw [12] (λk wr=>∃(i:Nat)(e:Int),i<=2/\k=.int .i64 i/\(i<2->e=d)/\(i=2->e=y)/\KJ w w1.heap.size #[.int .i64 60,.int .i64 4,.slice (some ⟨q2,0,none⟩) 2 B,.slice (some ⟨q3,0,none⟩) 4 C,.slice (some ⟨q4,0,none⟩) 3 D,.slice (some ⟨q5,0,none⟩) 2 E] q2 q3 q4 q5 V X Y Z e wr) (λk _=>2-(intOf k).toNat)
 case atStart=>exact⟨0,d,by omega,rfl,λ_=>rfl,λh=>absurd h (by decide),J1.out⟩
 case round=>
  obtain⟨i,e,hi,rfl,he,hy,hJ⟩:=hrel;have a:=br hJ;clear hJ M N O P Q R
  match i,hi with
  |0,_=>
   obtain rfl:e=d:=he (by omega);have fl:=a.out.made.blk.row.2 2 _ rfl;have fz:=a.out.made.blk.tO;have ed:wr.cell? ⟨u,x,none⟩=some (.int .i64 0):=(a.out.made.low.cell (p:=⟨u,x,none⟩) VQ).trans E0.out;obtain⟨M,N,O,P,Q,R⟩:=bf a.out.box;have f:=a.out.made.blk.row.jD a.out.box 0 rfl rfl (λe=>by cases e);have F:=a.out.made.blk.row.jD a.out.res 0 rfl rfl (λe=>by cases e);have N5:=br f;have NR:=br F;clear f F
   go_wp2
   refine⟨⟨1,_,by omega,rfl,by intro h;first|rfl|omega,by intro h;first|rfl|omega,⟨a.out.made.set rfl,(aZ (bq N5.out)).trans a.out.box,(aZ (bq NR.out)).trans a.out.res⟩⟩,by simp[intOf]⟩
  |1,_=>
   obtain rfl:e=d:=he (by omega);have fl:=a.out.made.blk.row.2 5 _ rfl;have fz:=a.out.made.blk.tO;have ed:wr.cell? ⟨u,x+1,none⟩=some (.int .i64 y):=(a.out.made.low.cell (p:=⟨u,x+1,none⟩) VQ).trans E1.out;obtain⟨M,N,O,P,Q,R⟩:=bf a.out.box;have f:=a.out.made.blk.row.jD a.out.box 0 rfl rfl (λe=>by cases e);have F:=a.out.made.blk.row.jD a.out.res 0 rfl rfl (λe=>by cases e);have N5:=br f;have NR:=br F;clear f F
   go_wp2
   refine⟨⟨2,_,by omega,rfl,by intro h;first|rfl|omega,by intro h;first|rfl|omega,⟨a.out.made.set rfl,(aZ (bq N5.out)).trans a.out.box,(aZ (bq NR.out)).trans a.out.res⟩⟩,by simp[intOf]⟩
  |2,_=>
   obtain rfl:e=y:=hy rfl;obtain⟨M,N,O,P,Q,R⟩:=bf a.out.box;obtain⟨y0,y1,y2,y3,y4,y5⟩:=bf a.out.res;have fz:=tO a.out.res
   go_wp2
   have l:=a.out.made.rows.r2.jD a.out.res 0 rfl rfl (λe=>by cases e);have m:=a.out.made.rows.r3.jD a.out.res 1 rfl rfl (λe=>by cases e);have n:=a.out.made.rows.r4.jD a.out.res 0 rfl rfl (λe=>by cases e);have f:=a.out.made.rows.r5.jD a.out.res 0 rfl rfl (λe=>by cases e);have o:=a.out.made.rows.ra.jD a.out.res 0 rfl rfl (λe=>by cases e);have q:=a.out.made.rows.rb.jD a.out.res 0 rfl rfl (λe=>by cases e);refine aJ (v:=.agg #[.int .i64 60,.int .i64 4,.slice (some ⟨q2,0,none⟩) 2 B,.slice (some ⟨q3,0,none⟩) 4 C,.slice (some ⟨q4,0,none⟩) 3 D,.slice (some ⟨q5,0,none⟩) 2 E]) ?_ rfl ⟨q2,B,q3,C,q4,D,q5,⟨E,rfl⟩,V,X,Y,Z,(Made.other (Made.other (Made.other (Made.other (Made.other (Made.other a.out.made 0 _ (ap _) l m n f o q) 1 _ (ap _) l m n f o q) 2 _ (ap _) l m n f o q) 3 _ (ap _) l m n f o q) 4 _ (ap _) l m n f o q) 5 _ (ap _) l m n f o q)⟩;clear l m n f o q;have hzr:=ab a.out.res;simp[aP,Tryz.results58,go_sem,y0,y1,y2,y3,y4,y5,hzr]
def CJ.at{W:World}{k2 f k3 c3 a g b i c ca lb e:Nat}{d:Int}(h:CJ W k2 k3 a b c ca lb e d):(ir k2 f k3 c3 a g b i c ca lb e d).At W:=Rx h.r2 h.r3 h.r4 h.r5 h.ra h.rb
def yQ{k2 a k3 c3 b c e f g ca lb h:Nat}{d:Int}(hd:d=0\/d=1):(ir k2 a k3 c3 b c e f g ca lb h d).cx=0:=by
 rcases hd with rfl|rfl<;>kernel_rfl
def uK{n:Int}(h:bO n 0 12=true)(w:World):Calls PL 57 #[.int .i64 n] w λe w'=>e=.returned (.bool true)/\w=w':=by
 have:=o8 n w;rw[h]at this;exact this.mono λ_ _ k=>⟨k.1,k.2.symm⟩
def Iw{k2 q k3 c3 l r m s y ca lb z:Nat}{v:Value}(w:World)(h:CJ w k2 k3 l m y ca lb z 0)(hv:bB w v [0,1]):Calls PL 26 #[.agg (ir k2 q k3 c3 l r m s y ca lb z 0).val,v] w λe w'=>∃L FB M Kb N Kc O Ke P Q R S,e=.returned (.tuple #[.agg (ir L FB M Kb N Kc O Ke P Q R S 1).val,.int .i64 0])/\CJ w' L M N O P Q R S 1/\Below w.heap.size w w':=by
 have T:=br hv;obtain⟨b,c,rfl,U⟩:=hv;obtain⟨A,B,rfl,V,E⟩:=U (by simp);have X:w.cell? ⟨A,B,none⟩=some (.int .i64 0):=E 0 (by simp);have e1:w.cell? ⟨A,B+1,none⟩=some (.int .i64 1):=E 1 (by simp);have Y:=br h;have E0:=br X;have E1:=br e1;clear h U E X e1;simp only[bA,bC,aq]at T ⊢;have Z:Hid (∀W,CJ W k2 k3 l m y ca lb z 0->bB W (.slice (some ⟨A,B,none⟩) 2 c) [0,1]->Calls PL 58 #[.agg (ir k2 q k3 c3 l r m s y ca lb z 0).val,.slice (some ⟨A,B,none⟩) 2 c] W _):=br λW F hR=>yP W F hR;have CK:Hid (∀W,CJ W k2 k3 l m y ca lb z 0->Calls PL 56 #[.agg (ir k2 q k3 c3 l r m s y ca lb z 0).val] W (aO (.int .i64 0) W)):=br λW F=>sY (yQ (.inl rfl)) F.at;simp only[ir,CD.val]at Z CK ⊢;obtain⟨C,D⟩:∃C:World,C=(w.alloc (.cells #[.int .i64 60,.int .i64 4,.slice (some ⟨k2,0,none⟩) 2 q,.slice (some ⟨k3,0,none⟩) 4 c3,.slice (some ⟨l,0,none⟩) 3 r,.slice (some ⟨m,0,none⟩) 2 s] 27)).alloc (.cells RX 27):=⟨_,rfl⟩
 have Tc:Below w.heap.size w C:=by rw[D];exact((bs _ _).alloc (ao _) _).alloc (by simp) _
 have MW:C.heap[w.heap.size+1]?=some (.cells RX 27):=by
  have h1:=au (w.alloc (.cells #[.int .i64 60,.int .i64 4,.slice (some ⟨k2,0,none⟩) 2 q,.slice (some ⟨k3,0,none⟩) 4 c3,.slice (some ⟨l,0,none⟩) 3 r,.slice (some ⟨m,0,none⟩) 2 s] 27)) (.cells RX 27);rw[a9]at h1;rw[D];exact h1
 have XA:C.heap[w.heap.size]?=some (.cells #[.int .i64 60,.int .i64 4,.slice (some ⟨k2,0,none⟩) 2 q,.slice (some ⟨k3,0,none⟩) 4 c3,.slice (some ⟨l,0,none⟩) 3 r,.slice (some ⟨m,0,none⟩) 2 s] 27):=by
  rw[D];exact(((bs (w.alloc (.cells #[.int .i64 60,.int .i64 4,.slice (some ⟨k2,0,none⟩) 2 q,.slice (some ⟨k3,0,none⟩) 4 c3,.slice (some ⟨l,0,none⟩) 3 r,.slice (some ⟨m,0,none⟩) 2 s] 27)).heap.size _).alloc (ao _) _).block _ (by simp)).trans (au w _)
 have H:Hid (KO #[.int .i64 60,.int .i64 4,.slice (some ⟨k2,0,none⟩) 2 q,.slice (some ⟨k3,0,none⟩) 4 c3,.slice (some ⟨l,0,none⟩) 3 r,.slice (some ⟨m,0,none⟩) 2 s] w C):=br ⟨XA,MW,Tc⟩;have I:=br D;clear Tc MW D XA
 go_enter (fx (by decide) Tryz.func26),Tryz.ntmps26
 go_upto_region 1 with fail
 rw[<-I.out];obtain⟨f0,f1,f2,f3,f4,f5⟩:=bf H.out.box
 go_upto_region 7 with(go_at_call 56;refine(CK.out _ (Y.out.on H.out.low)).mono ?_;rintro e w1⟨rfl,aL⟩;have u:=br (H.out.on aL);clear aL f0 f1 f2 f3 f4 f5;obtain⟨f0,f1,f2,f3,f4,f5⟩:=bf u.out.box)
 have c0:=(u.out.low.cell (p:=⟨A,B,none⟩) V).trans E0.out;have c1:=(u.out.low.cell (p:=⟨A,B+1,none⟩) V).trans E1.out
 go_loop [24] (λx=>∃i:Nat,i<=2/\x=.int .i64 i) (λx=>2-(intOf x).toNat)
 case atStart=>exact⟨0,by omega,rfl⟩
 case round=>
  obtain⟨i,hi,rfl⟩:=hrel
  match i,hi with
  |0,_=>
   go_wp2_with (go_at_call 57;refine(uK (n:=0) rfl _).mono ?_;rintro e w'⟨rfl,rfl⟩)
   refine⟨⟨1,by omega,rfl⟩,by simp[intOf]⟩
  |1,_=>
   go_wp2_with (go_at_call 57;refine(uK (n:=1) rfl _).mono ?_;rintro e w'⟨rfl,rfl⟩)
   refine⟨⟨2,by omega,rfl⟩,by simp[intOf]⟩
  |2,_=>
   go_wp2_with (go_at_call 58;refine(Z.out _ (Y.out.on u.out.low) (T.out.on u.out.low)).mono ?_;rintro e w2⟨q2,p2,q3,p3,q4,p4,q5,p5,xa,ya,xb,yb,rfl,J⟩;have t:=br (J.zu u.out.low);have o:=br (u.out.on J.low);clear J;obtain⟨y0,y1,y2,y3,y4,y5⟩:=bf o.out.res;have fz:=tO o.out.res)
   have a:=t.out.rows.r2.jD o.out.res 0 rfl rfl (λe=>by cases e);have d:=t.out.rows.r3.jD o.out.res 1 rfl rfl (λe=>by cases e);have f:=t.out.rows.r4.jD o.out.res 0 rfl rfl (λe=>by cases e);have g:=t.out.rows.r5.jD o.out.res 0 rfl rfl (λe=>by cases e);have j:=t.out.rows.ra.jD o.out.res 0 rfl rfl (λe=>by cases e);have k:=t.out.rows.rb.jD o.out.res 0 rfl rfl (λe=>by cases e);refine aJ (v:=.tuple #[.agg #[.int .i64 60,.int .i64 4,.slice (some ⟨q2,0,none⟩) 2 p2,.slice (some ⟨q3,0,none⟩) 4 p3,.slice (some ⟨q4,0,none⟩) 3 p4,.slice (some ⟨q5,0,none⟩) 2 p5],.int .i64 0]) ?_ rfl ⟨q2,p2,q3,p3,q4,p4,q5,p5,xa,ya,xb,yb,rfl,(Made.other (Made.other (Made.other (Made.other (Made.other (Made.other t.out 0 _ (ap _) a d f g j k) 1 _ (ap _) a d f g j k) 2 _ (ap _) a d f g j k) 3 _ (ap _) a d f g j k) 4 _ (ap _) a d f g j k) 5 _ (ap _) a d f g j k).rows,(Made.other (Made.other (Made.other (Made.other (Made.other (Made.other t.out 0 _ (ap _) a d f g j k) 1 _ (ap _) a d f g j k) 2 _ (ap _) a d f g j k) 3 _ (ap _) a d f g j k) 4 _ (ap _) a d f g j k) 5 _ (ap _) a d f g j k).low⟩;clear a d f g j k;have K:=ab o.out.res;simp[aP,Tryz.results26,go_sem,y0,y1,y2,y3,y4,y5,K]
open Go.Shelf
attribute [local go_sem] Oper.semAt_some
structure aaR(B:Nat)(w w':World):Prop where
 os:w'.os=w.os
 tape:w'.tape=w.tape
 output:w'.output=w.output
 size:w.heap.size<=w'.heap.size
 block:∀k,k<w.heap.size->k≠B->w'.heap[k]?=w.heap[k]?
def uL(B:Nat)(a hi x y:Int)(w:World)(h:w.heap[B]?=some (.cells #[.int .i64 a,.int .i64 hi] 43))(b : -10000<=a/\a<=10000)(c : -10000<=hi/\hi<=10000)(d:0<=x/\x<=100)(f:0<=y/\y<=100) :
 Calls PL 65 #[.agg #[.int .i64 x,.int .i64 y],.pointer (some ⟨B,0,none⟩)] w λe w'=>e=.returned (.agg #[.int .i64 (a+x),.int .i64 (hi+y)])/\w'.heap[B]?=some (.cells #[.int .i64 (a+x),.int .i64 (hi+y)] 43)/\aaR B w w':=by
 obtain⟨n,t1,u0,u1⟩:=uJ h;have o:=ab h;have H:=br h;clear h;obtain⟨b,p⟩:=b;obtain⟨c,q⟩:=c;obtain⟨d,i⟩:=d;obtain⟨f,j⟩:=f
 go_enter (fx (by decide) Tryz.func65),Tryz.ntmps65
 go_wp2
 have g:=yL (u:=.int .i64 (a+x)) (v:=.int .i64 (hi+y)) H.out;refine aJ (v:=.agg #[.int .i64 (a+x),.int .i64 (hi+y)]) ?_ rfl ⟨rfl,?_,rfl,rfl,rfl,by simp;omega,λk l m=>?_⟩
 ·simp[aP,Tryz.results65,go_sem]
 ·have hl:=ab g;exact(((bs _ _).alloc (ao _) _).alloc (by simp) _ |>.block B hl).trans g
 ·have hl:k<((w.setCell ⟨B,0,none⟩ (.int .i64 (a+x))).setCell ⟨B,1,none⟩ (.int .i64 (hi+y))).heap.size:=by simpa using l
  exact(((bs _ _).alloc (ao _) _).alloc (by simp) _ |>.block k hl).trans (tv m)
def Ff(C:CD)(p:Nat):Nat:=if p+1=C.n4 then 0 else p+1
def nT(C:CD)(g:Nat):Nat->Nat×Int×Int
 |0=>((C.x5 g).2.1.toNat,(C.x5 g).2.2,(C.x5 g).2.2)
 |k+1=>(Ff C (nT C g k).1,(nT C g k).2.1+(C.x4 (nT C g k).1).n 7+(C.x4 (nT C g k).1).n 9,(nT C g k).2.2+(C.x4 (nT C g k).1).n 8+(C.x4 (nT C g k).1).n 10)
abbrev nR:=Nat×Int×Int×Int×Int
def Nu(C:CD)(g k:Nat):nR:=((nT C g k).1,(nT C g k).2.1,(nT C g k).2.2,(nT C g k).2.1+(C.x4 (nT C g k).1).n 7,(nT C g k).2.2+(C.x4 (nT C g k).1).n 8)
def mD(C:CD)(g n:Nat):List nR:=(bL n).map (Nu C g)
def uM(C:CD)(g n:Nat):mD C g (n+1)=mD C g n++[Nu C g n]:=by simp[mD,List.range_succ]
def R7(C:CD)(g n:Nat):(mD C g n).length=n:=by simp[mD]
def R8(C:CD)(g:Nat){k n:Nat}(h:k<n):mD C g k++[Nu C g k] <+: mD C g n:=by
 rw[<-uM];have e:bL n=bL (k+1)++(bL (n-(k+1))).map (k+1 + ·):=by
  rw[<-List.range_add];congr 1;omega
 unfold mD;rw[e,List.map_append];exact List.prefix_append _ _
structure yR(C:CD)(g:Nat):Prop where
 g5:g<C.n5
 p4:∀k,(nT C g k).1<C.n4
 m4:C.n4<=5
 lo:∀k,k<=C.n4->0<=(nT C g k).2.1/\(nT C g k).2.1<=12+120*k
 hi:∀k,k<=C.n4->0<=(nT C g k).2.2/\(nT C g k).2.2<=12+120*k
 nn:∀i,i<C.n4->(0<=(C.x4 i).n 7/\(C.x4 i).n 7<=60)/\(0<=(C.x4 i).n 8/\(C.x4 i).n 8<=60)/\(0<=(C.x4 i).n 9/\(C.x4 i).n 9<=60)/\(0<=(C.x4 i).n 10/\(C.x4 i).n 10<=60)
 start:(C.x5 g).2.1=((C.x5 g).2.1.toNat:Int)
def Sa(C:CD)(hc:C.cx=0){g:Nat}(hg:g<C.n5):yR C g:=by
 have d:kA C.p C.n2 C.n3 C.n4 C.x4=0:=ck hc 3 (by omega);have e:pE C.n4 C.n5 C.x5=0:=ck hc 4 (by omega);unfold kA at d
 split at d
 case isFalse=>cases d
 rename_i hb;simp only[bO,co,decide_eq_true_eq]at hb;have j:∀i,i<C.n4->(0<=(C.x4 i).n 7/\(C.x4 i).n 7<=60)/\(0<=(C.x4 i).n 8/\(C.x4 i).n 8<=60)/\(0<=(C.x4 i).n 9/\(C.x4 i).n 9<=60)/\(0<=(C.x4 i).n 10/\(C.x4 i).n 10<=60):=by
  intro i hi;have a:=ck d i hi;unfold gM at a
  split at a
  case isFalse h=>exact absurd a h
  split at a
  case isFalse=>cases a
  split at a
  ·cases a
  split at a
  case isFalse=>cases a
  split at a
  case isFalse=>cases a
  rename_i m;simp only[eK,co,decide_eq_true_eq]at m;omega
 obtain⟨hs,s,o⟩:(0<=(C.x5 g).2.1/\(C.x5 g).2.1<C.n4)/\0<=(C.x5 g).2.2/\(C.x5 g).2.2<=12:=by
  unfold pE at e
  split at e
  ·cases e
  have a:=ck e g hg;unfold iI at a
  split at a
  case isFalse h=>exact absurd a h
  split at a
  case isFalse=>cases a
  rename_i q
  split at a
  ·cases a
  split at a
  case isFalse=>cases a
  rename_i r;simp only[bO,co,decide_eq_true_eq]at q r;omega
 have c:∀k,(nT C g k).1<C.n4:=by
  intro k
  induction k with
  |zero=>simp only[nT];omega
  |succ k l=>
   simp only[nT,Ff]
   split<;>omega
 have b:∀k,k<=C.n4->(0<=(nT C g k).2.1/\(nT C g k).2.1<=12+120*k)/\(0<=(nT C g k).2.2/\(nT C g k).2.2<=12+120*k):=by
  intro k
  induction k with
  |zero=>intro _;simp only[nT];omega
  |succ k l=>
   intro f;have:=l (by omega);have:=j _ (c k);simp only[nT]
   push_cast
   omega
 exact⟨hg,c,by omega,λk f=>(b k f).1,λk f=>(b k f).2,j,by omega⟩
def Fg(n0:Nat)(W a:World):Prop:=(∀k:Nat,k<n0->a.heap[k]?=W.heap[k]?)/\(∀(k:Nat)(c:Array Value)(t:aF),W.heap[k]?=some (Obj.cells c t)->t≠45->t≠31->a.heap[k]?=some (Obj.cells c t))/\W.heap.size<=a.heap.size
def Li{n:Nat}{X Y Z:World}(h:Fg n X Y)(k:Fg n Y Z):Fg n X Z:=
 ⟨λb hb=>(k.1 b hb).trans (h.1 b hb),λb c t e a d=>k.2.1 b c t (h.2.1 b c t e a d) a d,ag h.2.2 k.2.2⟩
def Lj{n s:Nat}(d:n<=s)(W:World)(l:Nat)(o o':Obj)(hl:s<=l)(b:W.heap[l]?=some o)(hc:o.isCells=false)(_:o.isWalk=false):Fg n W (W.putObj l o'):=by
 have a:∀k,l≠k->(W.putObj l o').heap[k]?=W.heap[k]?:=λk h=>by
  simp only[bc];exact Array.getElem?_setIfInBounds_ne h
 refine⟨λk f=>a k (by omega),λk c t e _ _=>(a k λh=>?_).trans e,by simp[bc]⟩;rw[<-h,b]at e;cases e;cases hc
def CD.At.keep{C:CD}{w w':World}(h:C.At w)(f:∀k,k<w.heap.size->w'.heap[k]?=w.heap[k]?)(s:w.heap.size<=w'.heap.size):C.At w':=by
 have cell:∀b o,b<w.heap.size->w'.cell? ⟨b,o,none⟩=w.cell? ⟨b,o,none⟩:=λb o hb=>by simp[ba,f b hb]
 have e:∀o,w'.cell? ⟨C.k2,o,none⟩=w.cell? ⟨C.k2,o,none⟩:=λo=>cell _ _ h.h2;have a:∀o,w'.cell? ⟨C.k3,o,none⟩=w.cell? ⟨C.k3,o,none⟩:=λo=>cell _ _ h.h3;have c:∀o,w'.cell? ⟨C.k4,o,none⟩=w.cell? ⟨C.k4,o,none⟩:=λo=>cell _ _ h.h4;have d:∀o,w'.cell? ⟨C.k5,o,none⟩=w.cell? ⟨C.k5,o,none⟩:=λo=>cell _ _ h.h5;obtain⟨m2,m3,m4,m5,h2,h3,h4,h5,s2,s3,s4,s5,Ep,Er,Es,Et,Eu,cu,AD,dB,nj,l4,J5,nm5,FI,HU,J6⟩:=h
 exact⟨m2,m3,m4,m5,by omega,by omega,by omega,by omega,s2,s3,s4,s5,λi hi=>(e _).trans (Ep i hi),λi hi=>(e _).trans (Er i hi),λi hi=>(a _).trans (Es i hi),λi hi=>(a _).trans (Et i hi),λi hi=>(a _).trans (Eu i hi),cu,
  λi hi=>(c _).trans (AD i hi),λi hi j g h2=>(c _).trans (dB i hi j g h2),λi hi=>(c _).trans (nj i hi),λi hi hl=>⟨(l4 i hi hl).1,ar (l4 i hi hl).2 s⟩,
  λi hi j l=>(cell _ _ (l4 i hi (by omega)).2).trans (J5 i hi j l),nm5,λi hi=>(d _).trans (FI i hi),λi hi=>(d _).trans (HU i hi),λi hi=>(d _).trans (J6 i hi)⟩
def VS(x:nR):Array Value:=#[.agg #[.int .i64 x.1,.int .i64 x.2.1,.int .i64 x.2.2.1,.int .i64 x.2.2.2.1,.int .i64 x.2.2.2.2]]
end Go.Proofs
namespace Go.Proofs
open Go.RowKit
set_option maxRecDepth 100000
set_option maxHeartbeats 4000000
def zW(b:Option Addr)(m c n:Nat)(f:Value)(w:World)(a:n<=1):Calls PL 135 #[.slice b m c,.int .i64 0,.int .i64 n,f] w λe w'=>(∃v,e=.returned v)/\w=w':=by
 have d:(n:Int)<=1:=by omega
 go_enter (fx (by decide) Tryz.func135),Tryz.ntmps135
 go_wp2
 go_loop [8] (λv=>v=.int .i64 1) (λ_=>0)
 case atStart=>rfl
 case round=>
  subst hrel
  go_wp2
  go_end0
  exact⟨⟨_,rfl⟩,rfl⟩
open Go.Shelf
def AbT{b:Type}(B:Nat)(J:b->World->Prop):Prop:=
 ∀s W a row,J s W->W.grownBy a row->(∀r,row=some r->B<=r/\∃c t,W.heap[r]?=some (Obj.cells c t)/\t≠45/\t≠31)->J s a
def afQ{c:Type}(n:Nat)(gf:Nat)(lb:Array Value)(f:c->Array Value)(g:World->World->Prop)(xs:List c)(St:World->Prop):Prop:=
 ∀(l:Nat)(J:List c->World->Prop)(W:World),St W->AbT W.heap.size J->
  (∀a x d,J a d->a++[x] <+: xs->YieldAt Fence.wide (n-1) PL l (f x) d λe b=>e=.returned (.bool true)/\J (a++[x]) b/\g d b)->
  J [] W->CallsIn Fence.wide n PL gf (#[.func (.yield l) #[] #[]]++lb) W λe b=>(∃v,e=.returned v)/\J xs b
attribute [local go_sem] Oper.semAt_some
def aaR.grown{B:Nat}{w w':World}(h:aaR B w w'):w.grownBy w' (some B):=
 ⟨h.os,h.tape,h.output,h.size,λk a b=>h.block k a (λe=>b (by rw[e]))⟩
structure StV(C:CD)(g n0 Bc Bg:Nat)(wb W:World):Prop where
 low:∀k,k<n0->W.heap[k]?=wb.heap[k]?
 size:n0<=W.heap.size
 box:W.heap[Bc]?=some (.cells C.val 83)
 PM:W.heap[Bg]?=some (.cells #[.int .i64 g] 3)
def yT(n:Nat)(hn:2<=n)(v w n0 g:Nat)(C:CD)(s:yR C g)(P:World)(j:P.heap.size=n0)(hA:C.At P):afQ n 64 #[.pointer (some ⟨v,0,none⟩),.pointer (some ⟨w,0,none⟩)] VS (Fg n0) (mD C g C.n4) (StV C g n0 v w P):=by
 intro l J W L hJ hY h0;have HA:=br hA;have Q:=br s;have M:=br L;have HJ:=br hJ;have HY:=br hY;have hA0:=br (hA.keep (by rw[j];exact L.low) (by rw[j];exact L.size));have c1:=L.box;have c2:=L.PM;clear hA L hJ hY;refine callsIn_of_wp (fx (by decide) Tryz.func64) rfl trivial ?_ rfl;simp only[Tryz.ntmps64,bM,bA,bC,aq,aw,bm,bo,bR,bT,bX,b7];obtain⟨R,S,T,U,f4,N⟩:=bf c1;obtain⟨g0,g1⟩:=aaA c2;have x5:=hA0.out.s5 (by have:=s.g5;omega);have x50:=hA0.out.FI g s.g5;have x51:=hA0.out.HU g s.g5;have x52:=hA0.out.J6 g s.g5;have hg5:=s.g5;rw[x5]at N;have Ts:=ab c1;have hBg:=ab c2;have hh5:=hA0.out.h5;have y:=s.start;have HST:=br y;clear c1 c2 s y
 gi_wp2
 obtain⟨O,V⟩:∃O:World,O=(W.alloc (.cells #[.string (C.x5 g).1,.int .i64 (C.x5 g).2.1,.int .i64 (C.x5 g).2.2] 99)).alloc (.cells #[.int .i64 (C.x5 g).2.2,.int .i64 (C.x5 g).2.2] 43):=⟨_,rfl⟩
 have b:Below W.heap.size W O:=by rw[V];exact((bs _ _).alloc (ao _) _).alloc (by simp) _
 have X:O.heap[W.heap.size+1]?=some (.cells #[.int .i64 (C.x5 g).2.2,.int .i64 (C.x5 g).2.2] 43):=by
  have Y:=au (W.alloc (.cells #[.string (C.x5 g).1,.int .i64 (C.x5 g).2.1,.int .i64 (C.x5 g).2.2] 99)) (.cells #[.int .i64 (C.x5 g).2.2,.int .i64 (C.x5 g).2.2] 43);rw[a9]at Y;rw[V];exact Y
 have Z:J [] O:=HJ.out [] W O none h0 (by rw[V];exact(bd W _ none).trans (bd _ _ none)) (λr e=>by cases e);have HN:=br X;have HJ0:=br Z;have HBW:=br b;rw[<-V];clear V X Z h0
 gi_loopw [7,28] (λv7 z wr=>∃k:Nat,k<=C.n4/\z=.int .i64 k/\v7=.int .i64 (nT C g k).1/\J (mD C g k) wr/\StV C g n0 v w P wr/\wr.heap[W.heap.size+1]?=some (.cells #[.int .i64 (nT C g k).2.1,.int .i64 (nT C g k).2.2] 43)) (λ_ z _=>C.n4-(intOf z).toNat)
 case atStart=>
  refine⟨0,aB _,rfl,by rw[nT,<-HST.out],HJ0.out,⟨λk f=>(b.block k (ar f M.out.size)).trans (M.out.low k f),ag M.out.size b.size,(b.block _ Ts).trans M.out.box,(b.block _ hBg).trans M.out.PM⟩,HN.out⟩
 case round=>
  obtain⟨k,f,rfl,rfl,hJk,hS,hN⟩:=hrel;have HJk:=br hJk;have t:=br hS;have c:=br hN;clear hJk hS hN R S T U f4 N g0 g1 x5 x50 x51 x52 b;by_cases aH:k<C.n4
  ·have i2:(k:Int)<C.n4:=by omega
   have Xi:=Q.out.p4 k;have Cu:=Q.out.lo k (by omega);have hhi:=Q.out.hi k (by omega);have hm4:=Q.out.m4;obtain⟨p,hp⟩:∃p,p=(nT C g k).1:=⟨_,rfl⟩
   obtain⟨a,Sc⟩:∃x,x=(nT C g k).2.1:=⟨_,rfl⟩
   obtain⟨hi,Se⟩:∃x,x=(nT C g k).2.2:=⟨_,rfl⟩
   have alK:Hid (Nu C g k=(p,a,hi,a+(C.x4 p).n 7,hi+(C.x4 p).n 8)):=br (by rw[Nu,<-hp,<-Sc,<-Se]);have y:Hid (nT C g (k+1)=(Ff C p,a+(C.x4 p).n 7+(C.x4 p).n 9,hi+(C.x4 p).n 8+(C.x4 p).n 10)):=br (by rw[nT,<-hp,<-Sc,<-Se]);rw[<-hp]at Xi ⊢;rw[<-Sc]at Cu;rw[<-Se]at hhi;rw[<-Sc,<-Se]at c;clear hp Sc Se;obtain⟨⟨n7,n7'⟩,⟨n8,n8'⟩,⟨n9,n9'⟩,⟨n10,atn⟩⟩:=Q.out.nn p Xi;have hAk:=br (HA.out.keep (by rw[j];exact t.out.low) (by rw[j];exact t.out.size));obtain⟨s4,y0,y1,y2,y3,y4,y5,y6,y7,y8,y9,y10,y11,ER⟩:=yK hAk.out Xi;obtain⟨R,S,T,U,f4,N⟩:=bf t.out.box;rw[s4]at f4;obtain⟨t0,t1,u0,u1⟩:=uJ c.out;have alL:=ab t.out.box;have hNl:=ab c.out;have att:(p:Int)<C.n4:=by omega
   have sv:Hid (((wr.alloc (.cells (C.x4 p).val 92)).alloc (.cells #[.int .i64 p,.int .i64 a,.int .i64 hi,.int .i64 0,.int .i64 0] 45)).heap[W.heap.size+1]?=some (.cells #[.int .i64 a,.int .i64 hi] 43)):=br ((((bs wr.heap.size wr).alloc (ao _) _).alloc (by simp) _ |>.block _ hNl).trans c.out)
   have sv2:Hid (((wr.alloc (.cells (C.x4 p).val 92)).alloc (.cells #[.int .i64 p,.int .i64 a,.int .i64 hi,.int .i64 0,.int .i64 0] 45)).heap[wr.heap.size+1]?=some (.cells #[.int .i64 p,.int .i64 a,.int .i64 hi,.int .i64 0,.int .i64 0] 45)):=br (by
    have Y:=au (wr.alloc (.cells (C.x4 p).val 92)) (.cells #[.int .i64 p,.int .i64 a,.int .i64 hi,.int .i64 0,.int .i64 0] 45)
    rw[a9]at Y;exact Y)
   have sp:Hid (((wr.alloc (.cells (C.x4 p).val 92)).alloc (.cells #[.int .i64 p,.int .i64 a,.int .i64 hi,.int .i64 0,.int .i64 0] 45)).heap[wr.heap.size]?=some (.cells (C.x4 p).val 92)):=br ((((bs (wr.alloc (.cells (C.x4 p).val 92)).heap.size _).alloc (ao _) _).block _ (by simp)).trans (au wr _));have so:Hid (∀k,k<wr.heap.size->((wr.alloc (.cells (C.x4 p).val 92)).alloc (.cells #[.int .i64 p,.int .i64 a,.int .i64 hi,.int .i64 0,.int .i64 0] 45)).heap[k]?=wr.heap[k]?):=br λk f=>(((bs wr.heap.size wr).alloc (ao _) _).alloc (by simp) _).block k f;clear s4
   gi_wp2_with (refine⟨trivial,λ_=>(by omega),?_⟩;refine(callsIn_wide.2 (uL (W.heap.size+1) a hi _ _ _ sv.out (by omega) (by omega) (by omega) (by omega))).mono ?_;rintro e w2⟨rfl,Vb,iC⟩;have yp:wr.heap.size+2<=w2.heap.size:=(by have:=iC.size;simp at this;omega);have u:=(iC.block (wr.heap.size+1) (by simp) (by omega)).trans sv2.out;have tL:=(iC.block wr.heap.size (by simp;omega) (by omega)).trans sp.out;have fz:=tO u;have v0:w2.cell? ⟨wr.heap.size+1,0,none⟩=some (.int .i64 p):=(by simp[ba,u]);have v1:w2.cell? ⟨wr.heap.size+1,1,none⟩=some (.int .i64 a):=(by simp[ba,u]);have v2:w2.cell? ⟨wr.heap.size+1,2,none⟩=some (.int .i64 hi):=(by simp[ba,u]);have v3:w2.cell? ⟨wr.heap.size+1,3,none⟩=some (.int .i64 0):=(by simp[ba,u]);have v4:w2.cell? ⟨wr.heap.size+1,4,none⟩=some (.int .i64 0):=(by simp[ba,u]);have HN2:=br Vb;have Kf:=br iC;have HV2:=br u;have HP2:=br tL;clear Vb iC u tL;obtain⟨Wy,m⟩:∃W:World,W=(w2.setCell ⟨wr.heap.size+1,3,none⟩ (.int .i64 (a+(C.x4 p).n 7))).setCell ⟨wr.heap.size+1,4,none⟩ (.int .i64 (hi+(C.x4 p).n 8)):=⟨_,rfl⟩;have A:wr.grownBy Wy (some (W.heap.size+1)):=(by rw[m];exact⟨Kf.out.os,Kf.out.tape,Kf.out.output,by simp only[a8];omega,λk f bu=>by rw[aZ (by omega),aZ (by omega),Kf.out.block k (by simp;omega) (λe=>bu (by rw[e]))];exact so.out k f⟩);obtain⟨fn,tmps,assign,body,hy,hR⟩:=HY.out (mD C g k) (Nu C g k) Wy (HJ.out _ wr Wy _ HJk.out A (λr e=>by cases e;exact⟨by omega,_,_,c.out,by decide,by decide⟩)) (R8 C g aH);rw[alK.out,m]at hy;dsimp only[VS]at hy;have B:=br A;have d:=br m;clear A m)
   refine⟨λ_=>(by omega),?_⟩;refine RoundIn.mono (by have h:=hR;rw[d.out]at h;exact h) ?_;rintro e i⟨rfl,hJ',D⟩;rw[<-d.out]at D;have hWs:=M.out.size;have E:i.heap[W.heap.size+1]?=some (.cells #[.int .i64 (a+(C.x4 p).n 7),.int .i64 (hi+(C.x4 p).n 8)] 43):=D.2.1 _ _ _ (by rw[d.out,aZ (by omega),aZ (by omega)];exact HN2.out) (by decide) (by decide);have VT:i.heap[wr.heap.size]?=some (.cells (C.x4 p).val 92):=D.2.1 _ _ _ (by rw[d.out,aZ (by omega),aZ (by omega)];exact HP2.out) (by decide) (by decide);have sW:i.heap[v]?=some (.cells C.val 83):=D.2.1 _ _ _ ((B.out.block v alL (λe=>by injection e with e;omega)).trans t.out.box) (by decide) (by decide);have afU:i.heap[w]?=some (.cells #[.int .i64 g] 3):=D.2.1 _ _ _ ((B.out.block w (by have:=t.out.PM;exact ab this) (λe=>by injection e with e;omega)).trans t.out.PM) (by decide) (by decide);have qv:Hid (∀k,k<n0->i.heap[k]?=P.heap[k]?):=br λk f=>(D.1 k f).trans ((B.out.block k (by omega) (λe=>by injection e with e;omega)).trans (t.out.low k f));have atv:W.heap.size+2<=i.heap.size:=by have:=ab E;omega
   have z9:i.cell? ⟨wr.heap.size,9,none⟩=some (.int .i64 ((C.x4 p).n 9)):=by simp[ba,VT]
   have UZ:i.cell? ⟨wr.heap.size,10,none⟩=some (.int .i64 ((C.x4 p).n 10)):=by simp[ba,VT]
   have fz9:=tO VT;have VU:=br E;have Ce:=br sW;have HGR:=br afU;have HJ':=br hJ';clear E VT sW afU hJ' D hR hy HY R S T U f4 N t0 t1 u0 u1 y0 y1 y2 y3 y4 y5 y6 y7 y8 y9 y10 y11 v0 v1 v2 v3 v4 fz sv sv2 sp so Kf HN2 HV2 HP2 d yp;by_cases hw:p+1=C.n4
   ·have i5:((p:Int)+1=C.n4):=by omega
    have HW:=br hw;clear hw
    gi_wp2_with (refine⟨trivial,λ_=>(by omega),?_⟩;refine(callsIn_wide.2 (uL (W.heap.size+1) (a+(C.x4 p).n 7) (hi+(C.x4 p).n 8) _ _ _ VU.out (by omega) (by omega) (by omega) (by omega))).mono ?_;rintro e w3⟨rfl,Hr,F⟩;have H:=(F.block v (by omega) (by omega)).trans Ce.out;obtain⟨R,S,T,U,f4,N⟩:=bf H;have I:=br H;have K:=br Hr;have o:=br F;clear H Hr F)
    refine⟨⟨k+1,aH,by go_num,by rw[y.out];simp only[Ff];rw[if_pos HW.out];rfl,?_,⟨λq hq=>(o.out.block q (by omega) (by omega)).trans (qv.out q hq),by have:=o.out.size;omega,I.out,(o.out.block w (by omega) (by omega)).trans HGR.out⟩,by rw[y.out];exact K.out⟩,by simp only[intOf];omega⟩;rw[uM];exact HJ.out _ i w3 _ HJ'.out o.out.grown (λr e=>by cases e;exact⟨by omega,_,_,VU.out,by decide,by decide⟩)
   ·have i5:¬((p:Int)+1=C.n4):=by omega
    have HW:=br hw;clear hw
    gi_wp2_with (refine⟨trivial,λ_=>(by omega),?_⟩;refine(callsIn_wide.2 (uL (W.heap.size+1) (a+(C.x4 p).n 7) (hi+(C.x4 p).n 8) _ _ _ VU.out (by omega) (by omega) (by omega) (by omega))).mono ?_;rintro e w3⟨rfl,Hr,F⟩;have H:=(F.block v (by omega) (by omega)).trans Ce.out;obtain⟨R,S,T,U,f4,N⟩:=bf H;have I:=br H;have K:=br Hr;have o:=br F;clear H Hr F)
    refine⟨⟨k+1,aH,by go_num,by rw[y.out];simp only[Ff];rw[if_neg HW.out];go_num,?_,⟨λq hq=>(o.out.block q (by omega) (by omega)).trans (qv.out q hq),by have:=o.out.size;omega,I.out,(o.out.block w (by omega) (by omega)).trans HGR.out⟩,by rw[y.out];exact K.out⟩,by simp only[intOf];omega⟩;rw[uM];exact HJ.out _ i w3 _ HJ'.out o.out.grown (λr e=>by cases e;exact⟨by omega,_,_,VU.out,by decide,by decide⟩)
  ·have By:k=C.n4:=by omega
   have i2:¬((k:Int)<C.n4):=by omega
   clear aH
   gi_wp2
   go_end0
   exact⟨⟨_,rfl⟩,by have h:=HJk.out;first|(rw[By]at h;exact h)|exact h⟩
def yU{q:Type}{g:Operand}{ps:Array Tmp}{assign body:Code}{Q:Exit->Act->World->Prop}{a:Act}{w:World}{n:Nat}(h1:1<=n){gf:Nat}{lb:Array Value}(hg:a.eval g=.func (.func gf) #[] lb)(eg:∀args w,(callFunc gf args).run PL w=.ok (.enter gf args) w)
 {N:q->Array Value} {u:World->World->Prop} {xs:List q} {St:World->Prop} (R:afQ (n-1) gf lb N u xs St) (XJ:∀W,Below w.heap.size w W->St W)
 (y:∀{A B C:World},u A B->u B C->u A C) (F:∀(W:World)(l:Nat)(o o':Obj),w.heap.size<=l->W.heap[l]?=some o->o.isCells=false->o.isWalk=false->u W (W.putObj l o')) (S:∀x,(N x).size=ps.size)
 (I:List q->World->Prop) (H:OwnFrom w.heap.size I) (T:AbT w.heap.size I) (h0:I [] w) (A:q->Act->World->Prop) (hA:∀x a W l o o',W.heap[l]?=some o->o.isCells=false->A x a W->A x a (W.putObj l o'))
 (U:∀{A B:World},w.heap.size<=A.heap.size->A.grownBy B none->u A B)
 (VV:∀(l:Nat)(x:q)(W:World)(K:Act->World->Prop),(∀a' z,W.grownBy z none->A x a' z->K a' z)->
   assign.wpIn (Fence.wide.inRound l) (n-1-1) PL (Exit.then K (λ_ _ _=>False)) { tmps:=(ps.zip (N x)).foldl (λt(p,v)=>t.setIfInBounds p v) a.tmps,defers:=[] } W)
 (V:∀(l:Nat)(b:List q)(x:q)(a':Act)(W:World),I b W->A x a' W->b++[x] <+: xs->body.wpIn (Fence.wide.inRound l) (n-1-1) PL (λe _ z=>match e with | .normal=>KeepsOthers W z/\u W z/\I (b++[x]) z|_=>False) a' W)
 (X:∀(D:Nat)(W:World),w.heap.size<=D->I xs W->W.heap[D]?=some (.deferred (some []))->Q .normal { a with defers:={ target:=.collected D,args:=#[] }::a.defers } W) :
 (Code.rangeFunc g ps assign body).wpIn Fence.wide n PL Q a w:=by
 refine wpIn_rangeFunc λfn tK=>?_;have LJ:Fence.wide.round=none:=rfl;rw[LJ];let m:LoopState->Loop:=λst=>{ state:=st,pending:=none,fn,tmps:=a.tmps,params:=ps,assign,body,defers:=w.heap.size }
 obtain⟨d,J⟩:∃d,d=(w.alloc (.deferred (some []))).alloc (.loop (m .ready)):=⟨_,rfl⟩
 have Y:d.heap[w.heap.size+1]?=some (.loop (m .ready)):=by
  have:=au (w.alloc (.deferred (some []))) (.loop (m .ready));rw[a9]at this;rw[J];exact this
 have hb:Below w.heap.size w d:=by rw[J];exact((bs _ _).alloc (ao _) _).alloc (by simp) _
 have Z:d.heap[w.heap.size]?=some (.deferred (some [])):=by
  rw[J];exact(((bs (w.alloc (.deferred (some []))).heap.size _).alloc (ao _) _).block _ (by simp)).trans (au w _)
 refine⟨w.heap.size+1,[{ target:=.collected w.heap.size,args:=#[] }],d,{ target:=.fn (.func gf) lb,args:=#[.func (.yield (w.heap.size+1)) #[] #[]] },d,gf,#[.func (.yield (w.heap.size+1)) #[] #[]]++lb,d,?_,?_,λf' hf'=>trivial,by simp[invoke,go_sem,eg],λ_=>h1,?_⟩
 ·rw[J];exact run_enterLoop_outer _ _ _ _ _
 ·simp only[resolve,hg];simp[go_sem]
 ·have book:∀{A B:World}{row:Option Nat}{k:Nat}{o:Obj},A.grownBy B row->(∀r,row=some r->d.heap.size<=r/\∃c t,A.heap[r]?=some (Obj.cells c t)/\t≠45/\t≠31)->A.heap[k]?=some o->o.isCells=false->B.heap[k]?=some o:=λ{A B row k o}L E f hc=>by
   refine(L.block k (ab f) λe=>?_).trans f;obtain⟨_,c,t,h,_⟩:=E k e.symm;rw[f]at h;cases h;cases hc
  refine(R (w.heap.size+1) (λb W=>I b W/\W.heap[w.heap.size+1]?=some (.loop (m .ready))/\W.heap[w.heap.size]?=some (.deferred (some []))) d (XJ _ hb) ?_ ?_ ⟨?_,Y,Z⟩).mono ?_
  ·rintro s A B row⟨hi,hl,f⟩L E;exact⟨T s A B row hi L λr e=>⟨ag hb.size (E r e).1,(E r e).2⟩,book L E hl rfl,book L E f rfl⟩
  ·rintro b x W⟨hi,hl,f⟩Nw;refine⟨fn,_,assign,body,run_yield (P:=PL) (args:=N x) hl (S x),roundIn_of_wpIn tK (VV _ x W _ λaa O i hA1=>?_)⟩;have acY:=ab hl;replace hl:=book i (λr e=>by cases e) hl rfl;replace f:=book i (λr e=>by cases e) f rfl;replace hi:=H b W O none hi i (λr e=>by cases e);have aH:=ab hl;refine⟨_,run_beginRound hl rfl,?_⟩;have hl2:(O.putObj (w.heap.size+1) (.loop (m .busy))).heap[w.heap.size+1]?=some (.loop (m .busy)):=bg aH;have ND:(O.putObj (w.heap.size+1) (.loop (m .busy))).heap[w.heap.size]?=some (.deferred (some [])):=(bi (by omega)).trans f;refine wpIn_mono (V _ b x aa _ (H.putObj _ hi (by omega) hl rfl) (hA _ _ _ _ _ _ hl rfl hA1) Nw) ?_;rintro e a3 W3 hp
   cases e with
   |normal=>
    obtain⟨M,alT,hi3⟩:=hp;have j:=M.same _ _ hl2 rfl;refine⟨_,_,run_endRound (P:=PL) none j,rfl,⟨H.putObj _ hi3 (by omega) j rfl,bg (ab j),(bi (by omega)).trans (M.same _ _ ND rfl)⟩,?_⟩;exact y (y (y (U (by omega) i) (F O (w.heap.size+1) _ _ (by omega) hl rfl rfl)) alT) (F _ _ _ _ (by omega) j rfl rfl)
   |_=>exact hp.elim
  ·exact H [] w d none h0 (by rw[J];exact(bd w _ none).trans (bd _ _ none)) (λr e=>by cases e)
  ·rintro e W2⟨⟨v,rfl⟩,hi,hl,f⟩;exact⟨none,_,run_endLoop (P:=PL) hl (by simp[m]),X _ _ (ao _) (H.putObj _ hi (by omega) hl rfl) ((bi (by omega)).trans f)⟩
def Fi(C:CD)(g:Int)(m5:C.n5<=3)(w:World):Calls PL 35 #[.agg C.val,.int .i64 g] w λe w'=>e=.returned (.bool (bO g 0 (C.n5-1)))/\Below w.heap.size w w':=by
 obtain⟨b,c,d,f,f4,h⟩:=bf (au w (.cells C.val 27));have a:=br (((bs w.heap.size w).alloc (ao _) (.cells C.val 27)))
 go_enter (fx (by decide) Tryz.func35),Tryz.ntmps35
 go_wp2_with (go_at_call 52;refine(ij _ _ _ _).mono ?_;rintro e w'⟨rfl,rfl⟩)
 go_ret
 exact⟨rfl,a.out⟩
def AX(C:CD)(g:Nat)(w:World):Calls PL 37 #[.agg C.val,.int .i64 g] w λe w'=>e=.returned (.func (.func 64) #[] #[.pointer (some ⟨w.heap.size,0,none⟩),.pointer (some ⟨w.heap.size+1,0,none⟩)])/\w'=(w.alloc (.cells C.val 83)).alloc (.cells #[.int .i64 g] 3):=by
 go_enter (fx (by decide) Tryz.func37),Tryz.ntmps37
 go_wp2
 go_ret
 exact⟨rfl,rfl⟩
def vV(x:nR):List Value:=[.int .i64 x.1,.int .i64 x.2.1,.int .i64 x.2.2.1,.int .i64 x.2.2.2.1,.int .i64 x.2.2.2.2]
def AY(W:World)(base:Nat)(v:Value)(l:List nR):Prop:=W.ownsRow base 45 5 v l.length (l.flatMap vV)
def Sf(w:World)(a:List nR)(W:World):Prop:=∃v,W.heap[w.heap.size]?=some (.cells #[v] 31)/\AY W (w.heap.size+1) v a/\Below w.heap.size w W
def Fj{w W j:World}{row:Option Nat}{a:List nR}(h:Sf w a W)(hg:W.grownBy j row)(b:∀r,row=some r->w.heap.size+1<=r/\∀c,W.heap[r]?≠some (.cells c 45)):Sf w a j:=by
 obtain⟨v,hb,⟨hl,d⟩,l⟩:=h;refine⟨v,(hg.block _ (ab hb) λe=>by have:=(b _ e.symm).1;omega).trans hb,⟨hl,?_⟩,l.grown hg l.size λk e=>by have:=(b _ e).1;omega⟩
 rcases d with d|⟨g,cap,f,e1,m,i,n⟩
 ·exact .inl d
 ·exact .inr ⟨g,cap,f,e1,m,(hg.block _ (ab i) λe=>(b _ e.symm).2 _ i).trans i,n⟩
def Fl(w:World):OwnFrom (w.heap.size+1) (Sf w):=λs W d row hs hg a=>Fj hs hg λr e=>⟨(a r e).1,λc h=>by
 obtain⟨_,o,b,hc⟩:=a r e
 rw[b]at h;cases h;cases hc⟩
def Sg(w:World):AbT (w.heap.size+1) (Sf w):=λs W d row hs hg a=>Fj hs hg λr e=>⟨(a r e).1,λc h=>by
 obtain⟨_,f,t,b,hc,_⟩:=a r e
 rw[b]at h;cases h;exact hc rfl⟩
def qO{w:World}{k:Nat}{x0 x1 x2 x3 x4:Value}{t:aF}(h:w.heap[k]?=some (.cells #[x0,x1,x2,x3,x4] t)) :
 w.cell? ⟨k,0,none⟩=some x0/\w.cell? ⟨k,1,none⟩=some x1/\w.cell? ⟨k,2,none⟩=some x2/\w.cell? ⟨k,3,none⟩=some x3/\w.cell? ⟨k,4,none⟩=some x4:=by
 simp[ba,h]
def afX:PL.underlying 31=some (.slice 45):=by kernel_rfl
def aaV:(PL.info? 45).map (λi=>(i.zero,i.size,i.bytes))=some (some (.agg #[.int .i64 0,.int .i64 0,.int .i64 0,.int .i64 0,.int .i64 0]),5,40):=by kernel_rfl
def Ny{W:World}{base e size n:Nat}{v:Value}{xs:List Value}(h:W.ownsRow base e size v n xs):∃b m c,v=.slice b m c:=by
 rcases h.2 with⟨rfl,_⟩|⟨g,cap,a,rfl,_⟩<;>exact⟨_,_,_,rfl⟩
def qm{W:World}{base e size n:Nat}{v:Value}{xs:List Value}(h:W.ownsRow base e size v n xs):∀j,v.ownBlock=some j->∃cur,W.heap[j]?=some (.cells cur e):=by
 rcases h.2 with⟨rfl,_⟩|⟨g,cap,cur,rfl,_,hg,_⟩
 ·intro j e;cases e
 ·intro j e;cases e;exact⟨_,hg⟩
def yV{w:World}{B:Nat}{x u:Value}{t:aF}(h:w.heap[B]?=some (.cells #[x] t)):(w.setCell ⟨B,0,none⟩ u).heap[B]?=some (.cells #[u] t):=by
 simp only[a7,bj,if_pos,h,bp];rfl
def VW{W:World}{b:Nat}{x:nR}(h:W.heap[b]?=some (.cells #[.int .i64 x.1,.int .i64 x.2.1,.int .i64 x.2.2.1,.int .i64 x.2.2.2.1,.int .i64 x.2.2.2.2] 45)):∀(j:Nat)(u:Value),(vV x)[j]?=some u->W.cell? ((⟨b,0,none⟩:Addr).add j)=some u:=by
 intro j u e
 match j,e with
 |0,e=>cases e;simp[ba,Addr.add,h]
 |1,e=>cases e;simp[ba,Addr.add,h]
 |2,e=>cases e;simp[ba,Addr.add,h]
 |3,e=>cases e;simp[ba,Addr.add,h]
 |4,e=>cases e;simp[ba,Addr.add,h]
 |j+5,e=>simp[vV]at e
def Nz{r u:Nat}(C:CD)(g:Nat)(O:yR C g)(w:World)(hA:C.At w)(c1:w.heap[r]?=some (.cells C.val 83))(P:w.heap[u]?=some (.cells #[.int .i64 g] 3)) :
 Calls PL 63 #[.slice none 0 0,.func (.func 64) #[] #[.pointer (some ⟨r,0,none⟩),.pointer (some ⟨u,0,none⟩)]] w λe w'=>∃v,e=.returned v/\AY w' (w.heap.size+1) v (mD C g C.n4)/\Below w.heap.size w w':=by
 have HA:=br hA;have Q:=br O;have R:=br c1;have S:=br P;clear hA O c1 P;refine(aS (n:=9)).1 (aT (fx (by decide) Tryz.func63) rfl trivial ?_ rfl);simp only[Tryz.ntmps63,bM,bA,bC,aq,aw,bm,bo,bR,bT,bX,b7];refine wpIn_wide.2 ?_
 go_wp2
 obtain⟨i0,hi,mF,dx,wD⟩:=info_parts aaV;refine(wpIn_wide (n:=9)).1 ?_;refine yU (by omega) (gf:=64) (lb:=#[.pointer (some ⟨r,0,none⟩),.pointer (some ⟨u,0,none⟩)]) rfl (enters_of (fx (by decide) Tryz.func64) (by kernel_rfl) rfl)
  (yT 8 (by omega) r u w.heap.size g C Q.out w rfl HA.out)
  (λW T=>?_) Li (λW l o U hl ho hc hw=>Lj (n:=w.heap.size) (s:=w.heap.size+1) (by omega) W l o U (by simpa using hl) ho hc hw) (λ_=>rfl)
  (Sf w) (by rw[a9];exact Fl w) (by rw[a9];exact Sg w) ⟨_,au _ _,⟨rfl,.inl ⟨rfl,rfl⟩⟩,(bs _ _).alloc (ao _) _⟩
  (λx a W=>∃k,W.heap[k]?=some (.cells #[.int .i64 x.1,.int .i64 x.2.1,.int .i64 x.2.2.1,.int .i64 x.2.2.2.1,.int .i64 x.2.2.2.2] 45)/\a={ tmps:=#[.slice none 0 0,.func (.func 64) #[] #[.pointer (some ⟨r,0,none⟩),.pointer (some ⟨u,0,none⟩)],.pointer (some ⟨w.heap.size,0,none⟩),undef,.slice none 0 0,.pointer (some ⟨k,0,none⟩),.func (.func 64) #[] #[.pointer (some ⟨r,0,none⟩),.pointer (some ⟨u,0,none⟩)],.agg #[.int .i64 x.1,.int .i64 x.2.1,.int .i64 x.2.2.1,.int .i64 x.2.2.2.1,.int .i64 x.2.2.2.2],undef,undef,undef,undef,undef],defers:=[] })
  ?A ?kg ?assign ?body ?done
 ·have hb:=((bs w.heap.size w).alloc (ao _) (.cells #[.slice none 0 0] 31))
  have e:∀k,k<w.heap.size->W.heap[k]?=w.heap[k]?:=λk d=>(T.block k (by simp;omega)).trans (hb.block k d);exact⟨e,by have:=T.size;simp at this;omega,(e _ (ab R.out)).trans R.out,(e _ (ab S.out)).trans S.out⟩
 case A=>
  rintro x a W l o U hl hc⟨k,d,ha⟩;refine⟨k,(bi (λe=>?_)).trans d,ha⟩;subst e;rw[hl]at d;cases d;cases hc
 case kg=>
  intro A B hs hg;rw[a9]at hs;exact⟨λk d=>hg.block k (by omega) (by simp),λk c t h _ _=>(hg.block k (ab h) (by simp)).trans h,hg.size⟩
 case assign=>
  intro l x W K F;dsimp only[VS]
  gi_wp2
  refine F _ _ (bd W _ none) ⟨W.heap.size,au _ _,rfl⟩
 case body=>
  rintro l p x a W⟨v,i,V,X⟩⟨k,d,rfl⟩Nw;have hlen:p.length<5:=by have:=Nw.length_le;have:=Q.out.m4;rw[R7]at *;simp at *;omega
  have aH:=ab i;have Ll:=ab d;have b0:W.cell? ⟨w.heap.size,0,none⟩=some v:=by simp[ba,i]
  obtain⟨k0,k1,k2,k3,k4⟩:=qO d;have fb:=tO i;have H:=br V;have Y:=br X;have Z:=br i;clear i d V X
  gi_wp2_with (gi_at_builtin;refine wpListIn_append_own _ rfl _ _ _ rfl (w.heap.size+1) 45 i0 _ 5 40 afX hi mF dx wD rfl (by decide) v p.length (p.flatMap vV) rfl (World.ownsRow.alloc H.out _) ⟨W.heap.size,0,none⟩ 1 1 (vV x) rfl rfl (VW (au W _)) (by simp[vV,cl]) (by simp only[maxLen];omega) (by omega) (by simp;omega) ?_;intro v' w2 m f _;have I:=cZ H.out;have J:w2.heap[w.heap.size]?=some (.cells #[v] 31):=(f.block _ (by simp;omega) (λe=>by have:=I _ e.symm;omega)).trans ((((bs W.heap.size W).alloc (ao _) _).block _ aH).trans Z.out);have fb2:=tO J;have b2:w2.cell? ⟨w.heap.size,0,none⟩=some v:=(by simp[ba,J]);obtain⟨bb,nn,cc,rfl⟩:=Ny m;have H1:=br m;have L:=br f;have M:=br J;clear m f J)
  have y:∀j,v.ownBlock=some j->∃b,W.heap[j]?=some (.cells b 45):=qm H.out;have I:=cZ H.out;have z:=(bs W.heap.size W).alloc (ao _) (.cells #[.int .i64 x.1,.int .i64 x.2.1,.int .i64 x.2.2.1,.int .i64 x.2.2.2.1,.int .i64 x.2.2.2.2] 45);have yp:W.heap.size<=w2.heap.size:=by have:=L.out.size;simp at this;omega
  have blk:∀q,q<W.heap.size->q≠w.heap.size->some q≠v.ownBlock->(w2.setCell ⟨w.heap.size,0,none⟩ (.slice bb nn cc)).heap[q]?=W.heap[q]?:=λq m f h3=>by
   rw[aZ (bq f),L.out.block q (by simp;omega) h3,z.block q m]
  refine⟨(cp W _).trans ((cq L.out λj o m f=>?_).trans (ct _ _ _)),⟨λq hq=>blk q (by omega) (by omega) (λe=>by have:=I _ e.symm;omega),λq c t h m f=>(blk q (ab h) (λe=>?_) (λe=>?_)).trans h,by simpa using yp⟩,?_⟩
  ·obtain⟨b,hc⟩:=y _ m;rw[z.block _ (ab hc),hc]at f;cases f;rfl
  ·subst e;rw[Z.out]at h;cases h;exact f rfl
  ·obtain⟨b,hc⟩:=y _ e.symm;rw[hc]at h;cases h;exact m rfl
  ·refine⟨_,yV M.out,?_,?_⟩
   ·unfold AY;rw[List.length_append,List.flatMap_append,b8,List.flatMap_nil,List.append_nil];obtain⟨e1,E⟩:=H1.out;refine⟨e1,?_⟩
    rcases E with E|⟨gg,cap,b,e2,hb,hg,E⟩
    ·exact .inl E
    ·exact .inr ⟨gg,cap,b,e2,hb,(aZ (by omega)).trans hg,E⟩
   ·exact((Y.out.alloc Y.out.size _).grown L.out (by simp;omega) (λk e=>by have:=I _ e;omega)).setCell (ao _) _
 case done=>
  intro D W hD hI F;rw[a9]at hD;have gE:=br ((Fl w).putObj (.deferred none) hI (by omega) F rfl);obtain⟨v,i,-,-⟩:=hI;have b0:W.cell? ⟨w.heap.size,0,none⟩=some v:=by simp[ba,i]
  have Ce:=br i;clear i
  go_wp2
  refine⟨by simp,.inl ⟨_,_,rfl,a5 F,?_⟩⟩;obtain⟨v2,eP,N,qA⟩:=gE.out;have e:v=v2:=by
   have h:=(bi (by omega:w.heap.size≠D)).symm.trans eP |>.symm
   rw[Ce.out]at h;cases h;rfl
  subst e;refine⟨v,?_,v,rfl,N,qA⟩;simp[aP,Tryz.results63,go_sem]
def NA{a b:Nat}(C:CD)(g:Nat)(c:yR C g)(w:World)(hA:C.At w)(c1:w.heap[a]?=some (.cells C.val 83))(d:w.heap[b]?=some (.cells #[.int .i64 g] 3)) :
 Calls PL 36 #[.func (.func 64) #[] #[.pointer (some ⟨a,0,none⟩),.pointer (some ⟨b,0,none⟩)]] w λe w'=>∃v,e=.returned v/\AY w' (w.heap.size+1) v (mD C g C.n4)/\Below w.heap.size w w':=by
 have i:=br hA;have j:=br c;have k:=br c1;have l:=br d;clear hA c c1 d
 go_enter (fx (by decide) Tryz.func36),Tryz.ntmps36
 go_wp2_with (go_at_call 63;refine(Nz C g j.out w i.out k.out l.out).mono ?_;rintro e w'⟨v,rfl,f,h⟩;have m:=br f;have n:=br h;clear f h)
 go_ret
 exact⟨_,rfl,m.out,n.out⟩
def nC{W:World}{r:Nat}{x0 x1 x2 x3 x4 a u0 u1 u2 u3 u4 u5:Value}{t:aF}(h:W.heap[r]?=some (.cells #[x0,x1,x2,x3,x4,a] t)):((((((W.setCell ⟨r,0,none⟩ u0).setCell ⟨r,1,none⟩ u1).setCell ⟨r,2,none⟩ u2).setCell ⟨r,3,none⟩ u3).setCell ⟨r,4,none⟩ u4).setCell ⟨r,5,none⟩ u5).heap[r]?=some (.cells #[u0,u1,u2,u3,u4,u5] t):=by
 simp only[a7,bj,if_pos,h,bp];rfl
def cM{W:World}{r b:Nat}{u0 u1 u2 u3 u4 u5:Value}(hb:b≠r):((((((W.setCell ⟨r,0,none⟩ u0).setCell ⟨r,1,none⟩ u1).setCell ⟨r,2,none⟩ u2).setCell ⟨r,3,none⟩ u3).setCell ⟨r,4,none⟩ u4).setCell ⟨r,5,none⟩ u5).heap[b]?=W.heap[b]?:=by
 simp only[a7,bj,if_neg (bq hb)]
def Six(W:World)(k:Nat):Prop:=∃x0 x1 x2 x3 x4 a,W.heap[k]?=some (.cells #[x0,x1,x2,x3,x4,a] 83)
def Fo(C:CD)(W a:World):Prop:=∀k:Nat,(W.heap[k]?=some (.cells C.val 83)->a.heap[k]?=some (.cells C.val 83))/\(Six W k->Six a k)
def Fo.on{C:CD}{W a:World}(h:Below W.heap.size W a):Fo C W a:=λk=>⟨λe=>(h.block _ (ab e)).trans e,fun⟨x0,x1,x2,x3,x4,b,e⟩=>⟨x0,x1,x2,x3,x4,b,(h.block _ (ab e)).trans e⟩⟩
def alU(C:CD)(w:World)(j:Nat)(vs:Nat->Value)(W:World):Prop:=
 (j=8->∃k,vs 8=.pointer (some ⟨k,0,none⟩)/\w.heap.size<k/\Six W k)/\(j=9->∃k,vs 8=.pointer (some ⟨k,0,none⟩)/\w.heap.size<k/\W.heap[k]?=some (.cells C.val 83))
def AZ(C:CD)(g:Nat)(hg:g<C.n5)(m5:C.n5<=3)(w:World):Calls PL 35 #[.agg C.val,.int .i64 g] w λe w'=>e=.returned (.bool true)/\Below w.heap.size w w':=by
 have h:=Fi C g m5 w;have e:bO (g:Int) 0 (C.n5-1)=true:=by simp[bO];omega
 rwa[e]at h
def IC{C:CD}{b:Bool}(h:C.b6 b=0):C.cx=0:=by
 unfold CD.b6 at h
 split at h
 ·rename_i a;exact a
 ·rename_i a;exact absurd h a
def ID(C:CD)(g:Nat)(w:World)(h:C.At w)(hg:g<C.n5)(m5:C.n5<=3)(hf:C.b6 true=0)(n:yR C g) :
 Calls PL 8 #[.agg C.val,.int .i64 g] w λe w'=>∃v,e=.returned (.tuple #[v,.int .i64 0])/\AY w' w.heap.size v (mD C g C.n4)/\Below w.heap.size w w':=by
 have p:=br h;have M:=br hf;have N:=br n;have r:Hid (KB C w (w.alloc (.cells C.val 27))):=br ⟨au _ _,(bs _ _).alloc (ao _) _⟩;clear h hf n
 go_enter (fx (by decide) Tryz.func8),Tryz.ntmps8
 go_upto_region 1 with fail
 refine cT 10 (KB C w) (Fo C) (λj=>j != 8&&j != 9) (alU C w) rfl (by kernel_rfl) (by kernel_rfl)
  (λi vs W s f h=>⟨λe=>(h.1 e).imp λk a=>⟨a.1,a.2.1,(f k).2 a.2.2⟩,λe=>(h.2 e).imp λk a=>⟨a.1,a.2.1,(f k).1 a.2.2⟩⟩) (λi o t vs O W P hd h=>⟨λe=>?_,λe=>?_⟩) ?_ ?_
 ·subst e;rw[<-P];exact h.1 rfl
 ·subst e;have Q:vs 8=O 8:=by
   simp only[cd,ce,cf,Option.some.injEq]at t;subst t;exact hd ⟨8,.data⟩ (cH.2 ⟨by simp,rfl⟩)
  rw[<-Q];exact h.2 rfl
 ·exact⟨r.out.box,r.out.low.drew⟩
 ·iterate 8 (
   apply aY
   case hE=>rfl
   case h=>
    intro vs W b hd;obtain⟨u,x,y,z,f4,A⟩:=bf b.box
    go_simp
    first
    |(go_at_call 35;refine(AZ C g hg m5 _).mono ?_;rintro e s⟨rfl,d⟩;exact⟨_,rfl,rfl,b.on d,Fo.on d⟩)
    |(go_at_call 34;refine(kF M.out (p.out.below b.low)).mono ?_;rintro e s⟨rfl,d⟩;exact⟨_,rfl,rfl,b.on d,Fo.on d⟩)
    |exact⟨rfl,Fo.on (bs _ _)⟩
   case hb=>exact P0)
  apply eH
  case hE=>rfl
  case hb=>exact P0
  case h=>
   intro vs W b hd
   go_simp
   have d:=(bs W.heap.size W).alloc (ao _) (.cells #[.int .i64 0,.int .i64 0,.slice none 0 0,.slice none 0 0,.slice none 0 0,.slice none 0 0] 83)
   first
   |exact⟨b.on d,Fo.on d,⟨λ_=>⟨W.heap.size,by simp[upd],b.lt,_,_,_,_,_,_,au W _⟩,λe=>absurd e (by decide)⟩⟩
  apply eH
  case hE=>rfl
  case hb=>exact P0
  case h=>
   intro vs W b hd;obtain⟨k,a,B,x0,x1,x2,x3,x4,V,c⟩:=(hd ⟨8,.data⟩ (cH.2 ⟨by simp,rfl⟩) rfl).1 rfl;obtain⟨u,x,y,z,f4,A⟩:=bf c;have X:=tO c;rw[a]
   go_simp
   refine⟨⟨(cM (by omega)).trans b.box,ae b.low (by omega) _ _ _ _ _ _⟩,λq=>?_,⟨λe=>absurd e (by decide),λ_=>⟨k,by simp[upd,a],B,nC c⟩⟩⟩;by_cases m:q=k
   ·subst m;exact⟨λ_=>nC c,λ_=>⟨_,_,_,_,_,_,nC c⟩⟩
   ·exact⟨λe=>(cM m).trans e,fun⟨_,_,_,_,_,_,e⟩=>⟨_,_,_,_,_,_,(cM m).trans e⟩⟩
  refine cP λvs W b hd=>?_;obtain⟨k,a,B,c⟩:=(hd 9 (by omega) rfl).2 rfl;rw[a];obtain⟨u,x,y,z,f4,A⟩:=bf c;have Y:=br c;have D:=br b;clear c b hd a
  go_wp2_with (first
   |(go_at_call 37;refine(AX C g _).mono ?_;rintro e w'⟨rfl,l⟩;have E:Below W.heap.size W w':=(by rw[l];exact((bs _ _).alloc (ao _) _).alloc (by simp) _);have F:w'.heap[W.heap.size+1]?=some (.cells #[.int .i64 g] 3):=(by have H:=au (W.alloc (.cells C.val 83)) (.cells #[.int .i64 g] 3);rw[a9]at H;rw[l];exact H);have c1:w'.heap[W.heap.size]?=some (.cells C.val 83):=(by rw[l];exact(((bs (W.alloc (.cells C.val 83)).heap.size _).alloc (ao _) _).block _ (by simp)).trans (au W _));have I:=br E;have R:=br c1;have S:=br F;clear l E c1 F)
   |(go_at_call 36;refine(NA C g N.out _ (p.out.below (ad D.out.low I.out)) R.out S.out).mono ?_;rintro e w3⟨v,rfl,J,K⟩;have T:=br J;have U:=br K;clear J K))
  have L:=ad D.out.low I.out;refine aJ (v:=.tuple #[v,.int .i64 0]) ?_ rfl ⟨v,rfl,dJ T.out (by have:=L.size;omega),ad L U.out⟩;simp[aP,Tryz.results8,go_sem]
def tD{W:World}{r:Nat}{x0 x1 x2 x3 x4 u0 u1 u2 u3 u4:Value}{t:aF}(h:W.heap[r]?=some (.cells #[x0,x1,x2,x3,x4] t)):(((((W.setCell ⟨r,0,none⟩ u0).setCell ⟨r,1,none⟩ u1).setCell ⟨r,2,none⟩ u2).setCell ⟨r,3,none⟩ u3).setCell ⟨r,4,none⟩ u4).heap[r]?=some (.cells #[u0,u1,u2,u3,u4] t):=by
 simp only[a7,bj,if_pos,h,bp];rfl
def gh{W:World}{r b:Nat}{u0 u1 u2 u3 u4:Value}(hb:b≠r):(((((W.setCell ⟨r,0,none⟩ u0).setCell ⟨r,1,none⟩ u1).setCell ⟨r,2,none⟩ u2).setCell ⟨r,3,none⟩ u3).setCell ⟨r,4,none⟩ u4).heap[b]?=W.heap[b]?:=by
 simp only[a7,bj,if_neg (bq hb)]
def vA(l:List nR):nR:=l.getLast?.getD (0,0,0,0,0)
abbrev aaW(x:nR):Array Value:=#[.int .i64 x.1,.int .i64 x.2.1,.int .i64 x.2.2.1,.int .i64 x.2.2.2.1,.int .i64 x.2.2.2.2]
def IE(l:List nR)(x:nR):vA (l++[x])=x:=by simp[vA]
def nU(C:CD)(g:Nat):Int×Int:=(vA (mD C g C.n4)).2.2.2
structure Si(w:World)(pre:List nR)(W:World):Prop where
 res:W.heap[w.heap.size+1]?=some (.cells #[.int .i64 0,.int .i64 0] 43)
 last:W.heap[w.heap.size+2]?=some (.cells (aaW (vA pre)) 45)
 low:Below w.heap.size w W
def yW{w W c:World}{row:Option Nat}{a:List nR}{B:Nat}(d:w.heap.size+3<=B)(h:Si w a W)(hg:W.grownBy c row)(b:∀r,row=some r->B<=r):Si w a c:=
 ⟨(hg.block _ (ab h.res) λe=>by have:=b _ e.symm;omega).trans h.res,(hg.block _ (ab h.last) λe=>by have:=b _ e.symm;omega).trans h.last,h.low.grown hg h.low.size λk e=>by have:=b _ e;omega⟩
def Lm(C:CD)(g:Nat)(P:yR C g)(w:World)(hA:C.At w) :
 Calls PL 45 #[.agg C.val,.int .i64 g] w (aO (.agg #[.int .i64 (nU C g).1,.int .i64 (nU C g).2]) w):=by
 have U:=br hA;have V:=br P;clear hA P;refine(aS (n:=9)).1 (aT (fx (by decide) Tryz.func45) rfl trivial ?_ rfl);simp only[Tryz.ntmps45,bM,bA,bC,aq,aw,bm,bo,bR,bT,bX,b7];refine wpIn_wide.2 ?_;have y:Si w [] (((w.alloc (.cells C.val 83)).alloc (.cells #[.int .i64 0,.int .i64 0] 43)).alloc (.cells #[.int .i64 0,.int .i64 0,.int .i64 0,.int .i64 0,.int .i64 0] 45)):=by
  refine⟨?_,?_,(((bs _ _).alloc (ao _) _).alloc (by simp) _).alloc (by simp;omega) _⟩
  ·have b:=au (w.alloc (.cells C.val 83)) (.cells #[.int .i64 0,.int .i64 0] 43);rw[a9]at b;exact(((bs ((w.alloc (.cells C.val 83)).alloc (.cells #[.int .i64 0,.int .i64 0] 43)).heap.size _).alloc (ao _) _).block _ (by simp)).trans b
  ·have b:=au ((w.alloc (.cells C.val 83)).alloc (.cells #[.int .i64 0,.int .i64 0] 43)) (.cells #[.int .i64 0,.int .i64 0,.int .i64 0,.int .i64 0,.int .i64 0] 45);simp only[a9]at b;exact b
 have z:=br y;clear y
 go_wp2_with (go_at_call 37;refine(AX C g _).mono ?_;rintro e w'⟨rfl,m⟩)
 have X:=z.out.low;have J:∃Y:World,Y=(((w.alloc (.cells C.val 83)).alloc (.cells #[.int .i64 0,.int .i64 0] 43)).alloc (.cells #[.int .i64 0,.int .i64 0,.int .i64 0,.int .i64 0,.int .i64 0] 45)):=⟨_,rfl⟩
 have E:w'.heap.size=w.heap.size+5:=by rw[m];simp
 have Q:w'.heap[w.heap.size+3]?=some (.cells C.val 83):=by
  rw[m];have b:=au (((w.alloc (.cells C.val 83)).alloc (.cells #[.int .i64 0,.int .i64 0] 43)).alloc (.cells #[.int .i64 0,.int .i64 0,.int .i64 0,.int .i64 0,.int .i64 0] 45)) (.cells C.val 83);simp only[a9]at b;exact((((bs (World.alloc (((w.alloc (.cells C.val 83)).alloc (.cells #[.int .i64 0,.int .i64 0] 43)).alloc (.cells #[.int .i64 0,.int .i64 0,.int .i64 0,.int .i64 0,.int .i64 0] 45)) (.cells C.val 83)).heap.size _).alloc (ao _) _).block _ (by simp)).trans b)
 have F:w'.heap[w.heap.size+4]?=some (.cells #[.int .i64 g] 3):=by
  rw[m];have b:=au ((((w.alloc (.cells C.val 83)).alloc (.cells #[.int .i64 0,.int .i64 0] 43)).alloc (.cells #[.int .i64 0,.int .i64 0,.int .i64 0,.int .i64 0,.int .i64 0] 45)).alloc (.cells C.val 83)) (.cells #[.int .i64 g] 3);simp only[a9]at b;exact b
 have H:Si w [] w':=by
  rw[m];exact yW (ao _) z.out ((bd _ _ none).trans (bd _ _ none)) (λr e=>by cases e)
 have d:=br E;have L:=br Q;have M:=br F;rw[<-m];clear E Q F m X J;refine(wpIn_wide (n:=9)).1 ?_;refine yU (by omega) (gf:=64) (lb:=#[.pointer (some ⟨w.heap.size+3,0,none⟩),.pointer (some ⟨w.heap.size+4,0,none⟩)]) rfl (enters_of (fx (by decide) Tryz.func64) (by kernel_rfl) rfl)
  (yT 8 (by omega) (w.heap.size+3) (w.heap.size+4) w.heap.size g C V.out w rfl U.out)
  (λW I=>?_) Li (λW l o R hl Z hc hw=>Lj (n:=w.heap.size) (s:=w.heap.size+5) (by omega) W l o R (by have:=d.out;omega) Z hc hw) (λ_=>rfl)
  (Si w) (λs A B row hs hg N=>yW (B:=w'.heap.size) (by have:=d.out;omega) hs hg λr e=>(N r e).1) (λs A B row hs hg N=>yW (B:=w'.heap.size) (by have:=d.out;omega) hs hg λr e=>(N r e).1) H
  (λx a W=>∃k,W.heap[k]?=some (.cells (aaW x) 45)/\a={ tmps:=#[.agg C.val,.int .i64 g,.pointer (some ⟨w.heap.size,0,none⟩),undef,.pointer (some ⟨w.heap.size+1,0,none⟩),.pointer (some ⟨w.heap.size+2,0,none⟩),.pointer (some ⟨k,0,none⟩),.agg C.val,.int .i64 g,.func (.func 64) #[] #[.pointer (some ⟨w.heap.size+3,0,none⟩),.pointer (some ⟨w.heap.size+4,0,none⟩)],.agg (aaW x),undef,undef,undef],defers:=[] })
  ?A ?kg ?assign ?body ?done
 ·have e:∀k,k<w.heap.size->W.heap[k]?=w.heap[k]?:=λk f=>(I.block k (by have:=d.out;omega)).trans (H.low.block k f);exact⟨e,by have:=I.size;have:=d.out;omega,(I.block _ (by have:=d.out;omega)).trans L.out,(I.block _ (by have:=d.out;omega)).trans M.out⟩
 case A=>
  rintro x a W l o R hl hc⟨k,f,ha⟩;refine⟨k,(bi (λe=>?_)).trans f,ha⟩;subst e;rw[hl]at f;cases f;cases hc
 case kg=>
  intro A B hs hg;have:=d.out;exact⟨λk f=>hg.block k (by omega) (by simp),λk c t h _ _=>(hg.block k (ab h) (by simp)).trans h,hg.size⟩
 case assign=>
  intro l x W K O;dsimp only[VS]
  gi_wp2
  refine O _ _ (bd W _ none) ⟨W.heap.size,au _ _,rfl⟩
 case body=>
  rintro l pre x a W i⟨k,f,rfl⟩Nw;obtain⟨k0,k1,k2,k3,k4⟩:=qO f;obtain⟨l0,l1,l2,l3,l4⟩:=qO i.last;have fl:=tO i.last;have j:=br i;clear i f
  gi_wp2
  have Cu:=ab j.out.last;refine⟨((((ct W _ _).trans (ct _ _ _)).trans (ct _ _ _)).trans (ct _ _ _)).trans (ct _ _ _),⟨λq hq=>gh (by omega),λq c t h b h2=>(gh (λe=>?_)).trans h,by simp⟩,⟨(gh (by omega)).trans j.out.res,by rw[IE];exact tD j.out.last,((((j.out.low.setCell (p:=⟨w.heap.size+2,0,none⟩) (by simp) _).setCell (p:=⟨w.heap.size+2,1,none⟩) (by simp) _).setCell (p:=⟨w.heap.size+2,2,none⟩) (by simp) _).setCell (p:=⟨w.heap.size+2,3,none⟩) (by simp) _).setCell (p:=⟨w.heap.size+2,4,none⟩) (by simp) _⟩⟩;subst e;have S:=j.out.last;rw[h]at S;cases S;exact b rfl
 case done=>
  intro D W T i O;obtain⟨l0,l1,l2,l3,l4⟩:=qO i.last;obtain⟨t0,t1,u0,u1⟩:=uJ i.res;have j:=br i;have HD:=br T;clear i T
  go_wp2
  have hK':=((ct W ⟨w.heap.size+1,0,none⟩ (.int .i64 (vA (mD C g C.n4)).2.2.2.1)).trans (ct _ ⟨w.heap.size+1,1,none⟩ (.int .i64 (vA (mD C g C.n4)).2.2.2.2))).same D _ O rfl;obtain⟨d0,d1,_,_⟩:=yD (u:=.int .i64 (vA (mD C g C.n4)).2.2.2.1) (v:=.int .i64 (vA (mD C g C.n4)).2.2.2.2) t0 t1;have e0:=cell_kept d0 (a6 _ D (.deferred none)) (λr e=>by cases e;exact⟨_,hK',rfl⟩);have e1:=cell_kept d1 (a6 _ D (.deferred none)) (λr e=>by cases e;exact⟨_,hK',rfl⟩);refine⟨by simp,.inl ⟨_,_,rfl,a5 hK',?_⟩⟩;refine⟨.agg #[.int .i64 (nU C g).1,.int .i64 (nU C g).2],?_,rfl,(((j.out.low.setCell (p:=⟨w.heap.size+1,0,none⟩) (ap _) _).setCell (p:=⟨w.heap.size+1,1,none⟩) (ap _) _)).trans (belowK_b (w:=w) (ao _) _ D _ _ (by have:=HD.out;have:=d.out;omega) hK' rfl rfl)⟩;simp[aP,Tryz.results45,go_sem,e0,e1,nU]
structure KE(C:CD)(w W:World):Prop where
 box:W.heap[w.heap.size]?=some (.cells C.val 27)
 res:W.heap[w.heap.size+1]?=some (.cells #[.int .i64 0,.int .i64 0] 43)
 low:Below w.heap.size w W
def KE.on{C:CD}{w W b:World}(h:KE C w W)(a:Below W.heap.size W b):KE C w b:=
 ⟨(a.block _ (ab h.box)).trans h.box,(a.block _ (ab h.res)).trans h.res,ad h.low a⟩
def KE.lt{C:CD}{w W:World}(h:KE C w W):w.heap.size+1<W.heap.size:=ab h.res
def alV(C:CD)(w:World)(j:Nat)(vs:Nat->Value)(W:World):Prop:=
 (j=8->∃k,vs 8=.pointer (some ⟨k,0,none⟩)/\w.heap.size+1<k/\Six W k)/\(j=9->∃k,vs 8=.pointer (some ⟨k,0,none⟩)/\w.heap.size+1<k/\W.heap[k]?=some (.cells C.val 83))
def Sj(C:CD)(g:Nat)(w:World)(h:C.At w)(hg:g<C.n5)(m5:C.n5<=3)(hf:C.b6 true=0)(x:yR C g) :
 Calls PL 17 #[.agg C.val,.int .i64 g] w (aO (.tuple #[.agg #[.int .i64 (nU C g).1,.int .i64 (nU C g).2],.int .i64 0]) w):=by
 have y:=br h;have K:=br hf;have L:=br x
 have n:Hid (KE C w ((w.alloc (.cells C.val 27)).alloc (.cells #[.int .i64 0,.int .i64 0] 43))):=br ⟨(((bs (w.alloc (.cells C.val 27)).heap.size _).alloc (ao _) _).block _ (by simp)).trans (au w _),by
  have z:=au (w.alloc (.cells C.val 27)) (.cells #[.int .i64 0,.int .i64 0] 43);rw[a9]at z
  exact z,((bs _ _).alloc (ao _) _).alloc (by simp) _⟩
 clear h hf x
 go_enter (fx (by decide) Tryz.func17),Tryz.ntmps17
 go_upto_region 1 with fail
 refine cT 10 (KE C w) (Fo C) (λj=>j != 8&&j != 9) (alV C w) rfl (by kernel_rfl) (by kernel_rfl)
  (λi vs W A l h=>⟨λe=>(h.1 e).imp λk b=>⟨b.1,b.2.1,(l k).2 b.2.2⟩,λe=>(h.2 e).imp λk b=>⟨b.1,b.2.1,(l k).1 b.2.2⟩⟩) (λi o B vs M W N hd h=>⟨λe=>?_,λe=>?_⟩) ?_ ?_
 ·subst e;rw[<-N];exact h.1 rfl
 ·subst e;have O:vs 8=M 8:=by
   simp only[cd,ce,cf,Option.some.injEq]at B;subst B;exact hd ⟨8,.data⟩ (cH.2 ⟨by simp,rfl⟩)
  rw[<-O];exact h.2 rfl
 ·exact⟨n.out.box,n.out.res,n.out.low.drew⟩
 ·iterate 8 (
   apply aY
   case hE=>rfl
   case h=>
    intro vs W a hd;obtain⟨D,E,F,H,f4,I⟩:=bf a.box
    go_simp
    first
    |(go_at_call 35;refine(AZ C g hg m5 _).mono ?_;rintro e A⟨rfl,d⟩;exact⟨_,rfl,rfl,a.on d,Fo.on d⟩)
    |(go_at_call 34;refine(kF K.out (y.out.below a.low)).mono ?_;rintro e A⟨rfl,d⟩;exact⟨_,rfl,rfl,a.on d,Fo.on d⟩)
    |exact⟨rfl,Fo.on (bs _ _)⟩
   case hb=>exact P0)
  apply eH
  case hE=>rfl
  case hb=>exact P0
  case h=>
   intro vs W a hd
   go_simp
   have d:=(bs W.heap.size W).alloc (ao _) (.cells #[.int .i64 0,.int .i64 0,.slice none 0 0,.slice none 0 0,.slice none 0 0,.slice none 0 0] 83)
   first
   |exact⟨a.on d,Fo.on d,⟨λ_=>⟨W.heap.size,by simp[upd],a.lt,_,_,_,_,_,_,au W _⟩,λe=>absurd e (by decide)⟩⟩
  apply eH
  case hE=>rfl
  case hb=>exact P0
  case h=>
   intro vs W a hd;obtain⟨k,b,J,x0,x1,x2,x3,x4,S,c⟩:=(hd ⟨8,.data⟩ (cH.2 ⟨by simp,rfl⟩) rfl).1 rfl;obtain⟨D,E,F,H,f4,I⟩:=bf c;have T:=tO c;rw[b]
   go_simp
   refine⟨⟨(cM (by omega)).trans a.box,(cM (by omega)).trans a.res,ae a.low (by omega) _ _ _ _ _ _⟩,λq=>?_,⟨λe=>absurd e (by decide),λ_=>⟨k,by simp[upd,b],J,nC c⟩⟩⟩;by_cases r:q=k
   ·subst r;exact⟨λ_=>nC c,λ_=>⟨_,_,_,_,_,_,nC c⟩⟩
   ·exact⟨λe=>(cM r).trans e,fun⟨_,_,_,_,_,_,e⟩=>⟨_,_,_,_,_,_,(cM r).trans e⟩⟩
  refine cP λvs W a hd=>?_;obtain⟨k,b,J,c⟩:=(hd 9 (by omega) rfl).2 rfl;rw[b];obtain⟨D,E,F,H,f4,I⟩:=bf c;have U:=br c;have f:=br a;clear c a hd b;obtain⟨V,t1,u0,u1⟩:=uJ f.out.res;have fr:=tO f.out.res
  go_wp2_with (go_at_call 45;refine(Lm C g L.out _ (y.out.below f.out.low)).mono ?_;rintro e w3⟨rfl,s⟩;have m:=(s.block _ (ab f.out.res)).trans f.out.res;obtain⟨X,v1,Y,Z⟩:=uJ m;have P:=tO m;have Q:=br s;have t:=br m;clear s m)
  have R:=ad f.out.low Q.out;refine aJ (v:=.tuple #[.agg #[.int .i64 (nU C g).1,.int .i64 (nU C g).2],.int .i64 0]) ?_ rfl ⟨rfl,(R.setCell (p:=⟨w.heap.size+1,0,none⟩) (ap _) _).setCell (p:=⟨w.heap.size+1,1,none⟩) (ap _) _⟩;obtain⟨a0,a1,_,_⟩:=uJ (yL (u:=.int .i64 (nU C g).1) (v:=.int .i64 (nU C g).2) t.out);simp[aP,Tryz.results17,go_sem,a0,a1]
def Fp(C:CD)(R:World->Value->Prop)(w:World)(h:C.At w)(hf:C.b6 true=0)
 (b:∀W,C.At W->Calls PL 41 #[.agg C.val] W λe w'=>∃v,e=.returned v/\R w' v/\Below W.heap.size W w') :
 Calls PL 11 #[.agg C.val] w λe w'=>∃v,e=.returned (.tuple #[v,.int .i64 0])/\R w' v/\Below w.heap.size w w':=by
 have c:=br h;have k:=br hf;have a:=br b;have d:Hid (KB C w (w.alloc (.cells C.val 27))):=br ⟨au _ _,(bs _ _).alloc (ao _) _⟩;clear h hf b
 go_enter (fx (by decide) Tryz.func11),Tryz.ntmps11
 go_wp2_with (first
  |(go_at_call 34;refine(kF k.out (c.out.below d.out.low)).mono ?_;rintro e w1⟨rfl,f⟩;have g:=br (d.out.on f);clear f)
  |(go_at_call 41;refine(a.out _ (c.out.below (g.out.alloc (.cells C.val 83)).low)).mono ?_;rintro e w2⟨v,rfl,i,j⟩;have l:=br ((g.out.alloc (.cells C.val 83)).on j);have m:=br i;clear j i))
 refine aJ (v:=.tuple #[v,.int .i64 0]) ?_ rfl ⟨v,rfl,m.out,l.out.low⟩;simp[aP,Tryz.results11,go_sem]
structure KT(C:CD)(w W:World):Prop where
 box:W.heap[w.heap.size]?=some (.cells C.val 83)
 low:Below w.heap.size w W
def KT.on{C:CD}{w W a:World}(h:KT C w W)(b:Below W.heap.size W a):KT C w a:=
 ⟨(b.block _ (ab h.box)).trans h.box,ad h.low b⟩
def qP(C:CD)(p:Nat):Bool:=decide (∀g,g<p->(nU C g).2<=C.l)
def IF{C:CD}{p:Nat}(h:qP C p=true)(k:(nU C p).2<=C.l):qP C (p+1)=true:=by
 simp only[qP,decide_eq_true_eq]at *;intro g hg
 rcases Nat.lt_succ_iff_lt_or_eq.1 hg with a|rfl
 ·exact h g a
 ·exact k
def Sk{C:CD}{p n:Nat}(a:p<n)(k:¬(nU C p).2<=C.l):qP C n=false:=by
 simp only[qP,decide_eq_false_iff_not];exact λh=>k (h p a)
def ag1(a b:Int)(W:World):Sem.run PL (Instr.field 43 (.agg #[.int .i64 a,.int .i64 b]) 1) W=.ok (.int .i64 b) W:=by kernel_rfl
def VY(C:CD)(n:Nat)(w:World)(h:C.At w)(hc:C.cx=0)(m5:C.n5<=3)
 (q:∀W,C.At W->Calls PL 41 #[.agg C.val] W λe w'=>∃b c,e=.returned (.slice b n c)/\Below W.heap.size W w') :
 Calls PL 42 #[.agg C.val] w (aO (.bool (qP C C.n5&&decide (n=0))) w):=by
 have r:=br h;have j:=br q;have v:=br hc;have x:Hid (KT C w (w.alloc (.cells C.val 83))):=br ⟨au _ _,(bs _ _).alloc (ao _) _⟩;clear h q hc
 go_enter (fx (by decide) Tryz.func42),Tryz.ntmps42
 go_wp2
 go_loopw [8] (λk wr=>∃p:Nat,p<=C.n5/\k=.int .i64 p/\qP C p=true/\KT C w wr) (λk _=>C.n5-(intOf k).toNat)
 case atStart=>exact⟨0,aB _,rfl,by simp[qP],x.out⟩
 case round=>
  obtain⟨p,K,rfl,hs,s⟩:=hrel;have f:=br s;have t:=br hs;clear s hs;by_cases i:p<C.n5
  ·have y:(p:Int)<C.n5:=by omega
   have z:=br (Sa C v.out i)
   go_upto_region 4 with fail
   refine ig (KT C w) (λ_ _=>True) (λ_=>true) (λ_ _ _=>True) rfl (by kernel_rfl) (λ_ _ _ _ _ _=>trivial) (λ_ _ _ _ _ _ _ _ _=>trivial) ⟨f.out.box,f.out.low.drew⟩ ?_
   iterate 8 (
    apply aY
    case hE=>rfl
    case h=>
     intro vs W d hd;obtain⟨A,B,D,E,f4,F⟩:=bf d.box;have q1:=ag1
     go_simp
     first
     |(go_at_call 45;refine(Lm C p z.out _ (r.out.below d.low)).mono ?_;rintro e L⟨rfl,H⟩;exact⟨_,rfl,rfl,d.on H⟩)
     |exact rfl
    case hb=>exact P0)
   refine cP λvs W d hd=>?_;have g:=br d;clear hd d;by_cases a:(nU C p).2<=C.l
   ·have m:=br a;have I:¬(C.l<(nU C p).2):=by omega
    clear a
    go_wp2
    exact⟨⟨p+1,i,by go_num,IF t.out m.out,g.out⟩,by simp only[intOf];omega⟩
   ·have m:=br a;have I:C.l<(nU C p).2:=by omega
    clear a
    go_wp2
    go_ret
    have hs:=Sk i (Int.not_le.2 m.out);refine⟨?_,g.out.low⟩;rw[hs,Bool.false_and];rfl
  ·have o:p=C.n5:=by omega
   have y:¬((p:Int)<C.n5):=by omega
   clear i;obtain⟨A,B,D,E,f4,F⟩:=bf f.out.box
   go_wp2_with (go_at_call 41;refine(j.out _ (r.out.below f.out.low)).mono ?_;rintro e w2⟨b,c,rfl,u⟩;have J:=br (f.out.on u);clear u)
   go_ret
   have hs:qP C C.n5=true:=by have h:=t.out;first|(rw[o]at h;exact h)|exact h
   have e:((n:Int)==0)=decide (n=0):=by by_cases h:n=0<;>simp[h]
   refine⟨?_,J.out.low⟩;rw[hs,e,Bool.true_and];rfl
end Go.Proofs
namespace Go.Proofs
open Go.RowKit
def acj(l:List nR)(i j:Nat)(hi:i<l.length)(b:j<5):(l.flatMap vV)[i*5+j]?=(vV l[i])[j]?:=by
 induction l generalizing i with
 |nil=>cases hi
 |cons x l a=>
  rw[b8];have e:(vV x).length=5:=rfl
  match i with
  |0=>rw[Nat.zero_mul,ai,List.getElem?_append_left (by omega)];rfl
  |i+1=>
   rw[List.getElem?_append_right (by omega),e,show(i+1)*5+j-5=i*5+j by omega,a i (by simpa using hi)];rfl
def R1{a:Type}(b:a->a->Bool)(x:a):List a->List a
 |[]=>[x]
 |y::P=>if b x y then y::R1 b x P else x::y::P
def aaf{a:Type}(b:a->a->Bool):List a->List a:=cg (λP x=>R1 b x P) []
def G0{a:Type}(b:a->a->Bool)(l:List a):List a:=(aaf b l).reverse
def agS{a:Type}(b:a->a->Bool)(x:a)(P:List a):(R1 b x P).length=P.length+1:=by
 induction P with
 |nil=>rfl
 |cons y P c=>rw[R1];split<;>simp[c]
def ad8{a:Type}(b:a->a->Bool)(l:List a)(x:a):aaf b (l++[x])=R1 b x (aaf b l):=by simp[aaf,List.foldl_append]
def abN{a:Type}(b:a->a->Bool)(l:List a):(aaf b l).length=l.length:=by
 have key:∀(l P:List a),(cg (λP x=>R1 b x P) P l).length=P.length+l.length:=by
  intro l
  induction l with
  |nil=>intro P;simp
  |cons x l c=>intro P;rw[ch,c,agS,bA];omega
 rw[aaf,key];simp
def agT{a:Type}(b:a->a->Bool)(x:a)(P:List a)(z:a):z∈R1 b x P↔z=x\/z∈P:=by
 induction P with
 |nil=>simp[R1]
 |cons y P c=>
  rw[R1]
  split
  ·rw[ci,c,ci];constructor
   ·rintro(h|h|h)
    ·exact .inr (.inl h)
    ·exact .inl h
    ·exact .inr (.inr h)
   ·rintro(h|h|h)
    ·exact .inr (.inl h)
    ·exact .inl h
    ·exact .inr (.inr h)
  ·simp
def agr{a:Type}(b:a->a->Bool)(l:List a)(z:a):z∈aaf b l↔z∈l:=by
 have key:∀(l P:List a),z∈cg (λP x=>R1 b x P) P l↔z∈P\/z∈l:=by
  intro l
  induction l with
  |nil=>intro P;simp
  |cons x l c=>
   intro P;rw[ch,c,agT,ci];constructor
   ·rintro((h|h)|h)
    ·exact .inr (.inl h)
    ·exact .inl h
    ·exact .inr (.inr h)
   ·rintro(h|h|h)
    ·exact .inl (.inr h)
    ·exact .inl (.inl h)
    ·exact .inr h
 rw[aaf,key];simp
def abO{a:Type}(b:a->a->Bool)(l:List a):(G0 b l).length=l.length:=by simp[G0,abN]
def ags{a:Type}(b:a->a->Bool)(l:List a)(z:a):z∈G0 b l↔z∈l:=by simp[G0,agr]
set_option maxRecDepth 100000
set_option maxHeartbeats 4000000
def aag(x y:nR):Bool:=decide (x.2.2.2.2<y.2.2.2.2)
def ad9(x y:nR)(w:World):Calls PL 73 #[.agg (aaW x),.agg (aaW y)] w λe w'=>e=.returned (.int .i64 (Ip x.2.2.2.2 y.2.2.2.2))/\w'=(w.alloc (.cells (aaW x) 49)).alloc (.cells (aaW y) 49):=by
 go_enter (fx (by decide) Tryz.func73),Tryz.ntmps73
 go_wp2_with (go_at_call 74;refine(Kw _ _ _).mono ?_;rintro e w'⟨rfl,rfl⟩)
 go_ret
 exact⟨rfl,rfl⟩
def alm(x y:nR):(Ip x.2.2.2.2 y.2.2.2.2<0)↔aag x y=true:=by
 unfold Ip aag;rw[decide_eq_true_iff]
 split
 ·simp[*]
 ·split<;>simp[*]
end Go.Proofs
