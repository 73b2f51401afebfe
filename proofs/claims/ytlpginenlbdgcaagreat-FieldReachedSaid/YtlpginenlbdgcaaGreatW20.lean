/- Part of the proof of FieldReached and FieldLater. -/
import Derived.Test.YtlpginenlbdgcaaGreatW18
set_option linter.all false
open Nat renaming zero_add->aa,le_refl->ab,zero_le->ac
open Go.Proofs renaming getElem?_lt'->ad
open Go.World renaming cell?->ae,size_alloc->ag
open Array renaming getElem?_setIfInBounds->ai,size_setIfInBounds->ao
open Go.RowKit.Below renaming refl->ap
open Go.Lib renaming hid->aq
open Bool renaming false_eq_true->ar
open Go.Value renaming slice->aw
open List renaming length_map->aB,length_range->aF
namespace Go.Proofs
open Go.RowKit Go.Shelf
attribute [local go_sem] Oper.semAt_some
set_option maxRecDepth 100000
set_option maxHeartbeats 4000000
def abX(l:Bool)(x:iJ):iJ:={ x with n:=λj=>if j=7\/j=8 then x.n (if l then 7 else 8) else if j=9\/j=10 then x.n (if l then 9 else 10) else x.n j }
def CD.abQ(C:CD)(f:Nat->iJ)(g c:Nat):CD:={ C with b4:=some ⟨g,0,none⟩,k4:=g,o4:=0,c4:=c,x4:=f }
structure ahW(x y:iJ):Prop where
 name:y.name=x.name
 lb:y.lb=x.lb
 ln:y.ln=x.ln
 lk:y.lk=x.lk
 lo:y.lo=x.lo
 lane:y.lane=x.lane
def ahZ{C:CD}{w W:World}{f:Nat->iJ}{g c:Nat}(h:C.At w)(d:Below w.heap.size w W)(hf:∀i,ahW (C.x4 i) (f i))(hg:g<W.heap.size)(b:∀j,j<C.n4->∀q,q<12->W.cell? ⟨g,j*12+q,none⟩=(NR (f j))[q]?):(C.abQ f g c).At W:=by
 have k:=h.below d;refine⟨k.m2,k.m3,k.m4,k.m5,k.h2,k.h3,hg,k.h5,k.s2,k.s3,λ_=>rfl,k.s5,k.Ep,k.Er,k.Es,k.Et,k.Eu,λi hi=>?_,λi hi=>?_,λi hi j e l=>?_,λi hi=>?_,λi hi hl=>?_,λi hi j a=>?_,k.nm5,k.FI,k.HU,k.J6⟩
 ·show(f i).name.size<=100/\(f i).ln<=20;rw[(hf i).name,(hf i).ln];exact k.cu i hi
 ·show W.cell? ⟨g,0+i*12,none⟩=_;rw[aa];exact b i hi 0 (by omega)
 ·show W.cell? ⟨g,0+i*12+j,none⟩=_;rw[aa,b i hi j (by omega),Q2 _ e l];rfl
 ·show W.cell? ⟨g,0+i*12+11,none⟩=_;rw[aa,b i hi 11 (by omega)];rfl
 ·have hl:0<(f i).ln:=hl;show(f i).lb=some ⟨(f i).lk,(f i).lo,none⟩/\(f i).lk<W.heap.size;rw[(hf i).ln]at hl;rw[(hf i).lb,(hf i).lk,(hf i).lo];exact k.l4 i hi hl
 ·have a:j<(f i).ln:=a;show W.cell? ⟨(f i).lk,(f i).lo+j,none⟩=some (.int .i64 ((f i).lane j));rw[(hf i).ln]at a;rw[(hf i).lk,(hf i).lo,(hf i).lane];exact k.J5 i hi j a
structure KEn(C:CD)(l:Bool)(w:World)(g c i:Nat)(s1 s2:Bool)(W:World):Prop where
 low:Below w.heap.size w W
 box:W.heap[w.heap.size+2]?=some (.cells #[.int .i64 C.l,.int .i64 C.p,.slice C.b2 C.n2 C.c2,.slice C.b3 C.n3 C.c3,.slice (some ⟨g,0,none⟩) C.n4 c,.slice C.b5 C.n5 C.c5] 27)
 res:W.heap[w.heap.size+1]?=some (.cells RX 27)
 own:w.heap.size+2<g
 row:∃cur,W.heap[g]?=some (.cells cur 85)/\C.n4*12<=cur.size/\∀j,j<C.n4->∀q,q<12->cur[j*12+q]?=(NR (if j<i\/(j=i/\(s1=true/\(q=7\/q=8)\/s2=true/\(q=9\/q=10))) then abX l (C.x4 j) else C.x4 j))[q]?
def KEn.on{C:CD}{l:Bool}{w W b:World}{g c i:Nat}{d e:Bool}(h:KEn C l w g c i d e W)(a:Below W.heap.size W b):KEn C l w g c i d e b:=
 ⟨Below.on h.low a,(a.block _ (ad h.box)).trans h.box,(a.block _ (ad h.res)).trans h.res,h.own,h.row.imp λ_ k=>⟨(a.block _ (ad k.1)).trans k.1,k.2⟩⟩
def aaG(l:Bool)(x:iJ)(q:Nat)(c:q<12):(NR (abX l x))[q]?=if q=7\/q=8 then some (.int .i64 (x.n (if l then 7 else 8))) else if q=9\/q=10 then some (.int .i64 (x.n (if l then 9 else 10))) else(NR x)[q]?:=by
 by_cases b:q=0
 ·subst b;rfl
 by_cases a:q=11
 ·subst a;rfl
 rw[Q2 _ (by omega) (by omega),Q2 _ (by omega) (by omega)];simp only[abX]
 split
 ·rfl
 ·split<;>rfl
def KEn.cell{C:CD}{l:Bool}{w W:World}{g c i:Nat}{d f:Bool}(h:KEn C l w g c i d f W)(hi:i<C.n4){q:Nat}(a:q=(if l then 7 else 8)\/q=(if l then 9 else 10)):W.cell? ⟨g,i*12+q,none⟩=some (.int .i64 ((C.x4 i).n q)):=by
 obtain⟨b,e,_,j⟩:=h.row;have k:7<=q/\q<=10:=by cases l<;>simp at a<;>omega
 have:=j i hi q (by omega);have key:b[i*12+q]?=some (.int .i64 ((C.x4 i).n q)):=by
  rw[this]
  split
  ·rw[aaG _ _ _ (by omega)]
   cases l<;>simp at a<;>rcases a with rfl|rfl<;>rfl
  ·exact Q2 _ (by omega) (by omega)
 simp only[ae,e];exact key
def KEn.has{C:CD}{l:Bool}{w W:World}{g c i:Nat}{b d:Bool}(h:KEn C l w g c i b d W)(hi:i<C.n4){q:Nat}(f:q<12):∃v,W.cell? ⟨g,i*12+q,none⟩=some v:=by
 obtain⟨a,e,hs,_⟩:=h.row;simp only[ae,e];exact⟨a[i*12+q]'(by omega),by simp⟩
def KEn.ai2{C:CD}{l:Bool}{w W:World}{g c i:Nat}{s r:Bool}(h:KEn C l w g c i s r W)(hi:i<C.n4) :
 KEn C l w g c i true r ((W.setCell ⟨g,i*12+7,none⟩ (.int .i64 ((C.x4 i).n (if l then 7 else 8)))).setCell ⟨g,i*12+8,none⟩ (.int .i64 ((C.x4 i).n (if l then 7 else 8)))):=by
 obtain⟨d,e,hs,f⟩:=h.row;have x:=h.own;have hg:w.heap.size<=g:=by omega
 refine⟨(h.low.setCell (p:=⟨g,_,none⟩) hg _).setCell (p:=⟨g,_,none⟩) hg _,?_,?_,h.own,_,Fe (Fe e),by simpa using hs,λj t q k=>?_⟩
 ·rw[aZ (by omega),aZ (by omega)];exact h.box
 ·rw[aZ (by omega),aZ (by omega)];exact h.res
 ·have f:=f j t q k;simp only[ai,ao];by_cases m:j=i/\(q=7\/q=8)
  ·obtain⟨rfl,o⟩:=m;have u:j*12+q<d.size:=by omega
   have v:∀q,q=7\/q=8->(NR (abX l (C.x4 j)))[q]?=some (.int .i64 ((C.x4 j).n (if l then 7 else 8))):=λq k=>by rw[aaG _ _ _ (by omega),if_pos k]
   rcases o with rfl|rfl<;>simp[u,v]
  ·rw[if_neg (by omega),if_neg (by omega),f];congr 3;simp only[eq_iff_iff];constructor
   ·rintro(h|⟨b,a|a⟩)
    ·exact .inl h
    ·exact absurd ⟨b,a.2⟩ m
    ·exact .inr ⟨b,.inr a⟩
   ·rintro(h|⟨b,a|a⟩)
    ·exact .inl h
    ·exact absurd ⟨b,a.2⟩ m
    ·exact .inr ⟨b,.inr a⟩
def KEn.ai3{C:CD}{l:Bool}{w W:World}{g c i:Nat}{r s:Bool}(h:KEn C l w g c i r s W)(hi:i<C.n4) :
 KEn C l w g c i r true ((W.setCell ⟨g,i*12+9,none⟩ (.int .i64 ((C.x4 i).n (if l then 9 else 10)))).setCell ⟨g,i*12+10,none⟩ (.int .i64 ((C.x4 i).n (if l then 9 else 10)))):=by
 obtain⟨d,e,hs,f⟩:=h.row;have x:=h.own;have hg:w.heap.size<=g:=by omega
 refine⟨(h.low.setCell (p:=⟨g,_,none⟩) hg _).setCell (p:=⟨g,_,none⟩) hg _,?_,?_,h.own,_,Fe (Fe e),by simpa using hs,λj t q k=>?_⟩
 ·rw[aZ (by omega),aZ (by omega)];exact h.box
 ·rw[aZ (by omega),aZ (by omega)];exact h.res
 ·have f:=f j t q k;simp only[ai,ao];by_cases m:j=i/\(q=9\/q=10)
  ·obtain⟨rfl,o⟩:=m;have u:j*12+q<d.size:=by omega
   have v:∀q,q=9\/q=10->(NR (abX l (C.x4 j)))[q]?=some (.int .i64 ((C.x4 j).n (if l then 9 else 10))):=λq k=>by rw[aaG _ _ _ (by omega),if_neg (by omega),if_pos k]
   rcases o with rfl|rfl<;>simp[u,v]
  ·rw[if_neg (by omega),if_neg (by omega),f];congr 3;simp only[eq_iff_iff];constructor
   ·rintro(h|⟨b,a|a⟩)
    ·exact .inl h
    ·exact .inr ⟨b,.inl a⟩
    ·exact absurd ⟨b,a.2⟩ m
   ·rintro(h|⟨b,a|a⟩)
    ·exact .inl h
    ·exact .inr ⟨b,.inl a⟩
    ·exact absurd ⟨b,a.2⟩ m
def KEn.next{C:CD}{l:Bool}{w W:World}{g c i:Nat}{s t:Bool}(h:KEn C l w g c i true t W)(k:KEn C l w g c i s true W):KEn C l w g c (i+1) false false W:=by
 obtain⟨d,e,hs,u⟩:=h.row;obtain⟨a,p,_,v⟩:=k.row;obtain rfl:a=d:=by rw[e]at p;cases p;rfl
 refine⟨h.low,h.box,h.res,h.own,a,e,hs,λj r q b=>?_⟩;have f:=u j r q b;have x:=v j r q b;by_cases m:j<i+1
 ·rw[if_pos (.inl m)];by_cases n:q=9\/q=10
  ·rw[x,if_pos ((Nat.lt_succ_iff_lt_or_eq.1 m).imp id λe=>⟨e,.inr ⟨rfl,n⟩⟩)]
  ·by_cases o:q=7\/q=8
   ·rw[f,if_pos ((Nat.lt_succ_iff_lt_or_eq.1 m).imp id λe=>⟨e,.inl ⟨rfl,o⟩⟩)]
   ·rw[aaG _ _ _ b,if_neg o,if_neg n,f]
    split
    ·rw[aaG _ _ _ b,if_neg o,if_neg n]
    ·rfl
 ·rw[if_neg (by simp;omega),f,if_neg (by omega)]
def CD.ahg(C:CD):∀u∈C.abV,u.oneCell'=true:=by
 intro u a;obtain⟨i,_,h⟩:=List.mem_flatMap.1 a;exact acy _ u h
def am8(w:World)(a b c:Obj):(((w.alloc a).alloc b).alloc c).heap[w.heap.size]?=some a/\(((w.alloc a).alloc b).alloc c).heap[w.heap.size+1]?=some b/\(((w.alloc a).alloc b).alloc c).heap[w.heap.size+2]?=some c/\(((w.alloc a).alloc b).alloc c).heap.size=w.heap.size+3/\Below w.heap.size w (((w.alloc a).alloc b).alloc c):=by
 have g:=au w a;have e:=au (w.alloc a) b;have f:=au ((w.alloc a).alloc b) c;rw[ag]at e;rw[ag,ag]at f;have k2:∀k,k<w.heap.size+1->((w.alloc a).alloc b).heap[k]?=(w.alloc a).heap[k]?:=λk d=>((ap (w.alloc a).heap.size _).alloc (ab _) b).block k (by rw[ag];exact d);have k3:∀k,k<w.heap.size+2->(((w.alloc a).alloc b).alloc c).heap[k]?=((w.alloc a).alloc b).heap[k]?:=λk d=>((ap ((w.alloc a).alloc b).heap.size _).alloc (ab _) c).block k (by rw[ag,ag];exact d);exact⟨(k3 _ (by omega)).trans ((k2 _ (by omega)).trans g),(k3 _ (by omega)).trans e,f,by simp,(((ap _ _).alloc (ab _) _).alloc (by simp) _).alloc (by simp;omega) _⟩
def agK(C:CD)(l:Bool)(w:World)(h:C.At w)(h4:0<C.n4):Calls PL 8 #[.agg C.val,.bool l] w λe w'=>∃g c,e=.returned (.agg (C.abQ (λi=>abX l (C.x4 i)) g c).val)/\(C.abQ (λi=>abX l (C.x4 i)) g c).At w'/\Below w.heap.size w w':=by
 have HA:=aq h;have WB:KB C w (w.alloc (.cells C.val 27)):=⟨au _ _,(ap _ _).alloc (ab _) _⟩
 have HB:=aq WB;have S4:=aq (h.s4 h4);have r4:Hid (∀W,Below w.heap.size w W->∀j u,C.abV[j]?=some u->W.cell? ⟨C.k4,C.o4+j,none⟩=some u):=aq λW A=>(h.below A).abV;have m4:=h.m4;clear h
 go_enter (fx (by decide) Tryz.func8),Tryz.ntmps8
 obtain⟨f0,f1,f2,f3,f4,f5⟩:=bf HB.out.box
 go_upto_region 2 with fail
 obtain⟨f,B⟩:∃f:World,f=((w.alloc (.cells C.val 27)).alloc (.cells RX 27)).alloc (.cells C.val 27):=⟨_,rfl⟩
 have A3:=aq (am8 w (.cells C.val 27) (.cells RX 27) (.cells C.val 27));rw[<-B]at A3;rw[<-B];have s4:=S4.out;clear B f0 f1 f2 f3 f4 f5;obtain⟨f0,f1,f2,f3,f4,f5⟩:=bf A3.out.1;rw[s4]at f4;have L:Hid (f.heap[w.heap.size+1+1]?=some (.cells C.val 27)):=aq A3.out.2.2.1;have hz:w.heap.size+1+1<f.heap.size:=by rw[A3.out.2.2.2.1];omega
 have dx:w.heap.size+1<f.heap.size:=by omega
 have mF:w.heap.size<f.heap.size:=by omega
 have D:Below f.heap.size f (f.alloc (.cells #[] 85)):=(ap _ _).alloc (ab _) _;have R4:=r4.out _ (A3.out.2.2.2.2.trans (D.mono A3.out.2.2.2.2.size));have hn4:C.n4<=1000:=by omega
 have R4:=aq R4;have M:=aq D;clear D
 go_upto_region 3 with(at_builtin;refine ga (T:=24) (e:=85) VL VM rfl (by decide) (by decide) rfl _ _ rfl f.heap.size f.heap.size rfl (au f (.cells #[] 85)) (ab _) C.k4 C.o4 C.n4 C.c4 C.abV rfl C.abN R4.out C.ahg hn4 ?_;intro v1 w4 fO hv N;have hb:=M.out.trans N;have O:Hid (w4.heap[w.heap.size+1+1]?=some (.cells C.val 27)):=aq ((hb.block _ hz).trans L.out);have fz:=tO O.out;have hz4:=ad O.out;have wC:=aq hb;obtain⟨g,c,E,rfl,F,hg,Q⟩:=Fc.form (w:=f) ⟨fO,hv⟩;have HG:=aq (And.intro F (And.intro hg Q));clear fO hv F hg Q N hb f0 f1 f2 f3 f4 f5;obtain⟨g0,g1,g2,g3,g4,g5⟩:=bf O.out)
 have R:KEn C l w g c 0 false false (w4.setCell ⟨w.heap.size+1+1,4,none⟩ (.slice (some ⟨g,0,none⟩) C.n4 c)):=by
  obtain⟨F,hg,Q⟩:=HG.out;have hs:=A3.out.2.2.2.1;have hlen:=C.abN;rw[<-Q]at hlen;have S:C.n4*12<=E.size:=by simp at hlen;omega
  refine⟨(A3.out.2.2.2.2.trans (wC.out.mono A3.out.2.2.2.2.size)).setCell (p:=⟨_,4,none⟩) (by show w.heap.size<=w.heap.size+1+1;omega) _,Fe O.out,(aZ (by omega)).trans ((wC.out.block _ (by omega)).trans A3.out.2.1),by omega,E,(aZ (by omega)).trans hg,S,λj hj q U=>?_⟩;rw[if_neg (by simp),<-C.ahQ hj U,<-Q,List.getElem?_take_of_lt (by omega)];simp
 have K0:=aq R;clear R M R4 hz mF dx hz4 fz L O wC g0 g1 g2 g3 g4 g5;obtain⟨W5,V⟩:∃W5:World,W5=w4.setCell ⟨w.heap.size+1+1,4,none⟩ (.slice (some ⟨g,0,none⟩) C.n4 c):=⟨_,rfl⟩
 rw[<-V]at K0 ⊢;clear V
 go_wp2
 go_loopw [6] (λv6 wr=>∃i:Nat,i<=C.n4/\v6=.int .i64 i/\KEn C l w g c i false false wr) (λv6 _=>C.n4-(intOf v6).toNat)
 case atStart=>exact⟨0,ac _,rfl,K0.out⟩
 case round=>
  obtain⟨i,hi,rfl,hK⟩:=hrel;have z:=aq hK;clear hK K0;have bx:Hid (wr.heap[w.heap.size+1+1]?=_):=aq z.out.box;obtain⟨g0,g1,g2,g3,g4,g5⟩:=bf bx.out;by_cases m:i<C.n4
  ·have i1:(i:Int)<C.n4:=by omega
   obtain⟨y,b⟩:∃P:World->Prop,P=λW=>∃X Y,KEn C l w g c i X Y W:=⟨_,rfl⟩
   obtain⟨H,s⟩:∃P:World->Prop,P=λW=>∃Y,KEn C l w g c i true Y W:=⟨_,rfl⟩
   obtain⟨I,t⟩:∃P:World->Prop,P=λW=>∃X,KEn C l w g c i X true W:=⟨_,rfl⟩
   obtain⟨Z,x⟩:∃P:World->World->Prop,P=λW a=>(H W->H a)/\(I W->I a):=⟨_,rfl⟩
   have CE:Hid (∀W,y W->W.cell? ⟨g,i*12+(if l then 7 else 8),none⟩=some (.int .i64 ((C.x4 i).n (if l then 7 else 8)))/\W.cell? ⟨g,i*12+(if l then 9 else 10),none⟩=some (.int .i64 ((C.x4 i).n (if l then 9 else 10)))):=aq λW hW=>by rw[b]at hW;obtain⟨_,_,hW⟩:=hW;exact⟨hW.cell m (.inl rfl),hW.cell m (.inr rfl)⟩
   have CO:Hid (∀W a,y W->Below W.heap.size W a->y a/\Z W a):=aq λW a h A=>by
    subst b s t x;exact⟨h.imp λ_ h=>h.imp λ_ h=>h.on A,λh=>h.imp λ_ h=>h.on A,λh=>h.imp λ_ h=>h.on A⟩
   have CF:Hid (∀W,y W->(∀o,W.frozen? ⟨g,o,none⟩=false)/\∀q,q<12->∃v,W.cell? ⟨g,i*12+q,none⟩=some v):=aq λW h=>by rw[b]at h;obtain⟨_,_,h⟩:=h;exact⟨h.row.elim λ_ k=>tO k.1,λq U=>h.has m U⟩
   have CS1:Hid (∀W a,y W->a=((W.setCell ⟨g,i*12+7,none⟩ (.int .i64 ((C.x4 i).n (if l then 7 else 8)))).setCell ⟨g,i*12+8,none⟩ (.int .i64 ((C.x4 i).n (if l then 7 else 8))))->y a/\Z W a/\H a):=aq λW a h e=>by
    subst b s t x e;obtain⟨X,Y,h⟩:=h;exact⟨⟨_,_,h.ai2 m⟩,⟨λh=>h.imp λ_ h=>h.ai2 m,fun⟨_,h⟩=>⟨_,h.ai2 m⟩⟩,_,h.ai2 m⟩
   have CS2:Hid (∀W a,y W->a=((W.setCell ⟨g,i*12+9,none⟩ (.int .i64 ((C.x4 i).n (if l then 9 else 10)))).setCell ⟨g,i*12+10,none⟩ (.int .i64 ((C.x4 i).n (if l then 9 else 10))))->y a/\Z W a/\I a):=aq λW a h e=>by
    subst b s t x e;obtain⟨X,Y,h⟩:=h;exact⟨⟨_,_,h.ai3 m⟩,⟨fun⟨_,h⟩=>⟨_,h.ai3 m⟩,λh=>h.imp λ_ h=>h.ai3 m⟩,_,h.ai3 m⟩
   have CN:Hid (∀W,H W->I W->KEn C l w g c (i+1) false false W):=aq λW h k=>by subst s t;exact h.elim λ_ h=>k.elim λ_ k=>h.next k
   have CL:Hid (∀W a,Z W a->(H W->H a)/\(I W->I a)):=aq λW a h=>by rw[x]at h;exact h
   have CK:Hid (y wr):=aq (by rw[b];exact⟨_,_,z.out⟩);clear b s t x;cases l
   all_goals (
    go_wp2_with fail
    refine wp_region_noPanic ?_;refine ig y Z (λj=>j != 26&&j != 29) (λj _ W=>(j=26->H W)/\(j=29->I W)) rfl (by kernel_rfl) (λ_ _ W a hle h=>⟨λe=>(CL.out _ _ hle).1 (h.1 e),λe=>(CL.out _ _ hle).2 (h.2 e)⟩) (λ_ _ _ _ _ _ _ _ h=>h) ?_ ?_
    ·exact(CO.out _ _ CK.out (ap _ _).drew).1
    ·iterate 26 (
      apply aY
      case hE=>rfl
      case h=>
       intro vs W d hd;obtain⟨p7,p9⟩:=CE.out W d;have hL:=(CO.out W W d (ap _ _)).2;simp only[if_true,if_false,ar]at p7 p9
       go_simp
       first
        |with_reducible exact rfl
        |with_reducible exact⟨rfl,d,hL⟩
        |(go_at_call 11;(with_reducible refine(fU _ _ _).mono ?_);rintro e a⟨rfl,A⟩;exact⟨_,rfl,rfl,CO.out _ _ d A⟩)
        |trace_state
      case hb=>exact hbT)
     apply eH
     case hE=>rfl
     case hb=>exact hbT
     case h=>
      intro vs W d hd;obtain⟨fz,J⟩:=CF.out W d;obtain⟨v7,h7⟩:=J 7 (by omega);obtain⟨v8,h8⟩:=J 8 (by omega);have k1:=CS1.out W _ d rfl;simp only[if_true,if_false,ar]at k1;clear J;have K1:=aq k1;clear k1
      go_simp
      exact K1.out
     iterate 2 (
      apply aY
      case hE=>rfl
      case h=>
       intro vs W d hd;have hL:=(CO.out W W d (ap _ _)).2
       go_simp
       with_reducible exact⟨rfl,d,hL⟩
      case hb=>exact hbT)
     apply eH
     case hE=>rfl
     case hb=>exact hbT
     case h=>
      intro vs W d hd;obtain⟨fz,J⟩:=CF.out W d;obtain⟨v7,h7⟩:=J 9 (by omega);obtain⟨v8,h8⟩:=J 10 (by omega);have k1:=CS2.out W _ d rfl;simp only[if_true,if_false,ar]at k1;clear J;have K1:=aq k1;clear k1
      go_simp
      exact K1.out
     refine cP λvs W d hd=>?_;have K2:=aq (CN.out W ((hd 26 (by omega) rfl).1 rfl) ((hd 29 (by omega) rfl).2 rfl));refine NoPanic.normal ?_;clear d hd
     go_wp2
     exact⟨⟨i+1,m,by go_num,K2.out⟩,by simp only[intOf];omega⟩)
  ·obtain rfl:i=C.n4:=by omega
   have K:=z.out.res;obtain⟨y0,y1,y2,y3,y4,y5⟩:=bf K;have fz:=tO K;have hzr:=ad K;clear K
   go_wp2
   have K:=z.out.res;have hWF:=nC (u0:=.int .i64 C.l) (u1:=.int .i64 C.p) (u2:=.slice C.b2 C.n2 C.c2) (u3:=.slice C.b3 C.n3 C.c3) (u4:=.slice (some ⟨g,0,none⟩) C.n4 c) (u5:=.slice C.b5 C.n5 C.c5) K;refine bodyPost_ret (v:=.agg (C.abQ (λi=>abX l (C.x4 i)) g c).val) ?_ rfl ⟨g,c,rfl,?_,?_⟩
   ·obtain⟨a0,a1,a2,a3,a4,a5⟩:=bf hWF;simp[results,Tryz.results8,go_sem,a0,a1,a2,a3,a4,a5,CD.abQ]
   ·have qv:=Below.zQ z.out.low (k:=w.heap.size+1) (by omega) (.int .i64 C.l) (.int .i64 C.p) (.slice C.b2 C.n2 C.c2) (.slice C.b3 C.n3 C.c3) (.slice (some ⟨g,0,none⟩) C.n4 c) (.slice C.b5 C.n5 C.c5);obtain⟨E,e,S,hr⟩:=z.out.row;have ho:=z.out.own;have e':=(cM (W:=wr) (r:=w.heap.size+1) (u0:=.int .i64 C.l) (u1:=.int .i64 C.p) (u2:=.slice C.b2 C.n2 C.c2) (u3:=.slice C.b3 C.n3 C.c3) (u4:=.slice (some ⟨g,0,none⟩) C.n4 c) (u5:=.slice C.b5 C.n5 C.c5) (show g≠w.heap.size+1 by omega)).trans e;refine ahZ HA.out qv (λi=>⟨rfl,rfl,rfl,rfl,rfl,rfl⟩) (ad e') λj hj q U=>?_;have:=hr j hj q U;rw[if_pos (.inl hj)]at this;simp only[ae,e'];exact this
   ·exact Below.zQ z.out.low (by omega) _ _ _ _ _ _
end Go.Proofs
namespace Go.Proofs
open Go.RowKit Go.Shelf
set_option maxRecDepth 100000
set_option maxHeartbeats 4000000
abbrev CD.mb(C:CD)(l:Bool)(g c:Nat):CD:=C.abQ (λi=>abX l (C.x4 i)) g c
def ahi(C:CD)(l:Bool)(g c:Nat):ahV C (C.mb l g c):=
 ⟨rfl,rfl,rfl,rfl,rfl,rfl,rfl,λi=>⟨rfl,λj a=>by show(if j=7\/j=8 then _ else if j=9\/j=10 then _ else _)=_;rw[if_neg (by omega),if_neg (by omega)],rfl,rfl⟩,rfl,λi=>⟨rfl,rfl⟩⟩
def aax{C:CD}(l:Bool)(g c:Nat)(hc:C.cx=0):(C.mb l g c).cx=0:=
 (ahi C l g c).check (λi hi=>by
  obtain⟨a,b⟩:=ah8 hc hi
  cases l<;>(refine⟨?_,?_⟩<;>simp[eK,abX,CD.mb,CD.abQ]<;>omega)) (λi hi=>by
  have:=(abv hc hi).2.1;show bO (C.x5 i).2.2 0 12=true
  simp[bO];omega) hc
def stE(C:CD)(l:Bool)(g k:Nat):Int:=if l then(nT C g k).2.1 else(nT C g k).2.2
def goE(C:CD)(l:Bool)(g k:Nat):Int:=if l then(Nu C g k).2.2.2.1 else(Nu C g k).2.2.2.2
def amb(C:CD)(l:Bool)(g c q k:Nat):nT (C.mb l g c) q k=((nT C q k).1,stE C l q k,stE C l q k):=by
 induction k with
 |zero=>cases l<;>rfl
 |succ k a=>
  rw[nT,a];cases l<;>rfl
def ace(C:CD)(l:Bool)(g c q k:Nat):Nu (C.mb l g c) q k=((nT C q k).1,stE C l q k,stE C l q k,goE C l q k,goE C l q k):=by
 rw[Nu,amb];cases l<;>rfl
def afl{L:List Int}{p:Nat}{m:Int}{n g:Nat}(h:∀q,q<g+n->L.getD (q*25+p*5+1) 0=L.getD (q*25+p*5+2) 0/\L.getD (q*25+p*5+3) 0=L.getD (q*25+p*5+4) 0):kU L p m n g false≠0:=by
 induction n generalizing g with
 |zero=>show(2:Int)≠0;decide
 |succ n a=>
  rw[kU];obtain⟨b,c⟩:=h g (by omega)
  split
  ·decide
  ·rename_i hb;rw[b,<-c,Bool.eq_false_iff.2 hb];exact a λq d=>h q (by omega)
def ahj{C:CD}(hc:C.cx=0){p:Nat}(b:p<C.n4)(m:Int)(l:Bool)(g c:Nat):kU (C.mb l g c).P0 p m C.n5 0 false≠0:=by
 have d:=aax l g c hc;refine afl λq a=>?_;have a:q<(C.mb l g c).n5:=by rw[aa]at a;exact a
 have b:p<(C.mb l g c).n4:=b;rw[CD.Z0 d a b (by omega),CD.Z0 d a b (by omega),CD.Z0 d a b (by omega),CD.Z0 d a b (by omega),ace];exact⟨rfl,rfl⟩
def ai7{C:CD}(hc:C.cx=0)(l:Bool)(g c:Nat){x:nR}(n:x∈(C.mb l g c).Cv):x.2.2.2.1=1:=by
 have f:=aax l g c hc;obtain⟨a,b,p,u,o,i,d,rfl⟩:=ad1.1 n;have r:a<(C.mb l g c).n5:=by omega
 have key:∀q,q<(C.mb l g c).n5->(C.mb l g c).P0.getD (q*25+p*5+1) 0=(C.mb l g c).P0.getD (q*25+p*5+2) 0/\(C.mb l g c).P0.getD (q*25+p*5+3) 0=(C.mb l g c).P0.getD (q*25+p*5+4) 0:=λq j=>by
  rw[CD.Z0 f j i (by omega),CD.Z0 f j i (by omega),CD.Z0 f j i (by omega),CD.Z0 f j i (by omega),ace];exact⟨rfl,rfl⟩
 obtain⟨k1,k2⟩:=key a r;obtain⟨k3,s⟩:=key b o;simp only[IU]at d⊢;rw[k1,<-k2,k3,<-s]at d⊢;generalize(C.mb l g c).P0.getD (a*25+p*5+2) 0=a2 at *;generalize(C.mb l g c).P0.getD (a*25+p*5+3) 0=a3 at *;generalize(C.mb l g c).P0.getD (b*25+p*5+2) 0=k at *;generalize(C.mb l g c).P0.getD (b*25+p*5+3) 0=m at *;unfold abO at d⊢;have e:(decide (a3<=k)||decide (m<=a2)) = !(decide (a2<m)&&decide (k<a3)):=by
  by_cases e1:a2<m<;>by_cases t:k<a3<;>simp[e1,t]<;>omega
 rw[e]at d⊢
 cases h:(decide (a2<m)&&decide (k<a3)) with
 |true=>rfl
 |false=>rw[h]at d;exact absurd rfl d
attribute [local go_sem] Oper.semAt_some
set_option maxHeartbeats 40000000
structure JLs(C:CD)(w:World)(R:List (Value×List nR))(S:List (Value×List Int))(W:World):Prop where
 box:W.heap[w.heap.size]?=some (.cells C.val 27)
 low:Below w.heap.size w W
 r:∀q∈R,b7 W q.1 q.2
 s:∀q∈S,bB W q.1 q.2
def JLs.on{C:CD}{w W c:World}{R:List (Value×List nR)}{S:List (Value×List Int)}(h:JLs C w R S W)(a:Below W.heap.size W c):JLs C w R S c:=
 ⟨(a.block _ (ad h.box)).trans h.box,Below.on h.low a,λq b=>(h.r q b).on a,λq b=>(h.s q b).on a⟩
def JLs.afO{C:CD}{w W:World}{R:List (Value×List nR)}{S:List (Value×List Int)}(h:JLs C w R S W){v:Value}{l:List nR}(k:b7 W v l):JLs C w ((v,l)::R) S W:=
 ⟨h.box,h.low,λq a=>by rcases List.mem_cons.1 a with rfl|a;exact k;exact h.r q a,h.s⟩
def JLs.aop{C:CD}{w W:World}{R:List (Value×List nR)}{S:List (Value×List Int)}(h:JLs C w R S W){v:Value}{l:List Int}(k:bB W v l):JLs C w R ((v,l)::S) W:=
 ⟨h.box,h.low,h.r,λq a=>by rcases List.mem_cons.1 a with rfl|a;exact k;exact h.s q a⟩
def JLs.start{C:CD}{w W:World}(h:KB C w W):JLs C w [] [] W:=⟨h.box,h.low,λ_ h=>(by cases h),λ_ h=>(by cases h)⟩
abbrev CD.ai9(C:CD)(g c:Nat):Array Value:=#[.int .i64 C.l,.int .i64 C.p,.slice C.b2 C.n2 C.c2,.slice C.b3 C.n3 C.c3,.slice (some ⟨g,0,none⟩) C.n4 c,.slice C.b5 C.n5 C.c5]
def ahk(C:CD)(l:Bool)(q k:Nat):nR:=((nT C q k).1,stE C l q k,stE C l q k,goE C l q k,goE C l q k)
def Q3(C:CD)(l:Bool)(q:Nat):List nR:=(List.range C.n4).map (ahk C l q)
def ahl(C:CD)(l:Bool)(q g c:Nat):mD (C.mb l g c) q C.n4=Q3 C l q:=List.map_congr_left λk _=>ace C l g c q k
def ad8(C:CD)(l:Bool)(g c:Nat):(C.mb l g c).P0=(C.mb l 0 0).P0:=by
 unfold CD.P0;exact congrArg (λf=>ac7 f _ _ _ _) rfl
def ahm(C:CD)(l:Bool)(g c:Nat):(C.mb l g c).Cv=(C.mb l 0 0).Cv:=by
 unfold CD.Cv;rw[ad8];rfl
def ad9(V:∀w,Calls PL 6 #[] w (aO (.bool true) w))(C:CD)(g m:Int)(w:World)(h:C.Mem w)(hg:0<=g/\g<=255)(hm:0<=m/\m<=65535) :
 Calls PL 3 #[.agg C.val,.int .u8 g,.int .u16 m] w (aO (.bool true) w):=by
 have HM:Hid (∀W,Below w.heap.size w W->C.Mem W):=aq λW a=>h.below a;have H:=aq (show KB C w (w.alloc (.cells C.val 27)) from⟨au _ _,(ap _ _).alloc (ab _) _⟩);have HW:=aq V;have HN:=aq (And.intro hg hm);clear h V hg hm;by_cases E:C.LR=true
 case neg=>
  have X:C.LR=false:=by simpa using E
  have HG:Hid (∀W,C.Mem W->Calls PL 5 #[.agg C.val] W (aO (.bool false) W)):=aq λW B=>by have:=abE C W B;rwa[X]at this
  clear E X
  go_enter (fx (by decide) Tryz.func3),Tryz.ntmps3
  obtain⟨f,o,p,u,f4,v⟩:=bf H.out.box
  go_wp2_with (first
   |(go_at_call 5;refine(HG.out _ (HM.out _ H.out.low)).mono ?_;rintro e w1⟨rfl,K⟩;have L:=aq (H.out.on K);clear K)
   |(go_at_call 6;refine(HW.out _).mono ?_;rintro e w2⟨rfl,Y⟩;have K2:=aq (L.out.on Y);clear Y))
  go_ret
  exact⟨rfl,K2.out.low⟩
 have I:Hid (C.small=true/\C.cx=0):=aq (by simpa[CD.LR]using E);have Z:Hid (∀W,Below w.heap.size w W->C.At W):=aq λW a=>CD.At.Ri (HM.out W a) I.out.1;have HG:Hid (∀W,C.Mem W->Calls PL 5 #[.agg C.val] W (aO (.bool true) W)):=aq λW B=>by have:=abE C W B;rwa[E]at this
 clear E;by_cases hn5:C.n5=0
 ·have asu:(C.n5:Int)=0:=by omega
  clear hn5
  go_enter (fx (by decide) Tryz.func3),Tryz.ntmps3
  obtain⟨f,o,p,u,f4,v⟩:=bf H.out.box
  go_wp2_with (first
   |(go_at_call 5;refine(HG.out _ (HM.out _ H.out.low)).mono ?_;rintro e w1⟨rfl,K⟩;have L:=aq (H.out.on K);clear K;clear f o p u f4 v;obtain⟨f,o,p,u,f4,v⟩:=bf L.out.box)
   |(go_at_call 6;refine(HW.out _).mono ?_;rintro e w2⟨rfl,Y⟩;have K2:=aq (L.out.on Y);clear Y))
  go_ret
  exact⟨rfl,K2.out.low⟩
 obtain⟨h41,h42⟩:=L2 I.out.2;have h5:=xu I.out.2;obtain⟨q,hq⟩:∃q:Nat,g % (C.n5:Int)=(q:Int):=⟨(g % (C.n5:Int)).toNat,by have:=Int.emod_nonneg g (show(C.n5:Int)≠0 by omega);omega⟩
 have hq5:q<C.n5:=by have:=Int.emod_lt_of_pos g (show(0:Int)<C.n5 by omega);omega
 have OQ:=HN.out.1.1;have hg1:=HN.out.1.2;have hm0:=HN.out.2.1;have hm1:=HN.out.2.2;obtain⟨F,hmm⟩:∃t,m % 1000=t:=⟨_,rfl⟩
 have asx:0<=F/\F<=999:=by omega
 have hbt:Hid (bO F 0 999=true):=aq (abD.2 asx);have amd:(C.n5:Int)≠0:=by omega
 obtain⟨N,hN⟩:∃N,N=(C.mb false 0 0).Cv.length:=⟨_,rfl⟩
 have asy:N<=15:=by rw[hN,CD.Cv,acE,abw];exact abP _ h42 h5
 have EN:Hid (∀(l:Bool)W,C.At W->Calls PL 8 #[.agg C.val,.bool l] W λe w'=>∃g c,e=.returned (.agg (C.ai9 g c))/\(C.mb l g c).At w'/\Below W.heap.size W w'):=aq λl W B=>agK C l W B (by omega);have VE:Hid (∀(l:Bool)W g c,(C.mb l g c).At W->Calls PL 7 #[.agg (C.ai9 g c),.int .i64 q] W λe w'=>∃b d,e=.returned (.tuple #[.slice b C.n4 d,.int .i64 0])/\b7 w' (.slice b C.n4 d) (Q3 C l q)/\Below W.heap.size W w'):=aq λl W g c B=>by
  rw[<-ahl C l q g c];exact abq B (aax l g c I.out.2) hq5
 have SE:Hid (∀W g c,(C.mb true g c).At W->Calls PL 9 #[.agg (C.ai9 g c),.int .i64 F] W λe w'=>∃b d,e=.returned (.tuple #[.slice b C.n4 d,.int .i64 0])/\bB w' (.slice b C.n4 d) (tB (C.mb true 0 0).P0 F C.n5 C.n4)/\Below W.heap.size W w'):=aq λW g c B=>by
  have:=amc B (aax true g c I.out.2) hbt.out;rw[ad8]at this;exact this
 have TE:Hid (∀W g c,(C.mb false g c).At W->Calls PL 10 #[.agg (C.ai9 g c)] W λe w'=>∃b d,e=.returned (.tuple #[.slice b N d,.int .i64 0])/\b7 w' (.slice b N d) (C.mb false 0 0).Cv/\Below W.heap.size W w'):=aq λW g c B=>by
  have:=abl B (aax false g c I.out.2);rw[ahm,<-hN]at this;exact this
 have HNN:=aq hN;clear hN
 go_enter (fx (by decide) Tryz.func3),Tryz.ntmps3
 obtain⟨f,o,p,u,f4,v⟩:=bf H.out.box
 go_upto_region 4 with(first
  |(go_at_call 5;refine(HG.out _ (HM.out _ H.out.low)).mono ?_;rintro e w1⟨rfl,K⟩;have L:=aq (H.out.on K);clear K;clear f o p u f4 v;obtain⟨f,o,p,u,f4,v⟩:=bf L.out.box))
 try rw[hq]
 try rw[hmm]
 clear hq hmm hm0 hm1 OQ hg1 amd;have V0:Hid (∀W,C.At W->Calls PL 7 #[.agg C.val,.int .i64 q] W λe w'=>∃b d,e=.returned (.tuple #[.slice b C.n4 d,.int .i64 0])/\b7 w' (.slice b C.n4 d) (mD C q C.n4)/\Below W.heap.size W w'):=aq λW B=>abq B I.out.2 hq5;have J1:=aq (JLs.start L.out)
 go_upto_region 5 with(go_at_call 7;(with_reducible refine(V0.out _ (Z.out _ L.out.low)).mono ?_);rintro e w2⟨b1,c1,rfl,A,a⟩;have J2:=aq ((J1.out.on a).afO A);clear A a;clear f o p u f4 v;obtain⟨f,o,p,u,f4,v⟩:=bf J2.out.box)
 go_upto_region 6 with(first
  |(go_at_call 8;(with_reducible refine(EN.out true _ (Z.out _ J2.out.low)).mono ?_);rintro e w3⟨g3,d3,rfl,y,a⟩;have A3:=aq y;have J3:=aq (J2.out.on a);clear y a f o p u f4 v;obtain⟨f,o,p,u,f4,v⟩:=bf J3.out.box)
  |(go_at_call 7;(with_reducible refine(VE.out true _ _ _ A3.out).mono ?_);rintro e w4⟨b2,c2,rfl,A,a⟩;have J4:=aq ((J3.out.on a).afO A);clear A a f o p u f4 v;obtain⟨f,o,p,u,f4,v⟩:=bf J4.out.box))
 go_upto_region 7 with(first
  |(go_at_call 8;(with_reducible refine(EN.out false _ (Z.out _ J4.out.low)).mono ?_);rintro e w5⟨g5,d5,rfl,y,a⟩;have A5:=aq y;have J5:=aq (J4.out.on a);clear y a f o p u f4 v;obtain⟨f,o,p,u,f4,v⟩:=bf J5.out.box)
  |(go_at_call 7;(with_reducible refine(VE.out false _ _ _ A5.out).mono ?_);rintro e w6⟨b3,c3,rfl,A,a⟩;have J6:=aq ((J5.out.on a).afO A);clear A a f o p u f4 v;obtain⟨f,o,p,u,f4,v⟩:=bf J6.out.box))
 go_upto_region 8 with(first
  |(go_at_call 8;(with_reducible refine(EN.out true _ (Z.out _ J6.out.low)).mono ?_);rintro e w7⟨g7,d7,rfl,y,a⟩;have A7:=aq y;have J7:=aq (J6.out.on a);clear y a f o p u f4 v;obtain⟨f,o,p,u,f4,v⟩:=bf J7.out.box)
  |(go_at_call 9;(with_reducible refine(SE.out _ _ _ A7.out).mono ?_);rintro e w8⟨b4,c4,rfl,A,a⟩;have J8:=aq ((J7.out.on a).aop A);clear A a f o p u f4 v;obtain⟨f,o,p,u,f4,v⟩:=bf J8.out.box))
 go_upto_region 9 with(first
  |(go_at_call 8;(with_reducible refine(EN.out false _ (Z.out _ J8.out.low)).mono ?_);rintro e w9⟨g9,d9,rfl,y,a⟩;have A9:=aq y;have J9:=aq (J8.out.on a);clear y a f o p u f4 v;obtain⟨f,o,p,u,f4,v⟩:=bf J9.out.box)
  |(go_at_call 10;(with_reducible refine(TE.out _ _ _ A9.out).mono ?_);rintro e VD⟨b5,c5,rfl,A,a⟩;have JX:=aq ((J9.out.on a).afO A);clear A a f o p u f4 v))
 obtain⟨RV,D⟩:∃R,R=[(aw b5 N c5,(C.mb false 0 0).Cv),(aw b3 C.n4 c3,Q3 C false q),(aw b2 C.n4 c2,Q3 C true q),(aw b1 C.n4 c1,mD C q C.n4)]:=⟨_,rfl⟩
 obtain⟨J,O⟩:∃R,R=[(aw b4 C.n4 c4,tB (C.mb true 0 0).P0 F C.n5 C.n4)]:=⟨_,rfl⟩
 have HX:Hid (JLs C w RV J VD):=aq (by rw[D,O];exact JX.out);have R1:Hid (∀W,JLs C w RV J W->b7 W (.slice b1 C.n4 c1) (mD C q C.n4)):=aq λW h=>by rw[D]at h;exact h.r (_,_) (.tail _ (.tail _ (.tail _ (.head _))))
 have R2:Hid (∀W,JLs C w RV J W->b7 W (.slice b2 C.n4 c2) (Q3 C true q)):=aq λW h=>by rw[D]at h;exact h.r (_,_) (.tail _ (.tail _ (.head _)))
 have R3:Hid (∀W,JLs C w RV J W->b7 W (.slice b3 C.n4 c3) (Q3 C false q)):=aq λW h=>by rw[D]at h;exact h.r (_,_) (.tail _ (.head _))
 have R5:Hid (∀W,JLs C w RV J W->b7 W (.slice b5 N c5) (C.mb false 0 0).Cv):=aq λW h=>by rw[D]at h;exact h.r (_,_) (.head _)
 have R4:Hid (∀W,JLs C w RV J W->bB W (.slice b4 C.n4 c4) (tB (C.mb true 0 0).P0 F C.n5 C.n4)):=aq λW h=>by rw[O]at h;exact h.s (_,_) (.head _)
 clear D O JX J1 J2 J3 J4 J5 J6 J7 J8 J9 A3 A5 A7 A9 EN VE SE TE V0
 go_wp2
 go_loopw [19] (λP wr=>∃i:Nat,i<=C.n4/\P=.int .i64 i/\JLs C w RV J wr) (λP _=>C.n4-(intOf P).toNat)
 case atStart=>exact⟨0,ac _,rfl,HX.out⟩
 case round=>
  obtain⟨i,hi,rfl,M⟩:=hrel;have U:=aq M;clear M HX;by_cases z:i<C.n4
  ·have i2:(i:Int)<C.n4:=by omega
   obtain⟨k1,o1,e1',e1⟩:=L0 (R1.out _ U.out) (i:=i) (by rw[R7];exact z);obtain⟨k2,o2,e2',e2⟩:=L0 (R2.out _ U.out) (i:=i) (by rw[Q3,aB,aF];exact z);obtain⟨k3,o3,e3',e3⟩:=L0 (R3.out _ U.out) (i:=i) (by rw[Q3,aB,aF];exact z);have hx1:(mD C q C.n4)[i]'(by rw[R7];exact z)=Nu C q i:=by simp[mD]
   have NV:(Q3 C true q)[i]'(by rw[Q3,aB,aF];exact z)=ahk C true q i:=by simp[Q3]
   have hx3:(Q3 C false q)[i]'(by rw[Q3,aB,aF];exact z)=ahk C false q i:=by simp[Q3]
   rw[hx1]at e1;rw[NV]at e2;rw[hx3]at e3;obtain⟨x,hx⟩:∃x,x=Nu C q i:=⟨_,rfl⟩
   have aou:ahk C true q i=(x.1,x.2.1,x.2.1,x.2.2.2.1,x.2.2.2.1):=by rw[hx];rfl
   have aow:ahk C false q i=(x.1,x.2.2.1,x.2.2.1,x.2.2.2.2,x.2.2.2.2):=by rw[hx];rfl
   rw[<-hx]at e1;rw[aou]at e2;rw[aow]at e3;obtain⟨x0,x1,x2,x3,x4⟩:=x;have E1:=aq e1;have E2:=aq e2;have E3:=aq e3;have q3:=yM;have q4:=Co;subst e1' e2' e3';clear e1 e2 e3 hx hx1 NV hx3 aou aow;have hm:PL.follows .mixedOrders=true:=rfl;have A0:=λn os=>E1.out _ (s7 wr n os);have A2:=λn os=>E2.out _ (s7 wr n os);have A3:=λn os=>E3.out _ (s7 wr n os)
   go_upto_region 14 with fail
   go_quiet_grown (first|(go_at_call 11;refine Calls.grown_of (afN _ _ _)))
   go_wp2
   exact⟨⟨i+1,z,by go_num,U.out.on (s7 wr nq osq)⟩,by simp only[intOf];omega⟩
  ·have zE:i=C.n4:=by omega
   have i2:¬((i:Int)<C.n4):=by omega
   clear z zE R1 R2 R3
   go_wp2
   go_loopw [20] (λQ wr=>∃i:Nat,i<=C.n4/\Q=.int .i64 i/\JLs C w RV J wr) (λQ _=>C.n4-(intOf Q).toNat)
   case atStart=>exact⟨0,ac _,rfl,U.out⟩
   case round=>
    obtain⟨j,hj,rfl,M⟩:=hrel;have JS:=aq M;clear M U;by_cases z:j<C.n4
    ·have i3:(j:Int)<C.n4:=by omega
     obtain⟨bS,cS,eS,hS⟩:=R4.out _ JS.out;rw[Nt]at eS hS;obtain⟨kS,oS,rfl,hkS,hcS⟩:=hS (by omega);obtain⟨eS,_,_⟩:=Value.slice.inj eS;subst eS;obtain⟨sg,S⟩:∃sg,sg=kU (C.mb true 0 0).P0 j F C.n5 0 false:=⟨_,rfl⟩
     have hcp:wr.cell? ⟨kS,oS+j,none⟩=some (.int .i64 sg):=by
      rw[hcS j (by omega)];show some (Value.int .i64 ((tB (C.mb true 0 0).P0 F C.n5 C.n4).getD j 0))=_;rw[List.getD_eq_getElem?_getD,tB,List.getElem?_map,List.getElem?_range z,S];rfl
     have hs0:¬sg=0:=by rw[S];exact ahj I.out.2 z F true 0 0
     clear hcS hS S
     go_wp2
     exact⟨⟨j+1,z,by go_num,JS.out⟩,by simp only[intOf];omega⟩
    ·have i3:¬((j:Int)<C.n4):=by omega
     clear z R4
     go_wp2
     go_loopw [21] (λT wr=>∃i:Nat,i<=N/\T=.int .i64 i/\JLs C w RV J wr) (λT _=>N-(intOf T).toNat)
     case atStart=>exact⟨0,ac _,rfl,JS.out⟩
     case round=>
      obtain⟨k,hk,rfl,M⟩:=hrel;have JT:=aq M;clear M JS;by_cases z:k<N
      ·have i4:(k:Int)<N:=by omega
       have Ll:k<(C.mb false 0 0).Cv.length:=by rw[<-HNN.out];exact z
       obtain⟨kT,oT,eT',eT⟩:=L0 (R5.out _ JT.out) (i:=k) Ll;have h1:=ai7 I.out.2 false 0 0 (List.getElem_mem Ll);obtain⟨_,_,_,d3,_⟩:=eT wr (ap _ _);rw[h1]at d3;subst eT';clear eT h1
       go_wp2
       exact⟨⟨k+1,z,by go_num,JT.out⟩,by simp only[intOf];omega⟩
      ·have i4:¬((k:Int)<N):=by omega
       clear z
       go_wp2_with (go_at_call 6;refine(HW.out _).mono ?_;rintro e w13⟨rfl,a⟩;have hB9:=Below.on JT.out.low a;clear a)
       go_ret
       exact⟨rfl,hB9⟩
end Go.Proofs
