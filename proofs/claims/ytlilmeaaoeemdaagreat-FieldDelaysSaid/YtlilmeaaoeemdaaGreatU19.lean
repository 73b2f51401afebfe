/- Part of the proof of FieldDelays. -/
import Derived.Test.YtlilmeaaoeemdaaGreatU18
set_option linter.all false
open List renaming getD_eq_getElem?_getD->aa,getElem?_eq_getElem->ab,drop_zero->ac
open Go.Lib renaming hid->ad
open Nat renaming zero_le->ae,le_refl->ag
open Go.Proofs renaming getElem?_lt'->ai
open Go.Proofs.Below renaming on->ao
open Go.RowKit.Below renaming refl->ap
open Int renaming tmod_eq_emod_of_nonneg->aq
namespace Go.Proofs
open Go.RowKit Go.Shelf
attribute [local go_sem] Oper.semAt_some
set_option maxRecDepth 100000
set_option maxHeartbeats 40000000
def abk(ps:List Int)(k:Nat):List Nat:=(List.range k).map λi=>(chI ps i % 13).toNat
def abM(ps:List Int)(k:Nat):b7 (abk ps (k+1))=b7 (abk ps k)++[((chI ps k % 13).toNat:Int)]:=by simp[b7,abk,List.range_succ]
def aby(ps:List Int)(k:Nat):(abk ps k).length=k:=by simp[abk]
def xu(t:List Nat):(b7 t).length=t.length:=by simp[b7]
def ahI(ps:List Int)(k:Nat):∀x∈abk ps k,x<=12:=λx a=>by
 obtain⟨i,_,rfl⟩:=List.mem_map.1 a;have:=Int.emod_lt_of_pos (chI ps i) (show(0:Int)<13 by decide);omega
def abz{t:List Nat}(h:∀x∈t,x<=12)(i:Nat):0<=(b7 t).getD i 0/\(b7 t).getD i 0<=12:=by
 rw[aa]
 rcases Nat.lt_or_ge i (b7 t).length with hi|hi
 ·rw[ab hi];have a:i<t.length:=by rwa[xu]at hi
  have:=h t[i] (List.getElem_mem a);simp[b7];omega
 ·rw[List.getElem?_eq_none hi];exact⟨by decide,by decide⟩
def aco{l:List Int}{i:Nat}(hi:i<l.length):(l.take (i+1)).sum=(l.take i).sum+l.getD i 0:=by
 rw[List.take_add_one,ab hi,List.sum_append];simp[aa,hi]
def ahJ(b:Option Addr)(n c:Nat)(l:List Int)(w:World)(h:bB w (.slice b n c) l)(f:l.length=n)(hb:∀i,0<=l.getD i 0/\l.getD i 0<=12)(hl:n<=20):Calls PL 10 #[.slice b n c] w (λe w'=>e=.returned (.int .i64 l.sum)/\w=w'):=by
 obtain⟨b',A,e,h⟩:=h;cases e;have HH:=ad h;have m:Hid (∀i,i<=l.length->0<=(l.take i).sum/\(l.take i).sum<=12*i):=ad λi hi=>by
  induction i with
  |zero=>simp
  |succ i r=>
   have:=r (by omega);have:=hb i;rw[aco (by omega)];omega
 have t:=ad hb;obtain⟨n,f⟩:∃n,n=l.length:=⟨_,rfl⟩
 rw[<-f]at HH m hl ⊢;have p:=ad f;clear h hb f
 go_enter (fx (by decide) Tryz.func10),Tryz.ntmps10
 go_wp2
 go_loopw [3,4] (λu j wr=>∃i:Nat,i<=n/\j=.int .i64 i/\u=.int .i64 (l.take i).sum/\wr=w) (λ_ j _=>n-(intOf j).toNat)
 case atStart=>exact⟨0,ae _,rfl,by simp,rfl⟩
 case round=>
  obtain⟨i,hi,rfl,rfl,v⟩:=hrel;subst v;by_cases q:i<n
  ·have B:(i:Int)<n:=by omega
   obtain⟨k,o,rfl,C,hc⟩:=HH.out (by omega);have c0:wr.cell? ⟨k,o+i,none⟩=some (.int .i64 (l.getD i 0)):=hc i (by omega);have y:=t.out i;have hs:=m.out i hi;have g:=aco (l:=l) (i:=i) (by rw[<-p.out];exact q);obtain⟨x,a⟩:∃x,x=l.getD i 0:=⟨_,rfl⟩
   obtain⟨s,d⟩:∃x,x=(l.take i).sum:=⟨_,rfl⟩
   rw[<-a]at c0 y g;rw[<-d]at hs g ⊢;have z:=ad g;have w1:IntKind.i64.wrap (s+x)=s+x:=IntWalk.i64_in _ (by omega);have w2:wrap64 (s+x)=s+x:=IntWalk.wrap64_in _ (by omega);clear hc a d g
   go_wp2
   exact⟨⟨i+1,q,by go_num,by rw[z.out],trivial⟩,by simp only[intOf];omega⟩
  ·obtain rfl:i=n:=by omega
   have e:l.take i=l:=by rw[p.out,List.take_length]
   rw[e]
   go_wp2
   go_ret
   exact⟨rfl,by trivial⟩
structure JD2(C:CD)(w:World)(k:Nat)(V:Array Value)(W:World):Prop where
 box:W.heap[w.heap.size]?=some (.cells C.val 27)
 two:W.heap[k]?=some (.cells V 27)
 low:Below w.heap.size w W
def JD2.on{C:CD}{w W b:World}{k:Nat}{V:Array Value}(h:JD2 C w k V W)(a:Below W.heap.size W b):JD2 C w k V b:=
 ⟨(a.block _ (ai h.box)).trans h.box,(a.block _ (ai h.two)).trans h.two,ao h.low a⟩
def ad9(hwk:∀w,Calls PL 5 #[] w (aO (.bool true) w))(C:CD)(ps:List Int)(v:Value)(w:World)(h:C.Mem w)(hp:P2 w v ps) :
 Calls PL 3 #[.agg C.val,v] w (aO (.bool true) w):=by
 have HM:Hid (∀W,Below w.heap.size w W->C.Mem W):=ad λW a=>h.below a;have HP:Hid (∀W,Below w.heap.size w W->P2 W v ps):=ad λW a=>hp.on a;have K:=ad (show KB C w (w.alloc (.cells C.val 27)) from⟨au _ _,(ap _ _).alloc (ag _) _⟩);have HW:=ad hwk;have HPI:Hid (∀n,0<=chI ps n/\chI ps n<=65535):=ad (alJ hp);obtain⟨⟨pb,pc,rfl,I⟩,tL⟩:=hp;clear I tL;obtain⟨pn,hpn⟩:∃n,n=ps.length:=⟨_,rfl⟩
 rw[<-hpn]at HP ⊢;clear h hwk hpn;by_cases F:C.LR=true
 case neg=>
  have hff:C.LR=false:=by simpa using F
  have HG:Hid (∀W,C.Mem W->Calls PL 4 #[.agg C.val] W (aO (.bool false) W)):=ad λW hW=>by have:=afk C W hW;rwa[hff]at this
  clear F hff
  go_enter (fx (by decide) Tryz.func3),Tryz.ntmps3
  obtain⟨o,q,s,A,f4,B⟩:=bf K.out.box
  go_wp2_with (first
   |(go_at_call 4;refine(HG.out _ (HM.out _ K.out.low)).mono ?_;rintro e w1⟨rfl,Q⟩;have L:=ad (K.out.on Q);clear Q)
   |(go_at_call 5;refine(HW.out _).mono ?_;rintro e w2⟨rfl,R⟩;have K2:=ad (L.out.on R);clear R))
  go_ret
  exact⟨rfl,K2.out.low⟩
 have HC:Hid (C.small=true/\C.cx=0):=ad (by simpa[CD.LR]using F);have HA:Hid (∀W,Below w.heap.size w W->C.At W):=ad λW a=>CD.At.Ri (HM.out W a) HC.out.1;have HG:Hid (∀W,C.Mem W->Calls PL 4 #[.agg C.val] W (aO (.bool true) W)):=ad λW hW=>by have:=afk C W hW;rwa[F]at this
 clear F;obtain⟨h41,h42⟩:=G0 HC.out.2;have h5:=s8 HC.out.2;have DL:Hid (∀W,Below w.heap.size w W->Calls PL 6 #[.agg C.val] W (ao8 C.dly W)):=ad λW a=>abx C W (HA.out W a) HC.out.2;have CH:Hid (∀W i,Below w.heap.size w W->i<=1000->Calls PL 7 #[.slice pb pn pc,.int .i64 (i:Nat)] W (λe w'=>e=.returned (.int .i64 (chI ps i))/\W=w')):=ad λW i a hi=>acV _ ps i W (HP.out W a) hi;have DE:Hid (∀W v t,Below w.heap.size w W->t.length=C.n5->(∀x∈t,x<=12)->bB W v (b7 t)->Calls PL 8 #[.agg C.val,v] W λe w'=>∃Y f,e=.returned (.tuple #[.agg (C.s9 Y f).val,.int .i64 0])/\abv C f/\u7 W.heap.size C.n4 ((C.j7 (b7 t)).s9 Y f) w'/\Below W.heap.size W w'):=ad λW v t a ht V hv=>abi C _ v W (HA.out W a) (by omega) HC.out.2 hv (by rw[xu];exact ht) λi hi=>by
  have:=abz V i;simp only[bO,Bool.and_eq_true,decide_eq_true_eq];omega
 have SE:Hid (∀W Y f t,t.length=C.n5->(∀x∈t,x<=12)->abv C f->((C.j7 (b7 t)).s9 Y f).At W->Calls PL 9 #[.agg (C.s9 Y f).val] W (aO (.tuple #[.bool (C.j7 (b7 t)).H8,.int .i64 0]) W)):=ad λW Y f t ht V hf hW=>by
  obtain⟨S,T,_⟩:=abL HC.out.2 (ds:=b7 t) (by rw[xu];exact ht) (λi hi=>by
   have:=abz V i
   simp only[bO,Bool.and_eq_true,decide_eq_true_eq];omega) (Y:=Y) hf
  have:=alN hW S;rw[T]at this;exact this
 obtain⟨u,hu⟩:∃u,u=abk ps C.n5:=⟨_,rfl⟩
 have d:Hid (u=abk ps C.n5/\u.length=C.n5/\∀x∈u,x<=12):=ad ⟨hu,by rw[hu,aby],by rw[hu];exact ahI _ _⟩;clear hu;obtain⟨z,hz⟩:∃z,z=(C.j7 (b7 u)).H8:=⟨_,rfl⟩
 have HZ:=ad hz;clear hz
 cases D:C.dly with
 |none=>
  rw[D]at DL;have hz:z=false:=by rw[HZ.out];exact ah6 D u d.out.2.1 d.out.2.2
  subst hz;clear D
  go_enter (fx (by decide) Tryz.func3),Tryz.ntmps3
  obtain⟨o,q,s,A,f4,B⟩:=bf K.out.box
  go_upto_region 3 with(go_at_call 4;refine(HG.out _ (HM.out _ K.out.low)).mono ?_;rintro e w1⟨rfl,Q⟩;have L:=ad (K.out.on Q);clear Q;clear o q s A f4 B;obtain⟨o,q,s,A,f4,B⟩:=bf L.out.box)
  go_upto_region 4 with(go_at_call 6;(with_reducible refine(DL.out _ L.out.low).mono ?_);rintro e w2⟨rfl,R⟩;have K2:=ad (L.out.on R);clear R o q s A f4 B)
  go_wp2_with fail
  go_loopw [8,9] (λv8 X wr=>∃i:Nat,i<=C.n5/\X=.int .i64 i/\eO 3 wr w2.heap.size v8 (b7 (abk ps i))/\Below w2.heap.size w2 wr) (λ_ X _=>C.n5-(intOf X).toNat)
  case atStart=>exact⟨0,ae _,rfl,⟨rfl,.inl ⟨rfl,rfl⟩⟩,ap _ _⟩
  case round=>
   obtain⟨i,hi,rfl,hO,a⟩:=hrel;have Z:=ad hO;have HB:=ad a;have M:=ad (K2.out.on a);have fW:=a.size;clear hO a;obtain⟨o,q,s,A,f4,B⟩:=bf M.out.box;by_cases aH:i<C.n5
   ·have i2:(i:Int)<C.n5:=by omega
    have H:=HPI.out i;have C2:=ad (CH.out wr i M.out.low (by omega));obtain⟨x,hx⟩:∃x,x=chI ps i:=⟨_,rfl⟩
    have N:=abM ps i;rw[<-hx]at C2 H N;have XA:=H.1;obtain⟨y,hy⟩:∃y,x % 13=y:=⟨_,rfl⟩
    have hyi:0<=y/\y<=12:=by omega
    have htm:x.tmod 13=y:=by rw[aq XA];exact hy
    rw[hy,show((y.toNat:Nat):Int)=y by omega]at N;have HS:=ad N;have HLN:Hid ((b7 (abk ps i)).length=i):=ad (by rw[xu,aby]);clear hx N
    go_upto_region 10 with fail
    go_wp2_with (first
     |(go_at_call 7;(with_reducible refine(C2.out).mono ?_);rintro e w'⟨rfl,rfl⟩)
     |(at_builtin;refine Fb VF VG rfl _ _ rfl w2.heap.size _ _ y wr.heap.size rfl (Z.out.alloc _) rfl (cell_one_new _ _ _ 0 _ rfl) (by rw[HLN.out];omega) (by simp;omega) ?_;intro v' w4 fO hb4))
    exact⟨⟨i+1,aH,by go_num,by rw[HS.out];exact fO,(HB.out.alloc (by omega) _).trans hb4⟩,by simp only[intOf];omega⟩
   ·obtain rfl:i=C.n5:=by omega
    have HR:Hid (bB wr u8 (b7 u)):=ad (by rw[d.out.1];exact Z.out.reads);clear hi Z
    go_upto_region 12 with(go_at_call 8;(with_reducible refine(DE.out _ _ u M.out.low d.out.2.1 d.out.2.2 HR.out).mono ?_);rintro e w3⟨Y,f,rfl,hf,U,a⟩;have HF:=ad hf;have g:=ad U;have K4:=ad (M.out.on a);clear hf U a o q s A f4 B)
    have a2:Below w3.heap.size w3 (w3.alloc (.cells (C.s9 Y f).val 27)):=(ap _ _).alloc (ag _) _;have I:Hid (JD2 C w w3.heap.size (C.s9 Y f).val (w3.alloc (.cells (C.s9 Y f).val 27))):=ad ⟨(a2.block _ (ai K4.out.box)).trans K4.out.box,au _ _,ao K4.out.low a2⟩;have J:Hid (((C.j7 (b7 u)).s9 Y f).At (w3.alloc (.cells (C.s9 Y f).val 27))):=ad (g.out.on a2).mem.at_;have E:=ad (SE.out (w3.alloc (.cells (C.s9 Y f).val 27)) Y f u d.out.2.1 d.out.2.2 HF.out J.out);rw[<-HZ.out]at E;have BX:Hid (∀W,JD2 C w w3.heap.size (C.s9 Y f).val W->W.heap[w3.heap.size]?=some (.cells #[.int .i64 C.l,.int .i64 C.p,.slice Y.B2 C.n2 Y.p2,.slice Y.B3 C.n3 Y.p3,.slice (some ⟨Y.K4,0,none⟩) C.n4 Y.p4,.slice Y.B5 C.n5 Y.p5] 27)):=ad λW h=>h.two;obtain⟨O,j⟩:∃O:World,O=w3.alloc (.cells (C.s9 Y f).val 27):=⟨_,rfl⟩
    rw[show w3.alloc (.cells #[.int .i64 C.l,.int .i64 C.p,.slice Y.B2 C.n2 Y.p2,.slice Y.B3 C.n3 Y.p3,.slice (some ⟨Y.K4,0,none⟩) C.n4 Y.p4,.slice Y.B5 C.n5 Y.p5] 27)=O from j.symm];rw[<-j]at I J E;clear j a2;obtain⟨g0,g1,g2,g3,g4,g5⟩:=bf (BX.out _ I.out)
    go_wp2_with (first
     |(go_at_call 9;(with_reducible refine(E.out).mono ?_);rintro e w4⟨rfl,a⟩;have J1:=ad (I.out.on a);clear a)
     |(go_at_call 5;refine(HW.out _).mono ?_;rintro e w5⟨rfl,a⟩;have k:=ao J1.out.low a;clear a))
    go_ret
    exact⟨rfl,k⟩
 |some r=>
  obtain⟨t,rfl,t1,t2,t3,t4⟩:=ah5 D;have tl:(b7 t).length=C.n5:=by rw[xu];exact t1
  have DL2:Hid (∀W,Below w.heap.size w W->Calls PL 6 #[.agg C.val] W λe w'=>∃b c,e=.returned (.tuple #[.slice b C.n5 c,.bool true,.int .i64 0])/\bB w' (.slice b C.n5 c) (b7 t)/\Below W.heap.size W w'):=ad λW a=>(DL.out W a).mono λe w' h=>by
   rw[D]at h;obtain⟨⟨b,c,S,T⟩,h3⟩:=h;rw[tl]at S T;exact⟨b,c,S,T,h3⟩
  have m:=ad (And.intro t1 (And.intro t2 t3));have aoe:ab5 (b7 u) (b7 t) 6 0=ace (b7 u) (b7 t):=by
   have:=abJ (b7 u) (b7 t) 6 0 (by rw[xu];have:=d.out.2.1;omega);rwa[ac,ac]at this
  have HZ4:Hid (z=true->t.sum<u.sum\/t.sum=u.sum/\ab5 (b7 u) (b7 t) 6 0=false):=ad λh=>by
   rw[aoe];exact t4 u d.out.2.1 d.out.2.2 (by rw[<-HZ.out];exact h)
  have SM:Hid (∀W b c x,x.length=C.n5->(∀y∈x,y<=12)->bB W (.slice b C.n5 c) (b7 x)->Calls PL 10 #[.slice b C.n5 c] W (λe w'=>e=.returned (.int .i64 (x.sum:Nat))/\W=w')):=ad λW b c x S T h3=>by
   have:=ahJ b C.n5 c (b7 x) W h3 (by rw[xu];exact S) (abz T) (by omega);rw[ah7]at this;exact this
  have LS:Hid (∀W b c b' c',bB W (.slice b C.n5 c) (b7 u)->bB W (.slice b' C.n5 c') (b7 t)->Calls PL 11 #[.slice b C.n5 c,.slice b' C.n5 c'] W (aO (.bool (ab5 (b7 u) (b7 t) 6 0)) W)):=ad λW b c b' c' S T=>ah4 S T (by rw[xu];have:=d.out.2.1;omega) (by rw[xu];omega);clear D t1 t2 t3 t4 tl DL aoe
  go_enter (fx (by decide) Tryz.func3),Tryz.ntmps3
  obtain⟨o,q,s,A,f4,B⟩:=bf K.out.box
  go_upto_region 3 with(go_at_call 4;refine(HG.out _ (HM.out _ K.out.low)).mono ?_;rintro e w1⟨rfl,Q⟩;have L:=ad (K.out.on Q);clear Q;clear o q s A f4 B;obtain⟨o,q,s,A,f4,B⟩:=bf L.out.box)
  go_upto_region 4 with(go_at_call 6;(with_reducible refine(DL2.out _ L.out.low).mono ?_);rintro e w2⟨lb,lc,rfl,hrl,R⟩;have K2:=ad (L.out.on R);have RL2:=ad hrl;clear R hrl o q s A f4 B)
  go_wp2_with fail
  go_loopw [8,9] (λv8 X wr=>∃i:Nat,i<=C.n5/\X=.int .i64 i/\eO 3 wr w2.heap.size v8 (b7 (abk ps i))/\Below w2.heap.size w2 wr) (λ_ X _=>C.n5-(intOf X).toNat)
  case atStart=>exact⟨0,ae _,rfl,⟨rfl,.inl ⟨rfl,rfl⟩⟩,ap _ _⟩
  case round=>
   obtain⟨i,hi,rfl,hO,a⟩:=hrel;have Z:=ad hO;have HB:=ad a;have M:=ad (K2.out.on a);have RL3:=ad (RL2.out.on a);have fW:=a.size;clear hO a;obtain⟨o,q,s,A,f4,B⟩:=bf M.out.box;by_cases aH:i<C.n5
   ·have i2:(i:Int)<C.n5:=by omega
    have H:=HPI.out i;have C2:=ad (CH.out wr i M.out.low (by omega));obtain⟨x,hx⟩:∃x,x=chI ps i:=⟨_,rfl⟩
    have N:=abM ps i;rw[<-hx]at C2 H N;have XA:=H.1;obtain⟨y,hy⟩:∃y,x % 13=y:=⟨_,rfl⟩
    have hyi:0<=y/\y<=12:=by omega
    have htm:x.tmod 13=y:=by rw[aq XA];exact hy
    rw[hy,show((y.toNat:Nat):Int)=y by omega]at N;have HS:=ad N;have HLN:Hid ((b7 (abk ps i)).length=i):=ad (by rw[xu,aby]);clear hx N
    go_upto_region 10 with fail
    go_wp2_with (first
     |(go_at_call 7;(with_reducible refine(C2.out).mono ?_);rintro e w'⟨rfl,rfl⟩)
     |(at_builtin;refine Fb VF VG rfl _ _ rfl w2.heap.size _ _ y wr.heap.size rfl (Z.out.alloc _) rfl (cell_one_new _ _ _ 0 _ rfl) (by rw[HLN.out];omega) (by simp;omega) ?_;intro v' w4 fO hb4))
    exact⟨⟨i+1,aH,by go_num,by rw[HS.out];exact fO,(HB.out.alloc (by omega) _).trans hb4⟩,by simp only[intOf];omega⟩
   ·obtain rfl:i=C.n5:=by omega
    have HR0:bB wr u8 (b7 u):=by rw[d.out.1];exact Z.out.reads
    have HR:=ad HR0;obtain⟨ub,uc,e8,_⟩:=HR0;rw[xu,d.out.2.1]at e8;subst e8;clear hi Z
    go_upto_region 12 with(go_at_call 8;(with_reducible refine(DE.out _ _ u M.out.low d.out.2.1 d.out.2.2 HR.out).mono ?_);rintro e w3⟨Y,f,rfl,hf,U,a⟩;have HF:=ad hf;have g:=ad U;have K4:=ad (M.out.on a);have RL4:=ad (RL3.out.on a);have RU4:=ad (HR.out.on a);clear hf U a o q s A f4 B)
    have a2:Below w3.heap.size w3 (w3.alloc (.cells (C.s9 Y f).val 27)):=(ap _ _).alloc (ag _) _;have I:Hid (JD2 C w w3.heap.size (C.s9 Y f).val (w3.alloc (.cells (C.s9 Y f).val 27))):=ad ⟨(a2.block _ (ai K4.out.box)).trans K4.out.box,au _ _,ao K4.out.low a2⟩;have RL5:=ad (RL4.out.on a2);have RU5:=ad (RU4.out.on a2);have J:Hid (((C.j7 (b7 u)).s9 Y f).At (w3.alloc (.cells (C.s9 Y f).val 27))):=ad (g.out.on a2).mem.at_;have E:=ad (SE.out (w3.alloc (.cells (C.s9 Y f).val 27)) Y f u d.out.2.1 d.out.2.2 HF.out J.out);rw[<-HZ.out]at E;have BX:Hid (∀W,JD2 C w w3.heap.size (C.s9 Y f).val W->W.heap[w3.heap.size]?=some (.cells #[.int .i64 C.l,.int .i64 C.p,.slice Y.B2 C.n2 Y.p2,.slice Y.B3 C.n3 Y.p3,.slice (some ⟨Y.K4,0,none⟩) C.n4 Y.p4,.slice Y.B5 C.n5 Y.p5] 27)):=ad λW h=>h.two;obtain⟨O,j⟩:∃O:World,O=w3.alloc (.cells (C.s9 Y f).val 27):=⟨_,rfl⟩
    rw[show w3.alloc (.cells #[.int .i64 C.l,.int .i64 C.p,.slice Y.B2 C.n2 Y.p2,.slice Y.B3 C.n3 Y.p3,.slice (some ⟨Y.K4,0,none⟩) C.n4 Y.p4,.slice Y.B5 C.n5 Y.p5] 27)=O from j.symm];rw[<-j]at I J E RL5 RU5;clear j a2 RL2 RL3 RL4 RU4 HR;obtain⟨g0,g1,g2,g3,g4,g5⟩:=bf (BX.out _ I.out)
    go_upto_region 13 with(go_at_call 9;(with_reducible refine(E.out).mono ?_);rintro e w4⟨rfl,a⟩;have J1:=ad (I.out.on a);have RL6:=ad (RL5.out.on a);have RU6:=ad (RU5.out.on a);clear a g0 g1 g2 g3 g4 g5)
    obtain⟨o,q,s,A,f4,B⟩:=bf J1.out.box;clear E J g I RL5 RU5
    go_upto_region 20 with(go_at_call 8;(with_reducible refine(DE.out _ _ t J1.out.low m.out.1 m.out.2.1 RL6.out).mono ?_);rintro e w5⟨Y2,P,rfl,hf,U,a⟩;have HF2:=ad hf;have g:=ad U;have J2:=ad (J1.out.on a);have RL7:=ad (RL6.out.on a);have RU7:=ad (RU6.out.on a);clear hf U a o q s A f4 B)
    have a2:Below w5.heap.size w5 (w5.alloc (.cells (C.s9 Y2 P).val 27)):=(ap _ _).alloc (ag _) _;have J3:Hid (JD2 C w w5.heap.size (C.s9 Y2 P).val (w5.alloc (.cells (C.s9 Y2 P).val 27))):=ad ⟨(a2.block _ (ai J2.out.box)).trans J2.out.box,au _ _,ao J2.out.low a2⟩;have RL8:=ad (RL7.out.on a2);have RU8:=ad (RU7.out.on a2);have J:Hid (((C.j7 (b7 t)).s9 Y2 P).At (w5.alloc (.cells (C.s9 Y2 P).val 27))):=ad (g.out.on a2).mem.at_;have E:=ad (SE.out (w5.alloc (.cells (C.s9 Y2 P).val 27)) Y2 P t m.out.1 m.out.2.1 HF2.out J.out);rw[m.out.2.2]at E;have BX:Hid (∀W,JD2 C w w5.heap.size (C.s9 Y2 P).val W->W.heap[w5.heap.size]?=some (.cells #[.int .i64 C.l,.int .i64 C.p,.slice Y2.B2 C.n2 Y2.p2,.slice Y2.B3 C.n3 Y2.p3,.slice (some ⟨Y2.K4,0,none⟩) C.n4 Y2.p4,.slice Y2.B5 C.n5 Y2.p5] 27)):=ad λW h=>h.two;obtain⟨W5,hW5⟩:∃O:World,O=w5.alloc (.cells (C.s9 Y2 P).val 27):=⟨_,rfl⟩
    rw[show w5.alloc (.cells #[.int .i64 C.l,.int .i64 C.p,.slice Y2.B2 C.n2 Y2.p2,.slice Y2.B3 C.n3 Y2.p3,.slice (some ⟨Y2.K4,0,none⟩) C.n4 Y2.p4,.slice Y2.B5 C.n5 Y2.p5] 27)=W5 from hW5.symm];rw[<-hW5]at J3 J E RL8 RU8;clear hW5 a2 RL6 RL7 RU6 RU7;obtain⟨g0,g1,g2,g3,g4,g5⟩:=bf (BX.out _ J3.out)
    go_upto_region 21 with(go_at_call 9;(with_reducible refine(E.out).mono ?_);rintro e w6⟨rfl,a⟩;have J4:=ad (J3.out.on a);have RL9:=ad (RL8.out.on a);have RU9:=ad (RU8.out.on a);clear a g0 g1 g2 g3 g4 g5)
    have S1:=ad (SM.out w6 lb lc t m.out.1 m.out.2.1 RL9.out);have S0:=ad (SM.out w6 ub uc u d.out.2.1 d.out.2.2 RU9.out);have LW:=ad (LS.out w6 ub uc lb lc RU9.out RL9.out);obtain⟨sl,hsl⟩:∃x,x=t.sum:=⟨_,rfl⟩
    obtain⟨so,hso⟩:∃x,x=u.sum:=⟨_,rfl⟩
    rw[<-hsl]at S1 HZ4;rw[<-hso]at S0 HZ4;clear hsl hso E J g
    cases z with
    |false=>
     go_wp2_with (go_at_call 5;refine(HW.out _).mono ?_;rintro e w7⟨rfl,a⟩;have k:=ao J4.out.low a;clear a)
     go_ret
     exact⟨rfl,k⟩
    |true=>
     rcases HZ4.out rfl with aH|⟨heq,hle⟩
     ·have i3:(sl:Int)<so:=by omega
      go_wp2_with (first
       |(go_at_call 10;(with_reducible refine(S1.out).mono ?_);rintro e w'⟨rfl,rfl⟩)
       |(go_at_call 10;(with_reducible refine(S0.out).mono ?_);rintro e w'⟨rfl,rfl⟩)
       |(go_at_call 5;refine(HW.out _).mono ?_;rintro e w7⟨rfl,a⟩;have k:=ao J4.out.low a;clear a))
      go_ret
      exact⟨rfl,k⟩
     ·subst heq;rw[hle]at LW;have i3:¬(sl:Int)<sl:=by omega
      go_wp2_with (first
       |(go_at_call 10;(with_reducible refine(S1.out).mono ?_);rintro e w'⟨rfl,rfl⟩)
       |(go_at_call 10;(with_reducible refine(S0.out).mono ?_);rintro e w'⟨rfl,rfl⟩)
       |(go_at_call 11;(with_reducible refine(LW.out).mono ?_);rintro e w7⟨rfl,a⟩;have J5:=ad (J4.out.on a);clear a)
       |(go_at_call 5;refine(HW.out _).mono ?_;rintro e w8⟨rfl,a⟩;have k:=ao J5.out.low a;clear a))
      go_ret
      exact⟨rfl,k⟩
end Go.Proofs
