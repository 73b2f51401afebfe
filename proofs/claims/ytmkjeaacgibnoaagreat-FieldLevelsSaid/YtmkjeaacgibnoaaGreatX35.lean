/- Part of the proof of FieldLevels: see X45. -/
import Derived.Test.YtmkjeaacgibnoaaGreatX34
set_option linter.all false
open Go.Proofs renaming getElem?_lt'->aa
open Go.Proofs.Below renaming on->ab
open Go.Lib renaming hid->ac
open Go.RowKit.Below renaming refl->ad
open Nat renaming le_refl->ae,le_succ->ag,zero_le->ai,lt_of_lt_of_le->ao,eq_zero_or_pos->ap,add_assoc->aq
open Go.Proofs.Tryz renaming func25->ar,ntmps25->aw,results25->aB,func27->aF,ntmps27->aI,results27->aJ,func3->aL,ntmps3->aP,func30->aT,ntmps30->a5,func56->a6,ntmps56->a7,func58->a8,ntmps58->a9,func65->ba,ntmps65->bb
open Go renaming wp_region_noPanic->bc,bodyPost_ret->bd,results->bg
open Go.Act renaming put->bi
open List renaming setIfInBounds_toArray->bj,set_cons_zero->bl,set_cons_succ->bm,append_assoc->bo
namespace Go.Proofs
open Go.RowKit
set_option maxRecDepth 100000
set_option maxHeartbeats 4000000
def rN(s r:Int)(w:World)(f:1<=s)(g:s<=90)(c : -s<=r)(d:r<=s):Calls PL 80 #[.int .i64 s,.int .i64 r] w λe w'=>e=.returned (.int .i64 (lv s r))/\w=w':=by
 obtain⟨n,rfl⟩:=Int.eq_ofNat_of_zero_le (a:=s) (by omega);exact(vu n r w (by omega) (by omega) c d).mono λ_ _⟨a,b⟩=>⟨a,b.symm⟩
def Kt{C:CD}{n:Int}{w:World}(h:C.b6 (bO n 0 (C.n4-1))=0)(k:C.At w):Calls PL 93 #[.agg C.val,.int .i64 n] w (aO (.int .i64 0) w):=by
 have:=uE C n w k;rwa[h]at this
def Rv{C:CD}{n:Int}(hf:C.b6 (bO n 0 (C.n4-1))=0):C.cx=0/\∃i:Nat,n=i/\i<C.n4:=by
 have a:C.cx=0/\bO n 0 (C.n4-1)=true:=by
  unfold CD.b6 at hf
  split at hf
  ·split at hf
   ·exact⟨by assumption,by assumption⟩
   ·cases hf
  ·exact absurd hf (by assumption)
 have b:0<=n/\n<=(C.n4:Int)-1:=by simpa[bO]using a.2
 obtain⟨i,rfl⟩:=Int.eq_ofNat_of_zero_le b.1;exact⟨a.1,i,rfl,by omega⟩
def yK{C:CD}{w:World}{i:Nat}(h:C.At w)(hi:i<C.n4):C.b4=some ⟨C.k4,C.o4,none⟩/\w.cell? ⟨C.k4,C.o4+i*12,none⟩=some (.string (C.x4 i).name)/\w.cell? ⟨C.k4,C.o4+i*12+1,none⟩=some (.int .i64 ((C.x4 i).n 1))/\w.cell? ⟨C.k4,C.o4+i*12+2,none⟩=some (.int .i64 ((C.x4 i).n 2))/\w.cell? ⟨C.k4,C.o4+i*12+3,none⟩=some (.int .i64 ((C.x4 i).n 3))/\w.cell? ⟨C.k4,C.o4+i*12+4,none⟩=some (.int .i64 ((C.x4 i).n 4))/\w.cell? ⟨C.k4,C.o4+i*12+5,none⟩=some (.int .i64 ((C.x4 i).n 5))/\w.cell? ⟨C.k4,C.o4+i*12+6,none⟩=some (.int .i64 ((C.x4 i).n 6))/\w.cell? ⟨C.k4,C.o4+i*12+7,none⟩=some (.int .i64 ((C.x4 i).n 7))/\w.cell? ⟨C.k4,C.o4+i*12+8,none⟩=some (.int .i64 ((C.x4 i).n 8))/\w.cell? ⟨C.k4,C.o4+i*12+9,none⟩=some (.int .i64 ((C.x4 i).n 9))/\w.cell? ⟨C.k4,C.o4+i*12+10,none⟩=some (.int .i64 ((C.x4 i).n 10))/\w.cell? ⟨C.k4,C.o4+i*12+11,none⟩=some (.slice (C.x4 i).lb (C.x4 i).ln (C.x4 i).lc)/\C.k4<w.heap.size:=⟨h.s4 (by omega),h.AD i hi,h.dB i hi 1 (by omega) (by omega),h.dB i hi 2 (by omega) (by omega),h.dB i hi 3 (by omega) (by omega),h.dB i hi 4 (by omega) (by omega),h.dB i hi 5 (by omega) (by omega),h.dB i hi 6 (by omega) (by omega),h.dB i hi 7 (by omega) (by omega),h.dB i hi 8 (by omega) (by omega),h.dB i hi 9 (by omega) (by omega),h.dB i hi 10 (by omega) (by omega),h.nj i hi,h.h4⟩
def yL{W:World}{r:Nat}{x y u v:Value}{t:TypeId}(h:W.heap[r]?=some (.cells #[x,y] t)):((W.setCell ⟨r,0,none⟩ u).setCell ⟨r,1,none⟩ v).heap[r]?=some (.cells #[u,v] t):=by
 simp only[World.setCell,Array.getElem?_modify,if_pos,h,Option.map_some];rfl
def tv{W:World}{r b:Nat}{u v:Value}(hb:b≠r):((W.setCell ⟨r,0,none⟩ u).setCell ⟨r,1,none⟩ v).heap[b]?=W.heap[b]?:=by
 simp only[World.setCell,Array.getElem?_modify,if_neg (Ne.symm hb)]
structure KD(B:Nat)(val:Array Value)(w W:World):Prop where
 G8:W.heap[B]?=some (.cells val 73)
 res:∃x y,W.heap[w.heap.size+1]?=some (.cells #[x,y] 35)
 low:Below w.heap.size w W
def KD.on{B:Nat}{val:Array Value}{w W b:World}(h:KD B val w W)(a:Below W.heap.size W b):KD B val w b:=
 ⟨(a.block _ (aa h.G8)).trans h.G8,h.res.imp λ_⟨y,e⟩=>⟨y,(a.block _ (aa e)).trans e⟩,ab h.low a⟩
def LeD(r:Nat)(u v:Value)(W a:World):Prop:=W.heap[r]?=some (.cells #[u,v] 35)->a.heap[r]?=some (.cells #[u,v] 35)
def LeD.on{r:Nat}{u v:Value}{W a:World}(b:Below W.heap.size W a):LeD r u v W a:=λh=>(b.block _ (aa h)).trans h
def zS(C:CD)(n:Int)(w:World)(h:C.At w):Calls PL 25 #[.agg C.val,.int .i64 n] w (aO (C.kR n) w):=by
 have H:=ac (λw1 c=>h.below (w':=w1) c);have K:Below w.heap.size w ((w.alloc (.cells C.val 27)).alloc (.cells #[.int .i64 0,.int .i64 0] 35)):=((ad _ _).alloc (ae _) _).alloc (by simp) _;have f:=ac K;clear K;by_cases hf:C.b6 (bO n 0 (C.n4-1))=0
 ·have k:=ac hf;obtain⟨hc,i,rfl,hi⟩:=Rv hf;have m:=ac (Kq hc hi);have T:(i:Int)<C.n4:=by omega
  clear hf hc h
  go_enter (fx (by decide) ar),aw
  go_wp2_with (go_at_call 93;go_loud (refine(Kt k.out (H.out _ f.out)).mono ?_;rintro e w1⟨rfl,b⟩;obtain⟨L,O⟩:=cW b;have P:w.heap.size+1<w1.heap.size:=(by have:=b.size;simp at this;omega);obtain⟨U,k0,k1,k2,k3,V,X,Y,Z,k8,k9,CG,CH,ER⟩:=yK (H.out _ (ab f.out b)) hi))
  obtain⟨o1,o2,o3,o4,o5,o6⟩:=m.out;have Q:=au w1 (.cells (C.x4 i).val 73);have R:Below w.heap.size w (w1.alloc (.cells (C.x4 i).val 73)):=(ab f.out b).alloc (by omega) _;have S:w1.heap[w.heap.size+1]?=some (.cells #[.int .i64 0,.int .i64 0] 35):=by
   have M:=au (w.alloc (.cells C.val 27)) (.cells #[.int .i64 0,.int .i64 0] 35);rw[World.size_alloc]at M;exact(b.block _ (by simp)).trans M
  refine bc ?_;refine ig (KD w1.heap.size (C.x4 i).val w) (LeD (w.heap.size+1) (.int .i64 (C.x4 i).low) (.int .i64 (C.x4 i).high)) (λj=>j != 15) (λj _ W=>j=15->W.heap[w.heap.size+1]?=some (.cells #[.int .i64 (C.x4 i).low,.int .i64 (C.x4 i).high] 35)) rfl (by kernel_rfl) (λj vs W l q h e=>q (h e)) (λj o _ vs eX W _ _ h=>h) ?_ ?_
  ·exact⟨Q,⟨_,_,(((ad w1.heap.size w1).alloc (ae _) _).block _ (by omega)).trans S⟩,R.drew⟩
  ·skip;apply aY
   case hE=>rfl
   case h=>
    intro vs W a hd
    go_simp;exact⟨rfl,λh=>h⟩
   case hb=>intro vs;simp only[bi,bj,bl,bm];rfl
   apply aY
   case hE=>rfl
   case h=>
    intro vs W a hd
    go_simp;exact⟨rfl,λh=>h⟩
   case hb=>intro vs;simp only[bi,bj,bl,bm];rfl
   apply aY
   case hE=>rfl
   case h=>
    intro vs W a hd;obtain⟨r,s,t,u,z,A,B,D,E,F,I,J⟩:=gx a.G8
    go_simp;exact⟨rfl,λh=>h⟩
   case hb=>intro vs;simp only[bi,bj,bl,bm];rfl
   apply aY
   case hE=>rfl
   case h=>
    intro vs W a hd
    go_simp;exact⟨rfl,λh=>h⟩
   case hb=>intro vs;simp only[bi,bj,bl,bm];rfl
   apply aY
   case hE=>rfl
   case h=>
    intro vs W a hd;obtain⟨r,s,t,u,z,A,B,D,E,F,I,J⟩:=gx a.G8
    go_simp;exact⟨rfl,λh=>h⟩
   case hb=>intro vs;simp only[bi,bj,bl,bm];rfl
   apply aY
   case hE=>rfl
   case h=>
    intro vs W a hd
    go_simp;refine(AI _ _ _ (by omega) (by omega)).mono ?_;rintro e l⟨rfl,c⟩;exact⟨_,rfl,rfl,a.on c,LeD.on c⟩
   case hb=>intro vs;simp only[bi,bj,bl,bm];rfl
   apply aY
   case hE=>rfl
   case h=>
    intro vs W a hd
    go_simp;refine(rN _ _ _ (by omega) (by omega) (by omega) (by omega)).mono ?_;rintro e l⟨rfl,rfl⟩;exact⟨_,rfl,rfl,a,λh=>h⟩
   case hb=>intro vs;simp only[bi,bj,bl,bm];rfl
   apply aY
   case hE=>rfl
   case h=>
    intro vs W a hd
    go_simp;exact⟨rfl,λh=>h⟩
   case hb=>intro vs;simp only[bi,bj,bl,bm];rfl
   apply aY
   case hE=>rfl
   case h=>
    intro vs W a hd
    go_simp;exact⟨rfl,λh=>h⟩
   case hb=>intro vs;simp only[bi,bj,bl,bm];rfl
   apply aY
   case hE=>rfl
   case h=>
    intro vs W a hd;obtain⟨r,s,t,u,z,A,B,D,E,F,I,J⟩:=gx a.G8
    go_simp;exact⟨rfl,λh=>h⟩
   case hb=>intro vs;simp only[bi,bj,bl,bm];rfl
   apply aY
   case hE=>rfl
   case h=>
    intro vs W a hd
    go_simp;exact⟨rfl,λh=>h⟩
   case hb=>intro vs;simp only[bi,bj,bl,bm];rfl
   apply aY
   case hE=>rfl
   case h=>
    intro vs W a hd;obtain⟨r,s,t,u,z,A,B,D,E,F,I,J⟩:=gx a.G8
    go_simp;exact⟨rfl,λh=>h⟩
   case hb=>intro vs;simp only[bi,bj,bl,bm];rfl
   apply aY
   case hE=>rfl
   case h=>
    intro vs W a hd
    go_simp;refine(Rb _ _ _ (by omega) (by omega)).mono ?_;rintro e l⟨rfl,c⟩;exact⟨_,rfl,rfl,a.on c,LeD.on c⟩
   case hb=>intro vs;simp only[bi,bj,bl,bm];rfl
   apply aY
   case hE=>rfl
   case h=>
    intro vs W a hd
    go_simp;refine(rN _ _ _ (by omega) (by omega) (by omega) (by omega)).mono ?_;rintro e l⟨rfl,rfl⟩;exact⟨_,rfl,rfl,a,λh=>h⟩
   case hb=>intro vs;simp only[bi,bj,bl,bm];rfl
   apply aY
   case hE=>rfl
   case h=>
    intro vs W a hd
    go_simp;exact⟨rfl,λh=>h⟩
   case hb=>intro vs;simp only[bi,bj,bl,bm];rfl
   apply eH
   case hE=>rfl
   case hb=>intro vs;simp only[bi];rfl
   case h=>
    intro vs W a hd;obtain⟨x,y,d⟩:=a.res;obtain⟨N,t1,u0,u1⟩:=uJ d
    go_simp
    have g:some (Obj.cells #[Value.int .i64 (lv ((C.x4 i).n 1) (max ((C.x4 i).n 4) (-(C.x4 i).n 3))),Value.int .i64 (lv ((C.x4 i).n 2) (max 0 (max ((C.x4 i).n 3) (-(C.x4 i).n 4))))] 35)=some (Obj.cells #[.int .i64 (C.x4 i).low,.int .i64 (C.x4 i).high] 35):=(by rw[aaB m.out,Vx m.out,Int.max_assoc]);exact⟨⟨(tv (by omega)).trans a.G8,⟨_,_,yL d⟩,(a.low.setCell (p:=⟨w.heap.size+1,0,none⟩) (ag _) _).setCell (p:=⟨w.heap.size+1,1,none⟩) (ag _) _⟩,λ_=>(yL d).trans g,(yL d).trans g⟩
   apply aY
   case hE=>rfl
   case h=>
    intro vs W a hd
    go_simp;exact⟨rfl,λh=>h⟩
   case hb=>intro vs;simp only[bi,bj,bl,bm];rfl
   refine cP λvs W a hd=>?_;have d:=hd 15 (by omega) rfl rfl;obtain⟨N,t1,u0,u1⟩:=uJ d;refine NoPanic.normal ?_
   go_wp2
   refine bd (v:=C.kR i) ?_ rfl ⟨rfl,a.low⟩;rw[CD.kR,if_pos k.out];simp[bg,aB,go_sem,N,t1]
 ·have k:=ac hf;have hn:(C.b6 (bO n 0 (C.n4-1)) != 0)=true:=by simpa using hf
  clear hf h
  go_enter (fx (by decide) ar),aw
  go_wp2_with (go_at_call 93;refine(uE _ _ _ (H.out _ f.out)).mono ?_;rintro e w1⟨rfl,b⟩;obtain⟨L,O⟩:=cW b;have P:w.heap.size+1<w1.heap.size:=by have:=b.size;simp at this;omega)
  refine bd (v:=C.kR n) ?_ rfl ⟨rfl,(((ab f.out b).setCell (p:=⟨w.heap.size+1,0,none⟩) (ag _) _).setCell (p:=⟨w.heap.size+1,1,none⟩) (ag _) _)⟩;rw[CD.kR,if_neg k.out];simp[bg,aB,go_sem,L]
def below_drewN{n:Nat}{w W:World}(h:Below n w W):∀k,Below n w (W.drewN k):=λk=>by
 obtain⟨a,b,c,d,e⟩:=h;exact⟨a,b,c,d,e⟩
def Ku{a:Type}(p:a->Bool):∀l:List a,(l.any λx=>!p x) = !l.all p
 |[]=>rfl
 |x::l=>by simp only[List.any_cons,List.all_cons,Ku p l,Bool.not_and]
def Cn(C:CD)(n:Int)(w:World)(h:C.At w):Calls PL 27 #[.agg C.val,.int .i64 n] w (aO (C.iq n) w):=by
 have H:=ac (λw1 f=>h.below (w':=w1) f);have cB:Below w.heap.size w (w.alloc (.cells C.val 27)):=(ad _ _).alloc (ae _) _;have s:=ac cB;clear cB;by_cases hf:C.b6 (bO n 0 (C.n4-1))=0
 ·have D:=ac hf;obtain⟨hc,i,rfl,hi⟩:=Rv hf;have OK:=ac (Kq hc hi);have mS:(i:Int)<C.n4:=by omega
  obtain⟨z1,z2⟩:=Rt hc hi;have t:((C.x4 i).n 5).toNat<C.n2:=by omega
  clear hf hc h
  go_enter (fx (by decide) aF),aI
  go_wp2_with (go_at_call 93;go_loud (refine(Kt D.out (H.out _ s.out)).mono ?_;rintro e w1⟨rfl,b⟩;obtain⟨lp,lR⟩:=cW b;have hz:w.heap.size<w1.heap.size:=(by have:=b.size;simp at this;omega);have hA:=H.out _ (ab s.out b);obtain⟨s4,k0,k1,k2,k3,k4,k5,k6,k7,k8,k9,CG,CH,ER⟩:=yK hA hi;have s2:=hA.s2 (by omega);have y0:=hA.Ep _ t;have y1:=hA.Er _ t;have ND:=hA.h2;clear hA))
  go_cut [7] from 20 to 29 (fun(v7:Value)(wx:World)=>v7=.pointer (some ⟨w1.heap.size,0,none⟩)/\wx=w1.drew.alloc (.cells #[.int .i64 (C.x2 ((C.x4 i).n 5).toNat).1,.int .i64 (C.x2 ((C.x4 i).n 5).toNat).2] 35))
  case first=>
   refine bc ?_
   go_region
   all_goals (refine NoPanic.normal ?_;go_wp2_with fail;go_meet;case rel=>exact⟨rfl,rfl⟩)
  case rest=>
   obtain⟨rfl,rfl⟩:=hcut;obtain⟨u,vp⟩:∃u:World,u=((w1.alloc (.cells #[.int .i64 (C.x2 ((C.x4 i).n 5).toNat).1,.int .i64 (C.x2 ((C.x4 i).n 5).toNat).2] 35)).alloc (.cells (C.x4 i).val 73)).drew:=⟨_,rfl⟩
   have E:Below w1.heap.size w1 u:=by rw[vp];exact(((ad w1.heap.size w1).alloc (ae _) _).alloc (by simp) _).drew
   have y:u.heap[w1.heap.size]?=some (.cells #[.int .i64 (C.x2 ((C.x4 i).n 5).toNat).1,.int .i64 (C.x2 ((C.x4 i).n 5).toNat).2] 35):=by
    have F:=au w1 (.cells #[.int .i64 (C.x2 ((C.x4 i).n 5).toNat).1,.int .i64 (C.x2 ((C.x4 i).n 5).toNat).2] 35);rw[vp];exact(((ad (w1.alloc (.cells #[.int .i64 (C.x2 ((C.x4 i).n 5).toNat).1,.int .i64 (C.x2 ((C.x4 i).n 5).toNat).2] 35)).heap.size _).alloc (ae _) _).block _ (by simp)).trans F
   have tL:u.heap[w1.heap.size+1]?=some (.cells (C.x4 i).val 73):=by
    have F:=au (w1.alloc (.cells #[.int .i64 (C.x2 ((C.x4 i).n 5).toNat).1,.int .i64 (C.x2 ((C.x4 i).n 5).toNat).2] 35)) (.cells (C.x4 i).val 73);rw[World.size_alloc]at F;rw[vp];exact F
   have Kf:=ac (ab (ab s.out b) E);have W:=ac y;have z:=ac tL;clear E y tL
   go_upto_region 6 with fail
   rw[<-vp];clear vp k0 k1 k2 k3 k4 k5 k6 k7 k8 k9 CG CH y0 y1 s2 s4 lp lR b;obtain⟨o1,o2,o3,o4,o5,o6⟩:=OK.out;obtain⟨g,TJ⟩:∃m:Nat,m=((C.x4 i).n 2-(C.x4 i).n 1+1).toNat:=⟨_,rfl⟩
   obtain⟨a,Dr⟩:∃m:Nat,m=((C.x4 i).n 4-(C.x4 i).n 3+1).toNat:=⟨_,rfl⟩
   have I:(C.x4 i).n 2=(C.x4 i).n 1+g-1:=by omega
   have J:(C.x4 i).n 4=(C.x4 i).n 3+a-1:=by omega
   have HL:Hid ((C.x4 i).NY=cJ ((C.x4 i).n 1) ((C.x4 i).n 3) g a):=ac (by rw[iJ.NY,TJ,Dr]);have arX:1<=g:=by omega
   have arY:1<=a:=by omega
   clear TJ Dr;have X:=ac I;have Y:=ac J;clear I J;obtain⟨K,L,M,N,O,P,Q,R,S,T,U,V⟩:=gx z.out
   go_wp2
   go_loopw [9,10,11] (λZ l o wr=>∃k:Nat,k<=g/\o=.int .i64 ((C.x4 i).n 1+k)/\Z=.bool ((cJ ((C.x4 i).n 1) ((C.x4 i).n 3) k a).any (C.zR i))/\l=.bool ((cJ ((C.x4 i).n 1) ((C.x4 i).n 3) k a).all (C.zR i))/\wr.heap[w1.heap.size]?=some (.cells #[.int .i64 (C.sz i).1,.int .i64 (C.sz i).2] 35)/\wr.heap[w1.heap.size+1]?=some (.cells (C.x4 i).val 73)/\Below w.heap.size w wr) (λ_ _ o _=>((C.x4 i).n 1+g-intOf o).toNat)
   case atStart=>exact⟨0,ai _,by simp,by simp[cJ],by simp[cJ],W.out,z.out,Kf.out⟩
   case round=>
    clear K L M N O P Q R S T U V;obtain⟨k,hk,rfl,rfl,rfl,q2,q3,f⟩:=hrel;obtain⟨A,hA⟩:∃A,A=(cJ ((C.x4 i).n 1) ((C.x4 i).n 3) k a).any (C.zR i):=⟨_,rfl⟩
    obtain⟨B,p⟩:∃B,B=(cJ ((C.x4 i).n 1) ((C.x4 i).n 3) k a).all (C.zR i):=⟨_,rfl⟩
    rw[<-hA,<-p];have c:=ac hA;have d:=ac p;have r:=ac q2;have q:=ac q3;clear hA p q2 q3;obtain⟨K,L,M,N,O,P,Q,R,S,T,U,V⟩:=gx q.out;by_cases aH:k<g
    ·have i1:(C.x4 i).n 1+(k:Int)<=(C.x4 i).n 2:=by rw[X.out];omega
     go_wp2
     go_loopw [9,10,12] (λZ l JQ wr=>∃j:Nat,j<=a/\JQ=.int .i64 ((C.x4 i).n 3+j)/\Z=.bool ((cJ ((C.x4 i).n 1) ((C.x4 i).n 3) k a++fD ((C.x4 i).n 1+(k:Nat)) ((C.x4 i).n 3) j).any (C.zR i))/\l=.bool ((cJ ((C.x4 i).n 1) ((C.x4 i).n 3) k a++fD ((C.x4 i).n 1+(k:Nat)) ((C.x4 i).n 3) j).all (C.zR i))/\wr.heap[w1.heap.size]?=some (.cells #[.int .i64 (C.sz i).1,.int .i64 (C.sz i).2] 35)/\wr.heap[w1.heap.size+1]?=some (.cells (C.x4 i).val 73)/\Below w.heap.size w wr) (λ_ _ JQ _=>((C.x4 i).n 3+a-intOf JQ).toNat)
     case atStart=>exact⟨0,ai _,by simp,by simp[fD,c.out],by simp[fD,d.out],r.out,q.out,f⟩
     case round=>
      clear K L M N O P Q R S T U V r q c d;obtain⟨j,hj,rfl,rfl,rfl,q2,q3,f⟩:=hrel;obtain⟨A,hA⟩:∃A,A=(cJ ((C.x4 i).n 1) ((C.x4 i).n 3) k a++fD ((C.x4 i).n 1+(k:Nat)) ((C.x4 i).n 3) j).any (C.zR i):=⟨_,rfl⟩
      obtain⟨B,p⟩:∃B,B=(cJ ((C.x4 i).n 1) ((C.x4 i).n 3) k a++fD ((C.x4 i).n 1+(k:Nat)) ((C.x4 i).n 3) j).all (C.zR i):=⟨_,rfl⟩
      rw[<-hA,<-p];have c:=ac hA;have d:=ac p;have r:=ac q2;have q:=ac q3;clear hA p q2 q3;obtain⟨K,L,M,N,O,P,Q,R,S,T,U,V⟩:=gx q.out;obtain⟨t0,t1,u0,u1⟩:=uJ r.out;by_cases hlj:j<a
      ·have i2:(C.x4 i).n 3+(j:Int)<=(C.x4 i).n 4:=by rw[Y.out];omega
       have J:=Y.out;have I:=X.out;have lq:1<=(C.x4 i).n 1+(k:Int):=by omega
       have E:(C.x4 i).n 1+(k:Int)<=90:=by omega
       have FJ : -((C.x4 i).n 1+(k:Int))<=(C.x4 i).n 3+(j:Int):=by omega
       have hb4:(C.x4 i).n 3+(j:Int)<=(C.x4 i).n 1+(k:Int):=by omega
       clear J I
       go_wp2
       go_quiet (first|(go_at_call 80;exact Calls.quiet_of_same ((rN _ _ _ lq E FJ hb4).mono λ_ _ h=>⟨h.1,h.2.symm⟩))|(go_at_call 74;exact Calls.quiet_of_same (rJ _ _ _ _)))
       have HX:Hid ((C.zR i (lv ((C.x4 i).n 1+(k:Nat)) ((C.x4 i).n 3+(j:Nat))))=bO (lv ((C.x4 i).n 1+(k:Nat)) ((C.x4 i).n 3+(j:Nat))) (C.sz i).1 (C.sz i).2):=ac rfl;have ali:Hid ((cJ ((C.x4 i).n 1) ((C.x4 i).n 3) k a++fD ((C.x4 i).n 1+(k:Nat)) ((C.x4 i).n 3) (j+1)).any (C.zR i)=(A||bO (lv ((C.x4 i).n 1+(k:Nat)) ((C.x4 i).n 3+(j:Nat))) (C.sz i).1 (C.sz i).2)):=ac (by rw[c.out,<-HX.out,nA,<-bo,List.any_append];simp);have oh:Hid ((cJ ((C.x4 i).n 1) ((C.x4 i).n 3) k a++fD ((C.x4 i).n 1+(k:Nat)) ((C.x4 i).n 3) (j+1)).all (C.zR i)=(B&&bO (lv ((C.x4 i).n 1+(k:Nat)) ((C.x4 i).n 3+(j:Nat))) (C.sz i).1 (C.sz i).2)):=ac (by rw[d.out,<-HX.out,nA,<-bo,List.all_append];simp);clear c d;cases A<;>cases B
       all_goals (
        go_wp2
        refine⟨⟨j+1,hlj,by congr 1;push_cast;omega,by rw[ali.out];simp,by rw[oh.out];simp,r.out,q.out,below_drewN f _⟩,by simp only[intOf];omega⟩)
      ·obtain rfl:j=a:=by omega
       have i2:(C.x4 i).n 4<(C.x4 i).n 3+(j:Int):=by rw[Y.out];omega
       go_wp2
       refine⟨⟨k+1,aH,by congr 1;push_cast;omega,by rw[kE,c.out],by rw[kE,d.out],r.out,q.out,f⟩,by simp only[intOf];omega⟩
    ·obtain rfl:k=g:=by omega
     have i1:(C.x4 i).n 2<(C.x4 i).n 1+(k:Int):=by rw[X.out];omega
     have fin:Hid (C.Cm i=if B then 1 else if A then 0 else 2):=ac (by
      rw[CD.Cm,HL.out,c.out,d.out,Ej];have e:((cJ ((C.x4 i).n 1) ((C.x4 i).n 3) k a).any λx=>!C.zR i x) = !((cJ ((C.x4 i).n 1) ((C.x4 i).n 3) k a).all (C.zR i)):=Ku _ _;rw[e]
      cases(cJ ((C.x4 i).n 1) ((C.x4 i).n 3) k a).all (C.zR i)<;>simp)
     clear c d;cases A<;>cases B
     all_goals (
      go_wp2
      refine bd (v:=C.iq i) ?_ rfl ⟨rfl,f⟩;rw[CD.iq,if_pos D.out,Int.toNat_natCast,fin.out]
      simp[bg,aJ,go_sem])
 ·have D:=ac hf;have hn:(C.b6 (bO n 0 (C.n4-1)) != 0)=true:=by simpa using hf
  clear hf h
  go_enter (fx (by decide) aF),aI
  go_wp2_with (go_at_call 93;refine(uE _ _ _ (H.out _ s.out)).mono ?_;rintro e w1⟨rfl,b⟩;obtain⟨lp,lR⟩:=cW b)
  refine bd (v:=C.iq n) ?_ rfl ⟨rfl,ab s.out b⟩;rw[CD.iq,if_neg D.out];simp[bg,aJ,go_sem]
def yM:PL.stoodInHeld 35=false:=by kernel_rfl
def Co:PL.eqGuardType PL.depth 35=false:=by kernel_rfl
def ET(s r:Int):∃a b,ie s r=.tuple #[.int .i64 a,.int .i64 b]:=by
 unfold ie
 repeat (first|exact⟨_,_,rfl⟩|split)
def Ik(C:CD)(n:Int):∃a b c,C.kR n=.tuple #[.agg #[.int .i64 a,.int .i64 b],.int .i64 c]:=by
 unfold CD.kR
 split<;>exact⟨_,_,_,rfl⟩
def EU(C:CD)(n:Int):∃a b,C.iq n=.tuple #[.int .i64 a,.int .i64 b]:=by
 unfold CD.iq
 split<;>exact⟨_,_,rfl⟩
structure KB(C:CD)(w W:World):Prop where
 box:W.heap[w.heap.size]?=some (.cells C.val 27)
 low:Below w.heap.size w W
def KB.on{C:CD}{w W a:World}(h:KB C w W)(b:Below W.heap.size W a):KB C w a:=
 ⟨(b.block _ (aa h.box)).trans h.box,ab h.low b⟩
def KB.alloc{C:CD}{w W:World}(h:KB C w W)(o:Obj):KB C w (W.alloc o):=h.on ((ad _ _).alloc (ae _) _)
def KB.lt{C:CD}{w W:World}(h:KB C w W):w.heap.size<W.heap.size:=aa h.box
def CD.Mem.below{C:CD}{w w':World}(h:C.Mem w)(a:Below w.heap.size w w'):C.Mem w':=by
 have s:=a.size;have e:∀o,w'.cell? ⟨C.k2,o,none⟩=w.cell? ⟨C.k2,o,none⟩:=λo=>a.cell (p:=⟨C.k2,o,none⟩) h.h2;have b:∀o,w'.cell? ⟨C.k3,o,none⟩=w.cell? ⟨C.k3,o,none⟩:=λo=>a.cell (p:=⟨C.k3,o,none⟩) h.h3;have c:∀o,w'.cell? ⟨C.k4,o,none⟩=w.cell? ⟨C.k4,o,none⟩:=λo=>a.cell (p:=⟨C.k4,o,none⟩) h.h4;have d:∀o,w'.cell? ⟨C.k5,o,none⟩=w.cell? ⟨C.k5,o,none⟩:=λo=>a.cell (p:=⟨C.k5,o,none⟩) h.h5;obtain⟨h2,h3,h4,h5,s2,s3,s4,s5,Ep,Er,Es,Et,Eu,AD,dB,nj,l4,J5,FI,HU,J6⟩:=h
 exact⟨by omega,by omega,by omega,by omega,s2,s3,s4,s5,λi hi=>(e _).trans (Ep i hi),λi hi=>(e _).trans (Er i hi),λi hi=>(b _).trans (Es i hi),λi hi=>(b _).trans (Et i hi),λi hi=>(b _).trans (Eu i hi),
  λi hi=>(c _).trans (AD i hi),λi hi j f h2=>(c _).trans (dB i hi j f h2),λi hi=>(c _).trans (nj i hi),λi hi hl=>⟨(l4 i hi hl).1,ao (l4 i hi hl).2 s⟩,
  λi hi j g=>(a.cell (p:=⟨(C.x4 i).lk,(C.x4 i).lo+j,none⟩) (l4 i hi (by omega)).2).trans (J5 i hi j g),λi hi=>(d _).trans (FI i hi),λi hi=>(d _).trans (HU i hi),λi hi=>(d _).trans (J6 i hi)⟩
def Il(q:∀w,Calls PL 19 #[] w (aO (.bool true) w))(C:CD)(p s r:Int)(w:World)(h:C.Mem w) :
 Calls PL 3 #[.agg C.val,.int .i64 p,.int .i64 s,.int .i64 r] w (aO (.bool true) w):=by
 have Q:∀W,Below w.heap.size w W->C.Mem W:=λW f=>h.below f;have D:=ac Q;have R:=ac q;have S:KB C w (w.alloc (.cells C.val 27)):=⟨au _ _,(ad _ _).alloc (ae _) _⟩
 have x:=ac S;clear h Q q S;by_cases hs:C.small=true
 ·have m:Hid (∀W,Below w.heap.size w W->C.At W):=ac λW f=>CD.At.Ri (D.out W f) hs;have a:(!C.small)=false:=by rw[hs];rfl
  have E:Hid (∀W,C.Mem W->Calls PL 18 #[.agg C.val] W (aO (.bool false) W)):=ac λW b=>by have:=AK C W b;rwa[a]at this
  obtain⟨T,U,hl⟩:=ET s r;obtain⟨y,z,V,hd⟩:=Ik C p;obtain⟨X,Y,F⟩:=EU C p;have H:Hid (∀W,Calls PL 20 #[.int .i64 s,.int .i64 r] W λe w'=>e=.returned (.tuple #[.int .i64 T,.int .i64 U])/\w'=W):=ac λW=>by have:=uD s r W;rwa[hl]at this
  have I:Hid (∀W,Calls PL 21 #[.int .i64 s,.int .i64 r] W λe w'=>e=.returned (.tuple #[.int .i64 T,.int .i64 U])/\w'=W):=ac λW=>by have:=Ib s r W;rwa[hl]at this
  have J:Hid (∀W,C.At W->Calls PL 24 #[.agg C.val,.int .i64 p] W (aO (.tuple #[.agg #[.int .i64 y,.int .i64 z],.int .i64 V]) W)):=ac λW b=>by have:=nB C p W b;rwa[hd]at this
  have K:Hid (∀W,C.At W->Calls PL 25 #[.agg C.val,.int .i64 p] W (aO (.tuple #[.agg #[.int .i64 y,.int .i64 z],.int .i64 V]) W)):=ac λW b=>by have:=zS C p W b;rwa[hd]at this
  have L:Hid (∀W,C.At W->Calls PL 26 #[.agg C.val,.int .i64 p] W (aO (.tuple #[.int .i64 X,.int .i64 Y]) W)):=ac λW b=>by have:=pH C p W b;rwa[F]at this
  have M:Hid (∀W,C.At W->Calls PL 27 #[.agg C.val,.int .i64 p] W (aO (.tuple #[.int .i64 X,.int .i64 Y]) W)):=ac λW b=>by have:=Cn C p W b;rwa[F]at this
  clear hl hd F hs a
  go_enter (fx (by decide) aL),aP
  go_wp2_with (first
   |(go_at_call 18;refine(E.out _ (D.out _ x.out.low)).mono ?_;rintro e w1⟨rfl,d⟩;have N:=ac (x.out.on d);clear d)
   |(go_at_call 20;refine(H.out _).mono ?_;rintro e w'⟨rfl,rfl⟩)
   |(go_at_call 21;refine(I.out _).mono ?_;rintro e w'⟨rfl,rfl⟩))
  refine bc ?_;refine ig (KB C w) (λ_ _=>True) (λ_=>true) (λ_ _ _=>True) rfl (by kernel_rfl) (λ_ _ _ _ _ h=>h) (λ_ _ _ _ _ _ _ _ h=>h) ?_ ?_
  ·exact N.out.on (ad _ _).drew
  ·iterate 15 (
    apply aY
    case hE=>rfl
    case h=>
     intro vs W c hd;obtain⟨g,i,j,k,f4,l⟩:=bf c.box
     go_simp
     first
      |(go_at_call 22;refine(uC C _ (m.out _ c.low)).mono ?_;rintro e W'⟨rfl,f⟩;exact⟨_,rfl,rfl,c.on f⟩)
      |(go_at_call 23;refine(rK C _ (m.out _ c.low)).mono ?_;rintro e W'⟨rfl,f⟩;exact⟨_,rfl,rfl,c.on f⟩)
      |exact rfl
      |exact⟨rfl,c,trivial⟩
    case hb=>intro vs;simp only[bi,bj,bl,bm];rfl)
   refine cP λvs W c hd=>?_;refine NoPanic.normal ?_;have n:=ac c;clear c hd;obtain⟨g,i,j,k,f4,l⟩:=bf n.out.box;have o:=n.out.lt;have q1:=yM;have q2:=Co
   go_wp2_with (first
    |(go_at_call 24;refine(J.out _ (m.out _ n.out.low)).mono ?_;rintro e w2⟨rfl,Z⟩;have O:=ac (n.out.on Z);have K4:=ac (O.out.alloc (.cells #[.int .i64 y,.int .i64 z] 35));clear Z o g i j k f4 l;have o:=O.out.lt;obtain⟨g,i,j,k,f4,l⟩:=bf O.out.box)
    |(go_at_call 25;refine(K.out _ (m.out _ K4.out.low)).mono ?_;rintro e w3⟨rfl,A⟩;obtain⟨hc3,hf3⟩:=cW A;have hz3:w2.heap.size<w3.heap.size:=(by have:=A.size;simp at this;omega);have P:=ac (K4.out.on A);have K6:=ac (P.out.alloc (.cells #[.int .i64 y,.int .i64 z] 35));clear A o g i j k f4 l;have o:=P.out.lt;obtain⟨g,i,j,k,f4,l⟩:=bf P.out.box)
    |(go_at_call 26;refine(L.out _ (m.out _ K6.out.low)).mono ?_;rintro e w4⟨rfl,t⟩;have B:=ac (K6.out.on t);clear t o g i j k f4 l;have o:=B.out.lt;obtain⟨g,i,j,k,f4,l⟩:=bf B.out.box)
    |(go_at_call 27;refine(M.out _ (m.out _ B.out.low)).mono ?_;rintro e w5⟨rfl,u⟩;have K8:=ac (B.out.on u);clear u)
    |(go_at_call 19;refine(R.out _).mono ?_;rintro e w6⟨rfl,v⟩;have K9:=ac (K8.out.on v);clear v))
   go_ret
   exact⟨rfl,K9.out.low⟩
 ·have a:(!C.small)=true:=by simpa using hs
  have E:Hid (∀W,C.Mem W->Calls PL 18 #[.agg C.val] W (aO (.bool true) W)):=ac λW b=>by have:=AK C W b;rwa[a]at this
  clear hs a
  go_enter (fx (by decide) aL),aP
  go_wp2_with (first
   |(go_at_call 18;refine(E.out _ (D.out _ x.out.low)).mono ?_;rintro e w1⟨rfl,d⟩;have N:=ac (x.out.on d);clear d)
   |(go_at_call 19;refine(R.out _).mono ?_;rintro e w1⟨rfl,d⟩;have n:=ac (N.out.on d);clear d))
  go_ret
  exact⟨rfl,n.out.low⟩
def Reads(W:World)(v:Value)(n m:Nat)(f:Nat->Value):Prop:=∃b c,v=.slice b n c/\(0<n->∃k o,b=some ⟨k,o,none⟩/\k<W.heap.size/\∀j,j<n*m->W.cell? ⟨k,o+j,none⟩=some (f j))
def Reads.on{W a:World}{v:Value}{n m:Nat}{f:Nat->Value}(h:Reads W v n m f)(d:Below W.heap.size W a):Reads a v n m f:=by
 obtain⟨b,c,e,h⟩:=h;refine⟨b,c,e,λi=>?_⟩;obtain⟨k,o,e1,g,hc⟩:=h i;exact⟨k,o,e1,ao g d.size,λj l=>(d.cell (p:=⟨k,o+j,none⟩) g).trans (hc j l)⟩
def aaC:PL.stoodInHeld 61=false:=by kernel_rfl
def Vy:PL.eqGuardType PL.depth 61=false:=by kernel_rfl
def Rw:PL.stoodInHeld 64=false:=by kernel_rfl
def Kv:PL.eqGuardType PL.depth 64=false:=by kernel_rfl
def pI(a b:Value)(n:Nat)(f:Nat->Int)(w:World)(c:Reads w a n 1 λj=>.int .i64 (f j))(hb:Reads w b n 1 λj=>.int .i64 (f j))(h:n<=20):Calls PL 30 #[a,b] w (aO (.bool true) w):=by
 obtain⟨r,s,rfl,c⟩:=c;obtain⟨t,u,rfl,hb⟩:=hb
 rcases ap n with rfl|e
 ·clear c hb h
  go_enter (fx (by decide) aT),a5
  go_wp2
  go_loop [5] (λv=>v=.int .i64 0) (λ_=>0)
  case atStart=>rfl
  case round=>
   subst hrel
   go_wp2
   go_ret
   exact⟨rfl,ad _ _⟩
 ·obtain⟨k,o,rfl,i,c⟩:=c e;obtain⟨k',g,rfl,l,hb⟩:=hb e;have A:=ac c;have B:=ac hb;clear c hb
  go_enter (fx (by decide) aT),a5
  go_wp2
  go_loopw [5] (λv wr=>∃q:Nat,q<=n/\v=.int .i64 q/\Below w.heap.size w wr) (λv _=>n-(intOf v).toNat)
  case atStart=>exact⟨0,ai _,rfl,ad _ _⟩
  case round=>
   obtain⟨q,x,rfl,d⟩:=hrel;by_cases m:q<n
   ·have y:(q:Int)<n:=by omega
    have a0:wr.cell? ⟨k,o+q,none⟩=some (.int .i64 (f q)):=(d.cell (p:=⟨k,o+q,none⟩) i).trans (A.out q (by omega));have b0:wr.cell? ⟨k',g+q,none⟩=some (.int .i64 (f q)):=(d.cell (p:=⟨k',g+q,none⟩) l).trans (B.out q (by omega))
    go_wp2
    go_quiet (fail)
    go_wp2
    refine⟨⟨q+1,m,by go_num,below_drewN d _⟩,by simp only[intOf];omega⟩
   ·obtain rfl:q=n:=by omega
    go_wp2
    go_ret
    exact⟨rfl,d⟩
def Cp(a b:Value)(n:Nat)(f:Nat->Int)(w:World)(c:Reads w a n 1 λj=>.int .i64 (f j))(hb:Reads w b n 1 λj=>.int .i64 (f j))(h:n<=20):Calls PL 56 #[a,b] w (aO (.bool true) w):=by
 obtain⟨r,s,rfl,c⟩:=c;obtain⟨t,u,rfl,hb⟩:=hb
 rcases ap n with rfl|e
 ·clear c hb h
  go_enter (fx (by decide) a6),a7
  go_wp2
  go_loop [5] (λv=>v=.int .i64 0) (λ_=>0)
  case atStart=>rfl
  case round=>
   subst hrel
   go_wp2
   go_ret
   exact⟨rfl,ad _ _⟩
 ·obtain⟨k,o,rfl,i,c⟩:=c e;obtain⟨k',g,rfl,l,hb⟩:=hb e;have A:=ac c;have B:=ac hb;clear c hb
  go_enter (fx (by decide) a6),a7
  go_wp2
  go_loopw [5] (λv wr=>∃q:Nat,q<=n/\v=.int .i64 q/\Below w.heap.size w wr) (λv _=>n-(intOf v).toNat)
  case atStart=>exact⟨0,ai _,rfl,ad _ _⟩
  case round=>
   obtain⟨q,x,rfl,d⟩:=hrel;by_cases m:q<n
   ·have y:(q:Int)<n:=by omega
    have a0:wr.cell? ⟨k,o+q,none⟩=some (.int .i64 (f q)):=(d.cell (p:=⟨k,o+q,none⟩) i).trans (A.out q (by omega));have b0:wr.cell? ⟨k',g+q,none⟩=some (.int .i64 (f q)):=(d.cell (p:=⟨k',g+q,none⟩) l).trans (B.out q (by omega))
    go_wp2
    go_quiet (fail)
    go_wp2
    refine⟨⟨q+1,m,by go_num,below_drewN d _⟩,by simp only[intOf];omega⟩
   ·obtain rfl:q=n:=by omega
    go_wp2
    go_ret
    exact⟨rfl,d⟩
def zT(a b:Value)(n:Nat)(f:Nat->Int)(w:World)(e:Reads w a n 5 λj=>.int .i64 (f j))(hb:Reads w b n 5 λj=>.int .i64 (f j))(l:n<=20):Calls PL 58 #[a,b] w (aO (.bool true) w):=by
 obtain⟨r,s,rfl,e⟩:=e;obtain⟨t,u,rfl,hb⟩:=hb;have q1:=aaC;have q2:=Vy;have q3:=yM
 rcases ap n with rfl|i
 ·clear e hb l
  go_enter (fx (by decide) a8),a9
  go_wp2
  go_loop [5] (λv=>v=.int .i64 0) (λ_=>0)
  case atStart=>rfl
  case round=>
   subst hrel
   go_wp2
   go_ret
   exact⟨rfl,ad _ _⟩
 ·obtain⟨k,o,rfl,g,e⟩:=e i;obtain⟨k',d,rfl,h,hb⟩:=hb i;have A:=ac e;have B:=ac hb;clear e hb
  go_enter (fx (by decide) a8),a9
  go_wp2
  go_loopw [5] (λv wr=>∃q:Nat,q<=n/\v=.int .i64 q/\Below w.heap.size w wr) (λv _=>n-(intOf v).toNat)
  case atStart=>exact⟨0,ai _,rfl,ad _ _⟩
  case round=>
   obtain⟨q,x,rfl,c⟩:=hrel;by_cases m:q<n
   ·have y:(q:Int)<n:=by omega
    have a0:wr.cell? ⟨k,o+q*5,none⟩=some (.int .i64 (f (q*5))):=(c.cell (p:=⟨k,o+q*5,none⟩) g).trans ((by have:=A.out (q*5) (by omega);simpa using this));have a1:wr.cell? ⟨k,o+q*5+1,none⟩=some (.int .i64 (f (q*5+1))):=(c.cell (p:=⟨k,o+q*5+1,none⟩) g).trans ((by have:=A.out (q*5+1) (by omega);rwa[<-aq]at this));have a2:wr.cell? ⟨k,o+q*5+2,none⟩=some (.int .i64 (f (q*5+2))):=(c.cell (p:=⟨k,o+q*5+2,none⟩) g).trans ((by have:=A.out (q*5+2) (by omega);rwa[<-aq]at this));have a3:wr.cell? ⟨k,o+q*5+3,none⟩=some (.int .i64 (f (q*5+3))):=(c.cell (p:=⟨k,o+q*5+3,none⟩) g).trans ((by have:=A.out (q*5+3) (by omega);rwa[<-aq]at this));have a4:wr.cell? ⟨k,o+q*5+4,none⟩=some (.int .i64 (f (q*5+4))):=(c.cell (p:=⟨k,o+q*5+4,none⟩) g).trans ((by have:=A.out (q*5+4) (by omega);rwa[<-aq]at this));have b0:wr.cell? ⟨k',d+q*5,none⟩=some (.int .i64 (f (q*5))):=(c.cell (p:=⟨k',d+q*5,none⟩) h).trans ((by have:=B.out (q*5) (by omega);simpa using this));have z:wr.cell? ⟨k',d+q*5+1,none⟩=some (.int .i64 (f (q*5+1))):=(c.cell (p:=⟨k',d+q*5+1,none⟩) h).trans ((by have:=B.out (q*5+1) (by omega);rwa[<-aq]at this));have C:wr.cell? ⟨k',d+q*5+2,none⟩=some (.int .i64 (f (q*5+2))):=(c.cell (p:=⟨k',d+q*5+2,none⟩) h).trans ((by have:=B.out (q*5+2) (by omega);rwa[<-aq]at this));have D:wr.cell? ⟨k',d+q*5+3,none⟩=some (.int .i64 (f (q*5+3))):=(c.cell (p:=⟨k',d+q*5+3,none⟩) h).trans ((by have:=B.out (q*5+3) (by omega);rwa[<-aq]at this))
    have E:wr.cell? ⟨k',d+q*5+4,none⟩=some (.int .i64 (f (q*5+4))):=(c.cell (p:=⟨k',d+q*5+4,none⟩) h).trans ((by have:=B.out (q*5+4) (by omega);rwa[<-aq]at this))
    go_wp2
    go_quiet (fail)
    go_wp2
    refine⟨⟨q+1,m,by go_num,below_drewN c _⟩,by simp only[intOf];omega⟩
   ·obtain rfl:q=n:=by omega
    go_wp2
    go_ret
    exact⟨rfl,c⟩
def vS(a b:Value)(n:Nat)(f:Nat->Int)(w:World)(e:Reads w a n 5 λj=>.int .i64 (f j))(hb:Reads w b n 5 λj=>.int .i64 (f j))(l:n<=20):Calls PL 65 #[a,b] w (aO (.bool true) w):=by
 obtain⟨r,s,rfl,e⟩:=e;obtain⟨t,u,rfl,hb⟩:=hb;have q1:=Rw;have q2:=Kv;have q3:=yM
 rcases ap n with rfl|i
 ·clear e hb l
  go_enter (fx (by decide) ba),bb
  go_wp2
  go_loop [5] (λv=>v=.int .i64 0) (λ_=>0)
  case atStart=>rfl
  case round=>
   subst hrel
   go_wp2
   go_ret
   exact⟨rfl,ad _ _⟩
 ·obtain⟨k,o,rfl,g,e⟩:=e i;obtain⟨k',d,rfl,h,hb⟩:=hb i;have A:=ac e;have B:=ac hb;clear e hb
  go_enter (fx (by decide) ba),bb
  go_wp2
  go_loopw [5] (λv wr=>∃q:Nat,q<=n/\v=.int .i64 q/\Below w.heap.size w wr) (λv _=>n-(intOf v).toNat)
  case atStart=>exact⟨0,ai _,rfl,ad _ _⟩
  case round=>
   obtain⟨q,x,rfl,c⟩:=hrel;by_cases m:q<n
   ·have y:(q:Int)<n:=by omega
    have a0:wr.cell? ⟨k,o+q*5,none⟩=some (.int .i64 (f (q*5))):=(c.cell (p:=⟨k,o+q*5,none⟩) g).trans ((by have:=A.out (q*5) (by omega);simpa using this));have a1:wr.cell? ⟨k,o+q*5+1,none⟩=some (.int .i64 (f (q*5+1))):=(c.cell (p:=⟨k,o+q*5+1,none⟩) g).trans ((by have:=A.out (q*5+1) (by omega);rwa[<-aq]at this));have a2:wr.cell? ⟨k,o+q*5+2,none⟩=some (.int .i64 (f (q*5+2))):=(c.cell (p:=⟨k,o+q*5+2,none⟩) g).trans ((by have:=A.out (q*5+2) (by omega);rwa[<-aq]at this));have a3:wr.cell? ⟨k,o+q*5+3,none⟩=some (.int .i64 (f (q*5+3))):=(c.cell (p:=⟨k,o+q*5+3,none⟩) g).trans ((by have:=A.out (q*5+3) (by omega);rwa[<-aq]at this));have a4:wr.cell? ⟨k,o+q*5+4,none⟩=some (.int .i64 (f (q*5+4))):=(c.cell (p:=⟨k,o+q*5+4,none⟩) g).trans ((by have:=A.out (q*5+4) (by omega);rwa[<-aq]at this));have b0:wr.cell? ⟨k',d+q*5,none⟩=some (.int .i64 (f (q*5))):=(c.cell (p:=⟨k',d+q*5,none⟩) h).trans ((by have:=B.out (q*5) (by omega);simpa using this));have z:wr.cell? ⟨k',d+q*5+1,none⟩=some (.int .i64 (f (q*5+1))):=(c.cell (p:=⟨k',d+q*5+1,none⟩) h).trans ((by have:=B.out (q*5+1) (by omega);rwa[<-aq]at this));have C:wr.cell? ⟨k',d+q*5+2,none⟩=some (.int .i64 (f (q*5+2))):=(c.cell (p:=⟨k',d+q*5+2,none⟩) h).trans ((by have:=B.out (q*5+2) (by omega);rwa[<-aq]at this));have D:wr.cell? ⟨k',d+q*5+3,none⟩=some (.int .i64 (f (q*5+3))):=(c.cell (p:=⟨k',d+q*5+3,none⟩) h).trans ((by have:=B.out (q*5+3) (by omega);rwa[<-aq]at this))
    have E:wr.cell? ⟨k',d+q*5+4,none⟩=some (.int .i64 (f (q*5+4))):=(c.cell (p:=⟨k',d+q*5+4,none⟩) h).trans ((by have:=B.out (q*5+4) (by omega);rwa[<-aq]at this))
    go_wp2
    go_quiet (fail)
    go_wp2
    refine⟨⟨q+1,m,by go_num,below_drewN c _⟩,by simp only[intOf];omega⟩
   ·obtain rfl:q=n:=by omega
    go_wp2
    go_ret
    exact⟨rfl,c⟩
end Go.Proofs
