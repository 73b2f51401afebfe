/- Part of the proof of FieldFlat and FieldMarshals. -/
import Derived.Test.YtmkjeaacgibnoaaGreatY25
import Derived.Deep.RegionHeld3
set_option linter.all false
open Go.Lib renaming hid->aa
open Go.Proofs.Tryz renaming func89->ab,ntmps89->ac,func88->ad,ntmps88->ae,func23->ag,ntmps23->ai,func18->ao,ntmps18->ap
open Nat renaming zero_le->aq,not_lt_zero->ar,le_refl->aw,lt_of_lt_of_le->aB
open Go.RowKit.Below renaming heap_alloc->aF,refl->aH
open List renaming range->aI,all_eq_true->aJ,mem_range->aL
open Go.Proofs renaming getElem?_lt'->aP
open Go.Proofs.Below renaming on->aT
open Bool renaming and_eq_true->ba
namespace Go.Proofs
open Go.RowKit
set_option maxRecDepth 100000
set_option maxHeartbeats 2000000
def J9{s:ByteArray}(h:ku s=true)(w:World)(hs:s.size<=100):Calls PL 134 #[.string s] w λe w'=>e=.returned (.bool true)/\w=w':=by
 have:=vv s w hs;rwa[h]at this
def Ka{s:ByteArray}(h:ku s=false)(w:World)(hs:s.size<=100):Calls PL 134 #[.string s] w λe w'=>e=.returned (.bool false)/\w=w':=by
 have:=vv s w hs;rwa[h]at this
def sZ(a b:ByteArray):(a.toList==b.toList)=decide (a=b):=by rw[<-beq_toListBytes,bytes_beq]
def yx(C:CD)(m:Nat)(w:World)(h:C.At w)(b:m<C.n5):Calls PL 89 #[.agg C.val,.int .i64 (m:Int)] w (aO (.int .i64 (iI C.n4 C.x5 m)) w):=by
 have H:=aa h;have c0:=h.FI m b;have c1:=h.HU m b;have c2:=h.J6 m b;have Z:=h.s5 (by omega);have L:=h.h5;have M:=h.nm5 m b;have m5:=h.m5;have m4:=h.m4;clear h;obtain⟨l,p,N,k2,o2,O,P,x2,Q,k3,o3,R,S,x3,T,k4,o4,I,U,x4,b5,u,v,d,V,a⟩:=C;simp only at c0 c1 c2 Z L M m5 m4 b ⊢;subst Z;have hmi:(m:Int)<d:=by omega
 by_cases c:ku (a m).1=true
 ·have n:=aa c;clear c
  go_enter (fx (by decide) ab),ac
  go_wp2_with (go_at_call 134;refine(J9 n.out _ M).mono ?_;rintro e w'⟨rfl,rfl⟩)
  go_loopw [6] (λi wr=>∃q:Nat,q<=m/\i=.int .i64 q/\(∀j,j<q->(a j).1≠(a m).1)/\wr.heap[w.heap.size]?=some (.cells #[.int .i64 l,.int .i64 p,.slice N O P,.slice Q R S,.slice T I U,.slice (some ⟨u,v,none⟩) d V] 27)/\wr.heap[w.heap.size+1]?=some (.cells #[.string (a m).1,.int .i64 (a m).2.1,.int .i64 (a m).2.2] 67)/\Below w.heap.size w wr) (λi _=>m-(intOf i).toNat)
  case atStart=>
   refine⟨0,aq _,rfl,λj f=>absurd f (ar _),(aF _ _ _ (by simp)).trans (au _ _),?_,((aH _ _).alloc (aw _) _).alloc (by simp) _⟩;have:=au (w.alloc (.cells #[.int .i64 l,.int .i64 p,.slice N O P,.slice Q R S,.slice T I U,.slice (some ⟨u,v,none⟩) d V] 27)) (.cells #[.string (a m).1,.int .i64 (a m).2.1,.int .i64 (a m).2.2] 67);simpa using this
  case round=>
   obtain⟨q,hq,rfl,x,y,z,A⟩:=hrel;have HJ:=aa x;have o:=aa y;have s:=aa z;clear x y z;obtain⟨f0,f1,f2,f3,f4,f5⟩:=bf o.out;obtain⟨g0,g1,g2⟩:=aao s.out;by_cases qN:q<m
   ·have k0:=(A.cell (p:=⟨u,v+q*3,none⟩) L).trans (H.out.FI q (by show q<d;omega));simp only at k0;have i2:(q:Int)<d:=by omega
    go_wp2
    go_quiet (fail)
    go_wp2
    ·have g:(a q).1=(a m).1:=by
      have t:((a q).1.toList==(a m).1.toList)=true:=by assumption
      rw[sZ]at t;simpa using t
     have W:(a m).1∈(aI m).map (λj=>(a j).1):=List.mem_map.2 ⟨q,List.mem_range.2 qN,g⟩
     go_ret
     exact⟨aC (by simp[iI,iH,n.out,W]),dr A _⟩
    ·have g:(a q).1≠(a m).1:=by
      have t:((a q).1.toList==(a m).1.toList)=false:=by assumption
      rw[sZ]at t;simpa using t
     refine⟨⟨q+1,qN,by go_num,λj f=>?_,o.out,s.out,dr A _⟩,by simp[intOf];omega⟩
     rcases Nat.lt_succ_iff_lt_or_eq.1 f with h|h
     ·exact HJ.out j h
     ·rw[h];exact g
   ·obtain rfl:q=m:=by omega
    have DR:iH (a q).1 ((aI q).map λj=>(a j).1)=0:=by
     have c:(a q).1∉(aI q).map (λj=>(a j).1):=λb=>by
      obtain⟨j,X,Y⟩:=List.mem_map.1 b;exact HJ.out j (List.mem_range.1 X) Y
     simp only[iH];rw[if_pos n.out,if_neg c]
    have J:=aa DR;clear DR;by_cases K:bO (a q).2.1 0 (I-1)=true
    ·have k:=aa K;clear K;obtain⟨wo,rfl⟩:∃wo:World,wo=wr:=⟨_,rfl⟩
     go_wp2_with (first|(go_at_call 74;((with_reducible refine(kH k.out _).mono ?_);rintro e w'⟨rfl,rfl⟩)))
     go_loopw [7] (λi wr=>∃r:Nat,r<=q/\i=.int .i64 r/\(∀j,j<r->(a j).2.1≠(a q).2.1)/\wr.heap[w.heap.size]?=some (.cells #[.int .i64 l,.int .i64 p,.slice N O P,.slice Q R S,.slice T I U,.slice (some ⟨u,v,none⟩) d V] 27)/\wr.heap[w.heap.size+1]?=some (.cells #[.string (a q).1,.int .i64 (a q).2.1,.int .i64 (a q).2.2] 67)/\Below w.heap.size w wr) (λi _=>q-(intOf i).toNat)
     case atStart=>exact⟨0,aq _,rfl,λj f=>absurd f (ar _),o.out,s.out,A⟩
     case round=>
      obtain⟨r,hr,rfl,x,y,z,B⟩:=hrel;have HK:=aa x;have o:=aa y;have s:=aa z;clear x y z;obtain⟨f0,f1,f2,f3,f4,f5⟩:=bf o.out;obtain⟨g0,g1,g2⟩:=aao s.out;by_cases E:r<q
      ·have k1:=(B.cell (p:=⟨u,v+r*3+1,none⟩) L).trans (H.out.HU r (by show r<d;omega));simp only at k1;have i2:(r:Int)<d:=by omega
       go_wp2
       go_quiet (fail)
       go_wp2
       ·have g:(a r).2.1=(a q).2.1:=by
         have t:((a r).2.1==(a q).2.1)=true:=by assumption
         simpa using t
        have W:(a q).2.1∈(aI q).map (λj=>(a j).2.1):=List.mem_map.2 ⟨r,List.mem_range.2 E,g⟩
        go_ret
        exact⟨aC (by simp only[iI];rw[if_pos J.out,k.out,if_pos W];rfl),dr B _⟩
       ·have g:(a r).2.1≠(a q).2.1:=by
         have t:((a r).2.1==(a q).2.1)=false:=by assumption
         simpa using t
        refine⟨⟨r+1,E,by go_num,λj f=>?_,o.out,s.out,dr B _⟩,by simp[intOf];omega⟩
        rcases Nat.lt_succ_iff_lt_or_eq.1 f with h|h
        ·exact HK.out j h
        ·rw[h];exact g
      ·obtain rfl:r=q:=by omega
       have c:(a r).2.1∉(aI r).map (λj=>(a j).2.1):=λb=>by
        obtain⟨j,X,Y⟩:=List.mem_map.1 b;exact HK.out j (List.mem_range.1 X) Y
       have F:=aa c;clear c;by_cases hd:bO (a r).2.2 0 12=true
       ·have D:=aa hd;clear hd
        go_wp2_with (first|(go_at_call 74;((with_reducible refine(kH D.out _).mono ?_);rintro e w'⟨rfl,rfl⟩)))
        go_ret
        exact⟨aC (by simp only[iI];rw[if_pos J.out,k.out,if_neg F.out,D.out];rfl),B⟩
       ·have D:=aa (aV hd);clear hd
        go_wp2_with (first|(go_at_call 74;((with_reducible refine(vQ D.out _).mono ?_);rintro e w'⟨rfl,rfl⟩)))
        go_ret
        exact⟨aC (by simp only[iI];rw[if_pos J.out,k.out,if_neg F.out,D.out];rfl),B⟩
    ·have k:=aa (aV K);clear K
     go_wp2_with (first|(go_at_call 74;((with_reducible refine(vQ k.out _).mono ?_);rintro e w'⟨rfl,rfl⟩)))
     go_ret
     exact⟨aC (by simp only[iI];rw[if_pos J.out,k.out];rfl),A⟩
 ·have n:=aa (aV c);clear c
  go_enter (fx (by decide) ab),ac
  go_wp2_with (go_at_call 134;refine(Ka n.out _ M).mono ?_;rintro e w'⟨rfl,rfl⟩)
  go_ret
  exact⟨aC (by simp[iI,iH,n.out]),((aH _ _).alloc (aw _) _).alloc (by simp) _⟩
set_option maxHeartbeats 4000000
def Ey{a b low c:Int}(h:eK a b low c=true)(w:World):Calls PL 86 #[.agg #[.int .i64 a,.int .i64 b],.int .i64 low,.int .i64 c] w (aO (.bool true) w):=by
 have:=kB a b low c w;rwa[h]at this
def Ez{a b low c:Int}(h:eK a b low c=false)(w:World):Calls PL 86 #[.agg #[.int .i64 a,.int .i64 b],.int .i64 low,.int .i64 c] w (aO (.bool false) w):=by
 have:=kB a b low c w;rwa[h]at this
def Vi(n a b:Int)(w:World):Calls PL 74 #[.int .i64 n,.int .i64 a,.int .i64 b] w λe w'=>e=.returned (.bool (bO n a b))/\w=w':=(rJ n a b w).mono λ_ _⟨a,b⟩=>⟨a,b.symm⟩
def gx{w:World}{k:Nat}{x0 x1 x2 x3 x4 a b c d e f g:Value}{t:TypeId}(h:w.heap[k]?=some (.cells #[x0,x1,x2,x3,x4,a,b,c,d,e,f,g] t)) :
 w.cell? ⟨k,0,none⟩=some x0/\w.cell? ⟨k,1,none⟩=some x1/\w.cell? ⟨k,2,none⟩=some x2/\w.cell? ⟨k,3,none⟩=some x3/\w.cell? ⟨k,4,none⟩=some x4/\w.cell? ⟨k,5,none⟩=some a/\w.cell? ⟨k,6,none⟩=some b/\w.cell? ⟨k,7,none⟩=some c/\w.cell? ⟨k,8,none⟩=some d/\w.cell? ⟨k,9,none⟩=some e/\w.cell? ⟨k,10,none⟩=some f/\w.cell? ⟨k,11,none⟩=some g:=by
 simp[World.cell?,h]
def aap{w:World}{k:Nat}{x0 x1 x2 x3 x4 a b c d e f g:Value}{t:TypeId}(h:w.heap[k]?=some (.cells #[x0,x1,x2,x3,x4,a,b,c,d,e,f,g] t)):w.cell? ⟨k,0,none⟩=some x0:=(gx h).1
def Xq{w W:World}{x0 x1 x2 x3 x4 a c d e f g i:Value}{B:Array Value}{t u:TypeId}(h:W.heap[w.heap.size+1]?=some (.cells #[x0,x1,x2,x3,x4,a,c,d,e,f,g,i] t))(k:W.heap[w.heap.size]?=some (.cells B u))(b:Below w.heap.size w W) :
 W.cell? ⟨w.heap.size+1,1,none⟩=some x1/\W.cell? ⟨w.heap.size+1,3,none⟩=some x3/\W.cell? ⟨w.heap.size+1,4,none⟩=some x4/\(W.heap[w.heap.size]?=some (.cells B u)/\W.heap[w.heap.size+1]?=some (.cells #[x0,x1,x2,x3,x4,a,c,d,e,f,g,i] t)/\Below w.heap.size w W):=
 ⟨(gx h).2.1,(gx h).2.2.2.1,(gx h).2.2.2.2.1,k,h,b⟩
def aaq{w W a:World}{x0 x1 x2 x3 x4 d e f g i j l:Value}{B:Array Value}{t u:TypeId}(m:W.cell? ⟨w.heap.size+1,1,none⟩=some x1)(n:W.cell? ⟨w.heap.size+1,3,none⟩=some x3)(o:W.cell? ⟨w.heap.size+1,4,none⟩=some x4)(k:W.heap[w.heap.size]?=some (.cells B u))(h:W.heap[w.heap.size+1]?=some (.cells #[x0,x1,x2,x3,x4,d,e,f,g,i,j,l] t))(b:Below w.heap.size w W)(c:Below W.heap.size W a) :
 a.cell? ⟨w.heap.size+1,1,none⟩=some x1/\a.cell? ⟨w.heap.size+1,3,none⟩=some x3/\a.cell? ⟨w.heap.size+1,4,none⟩=some x4/\(a.heap[w.heap.size]?=some (.cells B u)/\a.heap[w.heap.size+1]?=some (.cells #[x0,x1,x2,x3,x4,d,e,f,g,i,j,l] t)/\Below w.heap.size w a):=
 Xq ((c.block _ (aP h)).trans h) ((c.block _ (aP k)).trans k) (aT b c)
def ED(C:CD)(m:Nat)(w:World)(h:C.At w)(b:m<C.n4)(J0:1<=C.p)(u:C.p<=6):Calls PL 88 #[.agg C.val,.int .i64 (m:Int)] w (aO (.int .i64 (gM C.p C.n2 C.n3 C.x4 m)) w):=by
 have H:=aa h;have c0:=h.AD m b;have c1:=h.dB m b 1 (by omega) (by omega);have c2:=h.dB m b 2 (by omega) (by omega);have c3:=h.dB m b 3 (by omega) (by omega);have c4:=h.dB m b 4 (by omega) (by omega);have c5:=h.dB m b 5 (by omega) (by omega);have c6:=h.dB m b 6 (by omega) (by omega);have c7:=h.dB m b 7 (by omega) (by omega);have c8:=h.dB m b 8 (by omega) (by omega);have c9:=h.dB m b 9 (by omega) (by omega);have V:=h.dB m b 10 (by omega) (by omega);have X:=h.nj m b;have s4:=h.s4 (by omega);have h4:=h.h4;have Y:=(h.cu m b).1;have Tl:=(h.cu m b).2;have m4:=h.m4;have m2:=h.m2;have m3:=h.m3;clear h;obtain⟨l,p,J,k2,o2,v,K,x2,L,k3,o3,M,N,x3,b4,z,A,o,O,x4,P,k5,o5,Q,R,x5⟩:=C;simp only at c0 c1 c2 c3 c4 c5 c6 c7 c8 c9 V X s4 h4 Y Tl m4 m2 m3 b J0 u ⊢;subst s4;have hmi:(m:Int)<o:=by omega
 by_cases x:ku (x4 m).name=true
 ·have y:=aa x;clear x
  go_enter (fx (by decide) ad),ae
  go_wp2_with (go_at_call 134;refine(J9 y.out _ Y).mono ?_;rintro e w'⟨rfl,rfl⟩)
  go_loopw [6] (λi wr=>∃q:Nat,q<=m/\i=.int .i64 q/\(∀j,j<q->(x4 j).name≠(x4 m).name)/\wr.heap[w.heap.size]?=some (.cells #[.int .i64 l,.int .i64 p,.slice J v K,.slice L M N,.slice (some ⟨z,A,none⟩) o O,.slice P Q R] 27)/\wr.heap[w.heap.size+1]?=some (.cells #[.string (x4 m).name,.int .i64 ((x4 m).n 1),.int .i64 ((x4 m).n 2),.int .i64 ((x4 m).n 3),.int .i64 ((x4 m).n 4),.int .i64 ((x4 m).n 5),.int .i64 ((x4 m).n 6),.int .i64 ((x4 m).n 7),.int .i64 ((x4 m).n 8),.int .i64 ((x4 m).n 9),.int .i64 ((x4 m).n 10),.slice (x4 m).lb (x4 m).ln (x4 m).lc] 73)/\Below w.heap.size w wr) (λi _=>m-(intOf i).toNat)
  case atStart=>
   refine⟨0,aq _,rfl,λj Z=>absurd Z (ar _),(aF _ _ _ (by simp)).trans (au _ _),?_,((aH _ _).alloc (aw _) _).alloc (by simp) _⟩;have:=au (w.alloc (.cells #[.int .i64 l,.int .i64 p,.slice J v K,.slice L M N,.slice (some ⟨z,A,none⟩) o O,.slice P Q R] 27)) (.cells #[.string (x4 m).name,.int .i64 ((x4 m).n 1),.int .i64 ((x4 m).n 2),.int .i64 ((x4 m).n 3),.int .i64 ((x4 m).n 4),.int .i64 ((x4 m).n 5),.int .i64 ((x4 m).n 6),.int .i64 ((x4 m).n 7),.int .i64 ((x4 m).n 8),.int .i64 ((x4 m).n 9),.int .i64 ((x4 m).n 10),.slice (x4 m).lb (x4 m).ln (x4 m).lc] 73);simpa using this
  case round=>
   obtain⟨q,hq,rfl,vw,jM,NU,S⟩:=hrel;have HJ:=aa vw;have Ce:=aa jM;have B:=aa NU;clear vw jM NU;obtain⟨f0,f1,f2,f3,f4,f5⟩:=bf Ce.out;have g0:=aap B.out;by_cases qN:q<m
   ·have k0:=(S.cell (p:=⟨z,A+q*12,none⟩) h4).trans (H.out.AD q (by show q<o;omega));simp only at k0;have i2:(q:Int)<o:=by omega
    go_wp2
    go_quiet (fail)
    go_wp2
    ·have he:(x4 q).name=(x4 m).name:=by
      have t:((x4 q).name.toList==(x4 m).name.toList)=true:=by assumption
      rw[sZ]at t;simpa using t
     have nt:(x4 m).name∈(aI m).map (λj=>(x4 j).name):=List.mem_map.2 ⟨q,List.mem_range.2 qN,he⟩
     go_ret
     exact⟨aC (by simp[gM,iH,y.out,nt]),dr S _⟩
    ·have he:(x4 q).name≠(x4 m).name:=by
      have t:((x4 q).name.toList==(x4 m).name.toList)=false:=by assumption
      rw[sZ]at t;simpa using t
     refine⟨⟨q+1,qN,by go_num,λj Z=>?_,Ce.out,B.out,dr S _⟩,by simp[intOf];omega⟩
     rcases Nat.lt_succ_iff_lt_or_eq.1 Z with h|h
     ·exact HJ.out j h
     ·rw[h];exact he
   ·obtain rfl:q=m:=by omega
    have DR:iH (x4 q).name ((aI q).map λj=>(x4 j).name)=0:=by
     have x:(x4 q).name∉(aI q).map (λj=>(x4 j).name):=λb=>by
      obtain⟨j,h1,h2⟩:=List.mem_map.1 b;exact HJ.out j (List.mem_range.1 h1) h2
     simp only[iH];rw[if_pos y.out,if_neg x]
    have Xp:=aa DR;clear DR;obtain⟨T,rfl⟩:∃T:World,T=wr:=⟨_,rfl⟩
    have c:=S;have g:=Ce;have k:=B;have d:w.heap.size+1<T.heap.size:=aP B.out;have f:w.heap.size<T.heap.size:=by omega
    obtain⟨a0,a1,a2,a3,a4,a5,a6,a7,a8,a9,zm,zM⟩:=gx B.out;have LB:=aa (λhl=>(H.out.l4 q b hl).1);have FH:0<(x4 q).ln->(x4 q).lk<w.heap.size:=λhl=>(H.out.l4 q b hl).2;by_cases D:eK ((x4 q).n 3) ((x4 q).n 4) (-90) 90=true
    ·have E:=aa D;have Q8 : -90<=(x4 q).n 3/\(x4 q).n 3<=90:=by
      simp only[eK,ba,decide_eq_true_eq]at D;omega
     obtain⟨Q8,hr4⟩:=Q8;clear D
     go_wp2_with (first|(go_at_call 86;((with_reducible refine(Ey E.out _).mono ?_);rintro e w1⟨rfl,a⟩;obtain⟨F,I⟩:=cW a;have c:=aT c a;have g:=aa ((a.block _ f).trans g.out);have k:=aa ((a.block _ d).trans k.out);have d:=aB d a.size;have f:=aB f a.size))|(go_at_call 86;refine(kB _ _ _ _ _).mono ?_;rintro e w1⟨rfl,a⟩;obtain⟨F,I⟩:=cW a;have c:=aT c a;have g:=aa ((a.block _ f).trans g.out);have k:=aa ((a.block _ d).trans k.out);have d:=aB d a.size;have f:=aB f a.size))
     ·have hS:=Xq (W:=w1.drew) k.out g.out c.drew;clear F I
      go_region_held3 (λW=>W.cell? ⟨w.heap.size+1,1,none⟩=some (.int .i64 ((x4 q).n 1))/\W.cell? ⟨w.heap.size+1,3,none⟩=some (.int .i64 ((x4 q).n 3))/\W.cell? ⟨w.heap.size+1,4,none⟩=some (.int .i64 ((x4 q).n 4))/\(W.heap[w.heap.size]?=some (.cells #[.int .i64 l,.int .i64 p,.slice J v K,.slice L M N,.slice (some ⟨z,A,none⟩) o O,.slice P Q R] 27)/\W.heap[w.heap.size+1]?=some (.cells #[.string (x4 q).name,.int .i64 ((x4 q).n 1),.int .i64 ((x4 q).n 2),.int .i64 ((x4 q).n 3),.int .i64 ((x4 q).n 4),.int .i64 ((x4 q).n 5),.int .i64 ((x4 q).n 6),.int .i64 ((x4 q).n 7),.int .i64 ((x4 q).n 8),.int .i64 ((x4 q).n 9),.int .i64 ((x4 q).n 10),.slice (x4 q).lb (x4 q).ln (x4 q).lc] 73)/\Below w.heap.size w W)) (first|exact hS|(go_split_ands;refine aaq ‹_› ‹_› ‹_› ‹_› ‹_› ‹_› qA)|go_keep) ((go_at_call 94;refine(AI _ _ _ Q8 hr4).mono ?_;rintro e w2⟨rfl,qA⟩))
      have hS2:w2.cell? ⟨w.heap.size+1,1,none⟩=some (.int .i64 ((x4 q).n 1))/\w2.cell? ⟨w.heap.size+1,3,none⟩=some (.int .i64 ((x4 q).n 3))/\w2.cell? ⟨w.heap.size+1,4,none⟩=some (.int .i64 ((x4 q).n 4))/\(w2.heap[w.heap.size]?=some (.cells #[.int .i64 l,.int .i64 p,.slice J v K,.slice L M N,.slice (some ⟨z,A,none⟩) o O,.slice P Q R] 27)/\w2.heap[w.heap.size+1]?=some (.cells #[.string (x4 q).name,.int .i64 ((x4 q).n 1),.int .i64 ((x4 q).n 2),.int .i64 ((x4 q).n 3),.int .i64 ((x4 q).n 4),.int .i64 ((x4 q).n 5),.int .i64 ((x4 q).n 6),.int .i64 ((x4 q).n 7),.int .i64 ((x4 q).n 8),.int .i64 ((x4 q).n 9),.int .i64 ((x4 q).n 10),.slice (x4 q).lb (x4 q).ln (x4 q).lc] 73)/\Below w.heap.size w w2):=by assumption
      obtain⟨_,_,_,NV,u,c⟩:=hS2;have g:=aa NV;have k:=aa u;have d:w.heap.size+1<w2.heap.size:=aP u;have f:w.heap.size<w2.heap.size:=by omega
      obtain⟨a0,a1,a2,a3,a4,a5,a6,a7,a8,a9,zm,zM⟩:=gx u;obtain⟨f0,f1,f2,f3,f4,f5⟩:=bf NV;clear NV u
      go_wp2_with (first|(go_at_call 74;refine(Vi _ _ _ _).mono ?_;rintro e w'⟨rfl,rfl⟩)|(go_at_call 86;refine(kB _ _ _ _ _).mono ?_;rintro e w1⟨rfl,a⟩;obtain⟨F,I⟩:=cW a;have c:=aT c a;have g:=aa ((a.block _ f).trans g.out);have k:=aa ((a.block _ d).trans k.out);have d:=aB d a.size;have f:=aB f a.size)|(go_at_call 45;refine(Vh _ (x4 q).lk (x4 q).lo _ _ _ (x4 q).lane _ Tl m3 (λhl=>aB (FH hl) c.size) LB.out (λi hi=>(c.cell (p:=⟨(x4 q).lk,(x4 q).lo+i,none⟩) (FH (by omega))).trans (H.out.J5 q b i hi))).mono ?_;rintro e w1⟨rfl,a⟩;have c:=aT c a))
      all_goals (
       go_ret
       have P1:eK ((x4 q).n 1) ((x4 q).n 2) 1 90=true:=by assumption
       refine⟨aC ?_,c⟩;simp only[gM];rw[if_pos Xp.out,P1,E.out]
       first
        |(have t:(x4 q).n 1<max ((x4 q).n 4) (-(x4 q).n 3):=by assumption
          rw[if_pos (by rfl),if_pos (by omega)];done)
        |(have t:max ((x4 q).n 4) (-(x4 q).n 3)<=(x4 q).n 1:=by assumption
          rw[if_pos (by rfl),if_neg (by omega)]
          first
           |(have t1:¬bO ((x4 q).n 5) 0 (↑v-1)=true:=by assumption
             rw[aV t1];rfl)
           |(have t1:bO ((x4 q).n 5) 0 (↑v-1)=true:=by assumption
             first
              |(have t2:(!bO ((x4 q).n 6) 0 (p-1))=true:=by assumption
                have r:bO ((x4 q).n 6) 0 (p-1)=false:=by simpa using t2
                rw[t1,r];rfl)
              |(have t2:(!bO ((x4 q).n 6) 0 (p-1))=false:=by assumption
                have r:bO ((x4 q).n 6) 0 (p-1)=true:=by simpa using t2
                rw[t1,r,if_pos (by rfl)]
                first
                 |(have U:¬eK ((x4 q).n 7) ((x4 q).n 8) 1 60=true:=by assumption
                   rw[aV U];rfl)
                 |(have U:eK ((x4 q).n 7) ((x4 q).n 8) 1 60=true:=by assumption
                   first
                    |(have t4:(!eK ((x4 q).n 9) ((x4 q).n 10) 0 60)=true:=by assumption
                      have s:eK ((x4 q).n 9) ((x4 q).n 10) 0 60=false:=by simpa using t4
                      rw[U,s];rfl)
                    |(have t4:(!eK ((x4 q).n 9) ((x4 q).n 10) 0 60)=false:=by assumption
                      have s:eK ((x4 q).n 9) ((x4 q).n 10) 0 60=true:=by simpa using t4
                      rw[U,s,if_pos (by rfl)])))))
       done)
     ·go_ret
      have t:¬eK ((x4 q).n 1) ((x4 q).n 2) 1 90=true:=by assumption
      exact⟨aC (by simp only[gM];rw[if_pos Xp.out,aV t];simp),c⟩
    ·have E:=aa (aV D);clear D
     go_wp2_with (first|(go_at_call 86;((with_reducible refine(Ez E.out _).mono ?_);rintro e w1⟨rfl,a⟩;obtain⟨F,I⟩:=cW a;have c:=aT c a;have g:=aa ((a.block _ f).trans g.out);have k:=aa ((a.block _ d).trans k.out);have d:=aB d a.size;have f:=aB f a.size))|(go_at_call 86;refine(kB _ _ _ _ _).mono ?_;rintro e w1⟨rfl,a⟩;obtain⟨F,I⟩:=cW a;have c:=aT c a;have g:=aa ((a.block _ f).trans g.out);have k:=aa ((a.block _ d).trans k.out);have d:=aB d a.size;have f:=aB f a.size))
     all_goals (
      go_ret
      exact⟨aC (by simp only[gM];rw[if_pos Xp.out,E.out];simp),c⟩)
 ·have y:=aa (aV x);clear x
  go_enter (fx (by decide) ad),ae
  go_wp2_with (go_at_call 134;refine(Ka y.out _ Y).mono ?_;rintro e w'⟨rfl,rfl⟩)
  go_ret
  exact⟨aC (by simp[gM,iH,y.out]),((aH _ _).alloc (aw _) _).alloc (by simp) _⟩
def EE(C:CD)(w:World)(h:C.At w)(a:C.dP 0=0):Calls PL 87 #[.agg C.val] w (aO (.int .i64 (C.dP 2)) w):=
 Ic _ _ _ _ _ _ _ _ _ _ _ _ h.m3 (cK a).1 (cK a).2 h.h3 h.s3 h.Es h.Et h.Eu
def EF(C:CD)(w:World)(h:C.At w)(a:C.dP 0=0)(b:C.dP 2=0):Calls PL 87 #[.agg C.val] w (aO (.int .i64 0) w):=by
 have:=EE C w h a;rwa[b]at this
def aar(C:CD)(m:Nat)(w:World)(h:C.At w)(a:m<C.n4)(b:1<=C.p)(c:C.p<=6)(d:gM C.p C.n2 C.n3 C.x4 m=0):Calls PL 88 #[.agg C.val,.int .i64 (m:Int)] w (aO (.int .i64 0) w):=by
 have:=ED C m w h a b c;rwa[d]at this
def Rh(C:CD)(m:Nat)(w:World)(h:C.At w)(a:m<C.n5)(b:iI C.n4 C.x5 m=0):Calls PL 89 #[.agg C.val,.int .i64 (m:Int)] w (aO (.int .i64 0) w):=by
 have:=yx C m w h a;rwa[b]at this
def rK(C:CD)(w:World)(h:C.At w):Calls PL 23 #[.agg C.val] w (aO (.int .i64 C.cx) w):=by
 have H:=aa h;have m2:=h.m2;have m4:=h.m4;have m5:=h.m5;have S:=h.h2;have S2:=aa h.s2;clear h;by_cases hl:bO C.l 1 999=true
 case neg=>
  have L:=aa (aV hl);clear hl
  go_enter (fx (by decide) ag),ai
  go_wp2_with (first|(go_at_call 74;((with_reducible refine(vQ L.out _).mono ?_);rintro e w'⟨rfl,rfl⟩)))
  go_ret
  have v:C.dP 0=1:=by simp[CD.dP,jd,L.out]
  exact⟨aC ((cR (m:=0) (λj b=>absurd b (ar _)) (by omega) (by rw[v];decide)).trans v),(aH _ _).alloc (aw _) _⟩
 case pos=>
 have L:=aa hl;clear hl;by_cases J:bO C.p 1 6=true
 case neg=>
  have P:=aa (aV J);clear J
  go_enter (fx (by decide) ag),ai
  go_wp2_with (first|(go_at_call 74;((with_reducible refine(kH L.out _).mono ?_);rintro e w'⟨rfl,rfl⟩))|(go_at_call 74;((with_reducible refine(vQ P.out _).mono ?_);rintro e w'⟨rfl,rfl⟩)))
  go_ret
  have v:C.dP 0=1:=by simp[CD.dP,jd,L.out,P.out]
  exact⟨aC ((cR (m:=0) (λj b=>absurd b (ar _)) (by omega) (by rw[v];decide)).trans v),(aH _ _).alloc (aw _) _⟩
 case pos=>
 have P:=aa J;clear J;have z0:C.dP 0=0:=by simp[CD.dP,jd,L.out,P.out]
 have n:=aa z0;clear z0;by_cases B:bO C.n2 1 3=true
 case neg=>
  have y:=aa (aV B);clear B
  go_enter (fx (by decide) ag),ai
  go_wp2_with (first|(go_at_call 74;((with_reducible refine(kH L.out _).mono ?_);rintro e w'⟨rfl,rfl⟩))|(go_at_call 74;((with_reducible refine(kH P.out _).mono ?_);rintro e w'⟨rfl,rfl⟩))|(go_at_call 74;((with_reducible refine(vQ y.out _).mono ?_);rintro e w'⟨rfl,rfl⟩)))
  go_ret
  have v:C.dP 1=2:=by simp[CD.dP,pq,y.out]
  exact⟨aC ((cR (m:=1) (λj b=>by(obtain rfl:j=0:=by omega);exact n.out) (by omega) (by rw[v];decide)).trans v),(aH _ _).alloc (aw _) _⟩
 case pos=>
 have y:=aa B;have vI:0<C.n2:=by simp[bO]at B;omega
 clear B
 go_enter (fx (by decide) ag),ai
 go_wp2_with (first|(go_at_call 74;((with_reducible refine(kH L.out _).mono ?_);rintro e w'⟨rfl,rfl⟩))|(go_at_call 74;((with_reducible refine(kH P.out _).mono ?_);rintro e w'⟨rfl,rfl⟩))|(go_at_call 74;((with_reducible refine(kH y.out _).mono ?_);rintro e w'⟨rfl,rfl⟩)))
 have K:=S2.out vI;rw[K];have Kf:=aa K;clear K
 go_loopw [3] (λi wr=>∃q:Nat,q<=C.n2/\i=.int .i64 q/\(∀j,j<q->eK (C.x2 j).1 (C.x2 j).2 0 90=true)/\wr.heap[w.heap.size]?=some (.cells C.val 27)/\Below w.heap.size w wr) (λi _=>C.n2-(intOf i).toNat)
 case atStart=>exact⟨0,aq _,rfl,λj b=>absurd b (ar _),au _ _,(aH _ _).alloc (aw _) _⟩
 case round=>
  obtain⟨q,T,rfl,x,o,c⟩:=hrel;have U:=aa x;have d:=aa o;have f:w.heap.size<wr.heap.size:=aP o;clear x o;obtain⟨V,W,M,X,f4,Y⟩:=bf d.out;by_cases g:q<C.n2
  ·have k0:=(c.cell (p:=⟨C.k2,C.o2+q*2,none⟩) S).trans (H.out.Ep q g);have k1:=(c.cell (p:=⟨C.k2,C.o2+q*2+1,none⟩) S).trans (H.out.Er q g);have i2:(q:Int)<C.n2:=by omega
   rw[Kf.out]at M;by_cases hi:eK (C.x2 q).1 (C.x2 q).2 0 90=true
   ·have D:=aa hi;clear hi
    go_wp2_with (go_at_call 86;refine(Ey D.out _).mono ?_;rintro e w1⟨rfl,a⟩)
    refine⟨⟨q+1,g,by go_num,λj b=>?_,(a.block _ f).trans d.out,aT c a⟩,by simp[intOf];omega⟩
    rcases Nat.lt_succ_iff_lt_or_eq.1 b with h|h
    ·exact U.out j h
    ·rw[h];exact D.out
   ·have D:=aa (aV hi);clear hi
    go_wp2_with (go_at_call 86;refine(Ez D.out _).mono ?_;rintro e w1⟨rfl,a⟩)
    go_ret
    have e1:C.dP 1=1:=by
     have:((aI C.n2).all λi=>eK (C.x2 i).1 (C.x2 i).2 0 90)=false:=by
      rw[List.all_eq_false];exact⟨q,List.mem_range.2 g,by simp[D.out]⟩
     simp[CD.dP,pq,y.out,this]
    exact⟨aC ((cR (m:=1) (λj b=>by(obtain rfl:j=0:=by omega);exact n.out) (by omega) (by rw[e1];decide)).trans e1),aT c a⟩
  ·obtain rfl:q=C.n2:=by omega
   have z1:C.dP 1=0:=by
    have:((aI C.n2).all λi=>eK (C.x2 i).1 (C.x2 i).2 0 90)=true:=by
     rw[aJ];intro j b;exact U.out j (List.mem_range.1 b)
    simp[CD.dP,pq,y.out,this]
   have z:=aa z1;clear z1;have k:=c;by_cases E:C.dP 2=0
   case neg=>
    have t:=aa E;have arE:(C.dP 2 != 0)=true:=by simpa using E
    clear E
    go_wp2_with (go_at_call 87;refine(EE C _ (H.out.below k) n.out).mono ?_;rintro e w1⟨rfl,a⟩;obtain⟨Z,lR⟩:=cW a;have k:=aT k a;have d:=aa ((a.block _ f).trans d.out);have f:=aB f a.size)
    go_ret
    exact⟨aC (cR (m:=2) (λj b=>by
     obtain rfl|rfl:j=0\/j=1:=by omega
     ·exact n.out
     ·exact z.out) (by omega) t.out),k⟩
   case pos=>
   have t:=aa E;clear E;by_cases u:bO C.n4 2 5=true
   case neg=>
    have A:=aa (aV u);clear u
    go_wp2_with (first|(go_at_call 87;refine(EF C _ (H.out.below k) n.out t.out).mono ?_;rintro e w1⟨rfl,a⟩;obtain⟨Z,lR⟩:=cW a;have k:=aT k a;have d:=aa ((a.block _ f).trans d.out);have f:=aB f a.size)|(go_at_call 74;((with_reducible refine(vQ A.out _).mono ?_);rintro e w'⟨rfl,rfl⟩)))
    go_ret
    have F:C.dP 3=2:=by simp[CD.dP,kA,A.out]
    exact⟨aC ((cR (m:=3) (λj b=>by
     obtain rfl|rfl|rfl:j=0\/j=1\/j=2:=by omega
     ·exact n.out
     ·exact z.out
     ·exact t.out) (by omega) (by rw[F];decide)).trans F),k⟩
   case pos=>
   have A:=aa u;clear u
   go_wp2_with (first|(go_at_call 87;refine(EF C _ (H.out.below k) n.out t.out).mono ?_;rintro e w1⟨rfl,a⟩;obtain⟨Z,lR⟩:=cW a;have k:=aT k a;have d:=aa ((a.block _ f).trans d.out);have f:=aB f a.size)|(go_at_call 74;((with_reducible refine(kH A.out _).mono ?_);rintro e w'⟨rfl,rfl⟩)))
   have Xi:=cK (l:=C.l) n.out;obtain⟨J0,tL⟩:=Xi;have HX1:=d;have arF:=k;obtain⟨wo,rfl⟩:∃wo:World,wo=w1:=⟨_,rfl⟩
   go_loopw [5] (λi wr=>∃q:Nat,q<=C.n4/\i=.int .i64 q/\(∀j,j<q->gM C.p C.n2 C.n3 C.x4 j=0)/\wr.heap[w.heap.size]?=some (.cells C.val 27)/\Below w.heap.size w wr) (λi _=>C.n4-(intOf i).toNat)
   case atStart=>exact⟨0,aq _,rfl,λj b=>absurd b (ar _),d.out,k⟩
   case round=>
    obtain⟨q,T,rfl,x,o,c⟩:=hrel;have N:=aa x;have d:=aa o;have f:w.heap.size<wr.heap.size:=aP o;clear x o;obtain⟨V,W,M,X,f4,Y⟩:=bf d.out;by_cases g:q<C.n4
    ·by_cases r:gM C.p C.n2 C.n3 C.x4 q=0
     ·have s:=aa r;clear r
      go_wp2_with (go_at_call 88;refine(aar C q _ (H.out.below c) g J0 tL s.out).mono ?_;rintro e w1⟨rfl,a⟩)
      refine⟨⟨q+1,g,by go_num,λj b=>?_,(a.block _ f).trans d.out,aT c a⟩,by simp[intOf];omega⟩
      rcases Nat.lt_succ_iff_lt_or_eq.1 b with h|h
      ·exact N.out j h
      ·rw[h];exact s.out
     ·have s:=aa r;have Yt:(gM C.p C.n2 C.n3 C.x4 q != 0)=true:=by simpa using r
      clear r
      go_wp2_with (go_at_call 88;refine(ED C q _ (H.out.below c) g J0 tL).mono ?_;rintro e w1⟨rfl,a⟩)
      go_ret
      have F:C.dP 3=gM C.p C.n2 C.n3 C.x4 q:=dI A.out N.out g rfl s.out
      exact⟨aC ((cR (m:=3) (λj b=>by
      obtain rfl|rfl|rfl:j=0\/j=1\/j=2:=by omega
      ·exact n.out
      ·exact z.out
      ·exact t.out) (by omega) (by rw[F];exact s.out)).trans F),aT c a⟩
    ·obtain rfl:q=C.n4:=by omega
     have z3:C.dP 3=0:=by
      show kA _ _ _ _ _=0;rw[kA,if_pos A.out];exact cz N.out
     have O:=aa z3;clear z3;by_cases Q:3<C.n5
     ·go_wp2
      go_ret
      have I:C.dP 4=2:=by simp[CD.dP,pE,Q]
      exact⟨aC ((cR (m:=4) (λj b=>by
      obtain rfl|rfl|rfl|rfl:j=0\/j=1\/j=2\/j=3:=by omega
      ·exact n.out
      ·exact z.out
      ·exact t.out
      ·exact O.out) (by omega) (by rw[I];decide)).trans I),c⟩
     ·obtain⟨wp,rfl⟩:∃wp:World,wp=wr:=⟨_,rfl⟩
      go_wp2
      go_loopw [7] (λi wr=>∃q:Nat,q<=C.n5/\i=.int .i64 q/\(∀j,j<q->iI C.n4 C.x5 j=0)/\wr.heap[w.heap.size]?=some (.cells C.val 27)/\Below w.heap.size w wr) (λi _=>C.n5-(intOf i).toNat)
      case atStart=>exact⟨0,aq _,rfl,λj b=>absurd b (ar _),d.out,c⟩
      case round=>
       obtain⟨q,T,rfl,x,o,c⟩:=hrel;have R:=aa x;have d:=aa o;have f:w.heap.size<wr.heap.size:=aP o;clear x o;obtain⟨V,W,M,X,f4,Y⟩:=bf d.out;by_cases g:q<C.n5
       ·by_cases r:iI C.n4 C.x5 q=0
        ·have s:=aa r;clear r
         go_wp2_with (go_at_call 89;refine(Rh C q _ (H.out.below c) g s.out).mono ?_;rintro e w1⟨rfl,a⟩)
         refine⟨⟨q+1,g,by go_num,λj b=>?_,(a.block _ f).trans d.out,aT c a⟩,by simp[intOf];omega⟩
         rcases Nat.lt_succ_iff_lt_or_eq.1 b with h|h
         ·exact R.out j h
         ·rw[h];exact s.out
        ·have s:=aa r;have Yt:(iI C.n4 C.x5 q != 0)=true:=by simpa using r
         clear r
         go_wp2_with (go_at_call 89;refine(yx C q _ (H.out.below c) g).mono ?_;rintro e w1⟨rfl,a⟩)
         go_ret
         have I:C.dP 4=iI C.n4 C.x5 q:=ic Q R.out g rfl s.out
         exact⟨aC ((cR (m:=4) (λj b=>by
      obtain rfl|rfl|rfl|rfl:j=0\/j=1\/j=2\/j=3:=by omega
      ·exact n.out
      ·exact z.out
      ·exact t.out
      ·exact O.out) (by omega) (by rw[I];exact s.out)).trans I),aT c a⟩
       ·obtain rfl:q=C.n5:=by omega
        go_wp2
        go_ret
        have z4:C.dP 4=0:=by
         show pE _ _ _=0;rw[pE,if_neg Q];exact cz R.out
        refine⟨aC (cz λj b=>?_),c⟩;obtain rfl|rfl|rfl|rfl|rfl:j=0\/j=1\/j=2\/j=3\/j=4:=by omega
        ·exact n.out
        ·exact z.out
        ·exact t.out
        ·exact O.out
        ·exact z4
structure CD.Mem(C:CD)(w:World):Prop where
 h2:C.k2<w.heap.size
 h3:C.k3<w.heap.size
 h4:C.k4<w.heap.size
 h5:C.k5<w.heap.size
 s2:0<C.n2->C.b2=some ⟨C.k2,C.o2,none⟩
 s3:0<C.n3->C.b3=some ⟨C.k3,C.o3,none⟩
 s4:0<C.n4->C.b4=some ⟨C.k4,C.o4,none⟩
 s5:0<C.n5->C.b5=some ⟨C.k5,C.o5,none⟩
 Ep:∀i,i<C.n2->w.cell? ⟨C.k2,C.o2+i*2,none⟩=some (.int .i64 (C.x2 i).1)
 Er:∀i,i<C.n2->w.cell? ⟨C.k2,C.o2+i*2+1,none⟩=some (.int .i64 (C.x2 i).2)
 Es:∀i,i<C.n3->w.cell? ⟨C.k3,C.o3+i*3,none⟩=some (.int .i64 (C.x3 i).1)
 Et:∀i,i<C.n3->w.cell? ⟨C.k3,C.o3+i*3+1,none⟩=some (.int .i64 (C.x3 i).2.1)
 Eu:∀i,i<C.n3->w.cell? ⟨C.k3,C.o3+i*3+2,none⟩=some (.int .i64 (C.x3 i).2.2)
 AD:∀i,i<C.n4->w.cell? ⟨C.k4,C.o4+i*12,none⟩=some (.string (C.x4 i).name)
 dB:∀i,i<C.n4->∀j,1<=j->j<=10->w.cell? ⟨C.k4,C.o4+i*12+j,none⟩=some (.int .i64 ((C.x4 i).n j))
 nj:∀i,i<C.n4->w.cell? ⟨C.k4,C.o4+i*12+11,none⟩=some (.slice (C.x4 i).lb (C.x4 i).ln (C.x4 i).lc)
 l4:∀i,i<C.n4->0<(C.x4 i).ln->(C.x4 i).lb=some ⟨(C.x4 i).lk,(C.x4 i).lo,none⟩/\(C.x4 i).lk<w.heap.size
 J5:∀i,i<C.n4->∀j,j<(C.x4 i).ln->w.cell? ⟨(C.x4 i).lk,(C.x4 i).lo+j,none⟩=some (.int .i64 ((C.x4 i).lane j))
 FI:∀i,i<C.n5->w.cell? ⟨C.k5,C.o5+i*3,none⟩=some (.string (C.x5 i).1)
 HU:∀i,i<C.n5->w.cell? ⟨C.k5,C.o5+i*3+1,none⟩=some (.int .i64 (C.x5 i).2.1)
 J6:∀i,i<C.n5->w.cell? ⟨C.k5,C.o5+i*3+2,none⟩=some (.int .i64 (C.x5 i).2.2)
def CD.small(C:CD):Bool:=decide (C.n2<=20)&&decide (C.n3<=20)&&decide (C.n4<=20)&&decide (C.n5<=20)&&((aI C.n4).all λi=>decide ((C.x4 i).name.size<=100)&&decide ((C.x4 i).ln<=20))&&((aI C.n5).all λi=>decide ((C.x5 i).1.size<=100))
def CD.At.Ri{C:CD}{w:World}(h:C.Mem w)(hs:C.small=true):C.At w:=by
 simp only[CD.small,ba,decide_eq_true_eq,aJ,aL]at hs;obtain⟨⟨⟨⟨⟨m2,m3⟩,m4⟩,m5⟩,n4⟩,n5⟩:=hs;obtain⟨h2,h3,h4,h5,s2,s3,s4,s5,Ep,Er,Es,Et,Eu,AD,dB,nj,l4,J5,FI,HU,J6⟩:=h;exact⟨m2,m3,m4,m5,h2,h3,h4,h5,s2,s3,s4,s5,Ep,Er,Es,Et,Eu,n4,AD,dB,nj,l4,J5,n5,FI,HU,J6⟩
def AK(C:CD)(w:World)(h:C.Mem w):Calls PL 18 #[.agg C.val] w (aO (.bool (!C.small)) w):=by
 have H:=aa h;have r:=h.h4;have x:=h.h5;clear h;by_cases hc:C.n2<=20/\C.n3<=20/\C.n4<=20/\C.n5<=20
 case neg=>
  have a:C.small=false:=by
   cases c:C.small with
   |false=>rfl
   |true=>
    simp only[CD.small,ba,decide_eq_true_eq]at c;omega
  have SM:=aa a;clear a
  go_enter (fx (by decide) ao),ap
  go_wp2
  any_goals (
   go_ret
   exact⟨by rw[SM.out];rfl,(aH _ _).alloc (aw _) _⟩)
 case pos=>
 obtain⟨m2,m3,m4,m5⟩:=hc
 go_enter (fx (by decide) ao),ap
 go_wp2
 have y:=aa H.out.s4;have z:=aa H.out.s5
 go_loopw [3] (λi wr=>∃q:Nat,q<=C.n4/\i=.int .i64 q/\(∀j,j<q->(C.x4 j).name.size<=100/\(C.x4 j).ln<=20)/\wr.heap[w.heap.size]?=some (.cells C.val 27)/\Below w.heap.size w wr) (λi _=>C.n4-(intOf i).toNat)
 case atStart=>exact⟨0,aq _,rfl,λj e=>absurd e (ar _),au _ _,(aH _ _).alloc (aw _) _⟩
 case round=>
  obtain⟨q,c,rfl,k,l,b⟩:=hrel;have s:=aa k;have f:=aa l;clear k l;obtain⟨A,B,D,E,f4,t⟩:=bf f.out;by_cases d:q<C.n4
  ·rw[y.out (by omega)]at f4;have k0:=(b.cell (p:=⟨C.k4,C.o4+q*12,none⟩) r).trans (H.out.AD q d);have k1:=(b.cell (p:=⟨C.k4,C.o4+q*12+11,none⟩) r).trans (H.out.nj q d);have F:(q:Int)<C.n4:=by omega
   by_cases g:(C.x4 q).name.size<=100/\(C.x4 q).ln<=20
   ·obtain⟨m,n⟩:=g
    go_wp2
    refine⟨⟨q+1,d,by go_num,λj e=>?_,f.out,b⟩,by simp[intOf];omega⟩
    rcases Nat.lt_succ_iff_lt_or_eq.1 e with h|h
    ·exact s.out j h
    ·rw[h];exact⟨m,n⟩
   ·have a:C.small=false:=by
     cases c:C.small with
     |false=>rfl
     |true=>
      simp only[CD.small,ba,decide_eq_true_eq,aJ,aL]at c;exact absurd (c.1.2 q d) g
    have SM:=aa a;have o:100<(C.x4 q).name.size\/20<(C.x4 q).ln:=by omega
    clear a g;by_cases m:(C.x4 q).name.size<=100
    ·have n:20<(C.x4 q).ln:=by omega
     clear o
     go_wp2
     go_ret
     exact⟨by rw[SM.out];rfl,b⟩
    ·clear o
     go_wp2
     go_ret
     exact⟨by rw[SM.out];rfl,b⟩
  ·obtain rfl:q=C.n4:=by omega
   obtain⟨u,rfl⟩:∃u:World,u=wr:=⟨_,rfl⟩
   go_wp2
   go_loopw [4] (λi wr=>∃q:Nat,q<=C.n5/\i=.int .i64 q/\(∀j,j<q->(C.x5 j).1.size<=100)/\wr.heap[w.heap.size]?=some (.cells C.val 27)/\Below w.heap.size w wr) (λi _=>C.n5-(intOf i).toNat)
   case atStart=>exact⟨0,aq _,rfl,λj e=>absurd e (ar _),f.out,b⟩
   case round=>
    obtain⟨q,c,rfl,k,l,b⟩:=hrel;have v:=aa k;have f:=aa l;clear k l;obtain⟨A,B,D,E,f4,t⟩:=bf f.out;by_cases d:q<C.n5
    ·rw[z.out (by omega)]at t;have k0:=(b.cell (p:=⟨C.k5,C.o5+q*3,none⟩) x).trans (H.out.FI q d);have F:(q:Int)<C.n5:=by omega
     by_cases g:(C.x5 q).1.size<=100
     ·go_wp2
      refine⟨⟨q+1,d,by go_num,λj e=>?_,f.out,b⟩,by simp[intOf];omega⟩
      rcases Nat.lt_succ_iff_lt_or_eq.1 e with h|h
      ·exact v.out j h
      ·rw[h];exact g
     ·have a:C.small=false:=by
       cases c:C.small with
       |false=>rfl
       |true=>
        simp only[CD.small,ba,decide_eq_true_eq,aJ,aL]at c;exact absurd (c.2 q d) g
      have SM:=aa a;clear a
      go_wp2
      go_ret
      exact⟨by rw[SM.out];rfl,b⟩
    ·obtain rfl:q=C.n5:=by omega
     have a:C.small=true:=by
      simp only[CD.small,ba,decide_eq_true_eq,aJ,aL];exact⟨⟨⟨⟨⟨m2,m3⟩,m4⟩,m5⟩,s.out⟩,v.out⟩
     have SM:=aa a;clear a
     go_wp2
     go_ret
     exact⟨by rw[SM.out];rfl,b⟩
end Go.Proofs
