/- Part of the proof of FieldLevels: see X45. -/
import Derived.Test.YtmkjeaacgibnoaaGreatX30
import Derived.BigQuiet
import Derived.Deep.QuietTactic
import Derived.Deep.RegionHeld3
set_option linter.all false
open Go.RowKit.Below renaming refl->aa,heap_alloc->ab
open Nat renaming le_refl->ac,zero_le->ad,not_lt_zero->ae,lt_of_lt_of_le->ag
open Int renaming le_refl->ai,mul_le_mul->ao,add_mul->ap,mul_add->aq
open Go.Lib renaming hid->ar
open Go.Proofs.Tryz renaming func21->aw,ntmps21->aB,func134->aF,ntmps134->aH,func87->aI,ntmps87->aJ,func89->aL,ntmps89->aP,func88->aT,ntmps88->ba
open List renaming range->bb
open Go.Proofs.Below renaming on->bc
namespace Go.Proofs
open Go.RowKit
set_option maxRecDepth 100000
set_option maxHeartbeats 1000000
def rJ(n a b:Int)(w:World):Calls PL 74 #[.int .i64 n,.int .i64 a,.int .i64 b] w λe w'=>e=.returned (.bool (bO n a b))/\w'=w:=by
 go_enter (fx (by decide) Tryz.func74),Tryz.ntmps74
 go_wp2
 all_goals (go_ret;simp[bO];try omega)
def Ia{n a b:Int}(h:bO n a b=true)(w:World):Calls PL 74 #[.int .i64 n,.int .i64 a,.int .i64 b] w λe w'=>e=.returned (.bool true)/\w'=w:=by
 have:=rJ n a b w;rwa[h]at this
def aft{n a b:Int}(h:bO n a b=false)(w:World):Calls PL 74 #[.int .i64 n,.int .i64 a,.int .i64 b] w λe w'=>e=.returned (.bool false)/\w'=w:=by
 have:=rJ n a b w;rwa[h]at this
def yu(c:Nat)(w:World):Calls PL 158 #[.int .u8 c] w λe w'=>e=.returned (.bool (bO c 97 122))/\w'=w:=by
 go_enter (fx (by decide) Tryz.func158),Tryz.ntmps158
 go_wp2
 all_goals (go_ret;simp[bO];try omega)
def AH(c:Nat)(w:World):Calls PL 159 #[.int .u8 c] w λe w'=>e=.returned (.bool (bO c 48 57))/\w'=w:=by
 go_enter (fx (by decide) Tryz.func159),Tryz.ntmps159
 go_wp2
 all_goals (go_ret;simp[bO];try omega)
def kB(a b low c:Int)(w:World):Calls PL 86 #[.agg #[.int .i64 a,.int .i64 b],.int .i64 low,.int .i64 c] w (aO (.bool (eK a b low c)) w):=by
 go_enter (fx (by decide) Tryz.func86),Tryz.ntmps86
 go_wp2_with (go_at_call 74;refine(rJ _ _ _ _).mono ?_;rintro e w'⟨rfl,rfl⟩)
 all_goals (go_ret;refine⟨?_,(aa _ _).alloc (ac _) _⟩;simp_all [eK,bO];try omega)
def AI(a b:Int)(w:World)(c : -90<=a)(d:a<=90):Calls PL 94 #[.agg #[.int .i64 a,.int .i64 b]] w (aO (.int .i64 (max b (-a))) w):=by
 go_enter (fx (by decide) Tryz.func94),Tryz.ntmps94
 go_wp2
 all_goals (go_ret;refine⟨aC (by omega),(aa _ _).alloc (ac _) _⟩)
def Rb(a b:Int)(w:World)(c : -90<=b)(d:b<=90):Calls PL 95 #[.agg #[.int .i64 a,.int .i64 b]] w (aO (.int .i64 (max (max 0 a) (-b))) w):=by
 go_enter (fx (by decide) Tryz.func95),Tryz.ntmps95
 go_wp2
 all_goals (go_ret;refine⟨aC (by omega),(aa _ _).alloc (ac _) _⟩)
def Rc(s r:Int):∀k:Nat,0<=lvl s r k/\lvl s r k<=k
 |0=>⟨ai _,ai _⟩
 |k+1=>by
  have:=Rc s r k;rw[lvl]
  split<;>omega
def Re(s r:Int)(a:0<=s*s-r*r):∀k:Nat,lvl s r k*lvl s r k<=s*s-r*r
 |0=>by simpa[lvl]using a
 |k+1=>by
  rw[lvl]
  split
  ·exact Re s r a k
  ·omega
def J7(s r:Int):∀k:Nat,lvl s r k=k\/s*s-r*r<(lvl s r k+1)*(lvl s r k+1)
 |0=>.inl rfl
 |k+1=>by
  rw[lvl]
  split
  ·rename_i h
   rcases J7 s r k with e|e
   ·right;rw[e];exact h
   ·right;exact e
  ·left;simp
def aan{s:Nat}{r:Int}{k:Nat}(d:r*r<=(s:Int)*s)(c:0<=r*r)(f:(k:Int)*k<=s*s-r*r)(g:(s:Int)*s-r*r<((k:Int)+1)*(k+1)):lvl s r s=k:=by
 obtain⟨a1,a2⟩:=Rc s r s;have a3:=Re s r (by omega) s;have a4:=J7 s r s;generalize lvl s r s=n at *;have mono:∀{a b:Int},0<=a->a<=b->a*a<=b*b:=λc h=>ao h h c (by omega)
 rcases Int.lt_trichotomy n k with h|h|h
 ·have m1:=mono (a:=n+1) (b:=k) (by omega) (by omega)
  rcases a4 with e|e
  ·subst e;have i:((s:Int)+1)*(s+1)=s*s+2*s+1:=by rw[ap,aq];omega
   omega
  ·omega
 ·exact h
 ·have m1:=mono (a:=(k:Int)+1) (b:=n) (by omega) (by omega);omega
def Rf{s:Nat}{r:Int}(g : -s<=r)(f:r<=s):r*r<=(s:Int)*s:=by
 rcases Int.le_total 0 r with h|h
 ·exact ao f f h (by omega)
 ·have e:=ao (a:=-r) (b:=-r) (c:=s) (d:=s) (by omega) (by omega) (by omega) (by omega);rwa[Int.neg_mul_neg]at e
def vu(s:Nat)(r:Int)(w:World)(C:1<=s)(D:s<=90)(j : -s<=r)(l:r<=s):Calls PL 80 #[.int .i64 (s:Int),.int .i64 r] w λe w'=>e=.returned (.int .i64 (lvl s r s))/\w'=w:=by
 have b:=Rf j l;have m:=ar b
 go_enter (fx (by decide) Tryz.func80),Tryz.ntmps80
 go_wp2
 go_loop [5] (λv=>∃k:Nat,k<=s/\v=.int .i64 k/\(k:Int)*k<=s*s-r*r) (λv=>s+1-(intOf v).toNat)
 case atStart=>exact⟨0,ad _,rfl,by simp;omega⟩
 case round=>
  obtain⟨k,E,rfl,n⟩:=hrel;have o:=AF (a:=(k:Int)) (by omega) (by omega);have p:=AF (a:=(s:Int)) (by omega) (by omega);have q:=AF (a:=r) (by omega) (by omega);have i:((k:Int)+1)*(k+1)=k*k+2*k+1:=by rw[ap,aq];omega
  have t:0<=((k:Int)+1)*(k+1)/\((k:Int)+1)*(k+1)<=8281:=by omega
  clear i;obtain⟨u,F⟩:=o;obtain⟨x,y⟩:=p;obtain⟨c,z⟩:=q;obtain⟨A,B⟩:=t
  go_wp2
  ·have d:((k:Int)+1)*(k+1)<=s*s-r*r:=by assumption
   have f:k<s:=by
    rcases Nat.lt_or_ge k s with h|h
    ·exact h
    ·exfalso;obtain rfl:k=s:=by omega
     have i:((k:Int)+1)*(k+1)=k*k+2*k+1:=by rw[ap,aq];omega
     omega
   refine⟨⟨k+1,f,by go_num,by simpa using d⟩,by simp[intOf];omega⟩
  ·have g:(s:Int)*s-r*r<((k:Int)+1)*(k+1):=by assumption
   go_ret
   exact⟨aC (aan m.out c n g),rfl⟩
def Ib(s r:Int)(w:World):Calls PL 21 #[.int .i64 s,.int .i64 r] w λe w'=>e=.returned (ie s r)/\w'=w:=by
 by_cases d:bO s 1 90=true
 ·have i:1<=s/\s<=90:=by simp[bO]at d;exact d
  obtain⟨j,o⟩:=i;have b:=ar d;clear d;by_cases f:bO r (-90) 90=true
  ·have k : -90<=r/\r<=90:=by simp[bO]at f;exact f
   obtain⟨l,m⟩:=k;have c:=ar f;clear f;obtain⟨n,rfl⟩:=Int.eq_ofNat_of_zero_le (a:=s) (by omega);by_cases h:(n:Int)<r
   ·go_enter (fx (by decide) aw),aB
    go_wp2_with (first|(go_at_call 74;((with_reducible refine(Ia b.out _).mono ?_);rintro e w'⟨rfl,rfl⟩))|(go_at_call 74;refine(Ia c.out _).mono ?_;rintro e w'⟨rfl,rfl⟩))
    go_ret2
    exact⟨by simp[ie,b.out,c.out,h],rfl⟩
   ·by_cases p:r < -(n:Int)
    ·go_enter (fx (by decide) aw),aB
     go_wp2_with (first|(go_at_call 74;((with_reducible refine(Ia b.out _).mono ?_);rintro e w'⟨rfl,rfl⟩))|(go_at_call 74;refine(Ia c.out _).mono ?_;rintro e w'⟨rfl,rfl⟩))
     go_ret2
     have g:(n:Int) < -r:=by omega
     exact⟨by simp[ie,b.out,c.out,g],rfl⟩
    ·go_enter (fx (by decide) aw),aB
     go_wp2_with (first|(go_at_call 74;((with_reducible refine(Ia b.out _).mono ?_);rintro e w'⟨rfl,rfl⟩))|(go_at_call 74;refine(Ia c.out _).mono ?_;rintro e w'⟨rfl,rfl⟩)|(go_at_call 80;refine(vu _ _ _ (by omega) (by omega) (by omega) (by omega)).mono ?_;rintro e w'⟨rfl,rfl⟩))
     go_ret2
     have g:¬(n:Int) < -r:=by omega
     exact⟨by simp[ie,b.out,c.out,h,g],rfl⟩
  ·have c:=ar (aV f);clear f
   go_enter (fx (by decide) aw),aB
   go_wp2_with (first|(go_at_call 74;((with_reducible refine(Ia b.out _).mono ?_);rintro e w'⟨rfl,rfl⟩))|(go_at_call 74;refine(aft c.out _).mono ?_;rintro e w'⟨rfl,rfl⟩))
   go_ret2
   exact⟨by simp[ie,b.out,c.out],rfl⟩
 ·have b:=ar (aV d);clear d
  go_enter (fx (by decide) aw),aB
  go_wp2_with (go_at_call 74;refine(aft b.out _).mono ?_;rintro e w'⟨rfl,rfl⟩)
  go_ret2
  exact⟨by simp[ie,b.out],rfl⟩
def Ew{c:Nat}(h:bO c 97 122=true)(w:World):Calls PL 158 #[.int .u8 c] w λe w'=>e=.returned (.bool true)/\w=w':=by
 have:=yu c w;rw[h]at this;exact this.mono λ_ _⟨a,b⟩=>⟨a,b.symm⟩
def yw{c:Nat}(h:bO c 97 122=false)(w:World):Calls PL 158 #[.int .u8 c] w λe w'=>e=.returned (.bool false)/\w=w':=by
 have:=yu c w;rw[h]at this;exact this.mono λ_ _⟨a,b⟩=>⟨a,b.symm⟩
def Vf{c:Nat}(h:bO c 48 57=true)(w:World):Calls PL 159 #[.int .u8 c] w λe w'=>e=.returned (.bool true)/\w=w':=by
 have:=AH c w;rw[h]at this;exact this.mono λ_ _⟨a,b⟩=>⟨a,b.symm⟩
def Vg{c:Nat}(h:bO c 48 57=false)(w:World):Calls PL 159 #[.int .u8 c] w λe w'=>e=.returned (.bool false)/\w=w':=by
 have:=AH c w;rw[h]at this;exact this.mono λ_ _⟨a,b⟩=>⟨a,b.symm⟩
def kH{n a b:Int}(h:bO n a b=true)(w:World):Calls PL 74 #[.int .i64 n,.int .i64 a,.int .i64 b] w λe w'=>e=.returned (.bool true)/\w=w':=by
 have:=rJ n a b w;rw[h]at this;exact this.mono λ_ _⟨a,b⟩=>⟨a,b.symm⟩
def vQ{n a b:Int}(h:bO n a b=false)(w:World):Calls PL 74 #[.int .i64 n,.int .i64 a,.int .i64 b] w λe w'=>e=.returned (.bool false)/\w=w':=by
 have:=rJ n a b w;rw[h]at this;exact this.mono λ_ _⟨a,b⟩=>⟨a,b.symm⟩
def AJ{s:ByteArray}{k:Nat}(h:k<s.size):jv s k=(s[k]'h).toNat:=by simp[jv,h]
def vv(s:ByteArray)(w:World)(hs:s.size<=100):Calls PL 134 #[.string s] w λe w'=>e=.returned (.bool (ku s))/\w=w':=by
 by_cases g:bO (↑s.size) 1 12=true
 ·have o:0<s.size:=by simp[bO]at g;omega
  have d:=ar g;clear g;by_cases n:bO ((s[0]'o).toNat:Int) 97 122=true
  ·have l:=ar n;clear n
   go_enter (fx (by decide) aF),aH
   go_wp2_with (first|(go_at_call 74;refine(kH d.out _).mono ?_;rintro e w'⟨rfl,rfl⟩)|(go_at_call 158;refine(Ew l.out _).mono ?_;rintro e w'⟨rfl,rfl⟩))
   go_loop [3] (λv=>∃k:Nat,k<=s.size/\v=.int .i64 k/\∀j,j<k->wA (jv s j) j=true) (λv=>s.size-(intOf v).toNat)
   case atStart=>exact⟨0,ad _,rfl,λj b=>absurd b (ae _)⟩
   case round=>
    obtain⟨k,u,rfl,r⟩:=hrel;have p:=ar r;clear r;by_cases f:k<s.size
    ·have hb:=AJ f;have q:=ar hb;clear hb;by_cases hl:bO ((s[k]'f).toNat:Int) 97 122=true
     ·have c:=ar hl;clear hl
      go_wp2_with (go_at_call 158;refine(Ew c.out _).mono ?_;rintro e w'⟨rfl,rfl⟩)
      refine⟨⟨k+1,f,by go_num,λj b=>?_⟩,by simp[intOf];omega⟩
      rcases Nat.lt_succ_iff_lt_or_eq.1 b with h|h
      ·exact p.out j h
      ·rw[h,q.out];simp[wA,c.out]
     ·have c:=ar (aV hl);clear hl;have t:k≠0:=λe=>by
       subst e;have a:=c.out;rw[l.out]at a;cases a
      by_cases hd:bO ((s[k]'f).toNat:Int) 48 57=true
      ·have m:=ar hd;clear hd
       go_wp2_with (first|(go_at_call 158;refine(yw c.out _).mono ?_;rintro e w'⟨rfl,rfl⟩)|(go_at_call 159;refine(Vf m.out _).mono ?_;rintro e w'⟨rfl,rfl⟩))
       refine⟨⟨k+1,f,by go_num,λj b=>?_⟩,by simp[intOf];omega⟩
       rcases Nat.lt_succ_iff_lt_or_eq.1 b with h|h
       ·exact p.out j h
       ·rw[h,q.out];simp[wA,m.out,t]
      ·have m:=ar (aV hd);clear hd
       go_wp2_with (first|(go_at_call 158;refine(yw c.out _).mono ?_;rintro e w'⟨rfl,rfl⟩)|(go_at_call 159;refine(Vg m.out _).mono ?_;rintro e w'⟨rfl,rfl⟩))
       go_ret
       exact⟨by rw[qd f (by rw[q.out];simp[wA,c.out,m.out])];rfl,rfl⟩
    ·obtain rfl:k=s.size:=by omega
     go_wp2
     go_ret
     refine⟨?_,rfl⟩;have:((bb s.size).all λi=>wA (jv s i) i)=true:=by
      rw[List.all_eq_true];intro j b;exact p.out j (List.mem_range.1 b)
     simp[ku,this,d.out]
  ·have l:=ar (aV n);clear n
   go_enter (fx (by decide) aF),aH
   go_wp2_with (first|(go_at_call 74;refine(kH d.out _).mono ?_;rintro e w'⟨rfl,rfl⟩)|(go_at_call 158;refine(yw l.out _).mono ?_;rintro e w'⟨rfl,rfl⟩))
   go_ret
   exact⟨by rw[qd o (by rw[AJ o];simp[wA,l.out])];rfl,rfl⟩
 ·have d:=ar (aV g);clear g
  go_enter (fx (by decide) aF),aH
  go_wp2_with (go_at_call 74;refine(vQ d.out _).mono ?_;rintro e w'⟨rfl,rfl⟩)
  go_ret
  exact⟨by simp[ku,d.out],rfl⟩
def dr{B:Nat}{a w:World}(h:Below B a w)(n:Nat):Below B a (w.drewN n):=⟨h.os,h.tape,h.output,h.size,h.block⟩
def Vh(b:Option Addr)(k o n c m:Nat)(x:Nat->Int)(w:World)(D:n<=20)(E:m<=20)(t:0<n->k<w.heap.size)(hs:0<n->b=some ⟨k,o,none⟩)(u:∀i,i<n->w.cell? ⟨k,o+i,none⟩=some (.int .i64 (x i))) :
 Calls PL 45 #[.slice b n c,.int .i64 (m:Int)] w (aO (.int .i64 (ia n (fy m x))) w):=by
 have v:=ar u;have B:=ar hs;clear u hs
 go_enter (fx (by decide) Tryz.func45),Tryz.ntmps45
 go_wp2
 go_loopw [5] (λi wr=>∃q:Nat,q<=n/\i=.int .i64 q/\(∀j,j<q->fy m x j=0)/\Below w.heap.size w wr) (λi _=>n-(intOf i).toNat)
 case atStart=>exact⟨0,ad _,rfl,λj g=>absurd g (ae _),aa _ _⟩
 case round=>
  obtain⟨q,F,rfl,y,d⟩:=hrel;have l:=ar y;clear y;by_cases f:q<n
  ·obtain rfl:=B.out (by omega);have C:=(d.cell (p:=⟨k,o+q,none⟩) (t (by omega))).trans (v.out q f);by_cases hi:bO (x q) 0 (m-1)=true
   ·have a:=ar hi;clear hi;by_cases r:0<q
    ·have H:=(d.cell (p:=⟨k,o+(q-1),none⟩) (t (by omega))).trans (v.out (q-1) (by omega));have I:(0:Int)<q:=by omega
     have J:(q:Int)<n:=by omega
     have K:(q:Int)-1<n:=by omega
     have L:(0:Int)<=(q:Int)-1:=by omega
     go_wp2_with (go_at_call 74;refine(kH a.out _).mono ?_;rintro e w'⟨rfl,rfl⟩)
     go_quiet (fail)
     go_wp2
     ·have z:fy m x q=7:=by
       have t2:x q<=x (q-1):=by assumption
       simp only[fy];rw[if_pos a.out,if_pos ⟨r,t2⟩]
      go_ret
      exact⟨aC ((eG l.out f (by rw[z];decide)).trans z),dr d _⟩
     ·have s:fy m x q=0:=by
       have t2:x (q-1)<x q:=by assumption
       simp only[fy];rw[if_pos a.out,if_neg (by omega)]
      refine⟨⟨q+1,f,by go_num,λj g=>?_,dr d _⟩,by simp[intOf];omega⟩
      rcases Nat.lt_succ_iff_lt_or_eq.1 g with h|h
      ·exact l.out j h
      ·rw[h];exact s
    ·obtain rfl:q=0:=by omega
     rw[Nat.add_zero]at C
     go_wp2_with (go_at_call 74;refine(kH a.out _).mono ?_;rintro e w'⟨rfl,rfl⟩)
     go_quiet (fail)
     go_wp2
     have s:fy m x 0=0:=by
      simp only[fy];rw[if_pos a.out,if_neg (by omega)]
     refine⟨⟨1,f,by go_num,λj g=>?_,dr d _⟩,by simp[intOf];omega⟩;obtain rfl:j=0:=by omega
     exact s
   ·have a:=ar (aV hi);clear hi
    go_wp2_with (go_at_call 74;refine(vQ a.out _).mono ?_;rintro e w'⟨rfl,rfl⟩)
    have A:fy m x q=6:=by simp only[fy];rw[a.out];rfl
    go_ret
    exact⟨aC ((eG l.out f (by rw[A];decide)).trans A),d⟩
  ·obtain rfl:q=n:=by omega
   go_wp2
   go_ret
   exact⟨aC (cz l.out),d⟩
set_option maxHeartbeats 2000000
def Ex{a b c d:Int}:eB a b=eB c d↔(a=c/\b=d)\/(a=d/\b=c):=by
 simp only[eB,Prod.mk.injEq];omega
def aao{w:World}{k:Nat}{x0 x1 x2:Value}{t:TypeId}(h:w.heap[k]?=some (.cells #[x0,x1,x2] t)):w.cell? ⟨k,0,none⟩=some x0/\w.cell? ⟨k,1,none⟩=some x1/\w.cell? ⟨k,2,none⟩=some x2:=by
 simp[World.cell?,h]
def getElem?_lt'{b:Type}{a:Array b}{i:Nat}{x:b}(h:a[i]?=some x):i<a.size:=(Array.getElem?_eq_some_iff.1 h).1
def Ic(l p:Int)(b:Option Addr)(k o n c:Nat)(x:Nat->Int×Int×Int)(v2 J v5:Value)(w:World)(hn:n<=20)(J0:1<=p)(tL:p<=6)(t:k<w.heap.size)(hs:0<n->b=some ⟨k,o,none⟩)
 (P:∀i,i<n->w.cell? ⟨k,o+i*3,none⟩=some (.int .i64 (x i).1)) (C:∀i,i<n->w.cell? ⟨k,o+i*3+1,none⟩=some (.int .i64 (x i).2.1)) (D:∀i,i<n->w.cell? ⟨k,o+i*3+2,none⟩=some (.int .i64 (x i).2.2)) :
 Calls PL 87 #[.agg #[.int .i64 l,.int .i64 p,v2,.slice b n c,J,v5]] w (aO (.int .i64 (kz p n x)) w):=by
 have Q:=ar P;have R:=ar C;have S:=ar D;have HS:=ar hs;clear P C D hs;by_cases hb:9<n
 ·go_enter (fx (by decide) aI),aJ
  go_wp2
  go_ret
  exact⟨by simp[kz,hb],(aa _ _).alloc (ac _) _⟩
 ·go_enter (fx (by decide) aI),aJ
  go_wp2
  go_loopw [3] (λi wr=>∃m:Nat,m<=n/\i=.int .i64 m/\(∀j,j<m->fQ p x j=0)/\wr.heap[w.heap.size]?=some (.cells #[.int .i64 l,.int .i64 p,v2,.slice b n c,J,v5] 27)/\Below w.heap.size w wr) (λi _=>n-(intOf i).toNat)
  case atStart=>exact⟨0,ad _,rfl,λj r=>absurd r (ae _),au _ _,(aa _ _).alloc (ac _) _⟩
  case round=>
   obtain⟨m,T,rfl,U,V,u⟩:=hrel;have s:=ar U;have K:=ar V;clear U V;obtain⟨y,rfl⟩:∃y:World,y=wr:=⟨_,rfl⟩
   obtain⟨d0,d1,d2,d3,d4,d5⟩:=bf K.out;have mF:w.heap.size<y.heap.size:=getElem?_lt' K.out;by_cases f:m<n
   ·obtain rfl:=HS.out (by omega);have c0:=(u.cell (p:=⟨k,o+m*3,none⟩) t).trans (Q.out m f);have c1:=(u.cell (p:=⟨k,o+m*3+1,none⟩) t).trans (R.out m f);have c2:=(u.cell (p:=⟨k,o+m*3+2,none⟩) t).trans (S.out m f);have B:Below w.heap.size w (y.alloc (.cells #[.int .i64 (x m).1,.int .i64 (x m).2.1,.int .i64 (x m).2.2] 79)):=u.alloc u.size _;by_cases F:bO (x m).1 0 (p-1)=true
    ·have a:=ar F;clear F;by_cases H:bO (x m).2.1 0 (p-1)=true
     ·have d:=ar H;clear H;by_cases z:(x m).1=(x m).2.1
      ·have E:=ar z;have Xo:((x m).1==(x m).2.1)=true:=by simpa using z
       clear z
       go_wp2_with (first|(go_at_call 74;((with_reducible refine(kH a.out _).mono ?_);rintro e w'⟨rfl,rfl⟩))|(go_at_call 74;((with_reducible refine(kH d.out _).mono ?_);rintro e w'⟨rfl,rfl⟩)))
       go_ret
       exact⟨aC (dh (v:=8) hb s.out f (by simp[fQ,a.out,d.out,E.out]) (by decide)),B⟩
      ·have E:=ar z;have Xo:((x m).1==(x m).2.1)=false:=by simpa using z
       clear z;by_cases I:bO (x m).2.2 1 999=true
       ·have A:=ar I;clear I
        go_wp2_with (first|(go_at_call 74;((with_reducible refine(kH a.out _).mono ?_);rintro e w'⟨rfl,rfl⟩))|(go_at_call 74;((with_reducible refine(kH d.out _).mono ?_);rintro e w'⟨rfl,rfl⟩))|(go_at_call 74;((with_reducible refine(kH A.out _).mono ?_);rintro e w'⟨rfl,rfl⟩)))
        go_loopw [5] (λi L=>∃q:Nat,q<=m/\i=.int .i64 q/\(∀j,j<q->eB (x j).1 (x j).2.1≠eB (x m).1 (x m).2.1)/\L.heap[w.heap.size]?=some (.cells #[.int .i64 l,.int .i64 p,v2,.slice (some ⟨k,o,none⟩) n c,J,v5] 27)/\L.heap[y.heap.size]?=some (.cells #[.int .i64 (x m).1,.int .i64 (x m).2.1,.int .i64 (x m).2.2] 79)/\Below w.heap.size w L) (λi _=>m-(intOf i).toNat)
        case atStart=>exact⟨0,ad _,rfl,λj r=>absurd r (ae _),(ab _ _ _ mF).trans K.out,au _ _,B⟩
        case round=>
         obtain⟨q,hq,rfl,W,X,Y,g⟩:=hrel;have Z:=ar W;have M:=ar X;have N:=ar Y;clear W X Y;obtain⟨f0,f1,f2,f3,f4,f5⟩:=bf M.out;obtain⟨g0,g1,g2⟩:=aao N.out;have dx:y.heap.size<wr.heap.size:=getElem?_lt' N.out;have wD:w.heap.size<wr.heap.size:=by omega
         by_cases qN:q<m
         ·have k0:=(g.cell (p:=⟨k,o+q*3,none⟩) t).trans (Q.out q (by omega));have k1:=(g.cell (p:=⟨k,o+q*3+1,none⟩) t).trans (R.out q (by omega));have k2:=(g.cell (p:=⟨k,o+q*3+2,none⟩) t).trans (S.out q (by omega));have i2:(q:Int)<n:=by omega
          go_wp2
          any_goals (
           go_ret
           have O:eB (x q).1 (x q).2.1=eB (x m).1 (x m).2.1:=Ex.2 (by simp_all);have nt:eB (x m).1 (x m).2.1∈(bb m).map (λj=>eB (x j).1 (x j).2.1):=List.mem_map.2 ⟨q,List.mem_range.2 qN,O⟩
           exact⟨aC (dh (v:=5) hb s.out f (by simp only[fQ];rw[a.out,d.out,A.out,if_neg E.out,if_pos nt];rfl) (by decide)),g.alloc g.size _⟩)
          all_goals (
           have O:eB (x q).1 (x q).2.1≠eB (x m).1 (x m).2.1:=λe=>by
            have e2:=Ex.1 e;have e3:=E.out
            simp_all
           refine⟨⟨q+1,qN,by go_num,λj r=>?_,(ab _ _ _ wD).trans M.out,(ab _ _ _ dx).trans N.out,g.alloc g.size _⟩,by simp[intOf];omega⟩
           rcases Nat.lt_succ_iff_lt_or_eq.1 r with h|h
           ·exact Z.out j h
           ·rw[h];exact O)
         ·obtain rfl:q=m:=by omega
          go_wp2
          refine⟨⟨q+1,f,by go_num,λj r=>?_,M.out,g⟩,by simp[intOf];omega⟩
          rcases Nat.lt_succ_iff_lt_or_eq.1 r with h|h
          ·exact s.out j h
          ·have uB:eB (x q).1 (x q).2.1∉(bb q).map (λj=>eB (x j).1 (x j).2.1):=λT=>by
            obtain⟨j,C,D⟩:=List.mem_map.1 T;exact Z.out j (List.mem_range.1 C) D
           rw[h];simp only[fQ];rw[a.out,d.out,A.out,if_neg E.out,if_neg uB];rfl
       ·have A:=ar (aV I);clear I
        go_wp2_with (first|(go_at_call 74;((with_reducible refine(kH a.out _).mono ?_);rintro e w'⟨rfl,rfl⟩))|(go_at_call 74;((with_reducible refine(kH d.out _).mono ?_);rintro e w'⟨rfl,rfl⟩))|(go_at_call 74;((with_reducible refine(vQ A.out _).mono ?_);rintro e w'⟨rfl,rfl⟩)))
        go_ret
        exact⟨aC (dh (v:=1) hb s.out f (by simp[fQ,a.out,d.out,E.out,A.out]) (by decide)),B⟩
     ·have d:=ar (aV H);clear H
      go_wp2_with (first|(go_at_call 74;((with_reducible refine(kH a.out _).mono ?_);rintro e w'⟨rfl,rfl⟩))|(go_at_call 74;((with_reducible refine(vQ d.out _).mono ?_);rintro e w'⟨rfl,rfl⟩)))
      go_ret
      exact⟨aC (dh (v:=6) hb s.out f (by simp[fQ,a.out,d.out]) (by decide)),B⟩
    ·have a:=ar (aV F);clear F
     go_wp2_with (first|(go_at_call 74;((with_reducible refine(vQ a.out _).mono ?_);rintro e w'⟨rfl,rfl⟩)))
     go_ret
     exact⟨aC (dh (v:=6) hb s.out f (by simp[fQ,a.out]) (by decide)),B⟩
   ·obtain rfl:m=n:=by omega
    go_wp2
    go_ret
    exact⟨aC (by rw[kz,if_neg hb];exact cz s.out),u⟩
def J9{s:ByteArray}(h:ku s=true)(w:World)(hs:s.size<=100):Calls PL 134 #[.string s] w λe w'=>e=.returned (.bool true)/\w=w':=by
 have:=vv s w hs;rwa[h]at this
def Ka{s:ByteArray}(h:ku s=false)(w:World)(hs:s.size<=100):Calls PL 134 #[.string s] w λe w'=>e=.returned (.bool false)/\w=w':=by
 have:=vv s w hs;rwa[h]at this
def sZ(a b:ByteArray):(a.toList==b.toList)=decide (a=b):=by rw[<-beq_toListBytes,bytes_beq]
def yx(C:CD)(m:Nat)(w:World)(h:C.At w)(b:m<C.n5):Calls PL 89 #[.agg C.val,.int .i64 (m:Int)] w (aO (.int .i64 (iI C.n4 C.x5 m)) w):=by
 have H:=ar h;have c0:=h.FI m b;have c1:=h.HU m b;have c2:=h.J6 m b;have Z:=h.s5 (by omega);have L:=h.h5;have M:=h.nm5 m b;have m5:=h.m5;have m4:=h.m4;clear h;obtain⟨l,p,N,k2,o2,O,P,x2,Q,k3,o3,R,S,x3,T,k4,o4,I,U,x4,b5,u,v,d,V,a⟩:=C;simp only at c0 c1 c2 Z L M m5 m4 b ⊢;subst Z;have hmi:(m:Int)<d:=by omega
 by_cases c:ku (a m).1=true
 ·have n:=ar c;clear c
  go_enter (fx (by decide) aL),aP
  go_wp2_with (go_at_call 134;refine(J9 n.out _ M).mono ?_;rintro e w'⟨rfl,rfl⟩)
  go_loopw [6] (λi wr=>∃q:Nat,q<=m/\i=.int .i64 q/\(∀j,j<q->(a j).1≠(a m).1)/\wr.heap[w.heap.size]?=some (.cells #[.int .i64 l,.int .i64 p,.slice N O P,.slice Q R S,.slice T I U,.slice (some ⟨u,v,none⟩) d V] 27)/\wr.heap[w.heap.size+1]?=some (.cells #[.string (a m).1,.int .i64 (a m).2.1,.int .i64 (a m).2.2] 67)/\Below w.heap.size w wr) (λi _=>m-(intOf i).toNat)
  case atStart=>
   refine⟨0,ad _,rfl,λj f=>absurd f (ae _),(ab _ _ _ (by simp)).trans (au _ _),?_,((aa _ _).alloc (ac _) _).alloc (by simp) _⟩;have:=au (w.alloc (.cells #[.int .i64 l,.int .i64 p,.slice N O P,.slice Q R S,.slice T I U,.slice (some ⟨u,v,none⟩) d V] 27)) (.cells #[.string (a m).1,.int .i64 (a m).2.1,.int .i64 (a m).2.2] 67);simpa using this
  case round=>
   obtain⟨q,hq,rfl,x,y,z,A⟩:=hrel;have HJ:=ar x;have o:=ar y;have s:=ar z;clear x y z;obtain⟨f0,f1,f2,f3,f4,f5⟩:=bf o.out;obtain⟨g0,g1,g2⟩:=aao s.out;by_cases qN:q<m
   ·have k0:=(A.cell (p:=⟨u,v+q*3,none⟩) L).trans (H.out.FI q (by show q<d;omega));simp only at k0;have i2:(q:Int)<d:=by omega
    go_wp2
    go_quiet (fail)
    go_wp2
    ·have g:(a q).1=(a m).1:=by
      have t:((a q).1.toList==(a m).1.toList)=true:=by assumption
      rw[sZ]at t;simpa using t
     have W:(a m).1∈(bb m).map (λj=>(a j).1):=List.mem_map.2 ⟨q,List.mem_range.2 qN,g⟩
     go_ret
     exact⟨aC (by simp[iI,iH,n.out,W]),dr A _⟩
    ·have g:(a q).1≠(a m).1:=by
      have t:((a q).1.toList==(a m).1.toList)=false:=by assumption
      rw[sZ]at t;simpa using t
     refine⟨⟨q+1,qN,by go_num,λj f=>?_,o.out,s.out,dr A _⟩,by simp[intOf];omega⟩
     rcases Nat.lt_succ_iff_lt_or_eq.1 f with h|h
     ·exact HJ.out j h
     ·rw[h];exact g
   ·obtain rfl:q=m:=by omega
    have DR:iH (a q).1 ((bb q).map λj=>(a j).1)=0:=by
     have c:(a q).1∉(bb q).map (λj=>(a j).1):=λb=>by
      obtain⟨j,X,Y⟩:=List.mem_map.1 b;exact HJ.out j (List.mem_range.1 X) Y
     simp only[iH];rw[if_pos n.out,if_neg c]
    have J:=ar DR;clear DR;by_cases K:bO (a q).2.1 0 (I-1)=true
    ·have k:=ar K;clear K;obtain⟨wo,rfl⟩:∃wo:World,wo=wr:=⟨_,rfl⟩
     go_wp2_with (first|(go_at_call 74;((with_reducible refine(kH k.out _).mono ?_);rintro e w'⟨rfl,rfl⟩)))
     go_loopw [7] (λi wr=>∃r:Nat,r<=q/\i=.int .i64 r/\(∀j,j<r->(a j).2.1≠(a q).2.1)/\wr.heap[w.heap.size]?=some (.cells #[.int .i64 l,.int .i64 p,.slice N O P,.slice Q R S,.slice T I U,.slice (some ⟨u,v,none⟩) d V] 27)/\wr.heap[w.heap.size+1]?=some (.cells #[.string (a q).1,.int .i64 (a q).2.1,.int .i64 (a q).2.2] 67)/\Below w.heap.size w wr) (λi _=>q-(intOf i).toNat)
     case atStart=>exact⟨0,ad _,rfl,λj f=>absurd f (ae _),o.out,s.out,A⟩
     case round=>
      obtain⟨r,hr,rfl,x,y,z,B⟩:=hrel;have HK:=ar x;have o:=ar y;have s:=ar z;clear x y z;obtain⟨f0,f1,f2,f3,f4,f5⟩:=bf o.out;obtain⟨g0,g1,g2⟩:=aao s.out;by_cases E:r<q
      ·have k1:=(B.cell (p:=⟨u,v+r*3+1,none⟩) L).trans (H.out.HU r (by show r<d;omega));simp only at k1;have i2:(r:Int)<d:=by omega
       go_wp2
       go_quiet (fail)
       go_wp2
       ·have g:(a r).2.1=(a q).2.1:=by
         have t:((a r).2.1==(a q).2.1)=true:=by assumption
         simpa using t
        have W:(a q).2.1∈(bb q).map (λj=>(a j).2.1):=List.mem_map.2 ⟨r,List.mem_range.2 E,g⟩
        go_ret
        exact⟨aC (by simp only[iI];rw[if_pos J.out,k.out,if_pos W];rfl),dr B _⟩
       ·have g:(a r).2.1≠(a q).2.1:=by
         have t:((a r).2.1==(a q).2.1)=false:=by assumption
         simpa using t
        refine⟨⟨r+1,E,by go_num,λj f=>?_,o.out,s.out,dr B _⟩,by simp[intOf];omega⟩
        rcases Nat.lt_succ_iff_lt_or_eq.1 f with h|h
        ·exact HK.out j h
        ·rw[h];exact g
      ·obtain rfl:r=q:=by omega
       have c:(a r).2.1∉(bb r).map (λj=>(a j).2.1):=λb=>by
        obtain⟨j,X,Y⟩:=List.mem_map.1 b;exact HK.out j (List.mem_range.1 X) Y
       have F:=ar c;clear c;by_cases hd:bO (a r).2.2 0 12=true
       ·have D:=ar hd;clear hd
        go_wp2_with (first|(go_at_call 74;((with_reducible refine(kH D.out _).mono ?_);rintro e w'⟨rfl,rfl⟩)))
        go_ret
        exact⟨aC (by simp only[iI];rw[if_pos J.out,k.out,if_neg F.out,D.out];rfl),B⟩
       ·have D:=ar (aV hd);clear hd
        go_wp2_with (first|(go_at_call 74;((with_reducible refine(vQ D.out _).mono ?_);rintro e w'⟨rfl,rfl⟩)))
        go_ret
        exact⟨aC (by simp only[iI];rw[if_pos J.out,k.out,if_neg F.out,D.out];rfl),B⟩
    ·have k:=ar (aV K);clear K
     go_wp2_with (first|(go_at_call 74;((with_reducible refine(vQ k.out _).mono ?_);rintro e w'⟨rfl,rfl⟩)))
     go_ret
     exact⟨aC (by simp only[iI];rw[if_pos J.out,k.out];rfl),A⟩
 ·have n:=ar (aV c);clear c
  go_enter (fx (by decide) aL),aP
  go_wp2_with (go_at_call 134;refine(Ka n.out _ M).mono ?_;rintro e w'⟨rfl,rfl⟩)
  go_ret
  exact⟨aC (by simp[iI,iH,n.out]),((aa _ _).alloc (ac _) _).alloc (by simp) _⟩
set_option maxHeartbeats 4000000
def Ey{a b low c:Int}(h:eK a b low c=true)(w:World):Calls PL 86 #[.agg #[.int .i64 a,.int .i64 b],.int .i64 low,.int .i64 c] w (aO (.bool true) w):=by
 have:=kB a b low c w;rwa[h]at this
def Ez{a b low c:Int}(h:eK a b low c=false)(w:World):Calls PL 86 #[.agg #[.int .i64 a,.int .i64 b],.int .i64 low,.int .i64 c] w (aO (.bool false) w):=by
 have:=kB a b low c w;rwa[h]at this
def Vi(n a b:Int)(w:World):Calls PL 74 #[.int .i64 n,.int .i64 a,.int .i64 b] w λe w'=>e=.returned (.bool (bO n a b))/\w=w':=(rJ n a b w).mono λ_ _⟨a,b⟩=>⟨a,b.symm⟩
def gx{w:World}{k:Nat}{x0 x1 x2 x3 x4 a b c d e f g:Value}{t:TypeId}(h:w.heap[k]?=some (.cells #[x0,x1,x2,x3,x4,a,b,c,d,e,f,g] t)) :
 w.cell? ⟨k,0,none⟩=some x0/\w.cell? ⟨k,1,none⟩=some x1/\w.cell? ⟨k,2,none⟩=some x2/\w.cell? ⟨k,3,none⟩=some x3/\w.cell? ⟨k,4,none⟩=some x4/\w.cell? ⟨k,5,none⟩=some a/\w.cell? ⟨k,6,none⟩=some b/\w.cell? ⟨k,7,none⟩=some c/\w.cell? ⟨k,8,none⟩=some d/\w.cell? ⟨k,9,none⟩=some e/\w.cell? ⟨k,10,none⟩=some f/\w.cell? ⟨k,11,none⟩=some g:=by
 simp[World.cell?,h]
def aap{w:World}{k:Nat}{x0 x1 x2 x3 x4 a b c d e f g:Value}{t:TypeId}(h:w.heap[k]?=some (.cells #[x0,x1,x2,x3,x4,a,b,c,d,e,f,g] t)):w.cell? ⟨k,0,none⟩=some x0:=(gx h).1
def Xq{w W:World}{x0 x1 x2 x3 x4 a c d e f g i:Value}{B:Array Value}{t u:TypeId}(h:W.heap[w.heap.size+1]?=some (.cells #[x0,x1,x2,x3,x4,a,c,d,e,f,g,i] t))(k:W.heap[w.heap.size]?=some (.cells B u))(b:Below w.heap.size w W) :
 W.cell? ⟨w.heap.size+1,1,none⟩=some x1/\W.cell? ⟨w.heap.size+1,3,none⟩=some x3/\W.cell? ⟨w.heap.size+1,4,none⟩=some x4/\(W.heap[w.heap.size]?=some (.cells B u)/\W.heap[w.heap.size+1]?=some (.cells #[x0,x1,x2,x3,x4,a,c,d,e,f,g,i] t)/\Below w.heap.size w W):=
 ⟨(gx h).2.1,(gx h).2.2.2.1,(gx h).2.2.2.2.1,k,h,b⟩
def aaq{w W a:World}{x0 x1 x2 x3 x4 d e f g i j l:Value}{B:Array Value}{t u:TypeId}(m:W.cell? ⟨w.heap.size+1,1,none⟩=some x1)(n:W.cell? ⟨w.heap.size+1,3,none⟩=some x3)(o:W.cell? ⟨w.heap.size+1,4,none⟩=some x4)(k:W.heap[w.heap.size]?=some (.cells B u))(h:W.heap[w.heap.size+1]?=some (.cells #[x0,x1,x2,x3,x4,d,e,f,g,i,j,l] t))(b:Below w.heap.size w W)(c:Below W.heap.size W a) :
 a.cell? ⟨w.heap.size+1,1,none⟩=some x1/\a.cell? ⟨w.heap.size+1,3,none⟩=some x3/\a.cell? ⟨w.heap.size+1,4,none⟩=some x4/\(a.heap[w.heap.size]?=some (.cells B u)/\a.heap[w.heap.size+1]?=some (.cells #[x0,x1,x2,x3,x4,d,e,f,g,i,j,l] t)/\Below w.heap.size w a):=
 Xq ((c.block _ (getElem?_lt' h)).trans h) ((c.block _ (getElem?_lt' k)).trans k) (bc b c)
def ED(C:CD)(m:Nat)(w:World)(h:C.At w)(b:m<C.n4)(J0:1<=C.p)(u:C.p<=6):Calls PL 88 #[.agg C.val,.int .i64 (m:Int)] w (aO (.int .i64 (gM C.p C.n2 C.n3 C.x4 m)) w):=by
 have H:=ar h;have c0:=h.AD m b;have c1:=h.dB m b 1 (by omega) (by omega);have c2:=h.dB m b 2 (by omega) (by omega);have c3:=h.dB m b 3 (by omega) (by omega);have c4:=h.dB m b 4 (by omega) (by omega);have c5:=h.dB m b 5 (by omega) (by omega);have c6:=h.dB m b 6 (by omega) (by omega);have c7:=h.dB m b 7 (by omega) (by omega);have c8:=h.dB m b 8 (by omega) (by omega);have c9:=h.dB m b 9 (by omega) (by omega);have V:=h.dB m b 10 (by omega) (by omega);have X:=h.nj m b;have s4:=h.s4 (by omega);have h4:=h.h4;have Y:=(h.cu m b).1;have Tl:=(h.cu m b).2;have m4:=h.m4;have m2:=h.m2;have m3:=h.m3;clear h;obtain⟨l,p,J,k2,o2,v,K,x2,L,k3,o3,M,N,x3,b4,z,A,o,O,x4,P,k5,o5,Q,R,x5⟩:=C;simp only at c0 c1 c2 c3 c4 c5 c6 c7 c8 c9 V X s4 h4 Y Tl m4 m2 m3 b J0 u ⊢;subst s4;have hmi:(m:Int)<o:=by omega
 by_cases x:ku (x4 m).name=true
 ·have y:=ar x;clear x
  go_enter (fx (by decide) aT),ba
  go_wp2_with (go_at_call 134;refine(J9 y.out _ Y).mono ?_;rintro e w'⟨rfl,rfl⟩)
  go_loopw [6] (λi wr=>∃q:Nat,q<=m/\i=.int .i64 q/\(∀j,j<q->(x4 j).name≠(x4 m).name)/\wr.heap[w.heap.size]?=some (.cells #[.int .i64 l,.int .i64 p,.slice J v K,.slice L M N,.slice (some ⟨z,A,none⟩) o O,.slice P Q R] 27)/\wr.heap[w.heap.size+1]?=some (.cells #[.string (x4 m).name,.int .i64 ((x4 m).n 1),.int .i64 ((x4 m).n 2),.int .i64 ((x4 m).n 3),.int .i64 ((x4 m).n 4),.int .i64 ((x4 m).n 5),.int .i64 ((x4 m).n 6),.int .i64 ((x4 m).n 7),.int .i64 ((x4 m).n 8),.int .i64 ((x4 m).n 9),.int .i64 ((x4 m).n 10),.slice (x4 m).lb (x4 m).ln (x4 m).lc] 73)/\Below w.heap.size w wr) (λi _=>m-(intOf i).toNat)
  case atStart=>
   refine⟨0,ad _,rfl,λj Z=>absurd Z (ae _),(ab _ _ _ (by simp)).trans (au _ _),?_,((aa _ _).alloc (ac _) _).alloc (by simp) _⟩;have:=au (w.alloc (.cells #[.int .i64 l,.int .i64 p,.slice J v K,.slice L M N,.slice (some ⟨z,A,none⟩) o O,.slice P Q R] 27)) (.cells #[.string (x4 m).name,.int .i64 ((x4 m).n 1),.int .i64 ((x4 m).n 2),.int .i64 ((x4 m).n 3),.int .i64 ((x4 m).n 4),.int .i64 ((x4 m).n 5),.int .i64 ((x4 m).n 6),.int .i64 ((x4 m).n 7),.int .i64 ((x4 m).n 8),.int .i64 ((x4 m).n 9),.int .i64 ((x4 m).n 10),.slice (x4 m).lb (x4 m).ln (x4 m).lc] 73);simpa using this
  case round=>
   obtain⟨q,hq,rfl,vw,jM,NU,S⟩:=hrel;have HJ:=ar vw;have Ce:=ar jM;have B:=ar NU;clear vw jM NU;obtain⟨f0,f1,f2,f3,f4,f5⟩:=bf Ce.out;have g0:=aap B.out;by_cases qN:q<m
   ·have k0:=(S.cell (p:=⟨z,A+q*12,none⟩) h4).trans (H.out.AD q (by show q<o;omega));simp only at k0;have i2:(q:Int)<o:=by omega
    go_wp2
    go_quiet (fail)
    go_wp2
    ·have he:(x4 q).name=(x4 m).name:=by
      have t:((x4 q).name.toList==(x4 m).name.toList)=true:=by assumption
      rw[sZ]at t;simpa using t
     have nt:(x4 m).name∈(bb m).map (λj=>(x4 j).name):=List.mem_map.2 ⟨q,List.mem_range.2 qN,he⟩
     go_ret
     exact⟨aC (by simp[gM,iH,y.out,nt]),dr S _⟩
    ·have he:(x4 q).name≠(x4 m).name:=by
      have t:((x4 q).name.toList==(x4 m).name.toList)=false:=by assumption
      rw[sZ]at t;simpa using t
     refine⟨⟨q+1,qN,by go_num,λj Z=>?_,Ce.out,B.out,dr S _⟩,by simp[intOf];omega⟩
     rcases Nat.lt_succ_iff_lt_or_eq.1 Z with h|h
     ·exact HJ.out j h
     ·rw[h];exact he
   ·obtain rfl:q=m:=by omega
    have DR:iH (x4 q).name ((bb q).map λj=>(x4 j).name)=0:=by
     have x:(x4 q).name∉(bb q).map (λj=>(x4 j).name):=λb=>by
      obtain⟨j,h1,h2⟩:=List.mem_map.1 b;exact HJ.out j (List.mem_range.1 h1) h2
     simp only[iH];rw[if_pos y.out,if_neg x]
    have Xp:=ar DR;clear DR;obtain⟨T,rfl⟩:∃T:World,T=wr:=⟨_,rfl⟩
    have c:=S;have g:=Ce;have k:=B;have d:w.heap.size+1<T.heap.size:=getElem?_lt' B.out;have f:w.heap.size<T.heap.size:=by omega
    obtain⟨a0,a1,a2,a3,a4,a5,a6,a7,a8,a9,zm,zM⟩:=gx B.out;have LB:=ar (λhl=>(H.out.l4 q b hl).1);have FH:0<(x4 q).ln->(x4 q).lk<w.heap.size:=λhl=>(H.out.l4 q b hl).2;by_cases D:eK ((x4 q).n 3) ((x4 q).n 4) (-90) 90=true
    ·have E:=ar D;have Q8 : -90<=(x4 q).n 3/\(x4 q).n 3<=90:=by
      simp only[eK,Bool.and_eq_true,decide_eq_true_eq]at D;omega
     obtain⟨Q8,hr4⟩:=Q8;clear D
     go_wp2_with (first|(go_at_call 86;((with_reducible refine(Ey E.out _).mono ?_);rintro e w1⟨rfl,a⟩;obtain⟨F,I⟩:=cW a;have c:=bc c a;have g:=ar ((a.block _ f).trans g.out);have k:=ar ((a.block _ d).trans k.out);have d:=ag d a.size;have f:=ag f a.size))|(go_at_call 86;refine(kB _ _ _ _ _).mono ?_;rintro e w1⟨rfl,a⟩;obtain⟨F,I⟩:=cW a;have c:=bc c a;have g:=ar ((a.block _ f).trans g.out);have k:=ar ((a.block _ d).trans k.out);have d:=ag d a.size;have f:=ag f a.size))
     ·have hS:=Xq (W:=w1.drew) k.out g.out c.drew;clear F I
      go_region_held3 (λW=>W.cell? ⟨w.heap.size+1,1,none⟩=some (.int .i64 ((x4 q).n 1))/\W.cell? ⟨w.heap.size+1,3,none⟩=some (.int .i64 ((x4 q).n 3))/\W.cell? ⟨w.heap.size+1,4,none⟩=some (.int .i64 ((x4 q).n 4))/\(W.heap[w.heap.size]?=some (.cells #[.int .i64 l,.int .i64 p,.slice J v K,.slice L M N,.slice (some ⟨z,A,none⟩) o O,.slice P Q R] 27)/\W.heap[w.heap.size+1]?=some (.cells #[.string (x4 q).name,.int .i64 ((x4 q).n 1),.int .i64 ((x4 q).n 2),.int .i64 ((x4 q).n 3),.int .i64 ((x4 q).n 4),.int .i64 ((x4 q).n 5),.int .i64 ((x4 q).n 6),.int .i64 ((x4 q).n 7),.int .i64 ((x4 q).n 8),.int .i64 ((x4 q).n 9),.int .i64 ((x4 q).n 10),.slice (x4 q).lb (x4 q).ln (x4 q).lc] 73)/\Below w.heap.size w W)) (first|exact hS|(go_split_ands;refine aaq ‹_› ‹_› ‹_› ‹_› ‹_› ‹_› qA)|go_keep) ((go_at_call 94;refine(AI _ _ _ Q8 hr4).mono ?_;rintro e w2⟨rfl,qA⟩))
      have hS2:w2.cell? ⟨w.heap.size+1,1,none⟩=some (.int .i64 ((x4 q).n 1))/\w2.cell? ⟨w.heap.size+1,3,none⟩=some (.int .i64 ((x4 q).n 3))/\w2.cell? ⟨w.heap.size+1,4,none⟩=some (.int .i64 ((x4 q).n 4))/\(w2.heap[w.heap.size]?=some (.cells #[.int .i64 l,.int .i64 p,.slice J v K,.slice L M N,.slice (some ⟨z,A,none⟩) o O,.slice P Q R] 27)/\w2.heap[w.heap.size+1]?=some (.cells #[.string (x4 q).name,.int .i64 ((x4 q).n 1),.int .i64 ((x4 q).n 2),.int .i64 ((x4 q).n 3),.int .i64 ((x4 q).n 4),.int .i64 ((x4 q).n 5),.int .i64 ((x4 q).n 6),.int .i64 ((x4 q).n 7),.int .i64 ((x4 q).n 8),.int .i64 ((x4 q).n 9),.int .i64 ((x4 q).n 10),.slice (x4 q).lb (x4 q).ln (x4 q).lc] 73)/\Below w.heap.size w w2):=by assumption
      obtain⟨_,_,_,NV,u,c⟩:=hS2;have g:=ar NV;have k:=ar u;have d:w.heap.size+1<w2.heap.size:=getElem?_lt' u;have f:w.heap.size<w2.heap.size:=by omega
      obtain⟨a0,a1,a2,a3,a4,a5,a6,a7,a8,a9,zm,zM⟩:=gx u;obtain⟨f0,f1,f2,f3,f4,f5⟩:=bf NV;clear NV u
      go_wp2_with (first|(go_at_call 74;refine(Vi _ _ _ _).mono ?_;rintro e w'⟨rfl,rfl⟩)|(go_at_call 86;refine(kB _ _ _ _ _).mono ?_;rintro e w1⟨rfl,a⟩;obtain⟨F,I⟩:=cW a;have c:=bc c a;have g:=ar ((a.block _ f).trans g.out);have k:=ar ((a.block _ d).trans k.out);have d:=ag d a.size;have f:=ag f a.size)|(go_at_call 45;refine(Vh _ (x4 q).lk (x4 q).lo _ _ _ (x4 q).lane _ Tl m3 (λhl=>ag (FH hl) c.size) LB.out (λi hi=>(c.cell (p:=⟨(x4 q).lk,(x4 q).lo+i,none⟩) (FH (by omega))).trans (H.out.J5 q b i hi))).mono ?_;rintro e w1⟨rfl,a⟩;have c:=bc c a))
      all_goals (
       go_ret
       have P1:eK ((x4 q).n 1) ((x4 q).n 2) 1 90=true:=by assumption
       refine⟨aC ?_,c⟩;simp only[gM];rw[if_pos Xp.out,P1,E.out]
       first
        |(have t:(x4 q).n 1<max ((x4 q).n 4) (-(x4 q).n 3):=by assumption
          rw[if_pos (by rfl),if_pos (by omega)];done)
        |(have t:max ((x4 q).n 4) (-(x4 q).n 3)<=(x4 q).n 1:=by assumption
          rw[if_pos (by rfl),if_neg (by omega)]
          first
           |(have t1:¬bO ((x4 q).n 5) 0 (↑v-1)=true:=by assumption
             rw[aV t1];rfl)
           |(have t1:bO ((x4 q).n 5) 0 (↑v-1)=true:=by assumption
             first
              |(have t2:(!bO ((x4 q).n 6) 0 (p-1))=true:=by assumption
                have r:bO ((x4 q).n 6) 0 (p-1)=false:=by simpa using t2
                rw[t1,r];rfl)
              |(have t2:(!bO ((x4 q).n 6) 0 (p-1))=false:=by assumption
                have r:bO ((x4 q).n 6) 0 (p-1)=true:=by simpa using t2
                rw[t1,r,if_pos (by rfl)]
                first
                 |(have U:¬eK ((x4 q).n 7) ((x4 q).n 8) 1 60=true:=by assumption
                   rw[aV U];rfl)
                 |(have U:eK ((x4 q).n 7) ((x4 q).n 8) 1 60=true:=by assumption
                   first
                    |(have t4:(!eK ((x4 q).n 9) ((x4 q).n 10) 0 60)=true:=by assumption
                      have s:eK ((x4 q).n 9) ((x4 q).n 10) 0 60=false:=by simpa using t4
                      rw[U,s];rfl)
                    |(have t4:(!eK ((x4 q).n 9) ((x4 q).n 10) 0 60)=false:=by assumption
                      have s:eK ((x4 q).n 9) ((x4 q).n 10) 0 60=true:=by simpa using t4
                      rw[U,s,if_pos (by rfl)])))))
       done)
     ·go_ret
      have t:¬eK ((x4 q).n 1) ((x4 q).n 2) 1 90=true:=by assumption
      exact⟨aC (by simp only[gM];rw[if_pos Xp.out,aV t];simp),c⟩
    ·have E:=ar (aV D);clear D
     go_wp2_with (first|(go_at_call 86;((with_reducible refine(Ez E.out _).mono ?_);rintro e w1⟨rfl,a⟩;obtain⟨F,I⟩:=cW a;have c:=bc c a;have g:=ar ((a.block _ f).trans g.out);have k:=ar ((a.block _ d).trans k.out);have d:=ag d a.size;have f:=ag f a.size))|(go_at_call 86;refine(kB _ _ _ _ _).mono ?_;rintro e w1⟨rfl,a⟩;obtain⟨F,I⟩:=cW a;have c:=bc c a;have g:=ar ((a.block _ f).trans g.out);have k:=ar ((a.block _ d).trans k.out);have d:=ag d a.size;have f:=ag f a.size))
     all_goals (
      go_ret
      exact⟨aC (by simp only[gM];rw[if_pos Xp.out,E.out];simp),c⟩)
 ·have y:=ar (aV x);clear x
  go_enter (fx (by decide) aT),ba
  go_wp2_with (go_at_call 134;refine(Ka y.out _ Y).mono ?_;rintro e w'⟨rfl,rfl⟩)
  go_ret
  exact⟨aC (by simp[gM,iH,y.out]),((aa _ _).alloc (ac _) _).alloc (by simp) _⟩
end Go.Proofs
