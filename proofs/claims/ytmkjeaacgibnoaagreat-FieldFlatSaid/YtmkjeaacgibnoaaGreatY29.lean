/- Part of the proof of FieldFlat and FieldMarshals. -/
import Derived.Test.YtmkjeaacgibnoaaGreatY28
import Derived.Maps.AppendAt
import Derived.WalkMore
set_option linter.all false
open Nat renaming lt_of_lt_of_le->aa,eq_zero_or_pos->ab,zero_le->ac,add_assoc->ad,le_refl->ae,le_of_ble_eq_true->ag,zero_add->ai,sub_self->ao,le_trans->ap
open Go.Proofs.Tryz renaming func30->aq,ntmps30->ar,func56->aw,ntmps56->aB,func58->aF,ntmps58->aI,func65->aJ,ntmps65->aP
open Go.RowKit.Below renaming refl->aT
open Go.Lib renaming hid->a5
open Go.Proofs renaming getElem?_lt'->a6
open Go.Value renaming int->a7,string->a8,slice->a9
open List renaming getElem?_eq_getElem->ba,range->bc,all_eq_true->bd
namespace Go.Proofs
open Go.RowKit
set_option maxRecDepth 100000
set_option maxHeartbeats 4000000
def Reads(W:World)(v:Value)(n m:Nat)(f:Nat->Value):Prop:=∃b c,v=.slice b n c/\(0<n->∃k o,b=some ⟨k,o,none⟩/\k<W.heap.size/\∀j,j<n*m->W.cell? ⟨k,o+j,none⟩=some (f j))
def Reads.on{W a:World}{v:Value}{n m:Nat}{f:Nat->Value}(h:Reads W v n m f)(d:Below W.heap.size W a):Reads a v n m f:=by
 obtain⟨b,c,e,h⟩:=h;refine⟨b,c,e,λi=>?_⟩;obtain⟨k,o,e1,g,hc⟩:=h i;exact⟨k,o,e1,aa g d.size,λj l=>(d.cell (p:=⟨k,o+j,none⟩) g).trans (hc j l)⟩
def aaC:PL.stoodInHeld 61=false:=by kernel_rfl
def Vy:PL.eqGuardType PL.depth 61=false:=by kernel_rfl
def Rw:PL.stoodInHeld 64=false:=by kernel_rfl
def Kv:PL.eqGuardType PL.depth 64=false:=by kernel_rfl
def pI(a b:Value)(n:Nat)(f:Nat->Int)(w:World)(c:Reads w a n 1 λj=>.int .i64 (f j))(hb:Reads w b n 1 λj=>.int .i64 (f j))(h:n<=20):Calls PL 30 #[a,b] w (aO (.bool true) w):=by
 obtain⟨r,s,rfl,c⟩:=c;obtain⟨t,u,rfl,hb⟩:=hb
 rcases ab n with rfl|e
 ·clear c hb h
  go_enter (fx (by decide) aq),ar
  go_wp2
  go_loop [5] (λv=>v=.int .i64 0) (λ_=>0)
  case atStart=>rfl
  case round=>
   subst hrel
   go_wp2
   go_ret
   exact⟨rfl,aT _ _⟩
 ·obtain⟨k,o,rfl,i,c⟩:=c e;obtain⟨k',g,rfl,l,hb⟩:=hb e;have A:=a5 c;have B:=a5 hb;clear c hb
  go_enter (fx (by decide) aq),ar
  go_wp2
  go_loopw [5] (λv wr=>∃q:Nat,q<=n/\v=.int .i64 q/\Below w.heap.size w wr) (λv _=>n-(intOf v).toNat)
  case atStart=>exact⟨0,ac _,rfl,aT _ _⟩
  case round=>
   obtain⟨q,x,rfl,d⟩:=hrel;by_cases m:q<n
   ·have y:(q:Int)<n:=by omega
    have a0:wr.cell? ⟨k,o+q,none⟩=some (.int .i64 (f q)):=(d.cell (p:=⟨k,o+q,none⟩) i).trans (A.out q (by omega));have b0:wr.cell? ⟨k',g+q,none⟩=some (.int .i64 (f q)):=(d.cell (p:=⟨k',g+q,none⟩) l).trans (B.out q (by omega))
    go_wp2
    go_quiet (fail)
    go_wp2
    refine⟨⟨q+1,m,by go_num,below_drewN d _⟩,by simp only[intOf];omega⟩
   ·obtain rfl:q=n:=by omega
    go_wp2
    go_ret
    exact⟨rfl,d⟩
def Cp(a b:Value)(n:Nat)(f:Nat->Int)(w:World)(c:Reads w a n 1 λj=>.int .i64 (f j))(hb:Reads w b n 1 λj=>.int .i64 (f j))(h:n<=20):Calls PL 56 #[a,b] w (aO (.bool true) w):=by
 obtain⟨r,s,rfl,c⟩:=c;obtain⟨t,u,rfl,hb⟩:=hb
 rcases ab n with rfl|e
 ·clear c hb h
  go_enter (fx (by decide) aw),aB
  go_wp2
  go_loop [5] (λv=>v=.int .i64 0) (λ_=>0)
  case atStart=>rfl
  case round=>
   subst hrel
   go_wp2
   go_ret
   exact⟨rfl,aT _ _⟩
 ·obtain⟨k,o,rfl,i,c⟩:=c e;obtain⟨k',g,rfl,l,hb⟩:=hb e;have A:=a5 c;have B:=a5 hb;clear c hb
  go_enter (fx (by decide) aw),aB
  go_wp2
  go_loopw [5] (λv wr=>∃q:Nat,q<=n/\v=.int .i64 q/\Below w.heap.size w wr) (λv _=>n-(intOf v).toNat)
  case atStart=>exact⟨0,ac _,rfl,aT _ _⟩
  case round=>
   obtain⟨q,x,rfl,d⟩:=hrel;by_cases m:q<n
   ·have y:(q:Int)<n:=by omega
    have a0:wr.cell? ⟨k,o+q,none⟩=some (.int .i64 (f q)):=(d.cell (p:=⟨k,o+q,none⟩) i).trans (A.out q (by omega));have b0:wr.cell? ⟨k',g+q,none⟩=some (.int .i64 (f q)):=(d.cell (p:=⟨k',g+q,none⟩) l).trans (B.out q (by omega))
    go_wp2
    go_quiet (fail)
    go_wp2
    refine⟨⟨q+1,m,by go_num,below_drewN d _⟩,by simp only[intOf];omega⟩
   ·obtain rfl:q=n:=by omega
    go_wp2
    go_ret
    exact⟨rfl,d⟩
def zT(a b:Value)(n:Nat)(f:Nat->Int)(w:World)(e:Reads w a n 5 λj=>.int .i64 (f j))(hb:Reads w b n 5 λj=>.int .i64 (f j))(l:n<=20):Calls PL 58 #[a,b] w (aO (.bool true) w):=by
 obtain⟨r,s,rfl,e⟩:=e;obtain⟨t,u,rfl,hb⟩:=hb;have q1:=aaC;have q2:=Vy;have q3:=yM
 rcases ab n with rfl|i
 ·clear e hb l
  go_enter (fx (by decide) aF),aI
  go_wp2
  go_loop [5] (λv=>v=.int .i64 0) (λ_=>0)
  case atStart=>rfl
  case round=>
   subst hrel
   go_wp2
   go_ret
   exact⟨rfl,aT _ _⟩
 ·obtain⟨k,o,rfl,g,e⟩:=e i;obtain⟨k',d,rfl,h,hb⟩:=hb i;have A:=a5 e;have B:=a5 hb;clear e hb
  go_enter (fx (by decide) aF),aI
  go_wp2
  go_loopw [5] (λv wr=>∃q:Nat,q<=n/\v=.int .i64 q/\Below w.heap.size w wr) (λv _=>n-(intOf v).toNat)
  case atStart=>exact⟨0,ac _,rfl,aT _ _⟩
  case round=>
   obtain⟨q,x,rfl,c⟩:=hrel;by_cases m:q<n
   ·have y:(q:Int)<n:=by omega
    have a0:wr.cell? ⟨k,o+q*5,none⟩=some (.int .i64 (f (q*5))):=(c.cell (p:=⟨k,o+q*5,none⟩) g).trans ((by have:=A.out (q*5) (by omega);simpa using this));have a1:wr.cell? ⟨k,o+q*5+1,none⟩=some (.int .i64 (f (q*5+1))):=(c.cell (p:=⟨k,o+q*5+1,none⟩) g).trans ((by have:=A.out (q*5+1) (by omega);rwa[<-ad]at this));have a2:wr.cell? ⟨k,o+q*5+2,none⟩=some (.int .i64 (f (q*5+2))):=(c.cell (p:=⟨k,o+q*5+2,none⟩) g).trans ((by have:=A.out (q*5+2) (by omega);rwa[<-ad]at this));have a3:wr.cell? ⟨k,o+q*5+3,none⟩=some (.int .i64 (f (q*5+3))):=(c.cell (p:=⟨k,o+q*5+3,none⟩) g).trans ((by have:=A.out (q*5+3) (by omega);rwa[<-ad]at this));have a4:wr.cell? ⟨k,o+q*5+4,none⟩=some (.int .i64 (f (q*5+4))):=(c.cell (p:=⟨k,o+q*5+4,none⟩) g).trans ((by have:=A.out (q*5+4) (by omega);rwa[<-ad]at this));have b0:wr.cell? ⟨k',d+q*5,none⟩=some (.int .i64 (f (q*5))):=(c.cell (p:=⟨k',d+q*5,none⟩) h).trans ((by have:=B.out (q*5) (by omega);simpa using this));have z:wr.cell? ⟨k',d+q*5+1,none⟩=some (.int .i64 (f (q*5+1))):=(c.cell (p:=⟨k',d+q*5+1,none⟩) h).trans ((by have:=B.out (q*5+1) (by omega);rwa[<-ad]at this));have C:wr.cell? ⟨k',d+q*5+2,none⟩=some (.int .i64 (f (q*5+2))):=(c.cell (p:=⟨k',d+q*5+2,none⟩) h).trans ((by have:=B.out (q*5+2) (by omega);rwa[<-ad]at this));have D:wr.cell? ⟨k',d+q*5+3,none⟩=some (.int .i64 (f (q*5+3))):=(c.cell (p:=⟨k',d+q*5+3,none⟩) h).trans ((by have:=B.out (q*5+3) (by omega);rwa[<-ad]at this))
    have E:wr.cell? ⟨k',d+q*5+4,none⟩=some (.int .i64 (f (q*5+4))):=(c.cell (p:=⟨k',d+q*5+4,none⟩) h).trans ((by have:=B.out (q*5+4) (by omega);rwa[<-ad]at this))
    go_wp2
    go_quiet (fail)
    go_wp2
    refine⟨⟨q+1,m,by go_num,below_drewN c _⟩,by simp only[intOf];omega⟩
   ·obtain rfl:q=n:=by omega
    go_wp2
    go_ret
    exact⟨rfl,c⟩
def vS(a b:Value)(n:Nat)(f:Nat->Int)(w:World)(e:Reads w a n 5 λj=>.int .i64 (f j))(hb:Reads w b n 5 λj=>.int .i64 (f j))(l:n<=20):Calls PL 65 #[a,b] w (aO (.bool true) w):=by
 obtain⟨r,s,rfl,e⟩:=e;obtain⟨t,u,rfl,hb⟩:=hb;have q1:=Rw;have q2:=Kv;have q3:=yM
 rcases ab n with rfl|i
 ·clear e hb l
  go_enter (fx (by decide) aJ),aP
  go_wp2
  go_loop [5] (λv=>v=.int .i64 0) (λ_=>0)
  case atStart=>rfl
  case round=>
   subst hrel
   go_wp2
   go_ret
   exact⟨rfl,aT _ _⟩
 ·obtain⟨k,o,rfl,g,e⟩:=e i;obtain⟨k',d,rfl,h,hb⟩:=hb i;have A:=a5 e;have B:=a5 hb;clear e hb
  go_enter (fx (by decide) aJ),aP
  go_wp2
  go_loopw [5] (λv wr=>∃q:Nat,q<=n/\v=.int .i64 q/\Below w.heap.size w wr) (λv _=>n-(intOf v).toNat)
  case atStart=>exact⟨0,ac _,rfl,aT _ _⟩
  case round=>
   obtain⟨q,x,rfl,c⟩:=hrel;by_cases m:q<n
   ·have y:(q:Int)<n:=by omega
    have a0:wr.cell? ⟨k,o+q*5,none⟩=some (.int .i64 (f (q*5))):=(c.cell (p:=⟨k,o+q*5,none⟩) g).trans ((by have:=A.out (q*5) (by omega);simpa using this));have a1:wr.cell? ⟨k,o+q*5+1,none⟩=some (.int .i64 (f (q*5+1))):=(c.cell (p:=⟨k,o+q*5+1,none⟩) g).trans ((by have:=A.out (q*5+1) (by omega);rwa[<-ad]at this));have a2:wr.cell? ⟨k,o+q*5+2,none⟩=some (.int .i64 (f (q*5+2))):=(c.cell (p:=⟨k,o+q*5+2,none⟩) g).trans ((by have:=A.out (q*5+2) (by omega);rwa[<-ad]at this));have a3:wr.cell? ⟨k,o+q*5+3,none⟩=some (.int .i64 (f (q*5+3))):=(c.cell (p:=⟨k,o+q*5+3,none⟩) g).trans ((by have:=A.out (q*5+3) (by omega);rwa[<-ad]at this));have a4:wr.cell? ⟨k,o+q*5+4,none⟩=some (.int .i64 (f (q*5+4))):=(c.cell (p:=⟨k,o+q*5+4,none⟩) g).trans ((by have:=A.out (q*5+4) (by omega);rwa[<-ad]at this));have b0:wr.cell? ⟨k',d+q*5,none⟩=some (.int .i64 (f (q*5))):=(c.cell (p:=⟨k',d+q*5,none⟩) h).trans ((by have:=B.out (q*5) (by omega);simpa using this));have z:wr.cell? ⟨k',d+q*5+1,none⟩=some (.int .i64 (f (q*5+1))):=(c.cell (p:=⟨k',d+q*5+1,none⟩) h).trans ((by have:=B.out (q*5+1) (by omega);rwa[<-ad]at this));have C:wr.cell? ⟨k',d+q*5+2,none⟩=some (.int .i64 (f (q*5+2))):=(c.cell (p:=⟨k',d+q*5+2,none⟩) h).trans ((by have:=B.out (q*5+2) (by omega);rwa[<-ad]at this));have D:wr.cell? ⟨k',d+q*5+3,none⟩=some (.int .i64 (f (q*5+3))):=(c.cell (p:=⟨k',d+q*5+3,none⟩) h).trans ((by have:=B.out (q*5+3) (by omega);rwa[<-ad]at this))
    have E:wr.cell? ⟨k',d+q*5+4,none⟩=some (.int .i64 (f (q*5+4))):=(c.cell (p:=⟨k',d+q*5+4,none⟩) h).trans ((by have:=B.out (q*5+4) (by omega);rwa[<-ad]at this))
    go_wp2
    go_quiet (fail)
    go_wp2
    refine⟨⟨q+1,m,by go_num,below_drewN c _⟩,by simp only[intOf];omega⟩
   ·obtain rfl:q=n:=by omega
    go_wp2
    go_ret
    exact⟨rfl,c⟩
def fU(a b:Int)(w:World):Calls PL 38 #[.int .i64 a,.int .i64 b] w (aO (.agg #[.int .i64 a,.int .i64 b]) w):=by
 go_enter (fx (by decide) Tryz.func38),Tryz.ntmps38
 go_wp2
 refine bodyPost_ret (v:=.agg #[.int .i64 a,.int .i64 b]) ?_ rfl ⟨rfl,(aT _ _).alloc (ae _) _⟩;simp[results,Tryz.results38,go_sem]
structure AV(w W:World)(l:List (Nat×Obj)):Prop where
 iM:∀p∈l,W.heap[p.1]?=some p.2
 low:Below w.heap.size w W
def AV.on{w W a:World}{l:List (Nat×Obj)}(h:AV w W l)(b:Below W.heap.size W a):AV w a l:=
 ⟨λp c=>(b.block _ (a6 (h.iM p c))).trans (h.iM p c),Below.on h.low b⟩
def AV.alloc{w W:World}{l:List (Nat×Obj)}(h:AV w W l)(o:Obj):AV w (W.alloc o) ((W.heap.size,o)::l):=
 ⟨λp a=>by
   rcases List.mem_cons.1 a with rfl|a
   ·exact au W o
   ·exact(((aT W.heap.size W).alloc (ae _) o).block _ (a6 (h.iM p a))).trans (h.iM p a),h.low.alloc h.low.size o⟩
def AV.nil(w:World):AV w w []:=⟨λ_ h=>(by cases h),aT _ _⟩
def AV.set{w W:World}{l:List (Nat×Obj)}(h:AV w W l){R:Nat}(b:w.heap.size<=R)(hl:∀p∈l,R≠p.1)(o:Nat)(v:Value):AV w (W.setCell ⟨R,o,none⟩ v) l:=
 ⟨λp a=>by
   have:(W.setCell ⟨R,o,none⟩ v).heap[p.1]?=W.heap[p.1]?:=by simp only[World.setCell,Array.getElem?_modify,if_neg (hl p a)]
   rw[this];exact h.iM p a,h.low.setCell (p:=⟨R,o,none⟩) b v⟩
def AV.init{w W:World}{l:List (Nat×Obj)}{p:Nat×Obj}(h:AV w W (l++[p])):AV w W l:=⟨λq a=>h.iM q (List.mem_append_left _ a),h.low⟩
def tO{W:World}{k:Nat}{c:Array Value}{t:TypeId}(h:W.heap[k]?=some (.cells c t)):∀o,W.frozen? ⟨k,o,none⟩=false:=λo=>by simp[World.frozen?,h]
def exN:Nat->Nat->Int
 |0,1=>20|0,2=>20|0,3=>0|0,4=>12|0,5=>1|0,6=>1|0,7=>4|0,8=>6|0,9=>2|0,10=>3
 |1,1=>13|1,2=>13|1,3=>5|1,4=>5|1,5=>0|1,6=>2|1,7=>4|1,8=>5|1,9=>3|1,10=>3
 |2,1=>25|2,2=>25|2,3=>-7|2,4=>7|2,5=>1|2,6=>3|2,7=>5|2,8=>5|2,9=>2|2,10=>4
 |_,_=>0
def Vz(a ca lb b:Nat):Nat->iJ
 |0=>{ name:=⟨#[97]⟩,n:=exN 0,lb:=some ⟨a,0,none⟩,ln:=1,lc:=ca,lk:=a,lo:=0,lane:=λ_=>1 }
 |1=>{ name:=⟨#[98]⟩,n:=exN 1,lb:=some ⟨lb,0,none⟩,ln:=1,lc:=b,lk:=lb,lo:=0,lane:=λ_=>2 }
 |_=>{ name:=⟨#[99]⟩,n:=exN 2,lb:=none,ln:=0,lc:=0,lk:=0,lo:=0,lane:=λ_=>0 }
def alj:Nat->Int×Int
 |0=>(5,15)|_=>(10,18)
def zU:Nat->Int×Int×Int
 |0=>(0,1,40)|1=>(1,2,30)|2=>(2,3,30)|_=>(0,3,80)
def alk(d:Int):Nat->ByteArray×Int×Int
 |0=>(⟨#[114,101,100]⟩,0,0)|_=>(⟨#[98,108,117,101]⟩,1,d)
def ir(k2 c k3 c3 a e b f g ca lb h:Nat)(d:Int):CD:=
 { l:=60,p:=4,b2:=some ⟨k2,0,none⟩,k2:=k2,o2:=0,n2:=2,c2:=c,x2:=alj,b3:=some ⟨k3,0,none⟩,k3:=k3,o3:=0,n3:=4,c3:=c3,x3:=zU,
   b4:=some ⟨a,0,none⟩,k4:=a,o4:=0,n4:=3,c4:=e,x4:=Vz g ca lb h,b5:=some ⟨b,0,none⟩,k5:=b,o5:=0,n5:=2,c5:=f,x5:=alk d }
def VB(d:Int)(C:CD):Prop:=∃k2 a k3 c3 b c e f g h i j,C=ir k2 a k3 c3 b c e f g h i j d
abbrev bh(n:Int):Value:=.int .i64 n
def vT:List Value:=[bh 5,bh 15,bh 10,bh 18]
def vU:List Value:=[bh 0,bh 1,bh 40,bh 1,bh 2,bh 30,bh 2,bh 3,bh 30,bh 0,bh 3,bh 80]
def rO(a ca lb b:Nat):List Value:=[.string ⟨#[97]⟩,bh 20,bh 20,bh 0,bh 12,bh 1,bh 1,bh 4,bh 6,bh 2,bh 3,.slice (some ⟨a,0,none⟩) 1 ca,.string ⟨#[98]⟩,bh 13,bh 13,bh 5,bh 5,bh 0,bh 2,bh 4,bh 5,bh 3,bh 3,.slice (some ⟨lb,0,none⟩) 1 b,.string ⟨#[99]⟩,bh 25,bh 25,bh (-7),bh 7,bh 1,bh 3,bh 5,bh 5,bh 2,bh 4,.slice none 0 0]
def qB(d:Int):List Value:=[.string ⟨#[114,101,100]⟩,bh 0,bh 0,.string ⟨#[98,108,117,101]⟩,bh 1,bh d]
def Row(W:World)(k:Nat)(l:List Value):Prop:=k<W.heap.size/\∀(j:Nat)v,l[j]?=some v->W.cell? ⟨k,j,none⟩=some v
def Row.of{W:World}{k:Nat}{l:List Value}{c:Array Value}{t:TypeId}{a:Nat×Nat}(h:W.heap[k]?=some (.cells c t a))(hl:∀(j:Nat)v,l[j]?=some v->c[j]?=some v):Row W k l:=
 ⟨a6 h,λj v e=>by simp[World.cell?,h,hl j v e]⟩
def Row.on{W a:World}{k:Nat}{l:List Value}(h:Row W k l)(b:Below W.heap.size W a):Row a k l:=
 ⟨aa h.1 b.size,λj v e=>(b.cell (p:=⟨k,j,none⟩) h.1).trans (h.2 j v e)⟩
def AV.row{w W:World}{L:List (Nat×Obj)}(h:AV w W L){k:Nat}{c:Array Value}{t:TypeId}{l:List Value}(a:(k,Obj.cells c t)∈L)(e:c.toList=l):Row W k l:=
 Row.of (h.iM _ a) λj v hv=>by rw[<-e]at hv;simpa using hv
def Rx{W:World}{k2 p k3 c3 k q m r h ca lb l:Nat}{d:Int}(b:Row W k2 vT)(a:Row W k3 vU)(c:Row W k (rO h ca lb l))(f:Row W m (qB d))(s:Row W h [bh 1])(hb:Row W lb [bh 2]) :
 (ir k2 p k3 c3 k q m r h ca lb l d).At W:=by
 refine⟨ag rfl,ag rfl,ag rfl,ag rfl,b.1,a.1,c.1,f.1,λ_=>rfl,λ_=>rfl,λ_=>rfl,λ_=>rfl,λi hi=>?_,λi hi=>?_,λi hi=>?_,λi hi=>?_,λi hi=>?_,λi hi=>?_,λi hi=>?_,λi hi j o b=>?_,λi hi=>?_,λi hi hl=>?_,λi hi j g=>?_,λi hi=>?_,λi hi=>?_,λi hi=>?_,λi hi=>?_⟩
 ·match i,hi with
  |0,_=>exact b.2 0 _ rfl
  |1,_=>exact b.2 2 _ rfl
 ·match i,hi with
  |0,_=>exact b.2 1 _ rfl
  |1,_=>exact b.2 3 _ rfl
 ·match i,hi with
  |0,_=>exact a.2 0 _ rfl
  |1,_=>exact a.2 3 _ rfl
  |2,_=>exact a.2 6 _ rfl
  |3,_=>exact a.2 9 _ rfl
 ·match i,hi with
  |0,_=>exact a.2 1 _ rfl
  |1,_=>exact a.2 4 _ rfl
  |2,_=>exact a.2 7 _ rfl
  |3,_=>exact a.2 10 _ rfl
 ·match i,hi with
  |0,_=>exact a.2 2 _ rfl
  |1,_=>exact a.2 5 _ rfl
  |2,_=>exact a.2 8 _ rfl
  |3,_=>exact a.2 11 _ rfl
 ·match i,hi with
  |0,_=>exact⟨ag rfl,ag rfl⟩
  |1,_=>exact⟨ag rfl,ag rfl⟩
  |2,_=>exact⟨ag rfl,ag rfl⟩
 ·match i,hi with
  |0,_=>exact c.2 0 _ rfl
  |1,_=>exact c.2 12 _ rfl
  |2,_=>exact c.2 24 _ rfl
 ·have key:∀i,i<3->∀j,1<=j->j<=10->(rO h ca lb l)[i*12+j]?=some (bh (exN i j)):=by
   intro i hi j o b
   match i,j,hi,o,b with
   |0,1,_,_,_|0,2,_,_,_|0,3,_,_,_|0,4,_,_,_|0,5,_,_,_|0,6,_,_,_|0,7,_,_,_|0,8,_,_,_|0,9,_,_,_|0,10,_,_,_=>rfl
   |1,1,_,_,_|1,2,_,_,_|1,3,_,_,_|1,4,_,_,_|1,5,_,_,_|1,6,_,_,_|1,7,_,_,_|1,8,_,_,_|1,9,_,_,_|1,10,_,_,_=>rfl
   |2,1,_,_,_|2,2,_,_,_|2,3,_,_,_|2,4,_,_,_|2,5,_,_,_|2,6,_,_,_|2,7,_,_,_|2,8,_,_,_|2,9,_,_,_|2,10,_,_,_=>rfl
  have e:((ir k2 p k3 c3 k q m r h ca lb l d).x4 i).n j=exN i j:=by
   match i,hi with
   |0,_=>rfl
   |1,_=>rfl
   |2,_=>rfl
  rw[e];show W.cell? ⟨k,0+i*12+j,none⟩=_;rw[ai];exact c.2 _ _ (key i hi j o b)
 ·match i,hi with
  |0,_=>exact c.2 11 _ rfl
  |1,_=>exact c.2 23 _ rfl
  |2,_=>exact c.2 35 _ rfl
 ·match i,hi,hl with
  |0,_,_=>exact⟨rfl,s.1⟩
  |1,_,_=>exact⟨rfl,hb.1⟩
  |2,_,hl=>exact absurd hl (Nat.lt_irrefl 0)
 ·match i,hi,j,g with
  |0,_,0,_=>exact s.2 0 _ rfl
  |1,_,0,_=>exact hb.2 0 _ rfl
  |0,_,j+1,g=>exact absurd g (by simp[ir,Vz])
  |1,_,j+1,g=>exact absurd g (by simp[ir,Vz])
  |2,_,j,g=>exact absurd g (by simp[ir,Vz])
 ·match i,hi with
  |0,_=>exact ag rfl
  |1,_=>exact ag rfl
 ·match i,hi with
  |0,_=>exact f.2 0 _ rfl
  |1,_=>exact f.2 3 _ rfl
 ·match i,hi with
  |0,_=>exact f.2 1 _ rfl
  |1,_=>exact f.2 4 _ rfl
 ·match i,hi with
  |0,_=>exact f.2 2 _ rfl
  |1,_=>exact f.2 5 _ rfl
def EV(w:World):Calls PL 77 #[] w λe w'=>∃k2 X k3 c3 L Y M j q ca lb N,e=.returned (.agg (ir k2 X k3 c3 L Y M j q ca lb N 0).val)/\(Row w' k2 vT/\Row w' k3 vU/\Row w' L (rO q ca lb N)/\Row w' M (qB 0)/\Row w' q [bh 1]/\Row w' lb [bh 2])/\Below w.heap.size w w':=by
 go_enter (fx (by decide) Tryz.func77),Tryz.ntmps77
 go_wp2_with (first|(go_at_call 38;have _:=h;refine(fU _ _ _).mono ?_;rintro e b⟨rfl,a⟩;have i:=a5 (((h.out).on a));clear a;have r:=a6 (i.out.iM (w.heap.size,.cells #[.int .i64 0,.int .i64 0,.slice none 0 0,.slice none 0 0,.slice none 0 0,.slice none 0 0] 27) (by simp));simp only at r;have O:=tO (i.out.iM (w.heap.size,.cells #[.int .i64 0,.int .i64 0,.slice none 0 0,.slice none 0 0,.slice none 0 0,.slice none 0 0] 27) (by simp));simp only at O;obtain⟨s,u,x,y,f4,z⟩:=bf (i.out.iM (w.heap.size,.cells #[.int .i64 0,.int .i64 0,.slice none 0 0,.slice none 0 0,.slice none 0 0,.slice none 0 0] 27) (by simp));skip)|(go_at_call 38;have _:=A;refine(fU _ _ _).mono ?_;rintro e Z⟨rfl,a⟩;have h:=a5 (((A.out).on a));clear a;skip)|(go_at_call 38;have _:=B;refine(fU _ _ _).mono ?_;rintro e w12⟨rfl,a⟩;have A:=a5 (((B.out).on a));clear a;skip)|(go_at_call 38;have _:=l;refine(fU _ _ _).mono ?_;rintro e w11⟨rfl,a⟩;have B:=a5 ((((l.out).alloc _).on a));clear a;skip)|(go_at_call 38;have _:=C;refine(fU _ _ _).mono ?_;rintro e d⟨rfl,a⟩;have l:=a5 (((C.out).on a));clear a;skip)|(go_at_call 38;have _:=D;refine(fU _ _ _).mono ?_;rintro e w9⟨rfl,a⟩;have C:=a5 (((D.out).on a));clear a;skip)|(go_at_call 38;have _:=E;refine(fU _ _ _).mono ?_;rintro e w8⟨rfl,a⟩;have D:=a5 (((E.out).on a));clear a;skip)|(go_at_call 38;have _:=m;refine(fU _ _ _).mono ?_;rintro e w7⟨rfl,a⟩;have E:=a5 ((((m.out).alloc _).on a));clear a;skip)|(go_at_call 38;have _:=F;refine(fU _ _ _).mono ?_;rintro e w6⟨rfl,a⟩;have m:=a5 (((F.out).on a));clear a;skip)|(go_at_call 38;have _:=H;refine(fU _ _ _).mono ?_;rintro e w5⟨rfl,a⟩;have F:=a5 (((H.out).on a));clear a;skip)|(go_at_call 38;have _:=I;refine(fU _ _ _).mono ?_;rintro e w4⟨rfl,a⟩;have H:=a5 (((I.out).on a));clear a;skip)|(go_at_call 38;have _:=n;refine(fU _ _ _).mono ?_;rintro e w3⟨rfl,a⟩;have I:=a5 (((((n.out).alloc _).alloc _).on a));clear a;skip)|(go_at_call 38;have _:=J;refine(fU _ _ _).mono ?_;rintro e w2⟨rfl,a⟩;have n:=a5 (((J.out).on a));clear a;skip)|(go_at_call 38;refine(fU _ _ _).mono ?_;rintro e w1⟨rfl,a⟩;have J:=a5 ((((AV.nil w).alloc _).on a));clear a;skip))
 obtain⟨W,k⟩:∃W:World,W=((((((b.setCell ⟨w.heap.size,0,none⟩ (.int .i64 60)).setCell ⟨w.heap.size,1,none⟩ (.int .i64 4)).setCell ⟨w.heap.size,2,none⟩ (.slice (some ⟨w2.heap.size,0,none⟩) 2 2)).setCell ⟨w.heap.size,3,none⟩ (.slice (some ⟨w2.heap.size+1,0,none⟩) 4 4)).setCell ⟨w.heap.size,4,none⟩ (.slice (some ⟨b.heap.size,0,none⟩) 3 3)).setCell ⟨w.heap.size,5,none⟩ (.slice (some ⟨b.heap.size+1,0,none⟩) 2 2)):=⟨_,rfl⟩
 have z2:w.heap.size<w2.heap.size:=a6 (n.out.iM (w.heap.size,.cells #[.int .i64 0,.int .i64 0,.slice none 0 0,.slice none 0 0,.slice none 0 0,.slice none 0 0] 27) (by simp));have z6:w.heap.size<w6.heap.size:=a6 (m.out.iM (w.heap.size,.cells #[.int .i64 0,.int .i64 0,.slice none 0 0,.slice none 0 0,.slice none 0 0,.slice none 0 0] 27) (by simp));have UZ:w.heap.size<d.heap.size:=a6 (l.out.iM (w.heap.size,.cells #[.int .i64 0,.int .i64 0,.slice none 0 0,.slice none 0 0,.slice none 0 0,.slice none 0 0] 27) (by simp));have j:W.heap.size=b.heap.size:=by rw[k];simp only[World.size_setCell]
 have o:W.heap[w.heap.size]?=some (.cells #[.int .i64 60,.int .i64 4,.slice (some ⟨w2.heap.size,0,none⟩) 2 2,.slice (some ⟨w2.heap.size+1,0,none⟩) 4 4,.slice (some ⟨b.heap.size,0,none⟩) 3 3,.slice (some ⟨b.heap.size+1,0,none⟩) 2 2] 27):=by
  have g:=i.out.iM (w.heap.size,.cells #[.int .i64 0,.int .i64 0,.slice none 0 0,.slice none 0 0,.slice none 0 0,.slice none 0 0] 27) (by simp);simp only at g;rw[k];simp[World.setCell,Array.getElem?_modify,g]
 have LW:AV w W [(d.heap.size,.cells #[.int .i64 2] 3),(w6.heap.size,.cells #[.int .i64 1] 3),(w2.heap.size+1,.cells (a7 .i64 0::a7 .i64 1::a7 .i64 40::a7 .i64 1::a7 .i64 2::a7 .i64 30::a7 .i64 2::a7 .i64 3::a7 .i64 30::a7 .i64 0::a7 .i64 3::a7 .i64 80::[]).toArray 79),(w2.heap.size,.cells #[.int .i64 5,.int .i64 15,.int .i64 10,.int .i64 18] 35)]:=by
  have hl:∀p∈[(d.heap.size,Obj.cells #[.int .i64 2] 3),(w6.heap.size,.cells #[.int .i64 1] 3),(w2.heap.size+1,.cells (a7 .i64 0::a7 .i64 1::a7 .i64 40::a7 .i64 1::a7 .i64 2::a7 .i64 30::a7 .i64 2::a7 .i64 3::a7 .i64 30::a7 .i64 0::a7 .i64 3::a7 .i64 80::[]).toArray 79),(w2.heap.size,.cells #[.int .i64 5,.int .i64 15,.int .i64 10,.int .i64 18] 35)],w.heap.size≠p.1:=by
   intro p P;simp only[List.mem_cons,List.not_mem_nil,or_false]at P
   rcases P with rfl|rfl|rfl|rfl<;>simp only<;>omega
  rw[k];have K:=i.out;simp only[World.size_alloc]at K;exact((((((AV.init (p:=(w.heap.size,.cells #[.int .i64 0,.int .i64 0,.slice none 0 0,.slice none 0 0,.slice none 0 0,.slice none 0 0] 27)) K).set (ae _) hl 0 _).set (ae _) hl 1 _).set (ae _) hl 2 _).set (ae _) hl 3 _).set (ae _) hl 4 _).set (ae _) hl 5 _
 rw[<-k];clear k i h A B l C D E m F H I n J s u x y f4 z O;rw[<-j];rw[<-j]at o;have f:AV w ((W.alloc (.cells (a8 ⟨#[97]⟩::a7 .i64 20::a7 .i64 20::a7 .i64 0::a7 .i64 12::a7 .i64 1::a7 .i64 1::a7 .i64 4::a7 .i64 6::a7 .i64 2::a7 .i64 3::a9 (some ⟨w6.heap.size,0,none⟩) 1 1::a8 ⟨#[98]⟩::a7 .i64 13::a7 .i64 13::a7 .i64 5::a7 .i64 5::a7 .i64 0::a7 .i64 2::a7 .i64 4::a7 .i64 5::a7 .i64 3::a7 .i64 3::a9 (some ⟨d.heap.size,0,none⟩) 1 1::a8 ⟨#[99]⟩::a7 .i64 25::a7 .i64 25::a7 .i64 (-7)::a7 .i64 7::a7 .i64 1::a7 .i64 3::a7 .i64 5::a7 .i64 5::a7 .i64 2::a7 .i64 4::a9 none 0 0::[]).toArray 73)).alloc (.cells #[a8 ⟨#[114,101,100]⟩,a7 .i64 0,a7 .i64 0,a8 ⟨#[98,108,117,101]⟩,a7 .i64 1,a7 .i64 0] 67)) _:=(LW.alloc (.cells (a8 ⟨#[97]⟩::a7 .i64 20::a7 .i64 20::a7 .i64 0::a7 .i64 12::a7 .i64 1::a7 .i64 1::a7 .i64 4::a7 .i64 6::a7 .i64 2::a7 .i64 3::a9 (some ⟨w6.heap.size,0,none⟩) 1 1::a8 ⟨#[98]⟩::a7 .i64 13::a7 .i64 13::a7 .i64 5::a7 .i64 5::a7 .i64 0::a7 .i64 2::a7 .i64 4::a7 .i64 5::a7 .i64 3::a7 .i64 3::a9 (some ⟨d.heap.size,0,none⟩) 1 1::a8 ⟨#[99]⟩::a7 .i64 25::a7 .i64 25::a7 .i64 (-7)::a7 .i64 7::a7 .i64 1::a7 .i64 3::a7 .i64 5::a7 .i64 5::a7 .i64 2::a7 .i64 4::a9 none 0 0::[]).toArray 73)).alloc (.cells #[a8 ⟨#[114,101,100]⟩,a7 .i64 0,a7 .i64 0,a8 ⟨#[98,108,117,101]⟩,a7 .i64 1,a7 .i64 0] 67)
 have Q:Row _ w2.heap.size vT:=f.row (c:=#[a7 .i64 5,a7 .i64 15,a7 .i64 10,a7 .i64 18]) (t:=35) (by simp) rfl;have R:Row _ (w2.heap.size+1) vU:=f.row (c:=(a7 .i64 0::a7 .i64 1::a7 .i64 40::a7 .i64 1::a7 .i64 2::a7 .i64 30::a7 .i64 2::a7 .i64 3::a7 .i64 30::a7 .i64 0::a7 .i64 3::a7 .i64 80::[]).toArray) (t:=79) (by simp) rfl;have S:Row _ w6.heap.size [bh 1]:=f.row (c:=#[a7 .i64 1]) (t:=3) (by simp) rfl;have T:Row _ d.heap.size [bh 2]:=f.row (c:=#[a7 .i64 2]) (t:=3) (by simp) rfl;have U:Row _ W.heap.size (rO w6.heap.size 1 d.heap.size 1):=f.row (c:=(a8 ⟨#[97]⟩::a7 .i64 20::a7 .i64 20::a7 .i64 0::a7 .i64 12::a7 .i64 1::a7 .i64 1::a7 .i64 4::a7 .i64 6::a7 .i64 2::a7 .i64 3::a9 (some ⟨w6.heap.size,0,none⟩) 1 1::a8 ⟨#[98]⟩::a7 .i64 13::a7 .i64 13::a7 .i64 5::a7 .i64 5::a7 .i64 0::a7 .i64 2::a7 .i64 4::a7 .i64 5::a7 .i64 3::a7 .i64 3::a9 (some ⟨d.heap.size,0,none⟩) 1 1::a8 ⟨#[99]⟩::a7 .i64 25::a7 .i64 25::a7 .i64 (-7)::a7 .i64 7::a7 .i64 1::a7 .i64 3::a7 .i64 5::a7 .i64 5::a7 .i64 2::a7 .i64 4::a9 none 0 0::[]).toArray) (t:=73) (by simp) rfl;have V:Row _ (W.heap.size+1) (qB 0):=f.row (c:=#[a8 ⟨#[114,101,100]⟩,a7 .i64 0,a7 .i64 0,a8 ⟨#[98,108,117,101]⟩,a7 .i64 1,a7 .i64 0]) (t:=67) (by simp) rfl
 obtain⟨s,u,x,y,f4,z⟩:=bf o;have low:=f.low;have r:w.heap.size<W.heap.size:=a6 o;clear LW f o j;refine bodyPost_ret (v:=.agg (ir w2.heap.size 2 (w2.heap.size+1) 4 W.heap.size 3 (W.heap.size+1) 2 w6.heap.size 1 d.heap.size 1 0).val) ?_ rfl ⟨_,_,_,_,_,_,_,_,_,_,_,_,rfl,⟨Q,R,U,V,S,T⟩,low⟩;clear Q R U V S T low;simp[results,Tryz.results77,go_sem,s,u,x,y,f4,z,r,ir]
def Np(a:Int)(w:World):Calls PL 180 #[.int .i64 a] w λe w'=>e=.returned (.bool false)/\w=w':=by
 go_enter (fx (by decide) Tryz.func180),Tryz.ntmps180
 go_wp2
 go_ret
 exact⟨rfl,rfl⟩
def Ip(a b:Int):Int:=if a<b then -1 else if b<a then 1 else 0
def Kw(a b:Int)(w:World):Calls PL 142 #[.int .i64 a,.int .i64 b] w λe w'=>e=.returned (.int .i64 (Ip a b))/\w=w':=by
 go_enter (fx (by decide) Tryz.func142),Tryz.ntmps142
 go_wp2_with (go_at_call 180;refine(Np _ _).mono ?_;rintro e w'⟨rfl,rfl⟩)
 all_goals (go_ret;refine⟨aC ?_,rfl⟩;simp only[Ip];split<;>(try split)<;>omega)
def EW(f g:Nat->Int)(n m:Nat):Nat->Nat->Int
 |0,_=>if n<m then -1 else 0
 |k+1,q=>if m<=q then 1 else if Ip (f q) (g q)≠0 then Ip (f q) (g q) else EW f g n m k (q+1)
def aaE(f g:Nat->Int)(n m:Nat):Int:=EW f g n m n 0
def EX(a b:Value)(n m:Nat)(f g:Nat->Int)(w:World)(h:Reads w a n 1 λj=>.int .i64 (f j))(hb:Reads w b m 1 λj=>.int .i64 (g j))(y:n<=20)(z:m<=20) :
 Calls PL 105 #[a,b] w λe w'=>e=.returned (.int .i64 (aaE f g n m))/\w=w':=by
 obtain⟨C,D,rfl,h⟩:=h;obtain⟨F,H,rfl,hb⟩:=hb;have A:=a5 h;have B:=a5 hb;clear h hb
 go_enter (fx (by decide) Tryz.func105),Tryz.ntmps105
 go_wp2
 go_loop [11] (λv=>∃q:Nat,q<=n/\v=.int .i64 q/\aaE f g n m=EW f g n m (n-q) q) (λv=>n-(intOf v).toNat)
 case atStart=>exact⟨0,ac _,rfl,rfl⟩
 case round=>
  obtain⟨q,I,rfl,i⟩:=hrel;by_cases r:q<n
  ·have E:=a5 i;clear i;obtain⟨k,o,rfl,J,hc⟩:=A.out (by omega);have a0:w.cell? ⟨k,o+q,none⟩=some (.int .i64 (f q)):=hc q (by omega);clear hc;have l:(q:Int)<n:=by omega
   have es:n-q=(n-(q+1))+1:=by omega
   by_cases s:q<m
   ·obtain⟨k',t,rfl,K,d⟩:=B.out (by omega);have b0:w.cell? ⟨k',t+q,none⟩=some (.int .i64 (g q)):=d q (by omega);clear d;have u:(q:Int)<m:=by omega
    by_cases c:Ip (f q) (g q)=0
    ·have x:(Ip (f q) (g q) != 0)=false:=by simp[c]
     have Z:=a5 c;clear c
     go_wp2_with (go_at_call 142;refine(Kw _ _ _).mono ?_;rintro e w'⟨rfl,rfl⟩)
     refine⟨⟨q+1,r,by go_num,?_⟩,by simp only[intOf];omega⟩;rw[E.out,es,EW,if_neg (by omega),if_neg (by simp[Z.out])]
    ·have x:(Ip (f q) (g q) != 0)=true:=by simp[c]
     have Z:=a5 c;clear c
     go_wp2_with (go_at_call 142;refine(Kw _ _ _).mono ?_;rintro e w'⟨rfl,rfl⟩)
     go_ret
     refine⟨aC ?_,rfl⟩;rw[E.out,es,EW,if_neg (by omega),if_pos Z.out]
   ·have u:(m:Int)<=q:=by omega
    go_wp2
    go_ret
    refine⟨aC ?_,rfl⟩;rw[E.out,es,EW,if_pos (by omega)]
  ·obtain rfl:q=n:=by omega
   have E:=a5 i;clear i;by_cases p:q<m
   ·have l:(q:Int)<m:=by omega
    go_wp2
    go_ret
    refine⟨aC ?_,rfl⟩;rw[E.out,ao,EW,if_pos p]
   ·have l:(m:Int)<=q:=by omega
    go_wp2
    go_ret
    refine⟨aC ?_,rfl⟩;rw[E.out,ao,EW,if_neg p]
def bB(W:World)(v:Value)(l:List Int):Prop:=Reads W v l.length 1 λj=>.int .i64 (l.getD j 0)
def tw(W:World)(base:Nat)(v:Value)(l:List Int):Prop:=W.ownsRow base 3 1 v l.length (l.map λx=>.int .i64 x)
def tw.reads{W:World}{base:Nat}{v:Value}{l:List Int}(h:tw W base v l):bB W v l:=by
 obtain⟨_,h⟩:=h
 rcases h with⟨rfl,a⟩|⟨g,cap,b,rfl,hb,hg,hc,d,hs,c⟩
 ·exact⟨none,0,by rw[a],λh=>by omega⟩
 ·refine⟨_,_,rfl,λa=>⟨g,0,rfl,a6 hg,λj f=>?_⟩⟩;have e:(l.map λx=>a7 .i64 x)[j]?=some (.int .i64 (l.getD j 0)):=by
   rw[List.getElem?_map,ba (by omega)];simp[List.getD_eq_getElem?_getD,ba (show j<l.length by omega)]
  rw[<-c,List.getElem?_take_of_lt (by omega)]at e;simp only[World.cell?,hg,ai];simpa using e
def bB.on{W a:World}{v:Value}{l:List Int}(h:bB W v l)(b:Below W.heap.size W a):bB a v l:=Reads.on h b
def Rz:PL.underlying 42=some (.slice 3):=by kernel_rfl
def RE:(PL.info? 3).map (λi=>(i.zero,i.size,i.bytes))=some (some (.int .i64 0),1,8):=by kernel_rfl
def afG(l m:List Int):Int:=aaE (λj=>l.getD j 0) (λj=>m.getD j 0) l.length m.length
def RF{l m:List Int}{a b:Value}{w:World}(c:bB w a l)(hb:bB w b m)(d:l.length<=20)(f:m.length<=20):Calls PL 105 #[a,b] w λe w'=>e=.returned (.int .i64 (afG l m))/\w=w':=
 EX a b _ _ _ _ w c hb d f
def tw.alloc{W:World}{base:Nat}{v:Value}{l:List Int}(h:tw W base v l)(o:Obj):tw (W.alloc o) base v l:=World.ownsRow.alloc h o
def cZ{W:World}{base e size n:Nat}{v:Value}{xs:List Value}(h:W.ownsRow base e size v n xs):∀k,v.ownBlock=some k->base<=k:=by
 intro k a;obtain⟨_,⟨rfl,_⟩|⟨g,cap,b,rfl,hb,_⟩⟩:=h
 ·cases a
 ·cases a;exact hb
def EY{ops:Array Oper}{rest:List Oper}{o:Oper}{a:Act}{Q:Exit->Act->World->Prop}{w:World}(f:o.guard=none)(s x:Operand)
 (g:o.op=.call { callee:=.builtin .append,args:=#[s,x],argTypes:=#[42,42] }) (base:Nat) (v:Value) (l:List Int) (j:Int) (b:Nat) (hs:a.eval s=v) (c:tw w base v l)
 (i:a.eval x=.slice (some ⟨b,0,none⟩) 1 1) (hc:w.cell? ⟨b,0,none⟩=some (.int .i64 j)) (hl:l.length<=1000) (d:base<=w.heap.size)
 (h:∀v' w',tw w' base v' (l++[j])->Below base w w'->wpList PL ops Q rest (a.put o.dst v') w'):wpList PL ops Q (o::rest) a w:=by
 obtain⟨m,hi,n,p,q⟩:=info_parts RE;refine wpList_append_own _ f s x 42 g base 3 m (.int .i64 0) 1 8 Rz hi n p q rfl (by decide) v l.length _ hs c ⟨b,0,none⟩ 1 1 [.int .i64 j] i rfl (λk u e=>?_) (by simp[Value.oneCell']) (by simp only[maxLen];omega) (by omega) d λv' w' r t _=>?_
 ·match k,e with
  |0,e=>cases e;exact hc
 ·refine h v' w' ?_ ((aT base w).grown t d (cZ c));unfold tw;rw[List.length_append,List.map_append];exact r
def zV(s j:Nat):Bool:=s / 2 ^ j % 2==1
def pJ(s:Nat):Nat->List Int
 |0=>[]
 |j+1=>if zV s j then pJ s j++[(j:Int)] else pJ s j
def qj(s:Nat):∀j,(pJ s j).length<=j
 |0=>ae _
 |j+1=>by
  have:=qj s j;rw[pJ]
  split
  ·simp;omega
  ·omega
def Iq(C:CD)(s i:Nat):Bool:=zV s (C.x3 i).1.toNat||zV s (C.x3 i).2.1.toNat
def RG(C:CD)(s:Nat):Bool:=(bc C.n3).all (Iq C s)
def AW(l b:List Int):Bool:=decide (b.length<l.length)||(decide (l.length=b.length)&&decide (0<afG l b))
def kT(C:CD)(p:Nat)(a:Option (List Int))(s:Nat):Option (List Int):=
 if a.any (AW (pJ s p)) then a else if RG C s then some (pJ s p) else a
def qC(C:CD)(p:Nat):Nat->Option (List Int)
 |0=>none
 |q+1=>kT C p (qC C p q) q
def E3(C:CD)(p:Nat):∀q,((qC C p q).getD []).length<=p
 |0=>ac _
 |q+1=>by
  have:=E3 C p q;rw[qC,kT]
  split
  ·exact this
  ·split
   ·exact qj q p
   ·exact this
def RH{p:Nat}(h:p<=6):wrap64 ((2:Int) ^ p)=((2 ^ p:Nat):Int):=by
 match p,h with
 |0,_|1,_|2,_|3,_|4,_|5,_|6,_=>decide +kernel
def VE:((bc 64).all λq=>(bc 6).all λj=>bits BinOp.and IntKind.i64 ((q:Int) / 2 ^ j) 1==(if zV q j then 1 else 0))=true:=by decide +kernel
def Cq(q:Nat)(a:q<64)(j:Nat)(b:j<6):bits BinOp.and IntKind.i64 ((q:Int) / 2 ^ j) 1=if zV q j then 1 else 0:=by
 have:=VE;simp only[bd,List.mem_range,beq_iff_eq]at this;exact this q a j b
def aaF{C:CD}{p:Nat}(hc:C.cx=0)(f:C.p=p){i:Nat}(hi:i<C.n3):∃a b:Nat,(C.x3 i).1=a/\(C.x3 i).2.1=b/\a<p/\b<p:=by
 have c:kz C.p C.n3 C.x3=0:=ck hc 2 (by omega);unfold kz at c
 split at c
 ·cases c
 have d:=ck c i hi;unfold fQ at d
 split at d
 case isFalse=>cases d
 rename_i e;simp only[bO,Bool.and_eq_true,decide_eq_true_eq]at e;exact⟨(C.x3 i).1.toNat,(C.x3 i).2.1.toNat,by omega,by omega,by omega,by omega⟩
def ah2:Value->Prop
 |.slice _ n c=>n<=c
 |_=>True
def KD(W:World)(v:Value)(l:List Int):Prop:=bB W v l/\ah2 v
def KD.on{W a:World}{v:Value}{l:List Int}(h:KD W v l)(b:Below W.heap.size W a):KD a v l:=⟨h.1.on b,h.2⟩
def tw.abz{W:World}{base:Nat}{v:Value}{l:List Int}(h:tw W base v l):KD W v l:=by
 refine⟨h.reads,?_⟩;obtain⟨_,h⟩:=h
 rcases h with⟨rfl,b⟩|⟨g,cap,a,rfl,hb,hg,hc,c,hs,d⟩
 ·exact ae 0
 ·exact hc
def aas(C:CD)(w:World)(h:C.At w)(hc:C.cx=0):Calls PL 31 #[.agg C.val] w λe w'=>∃v,e=.returned (.tuple #[v,.int .i64 0])/\KD w' v ((qC C C.p.toNat (2 ^ C.p.toNat)).getD [])/\Below w.heap.size w w':=by
 have HA:=a5 h;have K0:Hid (KB C w (w.alloc (.cells C.val 27))):=a5 ⟨au _ _,(aT _ _).alloc (ae _) _⟩;obtain⟨p,hp⟩:∃p:Nat,C.p=p:=⟨C.p.toNat,by have:=cK (ck hc 0 (by omega));omega⟩
 have m:p<=6:=by have:=cK (ck hc 0 (by omega));omega
 have HC:=a5 hc;have Y:=a5 hp;clear h hc hp
 go_enter (fx (by decide) Tryz.func31),Tryz.ntmps31
 go_wp2
 go_step3
 go_wp2_with (go_at_call 22;refine(sY HC.out (HA.out.below K0.out.low)).mono ?_;rintro e w1⟨rfl,aL⟩;have K1:=a5 (K0.out.on aL);clear aL;have hz:=K1.out.lt;obtain⟨M,t,O,H,f4,P⟩:=bf K1.out.box)
 go_step3
 rw[Y.out]at t;have q0:(0:Int)<=p:=by omega
 have q1:(p:Int)<=6:=by omega
 have hN:=RH m;obtain⟨N,o⟩:∃N:Nat,N=2 ^ p:=⟨_,rfl⟩
 rw[<-o]at hN;have as5:N<=64:=by rw[o];exact Nat.pow_le_pow_right (n:=2) (by omega) m
 have HN:=a5 o;clear o
 go_upto_region 7 with fail
 rw[hN];clear hN;clear M t O H f4 P
 go_loopw [5,6,20] (λv5 v6 u wr=>∃q:Nat,q<=N/\u=.int .i64 q/\v6=.bool (qC C p q).isSome/\KD wr v5 ((qC C p q).getD [])/\KB C w wr) (λ_ _ u _=>N-(intOf u).toNat)
 case atStart=>exact⟨0,ac _,rfl,rfl,⟨⟨none,0,rfl,λh=>absurd h (by simp[qC])⟩,ae 0⟩,K1.out⟩
 case round=>
  obtain⟨q,hq,rfl,rfl,I,hK⟩:=hrel;obtain⟨Z,Kx⟩:∃b,b=qC C p q:=⟨_,rfl⟩
  have hbl:(Z.getD []).length<=6:=by rw[Kx];exact ap (E3 C p q) m
  rw[<-Kx]at I ⊢;have x:=a5 Kx;have HR:=a5 I;have HK:=a5 hK;clear Kx I hK;by_cases aH:q<N
  ·have i2:(q:Int)<N:=by omega
   have hz:=HK.out.lt;obtain⟨M,t,O,H,f4,P⟩:=bf HK.out.box;rw[Y.out]at t;obtain⟨Wq,rfl⟩:∃W:World,W=wr:=⟨_,rfl⟩
   go_upto_region 11 with fail
   go_loopw [8,25] (λv8 y wr=>∃j:Nat,j<=p/\y=.int .i64 j/\tw wr Wq.heap.size v8 (pJ q j)/\Below Wq.heap.size Wq wr) (λ_ y _=>p-(intOf y).toNat)
   case atStart=>exact⟨0,ac _,rfl,⟨rfl,.inl ⟨rfl,rfl⟩⟩,aT _ _⟩
   case round=>
    obtain⟨j,hj,rfl,hO,g⟩:=hrel;have HO:=a5 hO;have Q:=a5 g;clear hO g M t O H f4 P;by_cases R:j<p
    ·have i3:(j:Int)<p:=by omega
     have i4:¬((j:Int)<0):=by omega
     have RI:=Cq q (by omega) j (by omega);by_cases J:zV q j=true
     ·rw[if_pos J]at RI;have z:=a5 J;clear J;have Tl:=qj q j;have fW:=Q.out.size
      go_wp2_with (at_builtin;(refine EY rfl _ _ rfl Wq.heap.size _ _ j wr.heap.size rfl (HO.out.alloc _) rfl (cell_one_new _ _ _ 0 _ rfl) (by omega) (by simp;omega) ?_;intro v' w2 fO S))
      refine⟨⟨j+1,R,by go_num,?_,(Q.out.alloc fW _).trans S⟩,by simp only[intOf];omega⟩;rw[pJ,if_pos z.out];exact fO
     ·rw[if_neg J]at RI;have z:=a5 (aV J);clear J
      go_wp2
      refine⟨⟨j+1,R,by go_num,?_,Q.out⟩,by simp only[intOf];omega⟩;rw[pJ,if_neg (by simp[z.out])];exact HO.out
    ·obtain rfl:j=p:=by omega
     have T:=HR.out.on (Q.out);have U:=HO.out.abz;have Tl:(pJ q j).length<=6:=ap (qj q j) m;have r:=a5 (HK.out.on Q.out);have RB:=a5 T;have RL:=a5 U;obtain⟨⟨b5,c5,e5,_⟩,_⟩:=T;obtain⟨⟨b8,c8,e8,_⟩,_⟩:=U;subst e5 e8;obtain⟨l,hl⟩:∃l,l=pJ q j:=⟨_,rfl⟩
     rw[<-hl]at Tl RL ⊢;have d:=a5 hl;clear hl;clear HO;obtain⟨V,rfl⟩:∃W:World,W=wr:=⟨_,rfl⟩
     go_upto_region 16 with fail
     go_cut [58] from 38 to 57 (fun(v58:Value)(wx:World)=>v58=.bool (Z.any (AW l))/\wx=V)
     case first=>
      cases Z with
      |none=>
       go_wp2_with fail
       go_meet
       case rel=>exact⟨rfl,rfl⟩
      |some b=>
       have as7:b.length<=6:=hbl;have RB':Hid (bB V (.slice b5 b.length c5) b):=a5 RB.out.1;by_cases h1:b.length<l.length
       ·have i4:(b.length:Int)<l.length:=by omega
        go_wp2_with fail
        go_meet
        case rel=>exact⟨by simp[AW,h1],rfl⟩
       ·have i4:¬(b.length:Int)<l.length:=by omega
        by_cases h2:l.length=b.length
        ·have i5:(l.length:Int)=b.length:=by omega
         have i6:((l.length:Int)==b.length)=true:=by simp[h2]
         have H2:=a5 h2;clear i5 h2 h1
         go_wp2_with (go_at_call 105;refine(RF RL.out.1 RB'.out (by omega) (by omega)).mono ?_;rintro e w'⟨rfl,rfl⟩)
         go_meet
         case rel=>exact⟨by simp[AW,H2.out],rfl⟩
        ·have i6:((l.length:Int)==b.length)=false:=by simp;omega
         go_wp2_with fail
         go_meet
         case rel=>exact⟨by simp[AW,h2,h1],rfl⟩
     case rest=>
      obtain⟨rfl,rfl⟩:=hcut;obtain⟨V,rfl⟩:∃W:World,W=wc:=⟨_,rfl⟩
      have hz:=r.out.lt;obtain⟨M,t,O,H,f4,P⟩:=bf r.out.box;by_cases K:Z.any (AW l)=true
      ·rw[K]
       go_wp2
       refine⟨⟨q+1,aH,by go_num,?_,?_,r.out⟩,by simp only[intOf];omega⟩
       ·rw[qC,kT,<-x.out,<-d.out,if_pos K]
       ·rw[qC,kT,<-x.out,<-d.out,if_pos K];exact RB.out
      ·rw[aV K];have s:=a5 K;clear K;obtain⟨bb,iC⟩:∃bb,bb=C.b3:=⟨_,rfl⟩
       rw[<-iC]at H;have alo:=a5 iC;clear iC
       go_upto_region 18 with fail
       go_loopw [62] (λA wr=>∃i:Nat,i<=C.n3/\A=.int .i64 i/\(∀k,k<i->Iq C q k=true)/\Below V.heap.size V wr) (λA _=>C.n3-(intOf A).toNat)
       case atStart=>exact⟨0,ac _,rfl,λk B=>absurd B (Nat.not_lt_zero _),aT _ _⟩
       case round=>
        obtain⟨i,hi,rfl,X,g⟩:=hrel;have D:=a5 X;clear X M t O H f4 P;have E:=a5 (r.out.on g);have m3:C.n3<=20:=HA.out.m3;by_cases c:i<C.n3
        ·have i7:(i:Int)<C.n3:=by omega
         have hA:=HA.out.below E.out.low;have e3:=alo.out.trans (hA.s3 (by omega));have k0:=hA.Es i c;have k1:=hA.Et i c;have k2:=hA.Eu i c;have hk3:=hA.h3;clear hA;obtain⟨a,b,ea,eb,D8,NU⟩:=aaF HC.out Y.out c;have F:Hid (Iq C q i=(zV q a||zV q b)):=a5 (by rw[Iq,ea,eb];rfl);rw[ea]at k0;rw[eb]at k1;subst e3;clear ea eb;have lq:=Cq q (by omega) a (by omega);have S:=Cq q (by omega) b (by omega);by_cases L:zV q a=true
         ·rw[if_pos L]at lq;have hc:=a5 (F.out.trans (by rw[L];rfl):Iq C q i=true);clear L S
          go_wp2
          refine⟨⟨i+1,c,by go_num,λk B=>?_,(g.alloc g.size _)⟩,by simp only[intOf];omega⟩
          rcases Nat.lt_succ_iff_lt_or_eq.1 B with h|h
          ·exact D.out k h
          ·rw[h];exact hc.out
         ·rw[if_neg L]at lq;have ha':=aV L;clear L;by_cases hb:zV q b=true
          ·rw[if_pos hb]at S;have hc:=a5 (F.out.trans (by rw[ha',hb];rfl):Iq C q i=true);clear ha' hb
           go_wp2
           refine⟨⟨i+1,c,by go_num,λk B=>?_,(g.alloc g.size _)⟩,by simp only[intOf];omega⟩
           rcases Nat.lt_succ_iff_lt_or_eq.1 B with h|h
           ·exact D.out k h
           ·rw[h];exact hc.out
          ·rw[if_neg hb]at S;have hc:=a5 (F.out.trans (by rw[ha',aV hb];rfl):Iq C q i=false)
           have f:Hid (RG C q=false):=a5 (by
            rw[RG,List.all_eq_false]
            exact⟨i,List.mem_range.2 c,by simp[hc.out]⟩)
           clear ha' hb
           go_wp2
           refine⟨⟨q+1,aH,by go_num,?_,?_,E.out.alloc _⟩,by simp only[intOf];omega⟩
           ·rw[qC,kT,<-x.out,<-d.out,if_neg s.out,if_neg (by simp[f.out])]
           ·rw[qC,kT,<-x.out,<-d.out,if_neg s.out,if_neg (by simp[f.out])];exact(RB.out.on g).on ((aT _ _).alloc (ae _) _)
        ·obtain rfl:i=C.n3:=by omega
         have f:Hid (RG C q=true):=a5 (by
          rw[RG,bd]
          exact λk B=>D.out k (List.mem_range.1 B))
         go_wp2
         refine⟨⟨q+1,aH,by go_num,?_,?_,E.out⟩,by simp only[intOf];omega⟩
         ·rw[qC,kT,<-x.out,<-d.out,if_neg s.out,if_pos f.out];rfl
         ·rw[qC,kT,<-x.out,<-d.out,if_neg s.out,if_pos f.out];exact RL.out.on g
  ·obtain rfl:q=N:=by omega
   have I:=HR.out;have fin:KD wr u5 ((qC C C.p.toNat (2 ^ C.p.toNat)).getD []):=by
    have e:C.p.toNat=p:=by rw[Y.out];rfl
    rw[e,<-HN.out,<-x.out];exact I
   have FIN:=a5 fin;clear fin I
   go_wp2
   rw[Exit.noGoto_ret];refine bodyPost_ret (v:=.tuple #[u5,.int .i64 0]) ?_ rfl ⟨_,rfl,FIN.out,HK.out.low⟩;simp[results,Tryz.results31,go_sem]
def Cr(C:CD)(w:World)(h:C.At w)(hc:C.cx=0):Calls PL 31 #[.agg C.val] w λe w'=>∃v,e=.returned (.tuple #[v,.int .i64 0])/\bB w' v ((qC C C.p.toNat (2 ^ C.p.toNat)).getD [])/\Below w.heap.size w w':=
 (aas C w h hc).mono λ_ _⟨v,e,a,b⟩=>⟨v,e,a.1,b⟩
end Go.Proofs
