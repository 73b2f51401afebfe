/- Part of the proof of FieldLevels: see X45. -/
import Derived.Test.YtmkjeaacgibnoaaGreatX27
set_option linter.all false
open List renaming mem_cons->aa,not_mem_nil->ab,getElem?_eq_none->ac,range->ad
open Nat renaming lt_or_ge->ae
open Go.Proofs.Tryz renaming progTables->ag
open Go.Frame renaming enter->ai
namespace Go.Proofs
open Go.bJ Go.Conc Go.Ph
set_option maxRecDepth 100000
section
variable {ρ:Ren}{w w':World}
def ints(l:List Value):Prop:=∀v∈l,∃n,v=.int .i64 n
def MX{l:List Value}(h:ints l):cU FF ρ l l:=by
 induction l with
 |nil=>exact .nil
 |cons v l a=>
  obtain⟨n,e⟩:=h v (by simp);subst e;exact .cons (.int _ _) (a λu b=>h u (by simp[b]))
def fY{a b:List Value}(h:ints a)(k:ints b):ints (a++b):=λv hv=>(List.mem_append.1 hv).elim (h v) (k v)
def mj(np s:Nat)(D:jB)(r:Nat)(c:Int×Int):ints (cG np s D r c).toList:=by
 intro v hv;simp only[cG,aa,ab,or_false]at hv
 rcases hv with rfl|rfl|rfl|rfl|rfl<;>exact⟨_,rfl⟩
def sV:ints UZ:=by
 intro v hv;simp only[UZ,aa,ab,or_false,or_self]at hv;exact⟨0,hv⟩
def QX(D:jB)(d0 d1:Int):ints (Qf D d0 d1).toList:=
 fY (mj _ _ _ _ _) (fY (mj _ _ _ _ _) (fY (mj _ _ _ _ _) (fY sV (fY (mj _ _ _ _ _) (fY (mj _ _ _ _ _) (fY (mj _ _ _ _ _) (fY sV (fY sV (fY sV (by
  intro v hv;simp only[aa,ab,or_false,or_self]at hv
  exact⟨0,hv⟩))))))))))
def zN{A B:List Value}{n o:Nat}(h:A.length=n)(a:o<n):(A++B)[o]?=A[o]?:=List.getElem?_append_left (by omega)
def zO{A B:List Value}{n o:Nat}(h:A.length=n)(a:n<=o):(A++B)[o]?=B[o-n]?:=by subst h;exact List.getElem?_append_right a
def Ca{i:Nat}(h:i<10):UZ[i]?=some Z0:=by
 obtain rfl|rfl|rfl|rfl|rfl|rfl|rfl|rfl|rfl|rfl:i=0\/i=1\/i=2\/i=3\/i=4\/i=5\/i=6\/i=7\/i=8\/i=9:=by omega
 all_goals rfl
def QY{Shun:Loc->Prop}{n0:Nat}{D:jB}{d0 d1:Int}{w1:World}{cs:Array Value}(hb:w1.heap[n0+1]?=some (.cells cs 183))(hcs:cs.size=75)
 (rows:∀k,k<2->Rows (zL Shun n0) ⟨0,λ_=>False,Ef k⟩ 3 k k D (two d0 d1 k) 3 w1) (rest:∀o,50<=o->o<75->w1.cell? ⟨n0+1,o,none⟩=some (.int .i64 0)):cs=Qf D d0 d1:=by
 have cell:∀o,w1.cell? ⟨n0+1,o,none⟩=cs.toList[o]?:=λo=>by
  simp only[World.cell?,hb,Array.getElem?_toList];rfl
 have put:∀k,k<2->∀r,r<3->∀j,j<5->cs.toList[k*25+bY 3 k r*5+j]?=(cG 3 k D r (bS 3 k D (two d0 d1 k) r)).toList[j]?:=λk b r l j m=>by
  have:=(rows k b).put r l j m;have e:(⟨(zL Shun n0).Tb,k*25+bY 3 k r*5+j,none⟩:Addr)=⟨n0+1,k*25+bY 3 k r*5+j,none⟩:=rfl;rw[e,cell]at this;rw[this,Array.getElem?_toList]
 have a:∀k,k<2->∀j,k*25+15<=j->j<k*25+25->cs.toList[j]?=some Z0:=λk b j f g=>by
  have:=(rows k b).rest j ⟨by omega,by omega,by omega⟩ (.inr (by omega));have e:(⟨(zL Shun n0).Tb,j,none⟩:Addr)=⟨n0+1,j,none⟩:=rfl;rw[e,cell]at this;exact this
 have p:∀j,50<=j->j<75->cs.toList[j]?=some Z0:=λj f g=>by rw[<-cell];exact rest j f g
 have v5:∀s r c,(cG 3 s D r c).toList.length=5:=λ_ _ _=>rfl;have t:([Z0,Z0,Z0,Z0,Z0]:List Value).length=5:=rfl;have q:∀i,i<5->([Z0,Z0,Z0,Z0,Z0]:List Value)[i]?=some Z0:=λi h=>by
  obtain rfl|rfl|rfl|rfl|rfl:i=0\/i=1\/i=2\/i=3\/i=4:=by omega
  all_goals rfl
 apply Array.ext';apply List.ext_getElem?;intro o
 rcases ae o 75 with d|d
 case inr=>
  rw[ac (by simpa[hcs]using d),ac];have:(Qf D d0 d1).toList.length=75:=rfl;omega
 show _=(_++(_++(_++(_++(_++(_++(_++(_++(_++(_++_))))))))):List Value)[o]?
 rcases ae o 5 with h|h
 ·rw[zN (v5 _ _ _) h];have:=put 0 (by omega) 0 (by omega) o h;simpa[bY,two]using this
 rw[zO (v5 _ _ _) h]
 rcases ae o 10 with h|h
 ·rw[zN (v5 _ _ _) (by omega)];have:=put 0 (by omega) 1 (by omega) (o-5) (by omega);have e:0*25+bY 3 0 1*5+(o-5)=o:=by simp only[bY];omega
  rw[e]at this;exact this
 rw[zO (v5 _ _ _) (by omega)]
 rcases ae o 15 with h|h
 ·rw[zN (v5 _ _ _) (by omega)];have:=put 0 (by omega) 2 (by omega) (o-5-5) (by omega);have e:0*25+bY 3 0 2*5+(o-5-5)=o:=by simp only[bY];omega
  rw[e]at this;exact this
 rw[zO (v5 _ _ _) (by omega)]
 rcases ae o 25 with h|h
 ·rw[zN (n:=10) rfl (by omega),Ca (by omega)];exact a 0 (by omega) o (by omega) (by omega)
 rw[zO (n:=10) rfl (by omega)]
 rcases ae o 30 with h|h
 ·rw[zN (v5 _ _ _) (by omega)];have:=put 1 (by omega) 2 (by omega) (o-5-5-5-10) (by omega);have e:1*25+bY 3 1 2*5+(o-5-5-5-10)=o:=by simp only[bY];omega
  rw[e]at this;exact this
 rw[zO (v5 _ _ _) (by omega)]
 rcases ae o 35 with h|h
 ·rw[zN (v5 _ _ _) (by omega)];have:=put 1 (by omega) 0 (by omega) (o-5-5-5-10-5) (by omega);have e:1*25+bY 3 1 0*5+(o-5-5-5-10-5)=o:=by simp only[bY];omega
  rw[e]at this;exact this
 rw[zO (v5 _ _ _) (by omega)]
 rcases ae o 40 with h|h
 ·rw[zN (v5 _ _ _) (by omega)];have:=put 1 (by omega) 1 (by omega) (o-5-5-5-10-5-5) (by omega);have e:1*25+bY 3 1 1*5+(o-5-5-5-10-5-5)=o:=by simp only[bY];omega
  rw[e]at this;exact this
 rw[zO (v5 _ _ _) (by omega)]
 rcases ae o 50 with h|h
 ·rw[zN (n:=10) rfl (by omega),Ca (by omega)];exact a 1 (by omega) o (by omega) (by omega)
 rw[zO (n:=10) rfl (by omega)];rw[p o h d]
 rcases ae o 60 with h|h
 ·rw[zN (n:=10) rfl (by omega),Ca (by omega)]
 rw[zO (n:=10) rfl (by omega)]
 rcases ae o 70 with h|h
 ·rw[zN (n:=10) rfl (by omega),Ca (by omega)]
 rw[zO (n:=10) rfl (by omega),q _ (by omega)]
def MY{P:Program}{n:Nat}{g a:Goroutine}{w w2:World}(h:cy P n g w a w2)(b:g.callers.length≠a.callers.length):∃m,n=m+1:=by
 cases n with
 |zero=>cases h;exact absurd rfl b
 |succ m=>exact⟨m,rfl⟩
def MZ{a:Array Value}(h:undef=Value.agg a):False:=by cases h
def U2(f:FuncId)(R:Value->World->Prop):BD ag cY.funcs Tryz.funcs FF XX ZZ (lQ PC f R):=by
 intro x j ρ a z c c' l l' w w' gs sl t q k hI p ha hc sB ht hi C s lS;obtain rfl:x=98:=by simpa[XX]using j
 obtain⟨H,r,e0,eN,eE⟩:=ZU a;have F:ai (⟨ag,cY.funcs⟩:Program) 98 a .normal=⟨98,⟨(ad 193).map H++r⟩,[.code sU],[],.run,.normal,none⟩:=eE;have hcs:2<=(c::(l++[aX PC])).length:=by simp
 have I:Go.bJ.Way ag cY.funcs FF ZZ f R (fH (ai PC 98 a .normal) (c::l++[aX PC])) w (fH (ai PC 98 a .normal) (c::l++[aX PC])) w:=⟨ht,hi,0,.zero _ _⟩
 have J:Go.bJ.Way ag cY.funcs FF ZZ f R (fH (ai PC 98 a .normal) (c::l++[aX PC])) w (fH ⟨98,⟨(ad 193).map H++r⟩,[.code sU],[],.run,.normal,none⟩ (c::(l++[aX PC]))) w:=by
  rw[<-F];exact I
 have K:=UT hcs J;have M:∃E:Value,VR FF ρ (H 0) E/\(∀y,E=.agg y->z[0]?=some E):=by
  rcases VA.get? ha 0 with⟨O,X⟩|⟨v,v',O,X,hv⟩
  ·have ea:a=#[]:=by
    obtain⟨L⟩:=a
    cases L with
    |nil=>rfl
    |cons _ _=>simp at O
   rw[eN ea];exact⟨undef,.undef,λy hy=>(MZ hy).elim⟩
  ·exact⟨v',by rw[e0 v O];exact hv,λ_ _=>X⟩
 obtain⟨E,P,zE⟩:=M;obtain⟨D,d0,d1,gn,Y,cf,Ht,way⟩:=aeU hcs K p P;obtain⟨jf,jr,eA⟩:=US (ca:=cA 3 D) (by rw[<-Y];exact zE _ Y);have u:∀{a b},ρ a b->a<w.heap.size/\b<w'.heap.size:=λh=>p.lt h;have Xf:∀l,k l->l.low w'.heap.size/\l.isMemory=true:=λl hl=>by
  refine⟨?_,s.mem l hl⟩
  cases l with
  |cell a=>exact(s.cell a hl).1
  |obj b=>exact(s.obj b hl).1
  |_=>trivial
 have Q:∀b∈dR 3 D,∀z:Addr,z.block=b->¬k (.cell z):=λb hb z e hs=>by
  obtain⟨r,d⟩:=Ht b hb;exact(s.cell z hs).2 r (by rw[e];exact d)
 have S:gs[0]?=some (G (fE (CA.mk (cA 3 D) jf jr)) (c'::l')):=by
  have:=C.main;rw[<-eA];exact this
 obtain⟨N,jX,w1,rQ,t1,q1,k1,k2,k3,k4,k5,k6,g⟩:=MU (sl:=sl) cf af3 afc Xf Q S C.old C.GA C.num;obtain⟨tb,A,T⟩:=g.tb;have U:=QY A T g.rows g.rest;subst U;have U3:∀b,¬ρ w.heap.size b:=λb h=>absurd (u h).1 (Nat.lt_irrefl _);have Z:∀n,w'.heap.size<=n->∀a,¬ρ a n:=λn V a h=>by have:=(u h).2;omega
 have fW:=g.size;obtain⟨n,V⟩:=way.chain;obtain⟨m,rfl⟩:=MY V (by simp)
 refine⟨N,ρ.ext w.heap.size (w'.heap.size+1),.pointer (some ⟨w.heap.size,0,none⟩),.pointer (some ⟨w'.heap.size+1,0,none⟩),_,w1,jX,rQ,t1,q1,_,k1,⟨k3,k4,k5,k6⟩,⟨λx j=>?_,λb hb=>?_,λx j=>?_⟩,.ptr ⟨Ren.IW _ _ _,rfl,rfl⟩,hI.ext U3 (Z _ (by omega)) p.pK (by have:=p.gN;omega),⟨?_,by have:=p.gN;omega,λ{r r'}d=>?_⟩,
  ⟨Ren.kW _ _ _,λa b h=>?_,λa b h i hh=>⟨?_,by unfold World.cell?;rw[g.kept b (u h).2]⟩⟩,⟨g.tape,g.os,g.output,by omega,λb hb _=>g.kept b hb⟩,⟨m,w.tape,w.drawn,V⟩,way.inv,?_⟩
 ·rcases j with j|⟨y,hy,hb⟩
  ·obtain⟨W,B⟩:=s.cell x j;refine⟨by omega,λr d=>?_⟩
   rcases d with d|⟨_,e⟩
   ·exact B r d
   ·omega
  ·cases hy;have jH:x.block=w'.heap.size+3\/x.block=w'.heap.size+4:=hb;refine⟨by omega,λr d=>?_⟩
   rcases d with d|⟨_,e⟩
   ·exact Z _ (by omega) r d
   ·omega
 ·rcases hb with hb|⟨y,hy,_⟩
  ·obtain⟨W,B⟩:=s.obj b hb;refine⟨by omega,λr d=>?_⟩
   rcases d with d|⟨_,e⟩
   ·exact B r d
   ·omega
  ·cases hy
 ·rcases j with j|⟨y,hy,_⟩
  ·exact s.mem x j
  ·subst hy;rfl
 ·have:=p.pK;show _<=(w.heap.push _).size;simp;omega
 ·rcases d with d|⟨rfl,rfl⟩
  ·obtain⟨o,o',W,B,h3⟩:=p.obj d;refine⟨o,o',?_,?_,h3.mono (Ren.kW _ _ _)⟩
   ·show(w.heap.push _)[r]?=_;rw[Array.getElem?_push_lt (u d).1,<-Array.getElem?_eq_getElem (u d).1];exact W
   ·rw[g.kept _ (u d).2];exact B
  ·refine⟨_,_,?_,A,.cells _ _ (MX (QX D d0 d1))⟩;show(w.heap.push _)[w.heap.size]?=_;simp
 ·rcases h with h|⟨rfl,rfl⟩
  ·exact .inl h
  ·exact .inr ⟨Nat.le_refl _,by omega⟩
 ·obtain⟨v,hv,hu⟩:=hh;exact⟨v,(tQ w _ a i (u h).1).symm.trans hv,hu⟩
 ·show _<=(w.heap.push _).size;simp
end
end Go.Proofs
