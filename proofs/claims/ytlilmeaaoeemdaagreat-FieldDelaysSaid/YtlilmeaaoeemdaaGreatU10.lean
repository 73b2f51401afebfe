/- Part of the proof of FieldDelays. -/
import Derived.Test.YtlilmeaaoeemdaaGreatU09
set_option linter.all false
open Go.Conc renaming mem_of_getElem?->aa,Leavers->ab
open Array renaming getElem?_push_lt->ac,getElem?_eq_getElem->ad,ext'->ae,getElem?_eq_none->ag
open Go renaming Goroutine->ai
open Nat renaming not_lt_zero->ao,mod_lt->ar,div_add_mod->aw,lt_or_ge->aF,mod_eq_of_lt->aH,add_mod_right->aI,add_mod->aJ
namespace Go.Ph
open Go.Conc Go.ConcN
def TI.ZO{Shun Sh:Loc->Prop}{c:Nat}{t:Trace}{B:Nat}(h:Past Shun B t)(n:∀l,Sh l->l.isMemory=true/\¬l.low B)(Own Rd:Nat->Loc->Prop)(hg:∀op∈t,c<=op.g->op.act.touch? = none):TI Shun Sh Own Rd c 0 t:=by
 have o:∀(i:Nat)(op:MemOp)(x:Touch),t[i]?=some op->op.act.touch? = some x->¬Sh x.loc:=by
  intro i op x hi d hs;obtain⟨f,hl⟩:=n _ hs;refine hl ?_;have:=h.seen op (aa hi);generalize op.act=act at d this
  cases act with
  |access e=>cases e.sync<;>(simp[MemAct.touch?]at d;subst d;exact this)
  |mark m=>cases m<;>simp[MemAct.touch?]at d<;>(subst d;exact this)
  |_=>simp[MemAct.touch?]at d
 refine⟨h.clean,λi a b _ f=>(h.known i a b f).imp id (·.2),λi op x hi d hs=>absurd hs (o i op x hi d),λk _ _=>by omega,λk _ _=>by omega,λl f _ hs _ i a b e=>?_,λl f _ hs _ i a b e _=>?_,
  λi op a hi _ _ b f=>h.known i a (by rw[touchAt_of hi];exact b) f,λi g hi p _ hc=>h.over i g hi p hc,λi op a hi j b=>?_,λi op hi j=>hg op (aa hi) j⟩
 ·rcases h.known i a b (by rw[e];exact f) with k|⟨k,_⟩
  ·exact k
  ·exact absurd (e▸k) hs
 ·rcases h.known i a b (by rw[e];exact f) with k|⟨k,_⟩
  ·exact k
  ·exact absurd (e▸k) hs
 ·rw[hg op (aa hi) j]at b;cases b
end Go.Ph
namespace Go.Proofs
open Go.Ph Go.Conc Go.ConcN Go.bJ
set_option maxRecDepth 100000
section
variable {h:Array Obj}{ca:Array Value}
def xV:(oX h ca).size=h.size+5:=by simp[oX]
def Ay{b:Nat}(hb:b<h.size):(oX h ca)[b]?=h[b]?:=by
 unfold oX;rw[ac (by simp;omega),<-ad,ac (by simp;omega),<-ad,ac (by simp;omega),<-ad,ac (by simp;omega),<-ad,ac hb,<-ad]
def oY(k:Nat):(oX h ca)[h.size+k]?=(#[.cells ca 78,.cells dZ 125,.cells #[.pointer (some ⟨h.size+1,0,none⟩)] 102,.cells kP 132,.cells nc 139]:Array Obj)[k]?:=by
 have e:oX h ca=h ++ #[.cells ca 78,.cells dZ 125,.cells #[.pointer (some ⟨h.size+1,0,none⟩)] 102,.cells kP 132,.cells nc 139]:=by
  apply ae;simp[oX]
 rw[e,Array.getElem?_append_right (by omega)];congr 1;omega
end
noncomputable def zL(Shun:Loc->Prop)(n0 n:Nat):Fix:={ P:=PP,tM:=132,tW:=139,tT:=125,Mu:=n0+3,Wg:=n0+4,Tb:=n0+1,size:=75,n:=n,Shun }
def Ef(k o:Nat):Prop:=k<3/\k*25<=o/\o<k*25+25
noncomputable def xW(Shun:Loc->Prop)(n0 n c np:Nat)(D:jB)(S:Nat->Nat)(dl:Nat->Int)(c':Frame)(l':List Frame)(w₀:World):CB:=
 { zL Shun n0 n with c,np,row:=Ef,Fin:=JH (zL Shun n0 n) np D S dl Ef,Post:=P8 (zL Shun n0 n) c' l',sE:=n0,w₀ }
def mp0(n:Nat):MP:=if n=0 then .w1 else .add
def acv(n:Nat):(n=0/\mp0 n=.w1)\/(0<n/\mp0 n=.add):=by
 unfold mp0
 rcases Nat.eq_zero_or_pos n with h|h
 ·exact .inl ⟨h,if_pos h⟩
 ·exact .inr ⟨h,if_neg (by omega)⟩
noncomputable def ZP(n0 n np:Nat)(st:Nat->Prop)(tr:Tree)(q:Nat->Nat):Gh where
 j:=0
 th:=λ_=>{ pc:=.l0,r:=np }
 wp:=λ_=>.mu
 mp:=mp0 n
 V:=λ_=>⟨0,st,λ_=>False⟩
 M:=λ_ b=>b=n0\/b=n0+2
 tr:=λ_=>tr
 q:=q
 fu:=λ_=>1000
 s:=⟨{},0,0,0,0⟩
def akp(n np:Nat)(k:1<=np):cD.Inv n ⟨λ_=>{ pc:=.l0,r:=np },{},0⟩:=by
 have z:∀(f:cD.Th->Nat),f { pc:=.l0,r:=np }=0->sumTo n (λi=>f ((λ_=>({ pc:=.l0,r:=np }:cD.Th)) i))=0:=by
  intro f hf;show sumTo n (λ_=>f { pc:=.l0,r:=np })=0;rw[hf]
  induction n with
  |zero=>rfl
  |succ n a=>simp[sumTo,a]
 have b:=z cD.fh rfl;have c:=z cD.fq rfl;have d:=z cD.fk rfl;have e:=z cD.fa rfl;have g:=z cD.fr rfl;have j:=z cD.fw rfl;refine⟨λi _=>⟨?_,?_,?_,?_,?_,?_,?_,?_,?_,?_,?_⟩,?_,?_,?_,?_,?_⟩
 all_goals first
  |(simp;done)
  |(simp;omega)
  |(simp only[b];simp;done)
  |(simp only[j,g,d,e,c];simp;done)
  |skip
def aey{Shun:Loc->Prop}{n0 n c np:Nat}{st:Nat->Prop}{D:jB}{S:Nat->Nat}{dl:Nat->Int}{c':Frame}{l':List Frame}{w₀:World}{tr:Tree}{q:Nat->Nat}(a:n<=3):vK (xW Shun n0 n c np D S dl c' l' w₀) (ZP n0 n np st tr q)<=170:=by
 show wM n 0 0 (mp0 n)+0<=170
 rcases acv n with⟨_,h⟩|⟨_,h⟩<;>rw[h]<;>simp only[wM]<;>omega
def UO{Shun:Loc->Prop}{n0 n c np:Nat}{D:jB}{S:Nat->Nat}{dl:Nat->Int}{c':Frame}{l':List Frame}{w₀:World}(f:1<=np/\np<=5):nG (xW Shun n0 n c np D S dl c' l' w₀):=by
 intro k w w' h hf a;have b:=hf a;refine⟨λd g j i=>?_,λj e l=>?_⟩
 ·refine(h _ ⟨a,by omega,?_⟩).trans (b.put d g j i);have:=oW (s:=S k) f.1 (r:=d);omega
 ·exact(h j e).trans (b.rest j e l)
def JK{Shun:Loc->Prop}{n0 n c np:Nat}{D:jB}{S:Nat->Nat}{dl:Nat->Int}{c':Frame}{l':List Frame}{w₀:World}:Jn (xW Shun n0 n c np D S dl c' l' w₀):=by
 intro k k' o a h b;obtain⟨_,d,e⟩:=h;obtain⟨_,f,g⟩:=b;have:k=k':=by omega
 exact a this
def Qa{Shun:Loc->Prop}{n0 n c np:Nat}{D:jB}{S:Nat->Nat}{dl:Nat->Int}{c':Frame}{l':List Frame}{w₀:World}:GL (xW Shun n0 n c np D S dl c' l' w₀):=λ_ _ _ _ h=>h
def MS{o:Nat}(h:o<75):dZ[o]?=some (.int .i64 0):=by
 unfold dZ;rw[ad (by simpa using h)];simp
section
variable {jf:Nat->Value}{jr:List Value}{Shun:Loc->Prop}{np:Nat}{D:jB}{S:Nat->Nat}{dl:Nat->Int}{gn:Nat->ByteArray}{c':Frame}{l':List Frame}
def UP{n:Nat}{arr:Array Value}{st:Nat->Prop}{gs:Array ai}{w w1:World}{t:Trace}{q:Nat->Nat}(Q:n<=3)(R:1<=np)(J:∀b,st b->b<w.heap.size)
 (T:∀l,Shun l->l.low w.heap.size/\l.isMemory=true)
 (s:Ee w (oX w.heap arr) w1) (K:gs[0]?=some (m6 (CA.mk arr jf jr) w.heap.size (w.heap.size+1) (w.heap.size+2) (w.heap.size+3) (w.heap.size+4) (c'::l')))
 (L:ay (zL Shun w.heap.size n) ⟨0,st,λ_=>False⟩ false (Ta (zL Shun w.heap.size n) gs.size np Ef (JH (zL Shun w.heap.size n) np D S dl Ef) (P8 (zL Shun w.heap.size n) c' l') n ⟨0,st,λ_=>False⟩) (λb=>b=w.heap.size\/b=w.heap.size+2) 0 (m6 (CA.mk arr jf jr) w.heap.size (w.heap.size+1) (w.heap.size+2) (w.heap.size+3) (w.heap.size+4) (c'::l')) w1)
 (N:ab PP t gs q) (y:Past Shun (w.heap.size+3) t) (U:∀op∈t,gs.size<=op.g->op.act.touch? = none) :
 ∃tr,MI (xW Shun w.heap.size n gs.size np D S dl c' l' w1) (ZP w.heap.size n np st tr q) gs w1 t:=by
 have V:0<gs.size:=(Array.getElem?_eq_some_iff.1 K).1;have fW:w1.heap.size=w.heap.size+5:=by rw[s.heap,xV]
 have hold:∀b,b<w.heap.size->w1.heap[b]?=w.heap[b]?:=λb hb=>by rw[s.heap,Ay hb]
 have Tj:w1.heap[w.heap.size]?=some (.cells arr 78):=by rw[s.heap];exact oY 0
 have u:w1.heap[w.heap.size+1]?=some (.cells dZ 125):=by rw[s.heap];exact oY 1
 have W:w1.heap[w.heap.size+2]?=some (.cells #[.pointer (some ⟨w.heap.size+1,0,none⟩)] 102):=by rw[s.heap];exact oY 2
 have A:w1.heap[w.heap.size+3]?=some (.cells kP 132):=by rw[s.heap];exact oY 3
 have B:w1.heap[w.heap.size+4]?=some (.cells nc 139):=by rw[s.heap];exact oY 4
 have X:ShAt (zL Shun w.heap.size n) w1 ⟨{},0,0,0,0⟩:=⟨A,B⟩
 have C:ay (zL Shun w.heap.size n) ⟨0,st,λ_=>False⟩ false (stM (xW Shun w.heap.size n gs.size np D S dl c' l' w1) 0 1000 ⟨0,st,λ_=>False⟩ (mp0 n)) (λb=>b=w.heap.size\/b=w.heap.size+2) 0 (m6 (CA.mk arr jf jr) w.heap.size (w.heap.size+1) (w.heap.size+2) (w.heap.size+3) (w.heap.size+4) (c'::l')) w1:=by
  rcases acv n with⟨h,e⟩|⟨_,e⟩
  ·rw[e];subst h;exact L.mono λM d g w h=>h 1000
  ·rw[e];exact L
 have f:=acv n;obtain⟨tr,E⟩:=C;obtain⟨_,_,Y⟩:=aes (CA.mk arr jf jr) w.heap.size (w.heap.size+1) (w.heap.size+2) (w.heap.size+3) (w.heap.size+4) (c'::l');refine⟨tr,?_⟩;have z0:∀a,a<=(ZP w.heap.size n np st tr q).j->a=0:=λa m=>Nat.le_zero.1 m;constructor
 case cpos=>exact V
 case size=>rfl
 case sit=>
  intro a m g hg;obtain rfl:=z0 a m;have:g=m6 (CA.mk arr jf jr) w.heap.size (w.heap.size+1) (w.heap.size+2) (w.heap.size+3) (w.heap.size+4) (c'::l'):=by
   have O:gs[0]?=some g:=hg;rw[K]at O;exact(Option.some.inj O).symm
  subst this;refine .run (λh=>h) Y ?_;have hd:Deaf t (gid (xW Shun w.heap.size n gs.size np D S dl c' l' w1) 0)=0:=y.hears;rw[hd];exact E
 case old=>exact λi g r _ P=>N.old i g r P
 case above=>exact N.above
 case sh=>exact X
 case tb=>exact⟨dZ,u,by show dZ.size=75;simp[dZ]⟩
 case mun=>exact akp n np R
 case fresh=>exact λ_ _ _=>rfl
 case out=>exact λk p=>absurd p (ao _)
 case wi=>
  refine⟨?_,λh=>?_,λh h'=>?_,Nat.zero_le _,λ_=>⟨rfl,rfl,rfl,rfl⟩,λh=>?_,λh=>?_,λv h=>?_⟩
  ·show 0=0+(if mp0 n=.go then 1 else 0)
   rcases f with⟨_,e⟩|⟨_,e⟩<;>rw[e]<;>rfl
  ·show 0<n
   rcases f with⟨_,e⟩|⟨r,e⟩
   ·rcases h with h|h
    ·have h:mp0 n=.add:=h;rw[e]at h;cases h
    ·have h:mp0 n=.go:=h;rw[e]at h;cases h
   ·exact r
  ·show 0=n
   rcases f with⟨r,e⟩|⟨_,e⟩
   ·exact r.symm
   ·exact absurd e h
  ·have h:mp0 n=.w3:=h
   rcases f with⟨_,e⟩|⟨_,e⟩<;>(rw[e]at h;cases h)
  ·have h:mp0 n=.w4\/mp0 n=.aq\/mp0 n=.an:=h
   rcases f with⟨_,e⟩|⟨_,e⟩<;>(rw[e]at h;rcases h with h|h|h<;>cases h)
  ·have h:mp0 n=.w2 v:=h
   rcases f with⟨_,e⟩|⟨_,e⟩<;>(rw[e]at h;cases h)
 case fuel=>exact λk p=>absurd p (ao _)
 case fuel0=>
  have:=aey (Shun:=Shun) (n0:=w.heap.size) (n:=n) (c:=gs.size) (np:=np) (st:=st) (D:=D) (S:=S) (dl:=dl) (c':=c') (l':=l') (w₀:=w1) (tr:=tr) (q:=q) Q;show _+1<=1000;omega
 case oi=>
  constructor
  case ap=>
   intro a m b hb
   rcases hb with hb|hb
   ·have z:b=w.heap.size\/b=w.heap.size+2:=hb;exact⟨by omega,by show b≠w.heap.size+3;omega,by show b≠w.heap.size+4;omega,by show b≠w.heap.size+1;omega⟩
   ·have:=J b hb;exact⟨by omega,by show b≠w.heap.size+3;omega,by show b≠w.heap.size+4;omega,by show b≠w.heap.size+1;omega⟩
  case dj=>exact λa F m ha' H=>absurd ((z0 a m).trans (z0 F ha').symm) H
  case self=>
   intro a m b hb hs;have z:b=w.heap.size\/b=w.heap.size+2:=hb;have:=J b hs;omega
  case rows=>exact λa F m ha' H=>absurd ((z0 a m).trans (z0 F ha').symm) H
  case base=>
   intro a m b hb;have z:b=w.heap.size\/b=w.heap.size+2:=hb;show w.heap.size<=b;omega
  case num=>intro a m;obtain rfl:=z0 a m;rfl
  case ids=>
   show w.heap.size+3≠w.heap.size+4/\w.heap.size+3≠w.heap.size+1/\w.heap.size+4≠w.heap.size+1/\w.heap.size<=w.heap.size+3/\w.heap.size<=w.heap.size+4/\w.heap.size<=w.heap.size+1/\w.heap.size+3<w1.heap.size/\w.heap.size+4<w1.heap.size/\w.heap.size+1<w1.heap.size;omega
  case main=>rfl
  case rowV=>exact λk p=>absurd p (ao _)
 case shun=>exact T
 case tri=>
  refine TI.ZO y (λl hl=>?_) _ _ U;obtain⟨a,rfl,m⟩:=hl;refine⟨rfl,λZ=>?_⟩;have r:a.block<w.heap.size+3:=Z;have z:a.block=w.heap.size+3\/a.block=w.heap.size+4:=m;omega
 case rel=>exact λk p=>absurd p (ao _)
 case norel=>
  intro i hi;obtain⟨op,I,he⟩:∃op,t[i]?=some op/\op.act=.mark (.release (Go.ConcR.stA (w.heap.size+4))):=by
   unfold Trace.act? at hi
   cases x:t[i]? with
   |none=>rw[x]at hi;cases hi
   |some op=>rw[x]at hi;exact⟨op,rfl,Option.some.inj hi⟩
  have:=y.seen op (aa I);rw[he]at this;have r:w.heap.size+4<w.heap.size+3:=this;omega
 case low=>exact λop I=>MemAct.low_mono (by omega) (y.seen op I)
 case fin=>exact λk p=>absurd p (ao _)
 case acq=>
  intro h;have h:mp0 n=.an:=h
  rcases f with⟨_,e⟩|⟨_,e⟩<;>(rw[e]at h;cases h)
 case tape=>rfl
 case output=>rfl
 case os=>exact .refl _
 case kept=>exact λ_ _=>rfl
 case rowok=>exact JK (Shun:=Shun) (n0:=w.heap.size) (n:=n) (c:=gs.size) (np:=np) (D:=D) (S:=S) (dl:=dl) (c':=c') (l':=l') (w₀:=w1)
 case un=>
  intro k _ o ho;obtain⟨r,z,P⟩:=ho;show w1.cell? ⟨w.heap.size+1,o,none⟩=_;simp only[World.cell?,u];exact MS (by omega)
structure UQ(n np:Nat)(D:jB)(S:Nat->Nat)(dl:Nat->Int)(w w1:World):Prop where
 tape:w1.tape=w.tape
 output:w1.output=w.output
 os:Go.ConcM.OsLater w.os w1.os
 kept:∀b,b<w.heap.size->w1.heap[b]?=w.heap[b]?
 size:w.heap.size+5<=w1.heap.size
 tb:∃cs:Array Value,w1.heap[w.heap.size+1]?=some (.cells cs 125)/\cs.size=75
 rows:∀k,k<n->Rows (zL (λ_=>False) w.heap.size n) ⟨0,λ_=>False,Ef k⟩ np (S k) k D (dl k) np w1
 rest:∀o,n*25<=o->o<75->w1.cell? ⟨w.heap.size+1,o,none⟩=some (.int .i64 0)
def abU{n:Nat}{arr:Array Value}{st:Nat->Prop}{gs:Array ai}{w:World}{sl:Option (Nat×Nat)}{t:Trace}{q:Nat->Nat}(I:n<=3)(A:1<=np/\np<=5)(J:∀b,st b->b<w.heap.size)
 (C:∀l,Shun l->l.low w.heap.size/\l.isMemory=true)
 (K:∀c w1,0<c->Ee w (oX w.heap arr) w1->ay (zL Shun w.heap.size n) ⟨0,st,λ_=>False⟩ false (Ta (zL Shun w.heap.size n) c np Ef (JH (zL Shun w.heap.size n) np D S dl Ef) (P8 (zL Shun w.heap.size n) c' l') n ⟨0,st,λ_=>False⟩) (λb=>b=w.heap.size\/b=w.heap.size+2) 0 (m6 (CA.mk arr jf jr) w.heap.size (w.heap.size+1) (w.heap.size+2) (w.heap.size+3) (w.heap.size+4) (c'::l')) w1)
 (L:gs[0]?=some (G (fE (CA.mk arr jf jr)) (c'::l')))
 (M:ab PP t gs q) (O:Past Shun w.heap.size t) (P:∀op∈t,gs.size<=op.g->op.act.touch? = none) :
 ∃(N:Nat)(a:Array ai)(w1:World)(p:Option (Nat×Nat))(t1:Trace)(q1:Nat->Nat),runNT PP N (crowd gs w sl) t=(.next (crowd a w1 p),t1)/\gs.size<=a.size/\
  a[0]?=some (G (c'.finish (.pointer (some ⟨w.heap.size+1,0,none⟩))) l')/\ab PP t1 a q1/\Past (λl=>Shun l\/OZ (zL Shun w.heap.size n) l) w1.heap.size t1/\(∀op∈t1,a.size<=op.g->op.act.touch? = none)/\
  UQ n np D S dl w w1:=by
 have hs:=ZN (Shun:=Shun) (ca:=CA.mk arr jf jr) (cs:=c'::l') (w:=w) (Q:=λB g w'=>B=w.heap.size+3/\g=m6 (CA.mk arr jf jr) w.heap.size (w.heap.size+1) (w.heap.size+2) (w.heap.size+3) (w.heap.size+4) (c'::l')/\Ee w (oX w.heap arr) w')
  (λb hb o R=>by
    have T:b<w.heap.size:=(C _ R).1
    omega) (λw' h=>⟨rfl,rfl,h⟩)
 obtain⟨N,B1,a,g1,w1,p,t1,q1,U,r2,r,V,E,W,X,Y,d⟩:=hs.run gs sl t q L M O P;rw[X]at E;rw[Y]at r;have Z:0<a.size:=(Array.getElem?_eq_some_iff.1 r).1;obtain⟨tr,m⟩:=UP (c':=c') (l':=l') I A.1 J C d r (K a.size w1 Z d) V E W;obtain⟨N2,f,w2,s,t2,F,k1,m2,there⟩:=MI.runs (UO A) JK Qa _ _ a w1 p t1 rfl m;have u:=nL.T8 m2 there;have v:=nL.GA m2 there;have x:=nL.fin m2 there;have H:F.j=n:=m2.wi.late (by rw[there.1];simp) (by rw[there.1];simp);have aqV:f.size=a.size+n:=by rw[m2.size,H];rfl
 have aqW:w1.heap.size=w.heap.size+5:=by rw[d.heap,xV]
 obtain⟨_,g,hg,_,_,Eb⟩:=there;have ZQ:g=G (c'.finish (.pointer (some ⟨w.heap.size+1,0,none⟩))) l':=Eb;rw[ZQ]at hg;obtain⟨cs,y,hcs⟩:=m2.tb;have z:cs.size=75:=hcs;refine⟨N+N2,f,w2,s,t2,F.q,Go.ConcX.runNT_trans U k1,by omega,hg,u,v,λop aB ve=>?_,?_⟩
 ·obtain⟨i,hi⟩:=Array.mem_iff_getElem?.1 aB;refine m2.tri.LY i op hi ?_;rw[H];show a.size+n<=op.g;omega
 ·have YM:Go.ConcM.OsLater w.os w2.os:=by
   have:=m2.os;have e:(xW Shun w.heap.size n a.size np D S dl c' l' w1).w₀.os=w.os:=d.os;rwa[e]at this
  have hmu:w.heap.size+4<w2.heap.size:=m2.oi.ids.2.2.2.2.2.2.2.1;refine⟨m2.tape.trans d.tape,m2.output.trans d.output,YM,λb hb=>(m2.kept b hb).trans ?_,by omega,⟨cs,y,z⟩,λk hk=>?_,λo T h2=>?_⟩
  ·show w1.heap[b]?=_;rw[d.heap,Ay hb]
  ·have:=x k hk (by omega);exact⟨this.put,this.rest⟩
  ·exact m2.un (o / 25) (by omega) o ⟨by omega,by omega,by omega⟩
def MU{n:Nat}{gs:Array ai}{w:World}{sl:Option (Nat×Nat)}{t:Trace}{q:Nat->Nat}(x:0<n)(d:Cf np n D S dl gn w)(y:∀k,k<n->FE np (S k))
 (h:∀l,Shun l->l.low w.heap.size/\l.isMemory=true) (i:∀b∈dR np D,∀a':Addr,a'.block=b->¬Shun (.cell a'))
 (z:gs[0]?=some (G (fE (CA.mk (cA np D) jf jr)) (c'::l')))
 (A:ab PP t gs q) (B:Past Shun w.heap.size t) (C:∀op∈t,gs.size<=op.g->op.act.touch? = none) :
 ∃(N:Nat)(e:Array ai)(w1:World)(E:Option (Nat×Nat))(t1:Trace)(q1:Nat->Nat),runNT PP N (crowd gs w sl) t=(.next (crowd e w1 E),t1)/\gs.size<=e.size/\
  e[0]?=some (G (c'.finish (.pointer (some ⟨w.heap.size+1,0,none⟩))) l')/\ab PP t1 e q1/\Past (λl=>Shun l\/OZ (zL Shun w.heap.size n) l) w1.heap.size t1/\(∀op∈t1,e.size<=op.g->op.act.touch? = none)/\
  UQ n np D S dl w w1:=by
 have f:∀b,b∈dR np D->b<w.heap.size:=λb hb=>(d.blk b hb).1;refine abU (arr:=cA np D) (st:=(·∈dR np D)) d.hn d.MC f h (λc w1 hc a=>?_) z A B C;have H:w1.heap.size=w.heap.size+5:=by rw[a.heap,xV]
 have hold:∀b,b<w.heap.size->w1.heap[b]?=w.heap[b]?:=λb hb=>by rw[a.heap,Ay hb]
 have F:w1.heap[w.heap.size]?=some (.cells (cA np D) 78):=by rw[a.heap];exact oY 0
 have m:w1.heap[w.heap.size+1]?=some (.cells dZ 125):=by rw[a.heap];exact oY 1
 have o:w1.heap[w.heap.size+2]?=some (.cells #[.pointer (some ⟨w.heap.size+1,0,none⟩)] 102):=by rw[a.heap];exact oY 2
 have p:w1.heap[w.heap.size+3]?=some (.cells kP 132):=by rw[a.heap];exact oY 3
 have r:w1.heap[w.heap.size+4]?=some (.cells nc 139):=by rw[a.heap];exact oY 4
 have v:ShAt (zL Shun w.heap.size n) w1 ⟨{},0,0,0,0⟩:=⟨p,r⟩
 have I:=d.hn;exact afy (jf:=jf) (jr:=jr) (X:=zL Shun w.heap.size n) (V:=⟨0,(·∈dR np D),λ_=>False⟩) (M:=λb=>b=w.heap.size\/b=w.heap.size+2) (bc:=w.heap.size) (bt:=w.heap.size+2) (c:=c) (row:=Ef) (c':=c') (l':=l') (w:=w1) x rfl rfl rfl hc d y
  (λk J j s u=>⟨by omega,s,u⟩)
  ⟨rfl,⟨⟨by show w.heap.size+3≠w.heap.size+4;omega,by show w.heap.size+3≠w.heap.size+1;omega,by show w.heap.size+4≠w.heap.size+1;omega⟩,
    λb hb=>by
     have:=f b hb;exact⟨by show b≠w.heap.size+3;omega,by show b≠w.heap.size+4;omega,by show b≠w.heap.size+1;omega⟩,
    λb hb=>by
     have:b=w.heap.size\/b=w.heap.size+2:=hb
     exact⟨by show b≠w.heap.size+3;omega,by show b≠w.heap.size+4;omega,by show b≠w.heap.size+1;omega⟩⟩,
    λb hb a' ha' hs=>by
     rcases hb with hb|hb
     ·exact i b hb a' ha' hs
     ·have s:a'.block<w.heap.size:=(h _ hs).1;have u:b=w.heap.size\/b=w.heap.size+2:=hb;omega,
    λb hb=>by
     rcases hb with hb|hb
     ·have:=f b hb;omega
     ·have u:b=w.heap.size\/b=w.heap.size+2:=hb;omega,
    λb hb=>by
     rcases hb with hb|hb
     ·exact .inl hb
     ·exact .inr hb⟩
  ⟨⟨⟨_,_,v.1⟩,⟨_,_,v.2⟩,dZ,m,by show dZ.size=75;simp[dZ]⟩,λb hb=>hold b (f b hb),F,o⟩
  (λb hb a' ha' hs=>by
    have s:a'.block<w.heap.size:=(h _ hs).1
    omega) (by omega)
def abV{arr:Array Value}{k:Option Addr}{m:Nat}{gs:Array ai}{w:World}{sl:Option (Nat×Nat)}{t:Trace}{q:Nat->Nat}(o:arr[5]?=some (.slice k 0 m))
 (p:∀l,Shun l->l.low w.heap.size/\l.isMemory=true)
 (r:gs[0]?=some (G (fE (CA.mk arr jf jr)) (c'::l')))
 (s:ab PP t gs q) (u:Past Shun w.heap.size t) (v:∀op∈t,gs.size<=op.g->op.act.touch? = none) :
 ∃(N:Nat)(a:Array ai)(w1:World)(x:Option (Nat×Nat))(t1:Trace)(q1:Nat->Nat),runNT PP N (crowd gs w sl) t=(.next (crowd a w1 x),t1)/\gs.size<=a.size/\
  a[0]?=some (G (c'.finish (.pointer (some ⟨w.heap.size+1,0,none⟩))) l')/\ab PP t1 a q1/\Past (λl=>Shun l\/OZ (zL Shun w.heap.size 0) l) w1.heap.size t1/\(∀op∈t1,a.size<=op.g->op.act.touch? = none)/\
  UQ 0 1 Y7 (λ_=>0) (λ_=>0) w w1:=by
 refine abU (np:=1) (n:=0) (arr:=arr) (st:=λ_=>False) (by omega) ⟨by omega,by omega⟩ (λb hb=>hb.elim) p (λc w1 hc d=>?_) r s u v;have y:w1.heap[w.heap.size]?=some (.cells arr 78):=by rw[d.heap];exact oY 0
 have e:w1.heap[w.heap.size+1]?=some (.cells dZ 125):=by rw[d.heap];exact oY 1
 have f:w1.heap[w.heap.size+2]?=some (.cells #[.pointer (some ⟨w.heap.size+1,0,none⟩)] 102):=by rw[d.heap];exact oY 2
 have h:w1.heap[w.heap.size+3]?=some (.cells kP 132):=by rw[d.heap];exact oY 3
 have i:w1.heap[w.heap.size+4]?=some (.cells nc 139):=by rw[d.heap];exact oY 4
 have j:ShAt (zL Shun w.heap.size 0) w1 ⟨{},0,0,0,0⟩:=⟨h,i⟩
 exact agB (X:=zL Shun w.heap.size 0) rfl (by show 0<=3;omega) rfl
  ⟨⟨by show w.heap.size+3≠w.heap.size+4;omega,by show w.heap.size+3≠w.heap.size+1;omega,by show w.heap.size+4≠w.heap.size+1;omega⟩,λb hb=>hb.elim,
    λb hb=>by
     have:b=w.heap.size\/b=w.heap.size+2:=hb
     exact⟨by show b≠w.heap.size+3;omega,by show b≠w.heap.size+4;omega,by show b≠w.heap.size+1;omega⟩⟩
  (.inl rfl) (.inr rfl) ⟨⟨_,_,j.1⟩,⟨_,_,j.2⟩,dZ,e,by show dZ.size=75;simp[dZ]⟩ y f o
end
def Qc:∀(n:Nat)(L:List Value),n<=L.length->∃(f:Nat->Value)(r:List Value),L=(List.range n).map f++r
 |0,L,_=>⟨λ_=>undef,L,by simp⟩
 |n+1,[],h=>by simp at h
 |n+1,x::L,h=>by
  obtain⟨f,r,e⟩:=Qc n L (by simpa using h);refine⟨λi=>if i=0 then x else f (i-1),r,?_⟩;rw[e,List.range_succ_eq_map];simp[Function.comp_def]
def US{a:Array Value}{ca:Array Value}(h:a[0]?=some (.agg ca)):∃f r,Frame.enter PP 51 a .normal=fE ⟨ca,f,r⟩:=by
 obtain⟨l⟩:=a
 cases l with
 |nil=>simp at h
 |cons x L=>
  have b:x=.agg ca:=by simpa using h
  subst b;obtain⟨g,r,e⟩:=Qc 20 (L++List.replicate (21-(L.length+1)) undef) (by simp;omega);refine⟨λi=>g (i-1),r,?_⟩;have c:Tryz.f51.ntmps=21:=by kernel_rfl
  have e1:Frame.enter PP 51 ⟨.agg ca::L⟩ .normal=⟨51,⟨.agg ca::(L++List.replicate (21-(L.length+1)) undef)⟩,[.code Ho],[],.run,.normal,none⟩:=by
   have hf:PP.funcs[51]?=some Tryz.f51:=Tryz.func51;have hb:((some Tryz.f51).bind (·.body)).getD (.refuse "unsupported: a function without a Go body is entered")=Ho:=by kernel_rfl
   unfold Frame.enter;simp only[hf,hb,Option.map_some,Option.getD_some,c];congr 1;apply ae;simp
  rw[e1,e];rfl
end Go.Proofs
namespace Go.Proofs
def s7(np s r:Nat):Nat:=(s+r) % np
def cmV(pn:Nat->Nat->Int)(np s:Nat)(dl:Int):Nat->Int×Int
 |0=>(dl,dl)
 |r+1=>(IntKind.i64.wrap (IntKind.i64.wrap ((cmV pn np s dl r).1+pn (s7 np s r) 7)+pn (s7 np s r) 9),IntKind.i64.wrap (IntKind.i64.wrap ((cmV pn np s dl r).2+pn (s7 np s r) 8)+pn (s7 np s r) 10))
def vsV(pn:Nat->Nat->Int)(np s:Nat)(dl:Int)(r:Nat):Nat->Int
 |0=>(s7 np s r:Nat)
 |1=>(cmV pn np s dl r).1
 |2=>(cmV pn np s dl r).2
 |3=>IntKind.i64.wrap ((cmV pn np s dl r).1+pn (s7 np s r) 7)
 |_=>IntKind.i64.wrap ((cmV pn np s dl r).2+pn (s7 np s r) 8)
def OnT(np G R k r:Nat):Prop:=(k<G/\r<np)\/(k=G/\r<R)
def afB(np s k r o:Nat):Prop:=k*25+s7 np s r*5<=o/\o<k*25+s7 np s r*5+5
structure dc(pn:Nat->Nat->Int)(np:Nat)(S:Nat->Nat)(dl:Nat->Int)(G R:Nat)(cs:Array Value):Prop where
 size:cs.size=75
 put:∀k r j,OnT np G R k r->j<5->cs[k*25+s7 np (S k) r*5+j]?=some (.int .i64 (vsV pn np (S k) (dl k) r j))
 rest:∀o,o<75->(∀k r,OnT np G R k r->¬afB np (S k) k r o)->cs[o]?=some (.int .i64 0)
def aaD{np s r:Nat}(h:0<np):s7 np s r<np:=ar _ h
def ahm{np s r a:Nat}(h:a<r)(i:r<np):s7 np s a≠s7 np s r:=by
 unfold s7;intro e;have j:=aw (s+r) np;have f:=aw (s+a) np;rw[e]at f;have b:np*((s+r) / np)-np*((s+a) / np)=r-a:=by omega
 rw[<-Nat.mul_sub]at b;have c:0<r-a:=by omega
 have g:r-a<np:=by omega
 rw[<-b]at c g;have:(s+r) / np-(s+a) / np=0:=by
  by_cases d:(s+r) / np-(s+a) / np=0
  ·exact d
  ·have:=Nat.le_mul_of_pos_right np (Nat.pos_of_ne_zero d);omega
 rw[this]at c;omega
def ac0(np s p:Nat):Nat:=(p+np-s) % np
def aaG{np s p:Nat}(h:0<np):ac0 np s p<np:=ar _ h
def adS{np s p:Nat}(a:p<np)(hs:s<np):s7 np s (ac0 np s p)=p:=by
 unfold s7 ac0
 rcases aF p s with h|h
 ·rw[aH (show p+np-s<np by omega),show s+(p+np-s)=p+np by omega,aI,aH a]
 ·rw[show p+np-s=(p-s)+np by omega,aI,aH (show p-s<np by omega),show s+(p-s)=p by omega,aH a]
def abc{np s r:Nat}(h:0<np):s7 np s (r+1)=if s7 np s r+1=np then 0 else s7 np s r+1:=by
 unfold s7;have e:(s+(r+1)) % np=((s+r) % np+1) % np:=by rw[show s+(r+1)=(s+r)+1 by omega,aJ];simp[Nat.mod_add_mod,aJ]
 have:=ar (s+r) h;rw[e]
 split
 ·rename_i a;rw[a,Nat.mod_self]
 ·rw[aH (by omega)]
section
variable {pn:Nat->Nat->Int}{np:Nat}{S:Nat->Nat}{dl:Nat->Int}{G R:Nat}{cs cs':Array Value}
def dc.uniq(h:dc pn np S dl G R cs)(k:dc pn np S dl G R cs'):cs=cs':=by
 apply Array.ext_getElem?;intro o
 rcases aF o 75 with a|a
 ·by_cases hc:∃q r,OnT np G R q r/\afB np (S q) q r o
  ·obtain⟨q,r,b,c,f⟩:=hc;have e:o=q*25+s7 np (S q) r*5+(o-(q*25+s7 np (S q) r*5)):=by omega
   rw[e,h.put q r _ b (by omega),k.put q r _ b (by omega)]
  ·have d:∀q r,OnT np G R q r->¬afB np (S q) q r o:=λq r b c=>hc ⟨q,r,b,c⟩;rw[h.rest o a d,k.rest o a d]
 ·rw[ag (by rw[h.size];exact a),ag (by rw[k.size];exact a)]
def dc.int(h:dc pn np S dl G R cs){o:Nat}(c:o<75):∃n,cs[o]?=some (.int .i64 n):=by
 by_cases hc:∃q r,OnT np G R q r/\afB np (S q) q r o
 ·obtain⟨q,r,a,b,d⟩:=hc;have e:o=q*25+s7 np (S q) r*5+(o-(q*25+s7 np (S q) r*5)):=by omega
  exact⟨_,by rw[e,h.put q r _ a (by omega)]⟩
 ·exact⟨0,h.rest o c λq r a b=>hc ⟨q,r,a,b⟩⟩
def dc.zero(a:cs.size=75)(b:∀o,o<75->cs[o]?=some (.int .i64 0)):dc pn np S dl 0 0 cs:=
 ⟨a,λk r j h _=>by rcases h with h|h<;>omega,λo c _=>b o c⟩
def dc.next(h:dc pn np S dl G R cs)(f:R<np)(l:np<=5)(hs:cs'.size=75)(g:∀j,j<5->cs'[G*25+s7 np (S G) R*5+j]?=some (.int .i64 (vsV pn np (S G) (dl G) R j)))
 (b:∀o,(o<G*25+s7 np (S G) R*5\/G*25+s7 np (S G) R*5+5<=o)->cs'[o]?=cs[o]?):dc pn np S dl G (R+1) cs':=by
 have m:=aaD (np:=np) (s:=S G) (r:=R) (by omega);refine⟨hs,λk r j a c=>?_,λo i d=>?_⟩
 ·have n:=aaD (np:=np) (s:=S k) (r:=r) (by omega);by_cases e:k=G/\r=R
  ·obtain⟨rfl,rfl⟩:=e;exact g j c
  ·rw[b _ ?_]
   ·refine h.put k r j ?_ c
    rcases a with a|a
    ·exact .inl a
    ·exact .inr ⟨a.1,by omega⟩
   ·rcases a with a|⟨rfl,a⟩
    ·omega
    ·have:=ahm (s:=S k) (show r<R by omega) f;omega
 ·rw[b o ?_]
  ·refine h.rest o i λk r a=>d k r ?_
   rcases a with a|a
   ·exact .inl a
   ·exact .inr ⟨a.1,by omega⟩
  ·have:=d G R (.inr ⟨rfl,by omega⟩);unfold afB at this;omega
def dc.done(h:dc pn np S dl G np cs):dc pn np S dl (G+1) 0 cs:=by
 have e:∀k r,OnT np (G+1) 0 k r↔OnT np G np k r:=λk r=>by
  unfold OnT;constructor
  ·rintro(⟨c,a⟩|⟨_,a⟩)
   ·rcases aF k G with h|h
    ·exact .inl ⟨h,a⟩
    ·exact .inr ⟨by omega,a⟩
   ·omega
  ·rintro(⟨c,a⟩|⟨c,a⟩)
   ·exact .inl ⟨by omega,a⟩
   ·exact .inl ⟨by omega,a⟩
 exact⟨h.size,λk r j b=>h.put k r j ((e k r).1 b),λo d f=>h.rest o d λk r b=>f k r ((e k r).2 b)⟩
def dc.at{n k p j:Nat}(h:dc pn np S dl n 0 cs)(a:k<n)(b:p<np)(hs:S k<np)(c:j<5):cs[k*25+p*5+j]?=some (.int .i64 (vsV pn np (S k) (dl k) (ac0 np (S k) p) j)):=by
 have:=h.put k (ac0 np (S k) p) j (.inl ⟨a,aaG (by omega)⟩) c;rwa[adS b hs]at this
end
structure h_ where
 l:Int
 p:Int
 b2:Option Addr
 n2:Nat
 c2:Nat
 b3:Option Addr
 n3:Nat
 c3:Nat
 k4:Nat
 o4:Nat
 np:Nat
 c4:Nat
 b5:Option Addr
 k5:Nat
 o5:Nat
 n:Nat
 c5:Nat
 pn:Nat->Nat->Int
 S:Nat->Nat
 dl:Nat->Int
 nm:Nat->ByteArray
 gn:Nat->ByteArray
 lb:Nat->Option Addr
 ll:Nat->Nat
 lc:Nat->Nat
abbrev h_.arr(T:h_):Array Value:=#[.int .i64 T.l,.int .i64 T.p,.slice T.b2 T.n2 T.c2,.slice T.b3 T.n3 T.c3,.slice (some ⟨T.k4,T.o4,none⟩) T.np T.c4,.slice T.b5 T.n T.c5]
def h_.G8(T:h_)(i:Nat):Nat->Value
 |0=>.string (T.nm i)
 |11=>.slice (T.lb i) (T.ll i) (T.lc i)
 |j=>.int .i64 (T.pn i j)
def h_.PM(T:h_)(k:Nat):Nat->Value
 |0=>.string (T.gn k)
 |1=>.int .i64 (T.S k:Int)
 |_=>.int .i64 (T.dl k)
structure h_.In(T:h_)(w:World):Prop where
 lo:2<=T.np/\T.np<=5/\T.n<=3
 h4:T.k4<w.heap.size
 h5:0<T.n->T.b5=some ⟨T.k5,T.o5,none⟩/\T.k5<w.heap.size
 st:∀k,k<T.n->T.S k<T.np
 c4:∀i,i<T.np->∀j,j<12->w.cell? ⟨T.k4,T.o4+i*12+j,none⟩=some (T.G8 i j)
 c5:∀k,k<T.n->∀j,j<3->w.cell? ⟨T.k5,T.o5+k*3+j,none⟩=some (T.PM k j)
open Go.Ph Go.Conc Go.bJ
set_option maxRecDepth 100000
def afD{r:Nat}(b:r<2):j0 2 0 r:=by
 match r,b with
 |0,_|1,_=>exact⟨λD f=>⟨by kernel_rfl,by kernel_rfl⟩,λD O n a gn c f Z e d=>by kernel_rfl,λD O n a gn c f Z=>by kernel_rfl,λD c f=>⟨by kernel_rfl,by kernel_rfl,by kernel_rfl⟩,λD O n a gn c g f Z e d=>by kernel_rfl⟩
def afE{r:Nat}(b:r<2):j0 2 1 r:=by
 match r,b with
 |0,_|1,_=>exact⟨λD f=>⟨by kernel_rfl,by kernel_rfl⟩,λD O n a gn c f Z e d=>by kernel_rfl,λD O n a gn c f Z=>by kernel_rfl,λD c f=>⟨by kernel_rfl,by kernel_rfl,by kernel_rfl⟩,λD O n a gn c g f Z e d=>by kernel_rfl⟩
def ahq{s r:Nat}(hs:s<2)(a:r<2):j0 2 s r:=by
 match s,hs with
 |0,_=>exact afD a
 |1,_=>exact afE a
def akV{s r:Nat}(hs:s<2)(a:r<1):mg 2 s r:=by
 match s,hs,r,a with
 |0,_,0,_|1,_,0,_=>exact⟨λD O n b gn c f Z=>by kernel_rfl⟩
def al2{s:Nat}(hs:s<2):xM 2 s 1:=by
 match s,hs with
 |0,_|1,_=>exact⟨λD O n a gn c b f Z=>⟨by kernel_rfl,by kernel_rfl,by kernel_rfl,by kernel_rfl,by kernel_rfl⟩⟩
def aqx{s:Nat}(hs:s<2):FE 2 s where
 e0 D O n a d:=by kernel_rfl
 b0 D O n:=⟨⟨by kernel_rfl,by kernel_rfl,by kernel_rfl,by kernel_rfl,by kernel_rfl⟩,by kernel_rfl⟩
 h0 D O n:=by kernel_rfl
 e1 D O n a d:=by kernel_rfl
 c1 D O n:=⟨by kernel_rfl,by kernel_rfl,by kernel_rfl⟩
 e2 D O n x a d:=by kernel_rfl
 c2 D O n x:=⟨by kernel_rfl,by kernel_rfl⟩
 e3 D O n c gn x:=by
  match s,hs with
  |0,_|1,_=>intro a d;kernel_rfl
 r0 D O n c gn x:=by
  match s,hs with
  |0,_|1,_=>show _=_;kernel_rfl
 round r b:=ahq hs b
 next r b:=akV hs (by omega)
 last r b:=by
  obtain rfl:r=1:=by omega
  exact al2 hs
def afF{r:Nat}(b:r<3):j0 3 0 r:=by
 match r,b with
 |0,_|1,_|2,_=>exact⟨λD f=>⟨by kernel_rfl,by kernel_rfl⟩,λD O n a gn c f Z e d=>by kernel_rfl,λD O n a gn c f Z=>by kernel_rfl,λD c f=>⟨by kernel_rfl,by kernel_rfl,by kernel_rfl⟩,λD O n a gn c g f Z e d=>by kernel_rfl⟩
def afH{r:Nat}(b:r<3):j0 3 1 r:=by
 match r,b with
 |0,_|1,_|2,_=>exact⟨λD f=>⟨by kernel_rfl,by kernel_rfl⟩,λD O n a gn c f Z e d=>by kernel_rfl,λD O n a gn c f Z=>by kernel_rfl,λD c f=>⟨by kernel_rfl,by kernel_rfl,by kernel_rfl⟩,λD O n a gn c g f Z e d=>by kernel_rfl⟩
def afI{r:Nat}(b:r<3):j0 3 2 r:=by
 match r,b with
 |0,_|1,_|2,_=>exact⟨λD f=>⟨by kernel_rfl,by kernel_rfl⟩,λD O n a gn c f Z e d=>by kernel_rfl,λD O n a gn c f Z=>by kernel_rfl,λD c f=>⟨by kernel_rfl,by kernel_rfl,by kernel_rfl⟩,λD O n a gn c g f Z e d=>by kernel_rfl⟩
def ahr{s r:Nat}(hs:s<3)(a:r<3):j0 3 s r:=by
 match s,hs with
 |0,_=>exact afF a
 |1,_=>exact afH a
 |2,_=>exact afI a
def al3{s r:Nat}(hs:s<3)(a:r<2):mg 3 s r:=by
 match s,hs,r,a with
 |0,_,0,_|0,_,1,_|1,_,0,_|1,_,1,_|2,_,0,_|2,_,1,_=>exact⟨λD O n b gn c f Z=>by kernel_rfl⟩
def al4{s:Nat}(hs:s<3):xM 3 s 2:=by
 match s,hs with
 |0,_|1,_|2,_=>exact⟨λD O n a gn c b f Z=>⟨by kernel_rfl,by kernel_rfl,by kernel_rfl,by kernel_rfl,by kernel_rfl⟩⟩
def aqy{s:Nat}(hs:s<3):FE 3 s where
 e0 D O n a d:=by kernel_rfl
 b0 D O n:=⟨⟨by kernel_rfl,by kernel_rfl,by kernel_rfl,by kernel_rfl,by kernel_rfl⟩,by kernel_rfl⟩
 h0 D O n:=by kernel_rfl
 e1 D O n a d:=by kernel_rfl
 c1 D O n:=⟨by kernel_rfl,by kernel_rfl,by kernel_rfl⟩
 e2 D O n x a d:=by kernel_rfl
 c2 D O n x:=⟨by kernel_rfl,by kernel_rfl⟩
 e3 D O n c gn x:=by
  match s,hs with
  |0,_|1,_|2,_=>intro a d;kernel_rfl
 r0 D O n c gn x:=by
  match s,hs with
  |0,_|1,_|2,_=>show _=_;kernel_rfl
 round r b:=ahr hs b
 next r b:=al3 hs (by omega)
 last r b:=by
  obtain rfl:r=2:=by omega
  exact al4 hs
def afK{r:Nat}(b:r<4):j0 4 0 r:=by
 match r,b with
 |0,_|1,_|2,_|3,_=>exact⟨λD f=>⟨by kernel_rfl,by kernel_rfl⟩,λD O n a gn c f Z e d=>by kernel_rfl,λD O n a gn c f Z=>by kernel_rfl,λD c f=>⟨by kernel_rfl,by kernel_rfl,by kernel_rfl⟩,λD O n a gn c g f Z e d=>by kernel_rfl⟩
def afL{r:Nat}(b:r<4):j0 4 1 r:=by
 match r,b with
 |0,_|1,_|2,_|3,_=>exact⟨λD f=>⟨by kernel_rfl,by kernel_rfl⟩,λD O n a gn c f Z e d=>by kernel_rfl,λD O n a gn c f Z=>by kernel_rfl,λD c f=>⟨by kernel_rfl,by kernel_rfl,by kernel_rfl⟩,λD O n a gn c g f Z e d=>by kernel_rfl⟩
def afM{r:Nat}(b:r<4):j0 4 2 r:=by
 match r,b with
 |0,_|1,_|2,_|3,_=>exact⟨λD f=>⟨by kernel_rfl,by kernel_rfl⟩,λD O n a gn c f Z e d=>by kernel_rfl,λD O n a gn c f Z=>by kernel_rfl,λD c f=>⟨by kernel_rfl,by kernel_rfl,by kernel_rfl⟩,λD O n a gn c g f Z e d=>by kernel_rfl⟩
def afN{r:Nat}(b:r<4):j0 4 3 r:=by
 match r,b with
 |0,_|1,_|2,_|3,_=>exact⟨λD f=>⟨by kernel_rfl,by kernel_rfl⟩,λD O n a gn c f Z e d=>by kernel_rfl,λD O n a gn c f Z=>by kernel_rfl,λD c f=>⟨by kernel_rfl,by kernel_rfl,by kernel_rfl⟩,λD O n a gn c g f Z e d=>by kernel_rfl⟩
def ahs{s r:Nat}(hs:s<4)(a:r<4):j0 4 s r:=by
 match s,hs with
 |0,_=>exact afK a
 |1,_=>exact afL a
 |2,_=>exact afM a
 |3,_=>exact afN a
def al5{s r:Nat}(hs:s<4)(a:r<3):mg 4 s r:=by
 match s,hs,r,a with
 |0,_,0,_|0,_,1,_|0,_,2,_|1,_,0,_|1,_,1,_|1,_,2,_|2,_,0,_|2,_,1,_|2,_,2,_|3,_,0,_|3,_,1,_|3,_,2,_=>exact⟨λD O n b gn c f Z=>by kernel_rfl⟩
def al6{s:Nat}(hs:s<4):xM 4 s 3:=by
 match s,hs with
 |0,_|1,_|2,_|3,_=>exact⟨λD O n a gn c b f Z=>⟨by kernel_rfl,by kernel_rfl,by kernel_rfl,by kernel_rfl,by kernel_rfl⟩⟩
def aqz{s:Nat}(hs:s<4):FE 4 s where
 e0 D O n a d:=by kernel_rfl
 b0 D O n:=⟨⟨by kernel_rfl,by kernel_rfl,by kernel_rfl,by kernel_rfl,by kernel_rfl⟩,by kernel_rfl⟩
 h0 D O n:=by kernel_rfl
 e1 D O n a d:=by kernel_rfl
 c1 D O n:=⟨by kernel_rfl,by kernel_rfl,by kernel_rfl⟩
 e2 D O n x a d:=by kernel_rfl
 c2 D O n x:=⟨by kernel_rfl,by kernel_rfl⟩
 e3 D O n c gn x:=by
  match s,hs with
  |0,_|1,_|2,_|3,_=>intro a d;kernel_rfl
 r0 D O n c gn x:=by
  match s,hs with
  |0,_|1,_|2,_|3,_=>show _=_;kernel_rfl
 round r b:=ahs hs b
 next r b:=al5 hs (by omega)
 last r b:=by
  obtain rfl:r=3:=by omega
  exact al6 hs
def afO{r:Nat}(b:r<5):j0 5 0 r:=by
 match r,b with
 |0,_|1,_|2,_|3,_|4,_=>exact⟨λD f=>⟨by kernel_rfl,by kernel_rfl⟩,λD O n a gn c f Z e d=>by kernel_rfl,λD O n a gn c f Z=>by kernel_rfl,λD c f=>⟨by kernel_rfl,by kernel_rfl,by kernel_rfl⟩,λD O n a gn c g f Z e d=>by kernel_rfl⟩
def afP{r:Nat}(b:r<5):j0 5 1 r:=by
 match r,b with
 |0,_|1,_|2,_|3,_|4,_=>exact⟨λD f=>⟨by kernel_rfl,by kernel_rfl⟩,λD O n a gn c f Z e d=>by kernel_rfl,λD O n a gn c f Z=>by kernel_rfl,λD c f=>⟨by kernel_rfl,by kernel_rfl,by kernel_rfl⟩,λD O n a gn c g f Z e d=>by kernel_rfl⟩
def afS{r:Nat}(b:r<5):j0 5 2 r:=by
 match r,b with
 |0,_|1,_|2,_|3,_|4,_=>exact⟨λD f=>⟨by kernel_rfl,by kernel_rfl⟩,λD O n a gn c f Z e d=>by kernel_rfl,λD O n a gn c f Z=>by kernel_rfl,λD c f=>⟨by kernel_rfl,by kernel_rfl,by kernel_rfl⟩,λD O n a gn c g f Z e d=>by kernel_rfl⟩
def afT{r:Nat}(b:r<5):j0 5 3 r:=by
 match r,b with
 |0,_|1,_|2,_|3,_|4,_=>exact⟨λD f=>⟨by kernel_rfl,by kernel_rfl⟩,λD O n a gn c f Z e d=>by kernel_rfl,λD O n a gn c f Z=>by kernel_rfl,λD c f=>⟨by kernel_rfl,by kernel_rfl,by kernel_rfl⟩,λD O n a gn c g f Z e d=>by kernel_rfl⟩
def afZ{r:Nat}(b:r<5):j0 5 4 r:=by
 match r,b with
 |0,_|1,_|2,_|3,_|4,_=>exact⟨λD f=>⟨by kernel_rfl,by kernel_rfl⟩,λD O n a gn c f Z e d=>by kernel_rfl,λD O n a gn c f Z=>by kernel_rfl,λD c f=>⟨by kernel_rfl,by kernel_rfl,by kernel_rfl⟩,λD O n a gn c g f Z e d=>by kernel_rfl⟩
def aht{s r:Nat}(hs:s<5)(a:r<5):j0 5 s r:=by
 match s,hs with
 |0,_=>exact afO a
 |1,_=>exact afP a
 |2,_=>exact afS a
 |3,_=>exact afT a
 |4,_=>exact afZ a
def al7{s r:Nat}(hs:s<5)(a:r<4):mg 5 s r:=by
 match s,hs,r,a with
 |0,_,0,_|0,_,1,_|0,_,2,_|0,_,3,_|1,_,0,_|1,_,1,_|1,_,2,_|1,_,3,_|2,_,0,_|2,_,1,_|2,_,2,_|2,_,3,_|3,_,0,_|3,_,1,_|3,_,2,_|3,_,3,_|4,_,0,_|4,_,1,_|4,_,2,_|4,_,3,_=>exact⟨λD O n b gn c f Z=>by kernel_rfl⟩
def al8{s:Nat}(hs:s<5):xM 5 s 4:=by
 match s,hs with
 |0,_|1,_|2,_|3,_|4,_=>exact⟨λD O n a gn c b f Z=>⟨by kernel_rfl,by kernel_rfl,by kernel_rfl,by kernel_rfl,by kernel_rfl⟩⟩
def aqA{s:Nat}(hs:s<5):FE 5 s where
 e0 D O n a d:=by kernel_rfl
 b0 D O n:=⟨⟨by kernel_rfl,by kernel_rfl,by kernel_rfl,by kernel_rfl,by kernel_rfl⟩,by kernel_rfl⟩
 h0 D O n:=by kernel_rfl
 e1 D O n a d:=by kernel_rfl
 c1 D O n:=⟨by kernel_rfl,by kernel_rfl,by kernel_rfl⟩
 e2 D O n x a d:=by kernel_rfl
 c2 D O n x:=⟨by kernel_rfl,by kernel_rfl⟩
 e3 D O n c gn x:=by
  match s,hs with
  |0,_|1,_|2,_|3,_|4,_=>intro a d;kernel_rfl
 r0 D O n c gn x:=by
  match s,hs with
  |0,_|1,_|2,_|3,_|4,_=>show _=_;kernel_rfl
 round r b:=aht hs b
 next r b:=al7 hs (by omega)
 last r b:=by
  obtain rfl:r=4:=by omega
  exact al8 hs
end Go.Proofs
