/- Part of the proof of FieldFlat and FieldMarshals. -/
import Derived.Test.YtmkjeaacgibnoaaGreatY20
set_option linter.all false
open Go.Conc renaming mem_of_getElem?->aa,Leavers->ab
open Array renaming getElem?_push_lt->ac,getElem?_eq_getElem->ad,ext'->ae,getElem?_setIfInBounds_self_of_lt->ag
open Go renaming Goroutine->ai,Tables->ao,FuncId->aq,TypeId->ar,Program->aw,execOp->aF,Operand->aH,eqGuard->aI,run_underlying->aJ,TypeDesc->aL,TypeInfo->aP,sizeOf->aT,typeInfo->a5,loadCellsFrom->a6,loadVar->a7,zeroValue->a8
open Option.some renaming inj->a9
open Nat renaming not_lt_zero->ba
open Go.Program renaming mk->bb
open Go.Sem renaming runT_fst->bd,run_bind->bg
open ByteArray renaming empty->bi
open Go.Builtin renaming len_->bj
open Go.Instr renaming field->bl,build->bm,fill->bo
open List renaming range->bp,range_succ_eq_map->bq,getElem?_toArray->br,getElem?_append_left->bs,replicate->bu,range'->bv
open Go.Result renaming andThen->bw,ok->bx
open Go.Frame renaming finish->bA,enter->bC
open Option renaming bind_some->bL,map_some->bM,getD_some->bR
open Go.Proofs.Tryz renaming f98->bT,func98->bX,progTables->b1
namespace Go.Ph
open Go.Conc Go.ConcN
def TI.ZO{Shun Sh:Loc->Prop}{c:Nat}{t:Trace}{B:Nat}(h:Past Shun B t)(n:∀l,Sh l->l.isMemory=true/\¬l.low B)(Own o:Nat->Loc->Prop)(hg:∀op∈t,c<=op.g->op.act.touch? = none):TI Shun Sh Own o c 0 t:=by
 have p:∀(i:Nat)(op:MemOp)(x:Touch),t[i]?=some op->op.act.touch? = some x->¬Sh x.loc:=by
  intro i op x hi d hs;obtain⟨f,hl⟩:=n _ hs;refine hl ?_;have:=h.seen op (aa hi);generalize op.act=act at d this
  cases act with
  |access e=>cases e.sync<;>(simp[MemAct.touch?]at d;subst d;exact this)
  |mark m=>cases m<;>simp[MemAct.touch?]at d<;>(subst d;exact this)
  |_=>simp[MemAct.touch?]at d
 refine⟨h.clean,λi a b _ f=>(h.known i a b f).imp id (·.2),λi op x hi d hs=>absurd hs (p i op x hi d),λk _ _=>by omega,λk _ _=>by omega,λl f _ hs _ i a b e=>?_,λl f _ hs _ i a b e _=>?_,
  λi op a hi _ _ b f=>h.known i a (by rw[touchAt_of hi];exact b) f,λi g hi q _ hc=>h.over i g hi q hc,λi op a hi j b=>?_,λi op hi j=>hg op (aa hi) j⟩
 ·rcases h.known i a b (by rw[e];exact f) with k|⟨k,_⟩
  ·exact k
  ·exact absurd (e▸k) hs
 ·rcases h.known i a b (by rw[e];exact f) with k|⟨k,_⟩
  ·exact k
  ·exact absurd (e▸k) hs
 ·rw[hg op (aa hi) j]at b;cases b
end Go.Ph
namespace Go.Proofs
open Go.Ph Go.Conc Go.ConcN Go.bJ
set_option maxRecDepth 100000
section
variable {h:Array Obj}{ca:Array Value}
def xV:(oX h ca).size=h.size+5:=by simp[oX]
def Ay{b:Nat}(hb:b<h.size):(oX h ca)[b]?=h[b]?:=by
 unfold oX;rw[ac (by simp;omega),<-ad,ac (by simp;omega),<-ad,ac (by simp;omega),<-ad,ac (by simp;omega),<-ad,ac hb,<-ad]
def oY(k:Nat):(oX h ca)[h.size+k]?=(#[.cells ca 121,.cells dZ 183,.cells #[.pointer (some ⟨h.size+1,0,none⟩)] 134,.cells kP 190,.cells nc 197]:Array Obj)[k]?:=by
 have e:oX h ca=h ++ #[.cells ca 121,.cells dZ 183,.cells #[.pointer (some ⟨h.size+1,0,none⟩)] 134,.cells kP 190,.cells nc 197]:=by
  apply ae;simp[oX]
 rw[e,Array.getElem?_append_right (by omega)];congr 1;omega
end
noncomputable def zL(Shun:Loc->Prop)(n0:Nat):Fix:={ P:=PP,tM:=190,tW:=197,tT:=183,Mu:=n0+3,Wg:=n0+4,Tb:=n0+1,size:=75,n:=2,Shun }
def Ef(k o:Nat):Prop:=k<3/\k*25<=o/\o<k*25+25
noncomputable def xW(Shun:Loc->Prop)(n0 c np:Nat)(D:jB)(S:Nat->Nat)(dl:Nat->Int)(c':Frame)(l':List Frame)(w₀:World):CB:=
 { zL Shun n0 with c,np,row:=Ef,Fin:=JH (zL Shun n0) np D S dl Ef,Post:=P8 (zL Shun n0) c' l',sE:=n0,w₀ }
noncomputable def ZP(n0 np:Nat)(D:jB)(tr:Tree)(q:Nat->Nat):Gh where
 j:=0
 th:=λ_=>{ pc:=.l0,r:=np }
 wp:=λ_=>.mu
 mp:=.add
 V:=λ_=>⟨0,(·∈dR np D),λ_=>False⟩
 M:=λ_ b=>b=n0\/b=n0+2
 tr:=λ_=>tr
 q:=q
 fu:=λ_=>1000
 s:=⟨{},0,0,0,0⟩
def akp(n np:Nat)(k:1<=np):cD.Inv n ⟨λ_=>{ pc:=.l0,r:=np },{},0⟩:=by
 have z:∀(f:cD.Th->Nat),f { pc:=.l0,r:=np }=0->sumTo n (λi=>f ((λ_=>({ pc:=.l0,r:=np }:cD.Th)) i))=0:=by
  intro f hf;show sumTo n (λ_=>f { pc:=.l0,r:=np })=0;rw[hf]
  induction n with
  |zero=>rfl
  |succ n a=>simp[sumTo,a]
 have b:=z cD.fh rfl;have c:=z cD.fq rfl;have d:=z cD.fk rfl;have e:=z cD.fa rfl;have g:=z cD.fr rfl;have j:=z cD.fw rfl;refine⟨λi _=>⟨?_,?_,?_,?_,?_,?_,?_,?_,?_,?_,?_⟩,?_,?_,?_,?_,?_⟩
 all_goals first
  |(simp;done)
  |(simp;omega)
  |(simp only[b];simp;done)
  |(simp only[j,g,d,e,c];simp;done)
  |skip
def aey{Shun:Loc->Prop}{n0 c np:Nat}{D:jB}{S:Nat->Nat}{dl:Nat->Int}{c':Frame}{l':List Frame}{w₀:World}{tr:Tree}{q:Nat->Nat}:vK (xW Shun n0 c np D S dl c' l' w₀) (ZP n0 np D tr q)=120:=rfl
def UO{Shun:Loc->Prop}{n0 c np:Nat}{D:jB}{S:Nat->Nat}{dl:Nat->Int}{c':Frame}{l':List Frame}{w₀:World}(f:1<=np/\np<=5):nG (xW Shun n0 c np D S dl c' l' w₀):=by
 intro k w w' h hf a;have b:=hf a;refine⟨λd g j i=>?_,λj e l=>?_⟩
 ·refine(h _ ⟨a,by omega,?_⟩).trans (b.put d g j i);have:=oW (s:=S k) f.1 (r:=d);omega
 ·exact(h j e).trans (b.rest j e l)
def JK{Shun:Loc->Prop}{n0 c np:Nat}{D:jB}{S:Nat->Nat}{dl:Nat->Int}{c':Frame}{l':List Frame}{w₀:World}:Jn (xW Shun n0 c np D S dl c' l' w₀):=by
 intro k k' o a h b;obtain⟨_,d,e⟩:=h;obtain⟨_,f,g⟩:=b;have:k=k':=by omega
 exact a this
def Qa{Shun:Loc->Prop}{n0 c np:Nat}{D:jB}{S:Nat->Nat}{dl:Nat->Int}{c':Frame}{l':List Frame}{w₀:World}:GL (xW Shun n0 c np D S dl c' l' w₀):=λ_ _ _ _ h=>h
def MS{o:Nat}(h:o<75):dZ[o]?=some (.int .i64 0):=by
 unfold dZ;rw[ad (by simpa using h)];simp
section
variable {jf:Nat->Value}{jr:List Value}{Shun:Loc->Prop}{np:Nat}{D:jB}{S:Nat->Nat}{dl:Nat->Int}{gn:Nat->ByteArray}{c':Frame}{l':List Frame}
def UP{gs:Array ai}{w w1:World}{t:Trace}{q:Nat->Nat}(x:Cf np 2 D S dl gn w)(P:FE np (S 0))(Q:FE np (S 1))
 (y:∀l,Shun l->l.low w.heap.size/\l.isMemory=true) (z:∀b∈dR np D,∀a':Addr,a'.block=b->¬Shun (.cell a'))
 (n:Ee w (oX w.heap (cA np D)) w1) (J:gs[0]?=some (m6 (CA.mk (cA np D) jf jr) w.heap.size (w.heap.size+1) (w.heap.size+2) (w.heap.size+3) (w.heap.size+4) (c'::l')))
 (K:ab PP t gs q) (u:Past Shun (w.heap.size+3) t) (R:∀op∈t,gs.size<=op.g->op.act.touch? = none) :
 ∃tr,MI (xW Shun w.heap.size gs.size np D S dl c' l' w1) (ZP w.heap.size np D tr q) gs w1 t:=by
 have L:0<gs.size:=(Array.getElem?_eq_some_iff.1 J).1;have fW:w1.heap.size=w.heap.size+5:=by rw[n.heap,xV]
 have hold:∀b,b<w.heap.size->w1.heap[b]?=w.heap[b]?:=λb hb=>by rw[n.heap,Ay hb]
 have T:w1.heap[w.heap.size]?=some (.cells (cA np D) 121):=by rw[n.heap];exact oY 0
 have p:w1.heap[w.heap.size+1]?=some (.cells dZ 183):=by rw[n.heap];exact oY 1
 have A:w1.heap[w.heap.size+2]?=some (.cells #[.pointer (some ⟨w.heap.size+1,0,none⟩)] 134):=by rw[n.heap];exact oY 2
 have B:w1.heap[w.heap.size+3]?=some (.cells kP 190):=by rw[n.heap];exact oY 3
 have C:w1.heap[w.heap.size+4]?=some (.cells nc 197):=by rw[n.heap];exact oY 4
 have r:∀b,b∈dR np D->b<w.heap.size:=λb hb=>(x.blk b hb).1;have E:ShAt (zL Shun w.heap.size) w1 ⟨{},0,0,0,0⟩:=⟨B,C⟩
 have U:=Hs (jf:=jf) (jr:=jr) (X:=zL Shun w.heap.size) (V:=⟨0,(·∈dR np D),λ_=>False⟩) (M:=λb=>b=w.heap.size\/b=w.heap.size+2) (bc:=w.heap.size) (bt:=w.heap.size+2) (c:=gs.size) (row:=Ef) (c':=c') (l':=l') (w:=w1) rfl rfl rfl L x P Q
  (λk e j f m=>⟨by omega,f,m⟩)
  ⟨rfl,⟨⟨by show w.heap.size+3≠w.heap.size+4;omega,by show w.heap.size+3≠w.heap.size+1;omega,by show w.heap.size+4≠w.heap.size+1;omega⟩,
    λb hb=>by
     have:=r b hb;exact⟨by show b≠w.heap.size+3;omega,by show b≠w.heap.size+4;omega,by show b≠w.heap.size+1;omega⟩,
    λb hb=>by
     have:b=w.heap.size\/b=w.heap.size+2:=hb
     exact⟨by show b≠w.heap.size+3;omega,by show b≠w.heap.size+4;omega,by show b≠w.heap.size+1;omega⟩⟩,
    λb hb a' ha' hs=>by
     rcases hb with hb|hb
     ·exact z b hb a' ha' hs
     ·have f:a'.block<w.heap.size:=(y _ hs).1;have m:b=w.heap.size\/b=w.heap.size+2:=hb;omega,
    λb hb=>by
     rcases hb with hb|hb
     ·have:=r b hb;omega
     ·have m:b=w.heap.size\/b=w.heap.size+2:=hb;omega,
    λb hb=>by
     rcases hb with hb|hb
     ·exact .inl hb
     ·exact .inr hb⟩
  ⟨⟨⟨_,_,E.1⟩,⟨_,_,E.2⟩,dZ,p,by show dZ.size=75;simp[dZ]⟩,λb hb=>hold b (r b hb),T,A⟩
  (λb hb a' ha' hs=>by
    have f:a'.block<w.heap.size:=(y _ hs).1
    omega) (by omega)
 obtain⟨tr,F⟩:=U;obtain⟨_,_,W⟩:=aes (CA.mk (cA np D) jf jr) w.heap.size (w.heap.size+1) (w.heap.size+2) (w.heap.size+3) (w.heap.size+4) (c'::l');refine⟨tr,?_⟩;have z0:∀a,a<=(ZP w.heap.size np D tr q).j->a=0:=λa d=>Nat.le_zero.1 d;constructor
 case cpos=>exact L
 case size=>rfl
 case sit=>
  intro a d g hg;obtain rfl:=z0 a d;have:g=m6 (CA.mk (cA np D) jf jr) w.heap.size (w.heap.size+1) (w.heap.size+2) (w.heap.size+3) (w.heap.size+4) (c'::l'):=by
   have N:gs[0]?=some g:=hg;rw[J]at N;exact(a9 N).symm
  subst this;refine .run (λh=>h) W ?_;have hd:Deaf t (gid (xW Shun w.heap.size gs.size np D S dl c' l' w1) 0)=0:=u.hears;rw[hd];exact F
 case old=>exact λi g f _ O=>K.old i g f O
 case above=>exact K.above
 case sh=>exact E
 case tb=>exact⟨dZ,p,by show dZ.size=75;simp[dZ]⟩
 case mun=>exact akp 2 np x.MC.1
 case fresh=>exact λ_ _ _=>rfl
 case out=>exact λk e=>absurd e (ba _)
 case wi=>
  refine⟨rfl,λ_=>by show 0<2;omega,λh=>absurd rfl h,Nat.zero_le _,λ_=>⟨rfl,rfl,rfl,rfl⟩,(λh=>by cases h),(λh=>by rcases h with h|h|h<;>cases h),(λv h=>by cases h)⟩
 case fuel=>exact λk e=>absurd e (ba _)
 case fuel0=>rw[aey];show 120+1<=1000;omega
 case oi=>
  constructor
  case ap=>
   intro a d b hb
   rcases hb with hb|hb
   ·have m:b=w.heap.size\/b=w.heap.size+2:=hb;exact⟨by omega,by show b≠w.heap.size+3;omega,by show b≠w.heap.size+4;omega,by show b≠w.heap.size+1;omega⟩
   ·have:=r b hb;exact⟨by omega,by show b≠w.heap.size+3;omega,by show b≠w.heap.size+4;omega,by show b≠w.heap.size+1;omega⟩
  case dj=>exact λa a' d ha' H=>absurd ((z0 a d).trans (z0 a' ha').symm) H
  case self=>
   intro a d b hb hs;have m:b=w.heap.size\/b=w.heap.size+2:=hb;have:=r b hs;omega
  case rows=>exact λa a' d ha' H=>absurd ((z0 a d).trans (z0 a' ha').symm) H
  case base=>
   intro a d b hb;have m:b=w.heap.size\/b=w.heap.size+2:=hb;show w.heap.size<=b;omega
  case num=>intro a d;obtain rfl:=z0 a d;rfl
  case ids=>
   show w.heap.size+3≠w.heap.size+4/\w.heap.size+3≠w.heap.size+1/\w.heap.size+4≠w.heap.size+1/\w.heap.size<=w.heap.size+3/\w.heap.size<=w.heap.size+4/\w.heap.size<=w.heap.size+1/\w.heap.size+3<w1.heap.size/\w.heap.size+4<w1.heap.size/\w.heap.size+1<w1.heap.size;omega
  case main=>rfl
  case rowV=>exact λk e=>absurd e (ba _)
 case shun=>exact y
 case tri=>
  refine TI.ZO u (λl hl=>?_) _ _ R;obtain⟨a,rfl,d⟩:=hl;refine⟨rfl,λY=>?_⟩;have f:a.block<w.heap.size+3:=Y;have m:a.block=w.heap.size+3\/a.block=w.heap.size+4:=d;omega
 case rel=>exact λk e=>absurd e (ba _)
 case norel=>
  intro i hi;obtain⟨op,I,Z⟩:∃op,t[i]?=some op/\op.act=.mark (.release (Go.ConcR.stA (w.heap.size+4))):=by
   unfold Trace.act? at hi
   cases s:t[i]? with
   |none=>rw[s]at hi;cases hi
   |some op=>rw[s]at hi;exact⟨op,rfl,a9 hi⟩
  have:=u.seen op (aa I);rw[Z]at this;have f:w.heap.size+4<w.heap.size+3:=this;omega
 case low=>exact λop I=>MemAct.low_mono (by omega) (u.seen op I)
 case fin=>exact λk e=>absurd e (ba _)
 case acq=>exact λh=>by cases h
 case tape=>rfl
 case output=>rfl
 case os=>exact .refl _
 case kept=>exact λ_ _=>rfl
 case rowok=>exact JK (Shun:=Shun) (n0:=w.heap.size) (c:=gs.size) (np:=np) (D:=D) (S:=S) (dl:=dl) (c':=c') (l':=l') (w₀:=w1)
 case un=>
  intro k _ o ho;obtain⟨f,m,O⟩:=ho;show w1.cell? ⟨w.heap.size+1,o,none⟩=_;simp only[World.cell?,p];exact MS (by omega)
structure UQ(np:Nat)(D:jB)(S:Nat->Nat)(dl:Nat->Int)(w w1:World):Prop where
 tape:w1.tape=w.tape
 output:w1.output=w.output
 os:Go.ConcM.OsLater w.os w1.os
 kept:∀b,b<w.heap.size->w1.heap[b]?=w.heap[b]?
 size:w.heap.size+5<=w1.heap.size
 tb:∃cs:Array Value,w1.heap[w.heap.size+1]?=some (.cells cs 183)/\cs.size=75
 rows:∀k,k<2->Rows (zL (λ_=>False) w.heap.size) ⟨0,λ_=>False,Ef k⟩ np (S k) k D (dl k) np w1
 rest:∀o,50<=o->o<75->w1.cell? ⟨w.heap.size+1,o,none⟩=some (.int .i64 0)
def MU{gs:Array ai}{w:World}{sl:Option (Nat×Nat)}{t:Trace}{q:Nat->Nat}(x:Cf np 2 D S dl gn w)(F:FE np (S 0))(H:FE np (S 1))
 (y:∀l,Shun l->l.low w.heap.size/\l.isMemory=true) (f:∀b∈dR np D,∀a':Addr,a'.block=b->¬Shun (.cell a'))
 (I:gs[0]?=some (G (fE (CA.mk (cA np D) jf jr)) (c'::l')))
 (J:ab PP t gs q) (K:Past Shun w.heap.size t) (L:∀op∈t,gs.size<=op.g->op.act.touch? = none) :
 ∃(N:Nat)(a:Array ai)(w1:World)(n:Option (Nat×Nat))(t1:Trace)(q1:Nat->Nat),runNT PP N (crowd gs w sl) t=(.next (crowd a w1 n),t1)/\gs.size<=a.size/\
  a[0]?=some (G (c'.finish (.pointer (some ⟨w.heap.size+1,0,none⟩))) l')/\ab PP t1 a q1/\Past (λl=>Shun l\/OZ (zL Shun w.heap.size) l) w1.heap.size t1/\(∀op∈t1,a.size<=op.g->op.act.touch? = none)/\
  UQ np D S dl w w1:=by
 have hs:=ZN (Shun:=Shun) (ca:=CA.mk (cA np D) jf jr) (cs:=c'::l') (w:=w) (Q:=λB g w'=>B=w.heap.size+3/\g=m6 (CA.mk (cA np D) jf jr) w.heap.size (w.heap.size+1) (w.heap.size+2) (w.heap.size+3) (w.heap.size+4) (c'::l')/\Ee w (oX w.heap (cA np D)) w')
  (λb hb o M=>by
    have O:b<w.heap.size:=(y _ M).1
    omega) (λw' h=>⟨rfl,rfl,h⟩)
 obtain⟨N,B1,a,g1,w1,n,t1,q1,P,r2,z,R,A,T,U,V,c⟩:=hs.run gs sl t q I J K L;rw[U]at A;rw[V]at z;obtain⟨tr,m⟩:=UP (c':=c') (l':=l') x F H y f c z R A T;obtain⟨W,d,w2,p,t2,C,k1,m2,there⟩:=MI.runs (UO x.MC) JK Qa _ _ a w1 n t1 rfl m;have hL2:=nL.T8 m2 there;have r:=nL.GA m2 there;have s:=nL.fin m2 there;have E:C.j=2:=m2.wi.late (by rw[there.1];simp) (by rw[there.1];simp);have X:d.size=a.size+2:=by rw[m2.size,E];rfl
 have Y:w1.heap.size=w.heap.size+5:=by rw[c.heap,xV]
 obtain⟨_,g,hg,_,_,Z⟩:=there;have ZQ:g=G (c'.finish (.pointer (some ⟨w.heap.size+1,0,none⟩))) l':=Z;rw[ZQ]at hg;obtain⟨cs,u,hcs⟩:=m2.tb;have v:cs.size=75:=hcs;refine⟨N+W,d,w2,p,t2,C.q,Go.ConcX.runNT_trans P k1,by omega,hg,hL2,r,λop aB ve=>?_,?_⟩
 ·obtain⟨i,hi⟩:=Array.mem_iff_getElem?.1 aB;refine m2.tri.LY i op hi ?_;rw[E];show a.size+2<=op.g;omega
 ·have YM:Go.ConcM.OsLater w.os w2.os:=by
   have:=m2.os;have e:(xW Shun w.heap.size a.size np D S dl c' l' w1).w₀.os=w.os:=c.os;rwa[e]at this
  have hmu:w.heap.size+4<w2.heap.size:=m2.oi.ids.2.2.2.2.2.2.2.1;refine⟨m2.tape.trans c.tape,m2.output.trans c.output,YM,λb hb=>(m2.kept b hb).trans ?_,by omega,⟨cs,u,v⟩,λk hk=>?_,λo O h2=>?_⟩
  ·show w1.heap[b]?=_;rw[c.heap,Ay hb]
  ·have:=s k hk (by omega);exact⟨this.put,this.rest⟩
  ·exact m2.un 2 (by omega) o ⟨by omega,by omega,by omega⟩
end
end Go.Proofs
namespace Go.bJ
open Go.Conc Go.Ph
section
variable {T:ao}{fB:Array Func}{F:aq->Bool}{Z:ar->Bool}{f:aq}{R:Value->World->Prop}{g0 g:ai}{w0 w:World}
structure Way(T:ao)(fB:Array Func)(F:aq->Bool)(Z:ar->Bool)(f:aq)(R:Value->World->Prop)(g0:ai)(w0:World)(g:ai)(w:World):Prop where
 term:Term ⟨T,fB⟩ (lQ ⟨T,fB⟩ f R) g w
 inv:iE T fB F Z g w
 chain:∃n,cy ⟨T,fB⟩ n g0 w0 g w
def Way.next(fit:Fits T fB fB F (λ_:aq=>false) Z)(h:Way T fB F Z f R g0 w0 g w)(hc:2<=g.callers.length):∃b w1 es,stepG (bb T fB) true g w=.go b w1 es/\Way T fB F Z f R g0 w0 b w1:=by
 obtain⟨c,hi,n,d⟩:=h
 cases c with
 |done i=>
  have:=i.1;rw[this]at hc;simp at hc
 |step j k hs l=>
  obtain⟨es,e⟩:=hs w.tape w.drawn;have a:stepG (bb T fB) true g w=.go (j w.tape w.drawn) (k w.tape w.drawn) es:=e;refine⟨_,_,es,a,l _ _,hi.step fit (λm=>?_) a,n+1,.succ d a⟩;have:=m.2.2;rw[this]at hc;simp at hc
def Qb:Halt->Prop
 |.stuck _=>True
 |.unsupported (.initOrder _)=>False
 |.unsupported _=>True
 |_=>False
def Eg{P:aw}{mn:Bool}{o:Oper}{h:Halt}{w':World}(a:bF g=some o)(b:(aF g.frame.eval o).run P w=.halt h w')(hb:Qb h):∃e w1 es,stepG P mn g w=.ended e w1 es:=by
 rw[lV a];obtain⟨fn,tmps,ops,i,c,k,defers,kind,d,cs,rfl,j,l,m,n⟩:=gF a
 cases h with
 |stuck s=>exact⟨_,_,_,by simp only[stepG.apply,if_true,bd,b,GStep.after];rfl⟩
 |unsupported u=>
  cases u with
  |initOrder _=>exact hb.elim
  |_=>exact⟨_,_,_,by simp only[stepG.apply,if_true,bd,b,GStep.after];rfl⟩
 |_=>exact hb.elim
def Way.val(fit:Fits T fB fB F (λ_:aq=>false) Z){o:Oper}{s:Sem Value}(h:Way T fB F Z f R g0 w0 g w)(hc:2<=g.callers.length)(c:bF g=some o)(e:aF g.frame.eval o=(do pure (.value (<-s)):Sem Next))(hs:(∃v w',s.run (bb T fB) w=.ok v w')\/∃a w',s.run (bb T fB) w=.halt a w'/\Qb a) :
 ∃v w',s.run (bb T fB) w=.ok v w'/\Way T fB F Z f R g0 w0 (fin g v) w':=by
 obtain⟨j,w1,es,e1,d⟩:=h.next fit hc
 rcases hs with⟨v,w',hv⟩|⟨a,w',i,hb⟩
 ·have b:(aF g.frame.eval o).run (bb T fB) w=.ok (.value v) w':=by rw[e];simp[hv]
  have:=dF (P:=bb T fB) (mn:=true) (v:=v) (w':=w') c b;rw[this]at e1;cases e1;exact⟨v,_,hv,d⟩
 ·have b:(aF g.frame.eval o).run (bb T fB) w=.halt a w':=by rw[e];simp[i]
  obtain⟨x,w2,l,k⟩:=Eg (P:=bb T fB) (mn:=true) (w:=w) c b hb;rw[k]at e1;cases e1
end
section
variable {T:ao}{fB:Array Func}{F:aq->Bool}{Z:ar->Bool}{f:aq}{R:Value->World->Prop}{g0 g:ai}{w0 w:World}{ty t:ar}{x y:aH}{o:Oper}
def sS{b:Type}:Result b->Prop
 |.halt a _=>Qb a
 |.ok _ _=>False
def sS.ex{b:Type}{r:Result b}(h:sS r):∃a w',r=.halt a w'/\Qb a:=by
 cases r with
 |halt a w=>exact⟨a,w,rfl,h⟩
 |ok a w=>exact h.elim
def Way.go(fit:Fits T fB fB F (λ_:aq=>false) Z)(h:Way T fB F Z f R g0 w0 g w)(hc:2<=g.callers.length){a:ai}{w1:World}{es:Array Event}(e:stepG (bb T fB) true g w=.go a w1 es):Way T fB F Z f R g0 w0 a w1:=by
 obtain⟨d,w2,i,b,c⟩:=h.next fit hc;rw[e]at b;cases b;exact c
def oZ{ev:aH->Value}{op:BinOp}{u:ar}(a:o.op=.binOp op ty x y u):aF ev o=(do pure (.value (<-(do aI op ty x y (ev x) (ev y);binOp op ty (ev x) (ev y)))):Sem Next):=by
 unfold aF;simp only[a]
def Way.int(fit:Fits T fB fB F (λ_:aq=>false) Z)(h:Way T fB F Z f R g0 w0 g w)(hc:2<=g.callers.length){u:ar}(c:bF g=some o)(m:o.op=.binOp .xor ty x y u)(hy:g.frame.eval y=.int .i64 0) :
 ∃n v,g.frame.eval x=.int .i64 n/\Way T fB F Z f R g0 w0 (fin g v) w:=by
 have e:=oZ (ev:=g.frame.eval) m;rw[hy]at e;have key:(∃n v,g.frame.eval x=.int .i64 n/\((do aI .xor ty x y (g.frame.eval x) (.int .i64 0);binOp .xor ty (g.frame.eval x) (.int .i64 0)):Sem Value).run (bb T fB) w=.ok v w)\/
  sS (((do aI .xor ty x y (g.frame.eval x) (.int .i64 0);binOp .xor ty (g.frame.eval x) (.int .i64 0)):Sem Value).run (bb T fB) w):=by
  cases g.frame.eval x with
  |int k n=>
   by_cases d:k=.i64
   ·subst d;exact .inl ⟨n,_,rfl,by simp[aI,binOp,Op.intBits];rfl⟩
   ·exact .inr (by simp[aI,binOp,d,sS,Qb])
  |_=>exact .inr (by simp[aI,binOp,sS,Qb])
 rcases key with⟨n,v,p,i⟩|j
 ·obtain⟨v',w',b,l⟩:=h.val fit hc c e (.inl ⟨_,_,i⟩);rw[i]at b;cases b;exact⟨n,v,p,l⟩
 ·obtain⟨v',w',b,l⟩:=h.val fit hc c e (.inr j.ex);obtain⟨a,r,q,_⟩:=j.ex;rw[q]at b;cases b
def Way.str(fit:Fits T fB fB F (λ_:aq=>false) Z)(h:Way T fB F Z f R g0 w0 g w)(hc:2<=g.callers.length){u:ar}(c:bF g=some o)(l:o.op=.binOp .add ty x y u)(hy:g.frame.eval y=.string bi) :
 ∃n v,g.frame.eval x=.string n/\Way T fB F Z f R g0 w0 (fin g v) w:=by
 have e:=oZ (ev:=g.frame.eval) l;rw[hy]at e;have key:(∃n v,g.frame.eval x=.string n/\((do aI .add ty x y (g.frame.eval x) (.string bi);binOp .add ty (g.frame.eval x) (.string bi)):Sem Value).run (bb T fB) w=.ok v w)\/
  sS (((do aI .add ty x y (g.frame.eval x) (.string bi);binOp .add ty (g.frame.eval x) (.string bi)):Sem Value).run (bb T fB) w):=by
  cases g.frame.eval x with
  |string n=>
   by_cases d:((n.size+ByteArray.empty.size:Nat):Int) > IntKind.i64.max
   ·exact .inr (by simp only[aI,binOp,Op.stringOp,if_pos d];exact trivial)
   ·exact .inl ⟨n,_,rfl,by simp only[aI,binOp,Op.stringOp,if_neg d];rfl⟩
  |_=>exact .inr (by simp[aI,binOp,sS,Qb])
 rcases key with⟨n,v,m,i⟩|j
 ·obtain⟨v',w',b,k⟩:=h.val fit hc c e (.inl ⟨_,_,i⟩);rw[i]at b;cases b;exact⟨n,v,m,k⟩
 ·obtain⟨v',w',b,k⟩:=h.val fit hc c e (.inr j.ex);obtain⟨a,q,p,_⟩:=j.ex;rw[p]at b;cases b
def Way.len(fit:Fits T fB fB F (λ_:aq=>false) Z)(h:Way T fB F Z f R g0 w0 g w)(hc:2<=g.callers.length){p:ar}(i:bF g=some o)(q:o.op=.call { callee:=.builtin .len,args:=#[x],argTypes:=#[t] })(j:(bb T fB).underlying t=some (.slice p)) :
 ∃b n c,g.frame.eval x=.slice b n c/\Way T fB F Z f R g0 w0 (fin g (.int .i64 (n:Int))) w:=by
 have e:aF g.frame.eval o=(do pure (.value (<-bj #[t] o.type #[g.frame.eval x])):Sem Next):=by
  unfold aF;simp[q,resolve,invoke,builtin]
 have key:(∃b n c,g.frame.eval x=.slice b n c/\(bj #[t] o.type #[g.frame.eval x]).run (bb T fB) w=.ok (.int .i64 (n:Int)) w)\/sS ((bj #[t] o.type #[g.frame.eval x]).run (bb T fB) w):=by
  cases g.frame.eval x with
  |slice b n c=>exact .inl ⟨b,n,c,rfl,by simp[bj,aJ j,goInt]⟩
  |_=>exact .inr (by simp[bj,aJ j,sS,Qb])
 rcases key with⟨b,n,c,r,k⟩|l
 ·obtain⟨v',w',d,m⟩:=h.val fit hc i e (.inl ⟨_,_,k⟩);rw[k]at d;cases d;exact⟨b,n,c,r,m⟩
 ·obtain⟨v',w',d,m⟩:=h.val fit hc i e (.inr l.ex);obtain⟨a,u,s,_⟩:=l.ex;rw[s]at d;cases d
def Way.JL(fit:Fits T fB fB F (λ_:aq=>false) Z)(h:Way T fB F Z f R g0 w0 g w)(hc:2<=g.callers.length){u:ar}{m n:Int}(c:bF g=some o)(d:o.op=.binOp .eql ty x y u)(i:g.frame.eval x=.int .i64 m)(hy:g.frame.eval y=.int .i64 n) :
 Way T fB F Z f R g0 w0 (fin g (.bool (m==n))) w:=by
 have e:=oZ (ev:=g.frame.eval) d;rw[i,hy]at e;have a:((do aI .eql ty x y (.int .i64 m) (.int .i64 n);binOp .eql ty (.int .i64 m) (.int .i64 n)):Sem Value).run (bb T fB) w=.ok (.bool (m==n)) w:=by simp[aI,binOp,Op.intCmp]
 obtain⟨v',w',b,j⟩:=h.val fit hc c e (.inl ⟨_,_,a⟩);rw[a]at b;cases b;exact j
def MV{P:aw}(d:Nat){a:ar}{b:Option Addr}{n c:Nat}(e:P.underlying t=some (.slice a)):(Op.equalIn (d+1) t (.slice b n c) (.slice none 0 0)).run P w=.ok b.isNone w:=by
 cases b<;>simp[Op.equalIn,aJ e]
def Way.JM(fit:Fits T fB fB F (λ_:aq=>false) Z)(h:Way T fB F Z f R g0 w0 g w)(hc:2<=g.callers.length){u i:ar}{b:Option Addr}{n c:Nat}(j:bF g=some o)(k:o.op=.binOp .eql t x y u)(l:(bb T fB).underlying t=some (.slice i))(m:g.frame.eval x=.slice b n c)(hy:g.frame.eval y=.slice none 0 0) :
 Way T fB F Z f R g0 w0 (fin g (.bool b.isNone)) w:=by
 have e:=oZ (ev:=g.frame.eval) k;rw[m,hy]at e;have a:((do aI .eql t x y (.slice b n c) (.slice none 0 0);binOp .eql t (.slice b n c) (.slice none 0 0)):Sem Value).run (bb T fB) w=.ok (.bool b.isNone) w:=by
  have p:(Op.equal t (.slice b n c) (.slice none 0 0)).run (bb T fB) w=.ok b.isNone w:=MV 9999 l;simp[aI,binOp,p]
 obtain⟨v',w',d,q⟩:=h.val fit hc j e (.inl ⟨_,_,a⟩);rw[a]at d;cases d;exact q
def Way.add(fit:Fits T fB fB F (λ_:aq=>false) Z)(h:Way T fB F Z f R g0 w0 g w)(hc:2<=g.callers.length){u:ar}{m n:Int}(c:bF g=some o)(d:o.op=.binOp .add ty x y u)(i:g.frame.eval x=.int .i64 m)(hy:g.frame.eval y=.int .i64 n) :
 Way T fB F Z f R g0 w0 (fin g (.int .i64 (IntKind.i64.wrap (m+n)))) w:=by
 have e:=oZ (ev:=g.frame.eval) d;rw[i,hy]at e;have a:((do aI .add ty x y (.int .i64 m) (.int .i64 n);binOp .add ty (.int .i64 m) (.int .i64 n)):Sem Value).run (bb T fB) w=.ok (.int .i64 (IntKind.i64.wrap (m+n))) w:=by simp[aI,binOp,Op.intArith]
 obtain⟨v',w',b,j⟩:=h.val fit hc c e (.inl ⟨_,_,a⟩);rw[a]at b;cases b;exact j
end
section
variable {T:ao}{fB:Array Func}{F:aq->Bool}{Z:ar->Bool}{f:aq}{R:Value->World->Prop}{g0 g:ai}{w0 w w':World}{ty t:ar}{x y:aH}{o:Oper}{ρ:Ren}
def qy:aL->Bool
 |.struct _ | .array _ _=>true
 |_=>false
def mh{P:aw}{d:aL}(h:P.underlying t=some d)(w:World):(isAgg t).run P w=.ok (qy d) w:=by
 unfold isAgg;rw[bg,aJ h w];cases d<;>simp[qy]
def xX{ev:aH->Value}{i:Nat}(a:o.op=.field ty x i):aF ev o=(do pure (.value (<-bl ty (ev x) i)):Sem Next):=by
 unfold aF;simp only[a]
def Way.field(fit:Fits T fB fB F (λ_:aq=>false) Z)(h:Way T fB F Z f R g0 w0 g w)(hc:2<=g.callers.length){i:Nat}{fs:Array Field}{fd:Field}{d:aL}(k:bF g=some o)(p:o.op=.field ty x i)(j:(bb T fB).underlying ty=some (.struct fs))(hf:fs[i]?=some fd)(hd:(bb T fB).underlying fd.type=some d)(c:qy d=false) :
 ∃cs v,g.frame.eval x=.agg cs/\cs[fd.offset]?=some v/\Way T fB F Z f R g0 w0 (fin g v) w:=by
 have e:=xX (ev:=g.frame.eval) p;have key:(∃cs v,g.frame.eval x=.agg cs/\cs[fd.offset]?=some v/\(bl ty (g.frame.eval x) i).run (bb T fB) w=.ok v w)\/sS ((bl ty (g.frame.eval x) i).run (bb T fB) w):=by
  cases g.frame.eval x with
  |agg cs=>
   cases hv:cs[fd.offset]? with
   |some v=>exact .inl ⟨cs,v,rfl,hv,by simp[bl,aJ j,hf,asAgg,part,mh hd,c,hv]⟩
   |none=>exact .inr (by simp[bl,aJ j,hf,asAgg,part,mh hd,c,hv,sS,Qb])
  |_=>exact .inr (by simp[bl,aJ j,hf,asAgg,sS,Qb])
 rcases key with⟨cs,v,q,hv,l⟩|m
 ·obtain⟨v',w',b,n⟩:=h.val fit hc k e (.inl ⟨_,_,l⟩);rw[l]at b;cases b;exact⟨cs,v,q,hv,n⟩
 ·obtain⟨v',w',b,n⟩:=h.val fit hc k e (.inr m.ex);obtain⟨a,r,c,_⟩:=m.ex;rw[c]at b;cases b
def Way.Hu(fit:Fits T fB fB F (λ_:aq=>false) Z)(h:Way T fB F Z f R g0 w0 g w)(hc:2<=g.callers.length){i:Nat}{fs:Array Field}{fd:Field}{d:aL}{a:aP}{cs:Array Value}(j:bF g=some o)(k:o.op=.field ty x i)(l:g.frame.eval x=.agg cs)(m:(bb T fB).underlying ty=some (.struct fs))(hf:fs[i]?=some fd)(hd:(bb T fB).underlying fd.type=some d)(n:qy d=true)(hi:(bb T fB).info? fd.type=some a) :
 Way T fB F Z f R g0 w0 (fin g (.agg (cs.extract fd.offset (fd.offset+a.size)))) w:=by
 have e:=xX (ev:=g.frame.eval) k;have b:(bl ty (g.frame.eval x) i).run (bb T fB) w=.ok (.agg (cs.extract fd.offset (fd.offset+a.size))) w:=by
  rw[l];simp[bl,aJ m,hf,asAgg,part,mh hd,n,aT,a5,hi]
 obtain⟨v',w',c,p⟩:=h.val fit hc j e (.inl ⟨_,_,b⟩);rw[b]at c;cases c;exact p
def Az{a a':Addr}(l:WR T.globals.size F (codeOk T F Z) ρ w w')(m:AR ρ a a'):∀(n i:Nat)(b:Array Value),
 (∃u e:Nat->Value,(∀j,j<n->w.cell? (a.add (i+j))=some (u j)/\w'.cell? (a'.add (i+j))=some (e j)/\VR F ρ (u j) (e j)/\(∃c t h,w'.heap[a'.block]?=some (.cells c t h)))/\
   (a6 a i n b).run (bb T fB) w=.ok (b++((bp n).map u).toArray) w)\/sS ((a6 a i n b).run (bb T fB) w)
 |0,i,b=>.inl ⟨λ_=>undef,λ_=>undef,λj p=>absurd p (ba _),by simp[a6]⟩
 |n+1,i,b=>by
  have hb:(a.add i).block=a.block:=by unfold Addr.add;split<;>rfl
  have q:(a'.add i).block=a'.block:=by unfold Addr.add;split<;>rfl
  rcases lF (T:=T) (fB:=fB) l (m.add i) with⟨d,s,k⟩|⟨v,v',c,r,t,h,d,k,z,E,H,A,I⟩
  ·right;simp[a6,d,k,sS,Qb]
  ·rcases Az l m n (i+1) (b.push v) with⟨u,e,B,C⟩|D
   ·left;refine⟨λj=>if j=0 then v else u (j-1),λj=>if j=0 then v' else e (j-1),λj p=>?_,?_⟩
    ·cases j with
     |zero=>exact⟨d,k,z,r,t,h,by rw[<-q];exact A⟩
     |succ j=>
      have:=B j (by omega);rw[show i+1+j=i+(j+1) by omega]at this;simpa using this
    ·simp only[a6,bg,run_load,d,bw];rw[C];simp[bq,Function.comp_def]
   ·right;simp only[a6,bg,run_load,d,bw];exact D
def Way.load(fit:Fits T fB fB F (λ_:aq=>false) Z)(h:Way T fB F Z f R g0 w0 g w)(hc:2<=g.callers.length){d:aL}{i:aP}{a a':Addr}(p:bF g=some o)(s:o.op=.load ty x)(v:g.frame.eval x=.pointer (some a))(m:WR T.globals.size F (codeOk T F Z) ρ w w')(z:AR ρ a a')(A:(bb T fB).underlying ty=some d)(hd:qy d=true)(hi:(bb T fB).info? ty=some i) :
 ∃u n:Nat->Value,(∀j,j<i.size->w.cell? (a.add j)=some (u j)/\w'.cell? (a'.add j)=some (n j)/\VR F ρ (u j) (n j)/\(∃c t B,w'.heap[a'.block]?=some (.cells c t B)))/\Way T fB F Z f R g0 w0 (fin g (.agg ((bp i.size).map u).toArray)) w:=by
 have e:aF g.frame.eval o=(do pure (.value (<-a7 ty a)):Sem Next):=Go.Ph.uu s v;have q:(a7 ty a).run (bb T fB) w=((a6 a 0 i.size #[]).run (bb T fB) w).andThen λc w=>.ok (.agg c) w:=by
  simp[a7,mh A,hd,aT,a5,hi,loadCells]
 rcases Az (T:=T) (fB:=fB) m z i.size 0 #[]with⟨u,n,C,D⟩|E
 ·have k:(a7 ty a).run (bb T fB) w=.ok (.agg ((bp i.size).map u).toArray) w:=by
   rw[q,D];simp[bw]
  obtain⟨v',w',l,m⟩:=h.val fit hc p e (.inl ⟨_,_,k⟩);rw[k]at l;cases l;exact⟨u,n,λj H=>by have:=C j H;rwa[Nat.zero_add]at this,m⟩
 ·obtain⟨b,r,hb,I⟩:=E.ex;have k:(a7 ty a).run (bb T fB) w=.halt b r:=by rw[q,hb];rfl
  obtain⟨v',w',l,m⟩:=h.val fit hc p e (.inr ⟨b,r,k,I⟩);rw[k]at l;cases l
end
open Go.ConcN (upd upd_ne upd_same)
def SL(n:Nat)(F:Nat->Value)(rest:List Value)(ops:Array Oper)(is:List Nat)(k:List Item)(fn:aq)(cs:List Frame):ai:=fH ⟨fn,⟨(bp n).map F++rest⟩,.inRegion ops is::k,[],.run,.normal,none⟩ cs
section
variable {n:Nat}{H:Nat->Value}{rest:List Value}{ops:Array Oper}{i:Nat}{is:List Nat}{k:List Item}{fn:aq}{cs:List Frame}{o:Oper}
def bH{j:Nat}(h:j<n):(SL n H rest ops is k fn cs).frame.eval (.tmp j)=H j:=by
 show(⟨(bp n).map H++rest⟩:Array Value).getD j undef=H j;rw[Array.getD_eq_getD_getElem?];have:(⟨(bp n).map H++rest⟩:Array Value)[j]?=some (H j):=by
  rw[br,bs (by simpa using h)];simp[h]
 rw[this];rfl
def jb(h:ops[i]?=some o)(hg:o.guard=none)(hd:pS o.op=true):bF (SL n H rest ops (i::is) k fn cs)=some o:=by
 unfold bF SL;simp[fH,h,Region.wanted,hg,hd]
def ZS{d:Nat}(hd:d<n)(v:Value):(⟨(bp n).map H++rest⟩:Array Value).setIfInBounds d v=⟨(bp n).map (upd H d v)++rest⟩:=by
 apply ae;rw[Array.toList_setIfInBounds];show((bp n).map H++rest).set d v=_;rw[List.set_append_left _ _ (by simpa using hd)];congr 1;apply List.ext_getElem
 ·simp
 ·intro j a b;simp only[List.getElem_set,List.getElem_map,List.getElem_range];by_cases e:d=j
  ·subst e;simp[upd_same]
  ·rw[if_neg e,upd_ne _ _ (Ne.symm e)]
def ZT{d:Nat}(h:ops[i]?=some o)(hd:o.dst=some d)(a:d<n)(v:Value):fin (SL n H rest ops (i::is) k fn cs) v=SL n (upd H d v) rest ops is k fn cs:=by
 unfold SL fin bA;simp only[fH,h,bL,hd,ZS a]
def UR(h:ops[i]?=some o)(hd:o.dst=none)(v:Value):fin (SL n H rest ops (i::is) k fn cs) v=SL n H rest ops is k fn cs:=by
 unfold SL fin bA;simp only[fH,h,bL,hd]
section
variable {T:ao}{fB:Array Func}{F:aq->Bool}{Z:ar->Bool}{f:aq}{R:Value->World->Prop}{g0:ai}{w0 w:World}
def Way.check(fit:Fits T fB fB F (λ_:aq=>false) Z){j d:Nat}{b bad:Bool}{a:Oper}{x:Value}(h:Way T fB F Z f R g0 w0 (SL n H rest ops (i::is) k fn cs) w)(hc:2<=cs.length)(c:ops[i]?=some o)(hg:o.guard=some (j,bad))(p:o.op=.field 3 (.const x) 0)(g:o.dst=none)(l:∃k,(bb T fB).underlying 3=some (.int k))
 (s:ops[j]?=some a) (m:a.dst=some d) (hd:d<n) (hb:H d=.bool b):b = !bad/\Way T fB F Z f R g0 w0 (SL n H rest ops is k fn cs) w:=by
 obtain⟨v,l⟩:=l;have hy:yielded ops (⟨(bp n).map H++rest⟩:Array Value) j=some b:=by
  have:(⟨(bp n).map H++rest⟩:Array Value)[d]?=some (.bool b):=by
   rw[br,bs (by simpa using hd)];simp[hd,hb]
  have e:((ops[j]?).bind (·.dst)).bind ((⟨(bp n).map H++rest⟩:Array Value)[·]?)=some (.bool b):=by
   rw[s];show(a.dst).bind _=_;rw[m];exact this
  unfold yielded;rw[e]
 obtain⟨y,w1,es,e,q⟩:=h.next fit hc;by_cases r:b=bad
 case neg=>
  have e1:stepG (bb T fB) true (SL n H rest ops (i::is) k fn cs) w=.go (fin (SL n H rest ops (i::is) k fn cs) undef) w #[]:=by
   unfold SL fH;simp[stepG,stepG.exec,c,Region.wanted,hg,hy,fin,r]
  rw[e1]at e;cases e;rw[UR c g]at q;exact⟨by cases b<;>cases bad<;>simp_all,q⟩
 case pos=>
  have t:bF (SL n H rest ops (i::is) k fn cs)=some o:=by
   unfold bF SL;simp[fH,c,Region.wanted,hg,hy,pS,p,r]
  obtain⟨x1,w2,z,u⟩:=Eg (P:=bb T fB) (mn:=true) (w:=w) (h:=.stuck "Field: struct type expected") (w':=w) t (by
   unfold aF
   simp[p,bl,aJ l]) trivial
  rw[u]at e;cases e
end
end
end Go.bJ
namespace Go.Proofs
open Go.bJ Go.Conc Go.Ph
set_option maxRecDepth 100000
open Go.ConcN
def Qc:∀(n:Nat)(L:List Value),n<=L.length->∃(f:Nat->Value)(r:List Value),L=(bp n).map f++r
 |0,L,_=>⟨λ_=>undef,L,by simp⟩
 |n+1,[],h=>by simp at h
 |n+1,x::L,h=>by
  obtain⟨f,r,e⟩:=Qc n L (by simpa using h);refine⟨λi=>if i=0 then x else f (i-1),r,?_⟩;rw[e,bq];simp[Function.comp_def]
def US{a:Array Value}{ca:Array Value}(h:a[0]?=some (.agg ca)):∃f r,bC PP 98 a .normal=fE ⟨ca,f,r⟩:=by
 obtain⟨l⟩:=a
 cases l with
 |nil=>simp at h
 |cons x L=>
  have b:x=.agg ca:=by simpa using h
  subst b;obtain⟨g,r,e⟩:=Qc 20 (L++bu (21-(L.length+1)) undef) (by simp;omega);refine⟨λi=>g (i-1),r,?_⟩;have c:Tryz.f98.ntmps=21:=by kernel_rfl
  have e1:bC PP 98 ⟨.agg ca::L⟩ .normal=⟨98,⟨.agg ca::(L++bu (21-(L.length+1)) undef)⟩,[.code Ho],[],.run,.normal,none⟩:=by
   have hf:PP.funcs[98]?=some bT:=bX;have hb:((some bT).bind (·.body)).getD (.refuse "unsupported: a function without a Go body is entered")=Ho:=by kernel_rfl
   unfold bC;simp only[hf,hb,bM,bR,c];congr 1;apply ae;simp
  rw[e1,e];rfl
end Go.Proofs
namespace Go.Proofs
open Go.bJ Go.Conc Go.Ph
set_option maxRecDepth 100000
def Eh:cY.funcs.size<=cn:=of_decide_eq_true (by kernel_rfl)
def aeA:Jg b1 cY.funcs FF NN ZZ 219=true:=by kernel_rfl
def JN:Fits b1 cY.funcs Tryz.funcs FF XX ZZ:=by
 refine BJ Jh (n:=219) (λf hf=>of_decide_eq_true (Bool.and_eq_true_iff.1 hf).1) (λf a=>?_) (λf a=>?_) acG Eh
 ·have b:98≠f:=λe=>by subst e;cases a
  show(Tryz.funcs.setIfInBounds 98 nS)[f]?=_;rw[Array.getElem?_setIfInBounds_ne b]
 ·obtain rfl:f=98:=by simpa[XX]using a
  have hl:98<Tryz.funcs.size:=(Array.getElem?_eq_some_iff.1 bX).1;refine⟨⟨nS,?_,rfl,by decide +kernel⟩,bT,bX,rfl,by decide +kernel⟩;show(Tryz.funcs.setIfInBounds 98 nS)[98]?=_;rw[ag hl]
def bV:Fits b1 cY.funcs cY.funcs FF NN ZZ:=
 BJ Jh (n:=219) (λf hf=>of_decide_eq_true (Bool.and_eq_true_iff.1 hf).1) (λf _=>rfl) (λf a=>by cases a) aeA Eh
def JO:cY.funcs[98]?=some nS:=by
 have hl:98<Tryz.funcs.size:=(Array.getElem?_eq_some_iff.1 bX).1;show(Tryz.funcs.setIfInBounds 98 nS)[98]?=_;rw[ag hl]
def ZU(a:Array Value):∃H r,(∀v,a[0]?=some v->H 0=v)/\(a=#[]->H 0=undef)/\bC cY 98 a .normal=⟨98,⟨(bp 193).map H++r⟩,[.code sU],[],.run,.normal,none⟩:=by
 obtain⟨L⟩:=a;obtain⟨H,r,e⟩:=Qc 193 (L++bu (193-L.length) undef) (by simp;omega);have d:(L++bu (193-L.length) undef)[0]?=some (H 0):=by
  rw[e,bs (by simp)];simp
 refine⟨H,r,λv hv=>?_,λf=>?_,?_⟩
 ·cases L with
  |nil=>simp at hv
  |cons x L=>
   have b:x=v:=by simpa using hv
   have c:x=H 0:=by simpa using d
   rw[<-c,b]
 ·have:L=[]:=by simpa using f
  subst this;simpa using d.symm
 ·have hf:cY.funcs[98]?=some nS:=JO;unfold bC;simp only[hf,bM,bR,bL];have b:nS.ntmps=193:=rfl;have c:nS.body=some sU:=rfl;rw[b,c];congr 1;apply ae;simp only[Array.toList_append,Array.toList_replicate,List.size_toArray];exact e
def UT{f:aq}{R:Value->World->Prop}{a:ai}{w0 w:World}{H:Nat->Value}{r:List Value}{cs:List Frame}(hc:2<=cs.length)(h:Go.bJ.Way b1 cY.funcs FF ZZ f R a w0 (fH ⟨98,⟨(bp 193).map H++r⟩,[.code sU],[],.run,.normal,none⟩ cs) w) :
 Go.bJ.Way b1 cY.funcs FF ZZ f R a w0 (SL 193 H r aS (bp aS.size) [.code .ret] 98 cs) w:=by
 have e1:stepG ⟨b1,cY.funcs⟩ true (fH ⟨98,⟨(bp 193).map H++r⟩,[.code sU],[],.run,.normal,none⟩ cs) w=.go (fH ⟨98,⟨(bp 193).map H++r⟩,[.code (.region 0 aS false),.code .ret],[],.run,.normal,none⟩ cs) w #[]:=rfl;have b:stepG ⟨b1,cY.funcs⟩ true (fH ⟨98,⟨(bp 193).map H++r⟩,[.code (.region 0 aS false),.code .ret],[],.run,.normal,none⟩ cs) w=.go (SL 193 H r aS (bp aS.size) [.code .ret] 98 cs) w #[]:=rfl;exact(h.go bV hc e1).go bV hc b
open Go.ConcN (upd upd_ne upd_same)
noncomputable abbrev PC:aw:=⟨b1,cY.funcs⟩
section
variable {f:aq}{R:Value->World->Prop}{g0:ai}{w0 w w':World}{H:Nat->Value}{r:List Value}{cs:List Frame}{i d x y:Nat}{ρ:Ren}
structure Wi(f:aq)(R:Value->World->Prop)(g0:ai)(w0:World)(r:List Value)(cs:List Frame)(H:Nat->Value)(i:Nat)(w:World):Prop where
 hc:2<=cs.length
 way:Go.bJ.Way b1 cY.funcs FF ZZ f R g0 w0 (SL 193 H r aS (bv i (206-i)) [.code .ret] 98 cs) w
def rng(h:i<206):bv i (206-i)=i::bv (i+1) (206-(i+1)):=by
 rw[show 206-i=(206-(i+1))+1 by omega,List.range'_succ]
def Wi.at(h:Wi f R g0 w0 r cs H i w)(hi:i<206):Go.bJ.Way b1 cY.funcs FF ZZ f R g0 w0 (SL 193 H r aS (i::bv (i+1) (206-(i+1))) [.code .ret] 98 cs) w:=by
 rw[<-rng hi];exact h.way
def Wi.next{op:Op}{v:Value}{w1:World}(hc:2<=cs.length)(a:aS[i]?=some (aD (some d) op none))(hd:d<193)(h:Go.bJ.Way b1 cY.funcs FF ZZ f R g0 w0 (fin (SL 193 H r aS (i::bv (i+1) (206-(i+1))) [.code .ret] 98 cs) v) w1):Wi f R g0 w0 r cs (upd H d v) (i+1) w1:=by
 rw[ZT a rfl hd]at h;exact⟨hc,h⟩
def Wi.int(h:Wi f R g0 w0 r cs H i w)(hi:i<206)(a:aS[i]?=some (aD (some d) (.binOp .xor 3 (.tmp x) (.const (.int .i64 0)) 3) none))(hd:d<193)(c:x<193):∃n v,H x=.int .i64 n/\Wi f R g0 w0 r cs (upd H d v) (i+1) w:=by
 obtain⟨n,v,b,e⟩:=(h.at hi).int bV h.hc (jb a rfl rfl) rfl rfl;rw[bH c]at b;exact⟨n,v,b,.next h.hc a hd e⟩
def Wi.str(h:Wi f R g0 w0 r cs H i w)(hi:i<206)(a:aS[i]?=some (aD (some d) (.binOp .add 9 (.tmp x) (.const (.string bi)) 9) none))(hd:d<193)(c:x<193):∃n v,H x=.string n/\Wi f R g0 w0 r cs (upd H d v) (i+1) w:=by
 obtain⟨n,v,b,e⟩:=(h.at hi).str bV h.hc (jb a rfl rfl) rfl rfl;rw[bH c]at b;exact⟨n,v,b,.next h.hc a hd e⟩
def Wi.len{t g:ar}(h:Wi f R g0 w0 r cs H i w)(hi:i<206)(a:aS[i]?=some (aD (some d) (.call { callee:=.builtin .len,args:=#[.tmp x],argTypes:=#[t] }) none))(j:PC.underlying t=some (.slice g))(hd:d<193)(k:x<193):∃b n c,H x=.slice b n c/\Wi f R g0 w0 r cs (upd H d (.int .i64 (n:Int))) (i+1) w:=by
 obtain⟨b,n,c,e,l⟩:=(h.at hi).len bV h.hc (jb a rfl rfl) rfl j;rw[bH k]at e;exact⟨b,n,c,e,.next h.hc a hd l⟩
def Wi.JL{m n:Int}(h:Wi f R g0 w0 r cs H i w)(hi:i<206)(a:aS[i]?=some (aD (some d) (.binOp .eql 3 (.tmp x) (.const (.int .i64 n)) 3) none))(hd:d<193)(b:x<193)(hv:H x=.int .i64 m):Wi f R g0 w0 r cs (upd H d (.bool (m==n))) (i+1) w:=
 .next h.hc a hd ((h.at hi).JL bV h.hc (jb a rfl rfl) rfl ((bH b).trans hv) rfl)
def Wi.JM{t e:ar}{b:Option Addr}{n c:Nat}(h:Wi f R g0 w0 r cs H i w)(hi:i<206)(a:aS[i]?=some (aD (some d) (.binOp .eql t (.tmp x) (.const (.slice none 0 0)) t) none))(g:PC.underlying t=some (.slice e))(hd:d<193)(j:x<193)(hv:H x=.slice b n c):Wi f R g0 w0 r cs (upd H d (.bool b.isNone)) (i+1) w:=
 .next h.hc a hd ((h.at hi).JM bV h.hc (jb a rfl rfl) rfl g ((bH j).trans hv) rfl)
def Wi.add{m n:Int}(h:Wi f R g0 w0 r cs H i w)(hi:i<206)(a:aS[i]?=some (aD (some d) (.binOp .add 3 (.tmp x) (.tmp y) 3) none))(hd:d<193)(b:x<193)(hy:y<193)(hv:H x=.int .i64 m)(c:H y=.int .i64 n):Wi f R g0 w0 r cs (upd H d (.int .i64 (IntKind.i64.wrap (m+n)))) (i+1) w:=
 .next h.hc a hd ((h.at hi).add bV h.hc (jb a rfl rfl) rfl ((bH b).trans hv) ((bH hy).trans c))
def Wi.field{t:ar}{j:Nat}{fs:Array Field}{fd:Field}{a:aL}(h:Wi f R g0 w0 r cs H i w)(hi:i<206)(b:aS[i]?=some (aD (some d) (.field t (.tmp x) j) none))(g:PC.underlying t=some (.struct fs))(hf:fs[j]?=some fd)(k:PC.underlying fd.type=some a)(l:qy a=false)(hd:d<193)(m:x<193) :
 ∃c v,H x=.agg c/\c[fd.offset]?=some v/\Wi f R g0 w0 r cs (upd H d v) (i+1) w:=by
 obtain⟨c,v,e,n,o⟩:=(h.at hi).field bV h.hc (jb b rfl rfl) rfl g hf k l;rw[bH m]at e;exact⟨c,v,e,n,.next h.hc b hd o⟩
def Wi.Hu{t:ar}{j:Nat}{fs:Array Field}{fd:Field}{b:aL}{a:aP}{c:Array Value}(h:Wi f R g0 w0 r cs H i w)(hi:i<206)(e:aS[i]?=some (aD (some d) (.field t (.tmp x) j) none))(g:PC.underlying t=some (.struct fs))(hf:fs[j]?=some fd)(k:PC.underlying fd.type=some b)(l:qy b=true)(m:PC.info? fd.type=some a)(hd:d<193)(n:x<193)(hv:H x=.agg c) :
 Wi f R g0 w0 r cs (upd H d (.agg (c.extract fd.offset (fd.offset+a.size)))) (i+1) w:=
 .next h.hc e hd ((h.at hi).Hu bV h.hc (jb e rfl rfl) rfl ((bH n).trans hv) g hf k l m)
def Wi.load{t:ar}{k:aL}{b:aP}{a a':Addr}(h:Wi f R g0 w0 r cs H i w)(hi:i<206)(l:aS[i]?=some (aD (some d) (.load t (.tmp x)) none))(m:WR Tryz.progTables.globals.size FF (codeOk b1 FF ZZ) ρ w w')(n:AR ρ a a')(o:PC.underlying t=some k)(g:qy k=true)(p:PC.info? t=some b)(hd:d<193)(q:x<193)(hv:H x=.pointer (some a)) :
 ∃u e:Nat->Value,(∀j,j<b.size->w.cell? (a.add j)=some (u j)/\w'.cell? (a'.add j)=some (e j)/\VR FF ρ (u j) (e j)/\(∃c t s,w'.heap[a'.block]?=some (.cells c t s)))/\Wi f R g0 w0 r cs (upd H d (.agg ((bp b.size).map u).toArray)) (i+1) w:=by
 obtain⟨u,e,v,z⟩:=(h.at hi).load bV h.hc (jb l rfl rfl) rfl ((bH q).trans hv) m n o g p;exact⟨u,e,v,.next h.hc l hd z⟩
def Wi.index{t b:ar}{e:Nat}{a:Addr}{n c:Nat}{k:Int}(h:Wi f R g0 w0 r cs H i w)(hi:i<206)(g:aS[i]?=some (aD (some d) (.indexAddr t (.tmp x) (.const (.int .i64 k))) none))(j:PC.underlying t=some (.slice b))(hs:(PC.info? b).map (·.size)=some e)(l:0<=k)(m:k<n)(hd:d<193)(o:x<193)(hv:H x=.slice (some a) n c) :
 Wi f R g0 w0 r cs (upd H d (.pointer (some (a.add (k.toNat*e))))) (i+1) w:=
 .next h.hc g hd ((h.at hi).go bV h.hc (Go.Ph.xH (jb g rfl rfl) rfl ((bH o).trans hv) rfl j hs l m))
def Wi.check{j dj:Nat}{b bad:Bool}{op:Op}(h:Wi f R g0 w0 r cs H i w)(hi:i<206)(a:aS[i]?=some (aD none (.field 3 (.const (.int .i64 0)) 0) (some (j,bad))))(c:aS[j]?=some (aD (some dj) op none))(hd:dj<193)(hb:H dj=.bool b):b = !bad/\Wi f R g0 w0 r cs H (i+1) w:=by
 have e:∃k,PC.underlying 3=some (.int k):=⟨_,ty3⟩
 obtain⟨g,l⟩:=Go.bJ.Way.check bV (h.at hi) h.hc a rfl rfl rfl e c rfl hd hb;exact⟨g,h.hc,l⟩
def run_build{t:ar}{fs:Array Field}{z:Value}{a:Array (Nat×Nat)}(parts:Array (Nat×Value))(b:(a8 t).run PC w=.ok z w)(e:PC.underlying t=some (.struct fs))(g:(fs.mapM λf=>(do pure (f.offset,<-aT f.type):Sem (Nat×Nat))).run PC w=.ok a w) :
 (bm t parts).run PC w=match bo (a[·]?) z.cells parts.toList with|some c=>.ok (.agg c) w|none=>.halt (.stuck "build: no such field, or a part of the wrong size") w:=by
 unfold bm;simp only[bg,b,bw,aJ e,g];generalize bo _ z.cells parts.toList=q;cases q<;>simp
def xY{o:Oper}{ev:aH->Value}{t:ar}{ps:Array (Nat×aH)}(a:o.op=.build t ps):aF ev o=(do pure (.value (<-bm t (ps.map fun(i,x)=>(i,ev x)))):Sem Next):=by
 unfold aF;simp only[a]
def Wi.build{t:ar}{ps:Array (Nat×aH)}{pv:Array (Nat×Value)}{v:Value}(h:Wi f R g0 w0 r cs H i w)(hi:i<206)(a:aS[i]?=some (aD (some d) (.build t ps) none))(hd:d<193)(b:ps.map (fun(j,x)=>(j,(SL 193 H r aS (i::bv (i+1) (206-(i+1))) [.code .ret] 98 cs).frame.eval x))=pv)(c:(bm t pv).run PC w=.ok v w):Wi f R g0 w0 r cs (upd H d v) (i+1) w:=by
 have e:=xY (o:=aD (some d) (.build t ps) none) (ev:=(SL 193 H r aS (i::bv (i+1) (206-(i+1))) [.code .ret] 98 cs).frame.eval) (t:=t) (ps:=ps) rfl;rw[b]at e;have hs:=dF (P:=PC) (mn:=true) (v:=v) (w':=w) (w:=w) (g:=SL 193 H r aS (i::bv (i+1) (206-(i+1))) [.code .ret] 98 cs) (jb a rfl rfl) (by rw[e];simp[c]);exact .next h.hc a hd ((h.at hi).go bV h.hc hs)
def Qe{t:ar}{i:aP}{z:Value}(hi:PC.info? t=some i)(a:i.zero=some z)(w:World):(a8 t).run PC w=.ok z w:=by
 simp[a8,a5,hi,a]
def ZX{t:ar}{z:Value}(h:(PC.info? t).map (·.zero)=some (some z))(w:World):(a8 t).run PC w=.ok z w:=by
 cases hi:PC.info? t with
 |none=>rw[hi]at h;cases h
 |some i=>
  rw[hi]at h;exact Qe hi (a9 h) w
noncomputable def Ei:Value:=.agg #[.int .i64 0,.int .i64 0,.slice none 0 0,.slice none 0 0,.slice none 0 0,.slice none 0 0]
def akt(w:World):(a8 121).run PC w=.ok Ei w:=ZX (by kernel_rfl) w
def aku(w:World):((fieldsOf 121).mapM λf=>(do pure (f.offset,<-aT f.type):Sem (Nat×Nat))).run PC w=.ok #[(0,6)] w:=by kernel_rfl
def u121:PC.underlying 121=some (.struct (fieldsOf 121)):=by kernel_rfl
def Wi.six(h:Wi f R g0 w0 r cs H i w)(hi:i<206)(g:aS[i]?=some (aD (some d) (.build 121 #[(0,.tmp x)]) none))(hd:d<193)(n:x<193):(H x).cells.size=6/\∃v,Wi f R g0 w0 r cs (upd H d v) (i+1) w:=by
 have e:=xY (o:=aD (some d) (.build 121 #[(0,.tmp x)]) none) (ev:=(SL 193 H r aS (i::bv (i+1) (206-(i+1))) [.code .ret] 98 cs).frame.eval) (t:=121) (ps:=#[(0,.tmp x)]) rfl;have p:(#[(0,.tmp x)]:Array (Nat×aH)).map (fun(j,x)=>(j,(SL 193 H r aS (i::bv (i+1) (206-(i+1))) [.code .ret] 98 cs).frame.eval x))=#[(0,H x)]:=by simp[bH n]
 rw[p]at e;have b:=run_build (w:=w) #[(0,H x)] (akt w) u121 (aku w);by_cases hs:(H x).cells.size=6
 ·have a:∃c,bo (#[(0,6)][·]?) Ei.cells (#[(0,H x)]:Array (Nat×Value)).toList=some c:=by
   cases q:bo (#[(0,6)][·]?) Ei.cells (#[(0,H x)]:Array (Nat×Value)).toList with
   |some c=>exact⟨c,rfl⟩
   |none=>
    have s:Ei.cells.size=6:=rfl;simp[bo,hs,s]at q
  obtain⟨c,a⟩:=a;rw[a]at b;obtain⟨v,w1,k,m⟩:=(h.at hi).val bV h.hc (jb g rfl rfl) e (.inl ⟨_,_,b⟩);have l:bx (Value.agg c) w=bx v w1:=b.symm.trans k;cases l;exact⟨hs,_,.next h.hc g hd m⟩
 ·have a:bo (#[(0,6)][·]?) Ei.cells (#[(0,H x)]:Array (Nat×Value)).toList=none:=by
   simp only[bo];simp[hs]
  rw[a]at b;obtain⟨v,w1,k,m⟩:=(h.at hi).val bV h.hc (jb g rfl rfl) e (.inr ⟨_,_,b,trivial⟩);have l:(Result.halt (Halt.stuck "build: no such field, or a part of the wrong size") w:Result Value)=bx v w1:=b.symm.trans k;cases l
end
end Go.Proofs
