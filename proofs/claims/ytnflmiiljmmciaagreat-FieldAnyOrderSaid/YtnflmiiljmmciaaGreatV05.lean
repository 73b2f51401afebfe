/- Part of the proof of FieldAnyOrder. -/
import Derived.Test.YtnflmiiljmmciaaGreatV04
set_option linter.all false
open Go renaming World->aa,Value->ac
open Go.Frame renaming enter->ad
namespace Go.Proofs
open Go.bJ Go.Conc Go.Ph
set_option maxRecDepth 100000
def an3{np s:Nat}(a:2<=np)(b:np<=5)(hs:s<np):FE np s:=by
 obtain rfl|rfl|rfl|rfl:np=2\/np=3\/np=4\/np=5:=ab
 .exact asm hs
 .exact asn hs
 .exact aso hs
 .exact asp hs
def aeB(np s:Nat)(D:jB)(dl:Int):∀r,bS np s D dl r=cmV D.pn np s dl r
 |0=>rfl
 |r+1=>by
  rw[bS,aeB np s D dl r,cmV];rfl
def an4(np s:Nat)(D:jB)(dl:Int)(r j:Nat)(a:j<5):(cG np s D r (bS np s D dl r))[j]?=some (.int .i64 (vsV D.pn np s dl r j)):=by
 rw[aeB];obtain rfl|rfl|rfl|rfl|rfl:j=0\/j=1\/j=2\/j=3\/j=4:=ab
 all_goals rfl
def ahe{n np:Nat}{D:jB}{S:Nat->Nat}{dl:Nat->Int}{w w1:aa}(h:UQ n np D S dl w w1)(l:n<=3)(m:1<=np)(d:∀k,k<n->S k<np):∃cs:Array ac,w1.heap[w.heap.size+1]?=some (.cells cs 113)/\dc D.pn np S dl n 0 cs:=by
 obtain⟨cs,hb,hcs⟩:=h.tb;have cell:∀o,w1.cell? ⟨w.heap.size+1,o,none⟩=cs[o]?:=λo=>by
  simp only[World.cell?,hb];rfl
 refine⟨cs,hb,hcs,λk r j a b=>?_,λo e f=>?_⟩
 .obtain⟨a,g⟩:k<n/\r<np:=by rcases a with h|h<;>omega
  have:=(h.rows k a).put r g j b;rw[<-cell,<-an4 np (S k) D (dl k) r j b];exact this
 .rw[<-cell]
  rcases Nat.lt_or_ge o (n*25) with c|c
  .have a:o / 25<n:=ab;by_cases i:o % 25 / 5<np
   .exfalso;refine f (o / 25) (ag9 np (S (o / 25)) (o % 25 / 5)) (.inl ⟨a,abB ab⟩) ?_;unfold agY;rw[agC i (d _ a)];omega
   .exact(h.rows _ a).rest o ⟨ab,ab,ab⟩ (.inr ab)
  .exact h.rest o c e
def ahR{D:jB}{S:Nat->Nat}{dl:Nat->Int}{w w1:aa}(h:UQ 0 1 D S dl w w1)(b:Nat->Nat->Int)(np:Nat)(c:Nat->Nat)(a:Nat->Int):∃cs:Array ac,w1.heap[w.heap.size+1]?=some (.cells cs 113)/\dc b np c a 0 0 cs:=by
 obtain⟨cs,hb,hcs⟩:=h.tb;have cell:∀o,w1.cell? ⟨w.heap.size+1,o,none⟩=cs[o]?:=λo=>by
  simp only[World.cell?,hb];rfl
 exact⟨cs,hb,dc.zero hcs λo d=>by rw[<-cell];exact h.rest o ab d⟩
def MX{ρ:Ren}{l:List ac}(h:∀v∈l,∃n,v=.int .i64 n):cU FF ρ l l:=by
 induction l with
 |nil=>exact .nil
 |cons v l a=>
  obtain⟨n,e⟩:=h v ar;subst e;exact .cons (.int _ _) (a λu b=>h u (by simp[b]))
def ahS{a:Nat->Nat->Int}{np:Nat}{S:Nat->Nat}{dl:Nat->Int}{G R:Nat}{cs:Array ac}(h:dc a np S dl G R cs):∀v∈cs.toList,∃n,v=.int .i64 n:=by
 intro v hv;obtain⟨o,b⟩:=List.mem_iff_getElem?.1 hv;have hl:=(List.getElem?_eq_some_iff.1 b).1;obtain⟨n,e⟩:=h.int (o:=o) (by have:=h.size;simpa[this]using hl);grind
def MY{P:Program}{n:Nat}{g a:Goroutine}{w w2:aa}(h:cy P n g w a w2)(b:g.callers.length≠a.callers.length):∃m,n=m+1:=by
 cases n with
 |zero=>cases h;exact absurd rfl b
 |succ m=>exact⟨m,rfl⟩
def MZ{a:Array ac}(h:undef=Value.agg a):False:=by cases h
def U2(f:FuncId)(R:ac->aa->Prop):BD Tryz.progTables cY.funcs Tryz.funcs FF XX ZZ (lQ PC f R):=by
 intro x u ρ a I c V l W w w' gs X t q j hI C ha hc sB ht hi B E lS;obtain rfl:x=29:=by simpa[XX]using u
 obtain⟨H,r,e0,eN,eE⟩:=ZU a;have Y:ad (⟨Tryz.progTables,cY.funcs⟩:Program) 29 a .normal=⟨29,⟨(List.range 98).map H++r⟩,[.code sU],[],.run,.normal,none⟩:=eE;have hcs:2<=(c::(l++[aX PC])).length:=ar;have Z:Wy f R (fH (ad PC 29 a .normal) (c::l++[aX PC])) w (fH (ad PC 29 a .normal) (c::l++[aX PC])) w:=⟨ht,hi,0,.zero _ _⟩
 have akX:Wy f R (fH (ad PC 29 a .normal) (c::l++[aX PC])) w (St H r [.code sU] (c::(l++[aX PC]))) w:=by
  have:St H r [.code sU] (c::(l++[aX PC]))=fH (ad PC 29 a .normal) (c::l++[aX PC]):=by
   unfold St;rw[<-Y];rfl
  rw[this];exact Z
 have akZ:∃P:ac,VR FF ρ (H 0) P/\(∀y,P=.agg y->I[0]?=some P):=by
  rcases VA.get? ha 0 with⟨g1,g2⟩|⟨v,v',g1,g2,hv⟩
  .have ea:a=#[]:=by
    grind
   rw[eN ea];exact⟨undef,.undef,λy hy=>(MZ hy).elim⟩
  grind
 obtain⟨P,hv0,zE⟩:=akZ;obtain⟨T,H',Q,hS,⟨K,U,hz,hp⟩,akY⟩:=amU hcs C hv0 akX;obtain⟨cur,w2,p,L,way⟩:=amR hcs Q hS akY;have J:∀{a b},ρ a b->a<w.heap.size/\b<w'.heap.size:=λh=>C.lt h;have Xf:∀l,j l->l.low w'.heap.size/\l.isMemory=true:=λl hl=>by
  refine⟨?_,E.mem l hl⟩
  cases l with
  |cell a=>exact(E.cell a hl).1
  |obj b=>exact(E.obj b hl).1
  |_=>trivial
 have Cu:=Q.lo;obtain⟨n,np,D,S,dl,N,z,w1,M,t1,q1,k1,k2,k3,k4,k5,k6,s,cs,htb,apg⟩:∃(n np:Nat)(D:jB)(S:Nat->Nat)(dl:Nat->Int)(N:Nat)(z:Array Goroutine)(w1:aa)(M:Option (Nat×Nat))(t1:Trace)(q1:Nat->Nat),runNT PP N (crowd gs w' X) t=(.next (crowd z w1 M),t1)/\gs.size<=z.size/\
  z[0]?=some (G (V.finish (.pointer (some ⟨w'.heap.size+1,0,none⟩))) W)/\Leavers PP t1 z q1/\Past (λl=>j l\/OZ (zL j w'.heap.size n) l) w1.heap.size t1/\(∀op∈t1,z.size<=op.g->op.act.touch? = none)/\UQ n np D S dl w' w1/\
  ∃cs:Array ac,w1.heap[w'.heap.size+1]?=some (.cells cs 113)/\dc T.pn T.np T.S T.dl T.n 0 cs:=by
  rcases Nat.eq_zero_or_pos T.n with A|A
  .obtain⟨sa,cg,h5⟩:=hz A;obtain⟨jf,jr,eA⟩:=US (ca:=K) (by rw[<-U];exact zE _ U);have F:gs[0]?=some (G (fE (CA.mk K jf jr)) (V::W)):=by
    have:=B.main;rw[<-eA];exact this
   obtain⟨N,z,w1,M,t1,q1,k1,k2,k3,k4,k5,k6,s⟩:=adI (sl:=X) h5 Xf F B.old B.GA B.num;have asr:∃cs:Array ac,w1.heap[w'.heap.size+1]?=some (.cells cs 113)/\dc T.pn T.np T.S T.dl T.n 0 cs:=by
    rw[A];exact ahR s T.pn T.np T.S T.dl
   grind
  .obtain⟨D,gn,eD,cf,epn,Ht⟩:=hp A;subst eD;obtain⟨jf,jr,eA⟩:=US (ca:=cA T.np D) (by rw[<-U];exact zE _ U);have hSb:∀b∈dR T.np D,∀I:Addr,I.block=b->¬j (.cell I):=λb hb I e hs=>by
    obtain⟨r,d⟩:=Ht b hb;exact(E.cell I hs).2 r (by rw[e];exact d)
   have F:gs[0]?=some (G (fE (CA.mk (cA T.np D) jf jr)) (V::W)):=by
    have:=B.main;rw[<-eA];exact this
   obtain⟨N,z,w1,M,t1,q1,k1,k2,k3,k4,k5,k6,s⟩:=MU (sl:=X) A cf (λk hk=>an3 Cu.1 Cu.2.1 (Q.st k hk)) Xf hSb F B.old B.GA B.num;have asr:=ahe s Cu.2.2 ab Q.st;grind
 obtain rfl:cs=cur:=apg.uniq L;have U3:∀b,¬ρ w.heap.size b:=λb h=>absurd (J h).1 (Nat.lt_irrefl _);have JY:∀n,w'.heap.size<=n->∀a,¬ρ a n:=λn A a h=>by have:=(J h).2;omega
 have fW:=s.size;obtain⟨n,A⟩:=way.chain;obtain⟨m,rfl⟩:=MY A ar
 refine⟨N,ρ.ext w.heap.size (w'.heap.size+1),.pointer (some ⟨w.heap.size,0,none⟩),.pointer (some ⟨w'.heap.size+1,0,none⟩),w2,w1,z,M,t1,q1,_,k1,⟨k3,k4,k5,k6⟩,⟨λx u=>?_,λb hb=>?_,λx u=>?_⟩,.ptr ⟨Ren.IW _ _ _,rfl,rfl⟩,hI.ext U3 (JY _ ab) C.pK (by have:=C.gN;omega),⟨?_,by have:=C.gN;omega,λ{r r'}d=>?_⟩,
  ⟨Ren.kW _ _ _,λa b h=>?_,λa b h i hh=>⟨?_,by unfold World.cell?;rw[s.kept b (J h).2]⟩⟩,⟨s.tape,s.os,s.output,ab,λb hb _=>s.kept b hb⟩,⟨m,w.tape,w.drawn,A⟩,way.inv,?_⟩
 .rcases u with u|⟨y,hy,hb⟩
  .obtain⟨h1,O⟩:=E.cell x u;refine⟨ab,λr d=>?_⟩
   rcases d with d|⟨_,e⟩
   .exact O r d
   .omega
  .cases hy;have jH:x.block=w'.heap.size+3\/x.block=w'.heap.size+4:=hb;refine⟨ab,λr d=>?_⟩
   rcases d with d|⟨_,e⟩
   .grind
   .omega
 .rcases hb with hb|⟨y,hy,_⟩
  .obtain⟨h1,O⟩:=E.obj b hb;refine⟨ab,λr d=>?_⟩
   rcases d with d|⟨_,e⟩
   .exact O r d
   .omega
  .cases hy
 .rcases u with u|⟨y,hy,_⟩
  .exact E.mem x u
  .subst hy;rfl
 .have:=C.pK;rw[p.size];omega
 .rcases d with d|⟨rfl,rfl⟩
  .obtain⟨o,o',h1,O,h3⟩:=C.obj d;refine⟨o,o',?_,?_,h3.mono (Ren.kW _ _ _)⟩
   .rw[p.old _ (J d).1];exact h1
   .rw[s.kept _ (J d).2];exact O
  .exact⟨_,_,p.tb,htb,.cells _ _ (MX (ahS L))⟩
 .rcases h with h|⟨rfl,rfl⟩
  .exact .inl h
  grind
 .obtain⟨v,hv,hu⟩:=hh;exact⟨v,(p.cell (J h).1).symm.trans hv,hu⟩
 .rw[p.size];omega
end Go.Proofs
