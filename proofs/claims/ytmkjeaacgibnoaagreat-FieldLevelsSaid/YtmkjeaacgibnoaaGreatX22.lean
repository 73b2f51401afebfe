/- Part of the proof of FieldLevels: see X45. -/
import Derived.Test.YtmkjeaacgibnoaaGreatX21
set_option linter.all false
open Go renaming Goroutine->aa,FuncId->ab,LoopState->ac
open Go.Frame renaming enter->ad
open List renaming range->ae,idxOf_lt_length_of_mem->ag,length_append->ai,length_cons->ao
open Go.Proofs.Tryz renaming progTables->ap,funcs->aq,f144->ar,func144->aw
open Option renaming map_some->aB,getD_some->aF
open Bool renaming or_eq_true->aH,rec->aI
open Nat renaming le_trans->aJ,lt_of_lt_of_le->aL,lt_irrefl->aP,beq->aT
open ByteArray renaming empty->a5
open Go.Obj renaming cells->a6
open Go.World renaming cell?->a7,size_alloc->a8
open Array renaming getElem?_push_lt->a9,getElem?_eq_getElem->ba
namespace Go.Proofs
open Go.Ph Go.Conc
set_option maxRecDepth 100000
section
variable (W bc bg bm bt:Nat)(c:Value)(n:Int)(cl:Value)(v:Value)(lb b5:Nat)(cs:List Frame)
noncomputable def q5(f:Nat->Value):aa:=T5 (G ⟨137,qJ W bc bg bm bt c n cl v (pt b5) f,.inRegion dX []::kr,[],.run,.normal,some lb⟩ cs)
def q_5(f:Nat->Value):vN (G ⟨137,qJ W bc bg bm bt c n cl v (pt b5) f,.inRegion dX []::kr,[],.run,.normal,some lb⟩ cs) (q5 W bc bg bm bt c n cl v lb b5 cs f):=jK (by delta q5;rfl)
noncomputable def c1(f:Nat->Value):Frame:=(q5 W bc bg bm bt c n cl v lb b5 cs f).callers.headD default
def aj9(f:Nat->Value):q5 W bc bg bm bt c n cl v lb b5 cs f=G (ad PP 140 #[pt bm] .normal) (c1 W bc bg bm bt c n cl v lb b5 cs f::cs):=by kernel_rfl
noncomputable def q6(f:Nat->Value):aa:=T5 (G ((c1 W bc bg bm bt c n cl v lb b5 cs f).finish (.tuple #[])) cs)
def q_6(f:Nat->Value):vN (G ((c1 W bc bg bm bt c n cl v lb b5 cs f).finish (.tuple #[])) cs) (q6 W bc bg bm bt c n cl v lb b5 cs f):=jK (by delta q6;rfl)
def aja(f:Nat->Value):q6 W bc bg bm bt c n cl v lb b5 cs f=G ⟨137,qJ W bc bg bm bt c n cl v (pt b5) (px 19 (.tuple #[]) f),[],[],.run,.normal,some lb⟩ cs:=by kernel_rfl
noncomputable def Pz(b:Nat):List Deferred:={ target:=.collected b,args:=#[] }::rG W
noncomputable def e1(b:Nat):aa:=T5 (G ⟨137,qJ W bc bg bm bt c n cl undef undef (λ_=>undef),kk,Pz W b,.run,.deferred,none⟩ [ez PP])
def e_1(b:Nat):vN (G ⟨137,qJ W bc bg bm bt c n cl undef undef (λ_=>undef),kk,Pz W b,.run,.deferred,none⟩ [ez PP]) (e1 W bc bg bm bt c n cl b):=jK (by delta e1;rfl)
def ajb(b:Nat):e1 W bc bg bm bt c n cl b=G ⟨137,qJ W bc bg bm bt c n cl undef undef (λ_=>undef),[],Pz W b,.returning,.deferred,none⟩ [ez PP]:=by kernel_rfl
def e_2:uo PP false 1 (G ⟨137,qJ W bc bg bm bt c n cl undef undef (λ_=>undef),[],rG W,.returning,.deferred,none⟩ [ez PP])/\∀d,YL PP false 1 d (G ⟨137,qJ W bc bg bm bt c n cl undef undef (λ_=>undef),[],rG W,.returning,.deferred,none⟩ [ez PP])=d:=⟨⟨λw=>by kernel_rfl,by kernel_rfl⟩,λd=>by kernel_rfl⟩
def ajc:adv PP false 1 (G ⟨137,qJ W bc bg bm bt c n cl undef undef (λ_=>undef),[],rG W,.returning,.deferred,none⟩ [ez PP])=dE W (qJ W bc bg bm bt c n cl undef undef (λ_=>undef)) []:=by kernel_rfl
end
end Go.Proofs
namespace Go.Proofs
open Go.bJ Go.Ph
def F3:ab->Bool:=λf=>f==110||f==144||f==145
def Y2:(ae Tryz.progTables.types.size).all (BI ap F3)=true:=by kernel_rfl
def PD:dM ap F3 ZZ:=Jf (Nat.le_refl _) Y2 (by kernel_rfl)
def adQ:Jg ap aq F3 NN ZZ 219=true:=by kernel_rfl
def PE:Tryz.funcs.size<=cn:=of_decide_eq_true (by kernel_rfl)
def Y3:((aq[110]?).any (·.norace)=false/\(aq[144]?).any (·.norace)=false)/\(aq[145]?).any (·.norace)=false:=⟨⟨by kernel_rfl,by kernel_rfl⟩,by kernel_rfl⟩
def PF:PP.funcs.all (λf=>((f.body.map readies).getD []).isEmpty)=true:=by kernel_rfl
def Uu(g:Nat):PP.stepOf g=none:=by
 unfold Program.stepOf;rw[Array.findIdx?_eq_none_iff];intro f hf;have:=Array.all_eq_true_iff_forall_mem.1 PF f hf
 cases h:f.body with
 |none=>rfl
 |some c=>
  rw[h]at this;simp only[aB,aF,List.isEmpty_iff]at this;simp[this]
def Uv:PP.follows .staticDataAhead=true:=by kernel_rfl
def Y4(fr:Frame)(cs:List Frame)(d:Option Dying)(g:Nat)(w:World):∃o w1 es,early PP fr cs d g w=.ended o w1 es:=by
 unfold early;simp only[Uv,Uu,Bool.not_true,Bool.false_eq_true,if_false];exact⟨_,_,_,rfl⟩
def adR:zG ap aq aq F3 ZZ:=by
 have h:Fits ap aq aq F3 NN ZZ:=BJ PD (n:=219) (λf hf=>by
  simp only[F3,aH,beq_iff_eq]at hf
  rcases hf with(rfl|rfl)|rfl<;>decide) (λf _=>rfl) (λf a=>by cases a) adQ PE
 refine⟨h.zero,h.fns,λf hf=>h.same f hf rfl,by decide,λf hf=>?_,Y4⟩;simp only[F3,aH,beq_iff_eq]at hf
 rcases hf with(rfl|rfl)|rfl
 ·exact Y3.1.1
 ·exact Y3.1.2
 ·exact Y3.2
end Go.Proofs
namespace Go.Ph
open Go.Conc Go.ConcN Go.bJ
section
variable {T:Tables}{fB fA:Array Func}{F:ab->Bool}{Z:TypeId->Bool}{X:Fix}{V:Vw}{Bs:Nat}{bot:Frame}{up:List Frame}{ρ ρ':Ren}{M M':Own}{g g':aa}{wL w w':World}{v v':Value}
def iG.same(h:iG T fB fA F Z bot up X V Bs ρ M g wL g' w)(hs:w.heap.size<=w'.heap.size)(hb:∀a b,ρ a b->w'.heap[b]?=w.heap[b]?):iG T fB fA F Z bot up X V Bs ρ M g wL g' w':=
 ⟨h.inj,⟨h.wr.pK,aJ h.wr.gN hs,h.wr.base,λ{a b}c d=>by
   obtain⟨o,e,f,i,j⟩:=h.wr.obj c d;exact⟨o,e,f,by rw[hb a b c];exact i,j⟩,λ{a b}c d=>by
   obtain⟨o,e,f,i,j⟩:=h.wr.low c d
   exact⟨o,e,f,by rw[hb a b c];exact i,j⟩⟩,h.g,h.own,h.clear,λb hb=>⟨aL (h.sG b hb).1 hs,(h.sG b hb).2⟩⟩
def iG.more(h:iG T fB fA F Z bot up X V Bs ρ M g wL g' w)(e:∀b,M b->M' b)(hc:Clear X V M')(hd:∀b,V.st b->¬M' b):iG T fB fA F Z bot up X V Bs ρ M' g wL g' w:=
 ⟨h.inj,h.wr,h.g,⟨λa b c d=>(h.own.st a b c d).imp id (e b),λa b c d=>e b (h.own.own a b c d)⟩,hc,λb hb=>⟨(h.sG b hb).1,hd b hb⟩⟩
def iG.apart(h:iG T fB fA F Z bot up X V Bs ρ M g wL g' w){a b:Nat}(d:ρ a b):jm X b:=by
 rcases Nat.lt_or_ge a Bs with c|c
 ·exact(h.own.st a b d c).elim (h.clear.st b) (h.clear.own b)
 ·exact h.clear.own b (h.own.own a b d c)
def _root_.Go.bJ.GC.fin(h:GC T fB fA F Z bot up ρ g g')(hv:VR F ρ v v'):GC T fB fA F Z bot up ρ (fin g v) (fin g' v'):=by
 obtain⟨a,⟨l,b,c,d,e,f⟩,i,j,k,m,n,o⟩:=h;exact⟨a.finish hv,⟨l,b,c,d,e,f.top (bZ _ _)⟩,i,j,k,m,n,o⟩
def iG.fin(h:iG T fB fA F Z bot up X V Bs ρ M g wL g' w)(hv:VR F ρ v v'):iG T fB fA F Z bot up X V Bs ρ M (fin g v) wL (fin g' v') w:=
 ⟨h.inj,h.wr,h.g.fin hv,h.own,h.clear,h.sG⟩
def _root_.Go.bJ.GC.op(h:GC T fB fA F Z bot up ρ g g'){o:Oper}(p:bF g=some o):bF g'=some o/\∀j,VR F ρ (g.frame.eval (.tmp j)) (g'.frame.eval (.tmp j)):=by
 obtain⟨a,⟨l,s,t,u,x,y⟩,z,c,A,d,B,e⟩:=h;obtain⟨fn,tmps,ops,i,f,k,defers,kind,C,cs,rfl,k1,k2,k3,q⟩:=gF p;obtain⟨⟨D,r,E,H,I,J,K⟩,cs',st',Bl,Bm⟩:=g';have b:=a.todo;have m:=a.mode;have n:=a.bX;simp only at b m n c d e;subst c d e n;cases m
 cases b with
 |cons hi b=>
  cases hi with
  |inRegion _ _ L=>
   have hy:yielded ops r=yielded ops tmps:=funext λj=>(oo ops a.tmps j).symm;refine⟨?_,λj=>VA.getD a.tmps j .undef⟩;simp only[bF,Option.isNone_none];rw[if_pos ⟨trivial,trivial,trivial,rfl⟩,k2];simp only[hy,k3,q];rfl
def iG.back(h:iG T fB fA F Z bot up X V Bs ρ M g wL g' w)(n:g.frame.mode=.returning)(hd:g.frame.defers=[])(hc:g.callers=[bot]) :
 ∃fr',g'=G fr' up/\fr'.fn=g.frame.fn/\fr'.mode=.returning/\fr'.kind=.normal/\fr'.defers=[]/\VA F ρ g.frame.tmps fr'.tmps:=by
 obtain⟨c,⟨l,q,e,f,o,r⟩,s,i,t,j,u,k⟩:=h.g;obtain⟨fr',cs',p,x,y⟩:=g';simp only at i j k f;subst i j k f;have hl:l=[]:=by
  rw[hc]at e
  cases l with
  |nil=>rfl
  |cons a l=>have:=congrArg List.length e;simp at this
 subst hl;cases o;have d:=c.mode;have b:=c.defers;simp only at d b;rw[n]at d;rw[hd]at b;refine⟨fr',by simp[G],c.fn,?_,c.bX,?_,c.tmps⟩
 ·generalize fr'.mode=m at d;cases d;rfl
 ·generalize fr'.defers=m at b;cases b;rfl
def oT{k:IntKind}{n:Int}(h:VR F ρ (.int k n) v):v=.int k n:=by cases h;rfl
def PG{c:Nat}(d:ρ.bw c){a b o:Nat}(h:VR F ρ (.pointer (some ⟨a,o,none⟩)) v)(e:ρ a b):v=.pointer (some ⟨b,o,none⟩):=by
 cases h with
 |@ptr _ f x=>
  obtain⟨b',i,j⟩:=f;obtain⟨x1,x2,x3⟩:=x;simp only at x1 x2 x3;subst x2 x3;rw[d.fn x1 e]
def Jy{a o:Nat}(h:VR F ρ (.pointer (some ⟨a,o,none⟩)) v):∃b,ρ a b/\v=.pointer (some ⟨b,o,none⟩):=by
 cases h with
 |@ptr _ c x=>
  obtain⟨b',d,e⟩:=c;obtain⟨x1,x2,x3⟩:=x;simp only at x1 x2 x3;subst x2 x3;exact⟨b',x1,rfl⟩
def xL{d:Nat}(e:ρ.bw d){a b o l c:Nat}(h:VR F ρ (.slice (some ⟨a,o,none⟩) l c) v)(f:ρ a b)(hl:0<l):v=.slice (some ⟨b,o,none⟩) l c:=by
 cases h with
 |dK=>exact absurd hl (aP _)
 |@slice _ i _ _ x=>
  obtain⟨b',j,k⟩:=i;obtain⟨x1,x2,x3⟩:=x;simp only at x1 x2 x3;subst x2 x3;rw[e.fn x1 f]
def PI{o:Nat}(p:ρ.bw o)(hF:∀f,F f=true->f<cn){b:Nat}(h:VR F ρ (.func (.func (cn+0)) #[] #[]) v)(q:ρ 0 b):v=.func (.yield b) #[] #[]:=by
 generalize d:(Fn.func (cn+0))=fx at h
 cases h with
 |@func fn s a i t c h j k=>
  have e1:i=#[]:=by cases m:i.toList with|nil=>exact Array.toList_eq_nil_iff.1 m|cons x y=>rw[m]at j;cases j
  have r:c=#[]:=by cases n:c.toList with|nil=>exact Array.toList_eq_nil_iff.1 n|cons x y=>rw[n]at k;cases k
  subst e1 r
  cases h with
  |func f hf=>
   cases d;exact absurd (hF _ hf) (aP _)
  |yield hl=>cases d
  |@spec l u hl=>
   have:l=0:=by
    have e:cn+0=cn+l:=Fn.func.inj d;exact(Nat.add_left_cancel e).symm
   subst this;rw[p.fn hl q]
def Y5{a:Array Value}(h:VR F ρ (.agg a) v):∃a',v=.agg a'/\VA F ρ a a':=by
 cases h with
 |agg h=>exact⟨_,rfl,h⟩
def Uw{l:List Int}{k:IntKind}{l':List Value}(h:cU F ρ (l.map (Value.int k)) l'):l'=l.map (Value.int k):=by
 induction l generalizing l' with
 |nil=>cases h;rfl
 |cons n l c=>
  cases h with
  |cons a b=>rw[oT a,c b];rfl
def Ux{l:Nat}(m:ρ.bw l){f:ab}(hF:∀f,F f=true->f<cn)(hf:f<cn){a b:Nat}(h:VR F ρ (.func (.func f) #[] #[.pointer (some ⟨a,0,none⟩),.pointer (some ⟨b,0,none⟩)]) v) :
 ∃a' b',ρ a a'/\ρ b b'/\v=.func (.func f) #[] #[.pointer (some ⟨a',0,none⟩),.pointer (some ⟨b',0,none⟩)]:=by
 generalize c:(Fn.func f)=fx at h
 cases h with
 |@func fn u x d y y' h i j=>
  have e1:d=#[]:=by cases k:d.toList with|nil=>exact Array.toList_eq_nil_iff.1 k|cons x y=>rw[k]at i;cases i
  subst e1;generalize hy:y'.toList=z at j
  cases j with
  |cons n o=>
   cases o with
   |cons p q=>
    cases q;obtain⟨a',r,rfl⟩:=Jy n;obtain⟨b',s,rfl⟩:=Jy p;have t:y'=#[.pointer (some ⟨a',0,none⟩),.pointer (some ⟨b',0,none⟩)]:=by
     apply Array.toList_inj.1;rw[hy]
    subst t;refine⟨a',b',r,s,?_⟩
    cases h with
    |func f hf=>cases c;rfl
    |yield hl=>cases c
    |spec hl=>
     have e:f=cn+_:=Fn.func.inj c;exact absurd hf (by rw[e];exact Nat.not_lt.2 (Nat.le_add_right _ _))
end
end Go.Ph
namespace Go.Proofs
open Go.Ph Go.Conc Go.bJ
set_option maxRecDepth 100000
noncomputable def yieldOf(g:aa):Option (Array Value):=match bF g with
 |some o=>match o.op with
  |.call c=>match c.callee with
   |.value x=>match g.frame.eval x with
    |.func (.func f) _ _=>@aI (λ_=>Option (Array Value)) none (some (c.args.map g.frame.eval)) (aT f cn)
    |_=>none
   |_=>none
  |_=>none
 |none=>none
noncomputable def PK(g:aa):Option (Nat×Value×Value):=match bF g with
 |some o=>match o.op with
  |.indexAddr t x i=>@aI (λ_=>Option (Nat×Value×Value)) none (some (0,g.frame.eval x,g.frame.eval i)) (aT t 25)
  |.load t x=>@aI (λ_=>Option (Nat×Value×Value)) (@aI (λ_=>Option (Nat×Value×Value)) none (some (2,g.frame.eval x,undef)) (aT t 73)) (some (1,g.frame.eval x,undef)) (aT t 67)
  |_=>none
 |none=>none
noncomputable def oU(g:aa):Bool:=!BS g||(yieldOf g).isSome||(PK g).isSome
structure jB where
 l:Int
 p:Int
 so:Option Addr
 sl:Nat
 sc:Nat
 qo:Option Addr
 ql:Nat
 qc:Nat
 pb:Nat
 po:Nat
 cp:Nat
 gb:Nat
 go:Nat
 ng:Nat
 cg:Nat
 pe:Nat->ByteArray
 pn:Nat->Nat->Int
 pl:Nat->Option Addr
 pc:Nat->Nat
 pd:Nat->Nat
section
variable (np s:Nat)(D:jB)(O:Nat->Obj)(n dl:Int)(gn:ByteArray)(x:Nat)
def cA:Array Value:=#[.int .i64 D.l,.int .i64 D.p,.slice D.so D.sl D.sc,.slice D.qo D.ql D.qc,.slice (some ⟨D.pb,D.po,none⟩) np D.cp,.slice (some ⟨D.gb,D.go,none⟩) D.ng D.cg]
def pA(i:Nat):Array Value:=#[.string (D.pe i),.int .i64 (D.pn i 1),.int .i64 (D.pn i 2),.int .i64 (D.pn i 3),.int .i64 (D.pn i 4),.int .i64 (D.pn i 5),.int .i64 (D.pn i 6),.int .i64 (D.pn i 7),.int .i64 (D.pn i 8),.int .i64 (D.pn i 9),.int .i64 (D.pn i 10),.slice (D.pl i) (D.pc i) (D.pd i)]
def gA:Array Value:=#[.string gn,.int .i64 (s:Int),.int .i64 dl]
def bY(r:Nat):Nat:=(s+r) % np
noncomputable def wL0:World:={ (default:World) with heap:=((ae (5+np)).map O).toArray }
noncomputable def gL0:aa:=G (ad PP 110 #[.agg (cA np D),.int .i64 n] .normal) [default]
noncomputable def A0:aa×World:=Jp PP oU 300 (gL0 np D n) (wL0 np O)
noncomputable def gL1:aa:=G (ad PP 144 #[.func (.func (cn+0)) #[] #[],.pointer (some ⟨5+np,0,none⟩),.pointer (some ⟨6+np,0,none⟩)] .normal) [default]
noncomputable def A1:aa×World:=Jp PP oU 300 (gL1 np) (A0 np D O n).2
noncomputable def A2:aa×World:=Jp PP oU 300 (fin (A1 np D O n).1 (.pointer (some ⟨D.gb,x,none⟩))) (A1 np D O n).2
noncomputable def A3:aa×World:=Jp PP oU 300 (fin (A2 np D O n x).1 (.agg (gA s dl gn))) (A2 np D O n x).2
noncomputable def Y6:List Item:=(A3 3 0 ⟨0,0,none,0,0,none,0,0,0,0,3,0,0,2,2,λ_=>a5,λ_ _=>0,λ_=>none,λ_=>0,λ_=>0⟩ (λ_=>.deferred none) 0 0 a5 0).1.frame.todo
def aje(np a r b c:Nat)(f:Nat->Value):Nat->Value
 |0=>.func (.func (cn+0)) #[] #[]|1=>.pointer (some ⟨5+np,0,none⟩)|2=>.pointer (some ⟨6+np,0,none⟩)|4=>.pointer (some ⟨7+np,0,none⟩)|5=>.pointer (some ⟨8+np,0,none⟩)
 |6=>.func (.func 145) #[] #[.pointer (some ⟨8+np,0,none⟩)]|7=>.int .i64 (a:Int)|27=>.int .i64 (np:Int)|28=>.int .i64 (r:Int)|34=>.pointer (some ⟨b,c+12*a,none⟩)|i=>f i
noncomputable def gR(r:Nat)(f:Nat->Value):aa:=G ⟨144,zj 61 (aje np (bY np s r) r D.pb D.po f),Y6,[],.run,.normal,none⟩ [default]
noncomputable def wR(r:Nat)(c:Int×Int)(Z:Nat->Obj):World:={ (default:World) with heap:=((ae (5+np)).map O++[a6 (cA np D) 121,a6 #[.int .i64 n] 3,a6 (gA s dl gn) 67,a6 #[.int .i64 c.1,.int .i64 c.2] 35]++(ae (6*r)).map Z).toArray }
noncomputable def Y7:jB:=⟨0,0,none,0,0,none,0,0,0,0,3,0,0,2,2,λ_=>a5,λ_ _=>0,λ_=>none,λ_=>0,λ_=>0⟩
noncomputable def Y8:List Item:=(Jp PP oU 600 (fin (A3 3 0 Y7 (λ_=>.deferred none) 0 0 a5 0).1 (.agg (pA Y7 0))) (A3 3 0 Y7 (λ_=>.deferred none) 0 0 a5 0).2).1.frame.todo
def l9(r:Nat)(c:Int×Int):Int×Int:=(IntKind.i64.wrap (c.1+D.pn (bY np s r) 7),IntKind.i64.wrap (c.2+D.pn (bY np s r) 8))
def cG(r:Nat)(c:Int×Int):Array Value:=#[.int .i64 ((bY np s r:Nat):Int),.int .i64 c.1,.int .i64 c.2,.int .i64 (l9 np s D r c).1,.int .i64 (l9 np s D r c).2]
def FY(np a r:Nat)(v:Value)(f:Nat->Value):Nat->Value
 |0=>.func (.func (cn+0)) #[] #[]|1=>.pointer (some ⟨5+np,0,none⟩)|2=>.pointer (some ⟨6+np,0,none⟩)|4=>.pointer (some ⟨7+np,0,none⟩)|5=>.pointer (some ⟨8+np,0,none⟩)
 |6=>.func (.func 145) #[] #[.pointer (some ⟨8+np,0,none⟩)]|7=>.int .i64 (a:Int)|8=>.pointer (some ⟨9+np+6*r,0,none⟩)|27=>.int .i64 (np:Int)|28=>.int .i64 (r:Int)
 |44=>.func (.func (cn+0)) #[] #[]|45=>v|i=>f i
noncomputable def gY(r:Nat)(c:Int×Int)(f:Nat->Value):aa:=G ⟨144,zj 61 (FY np (bY np s r) r (.agg (cG np s D r c)) f),Y8,[],.run,.normal,none⟩ [default]
noncomputable def wY(r:Nat)(c:Int×Int)(Z:Nat->Obj):World:={ (default:World) with heap:=((ae (5+np)).map O++[a6 (cA np D) 121,a6 #[.int .i64 n] 3,a6 (gA s dl gn) 67,a6 #[.int .i64 c.1,.int .i64 c.2] 35]++(ae (6*r)).map Z++[a6 (pA D (bY np s r)) 73,Z (6*r+1),Z (6*r+2),Z (6*r+3)]).toArray }
noncomputable def Yd(g:aa)(w:World)(r:Nat):aa×World:=Jp PP oU 600 (fin g (.agg (pA D (bY np s r)))) w
noncomputable def Nx(g:aa)(w:World):aa×World:=Jp PP oU 300 (fin g (.bool true)) w
def WZ(r:Nat)(c:Int×Int):Int×Int:=(IntKind.i64.wrap ((l9 np s D r c).1+D.pn (bY np s r) 9),IntKind.i64.wrap ((l9 np s D r c).2+D.pn (bY np s r) 10))
abbrev Good(m:Nat)(g:aa)(w:World):Prop:=∀a d,DO PP (5+np) oU a d m g w=DQ PP (5+np) oU a d m g w
structure Y9(f:ab)(g:aa):Prop where
 fn:g.frame.fn=f
 mode:g.frame.mode=.returning
 kind:g.frame.kind=.normal
 defers:g.frame.defers=[]
 callers:g.callers=[default]
end
structure j0(np s r:Nat):Prop where
 c3:∀D f,(bF (gR np s D r f)).map (·.op)=some (.load 73 (.tmp 34))/\(gR np s D r f).frame.eval (.tmp 34)=.pointer (some ⟨D.pb,D.po+12*bY np s r,none⟩)
 e4:∀D O n dl gn c f Z,Good np 600 (fin (gR np s D r f) (.agg (pA D (bY np s r)))) (wR np s D O n dl gn r c Z)
 y:∀D O n dl gn c f Z,∃f' Z',Yd np s D (gR np s D r f) (wR np s D O n dl gn r c Z) r=(gY np s D r c f',wY np s D O n dl gn r (l9 np s D r c) Z')
 c4:∀D c f,(bF (gY np s D r c f)).map (·.op)=some (.call { callee:=.value (.tmp 44),args:=#[.tmp 45],argTypes:=#[61] })/\(gY np s D r c f).frame.eval (.tmp 44)=.func (.func (cn+0)) #[] #[]/\(gY np s D r c f).frame.eval (.tmp 45)=.agg (cG np s D r c)
 e5:∀D O n dl gn c c' f Z,Good np 300 (fin (gY np s D r c f) (.bool true)) (wY np s D O n dl gn r c' Z)
structure mg(np s r:Nat):Prop where
 next:∀D O n dl gn c f Z,∃f' Z',Nx (gY np s D r c f) (wY np s D O n dl gn r (l9 np s D r c) Z)=(gR np s D (r+1) f',wR np s D O n dl gn (r+1) (WZ np s D r c) Z')
structure xM(np s r:Nat):Prop where
 back:∀D O n dl gn c c' f Z,Y9 144 (Nx (gY np s D r c f) (wY np s D O n dl gn r c' Z)).1
structure FE(np s:Nat):Prop where
 e0:∀D O n,Good np 300 (gL0 np D n) (wL0 np O)
 b0:∀D O n,Y9 110 (A0 np D O n).1/\(A0 np D O n).1.frame.tmps.getD 4 undef=.func (.func 144) #[] #[.pointer (some ⟨5+np,0,none⟩),.pointer (some ⟨6+np,0,none⟩)]
 h0:∀D O n,(A0 np D O n).2.heap[0]?=some (O 0)
 e1:∀D O n,Good np 300 (gL1 np) (A0 np D O n).2
 c1:∀D O n,(bF (A1 np D O n).1).map (·.op)=some (.indexAddr 25 (.tmp 12) (.tmp 13))/\(A1 np D O n).1.frame.eval (.tmp 12)=.slice (some ⟨D.gb,D.go,none⟩) D.ng D.cg/\(A1 np D O n).1.frame.eval (.tmp 13)=.int .i64 n
 e2:∀D O n x,Good np 300 (fin (A1 np D O n).1 (.pointer (some ⟨D.gb,x,none⟩))) (A1 np D O n).2
 c2:∀D O n x,(bF (A2 np D O n x).1).map (·.op)=some (.load 67 (.tmp 14))/\(A2 np D O n x).1.frame.eval (.tmp 14)=.pointer (some ⟨D.gb,x,none⟩)
 e3:∀D O n dl gn x,Good np 300 (fin (A2 np D O n x).1 (.agg (gA s dl gn))) (A2 np D O n x).2
 r0:∀D O n dl gn x,∃f' Z',A3 np s D O n dl gn x=(gR np s D 0 f',wR np s D O n dl gn 0 (dl,dl) Z')
 round:∀r,r<np->j0 np s r
 next:∀r,r+1<np->mg np s r
 last:∀r,r+1=np->xM np s r
end Go.Proofs
namespace Go.Ph
open Go.Conc Go.ConcN Go.bJ
structure LW(T:Tables)(F:ab->Bool)(Z:TypeId->Bool)(X:Fix)(V:Vw)(Bs:Nat)(ρ:Ren)(M:Own)(wL w:World):Prop where
 inj:ρ.bw T.globals.size
 wr:WC Bs T.globals.size F (codeOk T F Z) ρ wL w
 own:StO V M Bs ρ
 clear:Clear X V M
 sG:∀b,V.st b->b<w.heap.size/\¬M b
section
variable {T:Tables}{fB fA:Array Func}{F:ab->Bool}{Z:TypeId->Bool}{X:Fix}{V:Vw}{Bs:Nat}{bot:Frame}{up:List Frame}{ρ ρ':Ren}{M M':Own}{g g':aa}{wL w w':World}
def iG.lw(h:iG T fB fA F Z bot up X V Bs ρ M g wL g' w):LW T F Z X V Bs ρ M wL w:=⟨h.inj,h.wr,h.own,h.clear,h.sG⟩
def LW.like(h:LW T F Z X V Bs ρ M wL w)(k:GC T fB fA F Z bot up ρ g g'):iG T fB fA F Z bot up X V Bs ρ M g wL g' w:=⟨h.inj,h.wr,k,h.own,h.clear,h.sG⟩
def LW.loop(h:LW T F Z X V Bs ρ M wL w)(v:T.globals.size=0)(p:∀b,¬ρ 0 b)(z:0<Bs){lL l':Loop}{lb:Nat}(t:wL.heap[0]?=some (.loop lL))(hl:w'.heap[lb]?=some (.loop l'))(A:w.heap.size<=lb)(q:∀b,M b->M' b)(e:M' lb)
 (hc:Clear X V M') (hd:∀b,V.st b->¬M' b) (hs:w.heap.size<=w'.heap.size) (hb:∀b,b<w.heap.size->w'.heap[b]?=w.heap[b]?):LW T F Z X V Bs (λa b=>ρ a b\/(a=0/\b=lb)) M' wL w':=by
 have d:∀{a b},ρ a b->b<w.heap.size:=λu=>(h.wr.lt u).2;refine⟨⟨λ{a b b'}x y=>?_,λ{a B b}x y=>?_,λ{a b}_=>by omega⟩,⟨h.wr.pK,aJ h.wr.gN hs,h.wr.base,λ{a b}c f=>?_,λ{a b}c f=>?_⟩,⟨λa b c i=>?_,λa b c i=>?_⟩,hc,λb r=>⟨aL (h.sG b r).1 hs,hd b r⟩⟩
 ·rcases x with x|⟨x1,x2⟩<;>rcases y with y|⟨y1,y2⟩
  ·exact h.inj.fn x y
  ·subst y1;exact absurd x (p _)
  ·subst x1;exact absurd y (p _)
  ·rw[x2,y2]
 ·rcases x with x|⟨x1,x2⟩<;>rcases y with y|⟨y1,y2⟩
  ·exact h.inj.inj x y
  ·have:=d x;omega
  ·have:=d y;omega
  ·rw[x1,y1]
 ·rcases c with c|⟨rfl,_⟩
  ·obtain⟨o,j,k,l,m⟩:=h.wr.obj c f;exact⟨o,j,k,by rw[hb b (d c)];exact l,m.mono λ_ _ x=>.inl x⟩
  ·omega
 ·rcases c with c|⟨rfl,rfl⟩
  ·obtain⟨o,j,k,l,m⟩:=h.wr.low c f;exact⟨o,j,k,by rw[hb b (d c)];exact l,m⟩
  ·exact⟨_,_,t,hl,.loop _ _⟩
 ·rcases c with c|⟨_,rfl⟩
  ·exact(h.own.st a b c i).imp id (q b)
  ·exact .inr e
 ·rcases c with c|⟨rfl,_⟩
  ·exact q b (h.own.own a b c i)
  ·omega
end
end Go.Ph
namespace Go.Proofs
open Go.Ph Go.Conc Go.ConcN Go.bJ
set_option maxRecDepth 100000
def dR(np:Nat)(D:jB):List Nat:=D.pb::D.gb::((D.so.toList++D.qo.toList++(ae np).flatMap λi=>(D.pl i).toList).map (·.block))
def Jz(np:Nat)(D:jB)(b:Nat):Nat:=1+(dR np D).idxOf b
def Uy(np:Nat)(D:jB)(a:Addr):Addr:=⟨Jz np D a.block,a.off,a.spot⟩
def aW(np:Nat)(D:jB):jB:={ D with so:=D.so.map (Uy np D),qo:=D.qo.map (Uy np D),pb:=Jz np D D.pb,gb:=Jz np D D.gb,pl:=λi=>(D.pl i).map (Uy np D) }
def sI(np:Nat)(D:jB):Ren:=λa b=>b∈dR np D/\a=Jz np D b
noncomputable def hU(np:Nat)(D:jB)(w0:World):Nat->Obj
 |0=>.loop default
 |a+1=>match(dR np D)[a]? with
  |some b=>(w0.heap[b]?).getD (.loop default)
  |none=>.loop default
structure zl(X:Fix)(V:Vw)(D:jB)(np s n:Nat)(dl:Int)(gn:ByteArray)(bc bg bt:Nat)(w0:World):Prop where
 hP:X.P=PP
 hg:(V.g==0)=false
 ids:WO X
 apart:∀b,V.st b->jm X b
 shun:∀b,V.st b->∀a':Addr,a'.block=b->¬X.Shun (.cell a')
 n3:X.n<=3
 sz:X.size=75
 low:∀b,V.st b->b<w0.heap.size
 bc:V.st bc/\w0.heap[bc]?=some (.cells (cA np D) 121)
 bg:V.st bg/\w0.cell? ⟨bg,0,none⟩=some (.int .i64 (n:Int))
 bt:V.st bt/\w0.cell? ⟨bt,0,none⟩=some (.pointer (some ⟨X.Tb,0,none⟩))
 blk:∀b,b∈dR np D->V.st b/\∃c t fz,w0.heap[b]?=some (.cells c t fz)
 G8:∀i,i<np->∀j,j<12->w0.cell? ⟨D.pb,D.po+12*i+j,none⟩=(pA D i)[j]?
 PM:∀j,j<3->w0.cell? ⟨D.gb,D.go+3*n+j,none⟩=(gA s dl gn)[j]?
 hn:n<3
 Zb:n<D.ng
 hs:s<np
 MC:np<=5
 row:∀j,n*25<=j->j<n*25+25->V.row j
structure Kn(X:Fix)(V:Vw)(w0 w:World):Prop where
 live:Live X w
 st:∀b,V.st b->w.heap[b]?=w0.heap[b]?
 size:w0.heap.size<=w.heap.size
section
variable {X:Fix}{V:Vw}{D:jB}{np s n:Nat}{dl:Int}{gn:ByteArray}{bc bg bt:Nat}{w0 w w':World}{M:Own}{ρ:Ren}
def Kn.rl(h:Kn X V w0 w)(r:Rl X V M w w'):Kn X V w0 w':=⟨r.live h.live,λb hb=>(r.st b hb).trans (h.st b hb),aJ h.size r.size⟩
def Kn.stay(h:Kn X V w0 w)(r:qw X V (5+np) ρ M w w')(l:Live X w'):Kn X V w0 w':=⟨l,λb hb=>(r.st b hb).trans (h.st b hb),aJ h.size r.size⟩
def Kn.cell(h:Kn X V w0 w){b o:Nat}(hb:V.st b):w.cell? ⟨b,o,none⟩=w0.cell? ⟨b,o,none⟩:=by simp only[a7,h.st b hb]
def zl.clear(k:zl X V D np s n dl gn bc bg bt w0)(a:∀b,M b->jm X b):Clear X V M:=⟨k.ids,k.apart,a⟩
def BW{b:Nat}(h:b∈dR np D):1<=Jz np D b/\Jz np D b<5+np:=by
 have f:=ag h;have j:(dR np D).length<=4+np:=by
  have c:∀o:Option Addr,o.toList.length<=1:=λo=>by cases o<;>simp
  have d:∀l:List Nat,(l.flatMap λi=>(D.pl i).toList).length<=l.length:=by
   intro l
   induction l with
   |nil=>simp
   |cons a l k=>
    rw[List.flatMap_cons,ai,ao];have:=c (D.pl a);omega
  have e:=d (ae np);have m:=c D.so;have p:=c D.qo;simp only[dR,ao,List.length_map,ai,List.length_range]at e⊢;omega
 unfold Jz;omega
def BX{b:Nat}(h:b∈dR np D):(dR np D)[(dR np D).idxOf b]?=some b:=by
 have a:=ag h;rw[List.getElem?_eq_getElem a,List.getElem_idxOf a]
def PN:(sI np D).bw 0:=by
 refine⟨λ{a b b'}x y=>?_,λ{a f b}x y=>x.2.trans y.2.symm,λ{a b}_=>by omega⟩;have e:(dR np D).idxOf b=(dR np D).idxOf b':=by
  have:=x.2.symm.trans y.2;unfold Jz at this;omega
 have c:=BX x.1;have d:=BX y.1;rw[e,d]at c;exact(Option.some.inj c).symm
def pW{b:Nat}(h:b∈dR np D):sI np D (Jz np D b) b:=⟨h,rfl⟩
def pX:Tryz.progTables.globals.size=0:=by kernel_rfl
def zl.lw0(k:zl X V D np s n dl gn bc bg bt w0)(h:Kn X V w0 w):LW ap F3 ZZ X V (5+np) (sI np D) nobody (wL0 np (hU np D w0)) w:=by
 have j:(wL0 np (hU np D w0)).heap.size=5+np:=by simp[wL0]
 refine⟨by rw[pX];exact PN,⟨by rw[pX];omega,by rw[pX];omega,by rw[j];omega,λ{a b}d hb=>?_,λ{a b}d hb=>?_⟩,⟨λa b d _=>.inl (k.blk b d.1).1,λa b d hb=>?_⟩,k.clear λb hb=>hb.elim,λb hb=>⟨aL (k.low b hb) h.size,λx=>x⟩⟩
 ·have:=(BW d.1).2;have:=d.2;omega
 ·obtain⟨l,c,t,f,hc⟩:=k.blk b d.1;refine⟨.cells c t f,.cells c t f,?_,by rw[h.st b l];exact hc,.cells t f rfl⟩;have i:=BW d.1;rw[<-d.2]at i;have e:a=(dR np D).idxOf b+1:=by rw[d.2];unfold Jz;omega
  simp only[wL0,List.getElem?_toArray,List.getElem?_map];rw[List.getElem?_range i.2];simp only[aB,e,hU,BX d.1,hc,aF]
 ·have:=(BW d.1).2;have:=d.2;omega
def BZ{o:Option Addr}{l c:Nat}(h:∀a,o=some a->a.block∈dR np D):VR F3 (sI np D) (.slice (o.map (Uy np D)) l c) (.slice o l c):=by
 cases o with
 |none=>exact .di _ _
 |some a=>exact .slice _ _ ⟨pW (h a rfl),rfl,rfl⟩
def Zc{a:Addr}(h:D.so=some a):a.block∈dR np D:=by simp[dR,h]
def Zd{a:Addr}(h:D.qo=some a):a.block∈dR np D:=by simp[dR,h]
def mem_pl{a:Addr}{i:Nat}(hi:i<np)(h:D.pl i=some a):a.block∈dR np D:=by
 simp only[dR,List.mem_cons,List.mem_map,List.mem_append,List.mem_flatMap,List.mem_range,Option.mem_toList];exact .inr (.inr ⟨a,.inr ⟨i,hi,h⟩,rfl⟩)
def MD:VA F3 (sI np D) (cA np (aW np D)) (cA np D):=
 .cons (.int _ _) (.cons (.int _ _) (.cons (BZ λ_ h=>Zc h) (.cons (BZ λ_ h=>Zd h) (.cons (.slice _ _ ⟨pW (by simp[dR]),rfl,rfl⟩) (.cons (.slice _ _ ⟨pW (by simp[dR]),rfl,rfl⟩) .nil)))))
def Ze{i:Nat}(hi:i<np):VA F3 (sI np D) (pA (aW np D) i) (pA D i):=
 .cons (.string _) (.cons (.int _ _) (.cons (.int _ _) (.cons (.int _ _) (.cons (.int _ _) (.cons (.int _ _) (.cons (.int _ _) (.cons (.int _ _) (.cons (.int _ _) (.cons (.int _ _) (.cons (.int _ _) (.cons (BZ λ_ h=>mem_pl hi h) .nil)))))))))))
def Zf{ρ:Ren}:VA F3 ρ (gA s dl gn) (gA s dl gn):=.cons (.string _) (.cons (.int _ _) (.cons (.int _ _) .nil))
end
def W6:PP=⟨ap,aq⟩:=rfl
abbrev LWs(X:Fix)(V:Vw)(np:Nat)(ρ:Ren)(M:Own)(wL w:World):Prop:=LW ap F3 ZZ X V (5+np) ρ M wL w
abbrev LK(up:List Frame)(X:Fix)(V:Vw)(np:Nat)(ρ:Ren)(M:Own)(g:aa)(wL:World)(g':aa)(w:World):Prop:=iG ap aq aq F3 ZZ default up X V (5+np) ρ M g wL g' w
def Xa:∀f,F3 f=true->f<cn:=λf hf=>by
 simp only[F3,aH,beq_iff_eq]at hf
 rcases hf with(rfl|rfl)|rfl<;>decide
def Ar{ρ:Ren}{f:ab}(hf:F3 f=true){a a':Array Value}(h:VA F3 ρ a a'):aQ ap F3 ZZ aq aq ρ (ad PP f a .normal) (ad PP f a' .normal):=by
 have e:=fe (T:=ap) (fB:=aq) (fA:=aq) (Z:=ZZ) (adR.same f hf) hf h;rw[<-W6]at e;exact e
def Zg:∃fn,PP.funcs[110]?=some fn/\fn.results=#[.tmp 4]:=⟨Tryz.f110,Tryz.func110,rfl⟩
def Zh:∃fn,PP.funcs[144]?=some fn/\fn.results=#[]:=⟨ar,aw,rfl⟩
section
variable {X:Fix}{V:Vw}{D:jB}{np s n:Nat}{dl:Int}{gn:ByteArray}{bc bg bt:Nat}{w0 w w':World}{M:Own}{ρ:Ren}{Stop:Stp}{d:Nat}{up:List Frame}{g g':aa}{wL:World}{c:Frame}{cs:List Frame}
def JA(k:zl X V D np s n dl gn bc bg bt w0){m:Nat}{q:aa×World}(r:q=Jp PP oU m g wL)(hg:Good np m g wL)(h:LK up X V np ρ M g wL g' w)(o:Kn X V w0 w)
 (K:∀i j l w2,LK up X V np i j q.1 q.2 l w2->Kn X V w0 w2->(∀b,M b->j b)->(∀a b,ρ a b->i a b)->(∀a b,i a b->ρ a b\/(5+np<=a/\w.heap.size<=b))->qw X V (5+np) ρ M w w2->ay X V false Stop j d l w2):ay X V false Stop M d g' w:=by
 obtain⟨m',p⟩:=Pn default m hg;rw[<-r]at p;exact ay.lone adR (k.hP.trans W6) m' p h o.live λi j l w2 a b c d e f=>K i j l w2 a (o.stay f b) c d e f
def adU{e:Ren}(h:∀a b,e a b->sI np D a b\/(5+np<=a/\w.heap.size<=b)):∀b,¬e 0 b:=λb x=>by
 rcases h 0 b x with y|y
 ·have:=(BW y.1).1;have:=y.2;omega
 ·omega
def adV:GC ap aq aq F3 ZZ default up (sI np D) (gL0 np (aW np D) n) (G (ad PP 110 #[.agg (cA np D),.int .i64 (n:Int)] .normal) up):=by
 have e:=Ar (ρ:=sI np D) (f:=110) (by decide) (a:=#[.agg (cA np (aW np D)),.int .i64 (n:Int)]) (a':=#[.agg (cA np D),.int .i64 (n:Int)]) (.cons (.agg MD) (.cons (.int _ _) .nil));exact⟨e,⟨[],[],rfl,rfl,.nil,λx b=>(by cases b;rfl)⟩,rfl,rfl,rfl,rfl,rfl,rfl⟩
def Zi(k:zl X V D np s n dl gn bc bg bt w0)(j:FE np s)(l:Kn X V w0 w)
 (K:∀ρ M b0 e w2,LWs X V np ρ M (A0 np (aW np D) (hU np D w0) n).2 w2->Kn X V w0 w2->ρ (5+np) b0->ρ (6+np) e->(∀a b,sI np D a b->ρ a b)->(∀b,¬ρ 0 b)->qw X V (5+np) (sI np D) nobody w w2->
   ay X V false Stop M 0 (G (c.finish (.func (.func 144) #[] #[pt b0,pt e])) cs) w2) :
 ay X V false Stop nobody 0 (G (ad PP 110 #[.agg (cA np D),.int .i64 (n:Int)] .normal) (c::cs)) w:=by
 refine JA k (q:=A0 np (aW np D) (hU np D w0) n) (by delta A0;rfl) (j.e0 (aW np D) (hU np D w0) n) ((k.lw0 l).like adV) l λm o H w2 f p _ h i r=>?_;obtain⟨hb,t⟩:=j.b0 (aW np D) (hU np D w0) n;obtain⟨u,rfl,e1,v,x,y,z⟩:=f.back hb.mode hb.defers hb.callers;have hv:=VA.getD z 4 (.undef);rw[t]at hv;obtain⟨b0,e,A,B,C⟩:=Ux f.inj Xa (by decide) hv;obtain⟨fn,E,F⟩:=Zg;refine .leave1 f.clear v x y (by rw[k.hP,e1,hb.fn];exact E) F ?_;rw[C];exact K m o b0 e w2 f.lw p A B h (adU i) r
end
noncomputable def c3(W bc bg bm bt:Nat)(c:Value)(n:Int)(a:Value)(lb:Nat):Frame:=⟨137,qJ W bc bg bm bt c n a undef undef (λ_=>undef),.inRangeFunc lb::kk,Pz W (lb-1),.run,.deferred,none⟩
noncomputable def ajh(W bc bg bm bt:Nat)(c:Value)(n:Int)(a:Value)(lb:Nat)(st:ac):Loop:={ state:=st,pending:=none,fn:=137,tmps:=qJ W bc bg bm bt c n a undef undef (λ_=>undef),params:=#[9],assign:=vl,body:=lZ,defers:=lb-1 }
def Uz:∃fd,PP.funcs[144]?=some fd/\fd.body.isSome=true/\fd.name≠ "runtime.NumGoroutine":=⟨ar,aw,rfl,by decide +kernel⟩
noncomputable abbrev vO(b0 b1:Nat):Value:=.func (.func 144) #[] #[pt b0,pt b1]
abbrev sJ(np:Nat)(D:jB):Value:=.agg (cA np D)
noncomputable abbrev xN(X:Fix)(np:Nat)(D:jB)(n bc bg bt b0 b1 lb:Nat):Frame:=c3 X.Wg bc bg X.Mu bt (sJ np D) (n:Int) (vO b0 b1) lb
noncomputable abbrev Ti(X:Fix)(np:Nat)(D:jB)(n bc bg bt b0 b1 lb:Nat)(st:ac):Loop:=ajh X.Wg bc bg X.Mu bt (sJ np D) (n:Int) (vO b0 b1) lb st
section
variable {X:Fix}{V:Vw}{D:jB}{np s n:Nat}{dl:Int}{gn:ByteArray}{bc bg bt:Nat}{w0 w w':World}{M:Own}{ρ:Ren}{Stop:Stp}{d:Nat}{up:List Frame}{g g':aa}{wL:World}{c:Frame}{cs:List Frame}{bm b0 b1:Nat}
structure Gd(X:Fix)(np:Nat)(D:jB)(n bc bg bt b0 b1:Nat)(ρ:Ren)(M:Own)(lb:Nat)(st:ac)(w:World):Prop where
 r0:ρ 0 lb
 ml:M lb
 md:M (lb-1)
 pos:1<=lb
 un:∀a,¬ρ a (lb-1)
 hl:w.heap[lb]?=some (.loop (Ti X np D n bc bg bt b0 b1 lb st))
 hd:w.heap[lb-1]?=some (.deferred (some []))
def Gd.rl{lb:Nat}{st:ac}(h:Gd X np D n bc bg bt b0 b1 ρ M lb st w)(r:Rl X V M w w'):Gd X np D n bc bg bt b0 b1 ρ M lb st w':=
 { h with hl:=(r.own _ h.ml).trans h.hl,hd:=(r.own _ h.md).trans h.hd }
def bn{w:World}{b:Nat}{o:Obj}(h:w.heap[b]?=some o):b<w.heap.size:=(Array.getElem?_eq_some_iff.1 h).1
def Gd.stay{lb:Nat}{st:ac}{e:Ren}{j:Own}(h:Gd X np D n bc bg bt b0 b1 ρ M lb st w)(r:qw X V (5+np) ρ M w w')(k:∀b,M b->j b)(f:∀a b,ρ a b->e a b)(i:∀a b,e a b->ρ a b\/(5+np<=a/\w.heap.size<=b)):Gd X np D n bc bg bt b0 b1 e j lb st w':=
 ⟨f _ _ h.r0,k _ h.ml,k _ h.md,h.pos,λa x=>by
   rcases i a _ x with y|y
   ·exact h.un a y
   ·have:=bn h.hd;omega,(r.low _ _ h.r0 (by omega)).trans h.hl,(r.own _ h.md (bn h.hd) h.un).trans h.hd⟩
def Zj(k:zl X V D np s n dl gn bc bg bt w0)(N:Kn X V w0 w)(m:LWs X V np ρ M (A0 np (aW np D) (hU np D w0) n).2 w)(R:FE np s)(S:ρ (5+np) b0)(T:ρ (6+np) b1)(U:∀b,¬ρ 0 b)(z:∀a b,sI np D a b->ρ a b)
 (K:∀p M' lb w',LK [xN X np D n bc bg bt b0 b1 lb,ez PP] X V np p M' (gL1 np) (A0 np (aW np D) (hU np D w0) n).2 (G (ad PP 144 #[.func (.yield lb) #[] #[],pt b0,pt b1] .normal) [xN X np D n bc bg bt b0 b1 lb,ez PP]) w'->Kn X V w0 w'->Gd X np D n bc bg bt b0 b1 p M' lb .ready w'->(∀a b,sI np D a b->p a b)->
   (∀o,V.row o->w'.cell? ⟨X.Tb,o,none⟩=w.cell? ⟨X.Tb,o,none⟩)->ay X V false Stop M' 0 (G (ad PP 144 #[.func (.yield lb) #[] #[],pt b0,pt b1] .normal) [xN X np D n bc bg bt b0 b1 lb,ez PP]) w') :
 ay X V false Stop M 0 (G (((k2 X.Wg bc bg X.Mu bt (sJ np D) (n:Int)).callers.headD default).finish (vO b0 b1)) [ez PP]) w:=by
 refine(k_3 X.Wg bc bg X.Mu bt (sJ np D) (n:Int) (vO b0 b1)).run k.hP k.hg ?_;rw[aiZ];obtain⟨fd,hF,hb,W⟩:=Uz;refine .own m.clear rfl N.live λi r=>?_;have zz:=N.rl r;have st:=GZ (P:=PP) (mn:=V.g==0) (w:=i) (fn:=137) (tmps:=qJ X.Wg bc bg X.Mu bt (sJ np D) (n:Int) (vO b0 b1) undef undef (λ_=>undef)) (f:=.tmp 8) (ps:=#[9]) (assign:=vl) (body:=lZ) (k:=kk) (defers:=rG X.Wg) (kind:=.deferred) (cs:=[ez PP]) (F:=144) (caps:=#[pt b0,pt b1]) (fd:=fd) rfl (Ju (n:=20) (j:=8) (by omega)) hF hb W;rw[k.hP];have Y:M.more i ((i.alloc (.deferred (some []))).alloc (uw 137 (qJ X.Wg bc bg X.Mu bt (sJ np D) (n:Int) (vO b0 b1) undef undef (λ_=>undef)) #[9] vl lZ i.heap.size))=λb=>M b\/b=i.heap.size\/b=i.heap.size+1:=by
  funext x;unfold Own.more;simp only[a8];exact propext ⟨λh=>h.imp id λx=>by omega,λh=>h.imp id λx=>by omega⟩
 have l:∀b,b<i.heap.size->((i.alloc (.deferred (some []))).alloc (uw 137 (qJ X.Wg bc bg X.Mu bt (sJ np D) (n:Int) (vO b0 b1) undef undef (λ_=>undef)) #[9] vl lZ i.heap.size)).heap[b]?=i.heap[b]?:=λb hb=>by
  show((i.heap.push _).push _)[b]?=_;rw[a9 (by simp;omega),<-ba (by simp;omega),a9 hb,<-ba hb]
 have A:((i.alloc (.deferred (some []))).alloc (uw 137 (qJ X.Wg bc bg X.Mu bt (sJ np D) (n:Int) (vO b0 b1) undef undef (λ_=>undef)) #[9] vl lZ i.heap.size)).heap[i.heap.size]?=some (.deferred (some [])):=by
  show((i.heap.push _).push _)[i.heap.size]?=_;rw[a9 (by simp)];simp
 have t:((i.alloc (.deferred (some []))).alloc (uw 137 (qJ X.Wg bc bg X.Mu bt (sJ np D) (n:Int) (vO b0 b1) undef undef (λ_=>undef)) #[9] vl lZ i.heap.size)).heap[i.heap.size+1]?=some (.loop (Ti X np D n bc bg bt b0 b1 (i.heap.size+1) .ready)):=by
  have e:∀o q:Obj,((i.heap.push o).push q)[i.heap.size+1]?=some q:=λo q=>by
   have e:i.heap.size+1=(i.heap.push o).size:=by simp
   rw[e,Array.getElem?_push_size]
  exact e _ _
 obtain⟨⟨_,_,v1⟩,⟨_,_,B⟩,Z,O,v4⟩:=zz.live;have lM:=bn v1;have lW:=bn B;have Q:=bn O;have sB:Clear X V (λb=>M b\/b=i.heap.size\/b=i.heap.size+1):=k.clear λb hb=>by
  rcases hb with hb|hb|hb
  ·exact m.clear.own b hb
  ·exact⟨by omega,by omega,by omega⟩
  ·exact⟨by omega,by omega,by omega⟩
 refine⟨_,_,#[],st,rfl,rfl,.refl _,by simp only[a8];omega,λb hb _=>l b hb,by simp,rfl,?_⟩;rw[Y];have y:LWs X V np ρ M (A0 np (aW np D) (hU np D w0) n).2 i:=by
  refine⟨m.inj,⟨m.wr.pK,aJ m.wr.gN r.size,m.wr.base,λ{a b}u v=>?_,λ{a b}u v=>?_⟩,m.own,m.clear,λb hb=>⟨aL (m.sG b hb).1 r.size,(m.sG b hb).2⟩⟩
  ·obtain⟨o,q,C,E,H⟩:=m.wr.obj u v;exact⟨o,q,C,by rw[r.own b (m.own.own a b u v)];exact E,H⟩
  ·obtain⟨o,q,C,E,H⟩:=m.wr.low u v;exact⟨o,q,C,by rw[(m.own.st a b u v).elim (r.st b) (r.own b)];exact E,H⟩
 have I:=y.loop pX U (by omega) (lL:=default) (R.h0 (aW np D) (hU np D w0) n) t (by omega) (M':=λb=>M b\/b=i.heap.size\/b=i.heap.size+1) (λ_ h=>.inl h) (.inr (.inr rfl)) sB (λb hb h=>by
  have:=(y.sG b hb)
  rcases h with h|h|h
  ·exact this.2 h
  ·omega
  ·omega) (by simp only[a8];omega) l
 have J:∀a b,ρ a b->b<i.heap.size:=λa b h=>(y.wr.lt h).2;have L:GC ap aq aq F3 ZZ default [xN X np D n bc bg bt b0 b1 (i.heap.size+1),ez PP] (λa b=>ρ a b\/(a=0/\b=i.heap.size+1)) (gL1 np) (G (ad PP 144 #[.func (.yield (i.heap.size+1)) #[] #[],pt b0,pt b1] .normal) [xN X np D n bc bg bt b0 b1 (i.heap.size+1),ez PP]):=by
  have e:=Ar (ρ:=λa b=>ρ a b\/(a=0/\b=i.heap.size+1)) (f:=144) (by decide) (a:=#[.func (.func (cn+0)) #[] #[],.pointer (some ⟨5+np,0,none⟩),.pointer (some ⟨6+np,0,none⟩)]) (a':=#[.func (.yield (i.heap.size+1)) #[] #[],pt b0,pt b1])
   (.cons (.func (.spec (.inr ⟨rfl,rfl⟩)) .nil .nil) (.cons (.ptr ⟨.inl S,rfl,rfl⟩) (.cons (.ptr ⟨.inl T,rfl,rfl⟩) .nil)))
  exact⟨e,⟨[],[],rfl,rfl,.nil,λx hx=>(by cases hx;rfl)⟩,rfl,rfl,rfl,rfl,rfl,rfl⟩
 refine K _ _ (i.heap.size+1) _ (I.like L) ⟨?_,λb hb=>?_,?_⟩ ⟨.inr ⟨rfl,rfl⟩,.inr (.inr rfl),.inr (.inl rfl),by omega,λa x=>?_,t,A⟩ (λa b h=>.inl (z a b h)) (λo ho=>?_)
 ·exact⟨⟨_,_,by unfold Go.ConcM.MuAt at v1 ⊢;rw[l _ lM];exact v1⟩,⟨_,_,by unfold Go.ConcR.WgAt at B ⊢;rw[l _ lW];exact B⟩,Z,by rw[l _ Q];exact O,v4⟩
 ·rw[l b (y.sG b hb).1];exact zz.st b hb
 ·simp only[a8];have:=zz.size;omega
 ·have e:i.heap.size+1-1=i.heap.size:=by omega
  rw[e]at x
  rcases x with x|⟨_,x⟩
  ·have:=J _ _ x;omega
  ·omega
 ·have e:∀{w2:World},w2.heap[X.Tb]?=i.heap[X.Tb]?->w2.cell? ⟨X.Tb,o,none⟩=i.cell? ⟨X.Tb,o,none⟩:=λh=>by simp only[a7,h]
  rw[e (l _ Q)];exact r.row o ho
end
end Go.Proofs
