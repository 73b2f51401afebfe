/- Part of the proof of FieldFlat and FieldMarshals. -/
import Derived.Test.YtmkjeaacgibnoaaGreatY15
import Derived.Test.YtmkjeaacgibnoaaGreatY18
set_option linter.all false
open Go renaming FuncId->aa,Goroutine->ab,LoopState->ac
open Nat renaming le_trans->ad,lt_of_lt_of_le->ae,div_add_mod->ag
open List renaming range->ai,idxOf_lt_length_of_mem->ao,length_append->ap,length_cons->aq,mem_cons->ar
open Go.World renaming cell?->aw,size_alloc->aB,putObj_heap_other->aF
open Option.some renaming inj->aH
open Go.Proofs.Tryz renaming progTables->aI,funcs->aJ,f144->aL,func144->aP
open Go.Frame renaming enter->aT
open Array renaming getElem?_push_lt->a5,getElem?_eq_getElem->a6
namespace Go.Ph
open Go.Conc Go.ConcN Go.bJ
structure LW(T:Tables)(F:aa->Bool)(Z:TypeId->Bool)(X:Fix)(V:Vw)(Bs:Nat)(ρ:Ren)(M:Own)(wL w:World):Prop where
 inj:ρ.bw T.globals.size
 wr:WC Bs T.globals.size F (codeOk T F Z) ρ wL w
 own:StO V M Bs ρ
 clear:Clear X V M
 sG:∀b,V.st b->b<w.heap.size/\¬M b
section
variable {T:Tables}{fB fA:Array Func}{F:aa->Bool}{Z:TypeId->Bool}{X:Fix}{V:Vw}{Bs:Nat}{bot:Frame}{up:List Frame}{ρ ρ':Ren}{M M':Own}{g g':ab}{wL w w':World}
def iG.lw(h:iG T fB fA F Z bot up X V Bs ρ M g wL g' w):LW T F Z X V Bs ρ M wL w:=⟨h.inj,h.wr,h.own,h.clear,h.sG⟩
def LW.like(h:LW T F Z X V Bs ρ M wL w)(k:GC T fB fA F Z bot up ρ g g'):iG T fB fA F Z bot up X V Bs ρ M g wL g' w:=⟨h.inj,h.wr,k,h.own,h.clear,h.sG⟩
def LW.loop(h:LW T F Z X V Bs ρ M wL w)(v:T.globals.size=0)(p:∀b,¬ρ 0 b)(z:0<Bs){lL l':Loop}{lb:Nat}(t:wL.heap[0]?=some (.loop lL))(hl:w'.heap[lb]?=some (.loop l'))(A:w.heap.size<=lb)(q:∀b,M b->M' b)(e:M' lb)
 (hc:Clear X V M') (hd:∀b,V.st b->¬M' b) (hs:w.heap.size<=w'.heap.size) (hb:∀b,b<w.heap.size->w'.heap[b]?=w.heap[b]?):LW T F Z X V Bs (λa b=>ρ a b\/(a=0/\b=lb)) M' wL w':=by
 have d:∀{a b},ρ a b->b<w.heap.size:=λu=>(h.wr.lt u).2;refine⟨⟨λ{a b b'}x y=>?_,λ{a B b}x y=>?_,λ{a b}_=>by omega⟩,⟨h.wr.pK,ad h.wr.gN hs,h.wr.base,λ{a b}c f=>?_,λ{a b}c f=>?_⟩,⟨λa b c i=>?_,λa b c i=>?_⟩,hc,λb r=>⟨ae (h.sG b r).1 hs,hd b r⟩⟩
 ·rcases x with x|⟨x1,x2⟩<;>rcases y with y|⟨y1,y2⟩
  ·exact h.inj.fn x y
  ·subst y1;exact absurd x (p _)
  ·subst x1;exact absurd y (p _)
  ·rw[x2,y2]
 ·rcases x with x|⟨x1,x2⟩<;>rcases y with y|⟨y1,y2⟩
  ·exact h.inj.inj x y
  ·have:=d x;omega
  ·have:=d y;omega
  ·rw[x1,y1]
 ·rcases c with c|⟨rfl,_⟩
  ·obtain⟨o,j,k,l,m⟩:=h.wr.obj c f;exact⟨o,j,k,by rw[hb b (d c)];exact l,m.mono λ_ _ x=>.inl x⟩
  ·omega
 ·rcases c with c|⟨rfl,rfl⟩
  ·obtain⟨o,j,k,l,m⟩:=h.wr.low c f;exact⟨o,j,k,by rw[hb b (d c)];exact l,m⟩
  ·exact⟨_,_,t,hl,.loop _ _⟩
 ·rcases c with c|⟨_,rfl⟩
  ·exact(h.own.st a b c i).imp id (q b)
  ·exact .inr e
 ·rcases c with c|⟨rfl,_⟩
  ·exact q b (h.own.own a b c i)
  ·omega
end
end Go.Ph
namespace Go.Proofs
open Go.Ph Go.Conc Go.ConcN Go.bJ
set_option maxRecDepth 100000
def dR(np:Nat)(D:jB):List Nat:=D.pb::D.gb::((D.so.toList++D.qo.toList++(ai np).flatMap λi=>(D.pl i).toList).map (·.block))
def Jz(np:Nat)(D:jB)(b:Nat):Nat:=1+(dR np D).idxOf b
def Uy(np:Nat)(D:jB)(a:Addr):Addr:=⟨Jz np D a.block,a.off,a.spot⟩
def aW(np:Nat)(D:jB):jB:={ D with so:=D.so.map (Uy np D),qo:=D.qo.map (Uy np D),pb:=Jz np D D.pb,gb:=Jz np D D.gb,pl:=λi=>(D.pl i).map (Uy np D) }
def sI(np:Nat)(D:jB):Ren:=λa b=>b∈dR np D/\a=Jz np D b
noncomputable def hU(np:Nat)(D:jB)(w0:World):Nat->Obj
 |0=>.loop default
 |a+1=>match(dR np D)[a]? with
  |some b=>(w0.heap[b]?).getD (.loop default)
  |none=>.loop default
structure zl(X:Fix)(V:Vw)(D:jB)(np s n:Nat)(dl:Int)(gn:ByteArray)(bc bg bt:Nat)(w0:World):Prop where
 hP:X.P=PP
 hg:(V.g==0)=false
 ids:WO X
 apart:∀b,V.st b->jm X b
 shun:∀b,V.st b->∀a':Addr,a'.block=b->¬X.Shun (.cell a')
 n3:X.n<=3
 sz:X.size=75
 low:∀b,V.st b->b<w0.heap.size
 bc:V.st bc/\w0.heap[bc]?=some (.cells (cA np D) 121)
 bg:V.st bg/\w0.cell? ⟨bg,0,none⟩=some (.int .i64 (n:Int))
 bt:V.st bt/\w0.cell? ⟨bt,0,none⟩=some (.pointer (some ⟨X.Tb,0,none⟩))
 blk:∀b,b∈dR np D->V.st b/\∃c t fz,w0.heap[b]?=some (.cells c t fz)
 G8:∀i,i<np->∀j,j<12->w0.cell? ⟨D.pb,D.po+12*i+j,none⟩=(pA D i)[j]?
 PM:∀j,j<3->w0.cell? ⟨D.gb,D.go+3*n+j,none⟩=(gA s dl gn)[j]?
 hn:n<3
 Zb:n<D.ng
 hs:s<np
 MC:np<=5
 row:∀j,n*25<=j->j<n*25+25->V.row j
structure Kn(X:Fix)(V:Vw)(w0 w:World):Prop where
 live:Live X w
 st:∀b,V.st b->w.heap[b]?=w0.heap[b]?
 size:w0.heap.size<=w.heap.size
section
variable {X:Fix}{V:Vw}{D:jB}{np s n:Nat}{dl:Int}{gn:ByteArray}{bc bg bt:Nat}{w0 w w':World}{M:Own}{ρ:Ren}
def Kn.rl(h:Kn X V w0 w)(r:Rl X V M w w'):Kn X V w0 w':=⟨r.live h.live,λb hb=>(r.st b hb).trans (h.st b hb),ad h.size r.size⟩
def Kn.stay(h:Kn X V w0 w)(r:qw X V (5+np) ρ M w w')(l:Live X w'):Kn X V w0 w':=⟨l,λb hb=>(r.st b hb).trans (h.st b hb),ad h.size r.size⟩
def Kn.cell(h:Kn X V w0 w){b o:Nat}(hb:V.st b):w.cell? ⟨b,o,none⟩=w0.cell? ⟨b,o,none⟩:=by simp only[aw,h.st b hb]
def zl.clear(k:zl X V D np s n dl gn bc bg bt w0)(a:∀b,M b->jm X b):Clear X V M:=⟨k.ids,k.apart,a⟩
def BW{b:Nat}(h:b∈dR np D):1<=Jz np D b/\Jz np D b<5+np:=by
 have f:=ao h;have j:(dR np D).length<=4+np:=by
  have c:∀o:Option Addr,o.toList.length<=1:=λo=>by cases o<;>simp
  have d:∀l:List Nat,(l.flatMap λi=>(D.pl i).toList).length<=l.length:=by
   intro l
   induction l with
   |nil=>simp
   |cons a l k=>
    rw[List.flatMap_cons,ap,aq];have:=c (D.pl a);omega
  have e:=d (ai np);have m:=c D.so;have p:=c D.qo;simp only[dR,aq,List.length_map,ap,List.length_range]at e⊢;omega
 unfold Jz;omega
def BX{b:Nat}(h:b∈dR np D):(dR np D)[(dR np D).idxOf b]?=some b:=by
 have a:=ao h;rw[List.getElem?_eq_getElem a,List.getElem_idxOf a]
def PN:(sI np D).bw 0:=by
 refine⟨λ{a b b'}x y=>?_,λ{a f b}x y=>x.2.trans y.2.symm,λ{a b}_=>by omega⟩;have e:(dR np D).idxOf b=(dR np D).idxOf b':=by
  have:=x.2.symm.trans y.2;unfold Jz at this;omega
 have c:=BX x.1;have d:=BX y.1;rw[e,d]at c;exact(aH c).symm
def pW{b:Nat}(h:b∈dR np D):sI np D (Jz np D b) b:=⟨h,rfl⟩
def pX:Tryz.progTables.globals.size=0:=by kernel_rfl
def zl.lw0(k:zl X V D np s n dl gn bc bg bt w0)(h:Kn X V w0 w):LW aI F3 ZZ X V (5+np) (sI np D) nobody (wL0 np (hU np D w0)) w:=by
 have j:(wL0 np (hU np D w0)).heap.size=5+np:=by simp[wL0]
 refine⟨by rw[pX];exact PN,⟨by rw[pX];omega,by rw[pX];omega,by rw[j];omega,λ{a b}d hb=>?_,λ{a b}d hb=>?_⟩,⟨λa b d _=>.inl (k.blk b d.1).1,λa b d hb=>?_⟩,k.clear λb hb=>hb.elim,λb hb=>⟨ae (k.low b hb) h.size,λx=>x⟩⟩
 ·have:=(BW d.1).2;have:=d.2;omega
 ·obtain⟨l,c,t,f,hc⟩:=k.blk b d.1;refine⟨.cells c t f,.cells c t f,?_,by rw[h.st b l];exact hc,.cells t f rfl⟩;have i:=BW d.1;rw[<-d.2]at i;have e:a=(dR np D).idxOf b+1:=by rw[d.2];unfold Jz;omega
  simp only[wL0,List.getElem?_toArray,List.getElem?_map];rw[List.getElem?_range i.2];simp only[Option.map_some,e,hU,BX d.1,hc,Option.getD_some]
 ·have:=(BW d.1).2;have:=d.2;omega
def BZ{o:Option Addr}{l c:Nat}(h:∀a,o=some a->a.block∈dR np D):VR F3 (sI np D) (.slice (o.map (Uy np D)) l c) (.slice o l c):=by
 cases o with
 |none=>exact .di _ _
 |some a=>exact .slice _ _ ⟨pW (h a rfl),rfl,rfl⟩
def Zc{a:Addr}(h:D.so=some a):a.block∈dR np D:=by simp[dR,h]
def Zd{a:Addr}(h:D.qo=some a):a.block∈dR np D:=by simp[dR,h]
def mem_pl{a:Addr}{i:Nat}(hi:i<np)(h:D.pl i=some a):a.block∈dR np D:=by
 simp only[dR,ar,List.mem_map,List.mem_append,List.mem_flatMap,List.mem_range,Option.mem_toList];exact .inr (.inr ⟨a,.inr ⟨i,hi,h⟩,rfl⟩)
def MD:VA F3 (sI np D) (cA np (aW np D)) (cA np D):=
 .cons (.int _ _) (.cons (.int _ _) (.cons (BZ λ_ h=>Zc h) (.cons (BZ λ_ h=>Zd h) (.cons (.slice _ _ ⟨pW (by simp[dR]),rfl,rfl⟩) (.cons (.slice _ _ ⟨pW (by simp[dR]),rfl,rfl⟩) .nil)))))
def Ze{i:Nat}(hi:i<np):VA F3 (sI np D) (pA (aW np D) i) (pA D i):=
 .cons (.string _) (.cons (.int _ _) (.cons (.int _ _) (.cons (.int _ _) (.cons (.int _ _) (.cons (.int _ _) (.cons (.int _ _) (.cons (.int _ _) (.cons (.int _ _) (.cons (.int _ _) (.cons (.int _ _) (.cons (BZ λ_ h=>mem_pl hi h) .nil)))))))))))
def Zf{ρ:Ren}:VA F3 ρ (gA s dl gn) (gA s dl gn):=.cons (.string _) (.cons (.int _ _) (.cons (.int _ _) .nil))
end
def W6:PP=⟨aI,aJ⟩:=rfl
abbrev LWs(X:Fix)(V:Vw)(np:Nat)(ρ:Ren)(M:Own)(wL w:World):Prop:=LW aI F3 ZZ X V (5+np) ρ M wL w
abbrev LK(up:List Frame)(X:Fix)(V:Vw)(np:Nat)(ρ:Ren)(M:Own)(g:ab)(wL:World)(g':ab)(w:World):Prop:=iG aI aJ aJ F3 ZZ default up X V (5+np) ρ M g wL g' w
def Xa:∀f,F3 f=true->f<cn:=λf hf=>by
 simp only[F3,Bool.or_eq_true,beq_iff_eq]at hf
 rcases hf with(rfl|rfl)|rfl<;>decide
def Ar{ρ:Ren}{f:aa}(hf:F3 f=true){a a':Array Value}(h:VA F3 ρ a a'):aQ aI F3 ZZ aJ aJ ρ (aT PP f a .normal) (aT PP f a' .normal):=by
 have e:=fe (T:=aI) (fB:=aJ) (fA:=aJ) (Z:=ZZ) (adR.same f hf) hf h;rw[<-W6]at e;exact e
def Zg:∃fn,PP.funcs[110]?=some fn/\fn.results=#[.tmp 4]:=⟨Tryz.f110,Tryz.func110,rfl⟩
def Zh:∃fn,PP.funcs[144]?=some fn/\fn.results=#[]:=⟨aL,aP,rfl⟩
section
variable {X:Fix}{V:Vw}{D:jB}{np s n:Nat}{dl:Int}{gn:ByteArray}{bc bg bt:Nat}{w0 w w':World}{M:Own}{ρ:Ren}{Stop:Stp}{d:Nat}{up:List Frame}{g g':ab}{wL:World}{c:Frame}{cs:List Frame}
def JA(k:zl X V D np s n dl gn bc bg bt w0){m:Nat}{q:ab×World}(r:q=Jp PP oU m g wL)(hg:Good np m g wL)(h:LK up X V np ρ M g wL g' w)(o:Kn X V w0 w)
 (K:∀i j l w2,LK up X V np i j q.1 q.2 l w2->Kn X V w0 w2->(∀b,M b->j b)->(∀a b,ρ a b->i a b)->(∀a b,i a b->ρ a b\/(5+np<=a/\w.heap.size<=b))->qw X V (5+np) ρ M w w2->ay X V false Stop j d l w2):ay X V false Stop M d g' w:=by
 obtain⟨m',p⟩:=Pn default m hg;rw[<-r]at p;exact ay.lone adR (k.hP.trans W6) m' p h o.live λi j l w2 a b c d e f=>K i j l w2 a (o.stay f b) c d e f
def adU{e:Ren}(h:∀a b,e a b->sI np D a b\/(5+np<=a/\w.heap.size<=b)):∀b,¬e 0 b:=λb x=>by
 rcases h 0 b x with y|y
 ·have:=(BW y.1).1;have:=y.2;omega
 ·omega
def adV:GC aI aJ aJ F3 ZZ default up (sI np D) (gL0 np (aW np D) n) (G (aT PP 110 #[.agg (cA np D),.int .i64 (n:Int)] .normal) up):=by
 have e:=Ar (ρ:=sI np D) (f:=110) (by decide) (a:=#[.agg (cA np (aW np D)),.int .i64 (n:Int)]) (a':=#[.agg (cA np D),.int .i64 (n:Int)]) (.cons (.agg MD) (.cons (.int _ _) .nil));exact⟨e,⟨[],[],rfl,rfl,.nil,λx b=>(by cases b;rfl)⟩,rfl,rfl,rfl,rfl,rfl,rfl⟩
def Zi(k:zl X V D np s n dl gn bc bg bt w0)(j:FE np s)(l:Kn X V w0 w)
 (K:∀ρ M b0 e w2,LWs X V np ρ M (A0 np (aW np D) (hU np D w0) n).2 w2->Kn X V w0 w2->ρ (5+np) b0->ρ (6+np) e->(∀a b,sI np D a b->ρ a b)->(∀b,¬ρ 0 b)->qw X V (5+np) (sI np D) nobody w w2->
   ay X V false Stop M 0 (G (c.finish (.func (.func 144) #[] #[pt b0,pt e])) cs) w2) :
 ay X V false Stop nobody 0 (G (aT PP 110 #[.agg (cA np D),.int .i64 (n:Int)] .normal) (c::cs)) w:=by
 refine JA k (q:=A0 np (aW np D) (hU np D w0) n) (by delta A0;rfl) (j.e0 (aW np D) (hU np D w0) n) ((k.lw0 l).like adV) l λm o H w2 f p _ h i r=>?_;obtain⟨hb,t⟩:=j.b0 (aW np D) (hU np D w0) n;obtain⟨u,rfl,e1,v,x,y,z⟩:=f.back hb.mode hb.defers hb.callers;have hv:=VA.getD z 4 (.undef);rw[t]at hv;obtain⟨b0,e,A,B,C⟩:=Ux f.inj Xa (by decide) hv;obtain⟨fn,E,F⟩:=Zg;refine .leave1 f.clear v x y (by rw[k.hP,e1,hb.fn];exact E) F ?_;rw[C];exact K m o b0 e w2 f.lw p A B h (adU i) r
end
noncomputable def c3(W bc bg bm bt:Nat)(c:Value)(n:Int)(a:Value)(lb:Nat):Frame:=⟨137,qJ W bc bg bm bt c n a undef undef (λ_=>undef),.inRangeFunc lb::kk,Pz W (lb-1),.run,.deferred,none⟩
noncomputable def ajh(W bc bg bm bt:Nat)(c:Value)(n:Int)(a:Value)(lb:Nat)(st:ac):Loop:={ state:=st,pending:=none,fn:=137,tmps:=qJ W bc bg bm bt c n a undef undef (λ_=>undef),params:=#[9],assign:=vl,body:=lZ,defers:=lb-1 }
def Uz:∃fd,PP.funcs[144]?=some fd/\fd.body.isSome=true/\fd.name≠ "runtime.NumGoroutine":=⟨aL,aP,rfl,by decide +kernel⟩
noncomputable abbrev vO(b0 b1:Nat):Value:=.func (.func 144) #[] #[pt b0,pt b1]
abbrev sJ(np:Nat)(D:jB):Value:=.agg (cA np D)
noncomputable abbrev xN(X:Fix)(np:Nat)(D:jB)(n bc bg bt b0 b1 lb:Nat):Frame:=c3 X.Wg bc bg X.Mu bt (sJ np D) (n:Int) (vO b0 b1) lb
noncomputable abbrev Ti(X:Fix)(np:Nat)(D:jB)(n bc bg bt b0 b1 lb:Nat)(st:ac):Loop:=ajh X.Wg bc bg X.Mu bt (sJ np D) (n:Int) (vO b0 b1) lb st
section
variable {X:Fix}{V:Vw}{D:jB}{np s n:Nat}{dl:Int}{gn:ByteArray}{bc bg bt:Nat}{w0 w w':World}{M:Own}{ρ:Ren}{Stop:Stp}{d:Nat}{up:List Frame}{g g':ab}{wL:World}{c:Frame}{cs:List Frame}{bm b0 b1:Nat}
structure Gd(X:Fix)(np:Nat)(D:jB)(n bc bg bt b0 b1:Nat)(ρ:Ren)(M:Own)(lb:Nat)(st:ac)(w:World):Prop where
 r0:ρ 0 lb
 ml:M lb
 md:M (lb-1)
 pos:1<=lb
 un:∀a,¬ρ a (lb-1)
 hl:w.heap[lb]?=some (.loop (Ti X np D n bc bg bt b0 b1 lb st))
 hd:w.heap[lb-1]?=some (.deferred (some []))
def Gd.rl{lb:Nat}{st:ac}(h:Gd X np D n bc bg bt b0 b1 ρ M lb st w)(r:Rl X V M w w'):Gd X np D n bc bg bt b0 b1 ρ M lb st w':=
 { h with hl:=(r.own _ h.ml).trans h.hl,hd:=(r.own _ h.md).trans h.hd }
def bn{w:World}{b:Nat}{o:Obj}(h:w.heap[b]?=some o):b<w.heap.size:=(Array.getElem?_eq_some_iff.1 h).1
def Gd.stay{lb:Nat}{st:ac}{e:Ren}{j:Own}(h:Gd X np D n bc bg bt b0 b1 ρ M lb st w)(r:qw X V (5+np) ρ M w w')(k:∀b,M b->j b)(f:∀a b,ρ a b->e a b)(i:∀a b,e a b->ρ a b\/(5+np<=a/\w.heap.size<=b)):Gd X np D n bc bg bt b0 b1 e j lb st w':=
 ⟨f _ _ h.r0,k _ h.ml,k _ h.md,h.pos,λa x=>by
   rcases i a _ x with y|y
   ·exact h.un a y
   ·have:=bn h.hd;omega,(r.low _ _ h.r0 (by omega)).trans h.hl,(r.own _ h.md (bn h.hd) h.un).trans h.hd⟩
def Zj(k:zl X V D np s n dl gn bc bg bt w0)(N:Kn X V w0 w)(m:LWs X V np ρ M (A0 np (aW np D) (hU np D w0) n).2 w)(R:FE np s)(S:ρ (5+np) b0)(T:ρ (6+np) b1)(U:∀b,¬ρ 0 b)(z:∀a b,sI np D a b->ρ a b)
 (K:∀p M' lb w',LK [xN X np D n bc bg bt b0 b1 lb,ez PP] X V np p M' (gL1 np) (A0 np (aW np D) (hU np D w0) n).2 (G (aT PP 144 #[.func (.yield lb) #[] #[],pt b0,pt b1] .normal) [xN X np D n bc bg bt b0 b1 lb,ez PP]) w'->Kn X V w0 w'->Gd X np D n bc bg bt b0 b1 p M' lb .ready w'->(∀a b,sI np D a b->p a b)->
   (∀o,V.row o->w'.cell? ⟨X.Tb,o,none⟩=w.cell? ⟨X.Tb,o,none⟩)->ay X V false Stop M' 0 (G (aT PP 144 #[.func (.yield lb) #[] #[],pt b0,pt b1] .normal) [xN X np D n bc bg bt b0 b1 lb,ez PP]) w') :
 ay X V false Stop M 0 (G (((k2 X.Wg bc bg X.Mu bt (sJ np D) (n:Int)).callers.headD default).finish (vO b0 b1)) [ez PP]) w:=by
 refine(k_3 X.Wg bc bg X.Mu bt (sJ np D) (n:Int) (vO b0 b1)).run k.hP k.hg ?_;rw[aiZ];obtain⟨fd,hF,hb,W⟩:=Uz;refine .own m.clear rfl N.live λi r=>?_;have zz:=N.rl r;have st:=GZ (P:=PP) (mn:=V.g==0) (w:=i) (fn:=137) (tmps:=qJ X.Wg bc bg X.Mu bt (sJ np D) (n:Int) (vO b0 b1) undef undef (λ_=>undef)) (f:=.tmp 8) (ps:=#[9]) (assign:=vl) (body:=lZ) (k:=kk) (defers:=rG X.Wg) (kind:=.deferred) (cs:=[ez PP]) (F:=144) (caps:=#[pt b0,pt b1]) (fd:=fd) rfl (Ju (n:=20) (j:=8) (by omega)) hF hb W;rw[k.hP];have Y:M.more i ((i.alloc (.deferred (some []))).alloc (uw 137 (qJ X.Wg bc bg X.Mu bt (sJ np D) (n:Int) (vO b0 b1) undef undef (λ_=>undef)) #[9] vl lZ i.heap.size))=λb=>M b\/b=i.heap.size\/b=i.heap.size+1:=by
  funext x;unfold Own.more;simp only[aB];exact propext ⟨λh=>h.imp id λx=>by omega,λh=>h.imp id λx=>by omega⟩
 have l:∀b,b<i.heap.size->((i.alloc (.deferred (some []))).alloc (uw 137 (qJ X.Wg bc bg X.Mu bt (sJ np D) (n:Int) (vO b0 b1) undef undef (λ_=>undef)) #[9] vl lZ i.heap.size)).heap[b]?=i.heap[b]?:=λb hb=>by
  show((i.heap.push _).push _)[b]?=_;rw[a5 (by simp;omega),<-a6 (by simp;omega),a5 hb,<-a6 hb]
 have A:((i.alloc (.deferred (some []))).alloc (uw 137 (qJ X.Wg bc bg X.Mu bt (sJ np D) (n:Int) (vO b0 b1) undef undef (λ_=>undef)) #[9] vl lZ i.heap.size)).heap[i.heap.size]?=some (.deferred (some [])):=by
  show((i.heap.push _).push _)[i.heap.size]?=_;rw[a5 (by simp)];simp
 have t:((i.alloc (.deferred (some []))).alloc (uw 137 (qJ X.Wg bc bg X.Mu bt (sJ np D) (n:Int) (vO b0 b1) undef undef (λ_=>undef)) #[9] vl lZ i.heap.size)).heap[i.heap.size+1]?=some (.loop (Ti X np D n bc bg bt b0 b1 (i.heap.size+1) .ready)):=by
  have e:∀o q:Obj,((i.heap.push o).push q)[i.heap.size+1]?=some q:=λo q=>by
   have e:i.heap.size+1=(i.heap.push o).size:=by simp
   rw[e,Array.getElem?_push_size]
  exact e _ _
 obtain⟨⟨_,_,v1⟩,⟨_,_,B⟩,Z,O,v4⟩:=zz.live;have lM:=bn v1;have lW:=bn B;have Q:=bn O;have sB:Clear X V (λb=>M b\/b=i.heap.size\/b=i.heap.size+1):=k.clear λb hb=>by
  rcases hb with hb|hb|hb
  ·exact m.clear.own b hb
  ·exact⟨by omega,by omega,by omega⟩
  ·exact⟨by omega,by omega,by omega⟩
 refine⟨_,_,#[],st,rfl,rfl,.refl _,by simp only[aB];omega,λb hb _=>l b hb,by simp,rfl,?_⟩;rw[Y];have y:LWs X V np ρ M (A0 np (aW np D) (hU np D w0) n).2 i:=by
  refine⟨m.inj,⟨m.wr.pK,ad m.wr.gN r.size,m.wr.base,λ{a b}u v=>?_,λ{a b}u v=>?_⟩,m.own,m.clear,λb hb=>⟨ae (m.sG b hb).1 r.size,(m.sG b hb).2⟩⟩
  ·obtain⟨o,q,C,E,H⟩:=m.wr.obj u v;exact⟨o,q,C,by rw[r.own b (m.own.own a b u v)];exact E,H⟩
  ·obtain⟨o,q,C,E,H⟩:=m.wr.low u v;exact⟨o,q,C,by rw[(m.own.st a b u v).elim (r.st b) (r.own b)];exact E,H⟩
 have I:=y.loop pX U (by omega) (lL:=default) (R.h0 (aW np D) (hU np D w0) n) t (by omega) (M':=λb=>M b\/b=i.heap.size\/b=i.heap.size+1) (λ_ h=>.inl h) (.inr (.inr rfl)) sB (λb hb h=>by
  have:=(y.sG b hb)
  rcases h with h|h|h
  ·exact this.2 h
  ·omega
  ·omega) (by simp only[aB];omega) l
 have J:∀a b,ρ a b->b<i.heap.size:=λa b h=>(y.wr.lt h).2;have L:GC aI aJ aJ F3 ZZ default [xN X np D n bc bg bt b0 b1 (i.heap.size+1),ez PP] (λa b=>ρ a b\/(a=0/\b=i.heap.size+1)) (gL1 np) (G (aT PP 144 #[.func (.yield (i.heap.size+1)) #[] #[],pt b0,pt b1] .normal) [xN X np D n bc bg bt b0 b1 (i.heap.size+1),ez PP]):=by
  have e:=Ar (ρ:=λa b=>ρ a b\/(a=0/\b=i.heap.size+1)) (f:=144) (by decide) (a:=#[.func (.func (cn+0)) #[] #[],.pointer (some ⟨5+np,0,none⟩),.pointer (some ⟨6+np,0,none⟩)]) (a':=#[.func (.yield (i.heap.size+1)) #[] #[],pt b0,pt b1])
   (.cons (.func (.spec (.inr ⟨rfl,rfl⟩)) .nil .nil) (.cons (.ptr ⟨.inl S,rfl,rfl⟩) (.cons (.ptr ⟨.inl T,rfl,rfl⟩) .nil)))
  exact⟨e,⟨[],[],rfl,rfl,.nil,λx hx=>(by cases hx;rfl)⟩,rfl,rfl,rfl,rfl,rfl,rfl⟩
 refine K _ _ (i.heap.size+1) _ (I.like L) ⟨?_,λb hb=>?_,?_⟩ ⟨.inr ⟨rfl,rfl⟩,.inr (.inr rfl),.inr (.inl rfl),by omega,λa x=>?_,t,A⟩ (λa b h=>.inl (z a b h)) (λo ho=>?_)
 ·exact⟨⟨_,_,by unfold Go.ConcM.MuAt at v1 ⊢;rw[l _ lM];exact v1⟩,⟨_,_,by unfold Go.ConcR.WgAt at B ⊢;rw[l _ lW];exact B⟩,Z,by rw[l _ Q];exact O,v4⟩
 ·rw[l b (y.sG b hb).1];exact zz.st b hb
 ·simp only[aB];have:=zz.size;omega
 ·have e:i.heap.size+1-1=i.heap.size:=by omega
  rw[e]at x
  rcases x with x|⟨_,x⟩
  ·have:=J _ _ x;omega
  ·omega
 ·have e:∀{w2:World},w2.heap[X.Tb]?=i.heap[X.Tb]?->w2.cell? ⟨X.Tb,o,none⟩=i.cell? ⟨X.Tb,o,none⟩:=λh=>by simp only[aw,h]
  rw[e (l _ Q)];exact r.row o ho
end
def jC{g:ab}{op:Op}(h:(bF g).map (·.op)=some op):∃o,bF g=some o/\o.op=op:=by
 cases a:bF g with
 |none=>rw[a]at h;cases h
 |some o=>rw[a]at h;exact⟨o,rfl,aH h⟩
def adX:PP.underlying 25=some (.slice 67):=by kernel_rfl
def adY:(PP.info? 67).map (·.size)=some 3:=by kernel_rfl
def ajk:PP.underlying 67=some (.struct (fieldsOf 67)):=by kernel_rfl
def ajl:(PP.info? 73).map (·.size)=some 12:=by kernel_rfl
def ajm:PP.underlying 73=some (.struct (fieldsOf 73)):=by kernel_rfl
def pY{w:World}{a:Addr}{v:Value}(h:w.cell? a=some v):a.block<w.heap.size:=by
 unfold aw at h
 split at h
 ·rename_i b;exact(Array.getElem?_eq_some_iff.1 b).1
 ·cases h
section
variable {X:Fix}{V:Vw}{D:jB}{np s n:Nat}{dl:Int}{gn:ByteArray}{bc bg bt:Nat}{w0 w w':World}{M:Own}{ρ:Ren}{Stop:Stp}{d:Nat}{g g':ab}{wL:World}{b0 b1 lb:Nat}{st:ac}
structure Iv(X:Fix)(V:Vw)(np:Nat)(D:jB)(n bc bg bt b0 b1:Nat)(w0:World)(ρ:Ren)(M:Own)(lb:Nat)(st:ac)(gL:ab)(wL:World)(g':ab)(w:World):Prop where
 lk:LK [xN X np D n bc bg bt b0 b1 lb,ez PP] X V np ρ M gL wL g' w
 kn:Kn X V w0 w
 gd:Gd X np D n bc bg bt b0 b1 ρ M lb st w
 le:∀a b,sI np D a b->ρ a b
def sK(X:Fix)(V:Vw)(w w':World):Prop:=∀o,V.row o->w'.cell? ⟨X.Tb,o,none⟩=w.cell? ⟨X.Tb,o,none⟩
def Iv.rl{a:ab}(h:Iv X V np D n bc bg bt b0 b1 w0 ρ M lb st a wL g' w)(r:Rl X V M w w'):Iv X V np D n bc bg bt b0 b1 w0 ρ M lb st a wL g' w':=⟨h.lk.rely r,h.kn.rl r,h.gd.rl r,h.le⟩
def Iv.fin{a:ab}{v v':Value}(h:Iv X V np D n bc bg bt b0 b1 w0 ρ M lb st a wL g' w)(hv:VR F3 ρ v v'):Iv X V np D n bc bg bt b0 b1 w0 ρ M lb st (fin a v) wL (fin g' v') w:=⟨h.lk.fin hv,h.kn,h.gd,h.le⟩
def Iv.seg{l:ab}{m:Nat}{q:ab×World}(k:zl X V D np s n dl gn bc bg bt w0)(h:Iv X V np D n bc bg bt b0 b1 w0 ρ M lb st l wL g' w)(t:q=Jp PP oU m l wL)(hg:Good np m l wL)
 (K:∀o i j w2,Iv X V np D n bc bg bt b0 b1 w0 o i lb st q.1 q.2 j w2->sK X V w w2->ay X V false Stop i d j w2):ay X V false Stop M d g' w:=
 JA k t hg h.lk h.kn λo i j w2 a b c e f r=>K o i j w2 ⟨a,b,h.gd.stay r c e f,λx y p=>e x y (h.le x y p)⟩ r.row
def JB(k:zl X V D np s n dl gn bc bg bt w0){b:Nat}(hb:V.st b):(V.st b/\∀a':Addr,a'.block=b->¬X.Shun (.cell a'))\/M b:=.inl ⟨hb,k.shun b hb⟩
def Zk(k:zl X V D np s n dl gn bc bg bt w0)(l:FE np s)(h:Iv X V np D n bc bg bt b0 b1 w0 ρ M lb st (gL1 np) (A0 np (aW np D) (hU np D w0) n).2 g' w)
 (K:∀x y f Z C w2,Iv X V np D n bc bg bt b0 b1 w0 x y lb st (gR np s (aW np D) 0 f) (wR np s (aW np D) (hU np D w0) n dl gn 0 (dl,dl) Z) C w2->sK X V w w2->ay X V false Stop y 0 C w2):ay X V false Stop M 0 g' w:=by
 refine h.seg k (q:=A1 np (aW np D) (hU np D w0) n) (by delta A1;rfl) (l.e1 _ _ _) λF U H w1 c I=>?_;obtain⟨e,z,hi⟩:=l.c1 (aW np D) (hU np D w0) n;obtain⟨o,i,e⟩:=jC e;obtain⟨A,m⟩:=c.lk.g.op i;have a:F (Jz np D D.gb) D.gb:=c.le _ _ (pW (by simp[dR]));have e1:=m 12;rw[z]at e1;have e1:=xL c.lk.inj e1 a (show 0<D.ng from by have:=k.Zb;omega);have p:=m 13;rw[hi]at p;have p:=oT p;refine .DW (g':=fin H (.pointer (some ⟨D.gb,D.go+n*3,none⟩))) c.lk.clear c.lk.g.st' (λw=>?_) c.lk.g.st' ?_
 ·have:=xH (P:=X.P) (mn:=V.g==0) (w:=w) A e e1 p (by rw[k.hP];exact adX) (by rw[k.hP];exact adY) (by omega) (by have:=k.Zb;show(n:Int)<(D.ng:Int);omega);rw[dY,Int.toNat_natCast]at this;exact this
 have b:=c.fin (v:=.pointer (some ⟨Jz np D D.gb,D.go+n*3,none⟩)) (v':=.pointer (some ⟨D.gb,D.go+n*3,none⟩)) (.ptr ⟨a,rfl,rfl⟩);refine b.seg k (q:=A2 np (aW np D) (hU np D w0) n (D.go+n*3)) (by delta A2;rfl) (l.e2 _ _ _ _) λx y W w2 b J=>?_;obtain⟨e,z⟩:=l.c2 (aW np D) (hU np D w0) n (D.go+n*3);obtain⟨o,i,e⟩:=jC e;obtain⟨A,m⟩:=b.lk.g.op i;have a:x (Jz np D D.gb) D.gb:=b.le _ _ (pW (by simp[dR]));have e1:=m 14;rw[z]at e1;have e1:=PG b.lk.inj e1 a;have E:V.st D.gb:=(k.blk D.gb (by simp[dR])).1;have L:((ai 3).map λj=>(gA s dl gn).getD j undef).toArray=gA s dl gn:=rfl;refine .qM (v:=.agg (gA s dl gn)) b.lk.clear b.kn.live A e e1 (λN r=>?_) (JB k E) ?_
 ·have zz:=b.kn.rl r;have hc:∀j,j<3->N.cell? ((⟨D.gb,D.go+n*3,none⟩:Addr).add j)=some ((gA s dl gn).getD j undef):=λj O=>by
   rw[dY,zz.cell E];have:=k.PM j O;rw[show D.go+3*n+j=D.go+n*3+j by omega]at this;rw[this];obtain rfl|rfl|rfl:j=0\/j=1\/j=2:=by omega
   all_goals rfl
  have:=sH (P:=X.P) (t:=67) (by rw[k.hP];exact ajk) rfl (by rw[k.hP];exact adY) hc;rw[L]at this;exact⟨this,pY (by have:=hc 0 (by omega);rwa[dY]at this)⟩
 have u:=b.fin (v:=.agg (gA s dl gn)) (v':=.agg (gA s dl gn)) (.agg Zf);refine u.seg k (q:=A3 np s (aW np D) (hU np D w0) n dl gn (D.go+n*3)) (by delta A3;rfl) (l.e3 _ _ _ _ _ _) λB Q R w3 u S=>?_;obtain⟨f,Z,T⟩:=l.r0 (aW np D) (hU np D w0) n dl gn (D.go+n*3);rw[T]at u;exact K B Q f Z R w3 u λo i=>(S o i).trans ((J o i).trans (I o i))
end
noncomputable def lD:Array Value:=#[.int .i64 0,.int .i64 0,.int .i64 0,.int .i64 0,.int .i64 0]
def aeg:∃i,PP.info? 61=some i/\i.zero=some (.agg lD):=by
 have h:(PP.info? 61).map (·.zero)=some (some (.agg lD)):=by kernel_rfl
 cases hi:PP.info? 61 with
 |none=>rw[hi]at h;cases h
 |some i=>rw[hi]at h;exact⟨i,rfl,aH h⟩
section
variable {T:Tables}{fB fA:Array Func}{F:aa->Bool}{Z:TypeId->Bool}{X:Fix}{V:Vw}{Bs:Nat}{bot:Frame}{up:List Frame}{ρ:Ren}{M:Own}{g g':ab}{wL w w':World}
def _root_.Go.Ph.iG.aeh(h:iG T fB fA F Z bot up X V Bs ρ M g wL g' w){lb:Nat}{l l':Loop}(p:ρ 0 lb)(t:0<Bs)(hs:w.heap.size<=w'.heap.size)(hb:∀a b,ρ a b->b≠lb->w'.heap[b]?=w.heap[b]?)(hl:w.heap[lb]?=some (.loop l))(q:w'.heap[lb]?=some (.loop l')) :
 iG T fB fA F Z bot up X V Bs ρ M g wL g' w':=by
 refine⟨h.inj,⟨h.wr.pK,ad h.wr.gN hs,h.wr.base,λ{a b}c k=>?_,λ{a b}c k=>?_⟩,h.g,h.own,h.clear,λb hb=>⟨ae (h.sG b hb).1 hs,(h.sG b hb).2⟩⟩
 ·obtain⟨o,m,i,f,j⟩:=h.wr.obj c k;have r:b≠lb:=λe=>by
   subst e;have:=h.inj.inj c p;omega
  exact⟨o,m,i,by rw[hb a b c r];exact f,j⟩
 ·obtain⟨o,m,i,f,j⟩:=h.wr.low c k;by_cases e:b=lb
  ·subst e;rw[hl]at f;cases f;cases j;exact⟨_,_,i,q,.loop _ _⟩
  ·exact⟨o,m,i,by rw[hb a b c e];exact f,j⟩
end
section
variable {X:Fix}{V:Vw}{D:jB}{np s n:Nat}{dl:Int}{gn:ByteArray}{bc bg bt:Nat}{w0 w w':World}{M:Own}{ρ:Ren}{Stop:Stp}{d:Nat}{g g' gL:ab}{wL:World}{b0 b1 lb b5:Nat}{st st':ac}
def Iv.alloc(k:zl X V D np s n dl gn bc bg bt w0)(h:Iv X V np D n bc bg bt b0 b1 w0 ρ M lb st gL wL g' w)(o:Obj) :
 Iv X V np D n bc bg bt b0 b1 w0 ρ (λb=>M b\/b=w.heap.size) lb st gL wL g' (w.alloc o)/\∀a,¬ρ a w.heap.size:=by
 obtain⟨⟨_,_,v1⟩,⟨_,_,e⟩,j,f,l⟩:=h.kn.live;have m:=bn v1;have p:=bn e;have q:=bn f;have c:∀b,b<w.heap.size->(w.alloc o).heap[b]?=w.heap[b]?:=λb hb=>by
  show(w.heap.push _)[b]?=_;rw[a5 hb,<-a6 hb]
 have r:Clear X V (λb=>M b\/b=w.heap.size):=k.clear λb hb=>by
  rcases hb with hb|hb
  ·exact h.lk.clear.own b hb
  ·exact⟨by omega,by omega,by omega⟩
 have i:∀a b,ρ a b->b<w.heap.size:=λa b x=>(h.lk.wr.lt x).2;refine⟨⟨(h.lk.more (λ_ x=>.inl x) r λb hb x=>?_).same (by simp[aB]) λa b x=>c b (i a b x),⟨?_,λb hb=>?_,by simp only[aB];have:=h.kn.size;omega⟩,⟨h.gd.r0,.inl h.gd.ml,.inl h.gd.md,h.gd.pos,h.gd.un,?_,?_⟩,h.le⟩,λa x=>?_⟩
 ·have:=h.lk.sG b hb
  rcases x with x|x
  ·exact this.2 x
  ·omega
 ·exact⟨⟨_,_,by unfold Go.ConcM.MuAt at v1 ⊢;rw[c _ m];exact v1⟩,⟨_,_,by unfold Go.ConcR.WgAt at e ⊢;rw[c _ p];exact e⟩,j,by rw[c _ q];exact f,l⟩
 ·rw[c b (h.lk.sG b hb).1];exact h.kn.st b hb
 ·rw[c _ (bn h.gd.hl)];exact h.gd.hl
 ·rw[c _ (bn h.gd.hd)];exact h.gd.hd
 ·have:=i a _ x;omega
def Iv.same(h:Iv X V np D n bc bg bt b0 b1 w0 ρ M lb st gL wL g' w)(hl:Live X w')(hs:w.heap.size<=w'.heap.size)(c:∀a b,ρ a b->w'.heap[b]?=w.heap[b]?)(e:∀b,V.st b->w'.heap[b]?=w.heap[b]?)(hd:w'.heap[lb-1]?=w.heap[lb-1]?) :
 Iv X V np D n bc bg bt b0 b1 w0 ρ M lb st gL wL g' w':=
 ⟨h.lk.same hs c,⟨hl,λb hb=>(e b hb).trans (h.kn.st b hb),ad h.kn.size hs⟩,{ h.gd with hl:=(c _ _ h.gd.r0).trans h.gd.hl,hd:=hd.trans h.gd.hd },h.le⟩
def Iv.PY(h:Iv X V np D n bc bg bt b0 b1 w0 ρ M lb st gL wL g' w):Iv X V np D n bc bg bt b0 b1 w0 ρ M lb st' gL wL g' (w.putObj lb (.loop (Ti X np D n bc bg bt b0 b1 lb st'))):=by
 have k:=bn h.gd.hl;have i:=World.putObj_heap_same (w:=w) (o:=.loop (Ti X np D n bc bg bt b0 b1 lb st')) k;have c:∀b,b≠lb->(w.putObj lb (.loop (Ti X np D n bc bg bt b0 b1 lb st'))).heap[b]?=w.heap[b]?:=λb hb=>aF hb;have f:=h.lk.clear.own lb h.gd.ml;obtain⟨⟨_,_,v1⟩,⟨_,_,j⟩,l,m,p⟩:=h.kn.live;refine⟨h.lk.aeh h.gd.r0 (by omega) (by simp) (λa b _ hb=>c b hb) h.gd.hl i,⟨?_,λb hb=>?_,by simp;exact h.kn.size⟩,{ h.gd with hl:=i,hd:=by rw[c _ (by have:=h.gd.pos;omega)];exact h.gd.hd },h.le⟩
 ·exact⟨⟨_,_,by unfold Go.ConcM.MuAt at v1 ⊢;rw[c _ (Ne.symm f.1)];exact v1⟩,⟨_,_,by unfold Go.ConcR.WgAt at j ⊢;rw[c _ (Ne.symm f.2.1)];exact j⟩,l,by rw[c _ (Ne.symm f.2.2)];exact m,p⟩
 ·rw[c b λe=>(h.lk.sG b hb).2 (e▸h.gd.ml)];exact h.kn.st b hb
def _root_.Go.Ph.ay.UD{g g':ab}{b:Nat}(hc:Clear X V M)(hs:g.status=.running)(hl:Live X w)(hb:M b)(i:b<w.heap.size)
 (h:∀a,Rl X V M w a->∃es,stepG X.P (V.g==0) g a=.go g' a es/\∀e∈es,e=⟨.obj b,false,false⟩) (j:g'.status=.running) (k:∀a,Rl X V M w a->ay X V false Stop M d g' a):ay X V false Stop M d g w:=
 .own hc hs hl λa r=>by
  obtain⟨es,l,f⟩:=h a r;refine⟨_,_,es,l,rfl,rfl,.refl _,Nat.le_refl _,λx _ _=>rfl,λe c=>?_,j,?_⟩
  ·rw[f e c,pU];exact DG hb (ae i r.size)
  ·rw[pU,Am d (b:=b) λe c=>⟨false,f e c⟩];exact k a r
def bS(np s:Nat)(D:jB)(dl:Int):Nat->Int×Int
 |0=>(dl,dl)
 |r+1=>WZ np s D r (bS np s D dl r)
structure Rows(X:Fix)(V:Vw)(np s n:Nat)(D:jB)(dl:Int)(r:Nat)(w:World):Prop where
 put:∀r',r'<r->∀j,j<5->w.cell? ⟨X.Tb,n*25+bY np s r'*5+j,none⟩=(cG np s D r' (bS np s D dl r'))[j]?
 rest:∀j,V.row j->(j<n*25\/n*25+np*5<=j)->w.cell? ⟨X.Tb,j,none⟩=some (.int .i64 0)
def oW(h:0<np){r:Nat}:bY np s r<np:=Nat.mod_lt _ h
def PZ{r a:Nat}(h:a<r)(k:r<np):bY np s a≠bY np s r:=by
 unfold bY;intro e;have l:=ag (s+r) np;have i:=ag (s+a) np;rw[e]at i;have b:np*((s+r) / np)-np*((s+a) / np)=r-a:=by omega
 rw[<-Nat.mul_sub]at b;have c:0<r-a:=by omega
 have j:r-a<np:=by omega
 rw[<-b]at c j;have:(s+r) / np-(s+a) / np=0:=by
  by_cases f:(s+r) / np-(s+a) / np=0
  ·exact f
  ·have:=Nat.le_mul_of_pos_right np (Nat.pos_of_ne_zero f);omega
 rw[this]at c;omega
def Rows.tb{r:Nat}(h:Rows X V np s n D dl r w)(e:w'.heap[X.Tb]?=w.heap[X.Tb]?):Rows X V np s n D dl r w':=by
 have c:∀o,w'.cell? ⟨X.Tb,o,none⟩=w.cell? ⟨X.Tb,o,none⟩:=λo=>by simp only[aw,e]
 exact⟨λa b j f=>(c _).trans (h.put a b j f),λj i k=>(c _).trans (h.rest j i k)⟩
def Rows.row(k:zl X V D np s n dl gn bc bg bt w0){r:Nat}(l:r<=np)(h:Rows X V np s n D dl r w)(a:sK X V w w'):Rows X V np s n D dl r w':=⟨λb e j f=>by
 rw[a _ (k.row _ (by omega) (by
  have:=oW (s:=s) (r:=b) (show 0<np by omega);have:=k.MC
  omega))]
 exact h.put b e j f,λj c i=>(a j c).trans (h.rest j c i)⟩
def Rows.next{r:Nat}(i:r<np)(h:Rows X V np s n D dl r w)(k:∀j,j<5->w'.cell? ⟨X.Tb,n*25+bY np s r*5+j,none⟩=(cG np s D r (bS np s D dl r))[j]?)
 (b:∀j,(j<n*25+bY np s r*5\/n*25+bY np s r*5+5<=j)->w'.cell? ⟨X.Tb,j,none⟩=w.cell? ⟨X.Tb,j,none⟩):Rows X V np s n D dl (r+1) w':=⟨λa l j c=>by
 by_cases e:a=r
 ·subst e;exact k j c
 ·have f:a<r:=by omega
  rw[b _ (by have:=PZ (s:=s) f i;omega)];exact h.put a f j c,λj k1 k2=>by
 rw[b j (by have:=oW (s:=s) (r:=r) (show 0<np by omega);omega)]
 exact h.rest j k1 k2⟩
end
open Go.cD (Th bP)
section
variable {X:Fix}{V:Vw}{D:jB}{np s n:Nat}{dl:Int}{gn:ByteArray}{bc bg bt:Nat}{w0 w w':World}{M:Own}{ρ:Ren}{Fin:World->Prop}{g g' gL:ab}{wL:World}{b0 b1 lb b5 r m:Nat}{st st':ac}
def JE{Stop:Stp}(k:zl X V D np s n dl gn bc bg bt w0)(z:FE np s)(A:r<np){f Z}{c:Int×Int}(h:Iv X V np D n bc bg bt b0 b1 w0 ρ M lb st (gR np s (aW np D) r f) (wR np s (aW np D) (hU np D w0) n dl gn r c Z) g' w)
 (K:∀B l f Z p w2,Iv X V np D n bc bg bt b0 b1 w0 B l lb st (gY np s (aW np D) r c f) (wY np s (aW np D) (hU np D w0) n dl gn r (l9 np s (aW np D) r c) Z) p w2->sK X V w w2->ay X V false Stop l 0 p w2):ay X V false Stop M 0 g' w:=by
 have b:=z.round r A;obtain⟨d,C⟩:=b.c3 (aW np D) f;obtain⟨o,E,d⟩:=jC d;obtain⟨F,H⟩:=h.lk.g.op E;have e:ρ (Jz np D D.pb) D.pb:=h.le _ _ (pW (by simp[dR]));have e1:=H 34;rw[C]at e1;have e1:=PG h.lk.inj e1 e;have u:V.st D.pb:=(k.blk D.pb (by simp[dR])).1;have a:bY np s r<np:=oW (by omega);have I:((ai 12).map λj=>(pA D (bY np s r)).getD j undef).toArray=pA D (bY np s r):=rfl;refine .qM (v:=.agg (pA D (bY np s r))) h.lk.clear h.kn.live F d e1 (λJ q=>?_) (JB k u) ?_
 ·have zz:=h.kn.rl q;have hc:∀j,j<12->J.cell? ((⟨D.pb,D.po+12*bY np s r,none⟩:Addr).add j)=some ((pA D (bY np s r)).getD j undef):=λj L=>by
   rw[dY,zz.cell u,k.G8 _ a j L];obtain rfl|rfl|rfl|rfl|rfl|rfl|rfl|rfl|rfl|rfl|rfl|rfl:j=0\/j=1\/j=2\/j=3\/j=4\/j=5\/j=6\/j=7\/j=8\/j=9\/j=10\/j=11:=by omega
   all_goals rfl
  have:=sH (P:=X.P) (t:=73) (by rw[k.hP];exact ajm) rfl (by rw[k.hP];exact ajl) hc;rw[I]at this;exact⟨this,pY (by have:=hc 0 (by omega);rwa[dY]at this)⟩
 have N:=h.fin (v:=.agg (pA (aW np D) (bY np s r))) (v':=.agg (pA D (bY np s r))) (.agg (cU.mono h.le (Ze a)));refine N.seg k (q:=Yd np s (aW np D) (gR np s (aW np D) r f) (wR np s (aW np D) (hU np D w0) n dl gn r c Z) r) (by delta Yd;rfl) (b.e4 _ _ _ _ _ _ _ _) λi O Q w3 x R=>?_;obtain⟨S,T,U⟩:=b.y (aW np D) (hU np D w0) n dl gn c f Z;rw[U]at x;exact K i O S T Q w3 x R
def GC.base{up:List Frame}(h:GC aI aJ aJ F3 ZZ default up ρ g g')(hc:g.callers=[default]):g'=G g'.frame up:=by
 obtain⟨k,⟨l,o,b,c,i,p⟩,q,d,t,e,u,f⟩:=h;obtain⟨j,cs',st',Bl,Bm⟩:=g';simp only at d e f c;subst d e f c;have hl:l=[]:=by
  rw[hc]at b
  cases l with
  |nil=>rfl
  |cons a l=>have:=congrArg List.length b;simp at this
 subst hl;cases i;rfl
def UE(W bc bg a bt:Nat)(c:Value)(n:Int)(b v:Value):(qJ W bc bg a bt c n b undef undef (λ_=>undef)).setIfInBounds 9 v=qJ W bc bg a bt c n b v undef (λ_=>undef):=by
 unfold qJ;rw[Jv];refine Ap λi hi=>?_;unfold px;by_cases e:i=9
 ·subst e;rfl
 ·rw[if_neg e];unfold Ul
  split<;>first|rfl|exact absurd rfl e
def yields{Stop:Stp}(k:zl X V D np s n dl gn bc bg bt w0)(p:FE np s)(t:r<np){f}{c:Int×Int}{a:World}(h:Iv X V np D n bc bg bt b0 b1 w0 ρ M lb st (gY np s (aW np D) r c f) a g' w)
 (K:∀w2,Iv X V np D n bc bg bt b0 b1 w0 ρ M lb st (gY np s (aW np D) r c f) a g' w2->sK X V w w2->g'=G g'.frame [xN X np D n bc bg bt b0 b1 lb,ez PP]->
   ay X V false Stop M 0 (rd0 X.Wg bc bg X.Mu bt (sJ np D) n (vO b0 b1) (.agg (cG np s D r c)) lb (g'.frame::[xN X np D n bc bg bt b0 b1 lb,ez PP]) (λ_=>undef)) w2):ay X V false Stop M 0 g' w:=by
 have u:=p.round r t;obtain⟨e,v,y⟩:=u.c4 (aW np D) c f;obtain⟨o,z,e⟩:=jC e;obtain⟨A,i⟩:=h.lk.g.op z;have e1:=i 44;rw[v]at e1;have e1:=PI h.lk.inj Xa e1 h.gd.r0;have d:=i 45;rw[y]at d;obtain⟨j,d,B⟩:=Y5 d;have C:j=cG np s D r c:=by
  apply Array.toList_inj.1;have:cU F3 ρ ([((bY np s r:Nat):Int),c.1,c.2,(l9 np s D r c).1,(l9 np s D r c).2].map (Value.int .i64)) j.toList:=B;rw[Uw this];rfl
 subst C;have hg:=GC.base h.lk.g rfl;refine .UD (b:=lb) h.lk.clear h.lk.g.st' h.kn.live h.gd.ml (bn h.gd.hl) (g':=rd0 X.Wg bc bg X.Mu bt (sJ np D) n (vO b0 b1) (.agg (cG np s D r c)) lb (g'.frame::[xN X np D n bc bg bt b0 b1 lb,ez PP]) (λ_=>undef)) (λl q=>?_) rfl (λl q=>K l (h.rl q) q.row hg);have:=G3 (P:=X.P) (mn:=V.g==0) A e e1 (h.gd.rl q).hl rfl;obtain⟨es,E,F⟩:=this;refine⟨es,?_,F⟩;rw[E];have H:g'.callers=[xN X np D n bc bg bt b0 b1 lb,ez PP]:=congrArg Goroutine.callers hg;have I:((#[9]:Array Tmp).zip ((#[.tmp 45]:Array Operand).map g'.frame.eval)).foldl (λtmps(x:Tmp×Value)=>tmps.setIfInBounds x.1 x.2) (qJ X.Wg bc bg X.Mu bt (sJ np D) n (vO b0 b1) undef undef (λ_=>undef))=qJ X.Wg bc bg X.Mu bt (sJ np D) n (vO b0 b1) (.agg (cG np s D r c)) undef (λ_=>undef):=by
  have J:(#[9]:Array Tmp).zip ((#[.tmp 45]:Array Operand).map g'.frame.eval)=#[(9,g'.frame.eval (.tmp 45))]:=by simp
  rw[J,d];simp only[List.size_toArray,aq,List.length_nil,List.foldl_toArray',List.foldl_cons,List.foldl_nil];exact UE _ _ _ _ _ _ _ _ _
 rw[H];unfold rd0;rw[<-I];rfl
end
def rH{cur vs:Array Value}(h:cur.size=vs.size):eI cur 0 vs=vs:=by
 unfold eI;rw[Nat.zero_add,<-h,<-Array.length_toList (xs:=cur),List.drop_length];simp
section
variable {X:Fix}{V:Vw}{D:jB}{np s n:Nat}{dl:Int}{gn:ByteArray}{bc bg bt:Nat}{w0 w w':World}{M:Own}{ρ:Ren}{Fin:World->Prop}{g gy gL:ab}{wL:World}{b0 b1 lb b5 r m:Nat}{st:ac}
structure Hd(X:Fix)(V:Vw)(np s:Nat)(D:jB)(n:Nat)(dl:Int)(bc bg bt b0 b1:Nat)(w0:World)(ρ:Ren)(M:Own)(lb b5 r rows:Nat)(st:ac)(gL:ab)(wL:World)(gy:ab)(w:World):Prop where
 iv:Iv X V np D n bc bg bt b0 b1 w0 ρ M lb st gL wL gy w
 m5:M b5
 un:∀a,¬ρ a b5
 h5:w.heap[b5]?=some (.cells (cG np s D r (bS np s D dl r)) 61)
 rows:Rows X V np s n D dl rows w
def Hd.rl(k:zl X V D np s n dl gn bc bg bt w0){rows:Nat}(a:rows<=np)(h:Hd X V np s D n dl bc bg bt b0 b1 w0 ρ M lb b5 r rows st gL wL gy w)(q:Rl X V M w w'):Hd X V np s D n dl bc bg bt b0 b1 w0 ρ M lb b5 r rows st gL wL gy w':=
 ⟨h.iv.rl q,h.m5,h.un,(q.own _ h.m5).trans h.h5,h.rows.row k a q.row⟩
def Hd.PY{rows:Nat}{st':ac}(h:Hd X V np s D n dl bc bg bt b0 b1 w0 ρ M lb b5 r rows st gL wL gy w):Hd X V np s D n dl bc bg bt b0 b1 w0 ρ M lb b5 r rows st' gL wL gy (w.putObj lb (.loop (Ti X np D n bc bg bt b0 b1 lb st'))):=by
 have a:=h.iv.lk.clear.own lb h.iv.gd.ml;refine⟨h.iv.PY,h.m5,h.un,?_,h.rows.tb (aF (Ne.symm a.2.2))⟩
 ·have b:b5≠lb:=λe=>h.un 0 (by rw[e];exact h.iv.gd.r0);rw[aF b];exact h.h5
def Hd.lk(k:zl X V D np s n dl gn bc bg bt w0){rows:Nat}(a:rows<=np)(hc:Clear X V M):Lk X V M (Hd X V np s D n dl bc bg bt b0 b1 w0 ρ M lb b5 r rows st gL wL gy):=
 ⟨k.hP,k.hg,hc,λ_ _ h q=>h.rl k a q,λ_ h=>h.iv.kn.live,k.n3⟩
def D9(c:Int×Int):∀v∈cG np s D r c,v.oneCell'=true:=by
 intro v hv;simp only[cG,List.mem_toArray,ar,List.not_mem_nil,or_false]at hv
 rcases hv with rfl|rfl|rfl|rfl|rfl<;>rfl
def Hh(k:zl X V D np s n dl gn bc bg bt w0)(p:r<np)(hc:Clear X V M)(hg:gy=G gy.frame [xN X np D n bc bg bt b0 b1 lb,ez PP])
 (K:∀w2 c,Hd X V np s D n dl bc bg bt b0 b1 w0 ρ M lb b5 r (r+1) .ready gL wL gy w2->ay X V false (eU X V Fin c (bP m)) M 0 (Ph.fin gy (.bool true)) w2) (f:Nat->Value) :
 uA X V Fin M (Hd X V np s D n dl bc bg bt b0 b1 w0 ρ M lb b5 r r .busy gL wL gy) (c0 X.Wg bc bg X.Mu bt (sJ np D) n (vO b0 b1) (.agg (cG np s D r (bS np s D dl r))) lb b5 (gy.frame::[xN X np D n bc bg bt b0 b1 lb,ez PP]) f) (gy.frame::[xN X np D n bc bg bt b0 b1 lb,ez PP]) m:=by
 intro c w o;have t:bY np s r<np:=oW (by omega);have C:=k.MC;refine(q_4 ..).run k.hP k.hg ?_;rw[aj4];have R:R4 X V M (Hd X V np s D n dl bc bg bt b0 b1 w0 ρ M lb b5 r r .busy gL wL gy) (Hd X V np s D n dl bc bg bt b0 b1 w0 ρ M lb b5 r (r+1) .busy gL wL gy) bg bt b5 n (bY np s r) (cG np s D r (bS np s D dl r)):=by
  refine⟨k.hP,k.hg,hc,λ_ _ h q=>h.rl k (by omega) q,λ_ h=>h.iv.kn.live,k.shun,⟨k.bt.1,λw h=>(h.iv.kn.cell k.bt.1).trans k.bt.2⟩,⟨k.bg.1,λw h=>(h.iv.kn.cell k.bg.1).trans k.bg.2⟩,⟨o.m5,λw h=>⟨_,h.h5⟩⟩,⟨rfl,rfl,D9 _⟩,k.hn,by omega,k.sz,λj E=>k.row _ (by omega) (by omega),λw w' h hl H hb v y=>?_⟩;have l:∀{b},jm X b->w'.heap[b]?=w.heap[b]?:=λh=>hb _ h.2.2;refine⟨h.iv.same hl (by omega) (λa b x=>l (h.iv.lk.apart x)) (λb x=>l (k.apart b x)) (l (hc.own _ h.iv.gd.md)),h.m5,h.un,(l (hc.own _ h.m5)).trans h.h5,h.rows.next p v y⟩
 refine Ut R (base:=Ul X.Wg bc bg X.Mu bt (sJ np D) n (vO b0 b1) (.agg (cG np s D r (bS np s D dl r))) (pt b5) (px 10 (.tuple #[]) f)) rfl rfl rfl o λF w2 hF z=>?_;have A:zj 20 F=qJ X.Wg bc bg X.Mu bt (sJ np D) n (vO b0 b1) (.agg (cG np s D r (bS np s D dl r))) (pt b5) F:=Ap λi hi=>by
  rcases Nat.lt_or_ge i 10 with h|h
  ·rw[hF i (by omega)];obtain rfl|rfl|rfl|rfl|rfl|rfl|rfl|rfl|rfl|rfl:i=0\/i=1\/i=2\/i=3\/i=4\/i=5\/i=6\/i=7\/i=8\/i=9:=by omega
   all_goals rfl
  ·unfold Ul
   split<;>first|omega|rfl
 unfold Ur;rw[A];refine(q_5 ..).run k.hP k.hg ?_;rw[aj9];have u:=D7 (Fin:=Fin) (k:=c) (c0:=c1 X.Wg bc bg X.Mu bt (sJ np D) n (vO b0 b1) (.agg (cG np s D r (bS np s D dl r))) lb b5 (gy.frame::[xN X np D n bc bg bt b0 b1 lb,ez PP]) F) (cs:=gy.frame::[xN X np D n bc bg bt b0 b1 lb,ez PP]) (Hd.lk (r:=r) k (show r+1<=np by omega) hc) m (λc w3 d=>?_) z
 ·rw[k.hP]at u;exact u
 refine(q_6 ..).run k.hP k.hg ?_;rw[aja];refine .rec (b:=lb) (o':=.loop (Ti X np D n bc bg bt b0 b1 lb .ready)) hc rfl d.iv.kn.live d.iv.gd.ml (bn d.iv.gd.hl) (g':=G (gy.frame.finish (.bool true)) [xN X np D n bc bg bt b0 b1 lb,ez PP]) (λB q=>zH (d.iv.gd.rl q).hl) rfl λB q=>?_;have e:G (gy.frame.finish (.bool true)) [xN X np D n bc bg bt b0 b1 lb,ez PP]=Ph.fin gy (.bool true):=by rw[hg];rfl
 rw[e];exact K _ c (d.rl k (by omega) q).PY
end
end Go.Proofs
