/- Part of the proof of FieldLevels: see X45. -/
import Derived.Test.YtmkjeaacgibnoaaGreatX16
import Derived.Test.YtmkjeaacgibnoaaGreatX20
import Derived.OrdersHeld
set_option linter.all false
open Go renaming Goroutine->aa,TypeId->ab,Operand->ac,setRow_other->ad,setRow_heap->ae,Deferred->ag,Program->ai,execOp->ao,run_underlying->ap,sizeOf->aq,typeInfo->ar,loadVar->aw,loadCellsFrom->aB,events_load->aF,getD_set_ne->aH
open Nat renaming lt_or_ge->aI,zero_add->aJ
open Array renaming ext->aL,getElem?_eq_getElem->aP,replicate->aT,getD_eq_getD_getElem?->a5,getElem?_replicate->a6
open List renaming range->a7,filter_cons->a8,mem_cons->a9,length_cons->ba,getElem?_map->bb
open Go.Region renaming ready->bd,linearise->bi
open Go.Region.linearise renaming go->bj
open Go.Instr renaming indexAt->bl,sureAddr->bo,fieldAt->bp
open Go.Sem renaming events_bind->bq,run_bind->br
open Go.Value renaming cells->bs
namespace Go.Ph
open Go.Conc Go.ConcN Go.bJ
open Go.ConcM (MuAt muA msA OsLater muBlock)
section
variable {X:Fix}{V:Vw}{Stop:Stp}{M:Own}{d:Nat}{w:World}{g:aa}{o:Oper}{t ty:ab}{x y:ac}{b off:Nat}{v:Value}{cur:Array Value}
def ay.DS(hc:Clear X V M)(hl:Live X w)(f:M b)(i:bF g=some o)(s:o.op=.store t x y)(u:g.frame.eval x=.pointer (some ⟨b,off,none⟩))(hy:g.frame.eval y=v)
 (hb:w.heap[b]?=some (.cells cur ty (0,0))) (hs:(X.P.info? t).map (·.size)=some v.cells.size) (l:off+v.cells.size<=cur.size) (z:∀c∈v.cells,c.oneCell'=true)
 (A:∀a,Rl X V M w a->ay X V false Stop M d (fin g undef) (a.setRow b (eI cur off v.cells))):ay X V false Stop M d g w:=
 .own hc (aK i).1 hl λa r=>by
  have n:a.heap[b]?=some (.cells cur ty (0,0)):=by rw[r.own b f];exact hb
  obtain⟨es,e1,p⟩:=rC (P:=X.P) (mn:=V.g==0) i s u hy n hs l z;have B:b<a.heap.size:=(Array.getElem?_eq_some_iff.1 n).1;have q:M.more a (a.setRow b (eI cur off v.cells))=M:=by
   funext x;unfold Own.more;simp only[setRow_size];exact propext ⟨λh=>h.resolve_right λx=>by omega,.inl⟩
  refine⟨_,_,es,e1,rfl,rfl,.refl _,by simp,λx _ C=>ad _ _ _ _ λe=>C (e▸f),λe m=>?_,(aK i).2.2 _,?_⟩
  ·obtain⟨j,_,rfl⟩:=p e m;rw[q];exact DF f (by simpa using B)
  ·rw[q,mV d λe m=>by obtain⟨j,_,k⟩:=p e m;exact .inl ⟨_,_,k⟩];exact A a r
def Live.ad7{w:World}(hi:WO X)(hl:Live X w){cur new:Array Value}(hb:w.heap[X.Tb]?=some (.cells cur X.tT (0,0)))(hs:new.size=cur.size):Live X (w.setRow X.Tb new):=by
 obtain⟨⟨a1,a2,a⟩,⟨e,f,b⟩,c,c1,h⟩:=hl;rw[hb]at c1;cases c1;exact⟨⟨a1,a2,by unfold MuAt at a ⊢;rw[ad _ _ _ _ hi.mt];exact a⟩,⟨e,f,by unfold Go.ConcR.WgAt at b ⊢;rw[ad _ _ _ _ hi.wt];exact b⟩,new,ae w _ _ _ _ _ hb,hs.trans h⟩
def ay.Po(hc:Clear X V M)(n:bF g=some o)(B:o.op=.store t x y)(C:g.frame.eval x=.pointer (some ⟨X.Tb,off,none⟩))(hy:g.frame.eval y=v)(hl:Live X w)
 (hs:(X.P.info? t).map (·.size)=some v.cells.size) (D:off+v.cells.size<=X.size) (E:∀c∈v.cells,c.oneCell'=true) (s:∀j,j<v.cells.size->V.row (off+j))
 (F:∀a w':World,Rl X V M w a->Live X w'->w'.heap.size=a.heap.size->(∀b,b≠X.Tb->w'.heap[b]?=a.heap[b]?)->(∀j,j<v.cells.size->w'.cell? ⟨X.Tb,off+j,none⟩=v.cells[j]?)->
   (∀j,(j<off\/off+v.cells.size<=j)->w'.cell? ⟨X.Tb,j,none⟩=a.cell? ⟨X.Tb,j,none⟩)->ay X V false Stop M d (fin g undef) w'):ay X V false Stop M d g w:=
 .step (aK n).1 λa r=>by
  have H:=r.live hl;obtain⟨⟨_,_,v1⟩,⟨_,_,L⟩,cur,i,N⟩:=H;have l:off+v.cells.size<=cur.size:=by omega
  obtain⟨es,e1,u⟩:=rC (P:=X.P) (mn:=V.g==0) n B C hy i hs l E;have I:X.Tb<a.heap.size:=(Array.getElem?_eq_some_iff.1 i).1;have p:=ae a X.Tb cur (eI cur off v.cells) _ _ i;have J:∀j,j<v.cells.size->(a.setRow X.Tb (eI cur off v.cells)).cell? ⟨X.Tb,off+j,none⟩=v.cells[j]?:=λj f=>by
   simp only[World.cell?,p];exact Mo l f
  have z:∀j,(j<off\/off+v.cells.size<=j)->(a.setRow X.Tb (eI cur off v.cells)).cell? ⟨X.Tb,j,none⟩=a.cell? ⟨X.Tb,j,none⟩:=λj f=>by
   simp only[World.cell?,p,i];exact G4 l f
  refine⟨_,_,es,M,d,e1,⟨rfl,rfl,.refl _,by simp,λb _ _ _ _ K=>ad _ _ _ _ K,λc m=>?_,λj f=>?_,by simp,λb=>⟨.inl,λh=>h.resolve_right λx=>by simp at x;omega⟩,λe q=>?_,by simp,?_⟩,⟨ad _ _ _ _ hc.ids.mt,ad _ _ _ _ hc.ids.wt⟩,(aK n).2.2 _,?_⟩
  ·rw[i]at m;cases m;exact⟨_,p,vj l⟩
  ·refine z j ?_
   rcases aI j off with h|h
   ·exact .inl h
   ·rcases aI j (off+v.cells.size) with A|A
    ·exact absurd (by have:=s (j-off) (by omega);rwa[show off+(j-off)=j by omega]at this) f
    ·exact .inr A
  ·obtain⟨j,f,rfl⟩:=u e q;exact Pf rfl (s j f) (by simpa using I)
  ·rw[mV d λe q=>by obtain⟨j,_,k⟩:=u e q;exact .inl ⟨_,_,k⟩]
  ·exact F a _ r (Live.ad7 hc.ids (r.live hl) i (vj l)) (by simp) (λb hb=>ad _ _ _ _ hb) J z
end
end Go.Ph
namespace Go.Proofs
open Go.Ph Go.Conc
set_option maxRecDepth 100000
def xJ(g:aa):Bool:=match g.frame.mode with
 |.run=>match g.frame.todo with
  |[]=>g.frame.roundOf.isSome
  |.beginRound::_=>true
  |.endRangeFunc _::_=>true
  |.code (.rangeFunc ..)::_=>true
  |.code (.region _ _ true)::_=>true
  |[.code _]=>g.frame.fn==110||g.frame.fn==139||g.frame.fn==140||g.frame.fn==144
  |.inRegion _ (_::_)::_=>match bF g with
   |some o=>match o.op with
    |.load .. | .store .. | .alloc .. | .box ..=>true
    |_=>false
   |none=>false
  |_=>false
 |.returning=>true
 |_=>false
noncomputable abbrev T5(g:aa):aa:=wu PP false xJ 400 g
structure vN(g g':aa):Prop where
 q:ff PP false xJ 400 g
 d:∀d,xD PP false xJ 400 d g=d
 e:T5 g=g'
def jK{g g':aa}(e:T5 g=g')(a:ff PP false xJ 400 g:=by exact⟨λ_=>by kernel_rfl,by kernel_rfl⟩)(hd:∀d,xD PP false xJ 400 d g=d:=by intro _;kernel_rfl):vN g g':=⟨a,hd,e⟩
def vN.run{X:Fix}{V:Vw}{q:Bool}{Stop:Stp}{M:Own}{d:Nat}{g g':aa}{w:World}(h:vN g g')(a:X.P=PP)(hg:(V.g==0)=false)(b:ay X V q Stop M d g' w):ay X V q Stop M d g w:=by
 refine .oO (S:=xJ) hg 400 (by rw[a];exact h.q) ?_;have e:wu PP false xJ 400 g=g':=h.e;rw[a,h.d,e];exact b
noncomputable def Jt:Code:=((PP.funcs[137]?).bind (·.body)).getD .skip
def rangeAt:Code->Option (Code×Code)
 |.rangeFunc _ _ a b=>some (a,b)
 |.block _ b=>rangeAt b
 |.seq a b=>match rangeAt a with
  |some x=>some x
  |none=>rangeAt b
 |_=>none
noncomputable def vl:Code:=((rangeAt Jt).getD (.skip,.skip)).1
noncomputable def lZ:Code:=((rangeAt Jt).getD (.skip,.skip)).2
def jZ(i:Nat):Code->Option (Array Oper)
 |.region j ops _=>if j==i then some ops else none
 |.block _ b=>jZ i b
 |.loop b=>jZ i b
 |.cond _ a b=>match jZ i a with
  |some x=>some x
  |none=>jZ i b
 |.seq a b=>match jZ i a with
  |some x=>some x
  |none=>jZ i b
 |_=>none
noncomputable def dX:Array Oper:=(jZ 4 lZ).getD #[]
section
variable (W bc bg bm bt:Nat)(c:Value)(n:Int)(cl:Value)(v:Value)(lb b5:Nat)(cs:List Frame)
def Ul(a:Value)(f:Nat->Value):Nat->Value
 |0=>.pointer (some ⟨W,0,none⟩)|1=>.pointer (some ⟨bc,0,none⟩)|2=>.pointer (some ⟨bg,0,none⟩)|3=>.pointer (some ⟨bm,0,none⟩)|4=>.pointer (some ⟨bt,0,none⟩)|5=>a|6=>c|7=>.int .i64 n|8=>cl|9=>v|i=>f i
noncomputable def qJ(a:Value)(f:Nat->Value):Array Value:=zj 20 (Ul W bc bg bm bt c n cl v a f)
noncomputable def rG:List ag:=[{ target:=.fn (.func 138) #[],args:=#[pt W] }]
noncomputable def k3:aa:=T5 (G (((k2 W bc bg bm bt c n).callers.headD default).finish cl) [ez PP])
def aiY:k2 W bc bg bm bt c n=G (Frame.enter PP 110 #[c,.int .i64 n] .normal) [(k2 W bc bg bm bt c n).callers.headD default,ez PP]:=by kernel_rfl
noncomputable def kk:List Item:=(k3 0 0 0 0 0 undef 0 undef).frame.todo.tail
def k_3:vN (G (((k2 W bc bg bm bt c n).callers.headD default).finish cl) [ez PP]) (k3 W bc bg bm bt c n cl):=jK (by delta k3;rfl)
def aiZ:k3 W bc bg bm bt c n cl=G ⟨137,qJ W bc bg bm bt c n cl undef undef (λ_=>undef),.code (.rangeFunc (.tmp 8) #[9] vl lZ)::kk,rG W,.run,.deferred,none⟩ [ez PP]:=by kernel_rfl
noncomputable def rd0(f:Nat->Value):aa:=G (Frame.round lb 137 (qJ W bc bg bm bt c n cl v undef f) vl lZ .normal) cs
noncomputable def q0(f:Nat->Value):aa:=T5 (rd0 W bc bg bm bt c n cl v lb cs f)
def q_0(f:Nat->Value):vN (rd0 W bc bg bm bt c n cl v lb cs f) (q0 W bc bg bm bt c n cl v lb cs f):=jK (by delta q0;rfl)
def aj0(f:Nat->Value):(bF (q0 W bc bg bm bt c n cl v lb cs f)).map (·.op)=some (.alloc 61):=by kernel_rfl
noncomputable def q1(f:Nat->Value):aa:=T5 (fin (q0 W bc bg bm bt c n cl v lb cs f) (pt b5))
def q_1(f:Nat->Value):vN (fin (q0 W bc bg bm bt c n cl v lb cs f) (pt b5)) (q1 W bc bg bm bt c n cl v lb b5 cs f):=jK (by delta q1;rfl)
def aj1(f:Nat->Value):(bF (q1 W bc bg bm bt c n cl v lb b5 cs f)).map (·.op)=some (.store 61 (.tmp 5) (.tmp 9))/\(q1 W bc bg bm bt c n cl v lb b5 cs f).frame.eval (.tmp 5)=pt b5/\(q1 W bc bg bm bt c n cl v lb b5 cs f).frame.eval (.tmp 9)=v:=⟨by kernel_rfl,by kernel_rfl,by kernel_rfl⟩
noncomputable def q2(f:Nat->Value):aa:=T5 (fin (q1 W bc bg bm bt c n cl v lb b5 cs f) undef)
def q_2(f:Nat->Value):vN (fin (q1 W bc bg bm bt c n cl v lb b5 cs f) undef) (q2 W bc bg bm bt c n cl v lb b5 cs f):=jK (by delta q2;rfl)
def aj2(f:Nat->Value):q2 W bc bg bm bt c n cl v lb b5 cs f=G ⟨137,qJ W bc bg bm bt c n cl v (pt b5) f,[.beginRound,.code lZ],[],.run,.normal,some lb⟩ cs:=by kernel_rfl
noncomputable def q3(f:Nat->Value):aa:=T5 (G ⟨137,qJ W bc bg bm bt c n cl v (pt b5) f,[.code lZ],[],.run,.normal,some lb⟩ cs)
def q_3(f:Nat->Value):vN (G ⟨137,qJ W bc bg bm bt c n cl v (pt b5) f,[.code lZ],[],.run,.normal,some lb⟩ cs) (q3 W bc bg bm bt c n cl v lb b5 cs f):=jK (by delta q3;rfl)
noncomputable def c0(f:Nat->Value):Frame:=(q3 W bc bg bm bt c n cl v lb b5 cs f).callers.headD default
def aj3(f:Nat->Value):q3 W bc bg bm bt c n cl v lb b5 cs f=G (Frame.enter PP 139 #[pt bm] .normal) (c0 W bc bg bm bt c n cl v lb b5 cs f::cs):=by kernel_rfl
noncomputable def q4(f:Nat->Value):aa:=T5 (G ((c0 W bc bg bm bt c n cl v lb b5 cs f).finish (.tuple #[])) cs)
def q_4(f:Nat->Value):vN (G ((c0 W bc bg bm bt c n cl v lb b5 cs f).finish (.tuple #[])) cs) (q4 W bc bg bm bt c n cl v lb b5 cs f):=jK (by delta q4;rfl)
noncomputable def kr:List Item:=(q4 0 0 0 0 0 undef 0 undef undef 0 0 [] (λ_=>undef)).frame.todo.tail
def aj4(f:Nat->Value):q4 W bc bg bm bt c n cl v lb b5 cs f=G ⟨137,qJ W bc bg bm bt c n cl v (pt b5) (px 10 (.tuple #[]) f),.code (.region 4 dX true)::kr,[],.run,.normal,some lb⟩ cs:=by kernel_rfl
end
end Go.Proofs
namespace Go.Ph
open Go.Conc Go.ConcN Go.bJ Go.Proofs
section
variable {fn:FuncId}{tmps:Array Value}{ops:Array Oper}{i:Nat}{rest:List Nat}{k:List Item}{ds:List ag}{kind:CallKind}{ro:Option Nat}{cs:List Frame}{o:Oper}
def DU(b:(kind==CallKind.early)=false)(c:ops[i]?=some o)(hg:o.guard=none)(hd:pS o.op=true):bF (G ⟨fn,tmps,.inRegion ops (i::rest)::k,ds,.run,kind,ro⟩ cs)=some o:=by
 simp[bF,G,b,c,Region.wanted,hg,hd]
def xK(v:Value):fin (G ⟨fn,tmps,.inRegion ops (i::rest)::k,ds,.run,kind,ro⟩ cs) v=G ⟨fn,(match(ops[i]?).bind (·.dst) with|some d=>tmps.setIfInBounds d v|none=>tmps),.inRegion ops rest::k,ds,.run,kind,ro⟩ cs:=rfl
def Ju{n j:Nat}{F:Nat->Value}(h:j<n):(zj n F).getD j undef=F j:=by
 simp[zj,h]
def Jv{n j:Nat}{F:Nat->Value}{v:Value}:(zj n F).setIfInBounds j v=zj n (px j v F):=by
 apply aL
 ·simp[zj]
 ·intro i b c;simp only[zj,Array.getElem_setIfInBounds,List.getElem_toArray,List.getElem_map,List.getElem_range,px];by_cases e:j=i
  ·simp[e]
  ·simp[e,Ne.symm e]
def Ap{n:Nat}{F b:Nat->Value}(h:∀i,i<n->F i=b i):zj n F=zj n b:=by
 unfold zj;congr 1;exact List.map_congr_left λi hi=>h i (List.mem_range.1 hi)
end
def left(ops:Array Oper)(listed:Array Bool):Nat:=((a7 ops.size).filter λi=>!listed.getD i true).length
def DV{ops:Array Oper}{listed:Array Bool}{i:Nat}(hi:i<ops.size)(h:listed.getD i true=false):left ops (listed.setIfInBounds i true)<left ops listed:=by
 unfold left;have c:i<listed.size:=by
  rcases aI i listed.size with b|b
  ·exact b
  ·simp[b]at h
 have sub:∀l:List Nat,(l.filter λj=>!(listed.setIfInBounds i true).getD j true).length+(if i∈l then 1 else 0)<=(l.filter λj=>!listed.getD j true).length:=by
  intro l
  induction l with
  |nil=>simp
  |cons a l f=>
   by_cases e:i=a
   ·subst e;have e1:(listed.setIfInBounds i true).getD i true=true:=by simp[c]
    simp only[a8,e1,h,Bool.not_true,Bool.not_false,Bool.false_eq_true,if_false,if_true,a9,true_or,ba];have:(if i∈l then 1 else 0)<=1:=by split<;>omega
    omega
   ·have e1:(listed.setIfInBounds i true).getD a true=listed.getD a true:=getD_set_ne true e;simp only[a8,e1,a9,e,false_or]
    split
    ·simp only[ba];omega
    ·exact f
 have:=sub (a7 ops.size);rw[if_pos (List.mem_range.2 hi)]at this;omega
section
variable {X:Fix}{V:Vw}{Stop:Stp}{M:Own}{d:Nat}{ops:Array Oper}
def ay.lin{st:Array Bool->List Nat->aa}{I:Array Bool->World->Prop}
 (j:∀listed w,bd .any ops listed=[]->I listed w->ay X V false Stop M d (st listed []) w)
 (m:∀listed i rest w,i∈bd .any ops listed->I listed w->(∀w',I (listed.setIfInBounds i true) w'->ay X V false Stop M d (st (listed.setIfInBounds i true) rest) w')->ay X V false Stop M d (st listed (i::rest)) w) :
 ∀fuel t listed w,I listed w->left ops listed<=fuel->ay X V false Stop M d (st listed (bj .any ops fuel t listed [])) w:=by
 intro fuel
 induction fuel with
 |zero=>
  intro t listed w b hl;have c:bd .any ops listed=[]:=by
   apply List.eq_nil_iff_forall_not_mem.2;intro i hi;obtain⟨e,o,f,_⟩:=mem_ready.1 hi;have:=DV (Array.getElem?_eq_some_iff.1 f).1 e;omega
  simpa[bj]using j listed w c b
 |succ fuel n=>
  intro t listed w b hl;simp only[bj]
  change ay X V false Stop M d (st listed (match(bd .any ops listed)[t % (bd .any ops listed).length]? with
   |some i=>bj .any ops fuel (t / (bd .any ops listed).length) (listed.setIfInBounds i true) [i]
   |none=>[].reverse)) w
  cases hi:(bd .any ops listed)[t % (bd .any ops listed).length]? with
  |none=>
   have h:bd .any ops listed=[]:=by
    cases c:bd .any ops listed with
    |nil=>rfl
    |cons x xs=>
     rw[c]at hi;have p:t % (x::xs).length<(x::xs).length:=Nat.mod_lt _ (by simp);simp at hi;simp at p;omega
   simpa using j listed w h b
  |some i=>
   have l:=List.mem_of_getElem? hi;simp only[];rw[linearise_go_acc,List.reverse_singleton,List.singleton_append];refine m listed i _ w l b λw' q=>n _ _ w' q ?_;obtain⟨e,o,f,_⟩:=mem_ready.1 l;have:=DV (Array.getElem?_eq_some_iff.1 f).1 e;omega
def ay.draw{fn:FuncId}{tmps:Array Value}{k:List Item}{ds:List ag}{kind:CallKind}{ro:Option Nat}{cs:List Frame}{id:Nat}{w:World}(hc:Clear X V M)(c:X.P.follows .mixedOrders=true)
 (h:∀t,ay X V false Stop M d (G ⟨fn,tmps,.inRegion ops (bi .any ops t)::k,ds,.run,kind,ro⟩ cs) w):ay X V false Stop M d (G ⟨fn,tmps,.code (.region id ops true)::k,ds,.run,kind,ro⟩ cs) w:=
 .idle hc rfl λb _=>⟨G ⟨fn,tmps,.inRegion ops (bi .any ops (b.tape b.drawn (.order fn id)))::k,ds,.run,kind,ro⟩ cs,{ b with drawn:=b.drawn+1 },#[],by
  simp[G,stepG,stepG.exec,choose,Sem.run,Question.forced,Question.cut,Region.schedule,c],rfl,rfl,.refl _,rfl,by simp,rfl,h _⟩
end
section
variable {P:ai}{mn:Bool}{w:World}{g:aa}{o:Oper}{t elem:ab}{x ix:ac}{len:Nat}{k:IntKind}{i:Int}{a:Addr}{sz:Nat}
def qK(j:bF g=some o)(l:o.op=.indexAddr t x ix)(m:g.frame.eval x=.pointer (some a))(hi:g.frame.eval ix=.int k i)
 (e:P.underlying t=some (.array len elem)) (hs:(P.info? elem).map (·.size)=some sz) (f:0<=i) (h:i<len) :
 stepG P mn g w=.go (fin g (.pointer (some (a.add (i.toNat*sz))))) w #[]:=by
 have e1:ao g.frame.eval o=(do pure (.value (<-bl t (.pointer (some a)) (.int k i))):Sem Next):=by
  unfold ao;simp only[l,m,hi]
 cases b:P.info? elem with
 |none=>simp[b]at hs
 |some c=>
  have n:c.size=sz:=by simpa[b]using hs
  have p:(bl t (.pointer (some a)) (.int k i)).run P w=.ok (.pointer (some (a.add (i.toNat*sz)))) w:=by
   simp[bl,asIntOf,ap e,bo,f,h,aq,ar,b,n]
  have q:(bl t (.pointer (some a)) (.int k i)).events P w #[]=#[]:=by
   simp[bl,asIntOf,ap e,bo,f,h,aq,ar,b]
  rw[dF (v:=.pointer (some (a.add (i.toNat*sz)))) (w':=w) j (by rw[e1];simp[p]),e1];simp[q,seen_none]
end
end Go.Ph
namespace Go.Ph
open Go.Conc Go.ConcN Go.bJ
section
variable {P:ai}{w:World}{t:ab}{a:Addr}{v:Value}
def Mx(a:Addr)(j:Nat):(a.add j).block=a.block:=by unfold Addr.add;split<;>rfl
def dY(b o j:Nat):(⟨b,o,none⟩:Addr).add j=⟨b,o+j,none⟩:=by unfold Addr.add;split<;>simp_all
structure G7(P:ai)(w:World)(t:ab)(a:Addr)(v:Value):Prop where
 run:(aw t a).run P w=.ok v w
 ev:∀e∈(aw t a).events P w #[],∃a':Addr,a'.block=a.block/\e=⟨.cell a',false,false⟩
def qL(a:Addr):∀(n i:Nat)(b:Array Value)(es:Array Event),(∀j,j<n->(w.cell? (a.add (i+j))).isSome)->∀e∈(aB a i n b).events P w es,e∈es\/∃j,e=⟨.cell (a.add j),false,false⟩
 |0,_,_,_,_=>λe h=>.inl (by simpa[aB]using h)
 |n+1,i,b,es,hc=>λe h=>by
  simp only[aB,bq]at h;obtain⟨u,c⟩:=Option.isSome_iff_exists.1 (hc 0 (by omega));simp only[Nat.add_zero]at c;have f:(load (a.add i)).run P w=.ok u w:=by simp[c]
  have k:(load (a.add i)).events P w es=es.push ⟨.cell (a.add i),false,false⟩:=by
   rw[aF,c];rfl
  rw[f,k]at h
  rcases qL a n (i+1) (b.push u) _ (λj l=>by have:=hc (j+1) (by omega);rwa[show i+(j+1)=i+1+j by omega]at this) e h with h|h
  ·rcases Array.mem_push.1 h with h|rfl
   ·exact .inl h
   ·exact .inr ⟨i,rfl⟩
  ·exact .inr h
def sH{d:TypeDesc}{n:Nat}{f:Nat->Value}(c:P.underlying t=some d)(hd:(match d with | .struct _ | .array _ _=>true|_=>false)=true)(hi:(P.info? t).map (·.size)=some n)
 (h:∀j,j<n->w.cell? (a.add j)=some (f j)):G7 P w t a (.agg ((a7 n).map f).toArray):=by
 have k:(isAgg t).run P w=.ok true w:=by
  unfold isAgg;rw[br,ap c w];cases d<;>simp_all
 have l:(isAgg t).events P w #[]=#[]:=by
  unfold isAgg;rw[bq,ap c w];cases d<;>simp_all
 cases b:P.info? t with
 |none=>simp[b]at hi
 |some i=>
  have hs:i.size=n:=by simpa[b]using hi
  have hl:=run_loadCells (P:=P) w a n f h;refine⟨by simp[aw,br,k,aq,ar,b,hs,hl],λe m=>?_⟩;have:e∈(loadCells a n).events P w #[]:=by simpa[aw,bq,k,l,aq,ar,b,hs,hl]using m
  rcases qL (P:=P) (w:=w) a n 0 #[] #[] (λj p=>by rw[aJ,h j p];rfl) e this with h|⟨j,h⟩
  ·simp at h
  ·exact⟨_,Mx a j,h⟩
def l8{d:TypeDesc}(b:P.underlying t=some d)(hd:(match d with | .struct _ | .array _ _=>true|_=>false)=false)(h:w.cell? a=some v):G7 P w t a v:=by
 have c:(isAgg t).run P w=.ok false w:=by
  unfold isAgg;rw[br,ap b w];cases d<;>simp_all
 have f:(isAgg t).events P w #[]=#[]:=by
  unfold isAgg;rw[bq,ap b w];cases d<;>simp_all
 refine⟨by simp[aw,br,c,h],λe i=>?_⟩;have:e∈(load a).events P w #[]:=by simpa[aw,bq,c,f]using i
 rw[aF,h]at this
 rcases Array.mem_push.1 this with h|rfl
 ·simp at h
 ·exact⟨a,rfl,rfl⟩
def zI{mn:Bool}{g:aa}{o:Oper}{x:ac}(b:bF g=some o)(c:o.op=.nilCheck x)(e:g.frame.eval x=.pointer (some a)):stepG P mn g w=.go (fin g (.pointer (some a))) w #[]:=by
 have e1:ao g.frame.eval o=pure (.value (.pointer (some a))):=by
  unfold ao;simp only[c,e]
 rw[dF (v:=.pointer (some a)) (w':=w) b (by rw[e1];rfl),e1];simp[seen_none]
variable {X:Fix}{V:Vw}{Stop:Stp}{M:Own}{d:Nat}{g:aa}{o:Oper}{x:ac}
def ay.qM(hc:Clear X V M)(hl:Live X w)(c:bF g=some o)(e:o.op=.load t x)(f:g.frame.eval x=.pointer (some a))
 (h:∀b,Rl X V M w b->G7 X.P b t a v/\a.block<b.heap.size)
 (i:(V.st a.block/\∀a':Addr,a'.block=a.block->¬X.Shun (.cell a'))\/M a.block) (j:ay X V false Stop M d (fin g v) w):ay X V false Stop M d g w:=
 .load hc hl c e f (λb r=>⟨(h b r).1.run,(h b r).2,(h b r).1.ev⟩) i j
def ay.DW{g':aa}{w:World}(hc:Clear X V M)(hs:g.status=.running)(h:∀w,stepG X.P (V.g==0) g w=.go g' w #[])(c:g'.status=.running)(e:ay X V false Stop M d g' w):ay X V false Stop M d g w:=
 .idle hc hs λb _=>⟨_,b,#[],h b,rfl,rfl,.refl _,rfl,by simp,c,e⟩
end
end Go.Ph
namespace Go.Proofs
open Go.Ph Go.Conc Go.bJ
set_option maxRecDepth 100000
def jL{i:Nat}{op:Op}{dst:Option Tmp}(h:(dX[i]?).map (λo=>(o.op,o.dst,o.guard))=some (op,dst,none)):∃o,dX[i]?=some o/\o.op=op/\o.dst=dst/\o.guard=none:=by
 cases b:dX[i]? with
 |none=>rw[b]at h;cases h
 |some o=>
  rw[b]at h;simp only[Option.map_some,Option.some.injEq,Prod.mk.injEq]at h;exact⟨o,rfl,h.1,h.2.1,h.2.2⟩
def adz:(dX[0]?).map (λo=>(o.op,o.dst,o.guard))=some (.load 134 (.tmp 4),some 11,none):=by kernel_rfl
def adA:(dX[1]?).map (λo=>(o.op,o.dst,o.guard))=some (.load 3 (.tmp 2),some 12,none):=by kernel_rfl
def adB:(dX[2]?).map (λo=>(o.op,o.dst,o.guard))=some (.fieldAddr 61 (.tmp 5) 0,some 13,none):=by kernel_rfl
def adC:(dX[3]?).map (λo=>(o.op,o.dst,o.guard))=some (.load 3 (.tmp 13),some 14,none):=by kernel_rfl
def adD:(dX[4]?).map (λo=>(o.op,o.dst,o.guard))=some (.load 61 (.tmp 5),some 15,none):=by kernel_rfl
def adE:(dX[5]?).map (λo=>(o.op,o.dst,o.guard))=some (.nilCheck (.tmp 11),some 16,none):=by kernel_rfl
def adF:(dX[6]?).map (λo=>(o.op,o.dst,o.guard))=some (.indexAddr 183 (.tmp 16) (.tmp 12),some 17,none):=by kernel_rfl
def adG:(dX[7]?).map (λo=>(o.op,o.dst,o.guard))=some (.indexAddr 181 (.tmp 17) (.tmp 14),some 18,none):=by kernel_rfl
def adH:(dX[8]?).map (λo=>(o.op,o.dst,o.guard))=some (.store 61 (.tmp 18) (.tmp 15),none,none):=by kernel_rfl
def Pw:dX.size=9:=by kernel_rfl
def Aq:(a7 9).map (λi=>((dX[i]?).map λo=>o.after.toList.map (·.on)))=[some [],some [],some [],some [2],some [],some [0],some [5,1],some [6,3,0,1,2,3,4],some [7,4,0,1,2,3,4]]:=by kernel_rfl
def My:dX.all (λo=>o.after.all (Region.binds .any))=true:=by kernel_rfl
def mixed:PP.follows .mixedOrders=true:=by kernel_rfl
def WW:PP.underlying 134=some (.pointer 183):=by kernel_rfl
def ty3:PP.underlying 3=some (.int .i64):=by kernel_rfl
noncomputable def fieldsOf(t:ab):Array Field:=match PP.underlying t with
 |some (.struct fs)=>fs
 |_=>#[]
def aj6:PP.underlying 61=some (.struct (fieldsOf 61)):=by kernel_rfl
def Un:(PP.info? 61).map (·.size)=some 5:=by kernel_rfl
def adJ:PP.underlying 183=some (.array 3 181):=by kernel_rfl
def DX{mn:Bool}{g:aa}{o:Oper}{x:ac}{w:World}{b:Nat}(e:bF g=some o)(f:o.op=.fieldAddr 61 x 0)(h:g.frame.eval x=.pointer (some ⟨b,0,none⟩)):stepG PP mn g w=.go (fin g (.pointer (some ⟨b,0,none⟩))) w #[]:=by
 have e1:ao g.frame.eval o=(do pure (.value (<-bp 61 (.pointer (some ⟨b,0,none⟩)) 0)):Sem Next):=by
  unfold ao;simp only[f,h]
 have c:∀es,(bp 61 (.pointer (some ⟨b,0,none⟩)) 0).runT PP w es=(.ok (.pointer (some ⟨b,0,none⟩)) w,es):=λes=>by kernel_rfl
 have i:(bp 61 (.pointer (some ⟨b,0,none⟩)) 0).run PP w=.ok (.pointer (some ⟨b,0,none⟩)) w:=by rw[<-Sem.runT_fst,c #[]]
 have j:(bp 61 (.pointer (some ⟨b,0,none⟩)) 0).events PP w #[]=#[]:=by show(Sem.runT PP _ w #[]).2=_;rw[c #[]]
 rw[dF (v:=.pointer (some ⟨b,0,none⟩)) (w':=w) e (by rw[e1];simp[i]),e1];simp[j,seen_none]
def adK:(PP.info? 181).map (·.size)=some 25:=by kernel_rfl
def adM:PP.underlying 181=some (.array 5 61):=by kernel_rfl
structure R4(X:Fix)(V:Vw)(M:Own)(Q Q':World->Prop)(bg bt b5 n p:Nat)(vs:Array Value):Prop where
 hP:X.P=PP
 hg:(V.g==0)=false
 hc:Clear X V M
 hQ:∀w w',Q w->Rl X V M w w'->Q w'
 live:∀w,Q w->Live X w
 st:∀b,V.st b->∀a':Addr,a'.block=b->¬X.Shun (.cell a')
 bt:V.st bt/\∀w,Q w->w.cell? ⟨bt,0,none⟩=some (.pointer (some ⟨X.Tb,0,none⟩))
 bg:V.st bg/\∀w,Q w->w.cell? ⟨bg,0,none⟩=some (.int .i64 (n:Int))
 b5:M b5/\∀w,Q w->∃fz,w.heap[b5]?=some (.cells vs 61 fz)
 hv:vs.size=5/\vs[0]?=some (.int .i64 (p:Int))/\∀c∈vs,c.oneCell'=true
 hn:n<3
 hp:p<5
 fW:X.size=75
 row:∀j,j<5->V.row (n*25+p*5+j)
 hQ':∀w w',Q w->Live X w'->w'.heap.size=w.heap.size->(∀b,b≠X.Tb->w'.heap[b]?=w.heap[b]?)->(∀j,j<5->w'.cell? ⟨X.Tb,n*25+p*5+j,none⟩=vs[j]?)->(∀j,(j<n*25+p*5\/n*25+p*5+5<=j)->w'.cell? ⟨X.Tb,j,none⟩=w.cell? ⟨X.Tb,j,none⟩)->Q' w'
section
variable {X:Fix}{V:Vw}{Stop:Stp}{M:Own}{Q Q':World->Prop}{bg bt b5 n p:Nat}{vs:Array Value}
def zJ(a b5 n p:Nat)(vs:Array Value):Nat->Value
 |0=>.pointer (some ⟨a,0,none⟩)
 |1=>.int .i64 (n:Int)
 |2=>.pointer (some ⟨b5,0,none⟩)
 |3=>.int .i64 (p:Int)
 |4=>.agg vs
 |5=>.pointer (some ⟨a,0,none⟩)
 |6=>.pointer (some ⟨a,n*25,none⟩)
 |_=>.pointer (some ⟨a,n*25+p*5,none⟩)
def Jw(fv base:Nat->Value)(listed:Array Bool):Nat->Value:=λi=>if 11<=i/\i<=18/\listed.getD (i-11) false=true then fv (i-11) else base i
def oS{fv base:Nat->Value}{listed:Array Bool}{i:Nat}(h:i<11):Jw fv base listed i=base i:=by
 unfold Jw;rw[if_neg (by omega)]
def kN{fv base:Nat->Value}{listed:Array Bool}{i:Nat}(h:i<8)(hl:listed.getD i false=true):Jw fv base listed (11+i)=fv i:=by
 unfold Jw;have e:11+i-11=i:=by omega
 rw[if_pos ⟨by omega,by omega,by rw[e];exact hl⟩,e]
def Uo{fv base:Nat->Value}{listed:Array Bool}{i:Nat}(h:i<8)(hs:i<listed.size):px (11+i) (fv i) (Jw fv base listed)=Jw fv base (listed.setIfInBounds i true):=by
 funext j;unfold px Jw;by_cases e:j=11+i
 ·subst e;have e1:11+i-11=i:=by omega
  rw[if_pos rfl,if_pos ⟨by omega,by omega,by rw[e1];simp[hs]⟩,e1]
 ·rw[if_neg e];by_cases c:11<=j/\j<=18
  ·have a:i≠j-11:=by omega
   rw[aH false a]
  ·rw[if_neg (λx=>c ⟨x.1,x.2.1⟩),if_neg (λx=>c ⟨x.1,x.2.1⟩)]
def Px{fv base:Nat->Value}{listed:Array Bool}:Jw fv base (listed.setIfInBounds 8 true)=Jw fv base listed:=by
 funext j;unfold Jw;by_cases c:11<=j/\j<=18
 ·have a:8≠j-11:=by omega
  rw[aH false a]
 ·rw[if_neg (λx=>c ⟨x.1,x.2.1⟩),if_neg (λx=>c ⟨x.1,x.2.1⟩)]
def Y0{listed:Array Bool}{i:Nat}(h:i∈bd .any dX listed):i<9/\listed.getD i true=false/\i<listed.size/\
 (i=3->listed.getD 2 false=true)/\(i=5->listed.getD 0 false=true)/\(i=6->listed.getD 5 false=true/\listed.getD 1 false=true)/\(i=7->listed.getD 6 false=true/\listed.getD 3 false=true)/\
 (i=8->listed.getD 7 false=true/\listed.getD 4 false=true):=by
 obtain⟨f,o,c,g⟩:=mem_ready.1 h;have hi:i<9:=by have:=(Array.getElem?_eq_some_iff.1 c).1;rw[Pw]at this;exact this
 have hs:i<listed.size:=by
  rcases aI i listed.size with d|d
  ·exact d
  ·simp[d]at f
 have hb:∀e∈o.after,listed.getD e.on false=true:=λe b=>g e b (by
  have:=Array.all_eq_true_iff_forall_mem.1 My o (Array.mem_of_getElem? c)
  exact Array.all_eq_true_iff_forall_mem.1 this e b)
 have k:(a7 9)[i]?=some i:=by simp[hi]
 have hl:((a7 9).map (λi=>((dX[i]?).map λo=>o.after.toList.map (·.on))))[i]?=some (some (o.after.toList.map (·.on))):=by
  rw[bb,k];simp[c]
 rw[Aq]at hl;have a:∀j,j∈o.after.toList.map (·.on)->listed.getD j false=true:=λj l=>by
  obtain⟨e,b,rfl⟩:=List.mem_map.1 l;exact hb e (Array.mem_toList_iff.1 b)
 refine⟨hi,f,hs,λe=>?_,λe=>?_,λe=>?_,λe=>?_,λe=>?_⟩<;>subst e<;>simp only[List.getElem?_cons_succ,List.getElem?_cons_zero,Option.some.injEq]at hl<;>rw[<-hl]at a
 ·exact a 2 (by simp)
 ·exact a 0 (by simp)
 ·exact⟨a 5 (by simp),a 1 (by simp)⟩
 ·exact⟨a 6 (by simp),a 3 (by simp)⟩
 ·exact⟨a 7 (by simp),a 4 (by simp)⟩
def aj8{listed:Array Bool}(h:bd .any dX listed=[])(hs:listed.size=9):∀i,i<9->listed.getD i false=true:=by
 have key:∀i,i<9->(∀j,(∃l,((a7 9).map (λi=>((dX[i]?).map λo=>o.after.toList.map (·.on))))[i]?=some (some l)/\j∈l)->listed.getD j false=true)->listed.getD i false=true:=by
  intro i hi g
  cases hg:listed.getD i true with
  |true=>
   have a:i<listed.size:=by omega
   simpa[a]using hg
  |false=>
   have a:i<dX.size:=by rw[Pw];exact hi
   have:i∈bd .any dX listed:=mem_ready.2 ⟨hg,dX[i],aP a,λe k _=>g _ ⟨dX[i].after.toList.map (·.on),by
    rw[bb]
    simp[hi,aP a],List.mem_map.2 ⟨e,Array.mem_toList_iff.2 k,rfl⟩⟩⟩
   rw[h]at this;cases this
 rw[Aq]at key;have k0:=key 0 (by omega) (by simp);have k1:=key 1 (by omega) (by simp);have k2:=key 2 (by omega) (by simp);have k3:=key 3 (by omega) (by simp at k2;simp[k2]);have b:=key 4 (by omega) (by simp);have c:=key 5 (by omega) (by simp at k0;simp[k0]);have d:=key 6 (by omega) (by simp at c k1;simp[c,k1]);have f:=key 7 (by omega) (by simp at d k3 k0 k1 k2 b;simp[d,k3,k0,k1,k2,b]);have m:=key 8 (by omega) (by simp at f b k0 k1 k2 k3;simp[f,b,k0,k1,k2,k3]);intro i hi;obtain rfl|rfl|rfl|rfl|rfl|rfl|rfl|rfl|rfl:i=0\/i=1\/i=2\/i=3\/i=4\/i=5\/i=6\/i=7\/i=8:=by omega
 all_goals assumption
def Y1(listed:Array Bool):Prop:=(listed.getD 3 false=true->listed.getD 2 false=true)/\(listed.getD 5 false=true->listed.getD 0 false=true)/\(listed.getD 6 false=true->listed.getD 5 false=true/\listed.getD 1 false=true)/\
 (listed.getD 7 false=true->listed.getD 6 false=true/\listed.getD 3 false=true)/\(listed.getD 8 false=true->listed.getD 7 false=true/\listed.getD 4 false=true)
def MA(n j:Nat):(aT n false).getD j false=false:=by
 rw[a5,a6];split<;>rfl
def Py(n:Nat):Y1 (aT n false):=by
 unfold Y1;simp only[MA];simp
def Up{listed:Array Bool}(h:Y1 listed)(f:listed.getD 8 false=true):∀i,i<9->listed.getD i false=true:=by
 obtain⟨a,b,c,d,e⟩:=h;obtain⟨g,m⟩:=e f;obtain⟨j,k⟩:=d g;obtain⟨l,o⟩:=c j;have q:=b l;have r:=a k;intro i hi;obtain rfl|rfl|rfl|rfl|rfl|rfl|rfl|rfl|rfl:i=0\/i=1\/i=2\/i=3\/i=4\/i=5\/i=6\/i=7\/i=8:=by omega
 all_goals assumption
def BV{listed:Array Bool}{i:Nat}(hs:i<listed.size)(h:listed.getD i false=true):listed.getD i true=true:=by
 simpa[hs]using h
def Uq{listed:Array Bool}{i:Nat}(h:Y1 listed)(hs:i<listed.size)(k:(i=3->listed.getD 2 false=true)/\(i=5->listed.getD 0 false=true)/\(i=6->listed.getD 5 false=true/\listed.getD 1 false=true)/\(i=7->listed.getD 6 false=true/\listed.getD 3 false=true)/\
 (i=8->listed.getD 7 false=true/\listed.getD 4 false=true)):Y1 (listed.setIfInBounds i true):=by
 obtain⟨a,b,c,d,e⟩:=h;obtain⟨g,b',l,m,o⟩:=k;have or:∀j,(listed.setIfInBounds i true).getD j false=true->i=j\/listed.getD j false=true:=λj f=>by
  by_cases e:i=j
  ·exact .inl e
  ·rw[aH false e]at f;exact .inr f
 have up:∀{j},listed.getD j false=true->(listed.setIfInBounds i true).getD j false=true:=λh=>Go.getD_set_true h;refine⟨λh=>?_,λh=>?_,λh=>?_,λh=>?_,λh=>?_⟩
 ·exact up ((or _ h).elim g a)
 ·exact up ((or _ h).elim b' b)
 ·exact((or _ h).elim l c).imp up up
 ·exact((or _ h).elim m d).imp up up
 ·exact((or _ h).elim o e).imp up up
noncomputable def Ur(F:Nat->Value)(a:List Item)(lb:Nat):Frame:=⟨137,zj 20 F,a,[],.run,.normal,some lb⟩
noncomputable def DY(fv base:Nat->Value)(lb:Nat)(cs:List Frame)(listed:Array Bool)(rest:List Nat):aa:=G (Ur (Jw fv base listed) (.inRegion dX rest::kr) lb) cs
def vm{fv base:Nat->Value}{lb:Nat}{cs:List Frame}{listed:Array Bool}{rest:List Nat}{i:Nat}{o:Oper}(a:dX[i]?=some o)(hd:o.dst=some (11+i))(h:i<8)(hs:i<listed.size) :
 fin (DY fv base lb cs listed (i::rest)) (fv i)=DY fv base lb cs (listed.setIfInBounds i true) rest:=by
 unfold DY Ur;rw[xK,a];simp only[Option.bind_some,hd,Jv,Uo h hs]
def adN{fv base:Nat->Value}{lb:Nat}{cs:List Frame}{listed:Array Bool}{rest:List Nat}{o:Oper}(a:dX[8]?=some o)(hd:o.dst=none)(v:Value) :
 fin (DY fv base lb cs listed (8::rest)) v=DY fv base lb cs (listed.setIfInBounds 8 true) rest:=by
 unfold DY Ur;rw[xK,a];simp only[Option.bind_some,hd,Px]
def Us{fv base:Nat->Value}{lb:Nat}{cs:List Frame}{listed:Array Bool}{rest:List Nat}{i:Nat}{o:Oper}(a:dX[i]?=some o)(hg:o.guard=none)(hd:pS o.op=true):bF (DY fv base lb cs listed (i::rest))=some o:=
 DU rfl a hg hd
def NP{F:Nat->Value}{a:List Item}{lb j:Nat}(h:j<20):(Ur F a lb).eval (.tmp j)=F j:=Ju h
def Ut(R:R4 X V M Q Q' bg bt b5 n p vs){base:Nat->Value}(D:base 2=.pointer (some ⟨bg,0,none⟩))(Y:base 4=.pointer (some ⟨bt,0,none⟩))(O:base 5=.pointer (some ⟨b5,0,none⟩)){lb:Nat}{cs:List Frame}{d:Nat}{w:World}(Z:Q w)
 (Um:∀F w',(∀j,j<11->F j=base j)->Q' w'->ay X V false Stop M d (G (Ur F (.inRegion dX []::kr) lb) cs) w') :
 ay X V false Stop M d (G (Ur base (.code (.region 4 dX true)::kr) lb) cs) w:=by
 have WX:(V.g==0)=false:=R.hg;refine .draw R.hc (by rw[R.hP];exact mixed) λt=>?_;have e0:G ⟨137,zj 20 base,.inRegion dX (bi .any dX t)::kr,[],.run,.normal,some lb⟩ cs=DY (zJ X.Tb b5 n p vs) base lb cs (aT dX.size false) (bj .any dX dX.size t (aT dX.size false) []):=by
  unfold DY Ur;have:Jw (zJ X.Tb b5 n p vs) base (aT dX.size false)=base:=by
   funext j;unfold Jw;rw[if_neg];intro h;have:=h.2.2;rw[a5,a6]at this
   split at this<;>simp at this
  rw[this];rfl
 rw[e0];refine ay.lin (I:=λlisted w'=>listed.size=9/\Y1 listed/\(if listed.getD 8 false=true then Q' w' else Q w')) (λlisted w' hr B=>?_) (λlisted i b w' hi B k=>?_) dX.size t _ w ⟨by rw[Array.size_replicate];exact Pw,Py _,?_⟩ ?_
 ·have ha:=aj8 hr B.1;have m:=B.2.2;rw[if_pos (ha 8 (by omega))]at m;exact Um _ _ (λj x=>oS x) m
 ·obtain⟨E,S,hs,a3,T,H,J,K⟩:=Y0 hi;obtain⟨U,y,m⟩:=B;have C:listed.getD 8 false=false:=by
   cases C:listed.getD 8 false with
   |false=>rfl
   |true=>
    have:=Up y C i E;rw[BV hs this]at S;cases S
  rw[if_neg (by rw[C];simp)]at m;have W:=Uq y hs ⟨a3,T,H,J,K⟩;have next:∀w',i≠8->Q w'->(listed.setIfInBounds i true).size=9/\Y1 (listed.setIfInBounds i true)/\(if(listed.setIfInBounds i true).getD 8 false=true then Q' w' else Q w'):=λw' bu m=>by
   refine⟨by simpa using U,W,?_⟩;rw[aH false bu,C];exact m
  have hl:=R.live _ m;have L:∀{w:World}{a:Addr}{v:Value},w.cell? a=some v->a.block<w.heap.size:=λ{w a v}h=>by
   unfold World.cell? at h
   split at h
   ·rename_i hh;exact(Array.getElem?_eq_some_iff.1 hh).1
   ·cases h
  have z:∀u,Q u->∀j,j<5->u.cell? ((⟨b5,0,none⟩:Addr).add j)=some (vs.getD j undef):=λu h j x=>by
   obtain⟨fz,h⟩:=R.b5.2 _ h;have zK:j<vs.size:=by rw[R.hv.1];exact x
   rw[dY,aJ,cell_of_row _ _ _ _ _ _ h];simp[zK]
  have Ua:((a7 5).map λj=>vs.getD j undef).toArray=vs:=by
   apply aL
   ·simp[R.hv.1]
   ·intro j h1 D;simp[D]
  obtain rfl|rfl|rfl|rfl|rfl|rfl|rfl|rfl|rfl:i=0\/i=1\/i=2\/i=3\/i=4\/i=5\/i=6\/i=7\/i=8:=by omega
  ·obtain⟨o,l,e1,q,s⟩:=jL adz;refine .qM (v:=zJ X.Tb b5 n p vs 0) R.hc hl (Us l s (by rw[e1];rfl)) e1 ((NP (by omega)).trans ((oS (by omega)).trans Y)) (λu r=>?_) (.inl ⟨R.bt.1,R.st _ R.bt.1⟩) ?_
   ·have:=R.bt.2 _ (R.hQ _ _ m r);exact⟨l8 (by rw[R.hP];exact WW) rfl this,L this⟩
   ·rw[vm l q (by omega) hs];exact k _ (next _ (by omega) m)
  ·obtain⟨o,l,e1,q,s⟩:=jL adA;refine .qM (v:=zJ X.Tb b5 n p vs 1) R.hc hl (Us l s (by rw[e1];rfl)) e1 ((NP (by omega)).trans ((oS (by omega)).trans D)) (λu r=>?_) (.inl ⟨R.bg.1,R.st _ R.bg.1⟩) ?_
   ·have:=R.bg.2 _ (R.hQ _ _ m r);exact⟨l8 (by rw[R.hP];exact ty3) rfl this,L this⟩
   ·rw[vm l q (by omega) hs];exact k _ (next _ (by omega) m)
  ·obtain⟨o,l,e1,q,s⟩:=jL adB;refine .DW (g':=fin (DY (zJ X.Tb b5 n p vs) base lb cs listed (2::b)) (zJ X.Tb b5 n p vs 2)) R.hc rfl (λw=>?_) rfl ?_
   ·rw[WX,R.hP];have hx:(Ur (Jw (zJ X.Tb b5 n p vs) base listed) (.inRegion dX (2::b)::kr) lb).eval (.tmp 5)=.pointer (some ⟨b5,0,none⟩):=(NP (by omega)).trans ((oS (by omega)).trans O);exact DX (Us l s (by rw[e1];rfl)) e1 hx
   ·rw[vm l q (by omega) hs];exact k _ (next _ (by omega) m)
  ·obtain⟨o,l,e1,q,s⟩:=jL adC;refine .qM (v:=zJ X.Tb b5 n p vs 3) R.hc hl (Us l s (by rw[e1];rfl)) e1 ((NP (by omega)).trans (kN (i:=2) (by omega) (a3 rfl))) (λu r=>?_) (.inr R.b5.1) ?_
   ·have h:=z _ (R.hQ _ _ m r) 0 (by omega);have e:vs.getD 0 undef=.int .i64 (p:Int):=by rw[a5,R.hv.2.1];rfl
    rw[e,dY]at h;exact⟨l8 (by rw[R.hP];exact ty3) rfl h,L h⟩
   ·rw[vm l q (by omega) hs];exact k _ (next _ (by omega) m)
  ·obtain⟨o,l,e1,q,s⟩:=jL adD;refine .qM (v:=zJ X.Tb b5 n p vs 4) R.hc hl (Us l s (by rw[e1];rfl)) e1 ((NP (by omega)).trans ((oS (by omega)).trans O)) (λu r=>?_) (.inr R.b5.1) ?_
   ·have A:=R.hQ _ _ m r;have:=sH (P:=X.P) (w:=u) (t:=61) (a:=⟨b5,0,none⟩) (n:=5) (f:=λj=>vs.getD j undef) (by rw[R.hP];exact aj6) rfl (by rw[R.hP];exact Un) (z _ A);rw[Ua]at this;obtain⟨fz,hb⟩:=R.b5.2 _ A;exact⟨this,(Array.getElem?_eq_some_iff.1 hb).1⟩
   ·rw[vm l q (by omega) hs];exact k _ (next _ (by omega) m)
  ·obtain⟨o,l,e1,q,s⟩:=jL adE;refine .DW (g':=fin (DY (zJ X.Tb b5 n p vs) base lb cs listed (5::b)) (zJ X.Tb b5 n p vs 5)) R.hc rfl (λw=>?_) rfl ?_
   ·exact zI (Us l s (by rw[e1];rfl)) e1 ((NP (by omega)).trans (kN (i:=0) (by omega) (T rfl)))
   ·rw[vm l q (by omega) hs];exact k _ (next _ (by omega) m)
  ·obtain⟨o,l,e1,q,s⟩:=jL adF;refine .DW (g':=fin (DY (zJ X.Tb b5 n p vs) base lb cs listed (6::b)) (zJ X.Tb b5 n p vs 6)) R.hc rfl (λw=>?_) rfl ?_
   ·have x1:(DY (zJ X.Tb b5 n p vs) base lb cs listed (6::b)).frame.eval (.tmp 16)=.pointer (some ⟨X.Tb,0,none⟩):=(NP (by omega)).trans (kN (i:=5) (by omega) (H rfl).1);have x2:(DY (zJ X.Tb b5 n p vs) base lb cs listed (6::b)).frame.eval (.tmp 12)=.int .i64 (n:Int):=(NP (by omega)).trans (kN (i:=1) (by omega) (H rfl).2);have:=qK (P:=X.P) (mn:=V.g==0) (w:=w) (Us l s (by rw[e1];rfl)) e1 x1 x2 (by rw[R.hP];exact adJ) (by rw[R.hP];exact adK) (by omega) (by have:=R.hn;omega);rw[dY]at this;simpa[zJ]using this
   ·rw[vm l q (by omega) hs];exact k _ (next _ (by omega) m)
  ·obtain⟨o,l,e1,q,s⟩:=jL adG;refine .DW (g':=fin (DY (zJ X.Tb b5 n p vs) base lb cs listed (7::b)) (zJ X.Tb b5 n p vs 7)) R.hc rfl (λw=>?_) rfl ?_
   ·have x1:(DY (zJ X.Tb b5 n p vs) base lb cs listed (7::b)).frame.eval (.tmp 17)=.pointer (some ⟨X.Tb,n*25,none⟩):=(NP (by omega)).trans (kN (i:=6) (by omega) (J rfl).1);have x2:(DY (zJ X.Tb b5 n p vs) base lb cs listed (7::b)).frame.eval (.tmp 14)=.int .i64 (p:Int):=(NP (by omega)).trans (kN (i:=3) (by omega) (J rfl).2);have:=qK (P:=X.P) (mn:=V.g==0) (w:=w) (Us l s (by rw[e1];rfl)) e1 x1 x2 (by rw[R.hP];exact adM) (by rw[R.hP];exact Un) (by omega) (by have:=R.hp;omega);rw[dY]at this;simpa[zJ]using this
   ·rw[vm l q (by omega) hs];exact k _ (next _ (by omega) m)
  ·obtain⟨o,l,e1,q,s⟩:=jL adH;refine .Po (v:=.agg vs) R.hc (Us l s (by rw[e1];rfl)) e1 ((NP (by omega)).trans (kN (i:=7) (by omega) (K rfl).1)) ((NP (by omega)).trans (kN (i:=4) (by omega) (K rfl).2)) hl (by rw[R.hP,Un];simp[bs,R.hv.1]) (by rw[R.fW];simp only[bs,R.hv.1];have:=R.hn;have:=R.hp;omega)
    (λc hc=>R.hv.2.2 c hc) (λj x=>R.row j (by simpa[bs,R.hv.1]using x)) λu w2 r l1 l2 l3 l4 l5=>?_
   have N:=R.hQ' u w2 (R.hQ _ _ m r) l1 l2 l3 (λj x=>by simpa[bs]using l4 j (by simpa[bs,R.hv.1]using x)) (λj x=>l5 j (by simpa[bs,R.hv.1]using x));rw[adN l q];refine k _ ⟨by simpa using U,W,?_⟩;rw[if_pos (by simp[hs])];exact N
 ·rw[if_neg]
  ·exact Z
  ·rw[a5,a6];split<;>simp
 ·unfold left;exact Nat.le_trans (List.length_filter_le _ _) (by simp)
end
end Go.Proofs
