/- Part of the proof of FieldFlat and FieldMarshals. -/
import Derived.Test.YtmkjeaacgibnoaaGreatY17
import Derived.OrdersHeld
set_option linter.all false
open Go renaming FuncId->aa,Deferred->ab,Goroutine->ac,Program->ad,TypeId->ae,Operand->ag,execOp->ai,run_underlying->ao,sizeOf->ap,typeInfo->aq,loadVar->ar,loadCellsFrom->aw,events_load->aB,getD_set_ne->aF
open Array renaming ext->aH,getElem?_eq_getElem->aI,replicate->aJ,getD_eq_getD_getElem?->aL,getElem?_replicate->aP
open List renaming range->aT,filter_cons->a5,mem_cons->a6,length_cons->a7,getElem?_map->a8
open Nat renaming lt_or_ge->a9,zero_add->ba,le_trans->bb,lt_irrefl->bd,beq->bi
open Bool renaming not_true->bj,false_eq_true->bl,or_eq_true->bo,rec->bp
open Go.Region renaming ready->bq,linearise->br
open Go.Region.linearise renaming go->bs
open Go.Instr renaming indexAt->bv,sureAddr->bx,fieldAt->bA
open Go.Sem renaming events_bind->bC,run_bind->bL
open Option renaming map_some->bM,bind_some->bR
open Go.Value renaming cells->bT,int->b1
open Go.Proofs.Tryz renaming progTables->b2,funcs->b3
open ByteArray renaming empty->b4
open Go.Obj renaming cells->b6
namespace Go.Ph
open Go.Conc Go.ConcN Go.bJ Go.Proofs
section
variable {fn:aa}{tmps:Array Value}{ops:Array Oper}{i:Nat}{rest:List Nat}{k:List Item}{ds:List ab}{kind:CallKind}{ro:Option Nat}{cs:List Frame}{o:Oper}
def DU(b:(kind==CallKind.early)=false)(c:ops[i]?=some o)(hg:o.guard=none)(hd:pS o.op=true):bF (G ⟨fn,tmps,.inRegion ops (i::rest)::k,ds,.run,kind,ro⟩ cs)=some o:=by
 simp[bF,G,b,c,Region.wanted,hg,hd]
def xK(v:Value):fin (G ⟨fn,tmps,.inRegion ops (i::rest)::k,ds,.run,kind,ro⟩ cs) v=G ⟨fn,(match(ops[i]?).bind (·.dst) with|some d=>tmps.setIfInBounds d v|none=>tmps),.inRegion ops rest::k,ds,.run,kind,ro⟩ cs:=rfl
def Ju{n j:Nat}{F:Nat->Value}(h:j<n):(zj n F).getD j undef=F j:=by
 simp[zj,h]
def Jv{n j:Nat}{F:Nat->Value}{v:Value}:(zj n F).setIfInBounds j v=zj n (px j v F):=by
 apply aH
 ·simp[zj]
 ·intro i b c;simp only[zj,Array.getElem_setIfInBounds,List.getElem_toArray,List.getElem_map,List.getElem_range,px];by_cases e:j=i
  ·simp[e]
  ·simp[e,Ne.symm e]
def Ap{n:Nat}{F b:Nat->Value}(h:∀i,i<n->F i=b i):zj n F=zj n b:=by
 unfold zj;congr 1;exact List.map_congr_left λi hi=>h i (List.mem_range.1 hi)
end
def left(ops:Array Oper)(listed:Array Bool):Nat:=((aT ops.size).filter λi=>!listed.getD i true).length
def DV{ops:Array Oper}{listed:Array Bool}{i:Nat}(hi:i<ops.size)(h:listed.getD i true=false):left ops (listed.setIfInBounds i true)<left ops listed:=by
 unfold left;have c:i<listed.size:=by
  rcases a9 i listed.size with b|b
  ·exact b
  ·simp[b]at h
 have sub:∀l:List Nat,(l.filter λj=>!(listed.setIfInBounds i true).getD j true).length+(if i∈l then 1 else 0)<=(l.filter λj=>!listed.getD j true).length:=by
  intro l
  induction l with
  |nil=>simp
  |cons a l f=>
   by_cases e:i=a
   ·subst e;have e1:(listed.setIfInBounds i true).getD i true=true:=by simp[c]
    simp only[a5,e1,h,bj,Bool.not_false,bl,if_false,if_true,a6,true_or,a7];have:(if i∈l then 1 else 0)<=1:=by split<;>omega
    omega
   ·have e1:(listed.setIfInBounds i true).getD a true=listed.getD a true:=getD_set_ne true e;simp only[a5,e1,a6,e,false_or]
    split
    ·simp only[a7];omega
    ·exact f
 have:=sub (aT ops.size);rw[if_pos (List.mem_range.2 hi)]at this;omega
section
variable {X:Fix}{V:Vw}{Stop:Stp}{M:Own}{d:Nat}{ops:Array Oper}
def ay.lin{st:Array Bool->List Nat->ac}{I:Array Bool->World->Prop}
 (j:∀listed w,bq .any ops listed=[]->I listed w->ay X V false Stop M d (st listed []) w)
 (m:∀listed i rest w,i∈bq .any ops listed->I listed w->(∀w',I (listed.setIfInBounds i true) w'->ay X V false Stop M d (st (listed.setIfInBounds i true) rest) w')->ay X V false Stop M d (st listed (i::rest)) w) :
 ∀fuel t listed w,I listed w->left ops listed<=fuel->ay X V false Stop M d (st listed (bs .any ops fuel t listed [])) w:=by
 intro fuel
 induction fuel with
 |zero=>
  intro t listed w b hl;have c:bq .any ops listed=[]:=by
   apply List.eq_nil_iff_forall_not_mem.2;intro i hi;obtain⟨e,o,f,_⟩:=mem_ready.1 hi;have:=DV (Array.getElem?_eq_some_iff.1 f).1 e;omega
  simpa[bs]using j listed w c b
 |succ fuel n=>
  intro t listed w b hl;simp only[bs]
  change ay X V false Stop M d (st listed (match(bq .any ops listed)[t % (bq .any ops listed).length]? with
   |some i=>bs .any ops fuel (t / (bq .any ops listed).length) (listed.setIfInBounds i true) [i]
   |none=>[].reverse)) w
  cases hi:(bq .any ops listed)[t % (bq .any ops listed).length]? with
  |none=>
   have h:bq .any ops listed=[]:=by
    cases c:bq .any ops listed with
    |nil=>rfl
    |cons x xs=>
     rw[c]at hi;have p:t % (x::xs).length<(x::xs).length:=Nat.mod_lt _ (by simp);simp at hi;simp at p;omega
   simpa using j listed w h b
  |some i=>
   have l:=List.mem_of_getElem? hi;simp only[];rw[linearise_go_acc,List.reverse_singleton,List.singleton_append];refine m listed i _ w l b λw' q=>n _ _ w' q ?_;obtain⟨e,o,f,_⟩:=mem_ready.1 l;have:=DV (Array.getElem?_eq_some_iff.1 f).1 e;omega
def ay.draw{fn:aa}{tmps:Array Value}{k:List Item}{ds:List ab}{kind:CallKind}{ro:Option Nat}{cs:List Frame}{id:Nat}{w:World}(hc:Clear X V M)(c:X.P.follows .mixedOrders=true)
 (h:∀t,ay X V false Stop M d (G ⟨fn,tmps,.inRegion ops (br .any ops t)::k,ds,.run,kind,ro⟩ cs) w):ay X V false Stop M d (G ⟨fn,tmps,.code (.region id ops true)::k,ds,.run,kind,ro⟩ cs) w:=
 .idle hc rfl λb _=>⟨G ⟨fn,tmps,.inRegion ops (br .any ops (b.tape b.drawn (.order fn id)))::k,ds,.run,kind,ro⟩ cs,{ b with drawn:=b.drawn+1 },#[],by
  simp[G,stepG,stepG.exec,choose,Sem.run,Question.forced,Question.cut,Region.schedule,c],rfl,rfl,.refl _,rfl,by simp,rfl,h _⟩
end
section
variable {P:ad}{mn:Bool}{w:World}{g:ac}{o:Oper}{t elem:ae}{x ix:ag}{len:Nat}{k:IntKind}{i:Int}{a:Addr}{sz:Nat}
def qK(j:bF g=some o)(l:o.op=.indexAddr t x ix)(m:g.frame.eval x=.pointer (some a))(hi:g.frame.eval ix=.int k i)
 (e:P.underlying t=some (.array len elem)) (hs:(P.info? elem).map (·.size)=some sz) (f:0<=i) (h:i<len) :
 stepG P mn g w=.go (fin g (.pointer (some (a.add (i.toNat*sz))))) w #[]:=by
 have e1:ai g.frame.eval o=(do pure (.value (<-bv t (.pointer (some a)) (.int k i))):Sem Next):=by
  unfold ai;simp only[l,m,hi]
 cases b:P.info? elem with
 |none=>simp[b]at hs
 |some c=>
  have n:c.size=sz:=by simpa[b]using hs
  have p:(bv t (.pointer (some a)) (.int k i)).run P w=.ok (.pointer (some (a.add (i.toNat*sz)))) w:=by
   simp[bv,asIntOf,ao e,bx,f,h,ap,aq,b,n]
  have q:(bv t (.pointer (some a)) (.int k i)).events P w #[]=#[]:=by
   simp[bv,asIntOf,ao e,bx,f,h,ap,aq,b]
  rw[dF (v:=.pointer (some (a.add (i.toNat*sz)))) (w':=w) j (by rw[e1];simp[p]),e1];simp[q,seen_none]
end
end Go.Ph
namespace Go.Ph
open Go.Conc Go.ConcN Go.bJ
section
variable {P:ad}{w:World}{t:ae}{a:Addr}{v:Value}
def Mx(a:Addr)(j:Nat):(a.add j).block=a.block:=by unfold Addr.add;split<;>rfl
def dY(b o j:Nat):(⟨b,o,none⟩:Addr).add j=⟨b,o+j,none⟩:=by unfold Addr.add;split<;>simp_all
structure G7(P:ad)(w:World)(t:ae)(a:Addr)(v:Value):Prop where
 run:(ar t a).run P w=.ok v w
 ev:∀e∈(ar t a).events P w #[],∃a':Addr,a'.block=a.block/\e=⟨.cell a',false,false⟩
def qL(a:Addr):∀(n i:Nat)(b:Array Value)(es:Array Event),(∀j,j<n->(w.cell? (a.add (i+j))).isSome)->∀e∈(aw a i n b).events P w es,e∈es\/∃j,e=⟨.cell (a.add j),false,false⟩
 |0,_,_,_,_=>λe h=>.inl (by simpa[aw]using h)
 |n+1,i,b,es,hc=>λe h=>by
  simp only[aw,bC]at h;obtain⟨u,c⟩:=Option.isSome_iff_exists.1 (hc 0 (by omega));simp only[Nat.add_zero]at c;have f:(load (a.add i)).run P w=.ok u w:=by simp[c]
  have k:(load (a.add i)).events P w es=es.push ⟨.cell (a.add i),false,false⟩:=by
   rw[aB,c];rfl
  rw[f,k]at h
  rcases qL a n (i+1) (b.push u) _ (λj l=>by have:=hc (j+1) (by omega);rwa[show i+(j+1)=i+1+j by omega]at this) e h with h|h
  ·rcases Array.mem_push.1 h with h|rfl
   ·exact .inl h
   ·exact .inr ⟨i,rfl⟩
  ·exact .inr h
def sH{d:TypeDesc}{n:Nat}{f:Nat->Value}(c:P.underlying t=some d)(hd:(match d with | .struct _ | .array _ _=>true|_=>false)=true)(hi:(P.info? t).map (·.size)=some n)
 (h:∀j,j<n->w.cell? (a.add j)=some (f j)):G7 P w t a (.agg ((aT n).map f).toArray):=by
 have k:(isAgg t).run P w=.ok true w:=by
  unfold isAgg;rw[bL,ao c w];cases d<;>simp_all
 have l:(isAgg t).events P w #[]=#[]:=by
  unfold isAgg;rw[bC,ao c w];cases d<;>simp_all
 cases b:P.info? t with
 |none=>simp[b]at hi
 |some i=>
  have hs:i.size=n:=by simpa[b]using hi
  have hl:=run_loadCells (P:=P) w a n f h;refine⟨by simp[ar,bL,k,ap,aq,b,hs,hl],λe m=>?_⟩;have:e∈(loadCells a n).events P w #[]:=by simpa[ar,bC,k,l,ap,aq,b,hs,hl]using m
  rcases qL (P:=P) (w:=w) a n 0 #[] #[] (λj p=>by rw[ba,h j p];rfl) e this with h|⟨j,h⟩
  ·simp at h
  ·exact⟨_,Mx a j,h⟩
def l8{d:TypeDesc}(b:P.underlying t=some d)(hd:(match d with | .struct _ | .array _ _=>true|_=>false)=false)(h:w.cell? a=some v):G7 P w t a v:=by
 have c:(isAgg t).run P w=.ok false w:=by
  unfold isAgg;rw[bL,ao b w];cases d<;>simp_all
 have f:(isAgg t).events P w #[]=#[]:=by
  unfold isAgg;rw[bC,ao b w];cases d<;>simp_all
 refine⟨by simp[ar,bL,c,h],λe i=>?_⟩;have:e∈(load a).events P w #[]:=by simpa[ar,bC,c,f]using i
 rw[aB,h]at this
 rcases Array.mem_push.1 this with h|rfl
 ·simp at h
 ·exact⟨a,rfl,rfl⟩
def zI{mn:Bool}{g:ac}{o:Oper}{x:ag}(b:bF g=some o)(c:o.op=.nilCheck x)(e:g.frame.eval x=.pointer (some a)):stepG P mn g w=.go (fin g (.pointer (some a))) w #[]:=by
 have e1:ai g.frame.eval o=pure (.value (.pointer (some a))):=by
  unfold ai;simp only[c,e]
 rw[dF (v:=.pointer (some a)) (w':=w) b (by rw[e1];rfl),e1];simp[seen_none]
variable {X:Fix}{V:Vw}{Stop:Stp}{M:Own}{d:Nat}{g:ac}{o:Oper}{x:ag}
def ay.qM(hc:Clear X V M)(hl:Live X w)(c:bF g=some o)(e:o.op=.load t x)(f:g.frame.eval x=.pointer (some a))
 (h:∀b,Rl X V M w b->G7 X.P b t a v/\a.block<b.heap.size)
 (i:(V.st a.block/\∀a':Addr,a'.block=a.block->¬X.Shun (.cell a'))\/M a.block) (j:ay X V false Stop M d (fin g v) w):ay X V false Stop M d g w:=
 .load hc hl c e f (λb r=>⟨(h b r).1.run,(h b r).2,(h b r).1.ev⟩) i j
def ay.DW{g':ac}{w:World}(hc:Clear X V M)(hs:g.status=.running)(h:∀w,stepG X.P (V.g==0) g w=.go g' w #[])(c:g'.status=.running)(e:ay X V false Stop M d g' w):ay X V false Stop M d g w:=
 .idle hc hs λb _=>⟨_,b,#[],h b,rfl,rfl,.refl _,rfl,by simp,c,e⟩
end
end Go.Ph
namespace Go.Proofs
open Go.Ph Go.Conc Go.bJ
set_option maxRecDepth 100000
def jL{i:Nat}{op:Op}{dst:Option Tmp}(h:(dX[i]?).map (λo=>(o.op,o.dst,o.guard))=some (op,dst,none)):∃o,dX[i]?=some o/\o.op=op/\o.dst=dst/\o.guard=none:=by
 cases b:dX[i]? with
 |none=>rw[b]at h;cases h
 |some o=>
  rw[b]at h;simp only[bM,Option.some.injEq,Prod.mk.injEq]at h;exact⟨o,rfl,h.1,h.2.1,h.2.2⟩
def adz:(dX[0]?).map (λo=>(o.op,o.dst,o.guard))=some (.load 134 (.tmp 4),some 11,none):=by kernel_rfl
def adA:(dX[1]?).map (λo=>(o.op,o.dst,o.guard))=some (.load 3 (.tmp 2),some 12,none):=by kernel_rfl
def adB:(dX[2]?).map (λo=>(o.op,o.dst,o.guard))=some (.fieldAddr 61 (.tmp 5) 0,some 13,none):=by kernel_rfl
def adC:(dX[3]?).map (λo=>(o.op,o.dst,o.guard))=some (.load 3 (.tmp 13),some 14,none):=by kernel_rfl
def adD:(dX[4]?).map (λo=>(o.op,o.dst,o.guard))=some (.load 61 (.tmp 5),some 15,none):=by kernel_rfl
def adE:(dX[5]?).map (λo=>(o.op,o.dst,o.guard))=some (.nilCheck (.tmp 11),some 16,none):=by kernel_rfl
def adF:(dX[6]?).map (λo=>(o.op,o.dst,o.guard))=some (.indexAddr 183 (.tmp 16) (.tmp 12),some 17,none):=by kernel_rfl
def adG:(dX[7]?).map (λo=>(o.op,o.dst,o.guard))=some (.indexAddr 181 (.tmp 17) (.tmp 14),some 18,none):=by kernel_rfl
def adH:(dX[8]?).map (λo=>(o.op,o.dst,o.guard))=some (.store 61 (.tmp 18) (.tmp 15),none,none):=by kernel_rfl
def Pw:dX.size=9:=by kernel_rfl
def Aq:(aT 9).map (λi=>((dX[i]?).map λo=>o.after.toList.map (·.on)))=[some [],some [],some [],some [2],some [],some [0],some [5,1],some [6,3,0,1,2,3,4],some [7,4,0,1,2,3,4]]:=by kernel_rfl
def My:dX.all (λo=>o.after.all (Region.binds .any))=true:=by kernel_rfl
def mixed:PP.follows .mixedOrders=true:=by kernel_rfl
def WW:PP.underlying 134=some (.pointer 183):=by kernel_rfl
def ty3:PP.underlying 3=some (.int .i64):=by kernel_rfl
noncomputable def fieldsOf(t:ae):Array Field:=match PP.underlying t with
 |some (.struct fs)=>fs
 |_=>#[]
def aj6:PP.underlying 61=some (.struct (fieldsOf 61)):=by kernel_rfl
def Un:(PP.info? 61).map (·.size)=some 5:=by kernel_rfl
def adJ:PP.underlying 183=some (.array 3 181):=by kernel_rfl
def DX{mn:Bool}{g:ac}{o:Oper}{x:ag}{w:World}{b:Nat}(e:bF g=some o)(f:o.op=.fieldAddr 61 x 0)(h:g.frame.eval x=.pointer (some ⟨b,0,none⟩)):stepG PP mn g w=.go (fin g (.pointer (some ⟨b,0,none⟩))) w #[]:=by
 have e1:ai g.frame.eval o=(do pure (.value (<-bA 61 (.pointer (some ⟨b,0,none⟩)) 0)):Sem Next):=by
  unfold ai;simp only[f,h]
 have c:∀es,(bA 61 (.pointer (some ⟨b,0,none⟩)) 0).runT PP w es=(.ok (.pointer (some ⟨b,0,none⟩)) w,es):=λes=>by kernel_rfl
 have i:(bA 61 (.pointer (some ⟨b,0,none⟩)) 0).run PP w=.ok (.pointer (some ⟨b,0,none⟩)) w:=by rw[<-Sem.runT_fst,c #[]]
 have j:(bA 61 (.pointer (some ⟨b,0,none⟩)) 0).events PP w #[]=#[]:=by show(Sem.runT PP _ w #[]).2=_;rw[c #[]]
 rw[dF (v:=.pointer (some ⟨b,0,none⟩)) (w':=w) e (by rw[e1];simp[i]),e1];simp[j,seen_none]
def adK:(PP.info? 181).map (·.size)=some 25:=by kernel_rfl
def adM:PP.underlying 181=some (.array 5 61):=by kernel_rfl
structure R4(X:Fix)(V:Vw)(M:Own)(Q Q':World->Prop)(bg bt b5 n p:Nat)(vs:Array Value):Prop where
 hP:X.P=PP
 hg:(V.g==0)=false
 hc:Clear X V M
 hQ:∀w w',Q w->Rl X V M w w'->Q w'
 live:∀w,Q w->Live X w
 st:∀b,V.st b->∀a':Addr,a'.block=b->¬X.Shun (.cell a')
 bt:V.st bt/\∀w,Q w->w.cell? ⟨bt,0,none⟩=some (.pointer (some ⟨X.Tb,0,none⟩))
 bg:V.st bg/\∀w,Q w->w.cell? ⟨bg,0,none⟩=some (.int .i64 (n:Int))
 b5:M b5/\∀w,Q w->∃fz,w.heap[b5]?=some (.cells vs 61 fz)
 hv:vs.size=5/\vs[0]?=some (.int .i64 (p:Int))/\∀c∈vs,c.oneCell'=true
 hn:n<3
 hp:p<5
 fW:X.size=75
 row:∀j,j<5->V.row (n*25+p*5+j)
 hQ':∀w w',Q w->Live X w'->w'.heap.size=w.heap.size->(∀b,b≠X.Tb->w'.heap[b]?=w.heap[b]?)->(∀j,j<5->w'.cell? ⟨X.Tb,n*25+p*5+j,none⟩=vs[j]?)->(∀j,(j<n*25+p*5\/n*25+p*5+5<=j)->w'.cell? ⟨X.Tb,j,none⟩=w.cell? ⟨X.Tb,j,none⟩)->Q' w'
section
variable {X:Fix}{V:Vw}{Stop:Stp}{M:Own}{Q Q':World->Prop}{bg bt b5 n p:Nat}{vs:Array Value}
def zJ(a b5 n p:Nat)(vs:Array Value):Nat->Value
 |0=>.pointer (some ⟨a,0,none⟩)
 |1=>.int .i64 (n:Int)
 |2=>.pointer (some ⟨b5,0,none⟩)
 |3=>.int .i64 (p:Int)
 |4=>.agg vs
 |5=>.pointer (some ⟨a,0,none⟩)
 |6=>.pointer (some ⟨a,n*25,none⟩)
 |_=>.pointer (some ⟨a,n*25+p*5,none⟩)
def Jw(fv base:Nat->Value)(listed:Array Bool):Nat->Value:=λi=>if 11<=i/\i<=18/\listed.getD (i-11) false=true then fv (i-11) else base i
def oS{fv base:Nat->Value}{listed:Array Bool}{i:Nat}(h:i<11):Jw fv base listed i=base i:=by
 unfold Jw;rw[if_neg (by omega)]
def kN{fv base:Nat->Value}{listed:Array Bool}{i:Nat}(h:i<8)(hl:listed.getD i false=true):Jw fv base listed (11+i)=fv i:=by
 unfold Jw;have e:11+i-11=i:=by omega
 rw[if_pos ⟨by omega,by omega,by rw[e];exact hl⟩,e]
def Uo{fv base:Nat->Value}{listed:Array Bool}{i:Nat}(h:i<8)(hs:i<listed.size):px (11+i) (fv i) (Jw fv base listed)=Jw fv base (listed.setIfInBounds i true):=by
 funext j;unfold px Jw;by_cases e:j=11+i
 ·subst e;have e1:11+i-11=i:=by omega
  rw[if_pos rfl,if_pos ⟨by omega,by omega,by rw[e1];simp[hs]⟩,e1]
 ·rw[if_neg e];by_cases c:11<=j/\j<=18
  ·have a:i≠j-11:=by omega
   rw[aF false a]
  ·rw[if_neg (λx=>c ⟨x.1,x.2.1⟩),if_neg (λx=>c ⟨x.1,x.2.1⟩)]
def Px{fv base:Nat->Value}{listed:Array Bool}:Jw fv base (listed.setIfInBounds 8 true)=Jw fv base listed:=by
 funext j;unfold Jw;by_cases c:11<=j/\j<=18
 ·have a:8≠j-11:=by omega
  rw[aF false a]
 ·rw[if_neg (λx=>c ⟨x.1,x.2.1⟩),if_neg (λx=>c ⟨x.1,x.2.1⟩)]
def Y0{listed:Array Bool}{i:Nat}(h:i∈bq .any dX listed):i<9/\listed.getD i true=false/\i<listed.size/\
 (i=3->listed.getD 2 false=true)/\(i=5->listed.getD 0 false=true)/\(i=6->listed.getD 5 false=true/\listed.getD 1 false=true)/\(i=7->listed.getD 6 false=true/\listed.getD 3 false=true)/\
 (i=8->listed.getD 7 false=true/\listed.getD 4 false=true):=by
 obtain⟨f,o,c,g⟩:=mem_ready.1 h;have hi:i<9:=by have:=(Array.getElem?_eq_some_iff.1 c).1;rw[Pw]at this;exact this
 have hs:i<listed.size:=by
  rcases a9 i listed.size with d|d
  ·exact d
  ·simp[d]at f
 have hb:∀e∈o.after,listed.getD e.on false=true:=λe b=>g e b (by
  have:=Array.all_eq_true_iff_forall_mem.1 My o (Array.mem_of_getElem? c)
  exact Array.all_eq_true_iff_forall_mem.1 this e b)
 have k:(aT 9)[i]?=some i:=by simp[hi]
 have hl:((aT 9).map (λi=>((dX[i]?).map λo=>o.after.toList.map (·.on))))[i]?=some (some (o.after.toList.map (·.on))):=by
  rw[a8,k];simp[c]
 rw[Aq]at hl;have a:∀j,j∈o.after.toList.map (·.on)->listed.getD j false=true:=λj l=>by
  obtain⟨e,b,rfl⟩:=List.mem_map.1 l;exact hb e (Array.mem_toList_iff.1 b)
 refine⟨hi,f,hs,λe=>?_,λe=>?_,λe=>?_,λe=>?_,λe=>?_⟩<;>subst e<;>simp only[List.getElem?_cons_succ,List.getElem?_cons_zero,Option.some.injEq]at hl<;>rw[<-hl]at a
 ·exact a 2 (by simp)
 ·exact a 0 (by simp)
 ·exact⟨a 5 (by simp),a 1 (by simp)⟩
 ·exact⟨a 6 (by simp),a 3 (by simp)⟩
 ·exact⟨a 7 (by simp),a 4 (by simp)⟩
def aj8{listed:Array Bool}(h:bq .any dX listed=[])(hs:listed.size=9):∀i,i<9->listed.getD i false=true:=by
 have key:∀i,i<9->(∀j,(∃l,((aT 9).map (λi=>((dX[i]?).map λo=>o.after.toList.map (·.on))))[i]?=some (some l)/\j∈l)->listed.getD j false=true)->listed.getD i false=true:=by
  intro i hi g
  cases hg:listed.getD i true with
  |true=>
   have a:i<listed.size:=by omega
   simpa[a]using hg
  |false=>
   have a:i<dX.size:=by rw[Pw];exact hi
   have:i∈bq .any dX listed:=mem_ready.2 ⟨hg,dX[i],aI a,λe k _=>g _ ⟨dX[i].after.toList.map (·.on),by
    rw[a8]
    simp[hi,aI a],List.mem_map.2 ⟨e,Array.mem_toList_iff.2 k,rfl⟩⟩⟩
   rw[h]at this;cases this
 rw[Aq]at key;have k0:=key 0 (by omega) (by simp);have k1:=key 1 (by omega) (by simp);have k2:=key 2 (by omega) (by simp);have k3:=key 3 (by omega) (by simp at k2;simp[k2]);have b:=key 4 (by omega) (by simp);have c:=key 5 (by omega) (by simp at k0;simp[k0]);have d:=key 6 (by omega) (by simp at c k1;simp[c,k1]);have f:=key 7 (by omega) (by simp at d k3 k0 k1 k2 b;simp[d,k3,k0,k1,k2,b]);have m:=key 8 (by omega) (by simp at f b k0 k1 k2 k3;simp[f,b,k0,k1,k2,k3]);intro i hi;obtain rfl|rfl|rfl|rfl|rfl|rfl|rfl|rfl|rfl:i=0\/i=1\/i=2\/i=3\/i=4\/i=5\/i=6\/i=7\/i=8:=by omega
 all_goals assumption
def Y1(listed:Array Bool):Prop:=(listed.getD 3 false=true->listed.getD 2 false=true)/\(listed.getD 5 false=true->listed.getD 0 false=true)/\(listed.getD 6 false=true->listed.getD 5 false=true/\listed.getD 1 false=true)/\
 (listed.getD 7 false=true->listed.getD 6 false=true/\listed.getD 3 false=true)/\(listed.getD 8 false=true->listed.getD 7 false=true/\listed.getD 4 false=true)
def MA(n j:Nat):(aJ n false).getD j false=false:=by
 rw[aL,aP];split<;>rfl
def Py(n:Nat):Y1 (aJ n false):=by
 unfold Y1;simp only[MA];simp
def Up{listed:Array Bool}(h:Y1 listed)(f:listed.getD 8 false=true):∀i,i<9->listed.getD i false=true:=by
 obtain⟨a,b,c,d,e⟩:=h;obtain⟨g,m⟩:=e f;obtain⟨j,k⟩:=d g;obtain⟨l,o⟩:=c j;have q:=b l;have r:=a k;intro i hi;obtain rfl|rfl|rfl|rfl|rfl|rfl|rfl|rfl|rfl:i=0\/i=1\/i=2\/i=3\/i=4\/i=5\/i=6\/i=7\/i=8:=by omega
 all_goals assumption
def BV{listed:Array Bool}{i:Nat}(hs:i<listed.size)(h:listed.getD i false=true):listed.getD i true=true:=by
 simpa[hs]using h
def Uq{listed:Array Bool}{i:Nat}(h:Y1 listed)(hs:i<listed.size)(k:(i=3->listed.getD 2 false=true)/\(i=5->listed.getD 0 false=true)/\(i=6->listed.getD 5 false=true/\listed.getD 1 false=true)/\(i=7->listed.getD 6 false=true/\listed.getD 3 false=true)/\
 (i=8->listed.getD 7 false=true/\listed.getD 4 false=true)):Y1 (listed.setIfInBounds i true):=by
 obtain⟨a,b,c,d,e⟩:=h;obtain⟨g,b',l,m,o⟩:=k;have or:∀j,(listed.setIfInBounds i true).getD j false=true->i=j\/listed.getD j false=true:=λj f=>by
  by_cases e:i=j
  ·exact .inl e
  ·rw[aF false e]at f;exact .inr f
 have up:∀{j},listed.getD j false=true->(listed.setIfInBounds i true).getD j false=true:=λh=>Go.getD_set_true h;refine⟨λh=>?_,λh=>?_,λh=>?_,λh=>?_,λh=>?_⟩
 ·exact up ((or _ h).elim g a)
 ·exact up ((or _ h).elim b' b)
 ·exact((or _ h).elim l c).imp up up
 ·exact((or _ h).elim m d).imp up up
 ·exact((or _ h).elim o e).imp up up
noncomputable def Ur(F:Nat->Value)(a:List Item)(lb:Nat):Frame:=⟨137,zj 20 F,a,[],.run,.normal,some lb⟩
noncomputable def DY(fv base:Nat->Value)(lb:Nat)(cs:List Frame)(listed:Array Bool)(rest:List Nat):ac:=G (Ur (Jw fv base listed) (.inRegion dX rest::kr) lb) cs
def vm{fv base:Nat->Value}{lb:Nat}{cs:List Frame}{listed:Array Bool}{rest:List Nat}{i:Nat}{o:Oper}(a:dX[i]?=some o)(hd:o.dst=some (11+i))(h:i<8)(hs:i<listed.size) :
 fin (DY fv base lb cs listed (i::rest)) (fv i)=DY fv base lb cs (listed.setIfInBounds i true) rest:=by
 unfold DY Ur;rw[xK,a];simp only[bR,hd,Jv,Uo h hs]
def adN{fv base:Nat->Value}{lb:Nat}{cs:List Frame}{listed:Array Bool}{rest:List Nat}{o:Oper}(a:dX[8]?=some o)(hd:o.dst=none)(v:Value) :
 fin (DY fv base lb cs listed (8::rest)) v=DY fv base lb cs (listed.setIfInBounds 8 true) rest:=by
 unfold DY Ur;rw[xK,a];simp only[bR,hd,Px]
def Us{fv base:Nat->Value}{lb:Nat}{cs:List Frame}{listed:Array Bool}{rest:List Nat}{i:Nat}{o:Oper}(a:dX[i]?=some o)(hg:o.guard=none)(hd:pS o.op=true):bF (DY fv base lb cs listed (i::rest))=some o:=
 DU rfl a hg hd
def NP{F:Nat->Value}{a:List Item}{lb j:Nat}(h:j<20):(Ur F a lb).eval (.tmp j)=F j:=Ju h
def Ut(R:R4 X V M Q Q' bg bt b5 n p vs){base:Nat->Value}(D:base 2=.pointer (some ⟨bg,0,none⟩))(Y:base 4=.pointer (some ⟨bt,0,none⟩))(O:base 5=.pointer (some ⟨b5,0,none⟩)){lb:Nat}{cs:List Frame}{d:Nat}{w:World}(Z:Q w)
 (Um:∀F w',(∀j,j<11->F j=base j)->Q' w'->ay X V false Stop M d (G (Ur F (.inRegion dX []::kr) lb) cs) w') :
 ay X V false Stop M d (G (Ur base (.code (.region 4 dX true)::kr) lb) cs) w:=by
 have WX:(V.g==0)=false:=R.hg;refine .draw R.hc (by rw[R.hP];exact mixed) λt=>?_;have e0:G ⟨137,zj 20 base,.inRegion dX (br .any dX t)::kr,[],.run,.normal,some lb⟩ cs=DY (zJ X.Tb b5 n p vs) base lb cs (aJ dX.size false) (bs .any dX dX.size t (aJ dX.size false) []):=by
  unfold DY Ur;have:Jw (zJ X.Tb b5 n p vs) base (aJ dX.size false)=base:=by
   funext j;unfold Jw;rw[if_neg];intro h;have:=h.2.2;rw[aL,aP]at this
   split at this<;>simp at this
  rw[this];rfl
 rw[e0];refine ay.lin (I:=λlisted w'=>listed.size=9/\Y1 listed/\(if listed.getD 8 false=true then Q' w' else Q w')) (λlisted w' hr B=>?_) (λlisted i b w' hi B k=>?_) dX.size t _ w ⟨by rw[Array.size_replicate];exact Pw,Py _,?_⟩ ?_
 ·have ha:=aj8 hr B.1;have m:=B.2.2;rw[if_pos (ha 8 (by omega))]at m;exact Um _ _ (λj x=>oS x) m
 ·obtain⟨E,S,hs,a3,T,H,J,K⟩:=Y0 hi;obtain⟨U,y,m⟩:=B;have C:listed.getD 8 false=false:=by
   cases C:listed.getD 8 false with
   |false=>rfl
   |true=>
    have:=Up y C i E;rw[BV hs this]at S;cases S
  rw[if_neg (by rw[C];simp)]at m;have W:=Uq y hs ⟨a3,T,H,J,K⟩;have next:∀w',i≠8->Q w'->(listed.setIfInBounds i true).size=9/\Y1 (listed.setIfInBounds i true)/\(if(listed.setIfInBounds i true).getD 8 false=true then Q' w' else Q w'):=λw' bu m=>by
   refine⟨by simpa using U,W,?_⟩;rw[aF false bu,C];exact m
  have hl:=R.live _ m;have L:∀{w:World}{a:Addr}{v:Value},w.cell? a=some v->a.block<w.heap.size:=λ{w a v}h=>by
   unfold World.cell? at h
   split at h
   ·rename_i hh;exact(Array.getElem?_eq_some_iff.1 hh).1
   ·cases h
  have z:∀u,Q u->∀j,j<5->u.cell? ((⟨b5,0,none⟩:Addr).add j)=some (vs.getD j undef):=λu h j x=>by
   obtain⟨fz,h⟩:=R.b5.2 _ h;have zK:j<vs.size:=by rw[R.hv.1];exact x
   rw[dY,ba,cell_of_row _ _ _ _ _ _ h];simp[zK]
  have Ua:((aT 5).map λj=>vs.getD j undef).toArray=vs:=by
   apply aH
   ·simp[R.hv.1]
   ·intro j h1 D;simp[D]
  obtain rfl|rfl|rfl|rfl|rfl|rfl|rfl|rfl|rfl:i=0\/i=1\/i=2\/i=3\/i=4\/i=5\/i=6\/i=7\/i=8:=by omega
  ·obtain⟨o,l,e1,q,s⟩:=jL adz;refine .qM (v:=zJ X.Tb b5 n p vs 0) R.hc hl (Us l s (by rw[e1];rfl)) e1 ((NP (by omega)).trans ((oS (by omega)).trans Y)) (λu r=>?_) (.inl ⟨R.bt.1,R.st _ R.bt.1⟩) ?_
   ·have:=R.bt.2 _ (R.hQ _ _ m r);exact⟨l8 (by rw[R.hP];exact WW) rfl this,L this⟩
   ·rw[vm l q (by omega) hs];exact k _ (next _ (by omega) m)
  ·obtain⟨o,l,e1,q,s⟩:=jL adA;refine .qM (v:=zJ X.Tb b5 n p vs 1) R.hc hl (Us l s (by rw[e1];rfl)) e1 ((NP (by omega)).trans ((oS (by omega)).trans D)) (λu r=>?_) (.inl ⟨R.bg.1,R.st _ R.bg.1⟩) ?_
   ·have:=R.bg.2 _ (R.hQ _ _ m r);exact⟨l8 (by rw[R.hP];exact ty3) rfl this,L this⟩
   ·rw[vm l q (by omega) hs];exact k _ (next _ (by omega) m)
  ·obtain⟨o,l,e1,q,s⟩:=jL adB;refine .DW (g':=fin (DY (zJ X.Tb b5 n p vs) base lb cs listed (2::b)) (zJ X.Tb b5 n p vs 2)) R.hc rfl (λw=>?_) rfl ?_
   ·rw[WX,R.hP];have hx:(Ur (Jw (zJ X.Tb b5 n p vs) base listed) (.inRegion dX (2::b)::kr) lb).eval (.tmp 5)=.pointer (some ⟨b5,0,none⟩):=(NP (by omega)).trans ((oS (by omega)).trans O);exact DX (Us l s (by rw[e1];rfl)) e1 hx
   ·rw[vm l q (by omega) hs];exact k _ (next _ (by omega) m)
  ·obtain⟨o,l,e1,q,s⟩:=jL adC;refine .qM (v:=zJ X.Tb b5 n p vs 3) R.hc hl (Us l s (by rw[e1];rfl)) e1 ((NP (by omega)).trans (kN (i:=2) (by omega) (a3 rfl))) (λu r=>?_) (.inr R.b5.1) ?_
   ·have h:=z _ (R.hQ _ _ m r) 0 (by omega);have e:vs.getD 0 undef=.int .i64 (p:Int):=by rw[aL,R.hv.2.1];rfl
    rw[e,dY]at h;exact⟨l8 (by rw[R.hP];exact ty3) rfl h,L h⟩
   ·rw[vm l q (by omega) hs];exact k _ (next _ (by omega) m)
  ·obtain⟨o,l,e1,q,s⟩:=jL adD;refine .qM (v:=zJ X.Tb b5 n p vs 4) R.hc hl (Us l s (by rw[e1];rfl)) e1 ((NP (by omega)).trans ((oS (by omega)).trans O)) (λu r=>?_) (.inr R.b5.1) ?_
   ·have A:=R.hQ _ _ m r;have:=sH (P:=X.P) (w:=u) (t:=61) (a:=⟨b5,0,none⟩) (n:=5) (f:=λj=>vs.getD j undef) (by rw[R.hP];exact aj6) rfl (by rw[R.hP];exact Un) (z _ A);rw[Ua]at this;obtain⟨fz,hb⟩:=R.b5.2 _ A;exact⟨this,(Array.getElem?_eq_some_iff.1 hb).1⟩
   ·rw[vm l q (by omega) hs];exact k _ (next _ (by omega) m)
  ·obtain⟨o,l,e1,q,s⟩:=jL adE;refine .DW (g':=fin (DY (zJ X.Tb b5 n p vs) base lb cs listed (5::b)) (zJ X.Tb b5 n p vs 5)) R.hc rfl (λw=>?_) rfl ?_
   ·exact zI (Us l s (by rw[e1];rfl)) e1 ((NP (by omega)).trans (kN (i:=0) (by omega) (T rfl)))
   ·rw[vm l q (by omega) hs];exact k _ (next _ (by omega) m)
  ·obtain⟨o,l,e1,q,s⟩:=jL adF;refine .DW (g':=fin (DY (zJ X.Tb b5 n p vs) base lb cs listed (6::b)) (zJ X.Tb b5 n p vs 6)) R.hc rfl (λw=>?_) rfl ?_
   ·have x1:(DY (zJ X.Tb b5 n p vs) base lb cs listed (6::b)).frame.eval (.tmp 16)=.pointer (some ⟨X.Tb,0,none⟩):=(NP (by omega)).trans (kN (i:=5) (by omega) (H rfl).1);have x2:(DY (zJ X.Tb b5 n p vs) base lb cs listed (6::b)).frame.eval (.tmp 12)=.int .i64 (n:Int):=(NP (by omega)).trans (kN (i:=1) (by omega) (H rfl).2);have:=qK (P:=X.P) (mn:=V.g==0) (w:=w) (Us l s (by rw[e1];rfl)) e1 x1 x2 (by rw[R.hP];exact adJ) (by rw[R.hP];exact adK) (by omega) (by have:=R.hn;omega);rw[dY]at this;simpa[zJ]using this
   ·rw[vm l q (by omega) hs];exact k _ (next _ (by omega) m)
  ·obtain⟨o,l,e1,q,s⟩:=jL adG;refine .DW (g':=fin (DY (zJ X.Tb b5 n p vs) base lb cs listed (7::b)) (zJ X.Tb b5 n p vs 7)) R.hc rfl (λw=>?_) rfl ?_
   ·have x1:(DY (zJ X.Tb b5 n p vs) base lb cs listed (7::b)).frame.eval (.tmp 17)=.pointer (some ⟨X.Tb,n*25,none⟩):=(NP (by omega)).trans (kN (i:=6) (by omega) (J rfl).1);have x2:(DY (zJ X.Tb b5 n p vs) base lb cs listed (7::b)).frame.eval (.tmp 14)=.int .i64 (p:Int):=(NP (by omega)).trans (kN (i:=3) (by omega) (J rfl).2);have:=qK (P:=X.P) (mn:=V.g==0) (w:=w) (Us l s (by rw[e1];rfl)) e1 x1 x2 (by rw[R.hP];exact adM) (by rw[R.hP];exact Un) (by omega) (by have:=R.hp;omega);rw[dY]at this;simpa[zJ]using this
   ·rw[vm l q (by omega) hs];exact k _ (next _ (by omega) m)
  ·obtain⟨o,l,e1,q,s⟩:=jL adH;refine .Po (v:=.agg vs) R.hc (Us l s (by rw[e1];rfl)) e1 ((NP (by omega)).trans (kN (i:=7) (by omega) (K rfl).1)) ((NP (by omega)).trans (kN (i:=4) (by omega) (K rfl).2)) hl (by rw[R.hP,Un];simp[bT,R.hv.1]) (by rw[R.fW];simp only[bT,R.hv.1];have:=R.hn;have:=R.hp;omega)
    (λc hc=>R.hv.2.2 c hc) (λj x=>R.row j (by simpa[bT,R.hv.1]using x)) λu w2 r l1 l2 l3 l4 l5=>?_
   have N:=R.hQ' u w2 (R.hQ _ _ m r) l1 l2 l3 (λj x=>by simpa[bT]using l4 j (by simpa[bT,R.hv.1]using x)) (λj x=>l5 j (by simpa[bT,R.hv.1]using x));rw[adN l q];refine k _ ⟨by simpa using U,W,?_⟩;rw[if_pos (by simp[hs])];exact N
 ·rw[if_neg]
  ·exact Z
  ·rw[aL,aP];split<;>simp
 ·unfold left;exact bb (List.length_filter_le _ _) (by simp)
end
end Go.Proofs
namespace Go.Proofs
open Go.Ph Go.Conc
set_option maxRecDepth 100000
section
variable (W bc bg bm bt:Nat)(c:Value)(n:Int)(cl:Value)(v:Value)(lb b5:Nat)(cs:List Frame)
noncomputable def q5(f:Nat->Value):ac:=T5 (G ⟨137,qJ W bc bg bm bt c n cl v (pt b5) f,.inRegion dX []::kr,[],.run,.normal,some lb⟩ cs)
def q_5(f:Nat->Value):vN (G ⟨137,qJ W bc bg bm bt c n cl v (pt b5) f,.inRegion dX []::kr,[],.run,.normal,some lb⟩ cs) (q5 W bc bg bm bt c n cl v lb b5 cs f):=jK (by delta q5;rfl)
noncomputable def c1(f:Nat->Value):Frame:=(q5 W bc bg bm bt c n cl v lb b5 cs f).callers.headD default
def aj9(f:Nat->Value):q5 W bc bg bm bt c n cl v lb b5 cs f=G (Frame.enter PP 140 #[pt bm] .normal) (c1 W bc bg bm bt c n cl v lb b5 cs f::cs):=by kernel_rfl
noncomputable def q6(f:Nat->Value):ac:=T5 (G ((c1 W bc bg bm bt c n cl v lb b5 cs f).finish (.tuple #[])) cs)
def q_6(f:Nat->Value):vN (G ((c1 W bc bg bm bt c n cl v lb b5 cs f).finish (.tuple #[])) cs) (q6 W bc bg bm bt c n cl v lb b5 cs f):=jK (by delta q6;rfl)
def aja(f:Nat->Value):q6 W bc bg bm bt c n cl v lb b5 cs f=G ⟨137,qJ W bc bg bm bt c n cl v (pt b5) (px 19 (.tuple #[]) f),[],[],.run,.normal,some lb⟩ cs:=by kernel_rfl
noncomputable def Pz(b:Nat):List ab:={ target:=.collected b,args:=#[] }::rG W
noncomputable def e1(b:Nat):ac:=T5 (G ⟨137,qJ W bc bg bm bt c n cl undef undef (λ_=>undef),kk,Pz W b,.run,.deferred,none⟩ [ez PP])
def e_1(b:Nat):vN (G ⟨137,qJ W bc bg bm bt c n cl undef undef (λ_=>undef),kk,Pz W b,.run,.deferred,none⟩ [ez PP]) (e1 W bc bg bm bt c n cl b):=jK (by delta e1;rfl)
def ajb(b:Nat):e1 W bc bg bm bt c n cl b=G ⟨137,qJ W bc bg bm bt c n cl undef undef (λ_=>undef),[],Pz W b,.returning,.deferred,none⟩ [ez PP]:=by kernel_rfl
def e_2:uo PP false 1 (G ⟨137,qJ W bc bg bm bt c n cl undef undef (λ_=>undef),[],rG W,.returning,.deferred,none⟩ [ez PP])/\∀d,YL PP false 1 d (G ⟨137,qJ W bc bg bm bt c n cl undef undef (λ_=>undef),[],rG W,.returning,.deferred,none⟩ [ez PP])=d:=⟨⟨λw=>by kernel_rfl,by kernel_rfl⟩,λd=>by kernel_rfl⟩
def ajc:adv PP false 1 (G ⟨137,qJ W bc bg bm bt c n cl undef undef (λ_=>undef),[],rG W,.returning,.deferred,none⟩ [ez PP])=dE W (qJ W bc bg bm bt c n cl undef undef (λ_=>undef)) []:=by kernel_rfl
end
end Go.Proofs
namespace Go.Proofs
open Go.bJ Go.Ph
def F3:aa->Bool:=λf=>f==110||f==144||f==145
def Y2:(aT Tryz.progTables.types.size).all (BI b2 F3)=true:=by kernel_rfl
def PD:dM b2 F3 ZZ:=Jf (Nat.le_refl _) Y2 (by kernel_rfl)
def adQ:Jg b2 b3 F3 NN ZZ 219=true:=by kernel_rfl
def PE:Tryz.funcs.size<=cn:=of_decide_eq_true (by kernel_rfl)
def Y3:((b3[110]?).any (·.norace)=false/\(b3[144]?).any (·.norace)=false)/\(b3[145]?).any (·.norace)=false:=⟨⟨by kernel_rfl,by kernel_rfl⟩,by kernel_rfl⟩
def PF:PP.funcs.all (λf=>((f.body.map readies).getD []).isEmpty)=true:=by kernel_rfl
def Uu(g:Nat):PP.stepOf g=none:=by
 unfold Program.stepOf;rw[Array.findIdx?_eq_none_iff];intro f hf;have:=Array.all_eq_true_iff_forall_mem.1 PF f hf
 cases h:f.body with
 |none=>rfl
 |some c=>
  rw[h]at this;simp only[bM,Option.getD_some,List.isEmpty_iff]at this;simp[this]
def Uv:PP.follows .staticDataAhead=true:=by kernel_rfl
def Y4(fr:Frame)(cs:List Frame)(d:Option Dying)(g:Nat)(w:World):∃o w1 es,early PP fr cs d g w=.ended o w1 es:=by
 unfold early;simp only[Uv,Uu,bj,bl,if_false];exact⟨_,_,_,rfl⟩
def adR:zG b2 b3 b3 F3 ZZ:=by
 have h:Fits b2 b3 b3 F3 NN ZZ:=BJ PD (n:=219) (λf hf=>by
  simp only[F3,bo,beq_iff_eq]at hf
  rcases hf with(rfl|rfl)|rfl<;>decide) (λf _=>rfl) (λf a=>by cases a) adQ PE
 refine⟨h.zero,h.fns,λf hf=>h.same f hf rfl,by decide,λf hf=>?_,Y4⟩;simp only[F3,bo,beq_iff_eq]at hf
 rcases hf with(rfl|rfl)|rfl
 ·exact Y3.1.1
 ·exact Y3.1.2
 ·exact Y3.2
end Go.Proofs
namespace Go.Ph
open Go.Conc Go.ConcN Go.bJ
section
variable {T:Tables}{fB fA:Array Func}{F:aa->Bool}{Z:ae->Bool}{X:Fix}{V:Vw}{Bs:Nat}{bot:Frame}{up:List Frame}{ρ ρ':Ren}{M M':Own}{g g':ac}{wL w w':World}{v v':Value}
def iG.same(h:iG T fB fA F Z bot up X V Bs ρ M g wL g' w)(hs:w.heap.size<=w'.heap.size)(hb:∀a b,ρ a b->w'.heap[b]?=w.heap[b]?):iG T fB fA F Z bot up X V Bs ρ M g wL g' w':=
 ⟨h.inj,⟨h.wr.pK,bb h.wr.gN hs,h.wr.base,λ{a b}c d=>by
   obtain⟨o,e,f,i,j⟩:=h.wr.obj c d;exact⟨o,e,f,by rw[hb a b c];exact i,j⟩,λ{a b}c d=>by
   obtain⟨o,e,f,i,j⟩:=h.wr.low c d
   exact⟨o,e,f,by rw[hb a b c];exact i,j⟩⟩,h.g,h.own,h.clear,λb hb=>⟨Nat.lt_of_lt_of_le (h.sG b hb).1 hs,(h.sG b hb).2⟩⟩
def iG.more(h:iG T fB fA F Z bot up X V Bs ρ M g wL g' w)(e:∀b,M b->M' b)(hc:Clear X V M')(hd:∀b,V.st b->¬M' b):iG T fB fA F Z bot up X V Bs ρ M' g wL g' w:=
 ⟨h.inj,h.wr,h.g,⟨λa b c d=>(h.own.st a b c d).imp id (e b),λa b c d=>e b (h.own.own a b c d)⟩,hc,λb hb=>⟨(h.sG b hb).1,hd b hb⟩⟩
def iG.apart(h:iG T fB fA F Z bot up X V Bs ρ M g wL g' w){a b:Nat}(d:ρ a b):jm X b:=by
 rcases a9 a Bs with c|c
 ·exact(h.own.st a b d c).elim (h.clear.st b) (h.clear.own b)
 ·exact h.clear.own b (h.own.own a b d c)
def _root_.Go.bJ.GC.fin(h:GC T fB fA F Z bot up ρ g g')(hv:VR F ρ v v'):GC T fB fA F Z bot up ρ (fin g v) (fin g' v'):=by
 obtain⟨a,⟨l,b,c,d,e,f⟩,i,j,k,m,n,o⟩:=h;exact⟨a.finish hv,⟨l,b,c,d,e,f.top (bZ _ _)⟩,i,j,k,m,n,o⟩
def iG.fin(h:iG T fB fA F Z bot up X V Bs ρ M g wL g' w)(hv:VR F ρ v v'):iG T fB fA F Z bot up X V Bs ρ M (fin g v) wL (fin g' v') w:=
 ⟨h.inj,h.wr,h.g.fin hv,h.own,h.clear,h.sG⟩
def _root_.Go.bJ.GC.op(h:GC T fB fA F Z bot up ρ g g'){o:Oper}(p:bF g=some o):bF g'=some o/\∀j,VR F ρ (g.frame.eval (.tmp j)) (g'.frame.eval (.tmp j)):=by
 obtain⟨a,⟨l,s,t,u,x,y⟩,z,c,A,d,B,e⟩:=h;obtain⟨fn,tmps,ops,i,f,k,defers,kind,C,cs,rfl,k1,k2,k3,q⟩:=gF p;obtain⟨⟨D,r,E,H,I,J,K⟩,cs',st',Bl,Bm⟩:=g';have b:=a.todo;have m:=a.mode;have n:=a.bX;simp only at b m n c d e;subst c d e n;cases m
 cases b with
 |cons hi b=>
  cases hi with
  |inRegion _ _ L=>
   have hy:yielded ops r=yielded ops tmps:=funext λj=>(oo ops a.tmps j).symm;refine⟨?_,λj=>VA.getD a.tmps j .undef⟩;simp only[bF,Option.isNone_none];rw[if_pos ⟨trivial,trivial,trivial,rfl⟩,k2];simp only[hy,k3,q];rfl
def iG.back(h:iG T fB fA F Z bot up X V Bs ρ M g wL g' w)(n:g.frame.mode=.returning)(hd:g.frame.defers=[])(hc:g.callers=[bot]) :
 ∃fr',g'=G fr' up/\fr'.fn=g.frame.fn/\fr'.mode=.returning/\fr'.kind=.normal/\fr'.defers=[]/\VA F ρ g.frame.tmps fr'.tmps:=by
 obtain⟨c,⟨l,q,e,f,o,r⟩,s,i,t,j,u,k⟩:=h.g;obtain⟨fr',cs',p,x,y⟩:=g';simp only at i j k f;subst i j k f;have hl:l=[]:=by
  rw[hc]at e
  cases l with
  |nil=>rfl
  |cons a l=>have:=congrArg List.length e;simp at this
 subst hl;cases o;have d:=c.mode;have b:=c.defers;simp only at d b;rw[n]at d;rw[hd]at b;refine⟨fr',by simp[G],c.fn,?_,c.bX,?_,c.tmps⟩
 ·generalize fr'.mode=m at d;cases d;rfl
 ·generalize fr'.defers=m at b;cases b;rfl
def oT{k:IntKind}{n:Int}(h:VR F ρ (.int k n) v):v=.int k n:=by cases h;rfl
def PG{c:Nat}(d:ρ.bw c){a b o:Nat}(h:VR F ρ (.pointer (some ⟨a,o,none⟩)) v)(e:ρ a b):v=.pointer (some ⟨b,o,none⟩):=by
 cases h with
 |@ptr _ f x=>
  obtain⟨b',i,j⟩:=f;obtain⟨x1,x2,x3⟩:=x;simp only at x1 x2 x3;subst x2 x3;rw[d.fn x1 e]
def Jy{a o:Nat}(h:VR F ρ (.pointer (some ⟨a,o,none⟩)) v):∃b,ρ a b/\v=.pointer (some ⟨b,o,none⟩):=by
 cases h with
 |@ptr _ c x=>
  obtain⟨b',d,e⟩:=c;obtain⟨x1,x2,x3⟩:=x;simp only at x1 x2 x3;subst x2 x3;exact⟨b',x1,rfl⟩
def xL{d:Nat}(e:ρ.bw d){a b o l c:Nat}(h:VR F ρ (.slice (some ⟨a,o,none⟩) l c) v)(f:ρ a b)(hl:0<l):v=.slice (some ⟨b,o,none⟩) l c:=by
 cases h with
 |dK=>exact absurd hl (bd _)
 |@slice _ i _ _ x=>
  obtain⟨b',j,k⟩:=i;obtain⟨x1,x2,x3⟩:=x;simp only at x1 x2 x3;subst x2 x3;rw[e.fn x1 f]
def PI{o:Nat}(p:ρ.bw o)(hF:∀f,F f=true->f<cn){b:Nat}(h:VR F ρ (.func (.func (cn+0)) #[] #[]) v)(q:ρ 0 b):v=.func (.yield b) #[] #[]:=by
 generalize d:(Fn.func (cn+0))=fx at h
 cases h with
 |@func fn s a i t c h j k=>
  have e1:i=#[]:=by cases m:i.toList with|nil=>exact Array.toList_eq_nil_iff.1 m|cons x y=>rw[m]at j;cases j
  have r:c=#[]:=by cases n:c.toList with|nil=>exact Array.toList_eq_nil_iff.1 n|cons x y=>rw[n]at k;cases k
  subst e1 r
  cases h with
  |func f hf=>
   cases d;exact absurd (hF _ hf) (bd _)
  |yield hl=>cases d
  |@spec l u hl=>
   have:l=0:=by
    have e:cn+0=cn+l:=Fn.func.inj d;exact(Nat.add_left_cancel e).symm
   subst this;rw[p.fn hl q]
def Y5{a:Array Value}(h:VR F ρ (.agg a) v):∃a',v=.agg a'/\VA F ρ a a':=by
 cases h with
 |agg h=>exact⟨_,rfl,h⟩
def Uw{l:List Int}{k:IntKind}{l':List Value}(h:cU F ρ (l.map (b1 k)) l'):l'=l.map (b1 k):=by
 induction l generalizing l' with
 |nil=>cases h;rfl
 |cons n l c=>
  cases h with
  |cons a b=>rw[oT a,c b];rfl
def Ux{l:Nat}(m:ρ.bw l){f:aa}(hF:∀f,F f=true->f<cn)(hf:f<cn){a b:Nat}(h:VR F ρ (.func (.func f) #[] #[.pointer (some ⟨a,0,none⟩),.pointer (some ⟨b,0,none⟩)]) v) :
 ∃a' b',ρ a a'/\ρ b b'/\v=.func (.func f) #[] #[.pointer (some ⟨a',0,none⟩),.pointer (some ⟨b',0,none⟩)]:=by
 generalize c:(Fn.func f)=fx at h
 cases h with
 |@func fn u x d y y' h i j=>
  have e1:d=#[]:=by cases k:d.toList with|nil=>exact Array.toList_eq_nil_iff.1 k|cons x y=>rw[k]at i;cases i
  subst e1;generalize hy:y'.toList=z at j
  cases j with
  |cons n o=>
   cases o with
   |cons p q=>
    cases q;obtain⟨a',r,rfl⟩:=Jy n;obtain⟨b',s,rfl⟩:=Jy p;have t:y'=#[.pointer (some ⟨a',0,none⟩),.pointer (some ⟨b',0,none⟩)]:=by
     apply Array.toList_inj.1;rw[hy]
    subst t;refine⟨a',b',r,s,?_⟩
    cases h with
    |func f hf=>cases c;rfl
    |yield hl=>cases c
    |spec hl=>
     have e:f=cn+_:=Fn.func.inj c;exact absurd hf (by rw[e];exact Nat.not_lt.2 (Nat.le_add_right _ _))
end
end Go.Ph
namespace Go.Proofs
open Go.Ph Go.Conc Go.bJ
set_option maxRecDepth 100000
noncomputable def yieldOf(g:ac):Option (Array Value):=match bF g with
 |some o=>match o.op with
  |.call c=>match c.callee with
   |.value x=>match g.frame.eval x with
    |.func (.func f) _ _=>@bp (λ_=>Option (Array Value)) none (some (c.args.map g.frame.eval)) (bi f cn)
    |_=>none
   |_=>none
  |_=>none
 |none=>none
noncomputable def PK(g:ac):Option (Nat×Value×Value):=match bF g with
 |some o=>match o.op with
  |.indexAddr t x i=>@bp (λ_=>Option (Nat×Value×Value)) none (some (0,g.frame.eval x,g.frame.eval i)) (bi t 25)
  |.load t x=>@bp (λ_=>Option (Nat×Value×Value)) (@bp (λ_=>Option (Nat×Value×Value)) none (some (2,g.frame.eval x,undef)) (bi t 73)) (some (1,g.frame.eval x,undef)) (bi t 67)
  |_=>none
 |none=>none
noncomputable def oU(g:ac):Bool:=!BS g||(yieldOf g).isSome||(PK g).isSome
structure jB where
 l:Int
 p:Int
 so:Option Addr
 sl:Nat
 sc:Nat
 qo:Option Addr
 ql:Nat
 qc:Nat
 pb:Nat
 po:Nat
 cp:Nat
 gb:Nat
 go:Nat
 ng:Nat
 cg:Nat
 pe:Nat->ByteArray
 pn:Nat->Nat->Int
 pl:Nat->Option Addr
 pc:Nat->Nat
 pd:Nat->Nat
section
variable (np s:Nat)(D:jB)(O:Nat->Obj)(n dl:Int)(gn:ByteArray)(x:Nat)
def cA:Array Value:=#[.int .i64 D.l,.int .i64 D.p,.slice D.so D.sl D.sc,.slice D.qo D.ql D.qc,.slice (some ⟨D.pb,D.po,none⟩) np D.cp,.slice (some ⟨D.gb,D.go,none⟩) D.ng D.cg]
def pA(i:Nat):Array Value:=#[.string (D.pe i),.int .i64 (D.pn i 1),.int .i64 (D.pn i 2),.int .i64 (D.pn i 3),.int .i64 (D.pn i 4),.int .i64 (D.pn i 5),.int .i64 (D.pn i 6),.int .i64 (D.pn i 7),.int .i64 (D.pn i 8),.int .i64 (D.pn i 9),.int .i64 (D.pn i 10),.slice (D.pl i) (D.pc i) (D.pd i)]
def gA:Array Value:=#[.string gn,.int .i64 (s:Int),.int .i64 dl]
def bY(r:Nat):Nat:=(s+r) % np
noncomputable def wL0:World:={ (default:World) with heap:=((aT (5+np)).map O).toArray }
noncomputable def gL0:ac:=G (Frame.enter PP 110 #[.agg (cA np D),.int .i64 n] .normal) [default]
noncomputable def A0:ac×World:=Jp PP oU 300 (gL0 np D n) (wL0 np O)
noncomputable def gL1:ac:=G (Frame.enter PP 144 #[.func (.func (cn+0)) #[] #[],.pointer (some ⟨5+np,0,none⟩),.pointer (some ⟨6+np,0,none⟩)] .normal) [default]
noncomputable def A1:ac×World:=Jp PP oU 300 (gL1 np) (A0 np D O n).2
noncomputable def A2:ac×World:=Jp PP oU 300 (fin (A1 np D O n).1 (.pointer (some ⟨D.gb,x,none⟩))) (A1 np D O n).2
noncomputable def A3:ac×World:=Jp PP oU 300 (fin (A2 np D O n x).1 (.agg (gA s dl gn))) (A2 np D O n x).2
noncomputable def Y6:List Item:=(A3 3 0 ⟨0,0,none,0,0,none,0,0,0,0,3,0,0,2,2,λ_=>b4,λ_ _=>0,λ_=>none,λ_=>0,λ_=>0⟩ (λ_=>.deferred none) 0 0 b4 0).1.frame.todo
def aje(np a r b c:Nat)(f:Nat->Value):Nat->Value
 |0=>.func (.func (cn+0)) #[] #[]|1=>.pointer (some ⟨5+np,0,none⟩)|2=>.pointer (some ⟨6+np,0,none⟩)|4=>.pointer (some ⟨7+np,0,none⟩)|5=>.pointer (some ⟨8+np,0,none⟩)
 |6=>.func (.func 145) #[] #[.pointer (some ⟨8+np,0,none⟩)]|7=>.int .i64 (a:Int)|27=>.int .i64 (np:Int)|28=>.int .i64 (r:Int)|34=>.pointer (some ⟨b,c+12*a,none⟩)|i=>f i
noncomputable def gR(r:Nat)(f:Nat->Value):ac:=G ⟨144,zj 61 (aje np (bY np s r) r D.pb D.po f),Y6,[],.run,.normal,none⟩ [default]
noncomputable def wR(r:Nat)(c:Int×Int)(Z:Nat->Obj):World:={ (default:World) with heap:=((aT (5+np)).map O++[b6 (cA np D) 121,b6 #[.int .i64 n] 3,b6 (gA s dl gn) 67,b6 #[.int .i64 c.1,.int .i64 c.2] 35]++(aT (6*r)).map Z).toArray }
noncomputable def Y7:jB:=⟨0,0,none,0,0,none,0,0,0,0,3,0,0,2,2,λ_=>b4,λ_ _=>0,λ_=>none,λ_=>0,λ_=>0⟩
noncomputable def Y8:List Item:=(Jp PP oU 600 (fin (A3 3 0 Y7 (λ_=>.deferred none) 0 0 b4 0).1 (.agg (pA Y7 0))) (A3 3 0 Y7 (λ_=>.deferred none) 0 0 b4 0).2).1.frame.todo
def l9(r:Nat)(c:Int×Int):Int×Int:=(IntKind.i64.wrap (c.1+D.pn (bY np s r) 7),IntKind.i64.wrap (c.2+D.pn (bY np s r) 8))
def cG(r:Nat)(c:Int×Int):Array Value:=#[.int .i64 ((bY np s r:Nat):Int),.int .i64 c.1,.int .i64 c.2,.int .i64 (l9 np s D r c).1,.int .i64 (l9 np s D r c).2]
def FY(np a r:Nat)(v:Value)(f:Nat->Value):Nat->Value
 |0=>.func (.func (cn+0)) #[] #[]|1=>.pointer (some ⟨5+np,0,none⟩)|2=>.pointer (some ⟨6+np,0,none⟩)|4=>.pointer (some ⟨7+np,0,none⟩)|5=>.pointer (some ⟨8+np,0,none⟩)
 |6=>.func (.func 145) #[] #[.pointer (some ⟨8+np,0,none⟩)]|7=>.int .i64 (a:Int)|8=>.pointer (some ⟨9+np+6*r,0,none⟩)|27=>.int .i64 (np:Int)|28=>.int .i64 (r:Int)
 |44=>.func (.func (cn+0)) #[] #[]|45=>v|i=>f i
noncomputable def gY(r:Nat)(c:Int×Int)(f:Nat->Value):ac:=G ⟨144,zj 61 (FY np (bY np s r) r (.agg (cG np s D r c)) f),Y8,[],.run,.normal,none⟩ [default]
noncomputable def wY(r:Nat)(c:Int×Int)(Z:Nat->Obj):World:={ (default:World) with heap:=((aT (5+np)).map O++[b6 (cA np D) 121,b6 #[.int .i64 n] 3,b6 (gA s dl gn) 67,b6 #[.int .i64 c.1,.int .i64 c.2] 35]++(aT (6*r)).map Z++[b6 (pA D (bY np s r)) 73,Z (6*r+1),Z (6*r+2),Z (6*r+3)]).toArray }
noncomputable def Yd(g:ac)(w:World)(r:Nat):ac×World:=Jp PP oU 600 (fin g (.agg (pA D (bY np s r)))) w
noncomputable def Nx(g:ac)(w:World):ac×World:=Jp PP oU 300 (fin g (.bool true)) w
def WZ(r:Nat)(c:Int×Int):Int×Int:=(IntKind.i64.wrap ((l9 np s D r c).1+D.pn (bY np s r) 9),IntKind.i64.wrap ((l9 np s D r c).2+D.pn (bY np s r) 10))
abbrev Good(m:Nat)(g:ac)(w:World):Prop:=∀a d,DO PP (5+np) oU a d m g w=DQ PP (5+np) oU a d m g w
structure Y9(f:aa)(g:ac):Prop where
 fn:g.frame.fn=f
 mode:g.frame.mode=.returning
 kind:g.frame.kind=.normal
 defers:g.frame.defers=[]
 callers:g.callers=[default]
end
structure j0(np s r:Nat):Prop where
 c3:∀D f,(bF (gR np s D r f)).map (·.op)=some (.load 73 (.tmp 34))/\(gR np s D r f).frame.eval (.tmp 34)=.pointer (some ⟨D.pb,D.po+12*bY np s r,none⟩)
 e4:∀D O n dl gn c f Z,Good np 600 (fin (gR np s D r f) (.agg (pA D (bY np s r)))) (wR np s D O n dl gn r c Z)
 y:∀D O n dl gn c f Z,∃f' Z',Yd np s D (gR np s D r f) (wR np s D O n dl gn r c Z) r=(gY np s D r c f',wY np s D O n dl gn r (l9 np s D r c) Z')
 c4:∀D c f,(bF (gY np s D r c f)).map (·.op)=some (.call { callee:=.value (.tmp 44),args:=#[.tmp 45],argTypes:=#[61] })/\(gY np s D r c f).frame.eval (.tmp 44)=.func (.func (cn+0)) #[] #[]/\(gY np s D r c f).frame.eval (.tmp 45)=.agg (cG np s D r c)
 e5:∀D O n dl gn c c' f Z,Good np 300 (fin (gY np s D r c f) (.bool true)) (wY np s D O n dl gn r c' Z)
structure mg(np s r:Nat):Prop where
 next:∀D O n dl gn c f Z,∃f' Z',Nx (gY np s D r c f) (wY np s D O n dl gn r (l9 np s D r c) Z)=(gR np s D (r+1) f',wR np s D O n dl gn (r+1) (WZ np s D r c) Z')
structure xM(np s r:Nat):Prop where
 back:∀D O n dl gn c c' f Z,Y9 144 (Nx (gY np s D r c f) (wY np s D O n dl gn r c' Z)).1
structure FE(np s:Nat):Prop where
 e0:∀D O n,Good np 300 (gL0 np D n) (wL0 np O)
 b0:∀D O n,Y9 110 (A0 np D O n).1/\(A0 np D O n).1.frame.tmps.getD 4 undef=.func (.func 144) #[] #[.pointer (some ⟨5+np,0,none⟩),.pointer (some ⟨6+np,0,none⟩)]
 h0:∀D O n,(A0 np D O n).2.heap[0]?=some (O 0)
 e1:∀D O n,Good np 300 (gL1 np) (A0 np D O n).2
 c1:∀D O n,(bF (A1 np D O n).1).map (·.op)=some (.indexAddr 25 (.tmp 12) (.tmp 13))/\(A1 np D O n).1.frame.eval (.tmp 12)=.slice (some ⟨D.gb,D.go,none⟩) D.ng D.cg/\(A1 np D O n).1.frame.eval (.tmp 13)=.int .i64 n
 e2:∀D O n x,Good np 300 (fin (A1 np D O n).1 (.pointer (some ⟨D.gb,x,none⟩))) (A1 np D O n).2
 c2:∀D O n x,(bF (A2 np D O n x).1).map (·.op)=some (.load 67 (.tmp 14))/\(A2 np D O n x).1.frame.eval (.tmp 14)=.pointer (some ⟨D.gb,x,none⟩)
 e3:∀D O n dl gn x,Good np 300 (fin (A2 np D O n x).1 (.agg (gA s dl gn))) (A2 np D O n x).2
 r0:∀D O n dl gn x,∃f' Z',A3 np s D O n dl gn x=(gR np s D 0 f',wR np s D O n dl gn 0 (dl,dl) Z')
 round:∀r,r<np->j0 np s r
 next:∀r,r+1<np->mg np s r
 last:∀r,r+1=np->xM np s r
end Go.Proofs
