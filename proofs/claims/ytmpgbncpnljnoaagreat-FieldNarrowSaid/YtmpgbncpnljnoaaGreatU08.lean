/- Part of the proof of FieldNarrow. -/
import Derived.Test.YtmpgbncpnljnoaaGreatU07
set_option linter.all false
open Go renaming Tables->aa,FuncId->ab,TypeId->ac,Goroutine->ad,Program->ae,execOp->ag,Operand->ai,eqGuard->ao,run_underlying->ap,TypeDesc->aq,loadCellsFrom->ar,loadVar->aw
open Go.Program renaming mk->aB
open Go.Sem renaming runT_fst->aF,run_bind->aH
open ByteArray renaming empty->aI
open Go.Op renaming stringOp->aJ,equalIn->aL,binOp->aP,field->aS
open Go.Builtin renaming len_->aT
open Go.Instr renaming field->a5
open List renaming range->a6
open Go.Result renaming andThen->a7,halt->a8,ok->a9
open Go.Value renaming int->ba,string->bb,slice->bc,bool->bd,agg->bg
open Go.IntKind renaming i64->bi
open Or renaming inl->bj,inr->bm
namespace Go.bJ
open Go.Conc Go.Ph
section
variable {T:aa}{fB:Array Func}{F:ab->Bool}{Z:ac->Bool}{f:ab}{R:Value->World->Prop}{g0 g:ad}{w0 w:World}
structure Way(T:aa)(fB:Array Func)(F:ab->Bool)(Z:ac->Bool)(f:ab)(R:Value->World->Prop)(g0:ad)(w0:World)(g:ad)(w:World):Prop where
 term:Term ⟨T,fB⟩ (lQ ⟨T,fB⟩ f R) g w
 inv:iE T fB F Z g w
 chain:∃n,cy ⟨T,fB⟩ n g0 w0 g w
def Way.next(fit:Fits T fB fB F (λ_:ab=>false) Z)(h:Way T fB F Z f R g0 w0 g w)(hc:2<=g.callers.length):∃b w1 es,stepG (aB T fB) true g w=.go b w1 es/\Way T fB F Z f R g0 w0 b w1:=by
 obtain⟨c,hi,n,d⟩:=h
 cases c with
 |done i=>
  have:=i.1
  grind
 |step j k hs l=>
  obtain⟨es,e⟩:=hs w.tape w.drawn;have a:stepG (aB T fB) true g w=.go (j w.tape w.drawn) (k w.tape w.drawn) es:=e;refine⟨_,_,es,a,l _ _,hi.step fit (λm=>?_) a,n+1,.succ d a⟩;have:=m.2.2
  grind
def Qb:Halt->Prop
 |.stuck _=>True
 |.unsupported (.initOrder _)=>False
 |.unsupported _=>True
 |_=>False
def Eg{P:ae}{mn:Bool}{o:Oper}{h:Halt}{w':World}(a:bF g=some o)(b:(ag g.frame.eval o).run P w=a8 h w')(hb:Qb h):∃e w1 es,stepG P mn g w=.ended e w1 es:=by
 rw[lV a];obtain⟨fn,tmps,ops,i,c,k,defers,kind,d,cs,rfl,j,l,m,n⟩:=gF a
 cases h with
 |stuck s=>exact⟨_,_,_,by simp only[stepG.apply,if_true,aF,b,GStep.after];rfl⟩
 |unsupported u=>
  cases u with
  |initOrder _=>exact hb.elim
  |_=>exact⟨_,_,_,by simp only[stepG.apply,if_true,aF,b,GStep.after];rfl⟩
 |_=>exact hb.elim
def Way.val(fit:Fits T fB fB F (λ_:ab=>false) Z){o:Oper}{s:Sem Value}(h:Way T fB F Z f R g0 w0 g w)(hc:2<=g.callers.length)(c:bF g=some o)(e:ag g.frame.eval o=(do pure (.value (<-s)):Sem Next))(hs:(∃v w',s.run (aB T fB) w=a9 v w')\/∃a w',s.run (aB T fB) w=a8 a w'/\Qb a) :
 ∃v w',s.run (aB T fB) w=a9 v w'/\Way T fB F Z f R g0 w0 (fin g v) w':=by
 obtain⟨i,w1,es,e1,j⟩:=h.next fit hc
 rcases hs with⟨v,w',hv⟩|⟨a,w',d,hb⟩
 ·have b:(ag g.frame.eval o).run (aB T fB) w=a9 (.value v) w':=by rw[e];simp[hv]
  have:=dF (P:=aB T fB) (mn:=true) (v:=v) (w':=w') c b
  grind
 ·have b:(ag g.frame.eval o).run (aB T fB) w=a8 a w':=by rw[e];simp[d]
  obtain⟨x,w2,l,k⟩:=Eg (P:=aB T fB) (mn:=true) (w:=w) c b hb;rw[k]at e1;cases e1
end
section
variable {T:aa}{fB:Array Func}{F:ab->Bool}{Z:ac->Bool}{f:ab}{R:Value->World->Prop}{g0 g:ad}{w0 w:World}{ty t:ac}{x y:ai}{o:Oper}
def sS{b:Type}:Result b->Prop
 |a8 a _=>Qb a
 |a9 _ _=>False
def sS.ex{b:Type}{r:Result b}(h:sS r):∃a w',r=a8 a w'/\Qb a:=by
 cases r with
 |halt a w=>exact⟨a,w,rfl,h⟩
 |ok a w=>exact h.elim
def Way.go(fit:Fits T fB fB F (λ_:ab=>false) Z)(h:Way T fB F Z f R g0 w0 g w)(hc:2<=g.callers.length){a:ad}{w1:World}{es:Array Event}(e:stepG (aB T fB) true g w=.go a w1 es):Way T fB F Z f R g0 w0 a w1:=by
 obtain⟨b,w2,c,d,i⟩:=h.next fit hc
 grind
def oZ{ev:ai->Value}{op:BinOp}{u:ac}(a:o.op=aP op ty x y u):ag ev o=(do pure (.value (<-(do ao op ty x y (ev x) (ev y);binOp op ty (ev x) (ev y)))):Sem Next):=by
 unfold ag;simp only[a]
def Way.int(fit:Fits T fB fB F (λ_:ab=>false) Z)(h:Way T fB F Z f R g0 w0 g w)(hc:2<=g.callers.length){u:ac}(c:bF g=some o)(j:o.op=aP .xor ty x y u)(hy:g.frame.eval y=ba bi 0) :
 ∃n v,g.frame.eval x=ba bi n/\Way T fB F Z f R g0 w0 (fin g v) w:=by
 have e:=oZ (ev:=g.frame.eval) j;rw[hy]at e;have key:(∃n v,g.frame.eval x=ba bi n/\((do ao .xor ty x y (g.frame.eval x) (ba bi 0);binOp .xor ty (g.frame.eval x) (ba bi 0)):Sem Value).run (aB T fB) w=a9 v w)\/
  sS (((do ao .xor ty x y (g.frame.eval x) (ba bi 0);binOp .xor ty (g.frame.eval x) (ba bi 0)):Sem Value).run (aB T fB) w):=by
  cases g.frame.eval x with
  |int k n=>
   by_cases d:k=bi
   ·subst d;exact bj ⟨n,_,rfl,by simp[ao,binOp,Op.intBits];rfl⟩
   ·exact bm (by simp[ao,binOp,d,sS,Qb])
  |_=>exact bm (by simp[ao,binOp,sS,Qb])
 rcases key with⟨n,v,q,l⟩|i
 ·obtain⟨v',w',b,m⟩:=h.val fit hc c e (bj ⟨_,_,l⟩)
  grind
 ·obtain⟨v',w',b,m⟩:=h.val fit hc c e (bm i.ex);obtain⟨a,r,p,_⟩:=i.ex;rw[p]at b;cases b
def Way.str(fit:Fits T fB fB F (λ_:ab=>false) Z)(h:Way T fB F Z f R g0 w0 g w)(hc:2<=g.callers.length){u:ac}(c:bF g=some o)(j:o.op=aP .add ty x y u)(hy:g.frame.eval y=bb aI) :
 ∃n v,g.frame.eval x=bb n/\Way T fB F Z f R g0 w0 (fin g v) w:=by
 have e:=oZ (ev:=g.frame.eval) j;rw[hy]at e;have key:(∃n v,g.frame.eval x=bb n/\((do ao .add ty x y (g.frame.eval x) (bb aI);binOp .add ty (g.frame.eval x) (bb aI)):Sem Value).run (aB T fB) w=a9 v w)\/
  sS (((do ao .add ty x y (g.frame.eval x) (bb aI);binOp .add ty (g.frame.eval x) (bb aI)):Sem Value).run (aB T fB) w):=by
  cases g.frame.eval x with
  |string n=>
   by_cases d:((n.size+ByteArray.empty.size:Nat):Int) > IntKind.i64.max
   ·exact bm (by simp only[ao,binOp,aJ,if_pos d];exact trivial)
   ·exact bj ⟨n,_,rfl,by simp only[ao,binOp,aJ,if_neg d];rfl⟩
  |_=>exact bm (by simp[ao,binOp,sS,Qb])
 rcases key with⟨n,v,p,k⟩|i
 ·obtain⟨v',w',b,l⟩:=h.val fit hc c e (bj ⟨_,_,k⟩)
  grind
 ·obtain⟨v',w',b,l⟩:=h.val fit hc c e (bm i.ex);obtain⟨a,q,m,_⟩:=i.ex;rw[m]at b;cases b
def Way.len(fit:Fits T fB fB F (λ_:ab=>false) Z)(h:Way T fB F Z f R g0 w0 g w)(hc:2<=g.callers.length){l:ac}(i:bF g=some o)(m:o.op=.call { callee:=.builtin .len,args:=#[x],argTypes:=#[t] })(j:(aB T fB).underlying t=some (.slice l)) :
 ∃b n c,g.frame.eval x=bc b n c/\Way T fB F Z f R g0 w0 (fin g (ba bi (n:Int))) w:=by
 have e:ag g.frame.eval o=(do pure (.value (<-aT #[t] o.type #[g.frame.eval x])):Sem Next):=by
  unfold ag;simp[m,resolve,invoke,builtin]
 have key:(∃b n c,g.frame.eval x=bc b n c/\(aT #[t] o.type #[g.frame.eval x]).run (aB T fB) w=a9 (ba bi (n:Int)) w)\/sS ((aT #[t] o.type #[g.frame.eval x]).run (aB T fB) w):=by
  cases g.frame.eval x with
  |slice b n c=>exact bj ⟨b,n,c,rfl,by simp[aT,ap j,goInt]⟩
  |_=>exact bm (by simp[aT,ap j,sS,Qb])
 rcases key with⟨b,n,c,s,p⟩|k
 ·obtain⟨v',w',d,q⟩:=h.val fit hc i e (bj ⟨_,_,p⟩)
  grind
 ·obtain⟨v',w',d,q⟩:=h.val fit hc i e (bm k.ex);obtain⟨a,u,r,_⟩:=k.ex;rw[r]at d;cases d
def Way.JL(fit:Fits T fB fB F (λ_:ab=>false) Z)(h:Way T fB F Z f R g0 w0 g w)(hc:2<=g.callers.length){u:ac}{m n:Int}(a:bF g=some o)(b:o.op=aP .eql ty x y u)(c:g.frame.eval x=ba bi m)(hy:g.frame.eval y=ba bi n) :
 Way T fB F Z f R g0 w0 (fin g (bd (m==n))) w:=by
 have e:=oZ (ev:=g.frame.eval) b;rw[c,hy]at e;have d:((do ao .eql ty x y (ba bi m) (ba bi n);binOp .eql ty (ba bi m) (ba bi n)):Sem Value).run (aB T fB) w=a9 (bd (m==n)) w:=by simp[ao,binOp,Op.intCmp]
 obtain⟨v',w',i,j⟩:=h.val fit hc a e (bj ⟨_,_,d⟩)
 grind
def MV{P:ae}(d:Nat){a:ac}{b:Option Addr}{n c:Nat}(e:P.underlying t=some (.slice a)):(aL (d+1) t (bc b n c) (bc none 0 0)).run P w=a9 b.isNone w:=by
 cases b<;>simp[aL,ap e]
def Way.JM(fit:Fits T fB fB F (λ_:ab=>false) Z)(h:Way T fB F Z f R g0 w0 g w)(hc:2<=g.callers.length){u a:ac}{b:Option Addr}{n c:Nat}(d:bF g=some o)(i:o.op=aP .eql t x y u)(j:(aB T fB).underlying t=some (.slice a))(k:g.frame.eval x=bc b n c)(hy:g.frame.eval y=bc none 0 0) :
 Way T fB F Z f R g0 w0 (fin g (bd b.isNone)) w:=by
 have e:=oZ (ev:=g.frame.eval) i;rw[k,hy]at e;have l:((do ao .eql t x y (bc b n c) (bc none 0 0);binOp .eql t (bc b n c) (bc none 0 0)):Sem Value).run (aB T fB) w=a9 (bd b.isNone) w:=by
  have m:(Op.equal t (bc b n c) (bc none 0 0)).run (aB T fB) w=a9 b.isNone w:=MV 9999 j;simp[ao,binOp,m]
 obtain⟨v',w',p,q⟩:=h.val fit hc d e (bj ⟨_,_,l⟩)
 grind
def Way.add(fit:Fits T fB fB F (λ_:ab=>false) Z)(h:Way T fB F Z f R g0 w0 g w)(hc:2<=g.callers.length){u:ac}{m n:Int}(a:bF g=some o)(b:o.op=aP .add ty x y u)(c:g.frame.eval x=ba bi m)(hy:g.frame.eval y=ba bi n) :
 Way T fB F Z f R g0 w0 (fin g (ba bi (IntKind.i64.wrap (m+n)))) w:=by
 have e:=oZ (ev:=g.frame.eval) b;rw[c,hy]at e;have d:((do ao .add ty x y (ba bi m) (ba bi n);binOp .add ty (ba bi m) (ba bi n)):Sem Value).run (aB T fB) w=a9 (ba bi (IntKind.i64.wrap (m+n))) w:=by simp[ao,binOp,Op.intArith]
 obtain⟨v',w',i,j⟩:=h.val fit hc a e (bj ⟨_,_,d⟩)
 grind
end
section
variable {T:aa}{fB:Array Func}{F:ab->Bool}{Z:ac->Bool}{f:ab}{R:Value->World->Prop}{g0 g:ad}{w0 w w':World}{ty t:ac}{x y:ai}{o:Oper}{ρ:Ren}
def qy:aq->Bool
 |.struct _ | .array _ _=>true
 |_=>false
def mh{P:ae}{d:aq}(h:P.underlying t=some d)(w:World):(isAgg t).run P w=a9 (qy d) w:=by
 unfold isAgg;rw[aH,ap h w];cases d<;>simp[qy]
def xX{ev:ai->Value}{i:Nat}(a:o.op=aS ty x i):ag ev o=(do pure (.value (<-a5 ty (ev x) i)):Sem Next):=by
 unfold ag;simp only[a]
def Way.field(fit:Fits T fB fB F (λ_:ab=>false) Z)(h:Way T fB F Z f R g0 w0 g w)(hc:2<=g.callers.length){i:Nat}{fs:Array Field}{fd:Field}{d:aq}(k:bF g=some o)(m:o.op=aS ty x i)(c:(aB T fB).underlying ty=some (.struct fs))(hf:fs[i]?=some fd)(hd:(aB T fB).underlying fd.type=some d)(b:qy d=false) :
 ∃cs v,g.frame.eval x=bg cs/\cs[fd.offset]?=some v/\Way T fB F Z f R g0 w0 (fin g v) w:=by
 have e:=xX (ev:=g.frame.eval) m;have key:(∃cs v,g.frame.eval x=bg cs/\cs[fd.offset]?=some v/\(a5 ty (g.frame.eval x) i).run (aB T fB) w=a9 v w)\/sS ((a5 ty (g.frame.eval x) i).run (aB T fB) w):=by
  cases g.frame.eval x with
  |agg cs=>
   cases hv:cs[fd.offset]? with
   |some v=>exact bj ⟨cs,v,rfl,hv,by simp[a5,ap c,hf,asAgg,part,mh hd,b,hv]⟩
   |none=>exact bm (by simp[a5,ap c,hf,asAgg,part,mh hd,b,hv,sS,Qb])
  |_=>exact bm (by simp[a5,ap c,hf,asAgg,sS,Qb])
 rcases key with⟨cs,v,q,hv,n⟩|l
 ·obtain⟨v',w',j,p⟩:=h.val fit hc k e (bj ⟨_,_,n⟩)
  grind
 ·obtain⟨v',w',j,p⟩:=h.val fit hc k e (bm l.ex);obtain⟨a,r,b,_⟩:=l.ex;rw[b]at j;cases j
def Way.Hu(fit:Fits T fB fB F (λ_:ab=>false) Z)(h:Way T fB F Z f R g0 w0 g w)(hc:2<=g.callers.length){i:Nat}{fs:Array Field}{fd:Field}{d:aq}{a:TypeInfo}{cs:Array Value}(b:bF g=some o)(c:o.op=aS ty x i)(j:g.frame.eval x=bg cs)(k:(aB T fB).underlying ty=some (.struct fs))(hf:fs[i]?=some fd)(hd:(aB T fB).underlying fd.type=some d)(l:qy d=true)(hi:(aB T fB).info? fd.type=some a) :
 Way T fB F Z f R g0 w0 (fin g (bg (cs.extract fd.offset (fd.offset+a.size)))) w:=by
 have e:=xX (ev:=g.frame.eval) c;have m:(a5 ty (g.frame.eval x) i).run (aB T fB) w=a9 (bg (cs.extract fd.offset (fd.offset+a.size))) w:=by
  rw[j];simp[a5,ap k,hf,asAgg,part,mh hd,l,sizeOf,typeInfo,hi]
 obtain⟨v',w',n,p⟩:=h.val fit hc b e (bj ⟨_,_,m⟩)
 grind
def Az{a a':Addr}(h:WR T.globals.size F (codeOk T F Z) ρ w w')(k:AR ρ a a'):∀(n i:Nat)(b:Array Value),
 (∃u d:Nat->Value,(∀j,j<n->w.cell? (a.add (i+j))=some (u j)/\w'.cell? (a'.add (i+j))=some (d j)/\VR F ρ (u j) (d j)/\(∃c t l,w'.heap[a'.block]?=some (.cells c t l)))/\
   (ar a i n b).run (aB T fB) w=a9 (b++((a6 n).map u).toArray) w)\/sS ((ar a i n b).run (aB T fB) w)
 |0,i,b=>bj ⟨λ_=>undef,λ_=>undef,λj m=>absurd m (Nat.not_lt_zero _),by simp[ar]⟩
 |n+1,i,b=>by
  have hb:(a.add i).block=a.block:=by unfold Addr.add;split<;>rfl
  have z:(a'.add i).block=a'.block:=by unfold Addr.add;split<;>rfl
  rcases lF (T:=T) (fB:=fB) h (k.add i) with⟨e,s,p⟩|⟨v,v',c,A,t,l,e,p,B,C,D,E,H⟩
  ·right;simp[ar,e,p,sS,Qb]
  ·rcases Az h k n (i+1) (b.push v) with⟨u,d,I,q⟩|r
   ·left;refine⟨λj=>if j=0 then v else u (j-1),λj=>if j=0 then v' else d (j-1),λj m=>?_,?_⟩
    ·grind
    ·simp only[ar,aH,run_load,e,a7];rw[q];simp[List.range_succ_eq_map,Function.comp_def]
   ·right;simp only[ar,aH,run_load,e,a7];exact r
def Way.load(fit:Fits T fB fB F (λ_:ab=>false) Z)(h:Way T fB F Z f R g0 w0 g w)(hc:2<=g.callers.length){d:aq}{i:TypeInfo}{a a':Addr}(p:bF g=some o)(r:o.op=.load ty x)(s:g.frame.eval x=.pointer (some a))(m:WR T.globals.size F (codeOk T F Z) ρ w w')(v:AR ρ a a')(z:(aB T fB).underlying ty=some d)(hd:qy d=true)(hi:(aB T fB).info? ty=some i) :
 ∃u n:Nat->Value,(∀j,j<i.size->w.cell? (a.add j)=some (u j)/\w'.cell? (a'.add j)=some (n j)/\VR F ρ (u j) (n j)/\(∃c t A,w'.heap[a'.block]?=some (.cells c t A)))/\Way T fB F Z f R g0 w0 (fin g (bg ((a6 i.size).map u).toArray)) w:=by
 have e:ag g.frame.eval o=(do pure (.value (<-aw ty a)):Sem Next):=Go.Ph.uu r s;have B:(aw ty a).run (aB T fB) w=((ar a 0 i.size #[]).run (aB T fB) w).andThen λc w=>a9 (bg c) w:=by
  simp[aw,mh z,hd,sizeOf,typeInfo,hi,loadCells]
 rcases Az (T:=T) (fB:=fB) m v i.size 0 #[]with⟨u,n,E,H⟩|C
 ·have k:(aw ty a).run (aB T fB) w=a9 (bg ((a6 i.size).map u).toArray) w:=by
   simp_all
  obtain⟨v',w',l,m⟩:=h.val fit hc p e (bj ⟨_,_,k⟩);rw[k]at l;cases l;exact⟨u,n,λj I=>by grind,m⟩
 ·obtain⟨b,q,hb,D⟩:=C.ex;have k:(aw ty a).run (aB T fB) w=a8 b q:=by rw[B,hb];rfl
  obtain⟨v',w',l,m⟩:=h.val fit hc p e (bm ⟨b,q,k,D⟩);rw[k]at l;cases l
end
open Go.ConcN (upd upd_ne upd_same)
def SL(n:Nat)(F:Nat->Value)(rest:List Value)(ops:Array Oper)(is:List Nat)(k:List Item)(fn:ab)(cs:List Frame):ad:=fH ⟨fn,⟨(a6 n).map F++rest⟩,.inRegion ops is::k,[],.run,.normal,none⟩ cs
section
variable {n:Nat}{H:Nat->Value}{rest:List Value}{ops:Array Oper}{i:Nat}{is:List Nat}{k:List Item}{fn:ab}{cs:List Frame}{o:Oper}
def bH{j:Nat}(h:j<n):(SL n H rest ops is k fn cs).frame.eval (.tmp j)=H j:=by
 show(⟨(a6 n).map H++rest⟩:Array Value).getD j undef=H j;rw[Array.getD_eq_getD_getElem?]
 grind
def ah3(v:Value):(SL n H rest ops is k fn cs).frame.eval (.const v)=v:=rfl
def jb(h:ops[i]?=some o)(hg:o.guard=none)(hd:pS o.op=true):bF (SL n H rest ops (i::is) k fn cs)=some o:=by
 unfold bF SL;simp[fH,h,Region.wanted,hg,hd]
def ZS{d:Nat}(hd:d<n)(v:Value):(⟨(a6 n).map H++rest⟩:Array Value).setIfInBounds d v=⟨(a6 n).map (upd H d v)++rest⟩:=by
 apply Array.ext';rw[Array.toList_setIfInBounds];show((a6 n).map H++rest).set d v=_;rw[List.set_append_left _ _ (by simpa using hd)];congr 1;apply List.ext_getElem
 ·simp
 ·intro j a b;simp only[List.getElem_set,List.getElem_map,List.getElem_range];by_cases e:d=j
  ·subst e;simp[upd_same]
  ·rw[if_neg e,upd_ne _ _ (Ne.symm e)]
def ZT{d:Nat}(h:ops[i]?=some o)(hd:o.dst=some d)(a:d<n)(v:Value):fin (SL n H rest ops (i::is) k fn cs) v=SL n (upd H d v) rest ops is k fn cs:=by
 unfold SL fin Frame.finish;simp only[fH,h,Option.bind_some,hd,ZS a]
def UR(h:ops[i]?=some o)(hd:o.dst=none)(v:Value):fin (SL n H rest ops (i::is) k fn cs) v=SL n H rest ops is k fn cs:=by
 unfold SL fin Frame.finish
 grind
section
variable {T:aa}{fB:Array Func}{F:ab->Bool}{Z:ac->Bool}{f:ab}{R:Value->World->Prop}{g0:ad}{w0 w:World}
def Way.check(fit:Fits T fB fB F (λ_:ab=>false) Z){j d:Nat}{b bad:Bool}{l:Oper}{x:Value}(h:Way T fB F Z f R g0 w0 (SL n H rest ops (i::is) k fn cs) w)(hc:2<=cs.length)(a:ops[i]?=some o)(hg:o.guard=some (j,bad))(m:o.op=aS 3 (.const x) 0)(c:o.dst=none)(g:∃k,(aB T fB).underlying 3=some (.int k))
 (u:ops[j]?=some l) (r:l.dst=some d) (hd:d<n) (hb:H d=bd b):b = !bad/\Way T fB F Z f R g0 w0 (SL n H rest ops is k fn cs) w:=by
 obtain⟨v,g⟩:=g;have hy:yielded ops (⟨(a6 n).map H++rest⟩:Array Value) j=some b:=by
  have:(⟨(a6 n).map H++rest⟩:Array Value)[d]?=some (bd b):=by
   grind
  have e:((ops[j]?).bind (·.dst)).bind ((⟨(a6 n).map H++rest⟩:Array Value)[·]?)=some (bd b):=by
   grind
  unfold yielded;rw[e]
 obtain⟨y,w1,es,e,p⟩:=h.next fit hc;by_cases q:b=bad
 case neg=>
  have e1:stepG (aB T fB) true (SL n H rest ops (i::is) k fn cs) w=.go (fin (SL n H rest ops (i::is) k fn cs) undef) w #[]:=by
   unfold SL fH;simp[stepG,stepG.exec,a,Region.wanted,hg,hy,fin,q]
  rw[e1]at e;cases e;rw[UR a c]at p;exact⟨by cases b<;>cases bad<;>simp_all,p⟩
 case pos=>
  have s:bF (SL n H rest ops (i::is) k fn cs)=some o:=by
   unfold bF SL;simp[fH,a,Region.wanted,hg,hy,pS,m,q]
  obtain⟨x1,w2,z,t⟩:=Eg (P:=aB T fB) (mn:=true) (w:=w) (h:=.stuck "Field: struct type expected") (w':=w) s (by
   unfold ag
   simp[m,a5,ap g]) trivial
  rw[t]at e;cases e
end
end
end Go.bJ
namespace Go.Proofs
open Go.bJ Go.Conc Go.Ph
set_option maxRecDepth 100000
end Go.Proofs
