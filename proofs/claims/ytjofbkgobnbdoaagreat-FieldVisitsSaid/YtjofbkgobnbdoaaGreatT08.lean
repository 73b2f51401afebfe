/- Part of the proof of FieldVisits. -/
import Derived.Test.YtjofbkgobnbdoaaGreatT07
set_option linter.all false
open Go renaming Tables->aa,FuncId->ab,TypeId->ac,Goroutine->ad,Program->ae,execOp->ag,Operand->ai,eqGuard->ao,run_underlying->ap,TypeDesc->aq,loadCellsFrom->ar,loadVar->aw
open Go.Program renaming mk->aB
open Go.Sem renaming runT_fst->aF,run_bind->aH
open ByteArray renaming empty->aI
open Go.Builtin renaming len_->aJ
open Go.Instr renaming field->aL
open List renaming range->aP,getElem?_toArray->aS,getElem?_append_left->aT
namespace Go.bJ
open Go.Conc Go.Ph
section
variable {T:aa}{fB:Array Func}{F:ab->Bool}{Z:ac->Bool}{f:ab}{R:Value->World->Prop}{g0 g:ad}{w0 w:World}
structure Way(T:aa)(fB:Array Func)(F:ab->Bool)(Z:ac->Bool)(f:ab)(R:Value->World->Prop)(g0:ad)(w0:World)(g:ad)(w:World):Prop where
 term:Term ⟨T,fB⟩ (lQ ⟨T,fB⟩ f R) g w
 inv:iE T fB F Z g w
 chain:∃n,cy ⟨T,fB⟩ n g0 w0 g w
def Way.next(fit:Fits T fB fB F (λ_:ab=>false) Z)(h:Way T fB F Z f R g0 w0 g w)(hc:2<=g.callers.length):∃b w1 es,stepG (aB T fB) true g w=.go b w1 es/\Way T fB F Z f R g0 w0 b w1:=by
 obtain⟨c,hi,n,d⟩:=h
 cases c with
 |done i=>
  have:=i.1;rw[this]at hc;simp at hc
 |step j k hs l=>
  obtain⟨es,e⟩:=hs w.tape w.drawn;have a:stepG (aB T fB) true g w=.go (j w.tape w.drawn) (k w.tape w.drawn) es:=e;refine⟨_,_,es,a,l _ _,hi.step fit (λm=>?_) a,n+1,.succ d a⟩;have:=m.2.2;rw[this]at hc;simp at hc
def Qb:Halt->Prop
 |.stuck _=>True
 |.unsupported (.initOrder _)=>False
 |.unsupported _=>True
 |_=>False
def Eg{P:ae}{mn:Bool}{o:Oper}{h:Halt}{w':World}(a:bF g=some o)(b:(ag g.frame.eval o).run P w=.halt h w')(hb:Qb h):∃e w1 es,stepG P mn g w=.ended e w1 es:=by
 rw[lV a];obtain⟨fn,tmps,ops,i,c,k,defers,kind,d,cs,rfl,j,l,m,n⟩:=gF a
 cases h with
 |stuck s=>exact⟨_,_,_,by simp only[stepG.apply,if_true,aF,b,GStep.after];rfl⟩
 |unsupported u=>
  cases u with
  |initOrder _=>exact hb.elim
  |_=>exact⟨_,_,_,by simp only[stepG.apply,if_true,aF,b,GStep.after];rfl⟩
 |_=>exact hb.elim
def Way.val(fit:Fits T fB fB F (λ_:ab=>false) Z){o:Oper}{s:Sem Value}(h:Way T fB F Z f R g0 w0 g w)(hc:2<=g.callers.length)(c:bF g=some o)(e:ag g.frame.eval o=(do pure (.value (<-s)):Sem Next))(hs:(∃v w',s.run (aB T fB) w=.ok v w')\/∃a w',s.run (aB T fB) w=.halt a w'/\Qb a) :
 ∃v w',s.run (aB T fB) w=.ok v w'/\Way T fB F Z f R g0 w0 (fin g v) w':=by
 obtain⟨j,w1,es,e1,d⟩:=h.next fit hc
 rcases hs with⟨v,w',hv⟩|⟨a,w',i,hb⟩
 ·have b:(ag g.frame.eval o).run (aB T fB) w=.ok (.value v) w':=by rw[e];simp[hv]
  have:=dF (P:=aB T fB) (mn:=true) (v:=v) (w':=w') c b;rw[this]at e1;cases e1;exact⟨v,_,hv,d⟩
 ·have b:(ag g.frame.eval o).run (aB T fB) w=.halt a w':=by rw[e];simp[i]
  obtain⟨x,w2,l,k⟩:=Eg (P:=aB T fB) (mn:=true) (w:=w) c b hb;rw[k]at e1;cases e1
end
section
variable {T:aa}{fB:Array Func}{F:ab->Bool}{Z:ac->Bool}{f:ab}{R:Value->World->Prop}{g0 g:ad}{w0 w:World}{ty t:ac}{x y:ai}{o:Oper}
def sS{b:Type}:Result b->Prop
 |.halt a _=>Qb a
 |.ok _ _=>False
def sS.ex{b:Type}{r:Result b}(h:sS r):∃a w',r=.halt a w'/\Qb a:=by
 cases r with
 |halt a w=>exact⟨a,w,rfl,h⟩
 |ok a w=>exact h.elim
def Way.go(fit:Fits T fB fB F (λ_:ab=>false) Z)(h:Way T fB F Z f R g0 w0 g w)(hc:2<=g.callers.length){a:ad}{w1:World}{es:Array Event}(e:stepG (aB T fB) true g w=.go a w1 es):Way T fB F Z f R g0 w0 a w1:=by
 obtain⟨d,w2,i,b,c⟩:=h.next fit hc;rw[e]at b;cases b;exact c
def oZ{ev:ai->Value}{op:BinOp}{u:ac}(a:o.op=.binOp op ty x y u):ag ev o=(do pure (.value (<-(do ao op ty x y (ev x) (ev y);binOp op ty (ev x) (ev y)))):Sem Next):=by
 unfold ag;simp only[a]
def Way.int(fit:Fits T fB fB F (λ_:ab=>false) Z)(h:Way T fB F Z f R g0 w0 g w)(hc:2<=g.callers.length){u:ac}(c:bF g=some o)(m:o.op=.binOp .xor ty x y u)(hy:g.frame.eval y=.int .i64 0) :
 ∃n v,g.frame.eval x=.int .i64 n/\Way T fB F Z f R g0 w0 (fin g v) w:=by
 have e:=oZ (ev:=g.frame.eval) m;rw[hy]at e;have key:(∃n v,g.frame.eval x=.int .i64 n/\((do ao .xor ty x y (g.frame.eval x) (.int .i64 0);binOp .xor ty (g.frame.eval x) (.int .i64 0)):Sem Value).run (aB T fB) w=.ok v w)\/
  sS (((do ao .xor ty x y (g.frame.eval x) (.int .i64 0);binOp .xor ty (g.frame.eval x) (.int .i64 0)):Sem Value).run (aB T fB) w):=by
  cases g.frame.eval x with
  |int k n=>
   by_cases d:k=.i64
   ·subst d;exact .inl ⟨n,_,rfl,by simp[ao,binOp,Op.intBits];rfl⟩
   ·exact .inr (by simp[ao,binOp,d,sS,Qb])
  |_=>exact .inr (by simp[ao,binOp,sS,Qb])
 rcases key with⟨n,v,p,i⟩|j
 ·obtain⟨v',w',b,l⟩:=h.val fit hc c e (.inl ⟨_,_,i⟩);rw[i]at b;cases b;exact⟨n,v,p,l⟩
 ·obtain⟨v',w',b,l⟩:=h.val fit hc c e (.inr j.ex);obtain⟨a,r,q,_⟩:=j.ex;rw[q]at b;cases b
def Way.str(fit:Fits T fB fB F (λ_:ab=>false) Z)(h:Way T fB F Z f R g0 w0 g w)(hc:2<=g.callers.length){u:ac}(c:bF g=some o)(l:o.op=.binOp .add ty x y u)(hy:g.frame.eval y=.string aI) :
 ∃n v,g.frame.eval x=.string n/\Way T fB F Z f R g0 w0 (fin g v) w:=by
 have e:=oZ (ev:=g.frame.eval) l;rw[hy]at e;have key:(∃n v,g.frame.eval x=.string n/\((do ao .add ty x y (g.frame.eval x) (.string aI);binOp .add ty (g.frame.eval x) (.string aI)):Sem Value).run (aB T fB) w=.ok v w)\/
  sS (((do ao .add ty x y (g.frame.eval x) (.string aI);binOp .add ty (g.frame.eval x) (.string aI)):Sem Value).run (aB T fB) w):=by
  cases g.frame.eval x with
  |string n=>
   by_cases d:((n.size+ByteArray.empty.size:Nat):Int) > IntKind.i64.max
   ·exact .inr (by simp only[ao,binOp,Op.stringOp,if_pos d];exact trivial)
   ·exact .inl ⟨n,_,rfl,by simp only[ao,binOp,Op.stringOp,if_neg d];rfl⟩
  |_=>exact .inr (by simp[ao,binOp,sS,Qb])
 rcases key with⟨n,v,m,i⟩|j
 ·obtain⟨v',w',b,k⟩:=h.val fit hc c e (.inl ⟨_,_,i⟩);rw[i]at b;cases b;exact⟨n,v,m,k⟩
 ·obtain⟨v',w',b,k⟩:=h.val fit hc c e (.inr j.ex);obtain⟨a,q,p,_⟩:=j.ex;rw[p]at b;cases b
def Way.len(fit:Fits T fB fB F (λ_:ab=>false) Z)(h:Way T fB F Z f R g0 w0 g w)(hc:2<=g.callers.length){p:ac}(i:bF g=some o)(q:o.op=.call { callee:=.builtin .len,args:=#[x],argTypes:=#[t] })(j:(aB T fB).underlying t=some (.slice p)) :
 ∃b n c,g.frame.eval x=.slice b n c/\Way T fB F Z f R g0 w0 (fin g (.int .i64 (n:Int))) w:=by
 have e:ag g.frame.eval o=(do pure (.value (<-aJ #[t] o.type #[g.frame.eval x])):Sem Next):=by
  unfold ag;simp[q,resolve,invoke,builtin]
 have key:(∃b n c,g.frame.eval x=.slice b n c/\(aJ #[t] o.type #[g.frame.eval x]).run (aB T fB) w=.ok (.int .i64 (n:Int)) w)\/sS ((aJ #[t] o.type #[g.frame.eval x]).run (aB T fB) w):=by
  cases g.frame.eval x with
  |slice b n c=>exact .inl ⟨b,n,c,rfl,by simp[aJ,ap j,goInt]⟩
  |_=>exact .inr (by simp[aJ,ap j,sS,Qb])
 rcases key with⟨b,n,c,r,k⟩|l
 ·obtain⟨v',w',d,m⟩:=h.val fit hc i e (.inl ⟨_,_,k⟩);rw[k]at d;cases d;exact⟨b,n,c,r,m⟩
 ·obtain⟨v',w',d,m⟩:=h.val fit hc i e (.inr l.ex);obtain⟨a,u,s,_⟩:=l.ex;rw[s]at d;cases d
def Way.JL(fit:Fits T fB fB F (λ_:ab=>false) Z)(h:Way T fB F Z f R g0 w0 g w)(hc:2<=g.callers.length){u:ac}{m n:Int}(c:bF g=some o)(d:o.op=.binOp .eql ty x y u)(i:g.frame.eval x=.int .i64 m)(hy:g.frame.eval y=.int .i64 n) :
 Way T fB F Z f R g0 w0 (fin g (.bool (m==n))) w:=by
 have e:=oZ (ev:=g.frame.eval) d;rw[i,hy]at e;have a:((do ao .eql ty x y (.int .i64 m) (.int .i64 n);binOp .eql ty (.int .i64 m) (.int .i64 n)):Sem Value).run (aB T fB) w=.ok (.bool (m==n)) w:=by simp[ao,binOp,Op.intCmp]
 obtain⟨v',w',b,j⟩:=h.val fit hc c e (.inl ⟨_,_,a⟩);rw[a]at b;cases b;exact j
def MV{P:ae}(d:Nat){a:ac}{b:Option Addr}{n c:Nat}(e:P.underlying t=some (.slice a)):(Op.equalIn (d+1) t (.slice b n c) (.slice none 0 0)).run P w=.ok b.isNone w:=by
 cases b<;>simp[Op.equalIn,ap e]
def Way.JM(fit:Fits T fB fB F (λ_:ab=>false) Z)(h:Way T fB F Z f R g0 w0 g w)(hc:2<=g.callers.length){u i:ac}{b:Option Addr}{n c:Nat}(j:bF g=some o)(k:o.op=.binOp .eql t x y u)(l:(aB T fB).underlying t=some (.slice i))(m:g.frame.eval x=.slice b n c)(hy:g.frame.eval y=.slice none 0 0) :
 Way T fB F Z f R g0 w0 (fin g (.bool b.isNone)) w:=by
 have e:=oZ (ev:=g.frame.eval) k;rw[m,hy]at e;have a:((do ao .eql t x y (.slice b n c) (.slice none 0 0);binOp .eql t (.slice b n c) (.slice none 0 0)):Sem Value).run (aB T fB) w=.ok (.bool b.isNone) w:=by
  have p:(Op.equal t (.slice b n c) (.slice none 0 0)).run (aB T fB) w=.ok b.isNone w:=MV 9999 l;simp[ao,binOp,p]
 obtain⟨v',w',d,q⟩:=h.val fit hc j e (.inl ⟨_,_,a⟩);rw[a]at d;cases d;exact q
def Way.add(fit:Fits T fB fB F (λ_:ab=>false) Z)(h:Way T fB F Z f R g0 w0 g w)(hc:2<=g.callers.length){u:ac}{m n:Int}(c:bF g=some o)(d:o.op=.binOp .add ty x y u)(i:g.frame.eval x=.int .i64 m)(hy:g.frame.eval y=.int .i64 n) :
 Way T fB F Z f R g0 w0 (fin g (.int .i64 (IntKind.i64.wrap (m+n)))) w:=by
 have e:=oZ (ev:=g.frame.eval) d;rw[i,hy]at e;have a:((do ao .add ty x y (.int .i64 m) (.int .i64 n);binOp .add ty (.int .i64 m) (.int .i64 n)):Sem Value).run (aB T fB) w=.ok (.int .i64 (IntKind.i64.wrap (m+n))) w:=by simp[ao,binOp,Op.intArith]
 obtain⟨v',w',b,j⟩:=h.val fit hc c e (.inl ⟨_,_,a⟩);rw[a]at b;cases b;exact j
end
section
variable {T:aa}{fB:Array Func}{F:ab->Bool}{Z:ac->Bool}{f:ab}{R:Value->World->Prop}{g0 g:ad}{w0 w w':World}{ty t:ac}{x y:ai}{o:Oper}{ρ:Ren}
def qy:aq->Bool
 |.struct _ | .array _ _=>true
 |_=>false
def mh{P:ae}{d:aq}(h:P.underlying t=some d)(w:World):(isAgg t).run P w=.ok (qy d) w:=by
 unfold isAgg;rw[aH,ap h w];cases d<;>simp[qy]
def xX{ev:ai->Value}{i:Nat}(a:o.op=.field ty x i):ag ev o=(do pure (.value (<-aL ty (ev x) i)):Sem Next):=by
 unfold ag;simp only[a]
def Way.field(fit:Fits T fB fB F (λ_:ab=>false) Z)(h:Way T fB F Z f R g0 w0 g w)(hc:2<=g.callers.length){i:Nat}{fs:Array Field}{fd:Field}{d:aq}(k:bF g=some o)(p:o.op=.field ty x i)(j:(aB T fB).underlying ty=some (.struct fs))(hf:fs[i]?=some fd)(hd:(aB T fB).underlying fd.type=some d)(c:qy d=false) :
 ∃cs v,g.frame.eval x=.agg cs/\cs[fd.offset]?=some v/\Way T fB F Z f R g0 w0 (fin g v) w:=by
 have e:=xX (ev:=g.frame.eval) p;have key:(∃cs v,g.frame.eval x=.agg cs/\cs[fd.offset]?=some v/\(aL ty (g.frame.eval x) i).run (aB T fB) w=.ok v w)\/sS ((aL ty (g.frame.eval x) i).run (aB T fB) w):=by
  cases g.frame.eval x with
  |agg cs=>
   cases hv:cs[fd.offset]? with
   |some v=>exact .inl ⟨cs,v,rfl,hv,by simp[aL,ap j,hf,asAgg,part,mh hd,c,hv]⟩
   |none=>exact .inr (by simp[aL,ap j,hf,asAgg,part,mh hd,c,hv,sS,Qb])
  |_=>exact .inr (by simp[aL,ap j,hf,asAgg,sS,Qb])
 rcases key with⟨cs,v,q,hv,l⟩|m
 ·obtain⟨v',w',b,n⟩:=h.val fit hc k e (.inl ⟨_,_,l⟩);rw[l]at b;cases b;exact⟨cs,v,q,hv,n⟩
 ·obtain⟨v',w',b,n⟩:=h.val fit hc k e (.inr m.ex);obtain⟨a,r,c,_⟩:=m.ex;rw[c]at b;cases b
def Way.Hu(fit:Fits T fB fB F (λ_:ab=>false) Z)(h:Way T fB F Z f R g0 w0 g w)(hc:2<=g.callers.length){i:Nat}{fs:Array Field}{fd:Field}{d:aq}{a:TypeInfo}{cs:Array Value}(j:bF g=some o)(k:o.op=.field ty x i)(l:g.frame.eval x=.agg cs)(m:(aB T fB).underlying ty=some (.struct fs))(hf:fs[i]?=some fd)(hd:(aB T fB).underlying fd.type=some d)(n:qy d=true)(hi:(aB T fB).info? fd.type=some a) :
 Way T fB F Z f R g0 w0 (fin g (.agg (cs.extract fd.offset (fd.offset+a.size)))) w:=by
 have e:=xX (ev:=g.frame.eval) k;have b:(aL ty (g.frame.eval x) i).run (aB T fB) w=.ok (.agg (cs.extract fd.offset (fd.offset+a.size))) w:=by
  rw[l];simp[aL,ap m,hf,asAgg,part,mh hd,n,sizeOf,typeInfo,hi]
 obtain⟨v',w',c,p⟩:=h.val fit hc j e (.inl ⟨_,_,b⟩);rw[b]at c;cases c;exact p
def Az{a a':Addr}(l:WR T.globals.size F (codeOk T F Z) ρ w w')(m:AR ρ a a'):∀(n i:Nat)(b:Array Value),
 (∃u e:Nat->Value,(∀j,j<n->w.cell? (a.add (i+j))=some (u j)/\w'.cell? (a'.add (i+j))=some (e j)/\VR F ρ (u j) (e j)/\(∃c t h,w'.heap[a'.block]?=some (.cells c t h)))/\
   (ar a i n b).run (aB T fB) w=.ok (b++((aP n).map u).toArray) w)\/sS ((ar a i n b).run (aB T fB) w)
 |0,i,b=>.inl ⟨λ_=>undef,λ_=>undef,λj p=>absurd p (Nat.not_lt_zero _),by simp[ar]⟩
 |n+1,i,b=>by
  have hb:(a.add i).block=a.block:=by unfold Addr.add;split<;>rfl
  have q:(a'.add i).block=a'.block:=by unfold Addr.add;split<;>rfl
  rcases lF (T:=T) (fB:=fB) l (m.add i) with⟨d,s,k⟩|⟨v,v',c,r,t,h,d,k,z,E,H,A,I⟩
  ·right;simp[ar,d,k,sS,Qb]
  ·rcases Az l m n (i+1) (b.push v) with⟨u,e,B,C⟩|D
   ·left;refine⟨λj=>if j=0 then v else u (j-1),λj=>if j=0 then v' else e (j-1),λj p=>?_,?_⟩
    ·cases j with
     |zero=>exact⟨d,k,z,r,t,h,by rw[<-q];exact A⟩
     |succ j=>
      have:=B j (by omega);rw[show i+1+j=i+(j+1) by omega]at this;simpa using this
    ·simp only[ar,aH,run_load,d,Result.andThen];rw[C];simp[List.range_succ_eq_map,Function.comp_def]
   ·right;simp only[ar,aH,run_load,d,Result.andThen];exact D
def Way.load(fit:Fits T fB fB F (λ_:ab=>false) Z)(h:Way T fB F Z f R g0 w0 g w)(hc:2<=g.callers.length){d:aq}{i:TypeInfo}{a a':Addr}(p:bF g=some o)(s:o.op=.load ty x)(v:g.frame.eval x=.pointer (some a))(m:WR T.globals.size F (codeOk T F Z) ρ w w')(z:AR ρ a a')(A:(aB T fB).underlying ty=some d)(hd:qy d=true)(hi:(aB T fB).info? ty=some i) :
 ∃u n:Nat->Value,(∀j,j<i.size->w.cell? (a.add j)=some (u j)/\w'.cell? (a'.add j)=some (n j)/\VR F ρ (u j) (n j)/\(∃c t B,w'.heap[a'.block]?=some (.cells c t B)))/\Way T fB F Z f R g0 w0 (fin g (.agg ((aP i.size).map u).toArray)) w:=by
 have e:ag g.frame.eval o=(do pure (.value (<-aw ty a)):Sem Next):=Go.Ph.uu s v;have q:(aw ty a).run (aB T fB) w=((ar a 0 i.size #[]).run (aB T fB) w).andThen λc w=>.ok (.agg c) w:=by
  simp[aw,mh A,hd,sizeOf,typeInfo,hi,loadCells]
 rcases Az (T:=T) (fB:=fB) m z i.size 0 #[]with⟨u,n,C,D⟩|E
 ·have k:(aw ty a).run (aB T fB) w=.ok (.agg ((aP i.size).map u).toArray) w:=by
   rw[q,D];simp[Result.andThen]
  obtain⟨v',w',l,m⟩:=h.val fit hc p e (.inl ⟨_,_,k⟩);rw[k]at l;cases l;exact⟨u,n,λj H=>by have:=C j H;rwa[Nat.zero_add]at this,m⟩
 ·obtain⟨b,r,hb,I⟩:=E.ex;have k:(aw ty a).run (aB T fB) w=.halt b r:=by rw[q,hb];rfl
  obtain⟨v',w',l,m⟩:=h.val fit hc p e (.inr ⟨b,r,k,I⟩);rw[k]at l;cases l
end
open Go.ConcN (upd upd_ne upd_same)
def SL(n:Nat)(F:Nat->Value)(rest:List Value)(ops:Array Oper)(is:List Nat)(k:List Item)(fn:ab)(cs:List Frame):ad:=fH ⟨fn,⟨(aP n).map F++rest⟩,.inRegion ops is::k,[],.run,.normal,none⟩ cs
section
variable {n:Nat}{H:Nat->Value}{rest:List Value}{ops:Array Oper}{i:Nat}{is:List Nat}{k:List Item}{fn:ab}{cs:List Frame}{o:Oper}
def bH{j:Nat}(h:j<n):(SL n H rest ops is k fn cs).frame.eval (.tmp j)=H j:=by
 show(⟨(aP n).map H++rest⟩:Array Value).getD j undef=H j;rw[Array.getD_eq_getD_getElem?];have:(⟨(aP n).map H++rest⟩:Array Value)[j]?=some (H j):=by
  rw[aS,aT (by simpa using h)];simp[h]
 rw[this];rfl
def agM(v:Value):(SL n H rest ops is k fn cs).frame.eval (.const v)=v:=rfl
def jb(h:ops[i]?=some o)(hg:o.guard=none)(hd:pS o.op=true):bF (SL n H rest ops (i::is) k fn cs)=some o:=by
 unfold bF SL;simp[fH,h,Region.wanted,hg,hd]
def ZS{d:Nat}(hd:d<n)(v:Value):(⟨(aP n).map H++rest⟩:Array Value).setIfInBounds d v=⟨(aP n).map (upd H d v)++rest⟩:=by
 apply Array.ext';rw[Array.toList_setIfInBounds];show((aP n).map H++rest).set d v=_;rw[List.set_append_left _ _ (by simpa using hd)];congr 1;apply List.ext_getElem
 ·simp
 ·intro j a b;simp only[List.getElem_set,List.getElem_map,List.getElem_range];by_cases e:d=j
  ·subst e;simp[upd_same]
  ·rw[if_neg e,upd_ne _ _ (Ne.symm e)]
def ZT{d:Nat}(h:ops[i]?=some o)(hd:o.dst=some d)(a:d<n)(v:Value):fin (SL n H rest ops (i::is) k fn cs) v=SL n (upd H d v) rest ops is k fn cs:=by
 unfold SL fin Frame.finish;simp only[fH,h,Option.bind_some,hd,ZS a]
def UR(h:ops[i]?=some o)(hd:o.dst=none)(v:Value):fin (SL n H rest ops (i::is) k fn cs) v=SL n H rest ops is k fn cs:=by
 unfold SL fin Frame.finish;simp only[fH,h,Option.bind_some,hd]
section
variable {T:aa}{fB:Array Func}{F:ab->Bool}{Z:ac->Bool}{f:ab}{R:Value->World->Prop}{g0:ad}{w0 w:World}
def Way.check(fit:Fits T fB fB F (λ_:ab=>false) Z){j d:Nat}{b bad:Bool}{a:Oper}{x:Value}(h:Way T fB F Z f R g0 w0 (SL n H rest ops (i::is) k fn cs) w)(hc:2<=cs.length)(c:ops[i]?=some o)(hg:o.guard=some (j,bad))(p:o.op=.field 3 (.const x) 0)(g:o.dst=none)(l:∃k,(aB T fB).underlying 3=some (.int k))
 (s:ops[j]?=some a) (m:a.dst=some d) (hd:d<n) (hb:H d=.bool b):b = !bad/\Way T fB F Z f R g0 w0 (SL n H rest ops is k fn cs) w:=by
 obtain⟨v,l⟩:=l;have hy:yielded ops (⟨(aP n).map H++rest⟩:Array Value) j=some b:=by
  have:(⟨(aP n).map H++rest⟩:Array Value)[d]?=some (.bool b):=by
   rw[aS,aT (by simpa using hd)];simp[hd,hb]
  have e:((ops[j]?).bind (·.dst)).bind ((⟨(aP n).map H++rest⟩:Array Value)[·]?)=some (.bool b):=by
   rw[s];show(a.dst).bind _=_;rw[m];exact this
  unfold yielded;rw[e]
 obtain⟨y,w1,es,e,q⟩:=h.next fit hc;by_cases r:b=bad
 case neg=>
  have e1:stepG (aB T fB) true (SL n H rest ops (i::is) k fn cs) w=.go (fin (SL n H rest ops (i::is) k fn cs) undef) w #[]:=by
   unfold SL fH;simp[stepG,stepG.exec,c,Region.wanted,hg,hy,fin,r]
  rw[e1]at e;cases e;rw[UR c g]at q;exact⟨by cases b<;>cases bad<;>simp_all,q⟩
 case pos=>
  have t:bF (SL n H rest ops (i::is) k fn cs)=some o:=by
   unfold bF SL;simp[fH,c,Region.wanted,hg,hy,pS,p,r]
  obtain⟨x1,w2,z,u⟩:=Eg (P:=aB T fB) (mn:=true) (w:=w) (h:=.stuck "Field: struct type expected") (w':=w) t (by
   unfold ag
   simp[p,aL,ap l]) trivial
  rw[u]at e;cases e
end
end
end Go.bJ
namespace Go.Proofs
open Go.bJ Go.Conc Go.Ph
set_option maxRecDepth 100000
end Go.Proofs
