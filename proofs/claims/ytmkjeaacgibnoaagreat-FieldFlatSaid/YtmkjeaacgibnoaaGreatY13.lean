/- Part of the proof of FieldFlat and FieldMarshals. -/
import Derived.Test.YtmkjeaacgibnoaaGreatY12
import Derived.Conc.AtomicLaws2
import Derived.Conc.ClockLaws
import Derived.Conc.MarkLaws
import Derived.Conc.MuStops
import Derived.Conc.SmallLaws
import Derived.KernelRfl
import Derived.Test.YtmkjeaacgibnoaaGreatProg
set_option linter.all false
open Go renaming Program->aa,Goroutine->ab,deafBehind->ac,GoStatus->ae,execOp->ag,FuncId->ai,Operand->ao,run_callFunc_extern->ap,TypeId->aq,run_underlying->ar
open Go.Conc renaming touch_mute->aB,events_callFunc_extern->aF,canSpin_eq->aH
open List.cons renaming injEq->aI
open Prod.mk renaming injEq->aJ
open List renaming all_eq_true->aL,push_toArray->aP,nil_append->aT
open Go.stepG renaming apply->a5,oper->a6
open Go.Extern renaming findNext->a7,find->a8
open Go.MemAct renaming ofEvent->a9,mark->ba
open Go.Extern.Race renaming none_->bb,marked->bc,at_->bd
open Go.Extern.Sync renaming canSpin->bg,nothing->bi,none_->bj
open Go.Goroutine renaming status->bl
namespace Go.Ph
open Go.Conc Go.ConcN
open Go.ConcR (stA)
noncomputable def nx(P:aa)(mn:Bool)(g:ab):ab:=match stepG P mn g default with
 |.go g' _ _=>g'
 |_=>g
noncomputable def ex(P:aa)(mn:Bool)(g:ab):Array Event:=match stepG P mn g default with
 |.go _ _ es=>es
 |_=>#[]
noncomputable def adv(P:aa)(mn:Bool):Nat->ab->ab
 |0,g=>g
 |n+1,g=>adv P mn n (nx P mn g)
noncomputable def YL(P:aa)(mn:Bool):Nat->Nat->ab->Nat
 |0,d,_=>d
 |n+1,d,g=>YL P mn n (ac d (ex P mn g)) (nx P mn g)
def mutes(es:Array Event):Bool:=es.toList.all Event.mute
noncomputable def Dz(P:aa)(mn:Bool)(w:World):Nat->ab->List (ae×GStep×Bool)
 |0,_=>[]
 |n+1,g=>(g.status,stepG P mn g w,mutes (ex P mn g))::Dz P mn w n (nx P mn g)
noncomputable def DC(P:aa)(mn:Bool)(w:World):Nat->ab->List (ae×GStep×Bool)
 |0,_=>[]
 |n+1,g=>(.running,.go (nx P mn g) w (ex P mn g),true)::DC P mn w n (nx P mn g)
def uo(P:aa)(mn:Bool)(n:Nat)(g:ab):Prop:=(∀w,Dz P mn w n g=DC P mn w n g)/\(adv P mn n g).status=.running
section
variable {X:Fix}{V:Vw}{q:Bool}{Stop:Stp}{M:Own}{d:Nat}{g g':ab}{w:World}{es:Array Event}
def T9(a:∀e∈es,e.mute=true)(d:Nat)(w:World):Dl X V q M d w w es M (ac d es):=
 ⟨rfl,rfl,.refl _,Nat.le_refl _,λ_ _ _ _ _ _=>rfl,λc h=>⟨c,h,rfl⟩,λ_ _=>rfl,λ_=>rfl,λb=>⟨.inl,λh=>h.resolve_right λx=>by omega⟩,
   λe f=>⟨λx i=>(by rw[aB (a e f)]at i;cases i),λh=>(by have:=a e f;obtain⟨l,x,y⟩:=e;simp only at h;subst h;simp[Event.mute]at this),low_mute (a e f) _⟩,
   λ_ j e h=>.inl (aB (a e (Array.mem_of_getElem? h))),rfl⟩
def ay.mute1(hs:g.status=.running)(h:∀w,stepG X.P (V.g==0) g w=.go g' w es)(b:∀e∈es,e.mute=true)(c:g'.status=.running)(f:ay X V q Stop M (ac d es) g' w):ay X V q Stop M d g w:=
 .step hs λa r=>⟨g',a,es,M,_,h a,T9 b d a,⟨rfl,rfl⟩,c,f.rely r⟩
def ay.quiet{mn:Bool}(c:(V.g==0)=mn):∀(n:Nat){g:ab}{d:Nat},uo X.P mn n g->ay X V q Stop M (YL X.P mn n d g) (adv X.P mn n g) w->ay X V q Stop M d g w
 |0,_,_,_,b=>b
 |n+1,g,d,h,b=>by
  have a:∀w,g.status=.running/\stepG X.P mn g w=.go (nx X.P mn g) w (ex X.P mn g)/\mutes (ex X.P mn g)=true/\Dz X.P mn w n (nx X.P mn g)=DC X.P mn w n (nx X.P mn g):=λw=>by
   have:=h.1 w;simp only[Dz,DC,aI,aJ]at this;exact⟨this.1.1,this.1.2.1,this.1.2.2,this.2⟩
  have f:=ay.quiet c n (g:=nx X.P mn g) (d:=ac d (ex X.P mn g)) ⟨λw=>(a w).2.2.2,h.2⟩ b;have i:(nx X.P mn g).status=.running:=by
   cases n with
   |zero=>exact h.2
   |succ n=>
    have:=(a w).2.2.2;simp only[Dz,DC,aI,aJ]at this;exact this.1.1
  refine .mute1 (a w).1 (λw=>by rw[c];exact(a w).2.1) (λe j=>?_) i f;have:=(a w).2.2.1;simp only[mutes,aL]at this;exact this e (Array.mem_toList_iff.2 j)
end
section
variable (P:aa)(mn:Bool)(S:ab->Bool)
noncomputable def wu:Nat->ab->ab
 |0,g=>g
 |n+1,g=>@Bool.rec (λ_=>ab) (wu n (nx P mn g)) g (S g)
noncomputable def xD:Nat->Nat->ab->Nat
 |0,d,_=>d
 |n+1,d,g=>@Bool.rec (λ_=>Nat) (xD n (ac d (ex P mn g)) (nx P mn g)) d (S g)
noncomputable def vg(w:World):Nat->ab->List (ae×GStep×Bool)
 |0,_=>[]
 |n+1,g=>@Bool.rec (λ_=>List (ae×GStep×Bool)) ((g.status,stepG P mn g w,mutes (ex P mn g))::vg w n (nx P mn g)) [] (S g)
noncomputable def vh(w:World):Nat->ab->List (ae×GStep×Bool)
 |0,_=>[]
 |n+1,g=>@Bool.rec (λ_=>List (ae×GStep×Bool)) ((.running,.go (nx P mn g) w (ex P mn g),true)::vh w n (nx P mn g)) [] (S g)
def ff(n:Nat)(g:ab):Prop:=(∀w,vg P mn S w n g=vh P mn S w n g)/\(wu P mn S n g).status=.running
end
section
variable {X:Fix}{V:Vw}{q:Bool}{Stop:Stp}{M:Own}{g g':ab}{w:World}{S:ab->Bool}
def ay.oO{mn:Bool}(i:(V.g==0)=mn):∀(n:Nat){g:ab}{d:Nat},ff X.P mn S n g->ay X V q Stop M (xD X.P mn S n d g) (wu X.P mn S n g) w->ay X V q Stop M d g w
 |0,_,_,_,a=>a
 |n+1,g,d,h,a=>by
  cases c:S g with
  |true=>simpa only[wu,xD,c]using a
  |false=>
   simp only[wu,xD,c]at a;have f:=h.2;simp only[wu,c]at f;have b:∀w,g.status=.running/\stepG X.P mn g w=.go (nx X.P mn g) w (ex X.P mn g)/\mutes (ex X.P mn g)=true/\vg X.P mn S w n (nx X.P mn g)=vh X.P mn S w n (nx X.P mn g):=λw=>by
    have:=h.1 w;simp only[vg,vh,c,aI,aJ]at this;exact⟨this.1.1,this.1.2.1,this.1.2.2,this.2⟩
   have l:=ay.oO i n (g:=nx X.P mn g) (d:=ac d (ex X.P mn g)) ⟨λw=>(b w).2.2.2,f⟩ a;have m:(nx X.P mn g).status=.running:=by
    cases n with
    |zero=>exact f
    |succ n=>
     have j:=(b w).2.2.2
     cases k:S (nx X.P mn g) with
     |true=>simpa only[wu,k]using f
     |false=>
      simp only[vg,vh,k,aI,aJ]at j;exact j.1.1
   refine .mute1 (b w).1 (λw=>by rw[i];exact(b w).2.1) (λe o=>?_) m l;have:=(b w).2.2.1;simp only[mutes,aL]at this;exact this e (Array.mem_toList_iff.2 o)
end
end Go.Ph
namespace Go.Ph
open Go.Conc Go.ConcN
def pS:Op->Bool
 |.defer _=>false
 |_=>true
def bF(g:ab):Option Oper:=
 if g.status=.running/\g.dying.isNone=true/\g.offers.isNone=true/\(g.frame.kind==CallKind.early)=false then
  match g.frame.mode,g.frame.todo with
  |.run,.inRegion ops (i::_)::_=>match ops[i]? with
   |some o=>if Region.wanted o (yielded ops g.frame.tmps)=true/\pS o.op=true then some o else none
   |none=>none
  |_,_=>none
 else none
def fin(g:ab)(v:Value):ab:={ g with frame:=g.frame.finish v }
section
variable {P:aa}{mn:Bool}{g:ab}{o:Oper}{w w':World}{v:Value}
def gF(h:bF g=some o):∃fn tmps ops i rest k defers kind a cs,g={ frame:=⟨fn,tmps,.inRegion ops (i::rest)::k,defers,.run,kind,a⟩,callers:=cs,status:=.running,dying:=none,offers:=none }/\
 (kind==CallKind.early)=false/\ops[i]?=some o/\Region.wanted o (yielded ops tmps)=true/\pS o.op=true:=by
 obtain⟨⟨fn,tmps,todo,defers,mode,kind,a⟩,cs,status,dying,offers⟩:=g;unfold bF at h;simp only at h
 split at h
 ·rename_i hc;obtain⟨d,j,l,m⟩:=hc;obtain rfl:=d;obtain rfl:=Option.isNone_iff_eq_none.1 j;obtain rfl:=Option.isNone_iff_eq_none.1 l
  split at h
  ·rename_i ops i rest k
   cases b:ops[i]? with
   |none=>rw[b]at h;cases h
   |some n=>
    rw[b]at h;simp only at h
    split at h
    ·rename_i c;cases h;exact⟨fn,tmps,ops,i,rest,k,defers,kind,a,cs,rfl,m,b,c.1,c.2⟩
    ·cases h
  ·cases h
 ·cases h
def lV(h:bF g=some o):stepG P mn g w=a5 P true g.frame g.callers none (ag g.frame.eval o) w:=by
 obtain⟨fn,tmps,ops,i,a,k,defers,kind,b,cs,rfl,q,d,m,j⟩:=gF h;have n:a6 P true ⟨fn,tmps,.inRegion ops (i::a)::k,defers,.run,kind,b⟩ cs none w=a5 P true ⟨fn,tmps,.inRegion ops (i::a)::k,defers,.run,kind,b⟩ cs none (ag (Frame.eval ⟨fn,tmps,.inRegion ops (i::a)::k,defers,.run,kind,b⟩) o) w:=by
  unfold a6;simp only[Frame.oper?,d]
  cases b with
  |none=>rfl
  |some l=>
   cases p:o.op with
   |defer c=>rw[p]at j;cases j
   |_=>rfl
 rw[<-n];simp[stepG,stepG.exec,d,m]
def dF(h:bF g=some o)(b:(ag g.frame.eval o).run P w=.ok (.value v) w'):stepG P mn g w=.go (fin g v) w' (seen P g.frame.fn ((ag g.frame.eval o).events P w #[])):=by
 rw[lV h];obtain⟨fn,tmps,ops,i,a,k,defers,kind,j,cs,rfl,c,l,m,n⟩:=gF h;have d:kind≠.early:=by simpa using c
 simp[a5,b,d,GStep.after,fin]
def Me(h:bF g=some o)(b:(ag g.frame.eval o).run P w=.ok .skip w'):stepG P mn g w=.go (fin g undef) w' (seen P g.frame.fn ((ag g.frame.eval o).events P w #[])):=by
 rw[lV h];obtain⟨fn,tmps,ops,i,a,k,defers,kind,j,cs,rfl,c,l,m,n⟩:=gF h;have d:kind≠.early:=by simpa using c
 simp[a5,b,d,GStep.after,fin]
def BL(h:bF g=some o)(c:(ag g.frame.eval o).run P w=.halt .blocked w):stepG P mn g w=.go { g with status:=.blocked } w #[]:=by
 rw[lV h];obtain⟨fn,tmps,ops,i,a,k,defers,kind,b,cs,rfl,d,l,m,n⟩:=gF h;have p:kind≠.early:=by simpa using d
 have hf:((ag (Frame.eval ⟨fn,tmps,.inRegion ops (i::a)::k,defers,.run,kind,b⟩) o).runT P w #[]).1=.halt .blocked w:=by rw[Sem.runT_fst,c]
 unfold a5;simp only[if_true];generalize(ag (Frame.eval ⟨fn,tmps,.inRegion ops (i::a)::k,defers,.run,kind,b⟩) o).runT P w #[]=j at hf;obtain⟨r,es⟩:=j;simp only at hf;subst hf;simp[GStep.after,seen]
def BM(o:Oper):Option (ai×Array ao):=match o.op with
 |.call { callee:=.value (.func f),args,.. }=>some (f,args)
 |_=>none
def DD{f:ai}{a:Array ao}{ev:ao->Value}(h:BM o=some (f,a))(hf:ev (.func f)=.func (.func f) #[] #[]):ag ev o=callFunc f (a.map ev):=by
 unfold BM at h
 split at h
 ·rename_i b;cases h;unfold ag;simp[b,resolve,Deferred.ofValue,invoke,hf]
 ·cases h
def az(g:ab):Option (ai×Array Value):=match bF g with
 |some o=>match BM o with
  |some (f,a)=>some (f,a.map g.frame.eval)
  |none=>none
 |none=>none
def kL{f:ai}{args:Array Value}(h:az g=some (f,args)):∃o,bF g=some o/\ag g.frame.eval o=callFunc f args:=by
 unfold az at h
 split at h
 ·rename_i o a
  split at h
  ·rename_i c b hc;cases h;exact⟨o,a,DD hc rfl⟩
  ·cases h
 ·cases h
section
variable {f:ai}{fn:Func}{args:Array Value}{e:Array Value->Sem Value}{Ua:Array Event}
def GN(h:az g=some (f,args))(hf:P.funcs[f]?=some fn)(a:(fn.name == "runtime.NumGoroutine")=false)(hb:fn.body.isNone=true)(b:a7 fn=none)(c:a8 fn=some e)
 (d:(e args).run P w=.ok v w') (i:(e args).events P w #[⟨.mark (.extern f),false,true⟩]=#[⟨.mark (.extern f),false,true⟩]++Ua) (hs:∀x∈Ua,x.sync=true/\∀g,x.loc≠.mark (.extern g)):stepG P mn g w=.go (fin g v) w' Ua:=by
 obtain⟨o,j,e1⟩:=kL h;rw[dF (v:=v) (w':=w') j (by rw[e1,ap hf a hb b c,d];rfl),e1,aF hf a hb b c];simp only[aP,aT];rw[i,seen_entry _ _ _ hs]
def ry(h:az g=some (f,args))(hf:P.funcs[f]?=some fn)(a:(fn.name == "runtime.NumGoroutine")=false)(hb:fn.body.isNone=true)(b:a7 fn=none)(c:a8 fn=some e)
 (d:(e args).run P w=.halt .blocked w):stepG P mn g w=.go { g with status:=.blocked } w #[]:=by
 obtain⟨o,i,e1⟩:=kL h;exact BL i (by rw[e1,ap hf a hb b c,d];rfl)
end
end
open Go.ConcM (MuAt muA msA OsLater muBlock)
open Go.ConcR (KK WgAt stA smA rd wr mk)
structure WO(X:Fix):Prop where
 mw:X.Mu≠X.Wg
 mt:X.Mu≠X.Tb
 wt:X.Wg≠X.Tb
structure Clear(X:Fix)(V:Vw)(M:Own):Prop where
 ids:WO X
 st:∀b,V.st b->jm X b
 own:∀b,M b->jm X b
section
variable {X:Fix}{V:Vw}{q:Bool}{Stop:Stp}{M:Own}{d:Nat}{g g':ab}{w w':World}{es:Array Event}{B:Nat}
def eo{a:Addr}{wr:Bool}(c:a.block=X.Mu\/a.block=X.Wg)(h:a.block<B):jG X V M B ⟨.cell a,wr,true⟩:=by
 refine⟨λx b=>?_,by simp,h⟩;have e:(a9 ⟨.cell a,wr,true⟩).touch? = some ⟨.cell a,wr,.atomic⟩:=rfl;rw[e]at b;cases b;exact⟨rfl,.inl ⟨⟨a,rfl,c⟩,by split<;>simp⟩⟩
def lX{e:Event}(h:e.mute=true):jG X V M B e:=
 ⟨λx a=>(by rw[aB h]at a;cases a),λb=>by obtain⟨l,x,y⟩:=e;simp only at b;subst b;simp[Event.mute]at h,low_mute h _⟩
def uq{m:Mark}(b:(ba m).touch? = none)(c:m≠.release (stA X.Wg))(hl:(ba m).low B):jG X V M B (mk m):=
 ⟨λx a=>(by rw[show(a9 (mk m))=.mark m from rfl,b]at a;cases a),λh=>c (by cases h;rfl),hl⟩
def BN(hc:Clear X V M)(a:w'.tape=w.tape)(c:w'.output=w.output)(i:OsLater w.os w'.os)(j:w'.heap.size=w.heap.size)(hb:∀b,b≠X.Mu->b≠X.Wg->w'.heap[b]?=w.heap[b]?)
 (hl:Live X w->Live X w'):Rl X V M w w':=
 ⟨a,c,i,by omega,λb h=>hb b (hc.st b h).1 (hc.st b h).2.1,λb h=>hb b (hc.own b h).1 (hc.own b h).2.1,hl,λo _=>by simp only[World.cell?,hb X.Tb hc.ids.mt.symm hc.ids.wt.symm]⟩
def jI(hc:WO X)(i:w'.tape=w.tape)(k:w'.output=w.output)(l:OsLater w.os w'.os)(s:w'.heap.size=w.heap.size)(hb:∀b,b≠X.Mu->b≠X.Wg->w'.heap[b]?=w.heap[b]?)
 (m:∀e∈es,jG X V M w'.heap.size e)
 (n:q=true->∀j e,es[j]?=some e->(a9 e).touch? = none\/((∃ad wr,e=⟨.cell ad,wr,true⟩)/\0<ac d (es.extract 0 j))):Dl X V q M d w w' es M (ac d es):=by
 have a:=hb X.Tb hc.mt.symm hc.wt.symm
 exact⟨i,k,l,by omega,λb _ _ p r _=>hb b p r,λc h=>⟨c,by rw[a];exact h,rfl⟩,λo _=>by simp only[World.cell?,a],λ_=>a,
  λb=>⟨.inl,λh=>h.resolve_right λx=>by omega⟩,m,n,rfl⟩
def ay.idle(hc:Clear X V M)(hs:g.status=.running)
 (h:∀k,Rl X V M w k->∃g' w' es,stepG X.P (V.g==0) g k=.go g' w' es/\w'.tape=k.tape/\w'.output=k.output/\OsLater k.os w'.os/\w'.heap=k.heap/\(∀e∈es,jG X V M k.heap.size e/\(a9 e).touch? = none)/\
   g'.status=.running/\ay X V q Stop M (ac d es) g' w):ay X V q Stop M d g w:=
 .step hs λk r=>by
  obtain⟨g',w',es,t,m,n,p,i,s,u,x⟩:=h k r;refine⟨g',w',es,M,_,t,jI hc.ids m n p (by rw[i]) (λb _ _=>by rw[i]) (λe l=>by rw[i];exact(s e l).1) (λ_ j e l=>.inl (s e (Array.mem_of_getElem? l)).2),⟨by rw[i],by rw[i]⟩,u,?_⟩;refine x.rely (r.trans (BN hc m n p (by rw[i]) (λb _ _=>by rw[i]) ?_));rintro⟨⟨a,b,k1⟩,⟨y,b',k2⟩,c,k3,z⟩;exact⟨⟨a,b,by unfold MuAt at k1 ⊢;rw[i];exact k1⟩,⟨y,b',by unfold WgAt at k2 ⊢;rw[i];exact k2⟩,c,by rw[i];exact k3,z⟩
end
structure cw(P:aa)(f:ai)(nr:Bool)(e:Array Value->Sem Value):Prop where
 ex:∃fn,P.funcs[f]?=some fn/\(fn.name == "runtime.NumGoroutine")=false/\fn.body.isNone=true/\a7 fn=none/\a8 fn=some e/\fn.norace=nr
section
variable {P:aa}{mn:Bool}{g:ab}{w w':World}{f:ai}{args:Array Value}{nr:Bool}{e:Array Value->Sem Value}{v:Value}{Ua:Array Event}
def cw.step(hb:cw P f nr e)(h:az g=some (f,args))(a:(e args).run P w=.ok v w')(b:(e args).events P w #[⟨.mark (.extern f),false,true⟩]=#[⟨.mark (.extern f),false,true⟩]++Ua)(hs:∀x∈Ua,x.sync=true/\∀g,x.loc≠.mark (.extern g)) :
 stepG P mn g w=.go (fin g v) w' Ua:=by
 obtain⟨fn,c,i,j,k,l,_⟩:=hb.ex;exact GN h c i j k l a b hs
def cw.blocked(hb:cw P f nr e)(h:az g=some (f,args))(a:(e args).run P w=.halt .blocked w):stepG P mn g w=.go { g with status:=.blocked } w #[]:=by
 obtain⟨fn,b,c,i,j,k,_⟩:=hb.ex;exact ry h b c i j k a
def cw.out(hb:cw P f true e)(h:az g=some (f,args))(i:(e args).run P w=.ok v w')(j:(e args).events P w #[⟨.mark (.extern f),false,true⟩]=#[⟨.mark (.extern f),false,true⟩] ++ #[⟨.output,true,false⟩]) :
 stepG P mn g w=.go (fin g v) w' #[]:=by
 obtain⟨fn,hf,a,hb,b,c,k⟩:=hb.ex;obtain⟨o,l,e1⟩:=kL h;rw[dF (v:=v) (w':=w') l (by rw[e1,ap hf a hb b c,i];rfl),e1,aF hf a hb b c];simp only[aP,aT];rw[j,seen_entry_out _ _ (by rw[hf];exact k)]
def aK{o:Oper}(h:bF g=some o):g.status=.running/\g.offers=none/\∀v,(fin g v).status=.running:=by
 obtain⟨fn,tmps,ops,i,a,k,defers,kind,b,cs,rfl,c,j,l,m⟩:=gF h;exact⟨rfl,rfl,λ_=>rfl⟩
def aj(h:az g=some (f,args)):g.status=.running/\g.offers=none/\∀v,(fin g v).status=.running:=by
 obtain⟨o,a,_⟩:=kL h;exact aK a
end
section
variable {X:Fix}{V:Vw}{q:Bool}{Stop:Stp}{M:Own}{d:Nat}{g:ab}{w:World}{f:ai}{nr:Bool}{args:Array Value}{o:Oper}
def ay.Jo(hc:Clear X V M)(b:az g=some (f,args)){m:Mark}(hb:cw X.P f nr (λ_=>do mark m;pure bb))(a:(⟨.mark m,false,true⟩:Event).mute=true)
 (j:ay X V q Stop M (ac d #[⟨.mark m,false,true⟩]) (fin g (.tuple #[])) w):ay X V q Stop M d g w:=
 .idle hc (aj b).1 λk _=>⟨_,k,#[⟨.mark m,false,true⟩],hb.step b (by simp[bb]) (by simp) (by
  intro x c;simp at c;subst c
  exact⟨rfl,λg h=>by cases h;simp[Event.mute]at a⟩),rfl,rfl,.refl _,rfl,(by
  intro e i;simp at i;subst i
  exact⟨lX a,aB a⟩),(aj b).2.2 _,j⟩
def kM{P:aa}{mn:Bool}(i:az g=some (f,args)){mk':Addr->Mark}(hb:cw P f nr (bc mk'))(c:∀a g,mk' a≠.extern g){ad:Addr}(b:args[0]?=some (.pointer (some ad))) :
 stepG P mn g w=.go (fin g (.tuple #[])) w #[mk (mk' ad)]:=
 hb.step i (by simp[bc,bd,b,bb]) (by simp[bc,bd,b,mk]) (by
  intro x b;simp[mk]at b;subst b
  exact⟨rfl,λg h=>c ad g (Loc.mark.inj h)⟩)
def ay.Pe(hc:Clear X V M)(c:az g=some (f,args)){mk':Addr->Mark}(hb:cw X.P f nr (bc mk'))(h:∀a g,mk' a≠.extern g){ad:Addr}(j:args[0]?=some (.pointer (some ad)))
 (k:∀b,Rl X V M w b->jG X V M b.heap.size (mk (mk' ad))/\(a9 (mk (mk' ad))).touch? = none) (hd:∀d,ac d #[mk (mk' ad)]=d)
 (l:ay X V q Stop M d (fin g (.tuple #[])) w):ay X V q Stop M d g w:=
 .idle hc (aj c).1 λb r=>⟨_,b,#[mk (mk' ad)],kM c hb h j,rfl,rfl,.refl _,rfl,(by
  intro e i;simp at i;subst i
  exact k b r),(aj c).2.2 _,by rw[hd];exact l⟩
def ay.nano(hc:Clear X V M)(b:az g=some (f,args))(hb:cw X.P f true Extern.OsHooks.nano)(c:∀n:Nat,ay X V q Stop M d (fin g (.int .i64 (n:Int))) w):ay X V q Stop M d g w:=
 .idle hc (aj b).1 λa _=>⟨_,a.later,#[],hb.out (v:=.int .i64 ((a.os.mono+a.tick:Nat):Int)) b rfl rfl,rfl,rfl,⟨a.tick,rfl⟩,rfl,by simp,(aj b).2.2 _,c _⟩
def ay.canSpin(hc:Clear X V M){k:IntKind}{n:Int}(a:az g=some (f,#[.int k n]))(hb:cw X.P f nr bg)(i:∀b:Bool,(b=true->n<4)->ay X V q Stop M d (fin g (.bool b)) w):ay X V q Stop M d g w:=
 .idle hc (aj a).1 λh _=>by
  by_cases c:n>=4
  ·exact⟨_,h,#[],hb.step (v:=.bool false) a (by rw[aH,if_pos c];rfl) (by rw[aH,if_pos c];rfl) (by simp),rfl,rfl,.refl _,rfl,by simp,(aj a).2.2 _,i _ (by simp)⟩
  ·exact⟨_,h.asked,#[],hb.step (v:=.bool h.spins) a (by rw[aH,if_neg c];rfl) (by rw[aH,if_neg c];rfl) (by simp),rfl,rfl,.refl _,rfl,by simp,(aj a).2.2 _,i _ (λ_=>by omega)⟩
def ay.nothing(hc:Clear X V M)(a:az g=some (f,args))(hb:cw X.P f nr bi)(b:ay X V q Stop M d (fin g (.tuple #[])) w):ay X V q Stop M d g w:=
 .idle hc (aj a).1 λc _=>⟨_,c,#[],hb.step (v:=.tuple #[]) a (by simp[bi,bj]) (by simp[bi]) (by simp),rfl,rfl,.refl _,rfl,by simp,(aj a).2.2 _,b⟩
def ay.conv(hc:Clear X V M)(c:bF g=some o){src dst t:aq}{x:ao}(j:o.op=.convert src dst x){a:Addr}(k:g.frame.eval x=.pointer (some a))
 (hs:X.P.underlying src=some (.pointer t)) (hd:X.P.underlying dst=some .unsafePointer) (h:(X.P.info? t).map (λi=>decide (i.size=0))=some false)
 (hl:∀b,Rl X V M w b->∃v,b.cell? a=some v) (l:ay X V q Stop M d (fin g (.pointer (some a))) w):ay X V q Stop M d g w:=
 .idle hc (aK c).1 λb r=>by
  obtain⟨v,hv⟩:=hl b r;have e1:ag g.frame.eval o=(do let y<-convert src dst (.pointer (some a));pure (.value y)):=by
   unfold ag;simp only[j,k]
   try rfl
  have m:=run_convert_to_unsafe hs hd h hv;have n:=events_convert_to_unsafe hs hd h hv #[];refine⟨_,b,#[],?_,rfl,rfl,.refl _,rfl,by simp,(aK c).2.2 _,l⟩;rw[dF (v:=.pointer (some a)) (w':=b) c (by rw[e1];simp[m]),e1];simp[n,seen_none]
def xG{P:aa}{mn:Bool}(h:bF g=some o){t:aq}{x:ao}(a:o.op=.load t x){ad:Addr}(b:g.frame.eval x=.pointer (some ad)){k:IntKind}{v:Int}(c:P.underlying t=some (.int k))(hc:w.cell? ad=some (.int k v))(i:(P.funcs[g.frame.fn]?).any (·.norace)=true) :
 stepG P mn g w=.go (fin g (.int k v)) w #[]:=by
 have j:(ag g.frame.eval o).run P w=.ok (.value (.int k v)) w:=by
  unfold ag;simp only[a,b];simp[go_sem,hc,isAgg,ar c]
 have l:(ag g.frame.eval o).events P w #[]=#[⟨.cell ad,false,false⟩]:=by
  unfold ag;simp only[a,b];simp[go_sem,hc,isAgg,ar c]
 rw[dF h j,l,seen_def,i];simp[seenStep]
def ay.ad2(hc:Clear X V M)(b:bF g=some o){t:aq}{x:ao}(c:o.op=.load t x){ad:Addr}(h:g.frame.eval x=.pointer (some ad)){k:IntKind}(i:X.P.underlying t=some (.int k))(j:(X.P.funcs[g.frame.fn]?).any (·.norace)=true)
 (hl:∀a,Rl X V M w a->∃v,a.cell? ad=some (.int k v)) (l:∀v,ay X V q Stop M d (fin g (.int k v)) w):ay X V q Stop M d g w:=
 .idle hc (aK b).1 λa r=>by
  obtain⟨v,hv⟩:=hl a r;exact⟨_,a,#[],xG b c h i hv j,rfl,rfl,.refl _,rfl,by simp,(aK b).2.2 _,l v⟩
end
end Go.Ph
namespace Go.Proofs
open Go.Ph Go.Conc
open Go.cD (Wd Th qZ)
set_option maxRecDepth 100000
noncomputable abbrev PP:=Tryz.prog
def bare:List Nat:=[160,161,162,163,164,165,168,171,172,175,176,178,179,182,183,184,185,186,188,190,192,193,194,195,196,197,198]
def eJ(g:ab):Bool:=match g.frame.mode with
 |.returning=>(g.frame.fn==139||g.frame.fn==140)&&g.frame.defers.isEmpty
 |.run=>match g.frame.todo with
  |.code (.region 5 _ _)::_=>g.frame.fn==187
  |.inRegion _ (_::_)::_=>match bF g with
   |some o=>match o.op with
    |.load .. | .store ..=>true
    |.convert _ d _=>d==216
    |.call { callee:=.value (.func f),.. }=>bare.contains f
    |_=>false
   |none=>false
  |_=>false
 |_=>false
noncomputable abbrev TT(g:ab):ab:=wu PP false eJ 300 g
def fj(g:ab):Option (aq×Value):=match bF g with
 |some o=>match o.op with
  |.load t x=>some (t,g.frame.eval x)
  |_=>none
 |none=>none
def gu(g:ab):Option (aq×aq×Value):=match bF g with
 |some o=>match o.op with
  |.convert s d x=>some (s,d,g.frame.eval x)
  |_=>none
 |none=>none
def gZ(g:ab):Option (ai×Option Value):=(az g).map λx=>(x.1,x.2[0]?)
structure gm(g g':ab):Prop where
 q:ff PP false eJ 300 g
 d:∀d,xD PP false eJ 300 d g=d
 e:TT g=g'
structure YQ(g g':ab):Prop where
 q:uo PP false 1 g
 d:∀d,YL PP false 1 d g=d
 h:gm (nx PP false g) g'
section
variable {X:Fix}{V:Vw}{q:Bool}{Stop:Stp}{M:Own}{d:Nat}{g g':ab}{w:World}
def gm.run(h:gm g g')(a:X.P=PP)(hg:(V.g==0)=false)(b:ay X V q Stop M d g' w):ay X V q Stop M d g w:=by
 refine .oO (S:=eJ) hg 300 (by rw[a];exact h.q) ?_;have e:wu PP false eJ 300 g=g':=h.e;rw[a,h.d,e];exact b
def YQ.run(h:YQ g g')(a:X.P=PP)(hg:(V.g==0)=false)(b:ay X V q Stop M d g' w):ay X V q Stop M d g w:=by
 refine .quiet hg 1 (by rw[a];exact h.q) ?_;rw[a,h.d];exact h.h.run a hg b
end
def zj(n:Nat)(F:Nat->Value):Array Value:=((List.range n).map F).toArray
def Jr{n:Nat}{a:Array Value}{F:Nat->Value}(hs:a.size=n)(h:∀i,i<n->F i=a[i]!):a=zj n F:=by
 apply Array.ext
 ·simp[zj,hs]
 ·intro i b c;simp only[zj,List.getElem_toArray,List.getElem_map,List.getElem_range];rw[h i (by omega)];simp[b]
noncomputable abbrev pt(m:Nat):Value:=.pointer (some ⟨m,0,none⟩)
def F7(m:Nat)(f:Nat->Value)(st:Value)(sv aw:Bool)(it old:Value):Nat->Value
 |0=>.pointer (some ⟨m,0,none⟩)
 |2=>st
 |3=>.bool sv
 |4=>.bool aw
 |5=>it
 |6=>old
 |i=>f i
noncomputable def A7(m:Nat)(f:Nat->Value)(st:Value)(sv aw:Bool)(it old:Value):Array Value:=zj 139 (F7 m f st sv aw it old)
noncomputable def S7(a:Array Value)(td:List Item)(up:List Frame):ab:=G { fn:=187,tmps:=a,todo:=td,defers:=[],mode:=.run,kind:=.normal,roundOf:=none } up
section
variable {g:ab}{m:Nat}{st it old:Value}{sv aw:Bool}{td:List Item}{up:List Frame}
def WS{a:Array Value}(hs:a.size=139)(b:a[0]! = .pointer (some ⟨m,0,none⟩))(c:a[2]! = st)(f:a[3]! = .bool sv)(h:a[4]! = .bool aw)(j:a[5]! = it)(k:a[6]! = old):a=A7 m (λi=>a[i]!) st sv aw it old:=
 Jr hs λi _=>by
  unfold F7
  split<;>first|(rename_i e;subst e;simp only[b,c,f,h,j,k])|simp only[b,c,f,h,j,k]
def gK{a:Type}{b:ab->a}{v:a}(f:ff PP false eJ 300 g:=by exact⟨λ_=>by kernel_rfl,by kernel_rfl⟩)(hd:∀d,xD PP false eJ 300 d g=d:=by intro _;kernel_rfl)(h:TT g=S7 (TT g).frame.tmps td up:=by kernel_rfl)(hs:(TT g).frame.tmps.size=139:=by kernel_rfl)
 (j:(TT g).frame.tmps[0]! = .pointer (some ⟨m,0,none⟩):=by kernel_rfl) (k:(TT g).frame.tmps[2]! = st:=by kernel_rfl) (l:(TT g).frame.tmps[3]! = .bool sv:=by kernel_rfl) (n:(TT g).frame.tmps[4]! = .bool aw:=by kernel_rfl) (o:(TT g).frame.tmps[5]! = it:=by kernel_rfl) (p:(TT g).frame.tmps[6]! = old:=by kernel_rfl)
 (r:b (TT g)=v:=by kernel_rfl):∃f',gm g (S7 (A7 m f' st sv aw it old) td up)/\b (S7 (A7 m f' st sv aw it old) td up)=v:=by
 have e:=WS hs j k l n o p;have c:TT g=S7 (A7 m (λi=>(TT g).frame.tmps[i]!) st sv aw it old) td up:=by rw[<-e];exact h
 exact⟨_,⟨f,hd,c⟩,by rw[<-c];exact r⟩
end
def px(j:Nat)(v:Value)(f:Nat->Value):Nat->Value:=λi=>if i=j then v else f i
def Pp{g:ab}{m:Nat}{st it old:Value}{sv aw:Bool}{td:List Item}{up:List Frame}{a:Type}{b:ab->a}{v:a}{j:Nat}{x:Value}(f:ff PP false eJ 300 g:=by exact⟨λ_=>by kernel_rfl,by kernel_rfl⟩)(hd:∀d,xD PP false eJ 300 d g=d:=by intro _;kernel_rfl)(h:TT g=S7 (TT g).frame.tmps td up:=by kernel_rfl)(hs:(TT g).frame.tmps.size=139:=by kernel_rfl)
 (k:(TT g).frame.tmps[0]! = .pointer (some ⟨m,0,none⟩):=by kernel_rfl) (l:(TT g).frame.tmps[2]! = st:=by kernel_rfl) (n:(TT g).frame.tmps[3]! = .bool sv:=by kernel_rfl) (o:(TT g).frame.tmps[4]! = .bool aw:=by kernel_rfl) (p:(TT g).frame.tmps[5]! = it:=by kernel_rfl) (r:(TT g).frame.tmps[6]! = old:=by kernel_rfl)
 (s:b (TT g)=v:=by kernel_rfl) (t:(TT g).frame.tmps[j]! = x:=by kernel_rfl):∃f',gm g (S7 (A7 m (px j x f') st sv aw it old) td up)/\b (S7 (A7 m (px j x f') st sv aw it old) td up)=v:=by
 have e:=WS hs k l n o p r;have u:(λi=>(TT g).frame.tmps[i]!)=px j x (λi=>(TT g).frame.tmps[i]!):=by
  funext i;unfold px
  split
  ·rename_i e;subst e;exact t
  ·rfl
 rw[u]at e;have c:TT g=S7 (A7 m (px j x (λi=>(TT g).frame.tmps[i]!)) st sv aw it old) td up:=by rw[<-e];exact h
 exact⟨_,⟨f,hd,c⟩,by rw[<-c];exact s⟩
noncomputable def z0:ab:=TT (G (Frame.enter PP 139 #[pt 0] .normal) [default])
noncomputable def z1:ab:=TT (fin z0 (.tuple #[]))
noncomputable def zr0:ab:=TT (fin z1 (.bool false))
noncomputable def CE:ab:=TT (fin zr0 (.int .i32 9))
noncomputable def Ud:ab:=TT (nx PP false CE)
noncomputable def zc1:ab:=TT (fin Ud (.bool true))
noncomputable def FC:ab:=TT (fin zc1 (.bool false))
noncomputable def zr1:ab:=TT (fin FC (.tuple #[]))
noncomputable def xI:ab:=TT (fin Ud (.bool false))
noncomputable def zr3:ab:=TT (fin xI (.bool false))
noncomputable def Te:ab:=TT (fin xI (.bool true))
noncomputable def FD:ab:=TT (fin Te (.int .i64 5))
noncomputable def zn2:ab:=TT (fin FD (.tuple #[]))
noncomputable def WT:ab:=TT (fin zn2 (.int .i64 5))
noncomputable def za1:ab:=TT (fin WT (.int .i32 12))
noncomputable def WU:ab:=TT (fin za1 (.int .i32 5))
noncomputable def zcv:ab:=TT (fin WU (.tuple #[]))
noncomputable def zaq:ab:=TT (fin zcv (pt 0))
variable (m:Nat)(f:Nat->Value)(up:List Frame)
def ail(st it old v:Value)(a b:Bool):∃f',gm (fin (S7 (A7 m f st a b it old) zr0.frame.todo up) v) (S7 (A7 m f' st a b it v) CE.frame.todo up)/\bl (S7 (A7 m f' st a b it v) CE.frame.todo up)=.running:=
 gK
def aim(st it old v:Value)(a b:Bool):∃f',gm (fin (S7 (A7 m f st a b it old) zr1.frame.todo up) v) (S7 (A7 m f' st a b it v) CE.frame.todo up)/\bl (S7 (A7 m f' st a b it v) CE.frame.todo up)=.running:=
 gK
def ain(st it old v:Value)(a b:Bool):∃f',gm (fin (S7 (A7 m f st a b it old) zr3.frame.todo up) v) (S7 (A7 m f' st a b it v) CE.frame.todo up)/\bl (S7 (A7 m f' st a b it v) CE.frame.todo up)=.running:=
 gK
def ada(st it old:Value)(a b:Bool):uo PP false 1 (S7 (A7 m f st a b it old) CE.frame.todo up)/\∀d,YL PP false 1 d (S7 (A7 m f st a b it old) CE.frame.todo up)=d:=⟨⟨λw=>by kernel_rfl,by kernel_rfl⟩,λd=>by kernel_rfl⟩
noncomputable abbrev wv(x:Wd):Value:=.int .i32 ((x.num:Nat):Int)
def YS(st it:Value)(a b w:Bool)(k:Nat)(c:k<=3):∃f',gm (nx PP false (S7 (A7 m f st a b it (wv ⟨true,w,false,k⟩)) CE.frame.todo up)) (S7 (A7 m (px 17 (.bool true) f') st a b it (wv ⟨true,w,false,k⟩)) Ud.frame.todo up)/\az (S7 (A7 m (px 17 (.bool true) f') st a b it (wv ⟨true,w,false,k⟩)) Ud.frame.todo up)=some (192,#[it]):=by
 cases w<;>((obtain rfl|rfl|rfl|rfl:k=0\/k=1\/k=2\/k=3:=by omega))<;>exact Pp
def Ue(st it:Value)(b a w:Bool)(k:Nat)(d:k<=3)(c:a=true->w=true):∃f',gm (nx PP false (S7 (A7 m f st b a it (wv ⟨false,w,false,k⟩)) CE.frame.todo up)) (S7 (A7 m f' st b a it (wv ⟨false,w,false,k⟩)) xI.frame.todo up)/\az (S7 (A7 m f' st b a it (wv ⟨false,w,false,k⟩)) xI.frame.todo up)=some (186,#[pt m,wv ⟨false,w,false,k⟩,wv (qZ { pc:=.c2,old:=⟨false,w,false,k⟩,aw:=a,sv:=b,r:=0 })]):=by
 cases b<;>cases a<;>cases w<;>(first|exact absurd (c rfl) (by decide)|skip)<;>((obtain rfl|rfl|rfl|rfl:k=0\/k=1\/k=2\/k=3:=by omega))<;>exact gK
def Uf(st it:Value)(b a w:Bool)(k:Nat)(d:k<=3)(c:a=true->w=true):∃f',gm (nx PP false (S7 (A7 m f st b a it (wv ⟨false,w,true,k⟩)) CE.frame.todo up)) (S7 (A7 m f' st b a it (wv ⟨false,w,true,k⟩)) xI.frame.todo up)/\az (S7 (A7 m f' st b a it (wv ⟨false,w,true,k⟩)) xI.frame.todo up)=some (186,#[pt m,wv ⟨false,w,true,k⟩,wv (qZ { pc:=.c2,old:=⟨false,w,true,k⟩,aw:=a,sv:=b,r:=0 })]):=by
 cases b<;>cases a<;>cases w<;>(first|exact absurd (c rfl) (by decide)|skip)<;>((obtain rfl|rfl|rfl|rfl:k=0\/k=1\/k=2\/k=3:=by omega))<;>exact gK
def Ug(st it:Value)(b a w:Bool)(k:Nat)(d:k<=3)(c:a=true->w=true):∃f',gm (nx PP false (S7 (A7 m f st b a it (wv ⟨true,w,true,k⟩)) CE.frame.todo up)) (S7 (A7 m f' st b a it (wv ⟨true,w,true,k⟩)) xI.frame.todo up)/\az (S7 (A7 m f' st b a it (wv ⟨true,w,true,k⟩)) xI.frame.todo up)=some (186,#[pt m,wv ⟨true,w,true,k⟩,wv (qZ { pc:=.c2,old:=⟨true,w,true,k⟩,aw:=a,sv:=b,r:=0 })]):=by
 cases b<;>cases a<;>cases w<;>(first|exact absurd (c rfl) (by decide)|skip)<;>((obtain rfl|rfl|rfl|rfl:k=0\/k=1\/k=2\/k=3:=by omega))<;>exact gK
def Uh(st it:Value)(b a w:Bool)(k:Nat)(d:k<=3)(c:a=true->w=true):∃f',gm (fin (S7 (A7 m (px 17 (.bool true) f) st b a it (wv ⟨true,w,false,k⟩)) Ud.frame.todo up) (.bool false)) (S7 (A7 m f' st b a it (wv ⟨true,w,false,k⟩)) xI.frame.todo up)/\az (S7 (A7 m f' st b a it (wv ⟨true,w,false,k⟩)) xI.frame.todo up)=some (186,#[pt m,wv ⟨true,w,false,k⟩,wv (qZ { pc:=.c2,old:=⟨true,w,false,k⟩,aw:=a,sv:=b,r:=0 })]):=by
 cases b<;>cases a<;>cases w<;>(first|exact absurd (c rfl) (by decide)|skip)<;>((obtain rfl|rfl|rfl|rfl:k=0\/k=1\/k=2\/k=3:=by omega))<;>exact gK
def aio(st it:Value)(a:Bool)(k:Nat)(b:k<=3)(c:k≠0):∃f',gm (fin (S7 (A7 m (px 17 (.bool true) f) st a false it (wv ⟨true,false,false,k⟩)) Ud.frame.todo up) (.bool true)) (S7 (A7 m (px 33 (.bool true) f') st a false it (wv ⟨true,false,false,k⟩)) zc1.frame.todo up)/\az (S7 (A7 m (px 33 (.bool true) f') st a false it (wv ⟨true,false,false,k⟩)) zc1.frame.todo up)=some (186,#[pt m,wv ⟨true,false,false,k⟩,wv ⟨true,true,false,k⟩]):=by
 (obtain rfl|rfl|rfl:k=1\/k=2\/k=3:=by omega)<;>exact Pp
def YT(st it:Value)(a w:Bool)(k:Nat)(b:k<=3):∃f',gm (fin (S7 (A7 m (px 17 (.bool true) f) st a true it (wv ⟨true,w,false,k⟩)) Ud.frame.todo up) (.bool true)) (S7 (A7 m f' st a true it (wv ⟨true,w,false,k⟩)) FC.frame.todo up)/\az (S7 (A7 m f' st a true it (wv ⟨true,w,false,k⟩)) FC.frame.todo up)=some (193,#[]):=by
 cases w<;>((obtain rfl|rfl|rfl|rfl:k=0\/k=1\/k=2\/k=3:=by omega))<;>exact gK
def YU(st it:Value)(a:Bool)(k:Nat)(b:k<=3):∃f',gm (fin (S7 (A7 m (px 17 (.bool true) f) st a false it (wv ⟨true,true,false,k⟩)) Ud.frame.todo up) (.bool true)) (S7 (A7 m f' st a false it (wv ⟨true,true,false,k⟩)) FC.frame.todo up)/\az (S7 (A7 m f' st a false it (wv ⟨true,true,false,k⟩)) FC.frame.todo up)=some (193,#[]):=by
 ((obtain rfl|rfl|rfl|rfl:k=0\/k=1\/k=2\/k=3:=by omega))<;>exact gK
def YV(st it:Value)(a:Bool):∃f',gm (fin (S7 (A7 m (px 17 (.bool true) f) st a false it (wv ⟨true,false,false,0⟩)) Ud.frame.todo up) (.bool true)) (S7 (A7 m f' st a false it (wv ⟨true,false,false,0⟩)) FC.frame.todo up)/\az (S7 (A7 m f' st a false it (wv ⟨true,false,false,0⟩)) FC.frame.todo up)=some (193,#[]):=
 gK
def adb(st it old:Value)(a b:Bool):∃f',gm (fin (S7 (A7 m (px 33 (.bool true) f) st a b it old) zc1.frame.todo up) (.bool true)) (S7 (A7 m f' st a true it old) FC.frame.todo up)/\az (S7 (A7 m f' st a true it old) FC.frame.todo up)=some (193,#[]):=
 gK
def ade(st it old:Value)(a b:Bool):∃f',gm (fin (S7 (A7 m (px 33 (.bool true) f) st a b it old) zc1.frame.todo up) (.bool false)) (S7 (A7 m f' st a b it old) FC.frame.todo up)/\az (S7 (A7 m f' st a b it old) FC.frame.todo up)=some (193,#[]):=
 gK
def adf(st old:Value)(it:Int)(a b:Bool):∃f',gm (fin (S7 (A7 m f st a b (.int .i64 it) old) FC.frame.todo up) (.tuple #[])) (S7 (A7 m f' st a b (.int .i64 (IntKind.i64.wrap (it+1))) old) zr1.frame.todo up)/\fj (S7 (A7 m f' st a b (.int .i64 (IntKind.i64.wrap (it+1))) old) zr1.frame.todo up)=some (21,pt m):=
 gK
def adg(st it old:Value)(a b:Bool):∃f',gm (fin (S7 (A7 m f st a b it old) xI.frame.todo up) (.bool false)) (S7 (A7 m f' st a b it old) zr3.frame.todo up)/\fj (S7 (A7 m f' st a b it old) zr3.frame.todo up)=some (21,pt m):=
 gK
def G6(st it:Value)(a b w:Bool)(k:Nat)(c:k<=3):∃f',gm (fin (S7 (A7 m f st a b it (wv ⟨false,w,false,k⟩)) xI.frame.todo up) (.bool true)) (S7 (A7 m f' st a b it (wv ⟨false,w,false,k⟩)) WU.frame.todo up)/\az (S7 (A7 m f' st a b it (wv ⟨false,w,false,k⟩)) WU.frame.todo up)=some (162,#[]):=by
 cases w<;>((obtain rfl|rfl|rfl|rfl:k=0\/k=1\/k=2\/k=3:=by omega))<;>exact gK
def Mp(it:Value)(a b w:Bool)(k:Nat)(c:k<=3):∃f',gm (fin (S7 (A7 m f (.int .i64 0) a b it (wv ⟨false,w,true,k⟩)) xI.frame.todo up) (.bool true)) (S7 (A7 m f' (.int .i64 0) a b it (wv ⟨false,w,true,k⟩)) Te.frame.todo up)/\az (S7 (A7 m f' (.int .i64 0) a b it (wv ⟨false,w,true,k⟩)) Te.frame.todo up)=some (195,#[]):=by
 cases w<;>((obtain rfl|rfl|rfl|rfl:k=0\/k=1\/k=2\/k=3:=by omega))<;>exact gK
def Mq(t:Nat)(it:Value)(a b w:Bool)(k:Nat)(c:k<=3):∃f',gm (fin (S7 (A7 m f (.int .i64 ((t+1:Nat):Int)) a b it (wv ⟨false,w,true,k⟩)) xI.frame.todo up) (.bool true)) (S7 (A7 m f' (.int .i64 ((t+1:Nat):Int)) a b it (wv ⟨false,w,true,k⟩)) FD.frame.todo up)/\gZ (S7 (A7 m f' (.int .i64 ((t+1:Nat):Int)) a b it (wv ⟨false,w,true,k⟩)) FD.frame.todo up)=some (196,some (.pointer (some ⟨m,1,none⟩))):=by
 cases w<;>((obtain rfl|rfl|rfl|rfl:k=0\/k=1\/k=2\/k=3:=by omega))<;>exact gK
def Mr(it:Value)(a b w:Bool)(k:Nat)(c:k<=3):∃f',gm (fin (S7 (A7 m f (.int .i64 0) a b it (wv ⟨true,w,true,k⟩)) xI.frame.todo up) (.bool true)) (S7 (A7 m f' (.int .i64 0) a b it (wv ⟨true,w,true,k⟩)) Te.frame.todo up)/\az (S7 (A7 m f' (.int .i64 0) a b it (wv ⟨true,w,true,k⟩)) Te.frame.todo up)=some (195,#[]):=by
 cases w<;>((obtain rfl|rfl|rfl|rfl:k=0\/k=1\/k=2\/k=3:=by omega))<;>exact gK
def Ms(t:Nat)(it:Value)(a b w:Bool)(k:Nat)(c:k<=3):∃f',gm (fin (S7 (A7 m f (.int .i64 ((t+1:Nat):Int)) a b it (wv ⟨true,w,true,k⟩)) xI.frame.todo up) (.bool true)) (S7 (A7 m f' (.int .i64 ((t+1:Nat):Int)) a b it (wv ⟨true,w,true,k⟩)) FD.frame.todo up)/\gZ (S7 (A7 m f' (.int .i64 ((t+1:Nat):Int)) a b it (wv ⟨true,w,true,k⟩)) FD.frame.todo up)=some (196,some (.pointer (some ⟨m,1,none⟩))):=by
 cases w<;>((obtain rfl|rfl|rfl|rfl:k=0\/k=1\/k=2\/k=3:=by omega))<;>exact gK
def Mt(it:Value)(a b w:Bool)(k:Nat)(c:k<=3):∃f',gm (fin (S7 (A7 m f (.int .i64 0) a b it (wv ⟨true,w,false,k⟩)) xI.frame.todo up) (.bool true)) (S7 (A7 m f' (.int .i64 0) a b it (wv ⟨true,w,false,k⟩)) Te.frame.todo up)/\az (S7 (A7 m f' (.int .i64 0) a b it (wv ⟨true,w,false,k⟩)) Te.frame.todo up)=some (195,#[]):=by
 cases w<;>((obtain rfl|rfl|rfl|rfl:k=0\/k=1\/k=2\/k=3:=by omega))<;>exact gK
def Mw(t:Nat)(it:Value)(a b w:Bool)(k:Nat)(c:k<=3):∃f',gm (fin (S7 (A7 m f (.int .i64 ((t+1:Nat):Int)) a b it (wv ⟨true,w,false,k⟩)) xI.frame.todo up) (.bool true)) (S7 (A7 m f' (.int .i64 ((t+1:Nat):Int)) a b it (wv ⟨true,w,false,k⟩)) FD.frame.todo up)/\gZ (S7 (A7 m f' (.int .i64 ((t+1:Nat):Int)) a b it (wv ⟨true,w,false,k⟩)) FD.frame.todo up)=some (196,some (.pointer (some ⟨m,1,none⟩))):=by
 cases w<;>((obtain rfl|rfl|rfl|rfl:k=0\/k=1\/k=2\/k=3:=by omega))<;>exact gK
def aip(st it old v:Value)(a b:Bool):∃f',gm (fin (S7 (A7 m f st a b it old) Te.frame.todo up) v) (S7 (A7 m f' v a b it old) FD.frame.todo up)/\gZ (S7 (A7 m f' v a b it old) FD.frame.todo up)=some (196,some (.pointer (some ⟨m,1,none⟩))):=
 gK
def adh(st it old:Value)(a:Bool):∃f',gm (fin (S7 (A7 m f st true a it old) FD.frame.todo up) (.tuple #[])) (S7 (A7 m f' st true a it old) WT.frame.todo up)/\fj (S7 (A7 m f' st true a it old) WT.frame.todo up)=some (21,pt m):=
 gK
def adi(st it old:Value)(a:Bool):∃f',gm (fin (S7 (A7 m f st false a it old) FD.frame.todo up) (.tuple #[])) (S7 (A7 m (px 95 (.bool false) f') st false a it old) zn2.frame.todo up)/\az (S7 (A7 m (px 95 (.bool false) f') st false a it old) zn2.frame.todo up)=some (195,#[]):=
 Pp
def aiq(it old:Value)(st v:Int)(a:Bool):∃f',gm (fin (S7 (A7 m (px 95 (.bool false) f) (.int .i64 st) false a it old) zn2.frame.todo up) (.int .i64 v)) (S7 (A7 m f' (.int .i64 st) (decide (IntKind.i64.wrap (v-st) > 1000000)) a it old) WT.frame.todo up)/\fj (S7 (A7 m f' (.int .i64 st) (decide (IntKind.i64.wrap (v-st) > 1000000)) a it old) WT.frame.todo up)=some (21,pt m):=
 gK
def adj(st it old:Value)(a b l w:Bool)(k:Nat)(c:k<=3):∃f',gm (fin (S7 (A7 m f st a b it old) WT.frame.todo up) (wv ⟨l,w,false,k⟩)) (S7 (A7 m f' st a true (.int .i64 0) (wv ⟨l,w,false,k⟩)) CE.frame.todo up)/\bl (S7 (A7 m f' st a true (.int .i64 0) (wv ⟨l,w,false,k⟩)) CE.frame.todo up)=.running:=by
 cases l<;>cases w<;>((obtain rfl|rfl|rfl|rfl:k=0\/k=1\/k=2\/k=3:=by omega))<;>exact gK
def adk(st it old:Value)(a b:Bool)(k:Nat)(c:k<=3)(d:k≠0):∃f',gm (fin (S7 (A7 m f st a b it old) WT.frame.todo up) (wv ⟨false,false,true,k⟩)) (S7 (A7 m f' st a b it (wv ⟨false,false,true,k⟩)) za1.frame.todo up)/\az (S7 (A7 m f' st a b it (wv ⟨false,false,true,k⟩)) za1.frame.todo up)=some (188,#[pt m,.int .i32 (if(!a||k==1) then -11 else -7)]):=by
 cases a<;>(obtain rfl|rfl|rfl:k=1\/k=2\/k=3:=by omega)<;>exact gK
def air(st it old v:Value)(a b:Bool):∃f',gm (fin (S7 (A7 m f st a b it old) za1.frame.todo up) v) (S7 (A7 m f' st a b it old) WU.frame.todo up)/\az (S7 (A7 m f' st a b it old) WU.frame.todo up)=some (162,#[]):=
 gK
def ais(st it old:Value)(a b:Bool):∃f',gm (fin (S7 (A7 m f st a b it old) WU.frame.todo up) (.tuple #[])) (S7 (A7 m f' st a b it old) zcv.frame.todo up)/\gu (S7 (A7 m f' st a b it old) zcv.frame.todo up)=some (237,216,pt m):=
 gK
def ait(st it old:Value)(a b:Bool):∃f',gm (fin (S7 (A7 m f st a b it old) zcv.frame.todo up) (pt m)) (S7 (A7 m f' st a b it old) zaq.frame.todo up)/\az (S7 (A7 m f' st a b it old) zaq.frame.todo up)=some (175,#[pt m]):=
 gK
end Go.Proofs
