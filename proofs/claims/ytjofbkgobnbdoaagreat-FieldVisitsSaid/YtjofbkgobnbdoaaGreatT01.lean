/- Part of the proof of FieldVisits. -/
import Derived.Test.YtjofbkgobnbdoaaGreatT00
import Derived.Calls
import Derived.Conc.Beside
import Derived.Conc.FxBegin
import Derived.Conc.HoldsTime
import Derived.KernelRfl
import Derived.Test.YtjofbkgobnbdoaaGreatProg
set_option linter.all false
open Go renaming Result->aa,Tables->ab,FuncId->ac,Program->ad,TypeId->ae,setObj->ag,Goroutine->ai,doReturn->ao,unwind->ap,Question->aq,results->ar
open Nat renaming le_refl->aw,sub_self->aB,le_trans->aH,lt_or_ge->aI,succ_pos->aL,eq_zero_or_pos->aS,lt_of_lt_of_le->a5,lt_irrefl->a6
open Go.Sem renaming run->a7,choose->a8,run_bind'->a9,runT_fst->ba
open Bool renaming false_eq_true->bb,and_eq_true->bc,not_true->bd
open Go.World renaming freeze->bg,re->bi
open Array renaming toList_modify->bj,toList_push->bm,getElem?_eq_getElem->bo,getElem?_setIfInBounds_ne->bp,getElem?_map->bq
open Go.bJ renaming codeOk->br
open Go.Program renaming mk->bs
open Go.stepG renaming apply->bt,oper->bv,exec->bx
open Go.Frame renaming enter->bA,eval->bC,catches->bL
open Go.GStep renaming after->bM
open List renaming getElem?_append_left->bR,range->bT
open Classical renaming byContradiction->b1
open Option.some renaming inj->b2
open Go.Conc renaming Leavers->b3,runT_crowd_go->b4,woken_quitsD->b5,Deaf_other->b6,mem_ofEvents->b8
open Go.MemAct renaming ofEvent->b9,touch?->ca
namespace Go.bJ
def dN{b:Type}(f:World->aa b)(w:World):Prop:=
 w.drawn<=(f w).world.drawn/\(f w).world.tape=w.tape/\
  ∀(a:Tape)(d:Nat),(∀i,i<(f w).world.drawn-w.drawn->a (d+i)=w.tape (w.drawn+i))->f (w.re a d)=(f w).re a (d+((f w).world.drawn-w.drawn))
def dN.pass{j:Type}{f g:World->aa j}{w w1:World}(i:f w=g w1)(hd:w1.drawn=w.drawn)(k:w1.tape=w.tape)(l:∀e d,f (w.re e d)=g (w1.re e d))(h:dN g w1):dN f w:=by
 obtain⟨a,b,c⟩:=h;refine⟨by rw[i,<-hd];exact a,by rw[i,<-k];exact b,λe d m=>?_⟩
 grind
def dN.stop{e:Type}{f:World->aa e}{w:World}{h:Halt}(c:∀a d,f (w.re a d)=.halt h (w.re a d)):dN f w:=by
 have b:f w=.halt h w:=c w.tape w.drawn;refine⟨by rw[b];exact aw _,by rw[b];rfl,λa d _=>?_⟩;rw[b,c];show Result.halt h (w.re a d)=.halt h (w.re a (d+(w.drawn-w.drawn)));rw[aB];rfl
section
variable {T:ab}{fB fA:Array Func}{G:Nat}{F:ac->Bool}{K:Code->Bool}
def bW.TF{a:Type}{s:Sem a}(h:bW T fB s){w:World}:dN (s.run ⟨T,fB⟩) w:=by
 obtain⟨x,_,e⟩:=h.run w;exact dN.stop e
def av.loc{W X:Type}{RA:Ren->W->X->Prop}{s:Sem W}:∀{ρ:Ren}{s':Sem X}{w w':World},av T fB fA F K RA ρ s s'->ρ.bw T.globals.size->WR T.globals.size F K ρ w w'->w.tape=w'.tape->w.drawn=w'.drawn->
 dN (s.run ⟨T,fB⟩) w:=by
 induction s with
 |pure a=>
  rintro ρ s' w w' _ l f j hd;refine⟨aw _,rfl,λe d _=>?_⟩;show Result.ok a (w.re e d)=.ok a (w.re e (d+(w.drawn-w.drawn)));rw[aB];rfl
 |halt h=>intro ρ s' w w' hs l f j hd;exact dN.stop λ_ _=>rfl
 |load m a k x=>
  rintro ρ s' w w'⟨m',J,k',rfl,rfl,rfl,C,y⟩l f j hd
  rcases lF (T:=T) (fB:=fB) f C with⟨D,s,S⟩|⟨v,v',c,Y,t,z,D,S,hv,_⟩
  ·refine dN.stop (h:=.stuck s) λe d=>?_;have e1:(w.re e d).cell? a=none:=D;have I:∀m,(w.re e d).farLoad ⟨T,fB⟩ a m=.error (.stuck s):=S;simp only[a7,e1,I]
  ·exact dN.pass (g:=(k v).run ⟨T,fB⟩) (w1:=w) (by simp only[a7,D]) rfl rfl (λe d=>by have e1:(w.re e d).cell? a=some v:=D;simp only[a7,e1]) (x v (y v v' hv) l f j hd)
 |store m a v k x=>
  rintro ρ s' w w'⟨m',J,v',k',rfl,rfl,rfl,C,hv,y⟩l f j hd;have key:(∀c,v≠.agg c)->(∀c,v≠.tuple c)->dN ((Sem.store .plain a v k).run ⟨T,fB⟩) w:=by
   intro H L
   rcases lF (T:=T) (fB:=fB) f C with⟨D,_⟩|⟨u,u',c,Y,t,z,D,S,hu,hs,Z,h4,hc⟩
   ·obtain⟨o,M,A,P,B⟩:=f.obj C.1;refine dN.stop (h:=.stuck "store: no such cell") λe d=>?_;rw[run_store _ _ _ _ H L];have e1:(w.re e d).cell? a=none:=D;have E:(w.re e d).heap[a.block]?=some o:=A;have hf:(w.re e d).farStore ⟨T,fB⟩ a v false=.error ((w.re e d).noCell a "store: no such cell"):=by
     cases B<;>simp[World.farStore,E]
    rw[e1];simp only[hf,mM E B]
   ·cases hz:w.frozen? a with
    |true=>
     refine dN.stop (h:=.unsupported (.unsafePointer "a write to bytes that a string shares")) λe d=>?_;rw[run_store _ _ _ _ H L];have e1:(w.re e d).cell? a=some u:=D;have I:(w.re e d).frozen? a=true:=hz
     grind
    |false=>
     have fR:J.spot=none:=by rw[<-C.2.2];exact hs
     have aF:=lG l f j hd C.1 (.cells t z (VA.set hc a.off hv)) (new:=#[]) (by simp) (CR Z h4 v v' H L);refine dN.pass (g:=k.run ⟨T,fB⟩) (w1:=w.setCell a v) ?_ rfl rfl (λe d=>?_) ?_
     ·rw[run_store _ _ _ _ H L,D];grind
     ·have e1:(w.re e d).cell? a=some u:=D;have I:(w.re e d).frozen? a=false:=hz;rw[run_store _ _ _ _ H L,e1];simp only[I,bb,if_false];rfl
     ·rw[setCell_eq w a _ Z hs];exact x y l aF.wr j hd
  cases hv with
  |agg _=>exact dN.stop λ_ _=>rfl
  |tuple _=>exact dN.stop λ_ _=>rfl
  |hole _ _=>exact dN.stop λ_ _=>rfl
  |_=>exact key (by simp) (by simp)
 |new o k x=>
  rintro ρ s' w w'⟨M,k',rfl,B,y⟩l f j hd;have hs:=CQ l f j hd B;exact dN.pass (g:=(k w.heap.size).run ⟨T,fB⟩) (w1:={ w with heap:=w.heap.push o }) rfl rfl rfl (λe d=>rfl) (x w.heap.size (y _ _ f.fresh.1 f.fresh.2 f.pK f.gN) hs.inj hs.wr j hd)
 |shape r k x=>
  rintro ρ s' w w'(⟨r',k',rfl,N,y⟩|h)l f j hd;rotate_left
  ·exact bW.TF (s:=.shape r k) h
  exact dN.pass (g:=(k (w.shape? r)).run ⟨T,fB⟩) (w1:=w) rfl rfl rfl (λe d=>rfl) (x _ (y _) l f j hd)
 |freeze a n k x=>
  rintro ρ s' w w'⟨J,k',rfl,C,y⟩l f j hd;have fr:∀e d,(w.re e d).freeze a n=(w.freeze a n).re e d:=λe d=>by unfold bg;split<;>rfl
  have fd:(w.freeze a n).drawn=w.drawn/\(w.freeze a n).tape=w.tape:=by unfold bg;grind
  refine dN.pass (g:=k.run ⟨T,fB⟩) (w1:=w.freeze a n) rfl fd.1 fd.2 (λe d=>by simp only[a7,fr]) ?_;by_cases U:n=0
  ·subst U;have e1:w.freeze a 0=w:=by simp[bg]
   grind
  obtain⟨o,M,A,P,B⟩:=f.obj C.1;have idle:(∀c t z,o≠.cells c t z)->w.freeze a n=w:=by
   intro bu;unfold bg;rw[if_neg U];obtain⟨heap,_,_,_,_⟩:=w;congr 1
   grind
  cases B with
  |@cells c Y t z hc=>
   obtain⟨lo,hi⟩:=z;rw[iz w a n U A];have hs:=lG l f j hd C.1 (.cells t (if lo==hi then(a.off,a.off+n) else(min lo a.off,max hi (a.off+n))) hc) (new:=#[]) (by simp) (IY A P _ _);exact x y l hs.wr j hd
  |_=>
   rw[idle (by simp)];exact x y l f j hd
 |frozen a k x=>
  rintro ρ s' w w'(⟨J,k',rfl,C,y⟩|h)l f j hd;rotate_left
  ·exact bW.TF (s:=.frozen a k) h
  exact dN.pass (g:=(k (w.frozen? a)).run ⟨T,fB⟩) (w1:=w) rfl rfl rfl (λe d=>rfl) (x _ (y _) l f j hd)
 |getObj r k x=>
  rintro ρ s' w w'⟨r',k',rfl,N,y⟩l f j hd;obtain⟨o,M,A,P,B⟩:=f.obj N;have key:(∀c t z,o≠.cells c t z)->dN ((Sem.getObj r k).run ⟨T,fB⟩) w:=by
   intro H;refine dN.pass (g:=(k o).run ⟨T,fB⟩) (w1:=w) ?_ rfl rfl (λe d=>?_) (x o (y o M B) l f j hd)
   ·simp only[a7,A]
   ·have E:(w.re e d).heap[r]?=some o:=A;simp only[a7,E]
  cases B with
  |cells t z hc=>
   refine dN.stop (h:=.stuck "getObj: a row of cells") λe d=>?_
   ·have E:(w.re e d).heap[r]?=_:=A;simp only[a7,E]
  |_=>exact key (by simp)
 |setObj r o k x=>
  rintro ρ s' w w'⟨r',M,k',rfl,N,⟨B,N8⟩,y⟩l f j hd;obtain⟨p,p',A,P,hp⟩:=f.obj N;have hs:=lG l f j hd N B (new:=#[]) (by simp) N8.hol;have key:(∀c t z,p≠.cells c t z)->dN ((Sem.setObj r o k).run ⟨T,fB⟩) w:=by
   intro H;refine dN.pass (g:=k.run ⟨T,fB⟩) (w1:={ w with heap:=w.heap.setIfInBounds r o }) ?_ rfl rfl (λe d=>?_) (x y l hs.wr j hd)
   ·simp only[a7,A]
   ·have E:(w.re e d).heap[r]?=some p:=A;simp only[a7,E];rfl
  cases hp with
  |cells t z hc=>
   refine dN.stop (h:=.stuck "setObj: a row of cells") λe d=>?_
   ·have E:(w.re e d).heap[r]?=_:=A;simp only[a7,E]
  |_=>exact key (by simp)
 |choose q k x=>
  rintro ρ s' w w'⟨k',rfl,y⟩l f j hd
  cases hf:q.forced with
  |true=>exact dN.pass (g:=(k 0).run ⟨T,fB⟩) (w1:=w) (by simp only[a7,hf,if_true]) rfl rfl (λe d=>by simp only[a7,hf,if_true]) (x _ (y _) l f j hd)
  |false=>
   have wK:WR T.globals.size F K ρ { w with drawn:=w.drawn+1 } { w' with drawn:=w'.drawn+1 }:=⟨f.pK,f.gN,f.obj⟩
   obtain⟨a,b,c⟩:=x (q.cut (w.tape w.drawn q)) (y _) l wK j (by simp only[hd]);have Q:(a8 q k).run ⟨T,fB⟩ w=(k (q.cut (w.tape w.drawn q))).run ⟨T,fB⟩ { w with drawn:=w.drawn+1 }:=by simp only[a7,hf,bb,if_false]
   generalize hR:(k (q.cut (w.tape w.drawn q))).run ⟨T,fB⟩ { w with drawn:=w.drawn+1 }=R at a b c Q;have J:w.drawn+1<=R.world.drawn:=a;refine⟨by rw[Q];omega,by rw[Q];exact b,λe d V=>?_⟩;rw[Q]at V ⊢;have O:=V 0 (by omega);simp only[Nat.add_zero]at O;have e1:(a8 q k).run ⟨T,fB⟩ (w.re e d)=(k (q.cut (e d q))).run ⟨T,fB⟩ (w.re e (d+1)):=by
    simp only[a7,hf,bb,if_false];rfl
   rw[e1,O]
   have:=c e (d+1) (λi hi=>by
    have mS:i<R.world.drawn-(w.drawn+1):=hi;show e (d+1+i)=w.tape (w.drawn+1+i);have:=V (1+i) (by omega)
    grind)
   have I:d+1+(R.world.drawn-(w.drawn+1))=d+(R.world.drawn-w.drawn):=by omega
   rw[<-I];exact this
 |sys c k x=>intro ρ s' w w' h;exact h.elim
 |program k x=>
  rintro ρ s' w w'(⟨k',rfl,y⟩|CS)l f j hd
  ·exact dN.pass (g:=(k ⟨T,fB⟩).run ⟨T,fB⟩) (w1:=w) rfl rfl rfl (λe d=>rfl) (x _ y l f j hd)
  ·exact bW.TF (s:=.program k) CS
 |mark m k x=>
  rintro ρ s' w w'(⟨k',rfl,hm,y⟩|h)l f j hd
  ·exact dN.pass (g:=k.run ⟨T,fB⟩) (w1:=w) rfl rfl rfl (λe d=>rfl) (x y l f j hd)
  ·exact bW.TF (s:=.mark m k) h
def dN.bind{l m:Type}{P:ad}{s:Sem l}{f:l->Sem m}{w:World}(hs:dN (s.run P) w)(hf:∀a w1,s.run P w=.ok a w1->dN ((f a).run P) w1):dN ((s.bind f).run P) w:=by
 obtain⟨a,b,c⟩:=hs
 cases j:s.run P w with
 |halt h w1=>
  rw[j]at a b c;have e:(s.bind f).run P w=.halt h w1:=by rw[a9,j];rfl
  refine⟨by rw[e];exact a,by rw[e];exact b,λk d g=>?_⟩;rw[e]at g ⊢;rw[a9,c k d g];rfl
 |ok x w1=>
  rw[j]at a b c;obtain⟨a2,n,o⟩:=hf x w1 j;have e:(s.bind f).run P w=(f x).run P w1:=by rw[a9,j];rfl
  have r:w.drawn<=w1.drawn:=a;have b':w1.tape=w.tape:=b;refine⟨by grind,by rw[e];exact n.trans b',λk d g=>?_⟩;rw[e]at g ⊢;have p:=c k d (λi hi=>g i (by have:i<w1.drawn-w.drawn:=hi;omega))
  have q:=o k (d+(w1.drawn-w.drawn)) (λi hi=>by
   have:=g ((w1.drawn-w.drawn)+i) (by omega)
   grind)
  rw[a9,p];show(f x).run P (w1.re k (d+(w1.drawn-w.drawn)))=_;rw[q];congr 1;omega
def TG{ρ:Ren}(l:ρ.bw T.globals.size){w w':World}(u:WR T.globals.size F K ρ w w')(y:w.tape=w'.tape)(hd:w.drawn=w'.drawn)(t:ae){m:Nat}(C:∀k e,tY T t=some (.map k e)->og T m k=true){x D i d v v':Value}(E:VR F ρ x D)(hi:VR F ρ i d)(hv:VR F ρ v v') :
 dN ((Instr.mapUpdate t x i v).run ⟨T,fB⟩) w:=by
 rw[jg];have z:=uX (fB:=fB) (fA:=fB) (F:=F) (K:=K) l t C E hi;refine dN.bind (av.loc z l u y hd) λa w1 e=>?_;have h:=av.run #[] z l u y hd;rw[e]at h;obtain⟨H,I,O,new,_,k,J⟩:=h;obtain⟨r,es,clock,P⟩:=a;obtain⟨o,f,Q,L⟩:=I;obtain⟨p,g,hc,A⟩:=J;simp only at p g hc A;subst hc;have hi:=hi.mono k.le;have hv:=hv.mono k.le;have put:∀(j:Nat){c:Ren}{k k':Value},H.le c->VR F c k k'->av T fB fB F K fF c (ag r (.map (es.modify j λe=>{ e with key:=k,val:=v }) clock)) (ag o (.map (f.modify j λe=>{ e with key:=k',val:=v' }) clock)):=by
  intro j c k k' b q;refine dV (b p) (.map _ ?_);rw[bj,bj];exact bD.modify (g.mono b) j λe R M=>⟨q,hv.mono b,M.born⟩
 cases A with
 |none=>
  refine av.loc (fA:=fB) (s':=ag o (.map (f.push { key:=d,val:=v',born:=clock }) (clock+1))) (dV p (.map _ ?_)) k.inj k.wr k.tape k.drawn;rw[bm,bm];exact bD.append g (.cons ⟨hi,hv,rfl⟩ .nil)
 |some j _=>
  have hold:=Aa g j hi;unfold rZ;simp only;generalize(((es[j]?).map (·.key)).getD i)=s at hold;generalize(((f[j]?).map (·.key)).getD d)=N at hold;unfold Instr.keyThatStays;by_cases B:Instr.sameBits 10000 s i=true
  ·rw[if_pos B];exact av.loc (put j (Ren.le_refl _) hi) k.inj k.wr k.tape k.drawn
  ·rw[if_neg B];refine av.loc (fA:=fB) (RA:=fF) (s':=Sem.bind (do pure (if(<-choose (.extern "map.whichKeyStays" 2))=0 then d else N)) λk'=>ag o (.map (f.modify j λe=>{ e with key:=k',val:=v' }) clock)) ?_ k.inj k.wr k.tape k.drawn;refine av.bind k.inj (RA:=RV F) ?_ λc b _ k k' q=>put j b q;refine af k.inj (lH _) λc b _ n n' e=>?_;subst e;refine ah ?_
   split
   ·exact hi.mono b
   ·exact hold.mono b
def OC{c:Type}(P:ad)(a:c)(w:World):dN ((Sem.pure a).run P) w:=by
 refine⟨aw _,rfl,λb d _=>?_⟩;show Result.ok a (w.re b d)=.ok a (w.re b (d+(w.drawn-w.drawn)));rw[aB];rfl
def Yg{Z:ae->Bool}(g:dM T F Z)(hF:si fB fA F){ρ:Ren}(b:ρ.bw T.globals.size){w w':World}(c:WR T.globals.size F K ρ w w')(d:w.tape=w'.tape)(hd:w.drawn=w'.drawn){e e':Operand->Value}(a:lN F ρ e e')(o:Oper)(ok:jh T F Z o.op=true) :
 dN ((execOp e o).run ⟨T,fB⟩) w:=by
 by_cases f:Dc o.op=true
 ·obtain⟨t,x,y,z,h,i⟩:=xj e o f;obtain⟨k1,k2,k3,j⟩:=Dd h ok;rw[i];exact dN.bind (TG b c d hd t k1 (a x k2) (a y k3) (a z j)) λ_ _ _=>OC _ _ _
 ·exact av.loc (ug (fA:=fA) g hF b a o ok (by simpa using f)) b c d hd
end
def gq(f:World->GStep)(w:World):Prop:=
 ∀b w1 es,f w=.go b w1 es->w.drawn<=w1.drawn/\w1.tape=w.tape/\
  ∀(a:Tape)(d:Nat),(∀i,i<w1.drawn-w.drawn->a (d+i)=w.tape (w.drawn+i))->∃c,f (w.re a d)=.go b (w1.re a (d+(w1.drawn-w.drawn))) c
@[simp] def vZ(w:World):w.re w.tape w.drawn=w:=rfl
def gq.pure{f:World->GStep}{w:World}(G:ai)(h:∀a d,∃es,f (w.re a d)=.go G (w.re a d) es):gq f w:=by
 intro j w1 es e;obtain⟨c,b⟩:=h w.tape w.drawn;rw[vZ,e]at b;cases b;refine⟨aw _,rfl,λa d _=>?_⟩;obtain⟨g,i⟩:=h a d;exact⟨g,by rw[i,aB];rfl⟩
def gq.never{f:World->GStep}{w:World}(h:∀a w1 es,f w≠.go a w1 es):gq f w:=λa w1 es e=>absurd e (h a w1 es)
section
variable {T:ab}{fB fA:Array Func}{F X:ac->Bool}{Z:ae->Bool}{bot:Frame}{ρ σ:Ren}{w w':World}
def qp.ends{d e:Type}{RA:Ren->d->e->Prop}{s:Sem d}{f:aa e×Array Event}(b:qp T.globals.size F (br T F Z) RA ρ w w' #[] f (s.run (bs T fB) w)) :
 (∃a w1,s.run (bs T fB) w=.ok a w1/\∃c a',RA c a a')\/(∃v w1,s.run (bs T fB) w=.halt (.panic v) w1)\/(∃m w1,s.run (bs T fB) w=.halt (.stuck m) w1)\/∃u w1,s.run (bs T fB) w=.halt (.unsupported u) w1/\dw u=true:=by
 generalize s.run (bs T fB) w=r at b
 cases r with
 |ok a w1=>
  obtain⟨c,a',i,new,_,_,e1,j,g⟩:=b;exact .inl ⟨a,w1,rfl,c,a',g⟩
 |halt h w1=>
  cases h with
  |panic v=>exact .inr (.inl ⟨v,w1,rfl⟩)
  |stuck m=>exact .inr (.inr (.inl ⟨m,w1,rfl⟩))
  |unsupported u=>exact .inr (.inr (.inr ⟨u,w1,rfl,b⟩))
  |_=>exact b.elim
def SR.ends{c d:Type}{RA:Ren->c->d->Prop}(b:Wd T F Z ρ w w'){s:Sem c}{s':Sem d}(hs:av T fB fA F (br T F Z) RA ρ s s') :
 (∃a w1,s.run (bs T fB) w=.ok a w1/\∃e a',RA e a a')\/(∃v w1,s.run (bs T fB) w=.halt (.panic v) w1)\/(∃m w1,s.run (bs T fB) w=.halt (.stuck m) w1)\/∃u w1,s.run (bs T fB) w=.halt (.unsupported u) w1/\dw u=true:=
 qp.ends (av.run #[] hs b.inj b.wr b.tape b.drawn).zu
def iD{a:Type}(P:ad)(s:Sem a)(w:World){r:aa a}(h:s.run P w=r):s.runT P w #[]=(r,(s.runT P w #[]).2):=Prod.ext ((ba P s w #[]).trans h) rfl
section
variable {P:ad}{fr:Frame}{cs:List Frame}{s:Sem Next}{w w1:World}
def Df{v:Value}(h:s.run P w=.ok (.value v) w1):∃es,bt P true fr cs none s w=.go { frame:=fr.finish v,callers:=cs,status:=.running,dying:=none } w1 es:=by
 unfold bt;simp only[if_true];rw[iD P s w h];exact⟨_,rfl⟩
def Gr(h:s.run P w=.ok .skip w1):∃es,bt P true fr cs none s w=.go { frame:=fr.finish undef,callers:=cs,status:=.running,dying:=none } w1 es:=by
 unfold bt;simp only[if_true];rw[iD P s w h];exact⟨_,rfl⟩
def Dg{f:ac}{a:Array Value}(h:s.run P w=.ok (.enter f a) w1):∃es,bt P true fr cs none s w=.go { frame:=bA P f a (match fr.todo with | .call _ true _ _::_=>.wrapped|_=>.normal),callers:=fr::cs,status:=.running,dying:=none } w1 es:=by
 unfold bt;simp only[if_true];rw[iD P s w h];exact⟨_,rfl⟩
def Dh{l:Nat}{f:ac}{a:Array Value}{c d:Code}(h:s.run P w=.ok (.round l f a c d) w1):∃es,bt P true fr cs none s w=.go { frame:=Frame.round l f a c d .normal,callers:=fr::cs,status:=.running,dying:=none } w1 es:=by
 unfold bt;simp only[if_true];rw[iD P s w h];exact⟨_,rfl⟩
def Di{v:Value}(h:s.run P w=.halt (.panic v) w1):∃es,bt P true fr cs none s w=.go { frame:=fr.raise [{ v,recovered:=false }],callers:=cs,status:=.running,dying:=none } w1 es:=by
 unfold bt;simp only[if_true];rw[iD P s w h];exact⟨_,rfl⟩
def Dj{m:String}(h:s.run P w=.halt (.stuck m) w1):∃o w2 es,bt P true fr cs none s w=.ended o w2 es:=by
 unfold bt;simp only[if_true];rw[iD P s w h];exact⟨_,_,_,rfl⟩
def su{u:Unsupported}(h:s.run P w=.halt (.unsupported u) w1)(a:dw u=true):∃o w2 es,bt P true fr cs none s w=.ended o w2 es:=by
 unfold bt;simp only[if_true];rw[iD P s w h];cases u<;>first|exact⟨_,_,_,rfl⟩|cases a
end
def gq.from{l:Type}{P:ad}{s:Sem l}{w:World}(hs:dN (s.run P) w){f:World->GStep}
 (h:(∃g r,s.run P w=r/\∀i d,s.run P (w.re i d)=r.re i (d+(r.world.drawn-w.drawn))->∃es,f (w.re i d)=.go g (r.world.re i (d+(r.world.drawn-w.drawn))) es)\/∀k w1 es,f w≠.go k w1 es):gq f w:=by
 obtain⟨a,b,c⟩:=hs
 rcases h with⟨g,r,m,h⟩|n
 ·subst m;intro k w1 es e
  have j:=h w.tape w.drawn (by
   rw[c w.tape w.drawn (λ_ _=>rfl)])
  have o:w.drawn+((s.run P w).world.drawn-w.drawn)=(s.run P w).world.drawn:=by omega
  obtain⟨p,j⟩:=j;rw[vZ,e,o,<-b,vZ]at j;cases j;exact⟨a,b,λi d q=>h i d (c i d q)⟩
 ·exact gq.never n
def xy{fr:Frame}{cs:List Frame}{s:Sem Next}{i:aa Next×Array Event}(hl:dN (s.run (bs T fB)) w)(j:qp T.globals.size F (br T F Z) (gT F (br T F Z)) ρ w w' #[] i (s.run (bs T fB) w)) :
 gq (λw=>bt (bs T fB) true fr cs none s w) w:=by
 refine gq.from hl ?_
 rcases qp.ends j with⟨a,w1,h,q,r,k⟩|⟨v,w1,h⟩|⟨m,w1,h⟩|⟨u,w1,h,l⟩
 ·cases k with
  |value hv=>exact .inl ⟨_,_,h,λg d e=>Df e⟩
  |skip=>exact .inl ⟨_,_,h,λg d e=>Gr e⟩
  |enter f hf n=>exact .inl ⟨_,_,h,λg d e=>Dg e⟩
  |round hl f hf n c d t x=>exact .inl ⟨_,_,h,λg d e=>Dh e⟩
 ·exact .inl ⟨_,_,h,λg d e=>Di e⟩
 ·obtain⟨o,w2,es,e⟩:=Dj (fr:=fr) (cs:=cs) h;exact .inr λp w1 es b=>by simp only[e]at b;cases b
 ·obtain⟨o,w2,es,e⟩:=su (fr:=fr) (cs:=cs) h l;exact .inr λp w1 es b=>by simp only[e]at b;cases b
def Ah(a:Wd T F Z ρ w w'){fr:Frame}{cs:List Frame}{s s':Sem Next}(hs:av T fB fA F (br T F Z) (gT F (br T F Z)) ρ s s') :
 gq (λw=>bt (bs T fB) true fr cs none s w) w:=
 xy (av.loc hs a.inj a.wr a.tape a.drawn) (av.run #[] hs a.inj a.wr a.tape a.drawn).zu
def wh{j n:Type}{RA:Ren->j->n->Prop}(k:Wd T F Z ρ w w'){s:Sem j}{s':Sem n}(hs:av T fB fA F (br T F Z) RA ρ s s'){f:aa j->GStep}(fn:ac)
 (x:∀(p:Ren)(a:j)(a':n)(w1:World),s.run (bs T fB) w=.ok a w1->RA p a a'->(∃g,∀w,∃es,f (.ok a w)=.go g w es)\/∀w c w1 es,f (.ok a w)≠.go c w1 es)
 (y:∀v,(∃g,∀w,∃es,f (.halt (.panic v) w)=.go g w es)\/∀w c w1 es,f (.halt (.panic v) w)≠.go c w1 es)
 (z:∀m w1,∃o w2 es,f (.halt (.stuck m) w1)=.ended o w2 es) (A:∀u w1,dw u=true->∃o w2 es,f (.halt (.unsupported u) w1)=.ended o w2 es) :
 gq (λw=>bM (seen (bs T fB) fn (s.runT (bs T fB) w #[]).2) (f (s.runT (bs T fB) w #[]).1)) w:=by
 refine gq.from (av.loc hs k.inj k.wr k.tape k.drawn) ?_;have no:∀(r:aa j),s.run (bs T fB) w=r->(∀c w1 es,f r≠.go c w1 es)->∀c w1 es,bM (seen (bs T fB) fn (s.runT (bs T fB) w #[]).2) (f (s.runT (bs T fB) w #[]).1)≠.go c w1 es:=by
  intro r q i c w1 es e;rw[ba,q]at e
  cases t:f r with
  |go D w2 E=>exact i _ _ _ t
  |_=>rw[t]at e;cases e
 have yes:∀(r:aa j)(g:ai),s.run (bs T fB) w=r->(∀(b:Tape)(d:Nat),∃es,f (r.re b d)=.go g (r.world.re b d) es)->
  ∀b d,s.run (bs T fB) (w.re b d)=r.re b (d+(r.world.drawn-w.drawn))->∃es,bM (seen (bs T fB) fn (s.runT (bs T fB) (w.re b d) #[]).2) (f (s.runT (bs T fB) (w.re b d) #[]).1)=.go g (r.world.re b (d+(r.world.drawn-w.drawn))) es:=by
  intro r g q hy b d e;rw[ba,e];obtain⟨es,B⟩:=hy b (d+(r.world.drawn-w.drawn));rw[B];exact⟨_,rfl⟩
 rcases SR.ends k hs with⟨a,w1,h,p,a',i⟩|⟨v,w1,h⟩|⟨m,w1,h⟩|⟨u,w1,h,C⟩
 ·rcases x p a a' w1 h i with⟨g,hg⟩|i
  ·exact .inl ⟨g,_,h,yes _ g h λb d=>hg _⟩
  ·exact .inr (no _ h (i _))
 ·rcases y v with⟨g,hg⟩|i
  ·exact .inl ⟨g,_,h,yes _ g h λb d=>hg _⟩
  ·exact .inr (no _ h (i _))
 ·obtain⟨o,w2,es,e⟩:=z m w1;exact .inr (no _ h λc w1 es l=>by rw[e]at l;cases l)
 ·obtain⟨o,w2,es,e⟩:=A u w1 C;exact .inr (no _ h λc w1 es l=>by rw[e]at l;cases l)
end
section
variable {T:ab}{fB fA:Array Func}{F X:ac->Bool}{Z:ae->Bool}{bot:Frame}{ρ σ:Ren}{w w':World}
def Bu(g:ai):gq (λw=>.go g w) w:=gq.pure g λ_ _=>⟨_,rfl⟩
def pN(f:World->GStep)(h:∀w,∃o w2 es,f w=.ended o w2 es):gq f w:=gq.never λb w1 es e=>by
 obtain⟨o,w2,c,a⟩:=h w;rw[a]at e;cases e
def gq.seq{n:Type}{P:ad}{s:Sem n}(hs:dN (s.run P) w){f:World->GStep}{g:n->World->GStep}(o:Outcome)(h:∀a w1,s.run P w=.ok a w1->gq (g a) w1)
 (hf:∀k d,∃es,f (w.re k d)=bM es (match s.run P (w.re k d) with | .ok a w=>g a w | .halt _ w=>.ended o w)):gq f w:=by
 obtain⟨a,b,c⟩:=hs;intro B w2 es e;obtain⟨q,j⟩:=hf w.tape w.drawn;rw[vZ,e]at j
 cases m:s.run P w with
 |halt h w1=>rw[m]at j;cases j
 |ok x w1=>
  rw[m]at j a b c;have r:w.drawn<=w1.drawn:=a;have b':w1.tape=w.tape:=b
  cases hg:g x w1 with
  |go C w3 D=>
   simp only[hg]at j;cases j;obtain⟨a2,t,u⟩:=h x w1 m _ _ _ hg;refine⟨aH r a2,t.trans b',λk d p=>?_⟩;have v:=c k d (λi hi=>p i (by have E:i<w1.drawn-w.drawn:=hi;omega))
   obtain⟨y,z⟩:=u k (d+(w1.drawn-w.drawn)) (λi hi=>by
    have:=p ((w1.drawn-w.drawn)+i) (by omega)
    grind)
   obtain⟨l,A⟩:=hf k d;rw[A,v];show∃H,bM l (g x (w1.re k (d+(w1.drawn-w.drawn))))=_;rw[z];refine⟨l++y,?_⟩;show GStep.go _ _ _=_;congr 2;omega
  |_=>simp only[hg]at j;cases j
def va{P:ad}{fr f:Frame}{cs:List Frame}(a:fr.kind=.normal)(v:Value):∃g,∀w,∃es,ao P true fr (f::cs) none v w=.go g w es:=
 ⟨_,λw=>⟨#[],by simp only[ao,a];rfl⟩⟩
def LM(d:Wd T F Z ρ w w'){fr fr':Frame}{cs:List Frame}(g:aQ T F Z fB fA ρ fr fr')(hb:dn (fr::cs))(j:Option Code)(h:∀c,j=some c->br T F Z c=true) :
 gq (λw=>mR (bs T fB) true fr (cs++[bot]) none w j) w:=by
 rcases jP g.roundOf with⟨e1,i⟩|⟨l,m,e1,i,hl⟩
 ·simp only[iW e1]
  cases sn j with
  |false=>exact pN _ λw=>⟨_,_,_,rfl⟩
  |true=>exact Bu _
 ·simp only[iX e1];have k:cs≠[]:=by
   rintro rfl;have:=hb fr rfl;rw[e1]at this;cases this
  obtain⟨f,b,rfl⟩:∃f b,cs=f::b:=by
   cases cs with
   |nil=>exact absurd rfl k
   |cons f b=>exact⟨f,b,rfl⟩
  exact wh d (oq (T:=T) (fB:=fB) (fA:=fA) (Z:=Z) d.inj hl j h) (f:=λr=>match r with | .ok v w=>ao (bs T fB) true fr (f::(b++[bot])) none v w | .halt _ w=>.ended (.stuck "range over a function: no such loop" (fr.pos (bs T fB))) w) fr.fn
   (λ_ a _ _ _ _=>.inl (va g.kind a)) (λ_=>.inr λ_ _ _ _ e=>by cases e) (λ_ _=>⟨_,_,_,rfl⟩) (λ_ _ _=>⟨_,_,_,rfl⟩)
def OD(fit:Fits T fB fA F X Z)(a:Wd T F Z ρ w w'){fr fr':Frame}{cs:List Frame}(b:aQ T F Z fB fA ρ fr fr'){ops:Array Oper}{i:Nat}{rest:List Nat}{k:List Item}
 (f:fr.todo=.inRegion ops (i::rest)::k) (g:(ops.toList.all λo=>jh T F Z o.op)=true) :
 gq (λw=>bv (bs T fB) true fr (cs++[bot]) none w) w:=by
 unfold bv;have e:fr.oper? = ops[i]?:=by unfold Frame.oper?;rw[f]
 rw[e]
 cases h:ops[i]? with
 |none=>exact pN _ λw=>⟨_,_,_,rfl⟩
 |some o=>
  have ok:=Bo g h;simp only;have main:gq (λw=>bt (bs T fB) true fr (cs++[bot]) none (execOp fr.eval o) w) w:=
   xy (Yg fit.zero fit.fns a.inj a.wr a.tape a.drawn (dD b.tmps) o ok) (De (fA:=fA) fit.zero fit.fns a.inj a.wr a.tape a.drawn (dD b.tmps) o ok #[])
  have d:=b.roundOf;generalize e1:fr.roundOf=r at d;generalize l:fr'.roundOf=m at d
  cases d with
  |none=>exact main
  |some hl=>
   cases j:o.op with
   |defer c=>rw[j]at ok;cases ok
   |_=>exact main
def OE(fit:Fits T fB fA F X Z)(o:Wd T F Z ρ w w'){fr fr':Frame}{cs:List Frame}(s:aQ T F Z fB fA ρ fr fr')(hb:dn (fr::cs)) :
 gq (λw=>bx (bs T fB) true true fr (cs++[bot]) none w) w:=by
 obtain⟨fn,tmps,todo,defers,mode,kind,p⟩:=fr;obtain⟨q,K,L,M,N,O,C⟩:=fr';have P:cN T F Z ρ todo L:=s.todo;have to:∀D:List Item,gq (λw=>.go { frame:=⟨fn,tmps,D,defers,mode,kind,p⟩,callers:=cs++[bot],status:=.running,dying:=none } w) w:=λD=>Bu _;have lv:=λj Q=>LM (bot:=bot) o s hb j Q;unfold bx
 cases P with
 |nil=>exact lv none (λc e=>by cases e)
 |@cons i i' k k' h t=>
  cases h with
  |inBlock id=>exact to _
  |inLoop c hc=>exact to _
  |inScope c hc=>exact to _
  |inRangeFunc hl=>exact pN _ λw=>⟨_,_,_,rfl⟩
  |beginRound=>
   refine Ah (fA:=fA) o (s':=do(C.elim (stuck "beginRound: no round") Instr.beginRound);pure .skip) (vX o.inj ?_)
   rcases jP s.roundOf with⟨u,y⟩|⟨l,R,u,y,hl⟩
   ·simp only at u y;subst u y;exact ak
   ·simp only at u y;subst u y;exact lg (fA:=fA) o.inj hl
  |@endRangeFunc l R hl=>
   exact wh o (qW (fA:=fA) o.inj hl)
    (f:=λr=>match r with
      |.ok jump w=>.go { frame:=⟨fn,tmps,(jump.map Item.code).toList++k,defers,mode,kind,p⟩,callers:=cs++[bot],status:=.running,dying:=none } w
      |.halt (.panic v) w=>.go { frame:=Frame.raise ⟨fn,tmps,.endRangeFunc l::k,defers,mode,kind,p⟩ [{ v,recovered:=false }],callers:=cs++[bot],status:=.running,dying:=none } w
      |.halt _ w=>.ended (.stuck "range over a function: no such loop" _) w) fn
    (λ_ _ _ _ _ _=>.inl ⟨_,λ_=>⟨_,rfl⟩⟩) (λ_=>.inl ⟨_,λ_=>⟨_,rfl⟩⟩) (λ_ _=>⟨_,_,_,rfl⟩) (λ_ _ _=>⟨_,_,_,rfl⟩)
  |inRegion ops todo S=>
   cases todo with
   |nil=>exact to _
   |cons i E=>
    simp only
    cases((ops[i]?).map (Region.wanted · (yielded ops tmps))).getD false with
    |true=>exact OD fit o s rfl S
    |false=>exact Bu _
  |code c hc=>
   cases c with
   |ret=>exact lv (some .ret) (λc e=>by cases e;rfl)
   |skip=>exact to _
   |label _=>exact to _
   |seq a b=>exact to _
   |cond c a b=>
    simp only
    cases bC _ c with
    |bool b'=>exact Bu _
    |_=>exact pN _ λw=>⟨_,_,_,rfl⟩
   |block id b=>exact to _
   |loop b=>exact to _
   |scope b=>exact to _
   |exit id=>
    simp only
    cases exitTo id k with
    |none=>exact lv (some (.exit id)) (λc e=>by cases e;rfl)
    |some m=>exact to _
   |goto id=>
    simp only
    cases gotoIn id k with
    |none=>exact lv (some (.goto id)) (λc e=>by cases e;rfl)
    |some m=>exact to _
   |refuse U=>cases hc
   |rangeFunc f params assign body=>
    simp only[br,bc]at hc;simp only;have H:=s.fn;simp only at H;subst H;have hs:=mO (T:=T) (fB:=fB) (fA:=fA) (Z:=Z) o.inj q s.mI s.tmps params assign body hc.1.2 hc.2 s.roundOf
    refine gq.seq (av.loc hs o.inj o.wr o.tape o.drawn) (g:=fun(x:Nat×List Deferred)w=>
     let fr:Frame:=⟨q,tmps,.inRangeFunc x.1::k,x.2++defers,mode,kind,p⟩
     let call:Call:={ callee:=.value f,args:=#[.const (.func (.yield x.1) #[] #[])],argTypes:=#[] }
     bt (bs T fB) true fr (cs++[bot]) none (do let d<-resolve fr.eval call 0;invoke d.target d.args) w) (.stuck "range over a function: no such loop" (Frame.pos (bs T fB) ⟨q,tmps,.code (.rangeFunc f params assign body)::k,defers,mode,kind,p⟩)) ?_ (λB d=>?_)
    ·intro x w1 V;have I:=av.run #[] hs o.inj o.wr o.tape o.drawn;rw[V]at I;obtain⟨J,z,W,new,e1,A,hl,Y⟩:=I;have h0:=s.mono A.le;have hv:cU F J [.func (.yield x.1) #[] #[]] [.func (.yield z.1) #[] #[]]:=.cons (.func (.yield hl) .nil .nil) .nil;have he:=dD (fr:=⟨q,tmps,.inRangeFunc x.1::k,x.2++defers,mode,kind,p⟩) (fr':=⟨q,K,.inRangeFunc z.1::k',z.2++M,N,O,C⟩) h0.tmps f hc.1.1;exact Ah (fA:=fA) A.wd (jE (a:=#[Operand.const (.func (.yield x.1) #[] #[])].map (bC ⟨q,tmps,.inRangeFunc x.1::k,x.2++defers,mode,kind,p⟩)) (a':=#[.func (.yield z.1) #[] #[]]) fit.zero fit.fns A.inj he (by simpa[bC]using hv))
    ·refine⟨seen (bs T fB) q ((Instr.enterLoop q tmps params assign body p).runT (bs T fB) (w.re B d) #[]).2,?_⟩;show bM (seen (bs T fB) q ((Instr.enterLoop q tmps params assign body p).runT (bs T fB) (w.re B d) #[]).2) _=_
     grind[ba]
   |region id ops draw=>
    simp only
    cases draw with
    |false=>exact to _
    |true=>
     simp only[bd,bb,if_false];have hs:av T fB fA F (br T F Z) fF ρ (choose (.order fn id)) (choose (.order fn id)):=lH _;have hl:=av.loc hs o.inj o.wr o.tape o.drawn;refine gq.from hl (.inl ?_);obtain⟨n,J,w1,W,c1,c2,A⟩:=ou (fB:=fB) (fA:=fA) o (.order fn id);refine⟨{ frame:=⟨fn,tmps,.inRegion ops (Region.schedule (Tables.follows T .mixedOrders) ops n)::k,defers,mode,kind,p⟩,callers:=cs++[bot],status:=.running,dying:=none },.ok n w1,c1,λB d e=>?_⟩;rw[e];exact⟨#[],rfl⟩
def Gs(h:Wd T F Z ρ w w'){fr fr':Frame}{cs cs':List Frame}(j:aQ T F Z fB fA ρ fr fr')(hcs:cj T F Z fB fA ρ cs cs')(k:fr.mode≠.run)(l:fr.defers=[]->cs≠[]) :
 gq (λw=>ap (bs T fB) true fr (cs++[bot]) none w) w:=by
 have hd:=j.defers;obtain⟨fn,tmps,todo,defers,mode,kind,i⟩:=fr;obtain⟨g,H,I,J,K,L,M⟩:=fr';obtain⟨m,n,y,o,p,z,q,u,A,B,x⟩:=j;simp only at m n y o p z q u A B x k l hd;subst m
 cases hd with
 |@cons r N ds C D t=>
  unfold ap;simp only;exact wh h (jj (fB:=fB) (fA:=fA) h.inj D)
   (f:=λr=>match r with
     |.ok calls w=>.go { frame:={ fn:=g,tmps,todo,defers:=calls++ds,mode,kind,roundOf:=i },callers:=cs++[bot],status:=.running,dying:=none } w
     |.halt _ w=>.ended (.stuck "the deferred calls of a range-over-func loop have been taken" _) w) g
   (λ_ _ _ _ _ _=>.inl ⟨_,λ_=>⟨_,rfl⟩⟩) (λ_=>.inr λ_ _ _ _ e=>by cases e) (λ_ _=>⟨_,_,_,rfl⟩) (λ_ _ _=>⟨_,_,_,rfl⟩)
 |nil=>
  obtain⟨f,b,rfl⟩:∃f b,cs=f::b:=by
   cases cs with
   |nil=>exact absurd rfl (l rfl)
   |cons f b=>exact⟨f,b,rfl⟩
  cases q with
  |run=>exact absurd rfl k
  |@panicking c O hc=>
   refine gq.pure { frame:=f.raise c,callers:=b++[bot],status:=.running,dying:=none } λP d=>⟨#[],?_⟩
   show ap (bs T fB) true _ (f::(b++[bot])) none _=_;unfold ap;simp only[iR p (bs T fB) g tmps [] (.panicking c) kind i,bb,if_false]
  |returning=>
   obtain⟨fx,c,E,Q,R,S⟩:=(n (x rfl)).ex;unfold ap;simp only[E]
   exact wh h (mP (fB:=fB) (fA:=fA) (Z:=Z) h.inj fx o) (f:=λr=>match r with
    |.ok v w=>ao (bs T fB) true { fn:=g,tmps,todo,defers:=[],mode:=.returning,kind,roundOf:=i } (f::(b++[bot])) none v w
    |.halt (.stuck s) w=>.ended (.stuck s _) w
    |.halt _ w=>.ended (.stuck "return: the result variables cannot be read" _) w) g
    (λ_ a _ _ _ _=>.inl (va u a)) (λ_=>.inr λ_ _ _ _ e=>by cases e) (λ_ _=>⟨_,_,_,rfl⟩) (λ_ _ _=>⟨_,_,_,rfl⟩)
def OG(fit:Fits T fB fA F X Z)(d:Wd T F Z ρ w w'){g g':ai}(hg:GR T fB fA F X Z bot ρ g g')(b:aQ T F Z fB fA ρ g.frame g'.frame)
 (f:g.frame.mode≠.run->g.frame.defers=[]->g.callers≠[bot]):gq (λw=>stepG (bs T fB) true g w) w:=by
 obtain⟨_,⟨l,hl,hcs,hb,_⟩,st,a,i,j,of,k⟩:=hg;obtain⟨fr,cs,status,dying,offers⟩:=g;obtain⟨c,cs',o,p,q⟩:=g';simp only at st a i j of k hl hcs b hb f;subst st a i j of k hl;have m:=OE (bot:=bot) fit d b hb;have r:=λh=>Gs (bot:=bot) d b hcs h (λhd e=>by subst e;exact f h hd rfl);obtain⟨fn,tmps,todo,defers,mode,kind,s⟩:=fr;obtain⟨t,u,v,x,n,y,z⟩:=c;have A:qE F ρ mode n:=b.mode;unfold stepG
 grind
end
inductive Term(P:ad)(Good:ai->World->Prop):ai->World->Prop
 |done {g:ai} {w:World} (h:Good g w):Term P Good g w
 |step {g:ai} {w:World} (G1:Tape->Nat->ai) (W1:Tape->Nat->World) (h:∀τ d,∃es,stepG P true g (w.re τ d)=.go (G1 τ d) (W1 τ d) es) (k:∀τ d,Term P Good (G1 τ d) (W1 τ d)):Term P Good g w
inductive cy(P:ad):Nat->ai->World->ai->World->Prop
 |zero (g:ai) (w:World):cy P 0 g w g w
 |succ {n:Nat} {g g1 g2:ai} {w w1 w2:World} {es:Array Event} (h:cy P n g w g1 w1) (k:stepG P true g1 w1=.go g2 w2 es):cy P (n+1) g w g2 w2
def cy.det{P:ad}{n:Nat}{g b a:ai}{w w1 w2:World}(h:cy P n g w b w1)(k:cy P n g w a w2):b=a/\w1=w2:=by
 induction h generalizing a w2 with
 |zero=>cases k;exact⟨rfl,rfl⟩
 |succ h k1 c=>
  cases k with
  |succ d k'=>
   obtain⟨rfl,rfl⟩:=c d;rw[k1]at k';cases k';exact⟨rfl,rfl⟩
def cy.hd00{P:ad}{n m:Nat}{g a:ai}{w w2:World}(h:cy P n g w a w2)(d:m<=n):∃b w1,cy P m g w b w1:=by
 induction h with
 |zero=>
  obtain rfl:m=0:=by omega
  exact⟨_,_,.zero _ _⟩
 |@succ n _ _ _ _ _ _ _ h k c=>
  rcases aI m (n+1) with hl|hg
  ·exact c (by omega)
  ·obtain rfl:m=n+1:=by omega
   exact⟨_,_,.succ h k⟩
def cy.next{P:ad}{n m:Nat}{g a c:ai}{w w1 w2:World}(h:cy P n g w c w2)(k:cy P m g w a w1)(d:m<n):∃b w3 es,stepG P true a w1=.go b w3 es:=by
 obtain⟨b,w3,hc⟩:=h.hd00 (m:=m+1) d
 cases hc with
 |succ e k'=>
  obtain⟨rfl,rfl⟩:=e.det k;exact⟨_,_,_,k'⟩
def cy.suffix{P:ad}{m:Nat}:∀{n:Nat}{g a b:ai}{w w1 w2:World},cy P (m+n) g w b w2->cy P m g w a w1->cy P n a w1 b w2:=by
 intro n
 induction n with
 |zero=>
  intro g a b w w1 w2 h k;obtain⟨rfl,rfl⟩:=h.det k;exact .zero _ _
 |succ n c=>
  intro g a b w w1 w2 h k
  cases h with
  |succ d k'=>exact .succ (c d k) k'
def jW(L:List (aq->Nat))(a:Tape):Prop:=∀i x,L[i]?=some x->a i=x
def jW.of_append{L M:List (aq->Nat)}{a:Tape}(h:jW (L++M) a):jW L a:=λi x b=>h i x (by
 have hl:i<L.length:=(List.getElem?_eq_some_iff.1 b).1
 rw[bR hl];exact b)
section
variable {P:ad}{Good:ai->World->Prop}{Inv:ai->World->Prop}{Stop:ai->Prop}
def Bv(y:∀g w b d,Inv g w->Inv g (w.re b d))(X:∀g w f w1 es,Inv g w->¬Stop g->stepG P true g w=.go f w1 es->Inv f w1)
 (H:∀g w,Inv g w->¬Stop g->gq (stepG P true g) w)
 (Y:∀g w I w2 m,Inv g w->Stop g->cy P (m+1) g w I w2->¬Good I w2) (Z:∀g w b d,Good g w->Good g (w.re b d))
 {p:ai} {w0:World} (h0:Inv p w0) (runs:∀a:Tape,∃n g w,cy P n p (w0.re a 0) g w/\Good g w):Term P Good p w0:=by
 classical
 apply b1;intro J;have K:∀g(w:World)b d,Good g (w.re b d)->Good g w:=λg w b d h=>Z g (w.re b d) w.tape w.drawn h;have bad:∀g w,¬Term P Good g w->¬Good g w/\∃b d,∀f w1 es,stepG P true g (w.re b d)=.go f w1 es->¬Term P Good f w1:=by
  intro g w h;refine⟨λhg=>h (.done hg),b1 λhn=>h ?_⟩;have z:∀b d,∃f w1 es,stepG P true g (w.re b d)=.go f w1 es/\Term P Good f w1:=by
   intro b d;refine b1 λq=>hn ⟨b,d,λf w1 es e N=>q ⟨f,w1,es,e,N⟩⟩
  exact .step (λb d=>(z b d).choose) (λb d=>(z b d).choose_spec.choose) (λb d=>⟨_,(z b d).choose_spec.choose_spec.choose_spec.1⟩) (λb d=>(z b d).choose_spec.choose_spec.choose_spec.2)
 let St (k:Nat):={ x:ai×World×List (aq->Nat) // Inv x.1 x.2.1/\¬Term P Good x.1 x.2.1/\∀a,jW x.2.2 a->cy P k p (w0.re a 0) x.1 (x.2.1.re a x.2.2.length) }
 have next:∀k(s:St k),(∀j,j<=k->∀a,jW s.1.2.2 a->∀g w,cy P j p (w0.re a 0) g w->¬Good g w)->
  ∃O:St (k+1),(∃M,O.1.2.2=s.1.2.2++M)/\(∀j,j<=k+1->∀a,jW O.1.2.2 a->∀g w,cy P j p (w0.re a 0) g w->¬Good g w):=by
  rintro k⟨⟨g,w,L⟩,hi,hb,hc⟩A;simp only at hi hb hc A;obtain⟨hg,b,d,iY⟩:=bad g w hb;let a:Tape:=λi=>if h:i<L.length then L[i] else b (d+(i-L.length))
  have o:jW L a:=λi x q=>by
   obtain⟨hl,Q⟩:=List.getElem?_eq_some_iff.1 q;simp only[a,hl,dif_pos];exact Q
  obtain⟨n,ge,we,B,R⟩:=runs a;have By:k<n:=by
   rcases aI k n with h|h
   ·exact h
   ·exact absurd R (A n h a o ge we B)
  have C:¬Stop g:=λhs=>by
   obtain⟨m,rfl⟩:∃m,n=k+(m+1):=⟨n-k-1,by omega⟩
   exact Y _ _ _ _ _ (y _ _ _ _ hi) hs (B.suffix (hc a o)) R
  have D:∃f w1 es,stepG P true g (w.re b d)=.go f w1 es:=by
   obtain⟨g3,w3,es,e⟩:=B.next (hc a o) By;obtain⟨_,_,hl⟩:=H g (w.re a L.length) (y _ _ _ _ hi) C g3 w3 es e
   obtain⟨S,E⟩:=hl b d (λi _=>by
    show b (d+i)=a (L.length+i);have:¬L.length+i<L.length:=by omega
    simp only[a,dif_neg this]
    congr 1;omega)
   exact⟨_,_,_,E⟩
  obtain⟨f,w1,es,e⟩:=D;obtain⟨hd,N,hl⟩:=H g (w.re b d) (y _ _ _ _ hi) C f w1 es e;have hd':d<=w1.drawn:=hd;let M:List (aq->Nat):=(bT (w1.drawn-d)).map λi=>b (d+i);have F:M.length=w1.drawn-d:=by simp[M]
  have Gu:=X _ _ _ _ _ (y _ _ b d hi) C e;have T:∀a,jW (L++M) a->cy P (k+1) p (w0.re a 0) f (w1.re a (L++M).length):=by
   intro a o;have h1:=hc a o.of_append
   obtain⟨S,E⟩:=hl a L.length (λi hi=>by
    have mS:i<w1.drawn-d:=hi;show a (L.length+i)=b (d+i);refine o _ _ ?_;rw[List.getElem?_append_right (by omega)]
    simp[M,mS])
   have u:stepG P true g (w.re a L.length)=.go f (w1.re a (L++M).length) S:=by
    rw[List.length_append,F];exact E
   exact .succ h1 u
  have U:=iY f w1 es e;refine⟨⟨(f,w1,L++M),Gu,U,T⟩,⟨M,rfl⟩,λj hj a o gj wj v r=>?_⟩
  rcases aI j (k+1) with Wk|Wk
  ·exact A j (by omega) a (jW.of_append o) gj wj v r
  ·obtain rfl:j=k+1:=by omega
   obtain⟨e1,u⟩:=v.det (T a o);rw[e1,u]at r;exact(bad f w1 U).1 (K _ _ _ _ r)
 let V (k:Nat):={ s:St k // ∀j,j<=k->∀a,jW s.1.2.2 a->∀g w,cy P j p (w0.re a 0) g w->¬Good g w }
 let s0:V 0:=⟨⟨(p,w0,[]),h0,J,λa _=>.zero _ _⟩,λj hj a _ g w hc hg=>by
  obtain rfl:j=0:=by omega
  cases hc
  exact(bad p w0 J).1 (K _ _ _ _ hg)⟩
 let l:∀k,V k:=λk=>Nat.rec s0 (λk s=>⟨(next k s.1 s.2).choose,(next k s.1 s.2).choose_spec.2⟩) k;have grow:∀k,∃M,(l (k+1)).1.1.2.2=(l k).1.1.2.2++M:=λk=>(next k (l k).1 (l k).2).choose_spec.1;have W:∀k m,∃M,(l (k+m)).1.1.2.2=(l k).1.1.2.2++M:=by
  intro k m
  induction m with
  |zero=>exact⟨[],by simp⟩
  |succ m ih=>
   obtain⟨M,t⟩:=ih;obtain⟨M',OL⟩:=grow (k+m);exact⟨M++M',by rw[<-Nat.add_assoc,OL,t,List.append_assoc]⟩
 let a:Tape:=λi=>if h:∃k,i<(l k).1.1.2.2.length then(l h.choose).1.1.2.2[i]'h.choose_spec else λ_=>0
 have o:∀k,jW (l k).1.1.2.2 a:=by
  intro k i x q;obtain⟨hl,Q⟩:=List.getElem?_eq_some_iff.1 q;have c:∃k,i<(l k).1.1.2.2.length:=⟨k,hl⟩
  have e1:a i=(l c.choose).1.1.2.2[i]'c.choose_spec:=by simp only[a,dif_pos c]
  have u:(l c.choose).1.1.2.2[i]?=some x:=by
   rcases Nat.le_total k c.choose with h|h
   ·obtain⟨M,t⟩:=W k (c.choose-k);rw[show k+(c.choose-k)=c.choose by omega]at t;rw[t,bR hl,q]
   ·obtain⟨M,t⟩:=W c.choose (k-c.choose);rw[show c.choose+(k-c.choose)=k by omega]at t;rw[t,bR c.choose_spec]at q;exact q
  rw[e1];rw[List.getElem?_eq_getElem c.choose_spec]at u;exact b2 u
 obtain⟨n,g,w,hc,hg⟩:=runs a;exact(l n).2 n (aw _) a (o n) g w hc hg
end
def Gv : "fmt's door no such".startsWith "fmt's door" = true:=by decide +kernel
def qX:Extern.next "fmt's door no such" = none:=by
 have h:(Extern.next "fmt's door no such").isNone=true:=by decide +kernel
 cases a:Extern.next "fmt's door no such" with
 |none=>rfl
 |some _=>rw[a]at h;cases h
def aX(P:ad):Frame:={ fn:=P.funcs.size,tmps:=#[],todo:=[.call { target:=.nil,args:=#[] } false "fmt's door no such" #[]],defers:=[],mode:=.run,kind:=.normal }
def Yh(P:ad):P.funcs[P.funcs.size]?=none:=by simp
abbrev fH(fr:Frame)(cs:List Frame):ai:={ frame:=fr,callers:=cs,status:=.running,dying:=none }
def vH(P:ad)(v:Value)(w:World):∃o w2 es,stepG P true (fH ((aX P).finish v) []) w=.ended o w2 es:=by
 show∃o w2 es,bx P true true { (aX P) with todo:=[.extern "fmt's door no such" #[v]] } [] none w=.ended o w2 es;unfold bx;simp only[qX];exact⟨_,_,_,rfl⟩
def xz(P:ad)(c:List PanicEntry)(w:World):∃o w2 es,stepG P true (fH ((aX P).raise c) []) w=.ended o w2 es:=by
 have:bL P { (aX P) with mode:=.panicking c }=true:=by
  unfold bL;simp only[aX,Yh,Gv]
 show∃o w2 es,ap P true { (aX P) with mode:=.panicking c } [] none w=.ended o w2 es;unfold ap;simp only[aX]at this⊢;simp only[this,if_true];exact⟨_,_,_,rfl⟩
def lP(bot:Frame)(g:ai):Prop:=g.frame.mode≠.run/\g.frame.defers=[]/\g.callers=[bot]
def lQ(P:ad)(f:ac)(R:Value->World->Prop)(g:ai)(w:World):Prop:=
 g.callers=[aX P]/\g.frame.mode=.returning/\g.frame.defers=[]/\g.frame.fn=f/\∃fn v,P.funcs[f]?=some fn/\(∀a d,(ar fn g.frame.tmps).run P (w.re a d)=.ok v (w.re a d))/\R v w
section
variable {T:ab}{fB fA:Array Func}{F X:ac->Bool}{Z:ae->Bool}{ρ σ:Ren}{w w':World}
def iE(T:ab)(fB:Array Func)(F:ac->Bool)(Z:ae->Bool)(g:ai)(w:World):Prop:=
 ∃ρ a w',GR T fB fB F (λ_:ac=>false) Z (aX ⟨T,fB⟩) ρ g a/\ρ.bw T.globals.size/\WR T.globals.size F (br T F Z) ρ w w'
def Gm.noX{f f':Frame}(h:Gm T fB fA F (λ_:ac=>false) Z ρ f f'):aQ T F Z fB fA ρ f f':=by
 cases h with
 |alike h=>exact h
 |enters x a _ _=>cases a
def Jc(c:ρ.bw T.globals.size)(a:WR T.globals.size F (br T F Z) ρ w w')(b:Tape)(d:Nat):Wd T F Z ρ (w.re b d) (w'.re b d):=⟨c,⟨a.pK,a.gN,a.obj⟩,rfl,rfl⟩
def iE.re{g:ai}(h:iE T fB F Z g w)(b:Tape)(d:Nat):iE T fB F Z g (w.re b d):=by
 obtain⟨ρ,c,w',e,f,a⟩:=h;exact⟨ρ,c,w',e,f,⟨a.pK,a.gN,a.obj⟩⟩
def Bz{g:ai}(hs:¬lP (aX (bs T fB)) g):g.frame.mode≠.run->g.frame.defers=[]->g.callers≠[aX (bs T fB)]:=λa b c=>hs ⟨a,b,c⟩
def iE.Wm(fit:Fits T fB fB F (λ_:ac=>false) Z){g:ai}(h:iE T fB F Z g w)(hs:¬lP (aX (bs T fB)) g):∃ρ w' s',ρ.bw T.globals.size/\ef T fB fB F (λ_:ac=>false) Z (aX (bs T fB)) ρ w w' (stepG (bs T fB) true g w) s':=by
 obtain⟨ρ,d,w',a,b,c⟩:=h;have:=sr fit (Jc b c w.tape w.drawn) a a.top.noX (Bz hs);exact⟨ρ,_,_,b,this⟩
def iE.step(fit:Fits T fB fB F (λ_:ac=>false) Z){g b:ai}{w1:World}{es:Array Event}(h:iE T fB F Z g w)(hs:¬lP (aX (bs T fB)) g)(e:stepG (bs T fB) true g w=.go b w1 es):iE T fB F Z b w1:=by
 obtain⟨ρ,w',j,k,c⟩:=h.Wm fit hs;rw[e]at c;obtain⟨d,f,i,l,_,_,_,a,hg⟩:=c;exact⟨d,f,i,hg,a.inj,⟨a.wr.pK,a.wr.gN,a.wr.obj⟩⟩
def iE.loc(fit:Fits T fB fB F (λ_:ac=>false) Z){g:ai}(h:iE T fB F Z g w)(hs:¬lP (aX (bs T fB)) g):gq (stepG (bs T fB) true g) w:=by
 obtain⟨ρ,d,w',a,b,c⟩:=h;exact OG fit (Jc b c w.tape w.drawn) a a.top.noX (Bz hs)
def iE.fH{g:ai}(h:iE T fB F Z g w):g=fH g.frame g.callers:=by
 obtain⟨ρ,c,w',b,e,f⟩:=h;obtain⟨_,_,st,_,a,_,of,_⟩:=b;obtain⟨fr,cs,s,d,o⟩:=g;simp only at st a of;subst st a of;rfl
def pO{g:ai}(h:iE T fB F Z g w)(hs:lP (aX (bs T fB)) g) :
 (∃fr w1 es,stepG (bs T fB) true g w=.go (fH fr []) w1 es/\∀w,∃o w2 es,stepG (bs T fB) true (fH fr []) w=.ended o w2 es)\/∃o w1 es,stepG (bs T fB) true g w=.ended o w1 es:=by
 have hg:=h.fH;obtain⟨ρ,n,w',p,u,x⟩:=h;have d:=p.top.noX;obtain⟨f,i,m⟩:=hs;rw[m]at hg;have e:=d.mode;have j:=d.ret;have k:=d.same;have l:=d.kind;have a:=d.todo;obtain⟨fr,cs,st,y,of⟩:=g;simp only at hg f i m e j k l a;cases hg;obtain⟨fn,tmps,todo,defers,mode,kind,b⟩:=fr;simp only at f i e j k l a;subst i l;generalize n.frame.mode=m' at e
 cases e with
 |run=>exact absurd rfl f
 |@panicking c z hc=>
  have e1:stepG (bs T fB) true (fH ⟨fn,tmps,todo,[],.panicking c,.normal,b⟩ [aX (bs T fB)]) w=.go (fH ((aX (bs T fB)).raise c) []) w:=by
   show ap (bs T fB) true ⟨fn,tmps,todo,[],.panicking c,.normal,b⟩ [aX (bs T fB)] none w=_;unfold ap;simp only[iR a (bs T fB) fn tmps [] (.panicking c) .normal b,bb,if_false]
  exact .inl ⟨_,_,_,e1,λw=>xz (bs T fB) c w⟩
 |returning=>
  obtain⟨fx,c,q,A,r,s⟩:=(k (j rfl)).ex;have e1:∃es,(∃v w1,stepG (bs T fB) true (fH ⟨fn,tmps,todo,[],.returning,.normal,b⟩ [aX (bs T fB)]) w=.go (fH ((aX (bs T fB)).finish v) []) w1 es)\/∃o w2,stepG (bs T fB) true (fH ⟨fn,tmps,todo,[],.returning,.normal,b⟩ [aX (bs T fB)]) w=.ended o w2 es:=by
   show∃es,(∃v w1,ap (bs T fB) true ⟨fn,tmps,todo,[],.returning,.normal,b⟩ [aX (bs T fB)] none w=.go (fH ((aX (bs T fB)).finish v) []) w1 es)\/∃o w2,ap (bs T fB) true ⟨fn,tmps,todo,[],.returning,.normal,b⟩ [aX (bs T fB)] none w=.ended o w2 es;unfold ap;simp only[q,Sem.runT_eq,ao]
   cases(ar fx tmps).run (bs T fB) w with
   |ok v w1=>exact⟨_,.inl ⟨v,w1,rfl⟩⟩
   |halt t w1=>cases t<;>exact⟨_,.inr ⟨_,_,rfl⟩⟩
  obtain⟨B,⟨v,w2,e1⟩|⟨o,w2,e1⟩⟩:=e1
  ·exact .inl ⟨_,_,_,e1,λw=>vH (bs T fB) v w⟩
  ·exact .inr ⟨_,_,_,e1⟩
def Dn{fr fr':Frame}{cs cs':List Frame}{w w':World}(h:lone fr cs w=lone fr' cs' w'):fr=fr'/\cs=cs'/\w=w':=by
 have c:=congrArg Machine.world h;have d:=congrArg Machine.gs h;simp only[lone]at c d;have e:(fH fr cs)=fH fr' cs':=by simpa using d
 injection e with a b
 exact⟨a,b,c⟩
def Jd{g:ai}{fr:Frame}{cs:List Frame}{w1:World}{es:Array Event}(hg:g=fH g.frame g.callers)(e:stepG (bs T fB) true g w=.go (fH fr cs) w1 es):step (bs T fB) (lone g.frame g.callers w)=.next (lone fr cs w1):=by
 rw[hg]at e;exact step_lone_go (by rw[e];rfl)
def qY{g:ai}{o:Outcome}{w1:World}{es:Array Event}(hg:g=fH g.frame g.callers)(e:stepG (bs T fB) true g w=.ended o w1 es):step (bs T fB) (lone g.frame g.callers w)=.ended o w1:=by
 rw[hg]at e;exact step_lone_ended (by rw[e];rfl)
def cy.head{P:ad}{n:Nat}{g a b:ai}{w w1 w2:World}{es:Array Event}(k:stepG P true g w=.go a w1 es)(h:cy P n a w1 b w2):cy P (n+1) g w b w2:=by
 induction h with
 |zero=>exact .succ (.zero _ _) k
 |succ _ k' c=>exact .succ (c k) k'
def zC(fit:Fits T fB fB F (λ_:ac=>false) Z):∀(n:Nat)(g:ai)(w:World),iE T fB F Z g w->∀fr w',runN (bs T fB) n (lone g.frame g.callers w)=.next (lone fr [aX (bs T fB)] w')->cy (bs T fB) n g w (fH fr [aX (bs T fB)]) w'/\iE T fB F Z (fH fr [aX (bs T fB)]) w':=by
 intro n
 induction n with
 |zero=>
  intro g w hi fr w' h;have d:lone g.frame g.callers w=lone fr [aX (bs T fB)] w':=by simpa[runN]using h
  obtain⟨a,b,c⟩:=Dn d;have hg:=hi.fH;rw[a,b]at hg;rw[hg,c]at hi;rw[hg,c];exact⟨.zero _ _,hi⟩
 |succ n j=>
  intro g w hi fr w' h;have hg:=hi.fH;by_cases hs:lP (aX (bs T fB)) g
  ·rcases pO hi hs with⟨k,w1,es,e,q⟩|⟨o,w1,es,e⟩
   ·rw[runN,Jd hg e]at h;simp only at h
    cases n with
    |zero=>
     have d:lone k [] w1=lone fr [aX (bs T fB)] w':=by simpa[runN]using h
     have:=(Dn d).2.1;cases this
    |succ n=>
     obtain⟨o,w2,s,r⟩:=q w1;rw[runN,qY (g:=fH k []) rfl r]at h;cases h
   ·rw[runN,qY hg e]at h;cases h
  ·obtain⟨ρ,w2,t,u,l⟩:=hi.Wm fit hs
   cases e:stepG (bs T fB) true g w with
   |go m w1 es=>
    have f:=hi.step fit hs e;have i:=f.fH;have p:=e;rw[i]at p;rw[runN,Jd hg p]at h;exact⟨cy.head e (j m w1 f fr w' h).1,(j m w1 f fr w' h).2⟩
   |ended o w1 es=>
    rw[runN,qY hg e]at h;cases h
   |_=>rw[e]at l;exact l.elim
def Gw{fn:Func}{tmps g:Array Value}(a:ρ.bw T.globals.size)(j:WR T.globals.size F (br T F Z) ρ w w')(h:VA F ρ tmps g){v:Value}(e:(ar fn tmps).run (bs T fB) w=.ok v w)(b:Tape)(d:Nat):(ar fn tmps).run (bs T fB) (w.re b d)=.ok v (w.re b d):=by
 have hl:=av.loc (mP (T:=T) (fB:=fB) (fA:=fB) (Z:=Z) a fn h) a (Jc a j w.tape w.drawn).wr rfl rfl;obtain⟨_,_,c⟩:=hl;have k:(ar fn tmps).run (bs T fB) (w.re w.tape w.drawn)=.ok v w:=e;have f:=c b d;rw[show(w.re w.tape w.drawn)=w from rfl,e]at f;simpa[Result.re,Result.world]using f (λi hi=>by simp[Result.world]at hi)
def zD(fit:Fits T fB fB F (λ_:ac=>false) Z){w0 j:World}(H:ρ.bw T.globals.size)(I:WR T.globals.size F (br T F Z) ρ w0 j){f:ac}(hf:F f=true){args y:Array Value}(z:VA F ρ args y){R:Value->World->Prop}
 (J:∀v w i d,R v w->R v (bi w i d)) (calls:∀σ:Tape,Calls (bs T fB) f args (w0.re σ 0) fun | .returned v,w'=>R v w'|_,_=>False) :
 Term (bs T fB) (lQ (bs T fB) f R) (fH (bA (bs T fB) f args .normal) [aX (bs T fB)]) w0:=by
 have A:iE T fB F Z (fH (bA (bs T fB) f args .normal) [aX (bs T fB)]) w0:=
  ⟨ρ,fH (bA (bs T fB) f y .normal) [],j,⟨.alike (fe (fit.same f hf rfl) hf z),⟨[],rfl,.nil,(λx K=>by cases K;rfl),λ_=>fe (fit.same f hf rfl) hf z⟩,rfl,rfl,rfl,rfl,rfl,rfl⟩,H,I⟩
 have L:∀g w i d,lQ (bs T fB) f R g w->lQ (bs T fB) f R g (bi w i d):=by
  rintro g w i d⟨a,b,c,e,fn,v,l,M,N⟩;exact⟨a,b,c,e,fn,v,l,λp O=>M p O,J v w i d N⟩
 refine Bv (Inv:=iE T fB F Z) (Stop:=λg=>lP (aX (bs T fB)) g) (λg w i d h=>h.re i d) (λg w g1 w1 es h hs e=>h.step fit hs e) (λg w h hs=>h.loc fit hs) ?_ L A ?_
 ·intro g w g2 w2 m hi hs k q;obtain⟨g3,w3,NF,B⟩:=k.next (.zero g w) (aL m)
  rcases pO hi hs with⟨P,w1,es,e,Q⟩|⟨o,w1,es,e⟩
  ·have l:cy (bs T fB) 1 g w (fH P []) w1:=.succ (.zero _ _) e
   cases m with
   |zero=>
    obtain⟨rfl,rfl⟩:=k.det l;have:=q.1;cases this
   |succ m=>
    obtain⟨g4,w4,S,C⟩:=k.next l (by omega);obtain⟨o,w5,U,V⟩:=Q w1;rw[V]at C;cases C
  ·rw[e]at B;cases B
 ·intro σ;obtain⟨e,w',fr,r,hc,D,hl⟩:=calls σ [aX (bs T fB)]
  cases e with
  |returned v=>
   obtain⟨n,W⟩:=hc;obtain⟨k,aJ,g',aP,s,t,Y⟩:=zC fit n _ _ (A.re σ 0) fr w' W;refine⟨n,_,_,k,rfl,hl.1,hl.2.1,D,?_⟩;obtain⟨_,_,_,fn,E,u⟩:=hl;rw[D]at E;exact⟨fn,v,E,λi d=>Gw t Y s.top.noX.tmps u i d,r⟩
  |panicked c=>exact r.elim
  |outgrown=>exact r.elim
end
open Go.Conc
open Go.ConcN (sumTo upd sumTo_upd upd_ne upd_same)
section
variable {P:ad}{Shun:Loc->Prop}
def Gx(Q:Nat->ai->World->Array Event->Prop) :
 ∀(M:Nat)(gs:Array ai)(a:ai)(w:World)(sl:Option (Nat×Nat))(t:Trace)(q:Nat->Nat)(B:Nat),sumTo gs.size q<=M->gs[0]?=some a->a.status=.running->b3 P t gs q->Past Shun B t->(∀op∈t,gs.size<=op.g->op.act.touch? = none)->
  (∀d,∃a' w' es,stepG P true a (w.at d)=.go a' w' es/\Q d a' w' es/\B<=w'.heap.size/\∀e∈es,EvL Shun w'.heap.size e)->
  ∃(N d:Nat)(b:Array ai)(a':ai)(w':World)(es:Array Event)(o:Option (Nat×Nat))(k:Trace)(p:Nat->Nat),
   runNT P N (crowd gs w sl) t=(.next (crowd b w' o),k)/\b.size=gs.size/\b[0]?=some a'/\stepG P true a (w.at d)=.go a' w' es/\Q d a' w' es/\b3 P k b p/\Past Shun w'.heap.size k/\(∀op∈k,b.size<=op.g->op.act.touch? = none):=by
 intro M
 induction M with
 |zero=>
  intro gs a w sl t q B m c l f i j n;exact aux Q 0 (λ_ _ _ _ _ _ h=>absurd h (Nat.not_lt_zero _)) gs w sl t q B m c l f i j n
 |succ M r=>
  intro gs a w sl t q B m c l f i j n;exact aux Q (M+1) (λgs w sl t q B h c f i j hs=>r gs a w sl t q B (Nat.le_of_lt_succ h) c l f i j hs) gs w sl t q B m c l f i j n
 where
 aux (Q:Nat->ai->World->Array Event->Prop) (M:Nat) {a:ai} (W:∀(gs:Array ai)(w:World)(sl:Option (Nat×Nat))(t:Trace)(q:Nat->Nat)(B:Nat),sumTo gs.size q<M->gs[0]?=some a->b3 P t gs q->Past Shun B t->(∀op∈t,gs.size<=op.g->op.act.touch? = none)->
  (∀d,∃a' w' es,stepG P true a (w.at d)=.go a' w' es/\Q d a' w' es/\B<=w'.heap.size/\∀e∈es,EvL Shun w'.heap.size e)->
  ∃(N d:Nat)(b:Array ai)(a':ai)(w':World)(es:Array Event)(n:Option (Nat×Nat))(c:Trace)(v:Nat->Nat),
   runNT P N (crowd gs w sl) t=(.next (crowd b w' n),c)/\b.size=gs.size/\b[0]?=some a'/\stepG P true a (w.at d)=.go a' w' es/\Q d a' w' es/\b3 P c b v/\Past Shun w'.heap.size c/\(∀op∈c,b.size<=op.g->op.act.touch? = none)) :
  ∀(gs:Array ai)(w:World)(sl:Option (Nat×Nat))(t:Trace)(q:Nat->Nat)(B:Nat),sumTo gs.size q<=M->gs[0]?=some a->a.status=.running->b3 P t gs q->Past Shun B t->(∀op∈t,gs.size<=op.g->op.act.touch? = none)->
  (∀d,∃a' w' es,stepG P true a (w.at d)=.go a' w' es/\Q d a' w' es/\B<=w'.heap.size/\∀e∈es,EvL Shun w'.heap.size e)->
  ∃(N d:Nat)(b:Array ai)(a':ai)(w':World)(es:Array Event)(n:Option (Nat×Nat))(c:Trace)(v:Nat->Nat),
   runNT P N (crowd gs w sl) t=(.next (crowd b w' n),c)/\b.size=gs.size/\b[0]?=some a'/\stepG P true a (w.at d)=.go a' w' es/\Q d a' w' es/\b3 P c b v/\Past Shun w'.heap.size c/\(∀op∈c,b.size<=op.g->op.act.touch? = none):=by
  intro gs w sl t q B hM z E r S T U;have X:∀g∈gs,awake g:=by
   intro g hg;obtain⟨i,hi,rfl⟩:=Array.mem_iff_getElem.1 hg
   rcases aS i with rfl|F
   ·have:gs[0]=a:=by simpa[bo hi]using z
    rw[this];exact awake_of (.inl E)
   ·exact awake_of ((r.old i _ F (bo hi)).status.elim .inl λx=>.inr (.inr x))
  obtain⟨i,g,d,n,hi,hg,V⟩:=crowd_pick (P:=P) (w:=w) (sl:=sl) X ⟨0,a,z,E⟩
  rcases aS i with rfl|F
  ·obtain rfl:g=a:=by rw[z]at hi;exact(b2 hi).symm
   obtain⟨a',w',es,l,Y,Z,kG⟩:=U d;have H:=b4 (P:=P) (sl:=n) (i:=0) hi (show stepG P (0==0) g (w.at d)=_ from l);have s:((gs.map (woken P g a' w')).setIfInBounds 0 a').size=gs.size:=by simp
   have u:0<gs.size:=(Array.getElem?_eq_some_iff.1 z).1
   refine⟨1,d,(gs.map (woken P g a' w')).setIfInBounds 0 a',a',w',es,n,t++MemOp.ofEvents 0 g.frame.fn g.frame.place es,q,by simp only[runNT,V,H],s,by simp[u],l,Y,
    ⟨λj x m o=>?_,λj m=>?_⟩,(S.mono Z).own kG,λop f=>?_⟩
   ·have I:0≠j:=by omega
    rw[bp I,bq]at o;obtain⟨y,hy,rfl⟩:=Option.map_eq_some_iff.1 o;have p:=r.old j y m hy;rw[b5 p,b6 t (by omega) _ (λop f=>by obtain⟨e,_,rfl⟩:=b8 f;rfl)];exact p
   ·rw[b6 t (g':=0) (by simp at m;omega) _ (λop f=>by obtain⟨e,_,rfl⟩:=b8 f;rfl)];exact r.above j (by simpa using m)
   ·rw[s]
    rcases Array.mem_append.1 f with h|h
    ·exact T op h
    ·obtain⟨e,_,rfl⟩:=b8 h;exact λJ=>absurd (a5 u J) (a6 _)
  ·have p:=r.old i g F hi;have Yl:(i==0)=false:=by simp;omega
   have u:i<gs.size:=(Array.getElem?_eq_some_iff.1 hi).1
   cases K:q i with
   |zero=>rw[K]at p;rw[p.1]at hg;cases hg
   |succ k=>
    rw[K]at p
    rcases p with⟨hf,_⟩|⟨_,C,es,hm,Gz,Ym⟩
    ·rw[hf]at hg;cases hg
    have H:=b4 (P:=P) (sl:=n) (i:=i) hi (by rw[Yl];exact Gz (w.at d));have s:((gs.map (woken P g C (w.at d))).setIfInBounds i C).size=gs.size:=by simp
    have LO:sumTo gs.size (upd q i k)+(k+1)=sumTo gs.size q+k:=by
     have:=sumTo_upd q k id u;simpa[K]using this
    obtain⟨N,d2,b,L,SY,tJ,Yn,c,v,hr,fR,TK,l,hS,O,R⟩:=W ((gs.map (woken P g C (w.at d))).setIfInBounds i C) (w.at d) n (t++MemOp.ofEvents i g.frame.fn g.frame.place es) (upd q i k) B (by rw[s];omega)
     (by
       have I:i≠0:=by omega
       rw[bp I,bq,z]
       simp[woken_run E])
     ⟨λj x m o=>by
       by_cases D:i=j
       ·subst D;rw[Array.getElem?_setIfInBounds_self_of_lt (by simpa using u)]at o;obtain rfl:=b2 o;rw[upd_same,Deaf_own];exact Ym
       ·rw[bp D,bq]at o;obtain⟨y,hy,rfl⟩:=Option.map_eq_some_iff.1 o;have A:=r.old j y m hy;rw[b5 A,upd_ne q k (Ne.symm D),b6 t D _ (λop f=>by obtain⟨e,_,rfl⟩:=b8 f;rfl)];exact A,λj m=>by
       rw[b6 t (g':=i) (by simp at m;omega) _ (λop f=>by obtain⟨e,_,rfl⟩:=b8 f;rfl)]
       exact r.above j (by simpa using m)⟩
     (S.mute (by omega) hm) (λop f=>by
      rw[s]
      rcases Array.mem_append.1 f with h|h
      ·exact T op h
      ·obtain⟨e,_,rfl⟩:=b8 h;exact λJ=>absurd (a5 u J) (a6 _)) (λd2=>U d2)
    exact⟨N+1,d2,b,L,SY,tJ,Yn,c,v,by simp only[runNT,V,H];exact hr,fR.trans s,TK,l,hS,O,R⟩
end
end Go.bJ
namespace Go.bJ
open Go.Conc Go.ConcM
structure TL(Shun:Loc->Prop)(ρ:Ren)(n:Nat):Prop where
 cell:∀a,Shun (.cell a)->a.block<n/\∀r,¬ρ r a.block
 obj:∀b,Shun (.obj b)->b<n/\∀r,¬ρ r b
 mem:∀l,Shun l->l.isMemory=true
section
variable {T:ab}{fB fA:Array Func}{F X:ac->Bool}{Z:ae->Bool}{ρ aJ:Ren}{w w' w1 aP:World}{Shun:Loc->Prop}
def TL.step{es:Array Event}(h:TL Shun ρ w'.heap.size)(c:cE T.globals.size F (br T F Z) ρ w w' aJ w1 aP es):TL Shun aJ aP.heap.size:=by
 refine⟨λa g=>?_,λb hb=>?_,h.mem⟩
 ·obtain⟨d,e⟩:=h.cell a g;refine⟨a5 d c.fV,λr f=>?_⟩
  rcases c.only _ _ f with x|⟨_,x⟩
  ·exact e _ x
  ·omega
 ·obtain⟨d,e⟩:=h.obj b hb;refine⟨a5 d c.fV,λr f=>?_⟩
  rcases c.only _ _ f with x|⟨_,x⟩
  ·exact e _ x
  ·omega
def Ls.evL(g:WR T.globals.size F (br T F Z) ρ w w')(i:TL Shun ρ w'.heap.size){e:Event}(h:Ls ρ e):EvL Shun w'.heap.size e:=by
 obtain⟨loc,wr,k⟩:=e
 cases loc with
 |cell a=>
  obtain⟨rfl,r,d⟩:=h;refine⟨λx c hs=>?_,by simp,by simp,(g.lt d).2⟩;have f:x=⟨.cell a,wr,.plain⟩:=by simpa[b9,ca]using c.symm
  subst f;exact absurd d ((i.cell a hs).2 r)
 |obj b=>
  obtain⟨rfl,r,d⟩:=h;have e1:b9 ⟨.obj b,wr,false⟩=.access ⟨.obj b,wr,false⟩:=by cases wr<;>rfl
  refine⟨λx c hs=>?_,by simp,by simp,?_⟩
  ·rw[e1]at c;have f:x=⟨.obj b,wr,.plain⟩:=by simpa[ca]using c.symm
   subst f;exact absurd d ((i.obj b hs).2 r)
  ·rw[e1];exact(g.lt d).2
 |mark m=>
  have j:m=.noRoom:=h;subst j;exact⟨λx c _=>by simp[b9,ca]at c,by simp,by simp,trivial⟩
 |output=>exact h.elim
 |goroutines=>exact h.elim
structure Dp(P:ad)(Shun:Loc->Prop)(gs:Array ai)(g:ai)(w:World)(t:Trace)(q:Nat->Nat):Prop where
 main:gs[0]?=some g
 old:b3 P t gs q
 GA:Past Shun w.heap.size t
 num:∀op∈t,gs.size<=op.g->op.act.touch? = none
structure Kept(ρ:Ren)(w' aP:World):Prop where
 tape:aP.tape=w'.tape
 os:OsLater w'.os aP.os
 output:aP.output=w'.output
 size:w'.heap.size<=aP.heap.size
 block:∀b,b<w'.heap.size->(∀a,¬ρ a b)->aP.heap[b]?=w'.heap[b]?
def Kept.TM{es:Array Event}{d:Nat}(h:cE T.globals.size F (br T F Z) ρ (w.re w'.tape d) (w'.re w'.tape d) aJ w1 aP es):Kept ρ w' aP:=
 ⟨h.wH,by rw[h.XV];exact .refl _,h.mK,h.fV,h.frame⟩
def sA(ρ aJ:Ren)(w w' w1 aP:World):Prop:=ρ.le aJ/\(∀a b,aJ a b->ρ a b\/(w.heap.size<=a/\w'.heap.size<=b))/\
 ∀a b,ρ a b->∀i,nX w1 a i->nX w a i/\aP.cell? ⟨b,i,none⟩=w'.cell? ⟨b,i,none⟩
def Kept.trans{c:World}(h:Kept ρ w' aP)(hg:∀a b,aJ a b->ρ a b\/w'.heap.size<=b)(k:Kept aJ aP c):Kept ρ w' c:=
 ⟨k.tape.trans h.tape,h.os.trans k.os,k.output.trans h.output,aH h.size k.size,λb hb d=>by
   rw[k.block b (a5 hb h.size) λa x=>?_,h.block b hb d]
   grind⟩
def BD(T:ab)(fB fA:Array Func)(F X:ac->Bool)(Z:ae->Bool)(End:ai->World->Prop):Prop:=
 ∀(x:ac),X x=true->∀(ρ:Ren)(a f:Array Value)(c b:Frame)(l e:List Frame)(w w':World)(gs:Array ai)(i:Option (Nat×Nat))(t:Trace)(q:Nat->Nat)(Shun:Loc->Prop),
  ρ.bw T.globals.size->WR T.globals.size F (br T F Z) ρ w w'->VA F ρ a f->aQ T F Z fB fA ρ c b->cj T F Z fB fA ρ l e->
  Term ⟨T,fB⟩ End (fH (bA ⟨T,fB⟩ x a .normal) (c::l++[aX ⟨T,fB⟩])) w->iE T fB F Z (fH (bA ⟨T,fB⟩ x a .normal) (c::l++[aX ⟨T,fB⟩])) w->
  Dp ⟨T,fA⟩ Shun gs (fH (bA ⟨T,fA⟩ x f .normal) (b::e)) w' t q->TL Shun ρ w'.heap.size->Calm w'.tape->
  ∃(N:Nat)(aJ:Ren)(v v':Value)(w1 aP:World)(g:Array ai)(j:Option (Nat×Nat))(t1:Trace)(q1:Nat->Nat)(h:Loc->Prop),
   runNT ⟨T,fA⟩ N (crowd gs w' i) t=(.next (crowd g aP j),t1)/\Dp ⟨T,fA⟩ h g (fH (b.finish v') e) aP t1 q1/\TL h aJ aP.heap.size/\
   VR F aJ v v'/\aJ.bw T.globals.size/\WR T.globals.size F (br T F Z) aJ w1 aP/\sA ρ aJ w w' w1 aP/\Kept ρ w' aP/\
   (∃m k d,cy ⟨T,fB⟩ (m+1) (fH (bA ⟨T,fB⟩ x a .normal) (c::l++[aX ⟨T,fB⟩])) (w.re k d) (fH (c.finish v) (l++[aX ⟨T,fB⟩])) w1)/\iE T fB F Z (fH (c.finish v) (l++[aX ⟨T,fB⟩])) w1/\w.heap.size<=w1.heap.size
def results_tmp{fn:Func}{t:Tmp}(h:fn.results=#[.tmp t])(tmps:Array Value):ar fn tmps=pure (tmps.getD t undef):=by
 unfold ar
 simp_all
def sA.trans{c:Ren}{w2 d:World}(h:sA ρ aJ w w' w1 aP)(k:sA aJ c w1 aP w2 d)(j:w.heap.size<=w1.heap.size)(l:w'.heap.size<=aP.heap.size):sA ρ c w w' w2 d:=
 ⟨Ren.le_trans h.1 k.1,λa b x=>by
   rcases k.2.1 a b x with y|⟨y,z⟩
   ·exact h.2.1 a b y
   grind,λa b x i f=>by
   obtain⟨y,e⟩:=k.2.2 a b (h.1 x) i f;obtain⟨z,g⟩:=h.2.2 a b x i y
   exact⟨z,e.trans g⟩⟩
def kK(T:ab)(fB fA:Array Func)(F X:ac->Bool)(Z:ae->Bool)(R:Value->World->Prop)(g:ai)(w:World):Prop:=
 ∀(ρ:Ren)(c:ai)(w':World)(gs:Array ai)(f:Option (Nat×Nat))(t:Trace)(q:Nat->Nat)(Shun:Loc->Prop),
  iE T fB F Z g w->GR T fB fA F X Z (aX ⟨T,fB⟩) ρ g c->ρ.bw T.globals.size->WR T.globals.size F (br T F Z) ρ w w'->Dp ⟨T,fA⟩ Shun gs c w' t q->TL Shun ρ w'.heap.size->Calm w'.tape->
  ∃(N:Nat)(aJ:Ren)(v v':Value)(a aP:World)(e:Array ai)(b:ai)(h:Option (Nat×Nat))(t1:Trace)(q1:Nat->Nat)(i:Loc->Prop),
   runNT ⟨T,fA⟩ N (crowd gs w' f) t=(.next (crowd e aP h),t1)/\Dp ⟨T,fA⟩ i e b aP t1 q1/\b.status=.running/\(∀d,stepG ⟨T,fA⟩ true b (aP.at d)=.ended (.done v') (aP.at d))/\
   VR F aJ v v'/\R v a/\WR T.globals.size F (br T F Z) aJ a aP/\aJ.bw T.globals.size/\sA ρ aJ w w' a aP/\Kept ρ w' aP
def BF(W:Fits T fB fA F X Z)(Y:Fits T fB fB F (λ_:ac=>false) Z){f:ac}{R:Value->World->Prop}(B:T.inits.idxOf? f=none){fn:Func}{tr:Tmp}(j:fB[f]?=some fn)(k:fA[f]?=some fn)(x:fn.results=#[.tmp tr])
 {g:ai} {w:World} (h:lQ (bs T fB) f R g w):kK T fB fA F X Z R g w:=by
 intro ρ m w' gs C t q Shun hi hg D E H vJ lS;obtain⟨e1,I,J,K,n,v,L,M,N⟩:=h;have i:fB[f]?=some n:=L;rw[j]at i;cases i;obtain⟨O,⟨l,hl,hcs,hb,o⟩,st,c,dy,y,of,z⟩:=hg;obtain rfl:l=[]:=by
  simp_all
 have e:=o rfl;have P:v=g.frame.tmps.getD tr undef:=by
  have:=M w.tape w.drawn;rw[results_tmp x]at this;cases this;rfl
 refine⟨0,ρ,v,m.frame.tmps.getD tr undef,w,w',gs,m,C,t,q,Shun,rfl,H,c,λd=>?_,?_,N,E,D,⟨Ren.le_refl _,λa b h=>.inl h,λ_ _ _ _ h=>⟨h,rfl⟩⟩,⟨rfl,.refl _,rfl,aw _,λ_ _ _=>rfl⟩⟩
 ·obtain⟨p,cs',s',d',o'⟩:=m;simp only at hcs c y z e;subst c y z;cases hcs;have r:=e.mode;have s:=e.defers;have u:=e.fn;have A:=e.bX;rw[I]at r;rw[J]at s;rw[K]at u;obtain⟨Q,S,U,cv,dQ,bX,V⟩:=p;simp only at r s u A;subst u A;cases r;cases s;show ap (bs T fA) true ⟨Q,S,U,[],.returning,.normal,V⟩ [] none (w'.at d)=_;unfold ap;simp only[k,results_tmp x];show bM _ (ao (bs T fA) true _ [] none _ _)=_;unfold ao;simp only[B];rfl
 ·rw[P];exact VA.getD e.tmps tr .undef
def vf{End:ai->World->Prop}(hE:∀fr w,¬End (fH fr []) w){g:ai}{w:World}{G1:Tape->Nat->ai}{W1:Tape->Nat->World}(hi:iE T fB F Z g w)(hs:lP (aX (bs T fB)) g)
 (h:∀c d,∃es,stepG (bs T fB) true g (w.re c d)=.go (G1 c d) (W1 c d) es) (k:∀c d,Term (bs T fB) End (G1 c d) (W1 c d)):False:=by
 obtain⟨es,e⟩:=h w.tape w.drawn;have f:stepG (bs T fB) true g w=.go (G1 w.tape w.drawn) (W1 w.tape w.drawn) es:=e;have i:=k w.tape w.drawn
 rcases pO hi hs with⟨q,w1,l,e1,m⟩|⟨o,w1,l,e1⟩
 ·rw[e1]at f
  injection f with a b _
  rw[<-a,<-b]at i
  cases i with
  |done hd=>exact hE _ _ hd
  |step r s n k2=>
   obtain⟨t,j⟩:=n w.tape w.drawn;obtain⟨o,w3,u,p⟩:=m (w1.re w.tape w.drawn);rw[p]at j;cases j
 ·rw[e1]at f;cases f
def TN{f f':Frame}(h:Gm T fB fA F X Z ρ f f'):aQ T F Z fB fA ρ f f'\/∃x a a',X x=true/\F x=true/\VA F ρ a a'/\f=bA (bs T fB) x a .normal/\f'=bA (bs T fA) x a' .normal:=by
 cases h with
 |alike h=>exact .inl h
 |enters x b hf h=>grind
def BH(OM:Fits T fB fA F X Z)(LR:Fits T fB fB F (λ_:ac=>false) Z){f:ac}{R:Value->World->Prop}(ph:BD T fB fA F X Z (lQ (bs T fB) f R)){g:ai}{w:World}{G1:Tape->Nat->ai}{W1:Tape->Nat->World}
 (h:∀i d,∃es,stepG (bs T fB) true g (w.re i d)=.go (G1 i d) (W1 i d) es) (k:∀i d,Term (bs T fB) (lQ (bs T fB) f R) (G1 i d) (W1 i d))
 (ih:∀i d,kK T fB fA F X Z R (G1 i d) (W1 i d)) (S:∀n E w2 i d,cy (bs T fB) (n+1) g (w.re i d) E w2->kK T fB fA F X Z R E w2):kK T fB fA F X Z R g w:=by
 intro ρ p w' gs U t q Shun hi hg L M s V W;have step:∀(ρ:Ren)(p:ai)(w':World),GR T fB fA F X Z (aX (bs T fB)) ρ g p->aQ T F Z fB fA ρ g.frame p.frame->ρ.bw T.globals.size->WR T.globals.size F (br T F Z) ρ w w'->¬lP (aX (bs T fB)) g->∀d,
  ∃aJ o aP es r d2,stepG (bs T fA) true p (w'.at d)=.go o aP es/\cE T.globals.size F (br T F Z) ρ (w.re w'.tape d) (w'.re w'.tape d) aJ ((W1 w'.tape d).re r d2) aP es/\GR T fB fA F X Z (aX (bs T fB)) aJ (G1 w'.tape d) o:=by
  intro ρ p w' hg H L M hs d;have:=sr OM (Jc L M w'.tape d) hg H (Bz hs);obtain⟨es,e⟩:=h w'.tape d;rw[e]at this;obtain⟨aJ,vY,aP,aT,r,d2,e1,s,A⟩:=this;exact⟨aJ,vY,aP,aT,r,d2,e1,s,A⟩
 have hs:¬lP (aX (bs T fB)) g:=λhs=>vf (λfr w hd=>by have:=hd.1;cases this) hi hs h k;have alike:aQ T F Z fB fA ρ g.frame p.frame->∃(N:Nat)(aJ:Ren)(v v':Value)(B aP:World)(O:Array ai)(Y:ai)(rQ:Option (Nat×Nat))(t1:Trace)(q1:Nat->Nat)(qF:Loc->Prop),
  runNT (bs T fA) N (crowd gs w' U) t=(.next (crowd O aP rQ),t1)/\Dp (bs T fA) qF O Y aP t1 q1/\Y.status=.running/\(∀d,stepG (bs T fA) true Y (aP.at d)=.ended (.done v') (aP.at d))/\
  VR F aJ v v'/\R v B/\WR T.globals.size F (br T F Z) aJ B aP/\aJ.bw T.globals.size/\sA ρ aJ w w' B aP/\Kept ρ w' aP:=by
  intro H;obtain⟨N,d,jk,o,aP,es,ov,t',q',hr,fW,TK,hgo,⟨aJ,r,d2,j,A⟩,hL',hP',hN'⟩:=Gx (P:=bs T fA) (Shun:=Shun)
   (λd o aP es=>∃aJ r d2,cE T.globals.size F (br T F Z) ρ (w.re w'.tape d) (w'.re w'.tape d) aJ ((W1 w'.tape d).re r d2) aP es/\GR T fB fA F X Z (aX (bs T fB)) aJ (G1 w'.tape d) o)
   (Go.ConcN.sumTo gs.size q) gs p w' U t q w'.heap.size (aw _) s.main hg.st' s.old s.GA s.num (λd=>by
    obtain⟨aJ,o,aP,es,r,d2,e1,I,e3⟩:=step ρ p w' hg H L M hs d
    exact⟨o,aP,es,e1,⟨aJ,r,d2,I,e3⟩,I.fV,λe he=>Ls.evL I.wr (TL.step (w':=w'.re w'.tape d) V I) (I.ev e he)⟩)
  have Wr:Kept ρ w' aP:=Kept.TM j;obtain⟨es0,e0⟩:=h w'.tape d;have Gu:iE T fB F Z (G1 w'.tape d) (W1 w'.tape d):=(hi.re w'.tape d).step LR hs e0;obtain⟨N2,dU,v,v',B,jz,C,E,D,t2,q2,OP,r1,r2,r3,r4,r5,r6,r7,r8,r9,TP⟩:=ih w'.tape d aJ o aP jk ov t' q' Shun Gu A j.inj ⟨j.wr.pK,j.wr.gN,j.wr.obj⟩ ⟨TK,hL',hP',hN'⟩ (TL.step (w':=w'.re w'.tape d) V j) (by rw[Wr.tape];exact W);have acD:sA ρ aJ w w' (W1 w'.tape d) aP:=⟨j.le,j.only,j.hol⟩
  refine⟨N+N2,dU,v,v',B,jz,C,E,D,t2,q2,OP,Go.ConcX.runNT_trans hr r1,r2,r3,r4,r5,r6,r7,r8,acD.trans r9 j.size j.fV,Wr.trans (λa b x=>?_) TP⟩
  rcases j.only a b x with y|⟨_,y⟩
  ·exact .inl y
  ·exact .inr y
 have OQ:=hg;obtain⟨acA,⟨l,hl,hcs,hb,hal⟩,st,J,dy,Bl,of,Bm⟩:=hg
 cases l with
 |nil=>exact alike (hal rfl)
 |cons c l=>
  rcases TN acA with H|⟨x,a,o,hx,hf,ha,lR,K⟩
  ·exact alike H
  ·have eg:g=fH (bA (bs T fB) x a .normal) (c::l++[aX (bs T fB)]):=by rw[hi.fH,lR,hl]
   obtain⟨fr',cs',s',d',o'⟩:=p;simp only at hcs J Bl Bm K;subst J Bl Bm K
   cases hcs with
   |@cons _ c' _ l' hc sB=>
    rw[eg]at hi;have ht:Term (bs T fB) (lQ (bs T fB) f R) (fH (bA (bs T fB) x a .normal) (c::l++[aX (bs T fB)])) w:=by
     rw[<-eg];exact .step G1 W1 h k
    obtain⟨N,aJ,v,v',w1,aP,O,rQ,t1,q1,qF,p1,p2,p3,p4,p5,p6,Q,p8,⟨m,i,d,p9⟩,Cz,Fy⟩:=ph x hx ρ a o c c' l l' w w' gs U t q Shun L M ha hc sB ht hi s V W;rw[<-eg]at p9;have OS:=S m _ _ i d p9;have eP:dn (c.finish v::l):=by
     have:dn (c::l):=hb.pop;exact this.top (bZ _ _)
    have LS:=(hc.mono Q.1).finish p4;obtain⟨N2,dU,u,u',B,jz,C,E,D,t2,q2,OP,r1,r2,r3,r4,r5,r6,r7,r8,r9,TP⟩:=OS aJ (fH (c'.finish v') l') aP O rQ t1 q1 qF Cz
     ⟨.alike LS,⟨l,rfl,sB.mono Q.1,eP,λ_=>LS⟩,rfl,rfl,rfl,rfl,rfl,rfl⟩ p5 p6 p2 p3 (by rw[p8.tape];exact W)
    refine⟨N+N2,dU,u,u',B,jz,C,E,D,t2,q2,OP,Go.ConcX.runNT_trans p1 r1,r2,r3,r4,r5,r6,r7,r8,Q.trans r9 Fy p8.size,p8.trans (λa b y=>?_) TP⟩
    rcases Q.2.1 a b y with z|⟨_,z⟩
    ·exact .inl z
    ·exact .inr z
def LU{R:Value->World->Prop}{g b:ai}{w w2:World}{n:Nat}(hi:iE T fB F Z g w)(hs:lP (aX (bs T fB)) g)(a:cy (bs T fB) (n+1) g w b w2):kK T fB fA F X Z R b w2:=by
 obtain⟨p,w3,r,c⟩:=a.next (.zero g w) (aL n)
 rcases pO hi hs with⟨h,w1,es,e,i⟩|⟨o,w1,es,e⟩
 ·have d:cy (bs T fB) 1 g w (fH h []) w1:=.succ (.zero _ _) e
  cases n with
  |zero=>
   obtain⟨rfl,rfl⟩:=a.det d;intro ρ s w' gs u t q Shun _ hg;obtain⟨_,⟨l,hl,_⟩,_⟩:=hg;cases l<;>cases hl
  |succ n=>
   obtain⟨v,w4,j,f⟩:=a.next d (by omega);obtain⟨o,w5,k,m⟩:=i w1;rw[m]at f;cases f
 ·rw[e]at c;cases c
def Yp(x:Fits T fB fA F X Z)(p:Fits T fB fB F (λ_:ac=>false) Z){f:ac}{R:Value->World->Prop}(A:∀v w i d,R v w->R v (bi w i d))(B:T.inits.idxOf? f=none){fn:Func}{tr:Tmp}(q:fB[f]?=some fn)(r:fA[f]?=some fn)(C:fn.results=#[.tmp tr])
 (D:BD T fB fA F X Z (lQ (bs T fB) f R)) {g:ai} {w:World} (E:Term (bs T fB) (lQ (bs T fB) f R) g w) :
 iE T fB F Z g w->∀n j w2 i d,cy (bs T fB) n g (w.re i d) j w2->kK T fB fA F X Z R j w2:=by
 induction E with
 |@done g w h=>
  intro hi n j w2 i d l;have H:lQ (bs T fB) f R g (w.re i d):=by
   obtain⟨a,b,c,e,fn,v,s,I,J⟩:=h;exact⟨a,b,c,e,fn,v,s,λm t=>I m t,A v w i d J⟩
  cases n with
  |zero=>cases l;exact BF x p B q r C H
  |succ n=>
   have hs:lP (aX (bs T fB)) g:=⟨by rw[h.2.1];simp,h.2.2.1,h.1⟩
   exact LU (hi.re i d) hs l
 |@step g w u o h k y=>
  intro hi n j w2 i d l;have hs:¬lP (aX (bs T fB)) g:=λhs=>vf (λfr w hd=>by have:=hd.1;cases this) hi hs h k;have z:∀i d,iE T fB F Z (u i d) (o i d):=λi d=>by
   obtain⟨es,e⟩:=h i d;exact(hi.re i d).step p hs e
  have later:∀n j w2 i d,cy (bs T fB) (n+1) g (w.re i d) j w2->kK T fB fA F X Z R j w2:=by
   intro n j w2 i d l;obtain⟨es,e⟩:=h i d;have s:cy (bs T fB) 1 g (w.re i d) (u i d) (o i d):=.succ (.zero _ _) e;rw[Nat.add_comm]at l;exact y i d (z i d) n j w2 (o i d).tape (o i d).drawn (l.suffix s)
  cases n with
  |zero=>
   cases l;refine BH x p D (G1:=u) (W1:=o) (λi d=>h i d) k (λi d=>?_) (λn j w2 m t hc=>later n j w2 m t hc);exact y i d (z i d) 0 _ _ (o i d).tape (o i d).drawn (.zero _ _)
  |succ n=>exact later n j w2 i d l
end
end Go.bJ
namespace Go.bJ
def BI(T:ab)(F:ac->Bool)(t:ae):Bool:=match T.types[t]? with
 |some i=>(match i.zero with|some v=>pM F 12 v|none=>true)
 |none=>true
def Zof(n:Nat):ae->Bool:=λt=>decide (t<n)
def Jf{T:ab}{F:ac->Bool}{n:Nat}(c:n<=T.types.size)(h:(bT n).all (BI T F)=true)(a:((T.info? 0).all λi=>(i.methods.find? (·.name == "")).isNone)=true):dM T F (Zof n):=by
 refine⟨?_,λi hi=>by rw[hi]at a;simpa using a⟩;intro t i v d hi hv;have hl:t<n:=by simpa[Zof]using d
 have b:=List.all_eq_true.1 h t (List.mem_range.2 hl);unfold Tables.info? at hi;rw[if_pos (a5 hl c)]at hi;simp only[BI,hi,hv]at b;exact uY 12 b
def mI(T:ab)(F:ac->Bool)(Z:ae->Bool)(fn:Func):Bool:=
 fn.name != "runtime.NumGoroutine" && match fn.body with|some c=>br T F Z c|none=>false
def Jg(T:ab)(fs:Array Func)(F X:ac->Bool)(Z:ae->Bool)(n:Nat):Bool:=
 (bT n).all λf=>!F f||X f||match fs[f]? with|some fn=>mI T F Z fn|none=>false
def BJ{T:ab}{fB fA:Array Func}{F X:ac->Bool}{Z:ae->Bool}{n:Nat}(k:dM T F Z)(m:∀f,F f=true->f<n)(same:∀f,X f=false->fB[f]?=fA[f]?)
 (o:∀f,X f=true->(∃b,fB[f]?=some b/\b.body.isSome=true/\b.name≠ "runtime.NumGoroutine")/\∃a,fA[f]?=some a/\a.body.isSome=true/\a.name≠ "runtime.NumGoroutine")
 (h:Jg T fA F X Z n=true) (q:fB.size<=cn):Fits T fB fA F X Z:=by
 have key:∀f,F f=true->X f=false->∃fn c,fA[f]?=some fn/\fn.body=some c/\br T F Z c=true/\fn.name≠ "runtime.NumGoroutine":=by
  intro f hf d;have:=List.all_eq_true.1 h f (List.mem_range.2 (m f hf));simp only[hf,d,bd,Bool.false_or]at this
  cases i:fA[f]? with
  |none=>rw[i]at this;cases this
  |some fn=>
   rw[i]at this;simp only[mI,bc,bne_iff_ne,ne_eq]at this
   cases hb:fn.body with
   |none=>rw[hb]at this;cases this.2
   |some c=>rw[hb]at this;exact⟨fn,c,rfl,hb,this.2,this.1⟩
 refine⟨k,⟨λl=>Array.getElem?_eq_none (by omega),λf hf=>?_⟩,λf hf d=>?_⟩
 ·cases d:X f with
  |true=>exact o f d
  |false=>
   obtain⟨fn,c,e,g,_,j⟩:=key f hf d;have hs:fn.body.isSome=true:=by rw[g];rfl
   exact⟨⟨fn,(same f d).trans e,hs,j⟩,fn,e,hs,j⟩
 ·obtain⟨fn,c,e,g,p,_⟩:=key f hf d;exact⟨fn,c,(same f d).trans e,e,g,p⟩
end Go.bJ
namespace Go.Proofs
open Go.bJ
private def dat(l:List Nat):Array Edge:=(l.map λi=>{ on:=i,ground:=Ground.data }).toArray
private def opr(dst:Option Nat)(op:Op)(after:List Nat:=[])(type:ae:=0):Oper:={ dst,op,type,pos:= "b",after:=dat after,guard:=none }
def FF:ac->Bool:=λf=>decide (f<156) && !([2,62,63,64,65,66,67,89,90,92,93,96,97,100,121,123,0,1,83,84,85,86,87,88,91,94,95,98,99,101,102,116,117,118,119,120,122,124,129,130,131,132,133,134,135,140,141,142,143,144,145,146,147,148,149,150,151,152,153,154,155].contains f)
def XX:ac->Bool:=λf=>f==39
def NN:ac->Bool:=λ_=>false
noncomputable def ZZ:ae->Bool:=Zof Tryz.progTables.types.size
def zeros:(bT Tryz.progTables.types.size).all (BI Tryz.progTables FF)=true:=by kernel_rfl
def Jh:dM Tryz.progTables FF ZZ:=Jf (aw _) zeros (by kernel_rfl)
def acG:Jg Tryz.progTables Tryz.funcs FF XX ZZ 156=true:=by kernel_rfl
end Go.Proofs
