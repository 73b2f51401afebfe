/- Part of the proof of FieldFlat and FieldMarshals. -/
import Derived.Test.YtmkjeaacgibnoaaGreatY09
import Derived.Test.YtmkjeaacgibnoaaGreatY14
import Derived.Conc.AppendEvents3
import Derived.Conc.Own4
import Derived.Laws.Cells
import Derived.Laws.CopyRow
import Derived.RangeFuncRecord
set_option linter.all false
open Go renaming Goroutine->aa,deafBehind->ab,Program->ac,TypeId->ad,Operand->ae,execOp->ag,loadVar->ai,FuncId->ao,Deferred->ap,resolve->aq,invoke->ar,typeInfo->aw,storeCells->aB,setRow_heap->aF,storeVar->aH,sizeOf->aI,run_underlying->aL,setRow_other->aP
open Go.MemAct renaming ofEvent->a5
open Go.World renaming cell?->a6,re->a7,putObj->a8,size_alloc->a9
open Go.Conc renaming mem_seen->ba,seen_none->bb
open Array renaming foldl_toList->bd,append_empty->bi
open List renaming foldl_cons->bj,getElem?_take->bl,getElem?_toArray->bo,append_assoc->bp,getElem?_append_right->bq,getElem?_append_left->br
open Nat renaming le_refl->bs,lt_or_ge->bu,le_of_not_lt->bv,le_trans->bx,lt_of_lt_of_le->bA,ble->bC,le_of_ble_eq_true->bL
open Bool renaming rec->bM,false_eq_true->bR
open Go.GStep renaming after->bT
open Go.Frame renaming eval->bX,enter->b1,round->b2
open Go.Sem renaming runT_fst->b3,getObj->b4,runT->b6,setObj->b7
open Go.stepG renaming exec->b8,apply->b9
open Go.Instr renaming yield->ca,alloc->cb,indexAt->cc
open Go.Obj renaming isChan->cd
namespace Go.Ph
open Go.Conc Go.ConcN
open Go.ConcM (MuAt muA msA OsLater muBlock)
open Go.ConcR (KK WgAt stA smA rd wr mk)
section
variable {X:Fix}{V:Vw}{q:Bool}{Stop:Stp}{M:Own}{d:Nat}{g g':aa}{w w':World}{es:Array Event}{B:Nat}
def Own.more(M:Own)(w w':World):Own:=λb=>M b\/(w.heap.size<=b/\b<w'.heap.size)
def DF{a:Addr}{wr:Bool}(c:M a.block)(f:a.block<B):jG X V M B ⟨.cell a,wr,false⟩:=by
 refine⟨λx b=>?_,by simp,f⟩;have e:(a5 ⟨.cell a,wr,false⟩).touch? = some ⟨.cell a,wr,.plain⟩:=rfl;rw[e]at b;cases b;exact⟨rfl,.inr ⟨rfl,.inl (.inl c)⟩⟩
def Pf{a:Addr}{wr:Bool}(c:a.block=X.Tb)(f:V.row a.off)(h:a.block<B):jG X V M B ⟨.cell a,wr,false⟩:=by
 refine⟨λx b=>?_,by simp,h⟩;have e:(a5 ⟨.cell a,wr,false⟩).touch? = some ⟨.cell a,wr,.plain⟩:=rfl;rw[e]at b;cases b;exact⟨rfl,.inr ⟨rfl,.inl (.inr ⟨c,f⟩)⟩⟩
def DG{b:Nat}{wr:Bool}(hb:M b)(c:b<B):jG X V M B ⟨.obj b,wr,false⟩:=by
 have e:(a5 ⟨.obj b,wr,false⟩).touch? = some ⟨.obj b,wr,.plain⟩:=by cases wr<;>rfl
 have l:(a5 ⟨.obj b,wr,false⟩).low B:=by cases wr<;>exact c
 refine⟨λx a=>?_,by simp,l⟩;rw[e]at a;cases a;exact⟨rfl,.inr ⟨rfl,.inl hb⟩⟩
def Ub{a:Addr}(c:V.st a.block)(hs:¬X.Shun (.cell a))(f:a.block<B):jG X V M B ⟨.cell a,false,false⟩:=by
 refine⟨λx b=>?_,by simp,f⟩;have e:(a5 ⟨.cell a,false,false⟩).touch? = some ⟨.cell a,false,.plain⟩:=rfl;rw[e]at b;cases b;exact⟨rfl,.inr ⟨rfl,.inr ⟨⟨hs,c⟩,rfl⟩⟩⟩
def ay.own(hc:Clear X V M)(hs:g.status=.running)(hl:Live X w)
 (h:∀a,Rl X V M w a->∃g' w' es,stepG X.P (V.g==0) g a=.go g' w' es/\w'.tape=a.tape/\w'.output=a.output/\OsLater a.os w'.os/\a.heap.size<=w'.heap.size/\(∀b,b<a.heap.size->¬M b->w'.heap[b]?=a.heap[b]?)/\
   (∀e∈es,jG X V (M.more a w') w'.heap.size e)/\g'.status=.running/\ay X V false Stop (M.more a w') (ab d es) g' w'):ay X V false Stop M d g w:=
 .step hs λa r=>by
  obtain⟨g',w',es,l,m,n,p,s,f,t,u,v⟩:=h a r;have i:∀{b:Nat}{o:Obj},a.heap[b]?=some o->b<a.heap.size:=λh=>(Array.getElem?_eq_some_iff.1 h).1;obtain⟨⟨_,_,v1⟩,⟨_,_,x⟩,c,y,z⟩:=r.live hl;have no:∀b,(b=X.Mu\/b=X.Wg\/b=X.Tb)->¬M b:=λb hb j=>by
   have:=hc.own b j
   rcases hb with rfl|rfl|rfl
   ·exact this.1 rfl
   ·exact this.2.1 rfl
   ·exact this.2.2 rfl
  have k:=f X.Tb (i y) (no _ (.inr (.inr rfl)))
  refine⟨g',w',es,_,_,l,⟨m,n,p,s,λb hb j _ _ _=>f b hb j,λc h=>⟨c,by rw[k];exact h,rfl⟩,λo _=>by simp only[a6,k],by simp,λb=>Iff.rfl,t,by simp,rfl⟩,
   ⟨f _ (i v1) (no _ (.inl rfl)),f _ (i x) (no _ (.inr (.inl rfl)))⟩,u,v⟩
end
end Go.Ph
namespace Go.Ph
open Go.Conc Go.ConcN
section
variable {P:ac}{mn:Bool}{w w':World}{g:aa}{o:Oper}{t:ad}{x:ae}{a:Addr}{v:Value}
def uu{ev:ae->Value}(b:o.op=.load t x)(c:ev x=.pointer (some a)):ag ev o=(do pure (.value (<-ai t a)):Sem Next):=by
 unfold ag;simp only[b,c];rfl
def GO(c:bF g=some o)(f:o.op=.load t x)(h:g.frame.eval x=.pointer (some a))(b:(ai t a).run P w=.ok v w) :
 ∃es,stepG P mn g w=.go (fin g v) w es/\∀e∈es,e∈(ai t a).events P w #[]:=by
 have e1:=uu f h;refine⟨_,dF (v:=v) (w':=w) c (by rw[e1];simp[b]),λe i=>?_⟩;have:=ba i;rw[e1]at this;simpa[b,Result.evThen]using this
def mV{es:Array Event}(d:Nat)(h:∀e∈es,(∃a wr,e=⟨.cell a,wr,false⟩)\/∃b wr,e=⟨.obj b,wr,false⟩):ab d es=d:=by
 unfold ab;rw[<-bd];have:∀e∈es.toList,(∃a wr,e=⟨.cell a,wr,false⟩)\/∃b wr,e=⟨.obj b,wr,false⟩:=λe c=>h e (Array.mem_toList_iff.1 c);generalize es.toList=l at this
 induction l generalizing d with
 |nil=>rfl
 |cons e l f=>
  rw[bj]
  rcases this e (by simp) with⟨a,wr,rfl⟩|⟨b,wr,rfl⟩<;>exact f d λe c=>this e (by simp[c])
variable {X:Fix}{V:Vw}{Stop:Stp}{M:Own}{d:Nat}
def pU(M:Own)(w:World):M.more w w=M:=by
 funext b;unfold Own.more;exact propext ⟨λh=>h.resolve_right λx=>by omega,.inl⟩
def ay.load(hc:Clear X V M)(hl:Live X w)(i:bF g=some o)(m:o.op=.load t x)(n:g.frame.eval x=.pointer (some a))
 (h:∀b,Rl X V M w b->(ai t a).run X.P b=.ok v b/\a.block<b.heap.size/\∀e∈(ai t a).events X.P b #[],∃a':Addr,a'.block=a.block/\e=⟨.cell a',false,false⟩)
 (c:(V.st a.block/\∀a':Addr,a'.block=a.block->¬X.Shun (.cell a'))\/M a.block) (p:ay X V false Stop M d (fin g v) w):ay X V false Stop M d g w:=
 .own hc (aK i).1 hl λb r=>by
  obtain⟨q,j,s⟩:=h b r;obtain⟨es,e1,u⟩:=GO (P:=X.P) (mn:=V.g==0) i m n q;have l:∀e∈es,∃a':Addr,a'.block=a.block/\e=⟨.cell a',false,false⟩:=λe f=>s e (u e f);refine⟨_,b,es,e1,rfl,rfl,.refl _,bs _,λ_ _ _=>rfl,λe f=>?_,(aK i).2.2 _,?_⟩
  ·obtain⟨a',k1,rfl⟩:=l e f;rw[pU]
   rcases c with c|c
   ·exact Ub (by rw[k1];exact c.1) (c.2 a' k1) (by rw[k1];exact j)
   ·exact DF (by rw[k1];exact c) (by rw[k1];exact j)
  ·rw[pU,mV d λe f=>by obtain⟨a',_,k⟩:=l e f;exact .inl ⟨a',false,k⟩];exact p.rely r
end
open Go.bJ
open Go.ConcM (MuAt muA msA OsLater muBlock)
open Go.ConcR (KK WgAt stA smA rd wr mk)
structure StO(V:Vw)(M:Own)(Bs:Nat)(ρ:Ren):Prop where
 st:∀a b,ρ a b->a<Bs->V.st b\/M b
 own:∀a b,ρ a b->Bs<=a->M b
section
variable {T:Tables}{fB fA:Array Func}{F:ao->Bool}{Z:ad->Bool}{X:Fix}{V:Vw}{M:Own}{Bs:Nat}{wL wL1 w w1:World}{ρ aJ:Ren}{newL new:Array Event}
def GY(hc:Clear X V M)(k:StO V M Bs ρ)(I:GV T F Z Bs ρ wL w)(hs:cI Bs T.globals.size F (codeOk T F Z) ρ wL w aJ wL1 w1 new)(P:fK aJ newL.toList new.toList)
 (Q:∀a,a<Bs->wL1.heap[a]?=wL.heap[a]?) (t:∀e∈newL,¬BQ Bs e)
 (u:X.Mu<w.heap.size) (v:X.Wg<w.heap.size) (y:X.Tb<w.heap.size) (d:Nat) :
 let M':Own:=λb=>M b\/(w.heap.size<=b/\b<w1.heap.size)
 Dl X V false M d w w1 new M' (ab d new)/\L3 X w w1/\StO V M' Bs aJ:=by
 intro M';have z:∀b,(b=X.Mu\/b=X.Wg\/b=X.Tb)->∀a,¬ρ a b:=by
  intro b hb a h;have:jm X b:=by
   rcases bu a Bs with f|f
   ·exact(k.st a b h f).elim (hc.st b) (hc.own b)
   ·exact hc.own b (k.own a b h f)
  rcases hb with rfl|rfl|rfl
  ·exact this.1 rfl
  ·exact this.2.1 rfl
  ·exact this.2.2 rfl
 have fr:∀b,b<w.heap.size->¬M b->w1.heap[b]?=w.heap[b]?:=by
  intro b hb A;by_cases h:∃a,ρ a b
  ·obtain⟨a,h⟩:=h;have g:a<Bs:=Nat.lt_of_not_le λf=>A (k.own a b h f);obtain⟨o,Y,J,K,R⟩:=hs.keep a b h g;obtain⟨p,p',k1,k2,k3⟩:=I.wr.low h g;obtain⟨q,q',L,N,S⟩:=hs.wr.low (hs.le h) g;rw[J]at k2;cases k2;rw[K]at N;cases N;rw[Q a g,k1]at L;cases L;rw[J,K]
   cases R with
   |cells=>cases k3;cases S;rfl
   |loop=>rfl
  ·exact hs.frame b hb λa g=>h ⟨a,g⟩
 have B:w1.heap[X.Mu]?=w.heap[X.Mu]?:=hs.frame _ u (z _ (.inl rfl));have C:w1.heap[X.Wg]?=w.heap[X.Wg]?:=hs.frame _ v (z _ (.inr (.inl rfl)));have l:w1.heap[X.Tb]?=w.heap[X.Tb]?:=hs.frame _ y (z _ (.inr (.inr rfl)));have j:StO V M' Bs aJ:=by
  refine⟨λa b h g=>?_,λa b h g=>?_⟩
  ·rcases hs.only a b h with h|⟨h,_⟩
   ·exact(k.st a b h g).imp id .inl
   ·have:=I.wr.base;omega
  ·rcases hs.only a b h with n|⟨_,n⟩
   ·exact .inl (k.own a b n g)
   ·exact .inr ⟨n,(hs.wr.lt h).2⟩
 refine⟨⟨hs.wH,hs.mK,by rw[hs.XV];exact .refl _,hs.fV,λb hb A _ _ _=>fr b hb A,λc h=>⟨c,by rw[l];exact h,rfl⟩,λo _=>by simp only[a6,l],by simp,λb=>Iff.rfl,λe' n=>?_,by simp,rfl⟩,⟨B,C⟩,j⟩;obtain⟨e,f,U⟩:=P.mem (Array.mem_toList_iff.2 n);have f:=t e (Array.mem_toList_iff.1 f)
 cases U with
 |@cell a O h i=>
  have D:=(hs.wr.lt h.1).2;have hb:Bs<=a.block:=bv f;refine⟨λx s=>?_,by simp,D⟩;rw[show(a5 ⟨.cell O,i,false⟩).touch? = some ⟨.cell O,i,.plain⟩from rfl]at s;cases s;exact⟨rfl,.inr ⟨rfl,.inl (.inl (j.own _ _ h.1 hb))⟩⟩
 |@obj r E h i=>
  have D:=(hs.wr.lt h).2;have hb:Bs<=r:=bv f;have W:(a5 ⟨.obj E,i,false⟩).touch? = some ⟨.obj E,i,.plain⟩:=by cases i<;>rfl
  have t:(a5 ⟨.obj E,i,false⟩).low w1.heap.size:=by cases i<;>exact D
  refine⟨λx s=>?_,by simp,t⟩;rw[W]at s;cases s;exact⟨rfl,.inr ⟨rfl,.inl (j.own _ _ h hb)⟩⟩
 |mark m H=>
  have H:m=.noRoom:=H;subst H;exact uq rfl (λh=>by cases h) trivial
end
end Go.Ph
namespace Go.Ph
open Go.Conc Go.ConcN Go.bJ
open Go.ConcM (MuAt muA msA OsLater muBlock)
def Lone(P:ac)(bot:Frame)(Bs:Nat):Nat->aa->World->aa->World->Prop
 |0,g,w,b,w2=>g=b/\w=w2
 |n+1,g,w,b,w2=>∃c w1 es,(∀f d,stepG P true g (a7 w f d)=.go c (a7 w1 f d) es)/\(∀a,a<Bs->w1.heap[a]?=w.heap[a]?)/\(∀e∈es,¬BQ Bs e)/\c.status=.running/\
  (g.frame.mode≠.run->g.frame.defers=[]->g.callers≠[bot])/\Lone P bot Bs n c w1 b w2
def mX{ρ:Ren}:∀{l l':List Event}(d:Nat),fK ρ l l'->l'.foldl (λd e=>match e.loc with | .mark .disable=>d+1 | .mark .enable=>d-1|_=>d) d=d
 |[],_,d,h=>by cases h;rfl
 |_::_,_,d,h=>by
  cases h with
  |cons c a=>
   simp only[bj]
   cases c with
   |cell=>exact mX d a
   |obj=>exact mX d a
   |mark m b=>
    have b:m=.noRoom:=b;subst b;exact mX d a
def DN{ρ:Ren}{es a:Array Event}(d:Nat)(h:fK ρ es.toList a.toList):ab d a=d:=by
 unfold ab;rw[<-bd];exact mX d h
section
variable {T:Tables}{fB fA:Array Func}{F:ao->Bool}{Z:ad->Bool}{X:Fix}{V:Vw}{Stop:Stp}{Bs:Nat}{bot:Frame}{up:List Frame}
structure iG(T:Tables)(fB fA:Array Func)(F:ao->Bool)(Z:ad->Bool)(bot:Frame)(up:List Frame)(X:Fix)(V:Vw)(Bs:Nat)(ρ:Ren)(M:Own)(g:aa)(wL:World)(g':aa)(w:World):Prop where
 inj:ρ.bw T.globals.size
 wr:WC Bs T.globals.size F (codeOk T F Z) ρ wL w
 g:GC T fB fA F Z bot up ρ g g'
 own:StO V M Bs ρ
 clear:Clear X V M
 sG:∀b,V.st b->b<w.heap.size/\¬M b
structure qw(X:Fix)(V:Vw)(Bs:Nat)(ρ:Ren)(M:Own)(w w2:World):Prop where
 size:w.heap.size<=w2.heap.size
 st:∀b,V.st b->w2.heap[b]?=w.heap[b]?
 own:∀b,M b->b<w.heap.size->(∀a,¬ρ a b)->w2.heap[b]?=w.heap[b]?
 row:∀o,V.row o->w2.cell? ⟨X.Tb,o,none⟩=w.cell? ⟨X.Tb,o,none⟩
 low:∀a b,ρ a b->a<Bs->w2.heap[b]?=w.heap[b]?
def qw.refl(V:Vw)(ρ:Ren)(M:Own)(w:World):qw X V Bs ρ M w w:=⟨bs _,λ_ _=>rfl,λ_ _ _ _=>rfl,λ_ _=>rfl,λ_ _ _ _=>rfl⟩
def qw.ad4{ρ:Ren}{M:Own}{w c:World}(d:StO V M Bs ρ)(r:Rl X V M w c):qw X V Bs ρ M w c:=⟨r.size,r.st,λb hb _ _=>r.own b hb,r.row,λa b h e=>(d.st a b h e).elim (r.st b) (r.own b)⟩
def qw.trans{ρ c:Ren}{M f:Own}{w w1 w2:World}(h:qw X V Bs ρ M w w1)(m:∀b,M b->f b)(d:∀a b,c a b->ρ a b\/w.heap.size<=b)(e:ρ.le c)(k:qw X V Bs c f w1 w2):qw X V Bs ρ M w w2:=
 ⟨bx h.size k.size,λb hb=>(k.st b hb).trans (h.st b hb),λb hb hl g=>(k.own b (m b hb) (bA hl h.size) λa x=>by
   rcases d a b x with y|y
   ·exact g a y
   ·omega).trans (h.own b hb hl g),λo i=>(k.row o i).trans (h.row o i),λa b j l=>(k.low a b (e j) l).trans (h.low a b j l)⟩
def iG.wd{ρ:Ren}{M:Own}{g g':aa}{a w:World}(h:iG T fB fA F Z bot up X V Bs ρ M g a g' w):GV T F Z Bs ρ (a7 a w.tape w.drawn) w:=
 ⟨h.inj,⟨h.wr.pK,h.wr.gN,h.wr.base,h.wr.obj,h.wr.low⟩,rfl,rfl⟩
def iG.rely{ρ:Ren}{M:Own}{g g':aa}{j w k:World}(h:iG T fB fA F Z bot up X V Bs ρ M g j g' w)(r:Rl X V M w k):iG T fB fA F Z bot up X V Bs ρ M g j g' k:=
 ⟨h.inj,⟨h.wr.pK,bx h.wr.gN r.size,h.wr.base,λ{a b}d hb=>by
   obtain⟨o,l,f,e,i⟩:=h.wr.obj d hb;exact⟨o,l,f,by rw[r.own b (h.own.own a b d hb)];exact e,i⟩,λ{a b}d hb=>by
   obtain⟨c,m,f,e,i⟩:=h.wr.low d hb;refine⟨c,m,f,?_,i⟩
   rcases h.own.st a b d hb with x|x
   ·rw[r.st b x];exact e
   ·rw[r.own b x];exact e⟩,h.g,h.own,h.clear,λb hb=>⟨bA (h.sG b hb).1 r.size,(h.sG b hb).2⟩⟩
def ay.lone(fit:zG T fB fA F Z)(hP:X.P=⟨T,fA⟩):∀(n:Nat){g:aa}{s:World}{j:aa}{i:World}{ρ:Ren}{M:Own}{d:Nat}{g':aa}{w:World},Lone ⟨T,fB⟩ bot Bs n g s j i->iG T fB fA F Z bot up X V Bs ρ M g s g' w->Live X w->
 (∀t u B w2,iG T fB fA F Z bot up X V Bs t u j i B w2->Live X w2->(∀b,M b->u b)->(∀a b,ρ a b->t a b)->(∀a b,t a b->ρ a b\/(Bs<=a/\w.heap.size<=b))->qw X V Bs ρ M w w2->ay X V false Stop u d B w2)->ay X V false Stop M d g' w
 |0,g,s,j,i,ρ,M,d,g',w,h,hl,hv,k=>by
  obtain⟨rfl,rfl⟩:=h;exact k ρ M g' w hl hv (λ_ h=>h) (λ_ _ h=>h) (λ_ _ h=>.inl h) (.refl _ _ _ _)
 |n+1,g,s,j,i,ρ,M,d,g',w,h,hl,hv,k=>by
  obtain⟨H,I,es,v,h2,h3,J,h4,h5⟩:=h;refine .step hl.g.st' λz r=>?_;have f:=hl.rely r;have K:=r.live hv;have st:=Mn (bot:=bot) (up:=up) (mn:=V.g==0) fit f.wd f.g h4;rw[v]at st
  rcases st with st|⟨e,he,qv⟩|st
  rotate_left
  ·exact absurd qv (h3 e he)
  ·exact absurd J st
  obtain⟨aJ,vY,l,aT,e,hs,kG,hg⟩:=st;have m:∀{b:Nat}{o:Obj},z.heap[b]?=some o->b<z.heap.size:=λh=>(Array.getElem?_eq_some_iff.1 h).1;obtain⟨⟨_,_,v1⟩,⟨_,_,L⟩,c,C,v4⟩:=K;obtain⟨a1,a2,a3⟩:=GY f.clear f.own f.wd hs kG h2 h3 (m v1) (m L) (m C) d
  have N:Live X l:=⟨⟨_,_,by unfold MuAt;rw[a2.1];exact v1⟩,⟨_,_,by unfold Go.ConcR.WgAt;rw[a2.2];exact L⟩,by
   obtain⟨c',k1,k2⟩:=a1.tb c C
   exact⟨c',k1,k2.trans v4⟩⟩
  rw[hP];refine⟨vY,l,aT,_,_,e,a1,a2,hg.st',?_⟩;rw[DN d kG]
  have YP:Clear X V (λb=>M b\/(z.heap.size<=b/\b<l.heap.size)):=⟨f.clear.ids,f.clear.st,λb hb=>by
   rcases hb with hb|hb
   ·exact f.clear.own b hb
   ·have:=m v1;have:=m L;have:=m C
    exact⟨by omega,by omega,by omega⟩⟩
  have O:∀b,V.st b->b<l.heap.size/\¬(M b\/(z.heap.size<=b/\b<l.heap.size)):=λb hb=>by
   obtain⟨x,y⟩:=f.sG b hb;exact⟨bA x hs.fV,λh=>h.elim y λh=>by omega⟩
  have Q:qw X V Bs ρ M z l:=⟨hs.fV,λb hb=>by
   obtain⟨x,y⟩:=f.sG b hb;have:=f.clear.st b hb;exact a1.block b x y this.1 this.2.1 this.2.2,λb hb hl hn=>hs.frame b hl hn,λo _=>by
   simp only[a6,hs.frame _ (m C) λa h=>by
    have:jm X X.Tb:=by
     rcases bu a Bs with v|v
     ·exact(f.own.st a _ h v).elim (f.clear.st _) (f.clear.own _)
     ·exact f.clear.own _ (f.own.own a _ h v)
    exact this.2.2 rfl],λa b R D=>by
   obtain⟨o,o1,H,j,g3⟩:=hs.keep a b R D;obtain⟨p,p',k1,k2,k3⟩:=f.wd.wr.low R D;obtain⟨q,q',S,E,U⟩:=hs.wr.low (hs.le R) D;rw[H]at k2;cases k2;rw[j]at E;cases E;have A:I.heap[a]?=some q:=S;have W:s.heap[a]?=some p:=k1;rw[h2 a D,W]at A;cases A;rw[H,j]
   cases g3 with
   |cells=>cases k3;cases U;rfl
   |loop=>rfl⟩
  have ow:qw X V Bs ρ M w l:=(qw.ad4 hl.own r).trans (λ_ h=>h) (λ_ _ h=>.inl h) (λ_ _ h=>h) Q;refine ay.lone fit hP n h5 ⟨hs.inj,⟨hs.wr.pK,hs.wr.gN,hs.wr.base,hs.wr.obj,hs.wr.low⟩,hg,a3,YP,O⟩ N λt u B w2 S E U j4 j5 j6=>?_;have only:∀a b,aJ a b->ρ a b\/(Bs<=a/\w.heap.size<=b):=λa b h=>(hs.only a b h).imp id λx=>⟨bx f.wr.base x.1,bx r.size x.2⟩
  refine k t u B w2 S E (λb hb=>U b (.inl hb)) (λa b Y=>j4 a b (hs.le Y)) (λa b h=>?_) (ow.trans (λb hb=>.inl hb) (λa b h=>(only a b h).imp id And.right) hs.le j6)
  rcases j5 a b h with h|h
  ·exact only a b h
  ·exact .inr ⟨h.1,bx ow.size h.2⟩
end
end Go.Ph
namespace Go.Ph
open Go.Conc Go.ConcN Go.bJ
section
variable (P:ac)(Bs:Nat)(S:aa->Bool)
noncomputable def BR(g:aa)(w:World):aa×World:=match stepG P true g w with
 |.go a w1 _=>(a,w1)
 |_=>(g,w)
noncomputable def exL(g:aa)(w:World):Array Event:=match stepG P true g w with
 |.go _ _ es=>es
 |_=>#[]
noncomputable def Jp:Nat->aa->World->aa×World
 |0,g,w=>(g,w)
 |n+1,g,w=>@bM (λ_=>aa×World) (Jp n (BR P g w).1 (BR P g w).2) (g,w) (S g)
def hiE(Bs:Nat)(es:Array Event):Bool:=es.toList.all λe=>match e.loc with
 |.cell a=>bC Bs a.block
 |.obj b=>bC Bs b
 |_=>true
def BS(g:aa):Bool:=match g.frame.mode with
 |.run=>true
 |_=>!(g.frame.defers.isEmpty&&g.callers.length==1)
def Jq(g:aa):Bool:=match g.status with
 |.running=>true
 |_=>false
noncomputable def DO(a:Tape)(d:Nat):Nat->aa->World->List (GStep×List Obj×Bool×Bool×Bool)
 |0,_,_=>[]
 |n+1,g,w=>@bM (λ_=>List (GStep×List Obj×Bool×Bool×Bool)) ((stepG P true g (a7 w a d),(BR P g w).2.heap.toList.take Bs,hiE Bs (exL P g w),Jq (BR P g w).1,BS g)::DO a d n (BR P g w).1 (BR P g w).2) [] (S g)
noncomputable def DQ(a:Tape)(d:Nat):Nat->aa->World->List (GStep×List Obj×Bool×Bool×Bool)
 |0,_,_=>[]
 |n+1,g,w=>@bM (λ_=>List (GStep×List Obj×Bool×Bool×Bool)) ((.go (BR P g w).1 (a7 (BR P g w).2 a d) (exL P g w),w.heap.toList.take Bs,true,true,true)::DQ a d n (BR P g w).1 (BR P g w).2) [] (S g)
end
def Uc{Bs:Nat}{es:Array Event}(h:hiE Bs es=true):∀e∈es,¬BQ Bs e:=by
 intro e c hl;simp only[hiE,List.all_eq_true]at h;have:=h e (Array.mem_toList_iff.2 c);obtain⟨loc,wr,d⟩:=e
 cases loc with
 |cell a=>exact absurd (bL this) (Nat.not_le.2 hl)
 |obj b=>exact absurd (bL this) (Nat.not_le.2 hl)
 |_=>exact hl
def Pm{g:aa}(h:Jq g=true):g.status=.running:=by
 unfold Jq at h
 split at h
 ·assumption
 ·cases h
def Pn{P:ac}{Bs:Nat}{S:aa->Bool}(bot:Frame):∀(n:Nat){g:aa}{w:World},(∀b d,DO P Bs S b d n g w=DQ P Bs S b d n g w)->∃m,Lone P bot Bs m g w (Jp P S n g w).1 (Jp P S n g w).2
 |0,g,w,_=>⟨0,rfl,rfl⟩
 |n+1,g,w,h=>by
  cases e:S g with
  |true=>simp only[Jp,e];exact⟨0,rfl,rfl⟩
  |false=>
   simp only[Jp,e];have f:∀b d,stepG P true g (a7 w b d)=.go (BR P g w).1 (a7 (BR P g w).2 b d) (exL P g w)/\(BR P g w).2.heap.toList.take Bs=w.heap.toList.take Bs/\hiE Bs (exL P g w)=true/\Jq (BR P g w).1=true/\BS g=true/\
    DO P Bs S b d n (BR P g w).1 (BR P g w).2=DQ P Bs S b d n (BR P g w).1 (BR P g w).2:=λb d=>by
    have:=h b d;simp only[DO,DQ,e,List.cons.injEq,Prod.mk.injEq]at this;exact⟨this.1.1,this.1.2.1,this.1.2.2.1,this.1.2.2.2.1,this.1.2.2.2.2,this.2⟩
   obtain⟨_,l,o,i,c,_⟩:=f w.tape 0;obtain⟨m,p⟩:=Pn bot n (λb d=>(f b d).2.2.2.2.2);refine⟨m+1,_,_,_,λb d=>(f b d).1,λa q=>?_,Uc o,Pm i,λj k r=>?_,p⟩
   ·have:((BR P g w).2.heap.toList.take Bs)[a]?=(w.heap.toList.take Bs)[a]?:=by rw[l]
    simpa[bl,q]using this
   ·unfold BS at c;rw[r]at c
    split at c
    ·rename_i s;exact j s
    ·simp[k]at c
section
variable {P:ac}{mn:Bool}{fr c:Frame}{cs:List Frame}{w:World}{fn:Func}{v:Value}
def rB(a:fr.mode=.returning)(b:fr.kind=.normal)(hd:fr.defers=[])(hf:P.funcs[fr.fn]?=some fn)(e:(results fn fr.tmps).run P w=.ok v w)(g:(results fn fr.tmps).events P w #[]=#[]) :
 stepG P mn (G fr (c::cs)) w=.go (G (c.finish v) cs) w #[]:=by
 obtain⟨f,tmps,todo,defers,mode,kind,h⟩:=fr;simp only at a b hd hf e g;subst a b hd;simp[G,stepG,unwind,doReturn,hf,e,g,seen,bT]
variable {X:Fix}{V:Vw}{q:Bool}{Stop:Stp}{M:Own}{d:Nat}
def ay.leave1{t:Tmp}(hc:Clear X V M)(e:fr.mode=.returning)(f:fr.kind=.normal)(hd:fr.defers=[])(hf:X.P.funcs[fr.fn]?=some fn)(a:fn.results=#[.tmp t])
 (h:ay X V q Stop M d (G (c.finish (fr.tmps.getD t undef)) cs) w):ay X V q Stop M d (G fr (c::cs)) w:=
 .idle hc rfl λb _=>⟨_,b,#[],rB e f hd hf (results_tmp a _ X.P b) (events_results_tmp a _ _),rfl,rfl,.refl _,rfl,by simp,rfl,h⟩
def ay.leave0(hc:Clear X V M)(e:fr.mode=.returning)(f:fr.kind=.normal)(hd:fr.defers=[])(hf:X.P.funcs[fr.fn]?=some fn)(a:fn.results=#[])
 (h:ay X V q Stop M d (G (c.finish (.tuple #[])) cs) w):ay X V q Stop M d (G fr (c::cs)) w:=
 .idle hc rfl λb _=>⟨_,b,#[],rB e f hd hf (results_none a _ X.P b) (events_results_none a _ _),rfl,rfl,.refl _,rfl,by simp,rfl,h⟩
end
section
variable {P:ac}{mn:Bool}{w:World}
def eval_const(fr:Frame)(v:Value):fr.eval (.const v)=v:=rfl
def uw(fn:ao)(tmps:Array Value)(ps:Array Tmp)(assign body:Code)(b:Nat):Obj:=.loop { state:=.ready,pending:=none,fn,tmps,params:=ps,assign,body,defers:=b }
def GZ{fn:ao}{tmps:Array Value}{f:ae}{ps:Array Tmp}{assign body:Code}{k:List Item}{defers:List ap}{kind:CallKind}{cs:List Frame}{F:ao}{caps:Array Value}{fd:Func}
 (b:(kind==CallKind.early)=false) (hf:bX ⟨fn,tmps,.inRangeFunc (w.heap.size+1)::k,{ target:=.collected w.heap.size,args:=#[] }::defers,.run,kind,none⟩ f=.func (.func F) #[] caps)
 (hF:P.funcs[F]?=some fd) (hb:fd.body.isSome=true) (a:fd.name≠ "runtime.NumGoroutine") :
 stepG P mn (G ⟨fn,tmps,.code (.rangeFunc f ps assign body)::k,defers,.run,kind,none⟩ cs) w =
  .go (G (b1 P F (#[.func (.yield (w.heap.size+1)) #[] #[]]++caps) .normal) (⟨fn,tmps,.inRangeFunc (w.heap.size+1)::k,{ target:=.collected w.heap.size,args:=#[] }::defers,.run,kind,none⟩::cs))
   ((w.alloc (.deferred (some []))).alloc (uw fn tmps ps assign body w.heap.size)) #[]:=by
 have c:(Instr.enterLoop fn tmps ps assign body none).runT P w #[]=(.ok (w.heap.size+1,[{ target:=.collected w.heap.size,args:=#[] }]) ((w.alloc (.deferred (some []))).alloc (uw fn tmps ps assign body w.heap.size)),#[]):=by
  refine Prod.ext ?_ ?_
  ·rw[b3,run_enterLoop_outer];rfl
  ·rfl
 have j:fd.body.isNone=false:=by cases h:fd.body with|none=>rw[h]at hb;cases hb|some _=>rfl
 have l:(fd.name == "runtime.NumGoroutine")=false:=by simpa using a
 have e:∀w2,(do let d<-aq (bX ⟨fn,tmps,.inRangeFunc (w.heap.size+1)::k,{ target:=.collected w.heap.size,args:=#[] }::defers,.run,kind,none⟩) { callee:=.value f,args:=#[.const (.func (.yield (w.heap.size+1)) #[] #[])],argTypes:=#[] } 0;ar d.target d.args:Sem Next).runT P w2 #[]=(.ok (.enter F (#[.func (.yield (w.heap.size+1)) #[] #[]]++caps)) w2,#[]):=by
  intro w2;have e1:(do let d<-aq (bX ⟨fn,tmps,.inRangeFunc (w.heap.size+1)::k,{ target:=.collected w.heap.size,args:=#[] }::defers,.run,kind,none⟩) { callee:=.value f,args:=#[.const (.func (.yield (w.heap.size+1)) #[] #[])],argTypes:=#[] } 0;ar d.target d.args:Sem Next)=callFunc F (#[.func (.yield (w.heap.size+1)) #[] #[]]++caps):=by
   simp[aq,hf,Deferred.ofValue,ar,eval_const]
  rw[e1];obtain⟨kk,c1,g⟩:=uf (T:=P.toTables) hF hb a (#[.func (.yield (w.heap.size+1)) #[] #[]]++caps);rw[c1];show(kk P).runT P w2 #[]=_;have i:kk P=pure (.enter F (#[.func (.yield (w.heap.size+1)) #[] #[]]++caps)):=g;rw[i];rfl
 simp only[G,stepG,b8,c];simp only[List.cons_append,List.nil_append];unfold b9;simp only[if_true,e,b,bR,if_false,bT,bb];simp[b1]
end
section
variable {P:ac}{mn:Bool}{w:World}{g:aa}{o:Oper}
def G3{x:ae}{xs:Array ae}{ts:Array ad}{l:Nat}{r:Loop}(c:bF g=some o)(f:o.op=.call { callee:=.value x,args:=xs,argTypes:=ts })(h:g.frame.eval x=.func (.yield l) #[] #[])
 (hl:w.heap[l]?=some (.loop r)) (hs:xs.size=r.params.size) :
 ∃es,stepG P mn g w=.go (G (b2 l r.fn ((r.params.zip (xs.map g.frame.eval)).foldl (λtmps(t,a)=>tmps.setIfInBounds t a) r.tmps) r.assign r.body .normal) (g.frame::g.callers)) w es/\∀e∈es,e=⟨.obj l,false,false⟩:=by
 have e1:ag g.frame.eval o=ca l (xs.map g.frame.eval):=by
  unfold ag;simp[f,aq,h,Deferred.ofValue,ar]
 have j:=run_yield (P:=P) (args:=xs.map g.frame.eval) hl (by simpa using hs);rw[lV c];have b:(ca l (xs.map g.frame.eval)).runT P w #[]=(.ok (.round l r.fn ((r.params.zip (xs.map g.frame.eval)).foldl (λtmps(t,a)=>tmps.setIfInBounds t a) r.tmps) r.assign r.body) w,#[⟨.obj l,false,false⟩]):=by
  refine Prod.ext ?_ ?_
  ·rw[b3];exact j
  ·have m:¬((xs.map g.frame.eval).size≠r.params.size):=by simpa using hs
   have n:∀{p:Type}(k:Obj->Sem p)(es:Array Event),(b4 l k).runT P w es=(k (.loop r)).runT P w (es.push ⟨.obj l,false,false⟩):=λk es=>by simp only[b6,hl,cd]
   show((b4 l _).runT P w #[]).2=_;rw[n];show((if(xs.map g.frame.eval).size≠r.params.size then _ else _:Sem Next).runT P w _).2=_;rw[if_neg m];rfl
 obtain⟨fn,tmps,ops,i,d,k,defers,kind,u,cs,rfl,q,v,y,z⟩:=gF c;unfold b9;rw[e1];simp only[if_true,b,bT];simp only[q,bR,if_false,bi];exact⟨seen P fn #[⟨.obj l,false,false⟩],rfl,λe s=>by simpa using Conc.mem_seen (P:=P) (fn:=fn) s⟩
end
section
variable {P:ac}{mn:Bool}{w w':World}{g:aa}{o:Oper}{t:ad}{x y ix:ae}{b off:Nat}{v:Value}
def jY{i:TypeInfo}{z:Value}(d:bF g=some o)(e:o.op=.alloc t)(hi:P.info? t=some i)(a:i.zero=some z) :
 stepG P mn g w=.go (fin g (.pointer (some ⟨w.heap.size,0,none⟩))) (w.alloc (.cells z.cells t)) #[]:=by
 have e1:ag g.frame.eval o=(do pure (.value (<-cb t true (.tuple #[]))):Sem Next):=by
  unfold ag;simp only[e]
 have c:(cb t true (.tuple #[])).run P w=.ok (.pointer (some ⟨w.heap.size,0,none⟩)) (w.alloc (.cells z.cells t)):=by
  simp[cb,zeroValue,aw,hi,a,newVar,newRow]
 have f:(cb t true (.tuple #[])).events P w #[]=#[]:=by
  simp[cb,zeroValue,aw,hi,a,newVar,newRow]
 rw[dF (v:=.pointer (some ⟨w.heap.size,0,none⟩)) (w':=w.alloc (.cells z.cells t)) d (by rw[e1];simp[c]),e1];simp[c,f,bb]
def oR(g o:Nat)(t:ad):∀(vs:List Value)(i:Nat)(cur:Array Value)(w:World)(es:Array Event),w.heap[g]?=some (.cells cur t (0,0))->o+i+vs.length<=cur.size->(∀v∈vs,v.oneCell'=true)->
 ∀ev∈(aB ⟨g,o,none⟩ vs i).events P w es,ev∈es\/∃j,j<i+vs.length/\ev=⟨.cell ⟨g,o+j,none⟩,true,false⟩
 |[],_,_,_,_,_,_,_=>λev h=>.inl (by simpa[aB]using h)
 |v::a,i,cur,w,es,hg,hl,d=>λev h=>by
  have hi:o+i<cur.size:=by simp at hl;omega
  have e:(⟨g,o,none⟩:Addr).add i=⟨g,o+i,none⟩:=by unfold Addr.add;split<;>simp_all
  have hcell:w.cell? ⟨g,o+i,none⟩=some cur[o+i]:=by simp[a6,hg,hi]
  have c:w.frozen? ⟨g,o+i,none⟩=false:=by simp[World.frozen?,hg]
  have f:(store ((⟨g,o,none⟩:Addr).add i) v).run P w=.ok () (w.setRow g (cur.setIfInBounds (o+i) v)):=by
   rw[e,Go.run_store P w _ v _ (d v (by simp)),hcell];simp[c,setCell_eq_setRow w g (o+i) cur t (0,0) v hg]
  have k:(store ((⟨g,o,none⟩:Addr).add i) v).events P w es=es.push ⟨.cell ⟨g,o+i,none⟩,true,false⟩:=by
   rw[e,events_store P w es _ v _ (d v (by simp)),hcell];simp only[c,bR,if_false];rfl
  simp only[aB,Sem.events_bind,f,Result.evThen_ok,k]at h
  rcases oR g o t a (i+1) (cur.setIfInBounds (o+i) v) (w.setRow g (cur.setIfInBounds (o+i) v)) _ (aF w g cur _ t _ hg) (by simp at hl ⊢;omega) (λx l=>d x (by simp[l])) ev h with h|⟨j,m,h⟩
  ·rcases Array.mem_push.1 h with h|rfl
   ·exact .inl h
   ·exact .inr ⟨i,by simp,rfl⟩
  ·exact .inr ⟨j,by simp at m ⊢;omega,h⟩
def eI(cur:Array Value)(off:Nat)(vs:Array Value):Array Value:=(cur.toList.take off++vs.toList++cur.toList.drop (off+vs.size)).toArray
def vj{cur vs:Array Value}{off:Nat}(h:off+vs.size<=cur.size):(eI cur off vs).size=cur.size:=by
 simp[eI];omega
def Mo{cur vs:Array Value}{off j:Nat}(h:off+vs.size<=cur.size)(c:j<vs.size):(eI cur off vs)[off+j]?=vs[j]?:=by
 simp only[eI,bo];have a:(cur.toList.take off).length=off:=by simp;omega
 rw[bp,bq (by omega),a,br (by simp;omega)];simp
def G4{cur vs:Array Value}{off j:Nat}(h:off+vs.size<=cur.size)(a:j<off\/off+vs.size<=j):(eI cur off vs)[j]?=cur[j]?:=by
 simp only[eI,bo];have c:(cur.toList.take off).length=off:=by simp;omega
 rcases a with a|a
 ·rw[bp,br (by omega),bl,if_pos a];simp
 ·rw[bp,bq (by omega),c,bq (by simp;omega)];simp only[List.getElem?_drop,Array.length_toList];have:off+vs.size+(j-off-vs.size)=j:=by omega
  rw[this];simp
def rC{ty:ad}{cur:Array Value}(m:bF g=some o)(n:o.op=.store t x y)(p:g.frame.eval x=.pointer (some ⟨b,off,none⟩))(hy:g.frame.eval y=v)
 (hb:w.heap[b]?=some (.cells cur ty (0,0))) (hs:(P.info? t).map (·.size)=some v.cells.size) (hl:off+v.cells.size<=cur.size) (d:∀c∈v.cells,c.oneCell'=true) :
 ∃es,stepG P mn g w=.go (fin g undef) (w.setRow b (eI cur off v.cells)) es/\∀e∈es,∃j,j<v.cells.size/\e=⟨.cell ⟨b,off+j,none⟩,true,false⟩:=by
 have e1:ag g.frame.eval o=(do aH t ⟨b,off,none⟩ v;pure .skip:Sem Next):=by
  unfold ag;simp only[n,p,hy,Instr.storeAt,Instr.sureAddr];rfl
 cases a:P.info? t with
 |none=>simp[a]at hs
 |some i=>
  have f:i.size=v.cells.size:=by simpa[a]using hs
  have k:=run_storeCells_at P b off ty v.cells.toList 0 cur w hb (by simpa using hl) (λc hc=>d c (by simpa using hc));have l:(aH t ⟨b,off,none⟩ v).run P w=.ok () (w.setRow b (eI cur off v.cells)):=by
   simp[aH,aI,aw,a,f,k,eI]
  refine⟨_,Me (w':=w.setRow b (eI cur off v.cells)) m (by rw[e1];simp[l]),λe q=>?_⟩;have:=ba q;rw[e1]at this;have r:e∈(aH t ⟨b,off,none⟩ v).events P w #[]:=by simpa[l,Result.evThen]using this
  have s:e∈(aB ⟨b,off,none⟩ v.cells.toList 0).events P w #[]:=by simpa[aH,aI,aw,a,f,k]using r
  rcases oR b off ty v.cells.toList 0 cur w #[] hb (by simpa using hl) (λc hc=>d c (by simpa using hc)) e s with h|⟨j,u,h⟩
  ·simp at h
  ·exact⟨j,by simpa using u,h⟩
def xH{elem:ad}{n c:Nat}{k:IntKind}{i:Int}{a:Addr}{d:Nat}(q:bF g=some o)(r:o.op=.indexAddr t x ix)(s:g.frame.eval x=.slice (some a) n c)(hi:g.frame.eval ix=.int k i)
 (h:P.underlying t=some (.slice elem)) (hs:(P.info? elem).map (·.size)=some d) (j:0<=i) (l:i<n) :
 stepG P mn g w=.go (fin g (.pointer (some (a.add (i.toNat*d))))) w #[]:=by
 have e1:ag g.frame.eval o=(do pure (.value (<-cc t (.slice (some a) n c) (.int k i))):Sem Next):=by
  unfold ag;simp only[r,s,hi]
 cases e:P.info? elem with
 |none=>simp[e]at hs
 |some f=>
  have m:f.size=d:=by simpa[e]using hs
  have p:(cc t (.slice (some a) n c) (.int k i)).run P w=.ok (.pointer (some (a.add (i.toNat*d)))) w:=by
   simp[cc,asIntOf,aL h,j,l,aI,aw,e,m]
  have u:(cc t (.slice (some a) n c) (.int k i)).events P w #[]=#[]:=by
   simp[cc,asIntOf,aL h,j,l,aI,aw,e,m]
  rw[dF (v:=.pointer (some (a.add (i.toNat*d)))) (w':=w) q (by rw[e1];simp[p]),e1];simp[p,u,bb]
end
section
variable {P:ac}{mn:Bool}{w:World}{l:Nat}{r:Loop}
def rE{a:Type}(h:w.heap[l]?=some (.loop r))(k:Obj->Sem a)(es:Array Event):(b4 l k).runT P w es=(k (.loop r)).runT P w (es.push ⟨.obj l,false,false⟩):=by
 simp only[b6,h,cd]
def rF{c:Type}(h:w.heap[l]?=some (.loop r))(a:Loop)(k:Sem c)(es:Array Event):(b7 l (.loop a) k).runT P w es=k.runT P (w.putObj l (.loop a)) (es.push ⟨.obj l,true,false⟩):=by
 simp only[b6,h,cd,a8]
def wz{a b:Event}:∀e∈(#[a,b]:Array Event),e=a\/e=b:=λe c=>by simpa using c
variable {fn:ao}{tmps:Array Value}{k:List Item}{defers:List ap}{kind:CallKind}{ro:Option Nat}{cs:List Frame}
def G5(h:w.heap[l]?=some (.loop r))(a:r.state=.ready)(c:(kind==CallKind.early)=false) :
 ∃es,stepG P mn (G ⟨fn,tmps,.beginRound::k,defers,.run,kind,some l⟩ cs) w=.go (G ⟨fn,tmps,k,defers,.run,kind,some l⟩ cs) (w.putObj l (.loop { r with state:=.busy })) es/\∀e∈es,∃wr,e=⟨.obj l,wr,false⟩:=by
 have e1:(do Instr.beginRound l;pure .skip:Sem Next).runT P w #[]=(.ok .skip (w.putObj l (.loop { r with state:=.busy })),#[⟨.obj l,false,false⟩,⟨.obj l,true,false⟩]):=by
  show((b4 l _).runT P w #[])=_;rw[rE h];show((b7 l (.loop { r with state:=.busy }) _).runT P w _)=_;rw[rF h];simp only[a];rfl
 refine⟨seen P fn #[⟨.obj l,false,false⟩,⟨.obj l,true,false⟩],?_,λe f=>?_⟩
 ·simp only[G,stepG,b8];unfold b9;simp only[Option.elim,e1,if_true,c,bR,if_false,bT,Frame.finish,bi]
 ·rcases wz e (ba f) with rfl|rfl
  ·exact⟨_,rfl⟩
  ·exact⟨_,rfl⟩
def zH{c:Frame}(h:w.heap[l]?=some (.loop r)) :
 ∃es,stepG P mn (G ⟨fn,tmps,[],defers,.run,.normal,some l⟩ (c::cs)) w=.go (G (c.finish (.bool true)) cs) (w.putObj l (.loop { r with state:=.ready,pending:=none })) es/\∀e∈es,∃wr,e=⟨.obj l,wr,false⟩:=by
 have e1:(Instr.endRound l none).runT P w #[]=(.ok (.bool true) (w.putObj l (.loop { r with state:=.ready,pending:=none })),#[⟨.obj l,false,false⟩,⟨.obj l,true,false⟩]):=by
  show((b4 l _).runT P w #[])=_;rw[rE h];show((b7 l (.loop { r with state:=.ready,pending:=none }) _).runT P w _)=_;rw[rF h];rfl
 refine⟨seen P fn #[⟨.obj l,false,false⟩,⟨.obj l,true,false⟩],?_,λe a=>?_⟩
 ·simp only[G,stepG,b8,e1,doReturn,bT,bi]
 ·rcases wz e (ba a) with rfl|rfl
  ·exact⟨_,rfl⟩
  ·exact⟨_,rfl⟩
def BT(h:w.heap[l]?=some (.loop r))(hb:r.state=.ready)(a:r.pending=none) :
 ∃es,stepG P mn (G ⟨fn,tmps,.endRangeFunc l::k,defers,.run,kind,ro⟩ cs) w=.go (G ⟨fn,tmps,k,defers,.run,kind,ro⟩ cs) (w.putObj l (.loop { r with state:=.exhausted })) es/\∀e∈es,∃wr,e=⟨.obj l,wr,false⟩:=by
 have e1:(Instr.endLoop l).runT P w #[]=(.ok none (w.putObj l (.loop { r with state:=.exhausted })),#[⟨.obj l,false,false⟩,⟨.obj l,true,false⟩]):=by
  show((b4 l _).runT P w #[])=_;rw[rE h];obtain⟨st,f,a1,a2,a3,a4,i,j⟩:=r;simp only at hb a;subst hb a;show((b7 l (.loop _) _).runT P w _)=_;rw[rF h];rfl
 refine⟨seen P fn #[⟨.obj l,false,false⟩,⟨.obj l,true,false⟩],?_,λe c=>?_⟩
 ·simp only[G,stepG,b8,e1,bT,bi];rfl
 ·rcases wz e (ba c) with rfl|rfl
  ·exact⟨_,rfl⟩
  ·exact⟨_,rfl⟩
def step_take{b:Nat}{ds:List ap}{a:Array Value}(h:w.heap[b]?=some (.deferred (some []))) :
 ∃es,stepG P mn (G ⟨fn,tmps,k,{ target:=.collected b,args:=a }::ds,.returning,kind,ro⟩ cs) w=.go (G ⟨fn,tmps,k,ds,.returning,kind,ro⟩ cs) (w.putObj b (.deferred none)) es/\∀e∈es,∃wr,e=⟨.obj b,wr,false⟩:=by
 have e1:(Instr.takeDeferred b).runT P w #[]=(.ok [] (w.putObj b (.deferred none)),#[⟨.obj b,false,false⟩,⟨.obj b,true,false⟩]):=by
  show((b4 b _).runT P w #[])=_;simp only[b6,h,cd];show((b7 b (.deferred none) _).runT P w _)=_;simp only[b6,h,cd,a8];rfl
 refine⟨seen P fn #[⟨.obj b,false,false⟩,⟨.obj b,true,false⟩],?_,λe c=>?_⟩
 ·simp only[G,stepG,unwind,e1,bT,bi];rfl
 ·rcases wz e (ba c) with rfl|rfl
  ·exact⟨_,rfl⟩
  ·exact⟨_,rfl⟩
end
section
variable {X:Fix}{V:Vw}{Stop:Stp}{M:Own}{d:Nat}{w:World}{g g':aa}{b:Nat}{o':Obj}
def Am{es:Array Event}{b:Nat}(d:Nat)(h:∀e∈es,∃wr,e=(⟨.obj b,wr,false⟩:Event)):ab d es=d:=mV d λe a=>by
 obtain⟨wr,rfl⟩:=h e a;exact .inr ⟨_,_,rfl⟩
def ay.rec(hc:Clear X V M)(hs:g.status=.running)(hl:Live X w)(hb:M b)(i:b<w.heap.size)
 (h:∀a,Rl X V M w a->∃es,stepG X.P (V.g==0) g a=.go g' (a.putObj b o') es/\∀e∈es,∃wr,e=⟨.obj b,wr,false⟩) (j:g'.status=.running)
 (m:∀a,Rl X V M w a->ay X V false Stop M d g' (a.putObj b o')):ay X V false Stop M d g w:=
 .own hc hs hl λa r=>by
  obtain⟨es,n,c⟩:=h a r;have f:M.more a (a.putObj b o')=M:=by
   funext x;unfold Own.more;simp only[World.putObj_size];exact propext ⟨λh=>h.resolve_right λx=>by omega,.inl⟩
  refine⟨_,_,es,n,rfl,rfl,.refl _,by simp,λx q o=>World.putObj_heap_other λe=>o (e▸hb),λe p=>?_,j,?_⟩
  ·obtain⟨wr,rfl⟩:=c e p;rw[f];exact DG hb (by simp;exact bA i r.size)
  ·rw[f,Am d c];exact m a r
def ay.new(hc:Clear X V M)(hs:g.status=.running)(hl:Live X w){o':World->Obj}{G':Nat->aa}
 (h:∀a,Rl X V M w a->stepG X.P (V.g==0) g a=.go (G' a.heap.size) (a.alloc (o' a)) #[]) (e:∀n,(G' n).status=.running)
 (f:∀a,Rl X V M w a->ay X V false Stop (λb=>M b\/b=a.heap.size) d (G' a.heap.size) (a.alloc (o' a))):ay X V false Stop M d g w:=
 .own hc hs hl λa r=>by
  have i:M.more a (a.alloc (o' a))=λb=>M b\/b=a.heap.size:=by
   funext x;unfold Own.more;simp only[a9];exact propext ⟨λh=>h.imp id λx=>by omega,λh=>h.imp id λx=>by omega⟩
  refine⟨_,_,#[],h a r,rfl,rfl,.refl _,by simp[a9],λx c _=>?_,by simp,e _,?_⟩
  ·show(a.heap.push _)[x]?=_;rw[Array.getElem?_push_lt c,<-Array.getElem?_eq_getElem c]
  ·rw[i];exact f a r
end
open Go.ConcM (MuAt muA msA OsLater muBlock)
section
variable {X:Fix}{V:Vw}{Stop:Stp}{M:Own}{d:Nat}{w:World}{g:aa}{o:Oper}{t ty:ad}{x y:ae}{b off:Nat}{v:Value}{cur:Array Value}
def ay.DS(hc:Clear X V M)(hl:Live X w)(f:M b)(i:bF g=some o)(s:o.op=.store t x y)(u:g.frame.eval x=.pointer (some ⟨b,off,none⟩))(hy:g.frame.eval y=v)
 (hb:w.heap[b]?=some (.cells cur ty (0,0))) (hs:(X.P.info? t).map (·.size)=some v.cells.size) (l:off+v.cells.size<=cur.size) (z:∀c∈v.cells,c.oneCell'=true)
 (A:∀a,Rl X V M w a->ay X V false Stop M d (fin g undef) (a.setRow b (eI cur off v.cells))):ay X V false Stop M d g w:=
 .own hc (aK i).1 hl λa r=>by
  have n:a.heap[b]?=some (.cells cur ty (0,0)):=by rw[r.own b f];exact hb
  obtain⟨es,e1,p⟩:=rC (P:=X.P) (mn:=V.g==0) i s u hy n hs l z;have B:b<a.heap.size:=(Array.getElem?_eq_some_iff.1 n).1;have q:M.more a (a.setRow b (eI cur off v.cells))=M:=by
   funext x;unfold Own.more;simp only[setRow_size];exact propext ⟨λh=>h.resolve_right λx=>by omega,.inl⟩
  refine⟨_,_,es,e1,rfl,rfl,.refl _,by simp,λx _ C=>aP _ _ _ _ λe=>C (e▸f),λe m=>?_,(aK i).2.2 _,?_⟩
  ·obtain⟨j,_,rfl⟩:=p e m;rw[q];exact DF f (by simpa using B)
  ·rw[q,mV d λe m=>by obtain⟨j,_,k⟩:=p e m;exact .inl ⟨_,_,k⟩];exact A a r
def Live.ad7{w:World}(hi:WO X)(hl:Live X w){cur new:Array Value}(hb:w.heap[X.Tb]?=some (.cells cur X.tT (0,0)))(hs:new.size=cur.size):Live X (w.setRow X.Tb new):=by
 obtain⟨⟨a1,a2,a⟩,⟨e,f,b⟩,c,c1,h⟩:=hl;rw[hb]at c1;cases c1;exact⟨⟨a1,a2,by unfold MuAt at a ⊢;rw[aP _ _ _ _ hi.mt];exact a⟩,⟨e,f,by unfold Go.ConcR.WgAt at b ⊢;rw[aP _ _ _ _ hi.wt];exact b⟩,new,aF w _ _ _ _ _ hb,hs.trans h⟩
def ay.Po(hc:Clear X V M)(n:bF g=some o)(B:o.op=.store t x y)(C:g.frame.eval x=.pointer (some ⟨X.Tb,off,none⟩))(hy:g.frame.eval y=v)(hl:Live X w)
 (hs:(X.P.info? t).map (·.size)=some v.cells.size) (D:off+v.cells.size<=X.size) (E:∀c∈v.cells,c.oneCell'=true) (s:∀j,j<v.cells.size->V.row (off+j))
 (F:∀a w':World,Rl X V M w a->Live X w'->w'.heap.size=a.heap.size->(∀b,b≠X.Tb->w'.heap[b]?=a.heap[b]?)->(∀j,j<v.cells.size->w'.cell? ⟨X.Tb,off+j,none⟩=v.cells[j]?)->
   (∀j,(j<off\/off+v.cells.size<=j)->w'.cell? ⟨X.Tb,j,none⟩=a.cell? ⟨X.Tb,j,none⟩)->ay X V false Stop M d (fin g undef) w'):ay X V false Stop M d g w:=
 .step (aK n).1 λa r=>by
  have H:=r.live hl;obtain⟨⟨_,_,v1⟩,⟨_,_,L⟩,cur,i,N⟩:=H;have l:off+v.cells.size<=cur.size:=by omega
  obtain⟨es,e1,u⟩:=rC (P:=X.P) (mn:=V.g==0) n B C hy i hs l E;have I:X.Tb<a.heap.size:=(Array.getElem?_eq_some_iff.1 i).1;have p:=aF a X.Tb cur (eI cur off v.cells) _ _ i;have J:∀j,j<v.cells.size->(a.setRow X.Tb (eI cur off v.cells)).cell? ⟨X.Tb,off+j,none⟩=v.cells[j]?:=λj f=>by
   simp only[a6,p];exact Mo l f
  have z:∀j,(j<off\/off+v.cells.size<=j)->(a.setRow X.Tb (eI cur off v.cells)).cell? ⟨X.Tb,j,none⟩=a.cell? ⟨X.Tb,j,none⟩:=λj f=>by
   simp only[a6,p,i];exact G4 l f
  refine⟨_,_,es,M,d,e1,⟨rfl,rfl,.refl _,by simp,λb _ _ _ _ K=>aP _ _ _ _ K,λc m=>?_,λj f=>?_,by simp,λb=>⟨.inl,λh=>h.resolve_right λx=>by simp at x;omega⟩,λe q=>?_,by simp,?_⟩,⟨aP _ _ _ _ hc.ids.mt,aP _ _ _ _ hc.ids.wt⟩,(aK n).2.2 _,?_⟩
  ·rw[i]at m;cases m;exact⟨_,p,vj l⟩
  ·refine z j ?_
   rcases bu j off with h|h
   ·exact .inl h
   ·rcases bu j (off+v.cells.size) with A|A
    ·exact absurd (by have:=s (j-off) (by omega);rwa[show off+(j-off)=j by omega]at this) f
    ·exact .inr A
  ·obtain⟨j,f,rfl⟩:=u e q;exact Pf rfl (s j f) (by simpa using I)
  ·rw[mV d λe q=>by obtain⟨j,_,k⟩:=u e q;exact .inl ⟨_,_,k⟩]
  ·exact F a _ r (Live.ad7 hc.ids (r.live hl) i (vj l)) (by simp) (λb hb=>aP _ _ _ _ hb) J z
end
end Go.Ph
namespace Go.Proofs
open Go.Ph Go.Conc
set_option maxRecDepth 100000
def xJ(g:aa):Bool:=match g.frame.mode with
 |.run=>match g.frame.todo with
  |[]=>g.frame.roundOf.isSome
  |.beginRound::_=>true
  |.endRangeFunc _::_=>true
  |.code (.rangeFunc ..)::_=>true
  |.code (.region _ _ true)::_=>true
  |[.code _]=>g.frame.fn==110||g.frame.fn==139||g.frame.fn==140||g.frame.fn==144
  |.inRegion _ (_::_)::_=>match bF g with
   |some o=>match o.op with
    |.load .. | .store .. | .alloc .. | .box ..=>true
    |_=>false
   |none=>false
  |_=>false
 |.returning=>true
 |_=>false
noncomputable abbrev T5(g:aa):aa:=wu PP false xJ 400 g
structure vN(g g':aa):Prop where
 q:ff PP false xJ 400 g
 d:∀d,xD PP false xJ 400 d g=d
 e:T5 g=g'
def jK{g g':aa}(e:T5 g=g')(a:ff PP false xJ 400 g:=by exact⟨λ_=>by kernel_rfl,by kernel_rfl⟩)(hd:∀d,xD PP false xJ 400 d g=d:=by intro _;kernel_rfl):vN g g':=⟨a,hd,e⟩
def vN.run{X:Fix}{V:Vw}{q:Bool}{Stop:Stp}{M:Own}{d:Nat}{g g':aa}{w:World}(h:vN g g')(a:X.P=PP)(hg:(V.g==0)=false)(b:ay X V q Stop M d g' w):ay X V q Stop M d g w:=by
 refine .oO (S:=xJ) hg 400 (by rw[a];exact h.q) ?_;have e:wu PP false xJ 400 g=g':=h.e;rw[a,h.d,e];exact b
noncomputable def Jt:Code:=((PP.funcs[137]?).bind (·.body)).getD .skip
def rangeAt:Code->Option (Code×Code)
 |.rangeFunc _ _ a b=>some (a,b)
 |.block _ b=>rangeAt b
 |.seq a b=>match rangeAt a with
  |some x=>some x
  |none=>rangeAt b
 |_=>none
noncomputable def vl:Code:=((rangeAt Jt).getD (.skip,.skip)).1
noncomputable def lZ:Code:=((rangeAt Jt).getD (.skip,.skip)).2
def jZ(i:Nat):Code->Option (Array Oper)
 |.region j ops _=>if j==i then some ops else none
 |.block _ b=>jZ i b
 |.loop b=>jZ i b
 |.cond _ a b=>match jZ i a with
  |some x=>some x
  |none=>jZ i b
 |.seq a b=>match jZ i a with
  |some x=>some x
  |none=>jZ i b
 |_=>none
noncomputable def dX:Array Oper:=(jZ 4 lZ).getD #[]
section
variable (W bc bg bm bt:Nat)(c:Value)(n:Int)(cl:Value)(v:Value)(lb b5:Nat)(cs:List Frame)
def Ul(a:Value)(f:Nat->Value):Nat->Value
 |0=>.pointer (some ⟨W,0,none⟩)|1=>.pointer (some ⟨bc,0,none⟩)|2=>.pointer (some ⟨bg,0,none⟩)|3=>.pointer (some ⟨bm,0,none⟩)|4=>.pointer (some ⟨bt,0,none⟩)|5=>a|6=>c|7=>.int .i64 n|8=>cl|9=>v|i=>f i
noncomputable def qJ(a:Value)(f:Nat->Value):Array Value:=zj 20 (Ul W bc bg bm bt c n cl v a f)
noncomputable def rG:List ap:=[{ target:=.fn (.func 138) #[],args:=#[pt W] }]
noncomputable def k3:aa:=T5 (G (((k2 W bc bg bm bt c n).callers.headD default).finish cl) [ez PP])
def aiY:k2 W bc bg bm bt c n=G (b1 PP 110 #[c,.int .i64 n] .normal) [(k2 W bc bg bm bt c n).callers.headD default,ez PP]:=by kernel_rfl
noncomputable def kk:List Item:=(k3 0 0 0 0 0 undef 0 undef).frame.todo.tail
def k_3:vN (G (((k2 W bc bg bm bt c n).callers.headD default).finish cl) [ez PP]) (k3 W bc bg bm bt c n cl):=jK (by delta k3;rfl)
def aiZ:k3 W bc bg bm bt c n cl=G ⟨137,qJ W bc bg bm bt c n cl undef undef (λ_=>undef),.code (.rangeFunc (.tmp 8) #[9] vl lZ)::kk,rG W,.run,.deferred,none⟩ [ez PP]:=by kernel_rfl
noncomputable def rd0(f:Nat->Value):aa:=G (b2 lb 137 (qJ W bc bg bm bt c n cl v undef f) vl lZ .normal) cs
noncomputable def q0(f:Nat->Value):aa:=T5 (rd0 W bc bg bm bt c n cl v lb cs f)
def q_0(f:Nat->Value):vN (rd0 W bc bg bm bt c n cl v lb cs f) (q0 W bc bg bm bt c n cl v lb cs f):=jK (by delta q0;rfl)
def aj0(f:Nat->Value):(bF (q0 W bc bg bm bt c n cl v lb cs f)).map (·.op)=some (.alloc 61):=by kernel_rfl
noncomputable def q1(f:Nat->Value):aa:=T5 (fin (q0 W bc bg bm bt c n cl v lb cs f) (pt b5))
def q_1(f:Nat->Value):vN (fin (q0 W bc bg bm bt c n cl v lb cs f) (pt b5)) (q1 W bc bg bm bt c n cl v lb b5 cs f):=jK (by delta q1;rfl)
def aj1(f:Nat->Value):(bF (q1 W bc bg bm bt c n cl v lb b5 cs f)).map (·.op)=some (.store 61 (.tmp 5) (.tmp 9))/\(q1 W bc bg bm bt c n cl v lb b5 cs f).frame.eval (.tmp 5)=pt b5/\(q1 W bc bg bm bt c n cl v lb b5 cs f).frame.eval (.tmp 9)=v:=⟨by kernel_rfl,by kernel_rfl,by kernel_rfl⟩
noncomputable def q2(f:Nat->Value):aa:=T5 (fin (q1 W bc bg bm bt c n cl v lb b5 cs f) undef)
def q_2(f:Nat->Value):vN (fin (q1 W bc bg bm bt c n cl v lb b5 cs f) undef) (q2 W bc bg bm bt c n cl v lb b5 cs f):=jK (by delta q2;rfl)
def aj2(f:Nat->Value):q2 W bc bg bm bt c n cl v lb b5 cs f=G ⟨137,qJ W bc bg bm bt c n cl v (pt b5) f,[.beginRound,.code lZ],[],.run,.normal,some lb⟩ cs:=by kernel_rfl
noncomputable def q3(f:Nat->Value):aa:=T5 (G ⟨137,qJ W bc bg bm bt c n cl v (pt b5) f,[.code lZ],[],.run,.normal,some lb⟩ cs)
def q_3(f:Nat->Value):vN (G ⟨137,qJ W bc bg bm bt c n cl v (pt b5) f,[.code lZ],[],.run,.normal,some lb⟩ cs) (q3 W bc bg bm bt c n cl v lb b5 cs f):=jK (by delta q3;rfl)
noncomputable def c0(f:Nat->Value):Frame:=(q3 W bc bg bm bt c n cl v lb b5 cs f).callers.headD default
def aj3(f:Nat->Value):q3 W bc bg bm bt c n cl v lb b5 cs f=G (b1 PP 139 #[pt bm] .normal) (c0 W bc bg bm bt c n cl v lb b5 cs f::cs):=by kernel_rfl
noncomputable def q4(f:Nat->Value):aa:=T5 (G ((c0 W bc bg bm bt c n cl v lb b5 cs f).finish (.tuple #[])) cs)
def q_4(f:Nat->Value):vN (G ((c0 W bc bg bm bt c n cl v lb b5 cs f).finish (.tuple #[])) cs) (q4 W bc bg bm bt c n cl v lb b5 cs f):=jK (by delta q4;rfl)
noncomputable def kr:List Item:=(q4 0 0 0 0 0 undef 0 undef undef 0 0 [] (λ_=>undef)).frame.todo.tail
def aj4(f:Nat->Value):q4 W bc bg bm bt c n cl v lb b5 cs f=G ⟨137,qJ W bc bg bm bt c n cl v (pt b5) (px 10 (.tuple #[]) f),.code (.region 4 dX true)::kr,[],.run,.normal,some lb⟩ cs:=by kernel_rfl
end
end Go.Proofs
