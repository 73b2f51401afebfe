/- Part of the proof of FieldNarrow. -/
import Derived.Test.YtmpgbncpnljnoaaGreatU03
import Derived.Test.YtmpgbncpnljnoaaGreatU05
import Derived.Conc.AppendEvents3
import Derived.Conc.Own4
import Derived.Laws.Cells
import Derived.Laws.CopyRow
import Derived.OrdersHeld
import Derived.RangeFuncRecord
set_option linter.all false
open Go renaming Goroutine->aa,deafBehind->ab,Program->ac,TypeId->ad,Operand->ae,execOp->ag,loadVar->ai,Tables->ao,FuncId->ap,Deferred->aq,CallKind->ar,resolve->aw,invoke->aB,typeInfo->aF,storeCells->aH,setRow_heap->aI,storeVar->aL,sizeOf->aP,IntKind->aS,asIntOf->a5,run_underlying->a6,setRow_other->a7,loadCellsFrom->a8,getD_set_ne->a9
open Go.MemAct renaming ofEvent->ba
open Go.World renaming cell?->bb,re->bd,putObj->bi,size_alloc->bj
open Go.Conc renaming mem_seen->bo,seen_none->bp
open Array renaming foldl_toList->bq,append_empty->br,ext->bs,replicate->bv,getD_eq_getD_getElem?->bx,getElem?_replicate->bA
open List renaming foldl_cons->bC,getElem?_toArray->bL,range->bM
open Nat renaming le_refl->bR,lt_or_ge->bT,le_of_not_lt->b1,le_trans->b2,lt_of_lt_of_le->b3,ble->b4,le_of_ble_eq_true->b6
open Bool renaming rec->b8,false_eq_true->b9,or_eq_true->ca
open Go.GStep renaming after->cb,go->cc
open Go.CallKind renaming early->cd,normal->ce,deferred->cf
open Go.Frame renaming eval->cg,enter->ch,round->ci
open Go.Sem renaming runT_fst->cm,getObj->co,runT->cp,events_bind->cq,setObj->ct,run_bind->cu
open Go.stepG renaming exec->cv,apply->cx
open Go.Instr renaming yield->cB,alloc->cC,sureAddr->cQ,indexAt->c2,fieldAt->c4
open Go.Obj renaming isChan->c5,loop->c6,deferred->c7,cells->c8
open Go.Region renaming ready->c9,linearise->da
open Go.Region.linearise renaming go->db
open Go.Value renaming cells->dd,int->de,pointer->df,tuple->di,func->dj,slice->dk,agg->dl
open Go.Proofs.Tryz renaming progTables->dp,funcs->dq
open Go.Loc renaming cell->dt,obj->du
open Or renaming inr->dv,inl->dx
open Go.GoStatus renaming running->dy
open Go.Op renaming load->dz,alloc->dB,store->dC,indexAddr->dL,fieldAddr->dO
open Go.FrameMode renaming run->dP,returning->dQ
open Go.Operand renaming const->dS,tmp->dT
open Go.Item renaming inRangeFunc->dU,code->d8,beginRound->d9,endRangeFunc->ea,inRegion->eb
open Go.Target renaming collected->ec
open Go.Fn renaming func->ed,yield->eg
open Go.Code renaming rangeFunc->eh,region->ei,skip->ej
open Go.Region.Mode renaming any->ek
namespace Go.Ph
open Go.Conc Go.ConcN
open Go.ConcM (MuAt muA msA OsLater muBlock)
open Go.ConcR (KK WgAt stA smA rd wr mk)
section
variable {X:Fix}{V:Vw}{q:Bool}{Stop:Stp}{M:Own}{d:Nat}{g g':aa}{w w':World}{es:Array Event}{B:Nat}
def Own.more(M:Own)(w w':World):Own:=λb=>M b\/(w.heap.size<=b/\b<w'.heap.size)
theorem DF{a:Addr}{wr:Bool}(c:M a.block)(f:a.block<B):jG X V M B ⟨dt a,wr,false⟩:=by
 refine⟨λx b=>?_,by simp,f⟩;have e:(ba ⟨dt a,wr,false⟩).touch? = some ⟨dt a,wr,.plain⟩:=rfl;rw[e]at b;cases b;exact⟨rfl,dv ⟨rfl,dx (dx c)⟩⟩
def Pf{a:Addr}{wr:Bool}(c:a.block=X.Tb)(f:V.row a.off)(h:a.block<B):jG X V M B ⟨dt a,wr,false⟩:=by
 refine⟨λx b=>?_,by simp,h⟩;have e:(ba ⟨dt a,wr,false⟩).touch? = some ⟨dt a,wr,.plain⟩:=rfl;rw[e]at b;cases b;exact⟨rfl,dv ⟨rfl,dx (dv ⟨c,f⟩)⟩⟩
def DG{b:Nat}{wr:Bool}(hb:M b)(c:b<B):jG X V M B ⟨du b,wr,false⟩:=by
 have e:(ba ⟨du b,wr,false⟩).touch? = some ⟨du b,wr,.plain⟩:=by cases wr<;>rfl
 have l:(ba ⟨du b,wr,false⟩).low B:=by cases wr<;>exact c
 refine⟨λx a=>?_,by simp,l⟩;rw[e]at a;cases a;exact⟨rfl,dv ⟨rfl,dx hb⟩⟩
theorem Ub{a:Addr}(c:V.st a.block)(hs:¬X.Shun (dt a))(f:a.block<B):jG X V M B ⟨dt a,false,false⟩:=by
 refine⟨λx b=>?_,by simp,f⟩;have e:(ba ⟨dt a,false,false⟩).touch? = some ⟨dt a,false,.plain⟩:=rfl;rw[e]at b;cases b;exact⟨rfl,dv ⟨rfl,dv ⟨⟨hs,c⟩,rfl⟩⟩⟩
def ay.own(hc:Clear X V M)(hs:g.status=dy)(hl:Live X w)
 (h:∀a,Rl X V M w a->∃g' w' es,stepG X.P (V.g==0) g a=cc g' w' es/\w'.tape=a.tape/\w'.output=a.output/\OsLater a.os w'.os/\a.heap.size<=w'.heap.size/\(∀b,b<a.heap.size->¬M b->w'.heap[b]?=a.heap[b]?)/\
   (∀e∈es,jG X V (M.more a w') w'.heap.size e)/\g'.status=dy/\ay X V false Stop (M.more a w') (ab d es) g' w'):ay X V false Stop M d g w:=
 .step hs λa r=>by
  obtain⟨g',w',es,l,m,n,p,s,f,t,u,v⟩:=h a r;have i:∀{b:Nat}{o:Obj},a.heap[b]?=some o->b<a.heap.size:=λh=>(Array.getElem?_eq_some_iff.1 h).1;obtain⟨⟨_,_,v1⟩,⟨_,_,x⟩,c,y,z⟩:=r.live hl;have no:∀b,(b=X.Mu\/b=X.Wg\/b=X.Tb)->¬M b:=λb hb j=>by
   have:=hc.own b j
   rcases hb with rfl|rfl|rfl
   ·exact this.1 rfl
   ·exact this.2.1 rfl
   ·exact this.2.2 rfl
  have k:=f X.Tb (i y) (no _ (dv (dv rfl)))
  refine⟨g',w',es,_,_,l,⟨m,n,p,s,λb hb j _ _ _=>f b hb j,λc h=>⟨c,by rw[k];exact h,rfl⟩,λo _=>by simp only[bb,k],by simp,λb=>Iff.rfl,t,by simp,rfl⟩,
   ⟨f _ (i v1) (no _ (dx rfl)),f _ (i x) (no _ (dv (dx rfl)))⟩,u,v⟩
end
end Go.Ph
namespace Go.Ph
open Go.Conc Go.ConcN
section
variable {P:ac}{mn:Bool}{w w':World}{g:aa}{o:Oper}{t:ad}{x:ae}{a:Addr}{v:Value}
def uu{ev:ae->Value}(b:o.op=dz t x)(c:ev x=df (some a)):ag ev o=(do pure (.value (<-ai t a)):Sem Next):=by
 unfold ag;simp only[b,c];rfl
def GO(b:bF g=some o)(c:o.op=dz t x)(f:g.frame.eval x=df (some a))(h:(ai t a).run P w=.ok v w) :
 ∃es,stepG P mn g w=cc (fin g v) w es/\∀e∈es,e∈(ai t a).events P w #[]:=by
 have e1:=uu c f;refine⟨_,dF (v:=v) (w':=w) b (by rw[e1];simp[h]),λe i=>?_⟩;have:=bo i
 simp_all
theorem mV{es:Array Event}(d:Nat)(h:∀e∈es,(∃a wr,e=⟨dt a,wr,false⟩)\/∃b wr,e=⟨du b,wr,false⟩):ab d es=d:=by
 unfold ab;rw[<-bq];have:∀e∈es.toList,(∃a wr,e=⟨dt a,wr,false⟩)\/∃b wr,e=⟨du b,wr,false⟩:=λe c=>h e (Array.mem_toList_iff.1 c);generalize es.toList=l at this
 induction l generalizing d with
 |nil=>rfl
 |cons e l f=>
  rw[bC]
  rcases this e (by simp) with⟨a,wr,rfl⟩|⟨b,wr,rfl⟩<;>grind
variable {X:Fix}{V:Vw}{Stop:Stp}{M:Own}{d:Nat}
def pU(M:Own)(w:World):M.more w w=M:=by
 funext b;unfold Own.more
 grind
def ay.load(hc:Clear X V M)(hl:Live X w)(f:bF g=some o)(i:o.op=dz t x)(j:g.frame.eval x=df (some a))
 (h:∀b,Rl X V M w b->(ai t a).run X.P b=.ok v b/\a.block<b.heap.size/\∀e∈(ai t a).events X.P b #[],∃a':Addr,a'.block=a.block/\e=⟨dt a',false,false⟩)
 (q:(V.st a.block/\∀a':Addr,a'.block=a.block->¬X.Shun (dt a'))\/M a.block) (k:ay X V false Stop M d (fin g v) w):ay X V false Stop M d g w:=
 .own hc (aK f).1 hl λb r=>by
  obtain⟨l,s,m⟩:=h b r;obtain⟨es,e1,n⟩:=GO (P:=X.P) (mn:=V.g==0) f i j l;have p:∀e∈es,∃a':Addr,a'.block=a.block/\e=⟨dt a',false,false⟩:=λe c=>m e (n e c);refine⟨_,b,es,e1,rfl,rfl,.refl _,bR _,λ_ _ _=>rfl,λe c=>?_,(aK f).2.2 _,?_⟩
  ·obtain⟨a',k1,rfl⟩:=p e c;rw[pU]
   grind[Ub,DF]
  ·rw[pU,mV d λe c=>by grind];exact k.rely r
end
open Go.bJ
open Go.ConcM (MuAt muA msA OsLater muBlock)
open Go.ConcR (KK WgAt stA smA rd wr mk)
structure StO(V:Vw)(M:Own)(Bs:Nat)(ρ:Ren):Prop where
 st:∀a b,ρ a b->a<Bs->V.st b\/M b
 own:∀a b,ρ a b->Bs<=a->M b
section
variable {T:ao}{fB fA:Array Func}{F:ap->Bool}{Z:ad->Bool}{X:Fix}{V:Vw}{M:Own}{Bs:Nat}{wL wL1 w w1:World}{ρ aJ:Ren}{newL new:Array Event}
def GY(hc:Clear X V M)(k:StO V M Bs ρ)(I:GV T F Z Bs ρ wL w)(hs:cI Bs T.globals.size F (codeOk T F Z) ρ wL w aJ wL1 w1 new)(P:fK aJ newL.toList new.toList)
 (Q:∀a,a<Bs->wL1.heap[a]?=wL.heap[a]?) (t:∀e∈newL,¬BQ Bs e)
 (u:X.Mu<w.heap.size) (v:X.Wg<w.heap.size) (y:X.Tb<w.heap.size) (d:Nat) :
 let M':Own:=λb=>M b\/(w.heap.size<=b/\b<w1.heap.size)
 Dl X V false M d w w1 new M' (ab d new)/\L3 X w w1/\StO V M' Bs aJ:=by
 intro M';have z:∀b,(b=X.Mu\/b=X.Wg\/b=X.Tb)->∀a,¬ρ a b:=by
  intro b hb a h;have:jm X b:=by
   rcases bT a Bs with f|f
   ·exact(k.st a b h f).elim (hc.st b) (hc.own b)
   ·exact hc.own b (k.own a b h f)
  rcases hb with rfl|rfl|rfl
  ·exact this.1 rfl
  ·exact this.2.1 rfl
  ·exact this.2.2 rfl
 have fr:∀b,b<w.heap.size->¬M b->w1.heap[b]?=w.heap[b]?:=by
  intro b hb A;by_cases h:∃a,ρ a b
  ·obtain⟨a,h⟩:=h;have g:a<Bs:=Nat.lt_of_not_le λf=>A (k.own a b h f);obtain⟨o,o1,J,K,R⟩:=hs.keep a b h g;obtain⟨p,p',k1,k2,k3⟩:=I.wr.low h g;obtain⟨q,q',L,N,S⟩:=hs.wr.low (hs.le h) g;rw[J]at k2;cases k2;rw[K]at N;cases N;rw[Q a g,k1]at L;cases L;rw[J,K]
   cases R with
   |cells=>
    cases k3 with
    |cells=>cases S;rfl
    |ac1 _ _ U=>exact absurd rfl (U _ _ _)
   |loop=>rfl
   |same=>rfl
  ·exact hs.frame b hb λa g=>h ⟨a,g⟩
 have B:w1.heap[X.Mu]?=w.heap[X.Mu]?:=hs.frame _ u (z _ (dx rfl));have C:w1.heap[X.Wg]?=w.heap[X.Wg]?:=hs.frame _ v (z _ (dv (dx rfl)));have l:w1.heap[X.Tb]?=w.heap[X.Tb]?:=hs.frame _ y (z _ (dv (dv rfl)));have j:StO V M' Bs aJ:=by
  refine⟨λa b h g=>?_,λa b h g=>?_⟩
  ·rcases hs.only a b h with h|⟨h,_⟩
   ·exact(k.st a b h g).imp id dx
   ·have:=I.wr.base;omega
  ·rcases hs.only a b h with n|⟨_,n⟩
   ·exact dx (k.own a b n g)
   ·exact dv ⟨n,(hs.wr.lt h).2⟩
 refine⟨⟨hs.wH,hs.mK,by rw[hs.XV];exact .refl _,hs.fV,λb hb A _ _ _=>fr b hb A,λc h=>⟨c,by rw[l];exact h,rfl⟩,λo _=>by simp only[bb,l],by simp,λb=>Iff.rfl,λe' n=>?_,by simp,rfl⟩,⟨B,C⟩,j⟩;obtain⟨e,f,W⟩:=P.mem (Array.mem_toList_iff.2 n);have f:=t e (Array.mem_toList_iff.1 f)
 cases W with
 |@cell a O h i=>
  have D:=(hs.wr.lt h.1).2;have hb:Bs<=a.block:=b1 f;refine⟨λx s=>?_,by simp,D⟩;rw[show(ba ⟨dt O,i,false⟩).touch? = some ⟨dt O,i,.plain⟩from rfl]at s;cases s;exact⟨rfl,dv ⟨rfl,dx (dx (j.own _ _ h.1 hb))⟩⟩
 |@obj r E h i=>
  have D:=(hs.wr.lt h).2;have hb:Bs<=r:=b1 f;have Y:(ba ⟨du E,i,false⟩).touch? = some ⟨du E,i,.plain⟩:=by cases i<;>rfl
  have t:(ba ⟨du E,i,false⟩).low w1.heap.size:=by cases i<;>exact D
  refine⟨λx s=>?_,by simp,t⟩;rw[Y]at s;cases s;exact⟨rfl,dv ⟨rfl,dx (j.own _ _ h hb)⟩⟩
 |mark m H=>
  have H:m=.noRoom:=H;subst H;exact uq rfl (λh=>by cases h) trivial
end
end Go.Ph
namespace Go.Ph
open Go.Conc Go.ConcN Go.bJ
open Go.ConcM (MuAt muA msA OsLater muBlock)
def Lone(P:ac)(bot:Frame)(Bs:Nat):Nat->aa->World->aa->World->Prop
 |0,g,w,b,w2=>g=b/\w=w2
 |n+1,g,w,b,w2=>∃c w1 es,(∀f d,stepG P true g (bd w f d)=cc c (bd w1 f d) es)/\(∀a,a<Bs->w1.heap[a]?=w.heap[a]?)/\(∀e∈es,¬BQ Bs e)/\c.status=dy/\
  (g.frame.mode≠dP->g.frame.defers=[]->g.callers≠[bot])/\Lone P bot Bs n c w1 b w2
def mX{ρ:Ren}:∀{l l':List Event}(d:Nat),fK ρ l l'->l'.foldl (λd e=>match e.loc with | .mark .disable=>d+1 | .mark .enable=>d-1|_=>d) d=d
 |[],_,d,h=>by cases h;rfl
 |_::_,_,d,h=>by
  cases h with
  |cons c a=>
   simp only[bC]
   cases c with
   |cell=>exact mX d a
   |obj=>exact mX d a
   |mark m b=>
    have b:m=.noRoom:=b;subst b;exact mX d a
def DN{ρ:Ren}{es a:Array Event}(d:Nat)(h:fK ρ es.toList a.toList):ab d a=d:=by
 unfold ab;rw[<-bq];exact mX d h
section
variable {T:ao}{fB fA:Array Func}{F:ap->Bool}{Z:ad->Bool}{X:Fix}{V:Vw}{Stop:Stp}{Bs:Nat}{bot:Frame}{up:List Frame}
structure iG(T:ao)(fB fA:Array Func)(F:ap->Bool)(Z:ad->Bool)(bot:Frame)(up:List Frame)(X:Fix)(V:Vw)(Bs:Nat)(ρ:Ren)(M:Own)(g:aa)(wL:World)(g':aa)(w:World):Prop where
 inj:ρ.bw T.globals.size
 wr:WC Bs T.globals.size F (codeOk T F Z) ρ wL w
 g:GC T fB fA F Z bot up ρ g g'
 own:StO V M Bs ρ
 clear:Clear X V M
 sG:∀b,V.st b->b<w.heap.size/\¬M b
structure qw(X:Fix)(V:Vw)(Bs:Nat)(ρ:Ren)(M:Own)(w w2:World):Prop where
 size:w.heap.size<=w2.heap.size
 st:∀b,V.st b->w2.heap[b]?=w.heap[b]?
 own:∀b,M b->b<w.heap.size->(∀a,¬ρ a b)->w2.heap[b]?=w.heap[b]?
 row:∀o,V.row o->w2.cell? ⟨X.Tb,o,none⟩=w.cell? ⟨X.Tb,o,none⟩
 low:∀a b,ρ a b->a<Bs->w2.heap[b]?=w.heap[b]?
def qw.refl(V:Vw)(ρ:Ren)(M:Own)(w:World):qw X V Bs ρ M w w:=⟨bR _,λ_ _=>rfl,λ_ _ _ _=>rfl,λ_ _=>rfl,λ_ _ _ _=>rfl⟩
def qw.ad4{ρ:Ren}{M:Own}{w c:World}(d:StO V M Bs ρ)(r:Rl X V M w c):qw X V Bs ρ M w c:=⟨r.size,r.st,λb hb _ _=>r.own b hb,r.row,λa b h e=>(d.st a b h e).elim (r.st b) (r.own b)⟩
def qw.trans{ρ c:Ren}{M e:Own}{w w1 w2:World}(h:qw X V Bs ρ M w w1)(j:∀b,M b->e b)(l:∀a b,c a b->ρ a b\/w.heap.size<=b)(d:ρ.le c)(k:qw X V Bs c e w1 w2):qw X V Bs ρ M w w2:=
 ⟨b2 h.size k.size,λb hb=>(k.st b hb).trans (h.st b hb),λb hb hl m=>(k.own b (j b hb) (b3 hl h.size) λa x=>by
   grind).trans (h.own b hb hl m),λo f=>(k.row o f).trans (h.row o f),λa b g i=>(k.low a b (d g) i).trans (h.low a b g i)⟩
def iG.wd{ρ:Ren}{M:Own}{g g':aa}{a w:World}(h:iG T fB fA F Z bot up X V Bs ρ M g a g' w):GV T F Z Bs ρ (bd a w.tape w.drawn) w:=
 ⟨h.inj,⟨h.wr.pK,h.wr.gN,h.wr.base,h.wr.obj,h.wr.low⟩,rfl,rfl⟩
def iG.rely{ρ:Ren}{M:Own}{g g':aa}{j w k:World}(h:iG T fB fA F Z bot up X V Bs ρ M g j g' w)(r:Rl X V M w k):iG T fB fA F Z bot up X V Bs ρ M g j g' k:=
 ⟨h.inj,⟨h.wr.pK,b2 h.wr.gN r.size,h.wr.base,λ{a b}d hb=>by
   obtain⟨o,l,f,e,i⟩:=h.wr.obj d hb;exact⟨o,l,f,by rw[r.own b (h.own.own a b d hb)];exact e,i⟩,λ{a b}d hb=>by
   obtain⟨c,m,f,e,i⟩:=h.wr.low d hb;refine⟨c,m,f,?_,i⟩
   rcases h.own.st a b d hb with x|x
   ·rw[r.st b x];exact e
   ·rw[r.own b x];exact e⟩,h.g,h.own,h.clear,λb hb=>⟨b3 (h.sG b hb).1 r.size,(h.sG b hb).2⟩⟩
def ay.lone(fit:zG T fB fA F Z)(hP:X.P=⟨T,fA⟩):∀(n:Nat){g:aa}{s:World}{j:aa}{i:World}{ρ:Ren}{M:Own}{d:Nat}{g':aa}{w:World},Lone ⟨T,fB⟩ bot Bs n g s j i->iG T fB fA F Z bot up X V Bs ρ M g s g' w->Live X w->
 (∀t u B w2,iG T fB fA F Z bot up X V Bs t u j i B w2->Live X w2->(∀b,M b->u b)->(∀a b,ρ a b->t a b)->(∀a b,t a b->ρ a b\/(Bs<=a/\w.heap.size<=b))->qw X V Bs ρ M w w2->ay X V false Stop u d B w2)->ay X V false Stop M d g' w
 |0,g,s,j,i,ρ,M,d,g',w,h,hl,hv,k=>by
  obtain⟨rfl,rfl⟩:=h;exact k ρ M g' w hl hv (λ_ h=>h) (λ_ _ h=>h) (λ_ _ h=>dx h) (.refl _ _ _ _)
 |n+1,g,s,j,i,ρ,M,d,g',w,h,hl,hv,k=>by
  obtain⟨H,I,es,v,h2,h3,J,h4,h5⟩:=h;refine .step hl.g.st' λz r=>?_;have f:=hl.rely r;have K:=r.live hv;have st:=Mn (bot:=bot) (up:=up) (mn:=V.g==0) fit f.wd f.g h4;rw[v]at st
  rcases st with st|⟨e,he,qv⟩|st
  rotate_left
  ·exact absurd qv (h3 e he)
  ·exact absurd J st
  obtain⟨aJ,vY,l,aT,e,hs,kG,hg⟩:=st;have m:∀{b:Nat}{o:Obj},z.heap[b]?=some o->b<z.heap.size:=λh=>(Array.getElem?_eq_some_iff.1 h).1;obtain⟨⟨_,_,v1⟩,⟨_,_,L⟩,c,C,v4⟩:=K;obtain⟨a1,a2,a3⟩:=GY f.clear f.own f.wd hs kG h2 h3 (m v1) (m L) (m C) d
  have N:Live X l:=⟨⟨_,_,by unfold MuAt;rw[a2.1];exact v1⟩,⟨_,_,by unfold Go.ConcR.WgAt;rw[a2.2];exact L⟩,by
   obtain⟨c',k1,k2⟩:=a1.tb c C
   grind⟩
  rw[hP];refine⟨vY,l,aT,_,_,e,a1,a2,hg.st',?_⟩;rw[DN d kG]
  have YP:Clear X V (λb=>M b\/(z.heap.size<=b/\b<l.heap.size)):=⟨f.clear.ids,f.clear.st,λb hb=>by
   rcases hb with hb|hb
   ·exact f.clear.own b hb
   ·have:=m v1;have:=m L;have:=m C
    exact⟨by omega,by omega,by omega⟩⟩
  have O:∀b,V.st b->b<l.heap.size/\¬(M b\/(z.heap.size<=b/\b<l.heap.size)):=λb hb=>by
   obtain⟨x,y⟩:=f.sG b hb;exact⟨b3 x hs.fV,λh=>h.elim y λh=>by omega⟩
  have Q:qw X V Bs ρ M z l:=⟨hs.fV,λb hb=>by
   obtain⟨x,y⟩:=f.sG b hb;have:=f.clear.st b hb;exact a1.block b x y this.1 this.2.1 this.2.2,λb hb hl R=>hs.frame b hl R,λo _=>by
   simp only[bb,hs.frame _ (m C) λa h=>by
    have:jm X X.Tb:=by
     rcases bT a Bs with v|v
     ·exact(f.own.st a _ h v).elim (f.clear.st _) (f.clear.own _)
     ·exact f.clear.own _ (f.own.own a _ h v)
    exact this.2.2 rfl],λa b S D=>by
   obtain⟨o,o1,H,j,g3⟩:=hs.keep a b S D;obtain⟨p,p',k1,k2,k3⟩:=f.wd.wr.low S D;obtain⟨q,q',U,E,W⟩:=hs.wr.low (hs.le S) D;rw[H]at k2;cases k2;rw[j]at E;cases E;have A:I.heap[a]?=some q:=U;have Y:s.heap[a]?=some p:=k1;rw[h2 a D,Y]at A;cases A;rw[H,j]
   cases g3 with
   |cells=>
    cases k3 with
    |cells=>cases W;rfl
    |ac1 _ _ R=>exact absurd rfl (R _ _ _)
   |loop=>rfl
   |same=>rfl⟩
  have ow:qw X V Bs ρ M w l:=(qw.ad4 hl.own r).trans (λ_ h=>h) (λ_ _ h=>dx h) (λ_ _ h=>h) Q;refine ay.lone fit hP n h5 ⟨hs.inj,⟨hs.wr.pK,hs.wr.gN,hs.wr.base,hs.wr.obj,hs.wr.low⟩,hg,a3,YP,O⟩ N λt u B w2 U E W j4 j5 j6=>?_;have only:∀a b,aJ a b->ρ a b\/(Bs<=a/\w.heap.size<=b):=λa b h=>(hs.only a b h).imp id λx=>⟨b2 f.wr.base x.1,b2 r.size x.2⟩
  refine k t u B w2 U E (λb hb=>W b (dx hb)) (λa b hab=>j4 a b (hs.le hab)) (λa b h=>?_) (ow.trans (λb hb=>dx hb) (λa b h=>(only a b h).imp id And.right) hs.le j6)
  rcases j5 a b h with h|h
  ·exact only a b h
  ·exact dv ⟨h.1,b2 ow.size h.2⟩
end
end Go.Ph
namespace Go.Ph
open Go.Conc Go.ConcN Go.bJ
section
variable (P:ac)(Bs:Nat)(S:aa->Bool)
noncomputable def BR(g:aa)(w:World):aa×World:=match stepG P true g w with
 |cc a w1 _=>(a,w1)
 |_=>(g,w)
noncomputable def exL(g:aa)(w:World):Array Event:=match stepG P true g w with
 |cc _ _ es=>es
 |_=>#[]
noncomputable def Jp:Nat->aa->World->aa×World
 |0,g,w=>(g,w)
 |n+1,g,w=>@b8 (λ_=>aa×World) (Jp n (BR P g w).1 (BR P g w).2) (g,w) (S g)
def hiE(Bs:Nat)(es:Array Event):Bool:=es.toList.all λe=>match e.loc with
 |dt a=>b4 Bs a.block
 |du b=>b4 Bs b
 |_=>true
def BS(g:aa):Bool:=match g.frame.mode with
 |dP=>true
 |_=>!(g.frame.defers.isEmpty&&g.callers.length==1)
def Jq(g:aa):Bool:=match g.status with
 |dy=>true
 |_=>false
noncomputable def DO(a:Tape)(d:Nat):Nat->aa->World->List (GStep×List Obj×Bool×Bool×Bool)
 |0,_,_=>[]
 |n+1,g,w=>@b8 (λ_=>List (GStep×List Obj×Bool×Bool×Bool)) ((stepG P true g (bd w a d),(BR P g w).2.heap.toList.take Bs,hiE Bs (exL P g w),Jq (BR P g w).1,BS g)::DO a d n (BR P g w).1 (BR P g w).2) [] (S g)
noncomputable def DQ(a:Tape)(d:Nat):Nat->aa->World->List (GStep×List Obj×Bool×Bool×Bool)
 |0,_,_=>[]
 |n+1,g,w=>@b8 (λ_=>List (GStep×List Obj×Bool×Bool×Bool)) ((cc (BR P g w).1 (bd (BR P g w).2 a d) (exL P g w),w.heap.toList.take Bs,true,true,true)::DQ a d n (BR P g w).1 (BR P g w).2) [] (S g)
end
def Uc{Bs:Nat}{es:Array Event}(h:hiE Bs es=true):∀e∈es,¬BQ Bs e:=by
 intro e c hl;simp only[hiE,List.all_eq_true]at h;have:=h e (Array.mem_toList_iff.2 c);obtain⟨loc,wr,d⟩:=e
 cases loc with
 |cell a=>exact absurd (b6 this) (Nat.not_le.2 hl)
 |obj b=>exact absurd (b6 this) (Nat.not_le.2 hl)
 |_=>exact hl
def Pm{g:aa}(h:Jq g=true):g.status=dy:=by
 unfold Jq at h
 grind
def Pn{P:ac}{Bs:Nat}{S:aa->Bool}(bot:Frame):∀(n:Nat){g:aa}{w:World},(∀b d,DO P Bs S b d n g w=DQ P Bs S b d n g w)->∃m,Lone P bot Bs m g w (Jp P S n g w).1 (Jp P S n g w).2
 |0,g,w,_=>⟨0,rfl,rfl⟩
 |n+1,g,w,h=>by
  cases c:S g with
  |true=>simp only[Jp,c];exact⟨0,rfl,rfl⟩
  |false=>
   simp only[Jp,c];have e:∀b d,stepG P true g (bd w b d)=cc (BR P g w).1 (bd (BR P g w).2 b d) (exL P g w)/\(BR P g w).2.heap.toList.take Bs=w.heap.toList.take Bs/\hiE Bs (exL P g w)=true/\Jq (BR P g w).1=true/\BS g=true/\
    DO P Bs S b d n (BR P g w).1 (BR P g w).2=DQ P Bs S b d n (BR P g w).1 (BR P g w).2:=λb d=>by
    have:=h b d;simp only[DO,DQ,c,List.cons.injEq,Prod.mk.injEq]at this
    grind
   obtain⟨_,i,j,f,k,_⟩:=e w.tape 0;obtain⟨m,l⟩:=Pn bot n (λb d=>(e b d).2.2.2.2.2);refine⟨m+1,_,_,_,λb d=>(e b d).1,λa q=>?_,Uc j,Pm f,λo p r=>?_,l⟩
   ·have:((BR P g w).2.heap.toList.take Bs)[a]?=(w.heap.toList.take Bs)[a]?:=by rw[i]
    grind
   ·unfold BS at k
    grind
section
variable {P:ac}{mn:Bool}{fr c:Frame}{cs:List Frame}{w:World}{fn:Func}{v:Value}
def rB(a:fr.mode=dQ)(b:fr.kind=ce)(hd:fr.defers=[])(hf:P.funcs[fr.fn]?=some fn)(e:(results fn fr.tmps).run P w=.ok v w)(g:(results fn fr.tmps).events P w #[]=#[]) :
 stepG P mn (G fr (c::cs)) w=cc (G (c.finish v) cs) w #[]:=by
 obtain⟨f,tmps,todo,defers,mode,kind,h⟩:=fr;simp only at a b hd hf e g;subst a b hd;simp[G,stepG,unwind,doReturn,hf,e,g,seen,cb]
variable {X:Fix}{V:Vw}{q:Bool}{Stop:Stp}{M:Own}{d:Nat}
def ay.leave1{t:Tmp}(hc:Clear X V M)(e:fr.mode=dQ)(f:fr.kind=ce)(hd:fr.defers=[])(hf:X.P.funcs[fr.fn]?=some fn)(a:fn.results=#[.tmp t])
 (h:ay X V q Stop M d (G (c.finish (fr.tmps.getD t undef)) cs) w):ay X V q Stop M d (G fr (c::cs)) w:=
 .idle hc rfl λb _=>⟨_,b,#[],rB e f hd hf (results_tmp a _ X.P b) (events_results_tmp a _ _),rfl,rfl,.refl _,rfl,by simp,rfl,h⟩
def ay.leave0(hc:Clear X V M)(e:fr.mode=dQ)(f:fr.kind=ce)(hd:fr.defers=[])(hf:X.P.funcs[fr.fn]?=some fn)(a:fn.results=#[])
 (h:ay X V q Stop M d (G (c.finish (di #[])) cs) w):ay X V q Stop M d (G fr (c::cs)) w:=
 .idle hc rfl λb _=>⟨_,b,#[],rB e f hd hf (results_none a _ X.P b) (events_results_none a _ _),rfl,rfl,.refl _,rfl,by simp,rfl,h⟩
end
section
variable {P:ac}{mn:Bool}{w:World}
def eval_const(fr:Frame)(v:Value):fr.eval (dS v)=v:=rfl
def uw(fn:ap)(tmps:Array Value)(ps:Array Tmp)(assign body:Code)(b:Nat):Obj:=c6 { state:=.ready,pending:=none,fn,tmps,params:=ps,assign,body,defers:=b }
def GZ{fn:ap}{tmps:Array Value}{f:ae}{ps:Array Tmp}{assign body:Code}{k:List Item}{defers:List aq}{kind:ar}{cs:List Frame}{F:ap}{caps:Array Value}{fd:Func}
 (b:(kind==cd)=false) (hf:cg ⟨fn,tmps,dU (w.heap.size+1)::k,{ target:=ec w.heap.size,args:=#[] }::defers,dP,kind,none⟩ f=dj (ed F) #[] caps)
 (hF:P.funcs[F]?=some fd) (hb:fd.body.isSome=true) (a:fd.name≠ "runtime.NumGoroutine") :
 stepG P mn (G ⟨fn,tmps,d8 (eh f ps assign body)::k,defers,dP,kind,none⟩ cs) w =
  cc (G (ch P F (#[dj (eg (w.heap.size+1)) #[] #[]]++caps) ce) (⟨fn,tmps,dU (w.heap.size+1)::k,{ target:=ec w.heap.size,args:=#[] }::defers,dP,kind,none⟩::cs))
   ((w.alloc (c7 (some []))).alloc (uw fn tmps ps assign body w.heap.size)) #[]:=by
 have c:(Instr.enterLoop fn tmps ps assign body none).runT P w #[]=(.ok (w.heap.size+1,[{ target:=ec w.heap.size,args:=#[] }]) ((w.alloc (c7 (some []))).alloc (uw fn tmps ps assign body w.heap.size)),#[]):=by
  refine Prod.ext ?_ ?_
  ·rw[cm,run_enterLoop_outer];rfl
  ·rfl
 have g:fd.body.isNone=false:=by simp_all
 have h:(fd.name == "runtime.NumGoroutine")=false:=by simpa using a
 have e:∀w2,(do let d<-aw (cg ⟨fn,tmps,dU (w.heap.size+1)::k,{ target:=ec w.heap.size,args:=#[] }::defers,dP,kind,none⟩) { callee:=.value f,args:=#[dS (dj (eg (w.heap.size+1)) #[] #[])],argTypes:=#[] } 0;aB d.target d.args:Sem Next).runT P w2 #[]=(.ok (.enter F (#[dj (eg (w.heap.size+1)) #[] #[]]++caps)) w2,#[]):=by
  intro w2;have e1:(do let d<-aw (cg ⟨fn,tmps,dU (w.heap.size+1)::k,{ target:=ec w.heap.size,args:=#[] }::defers,dP,kind,none⟩) { callee:=.value f,args:=#[dS (dj (eg (w.heap.size+1)) #[] #[])],argTypes:=#[] } 0;aB d.target d.args:Sem Next)=callFunc F (#[dj (eg (w.heap.size+1)) #[] #[]]++caps):=by
   simp[aw,hf,Deferred.ofValue,aB,eval_const]
  rw[e1];obtain⟨kk,c1,i⟩:=uf (T:=P.toTables) hF hb a (#[dj (eg (w.heap.size+1)) #[] #[]]++caps);rw[c1];show(kk P).runT P w2 #[]=_
  simp_all
 simp only[G,stepG,cv,c];simp only[List.cons_append,List.nil_append];unfold cx;simp only[if_true,e,b,b9,if_false,cb,bp];simp[ch]
end
section
variable {P:ac}{mn:Bool}{w:World}{g:aa}{o:Oper}
def G3{x:ae}{xs:Array ae}{ts:Array ad}{l:Nat}{r:Loop}(c:bF g=some o)(f:o.op=.call { callee:=.value x,args:=xs,argTypes:=ts })(h:g.frame.eval x=dj (eg l) #[] #[])
 (hl:w.heap[l]?=some (c6 r)) (hs:xs.size=r.params.size) :
 ∃es,stepG P mn g w=cc (G (ci l r.fn ((r.params.zip (xs.map g.frame.eval)).foldl (λtmps(t,a)=>tmps.setIfInBounds t a) r.tmps) r.assign r.body ce) (g.frame::g.callers)) w es/\∀e∈es,e=⟨du l,false,false⟩:=by
 have e1:ag g.frame.eval o=cB l (xs.map g.frame.eval):=by
  unfold ag;simp[f,aw,h,Deferred.ofValue,aB]
 have j:=run_yield (P:=P) (args:=xs.map g.frame.eval) hl (by simpa using hs);rw[lV c];have b:(cB l (xs.map g.frame.eval)).runT P w #[]=(.ok (.round l r.fn ((r.params.zip (xs.map g.frame.eval)).foldl (λtmps(t,a)=>tmps.setIfInBounds t a) r.tmps) r.assign r.body) w,#[⟨du l,false,false⟩]):=by
  refine Prod.ext ?_ ?_
  ·rw[cm];exact j
  ·have m:¬((xs.map g.frame.eval).size≠r.params.size):=by simpa using hs
   have n:∀{p:Type}(k:Obj->Sem p)(es:Array Event),(co l k).runT P w es=(k (c6 r)).runT P w (es.push ⟨du l,false,false⟩):=λk es=>by simp only[cp,hl,c5]
   show((co l _).runT P w #[]).2=_;rw[n];show((if(xs.map g.frame.eval).size≠r.params.size then _ else _:Sem Next).runT P w _).2=_;rw[if_neg m];rfl
 obtain⟨fn,tmps,ops,i,d,k,defers,kind,u,cs,rfl,q,v,y,z⟩:=gF c;unfold cx;rw[e1];simp only[if_true,b,cb];simp only[q,b9,if_false,br];exact⟨seen P fn #[⟨du l,false,false⟩],rfl,λe s=>by simpa using Conc.mem_seen (P:=P) (fn:=fn) s⟩
end
section
variable {P:ac}{mn:Bool}{w w':World}{g:aa}{o:Oper}{t:ad}{x y ix:ae}{b off:Nat}{v:Value}
def jY{i:TypeInfo}{z:Value}(d:bF g=some o)(e:o.op=dB t)(hi:P.info? t=some i)(a:i.zero=some z) :
 stepG P mn g w=cc (fin g (df (some ⟨w.heap.size,0,none⟩))) (w.alloc (c8 z.cells t)) #[]:=by
 have e1:ag g.frame.eval o=(do pure (.value (<-cC t true (di #[]))):Sem Next):=by
  unfold ag;simp only[e]
 have c:(cC t true (di #[])).run P w=.ok (df (some ⟨w.heap.size,0,none⟩)) (w.alloc (c8 z.cells t)):=by
  simp[cC,zeroValue,aF,hi,a,newVar,newRow]
 have f:(cC t true (di #[])).events P w #[]=#[]:=by
  simp[cC,zeroValue,aF,hi,a,newVar,newRow]
 rw[dF (v:=df (some ⟨w.heap.size,0,none⟩)) (w':=w.alloc (c8 z.cells t)) d (by rw[e1];simp[c]),e1];simp[c,f,bp]
def oR(g o:Nat)(t:ad):∀(vs:List Value)(i:Nat)(cur:Array Value)(w:World)(es:Array Event),w.heap[g]?=some (c8 cur t (0,0))->o+i+vs.length<=cur.size->(∀v∈vs,v.oneCell'=true)->
 ∀ev∈(aH ⟨g,o,none⟩ vs i).events P w es,ev∈es\/∃j,j<i+vs.length/\ev=⟨dt ⟨g,o+j,none⟩,true,false⟩
 |[],_,_,_,_,_,_,_=>λev h=>dx (by simpa[aH]using h)
 |v::a,i,cur,w,es,hg,hl,c=>λev h=>by
  have hi:o+i<cur.size:=by simp at hl;omega
  have d:(⟨g,o,none⟩:Addr).add i=⟨g,o+i,none⟩:=by unfold Addr.add;split<;>simp_all
  have hcell:w.cell? ⟨g,o+i,none⟩=some cur[o+i]:=by simp[bb,hg,hi]
  have e:w.frozen? ⟨g,o+i,none⟩=false:=by simp[World.frozen?,hg]
  have f:(store ((⟨g,o,none⟩:Addr).add i) v).run P w=.ok () (w.setRow g (cur.setIfInBounds (o+i) v)):=by
   grind[Go.run_store,setCell_eq_setRow]
  have k:(store ((⟨g,o,none⟩:Addr).add i) v).events P w es=es.push ⟨dt ⟨g,o+i,none⟩,true,false⟩:=by
   rw[d,events_store P w es _ v _ (c v (by simp)),hcell]
   grind
  simp only[aH,cq,f,Result.evThen_ok,k]at h
  rcases oR g o t a (i+1) (cur.setIfInBounds (o+i) v) (w.setRow g (cur.setIfInBounds (o+i) v)) _ (aI w g cur _ t _ hg) (by simp at hl ⊢;omega) (λx l=>c x (by simp[l])) ev h with h|⟨j,m,h⟩
  ·grind
  grind
def putRow(cur:Array Value)(off:Nat)(vs:Array Value):Array Value:=(cur.toList.take off++vs.toList++cur.toList.drop (off+vs.size)).toArray
theorem vj{cur vs:Array Value}{off:Nat}(h:off+vs.size<=cur.size):(putRow cur off vs).size=cur.size:=by
 simp[putRow];omega
def Mo{cur vs:Array Value}{off j:Nat}(h:off+vs.size<=cur.size)(a:j<vs.size):(putRow cur off vs)[off+j]?=vs[j]?:=by
 simp only[putRow,bL]
 grind
theorem G4{cur vs:Array Value}{off j:Nat}(h:off+vs.size<=cur.size)(a:j<off\/off+vs.size<=j):(putRow cur off vs)[j]?=cur[j]?:=by
 simp only[putRow,bL]
 grind
def rC{ty:ad}{cur:Array Value}(l:bF g=some o)(m:o.op=dC t x y)(n:g.frame.eval x=df (some ⟨b,off,none⟩))(hy:g.frame.eval y=v)
 (hb:w.heap[b]?=some (c8 cur ty (0,0))) (hs:(P.info? t).map (·.size)=some v.cells.size) (hl:off+v.cells.size<=cur.size) (d:∀c∈v.cells,c.oneCell'=true) :
 ∃es,stepG P mn g w=cc (fin g undef) (w.setRow b (putRow cur off v.cells)) es/\∀e∈es,∃j,j<v.cells.size/\e=⟨dt ⟨b,off+j,none⟩,true,false⟩:=by
 have e1:ag g.frame.eval o=(do aL t ⟨b,off,none⟩ v;pure .skip:Sem Next):=by
  unfold ag;simp only[m,n,hy,Instr.storeAt,cQ];rfl
 cases a:P.info? t with
 |none=>simp[a]at hs
 |some i=>
  have f:i.size=v.cells.size:=by simpa[a]using hs
  have k:=run_storeCells_at P b off ty v.cells.toList 0 cur w hb (by simpa using hl) (λc hc=>d c (by simpa using hc));have p:(aL t ⟨b,off,none⟩ v).run P w=.ok () (w.setRow b (putRow cur off v.cells)):=by
   simp[aL,aP,aF,a,f,k,putRow]
  refine⟨_,Me (w':=w.setRow b (putRow cur off v.cells)) l (by rw[e1];simp[p]),λe q=>?_⟩;have:=bo q;rw[e1]at this;have r:e∈(aL t ⟨b,off,none⟩ v).events P w #[]:=by simp_all
  have s:e∈(aH ⟨b,off,none⟩ v.cells.toList 0).events P w #[]:=by simpa[aL,aP,aF,a,f,k]using r
  rcases oR b off ty v.cells.toList 0 cur w #[] hb (by simpa using hl) (λc hc=>d c (by simpa using hc)) e s with h|⟨j,u,h⟩
  ·simp at h
  grind
def xH{elem:ad}{n c:Nat}{k:aS}{i:Int}{a:Addr}{d:Nat}(q:bF g=some o)(r:o.op=dL t x ix)(s:g.frame.eval x=dk (some a) n c)(hi:g.frame.eval ix=de k i)
 (h:P.underlying t=some (.slice elem)) (hs:(P.info? elem).map (·.size)=some d) (j:0<=i) (l:i<n) :
 stepG P mn g w=cc (fin g (df (some (a.add (i.toNat*d))))) w #[]:=by
 have e1:ag g.frame.eval o=(do pure (.value (<-c2 t (dk (some a) n c) (de k i))):Sem Next):=by
  unfold ag;simp only[r,s,hi]
 cases e:P.info? elem with
 |none=>simp[e]at hs
 |some f=>
  have m:f.size=d:=by simpa[e]using hs
  have p:(c2 t (dk (some a) n c) (de k i)).run P w=.ok (df (some (a.add (i.toNat*d)))) w:=by
   simp[c2,a5,a6 h,j,l,aP,aF,e,m]
  have u:(c2 t (dk (some a) n c) (de k i)).events P w #[]=#[]:=by
   simp[c2,a5,a6 h,j,l,aP,aF,e,m]
  rw[dF (v:=df (some (a.add (i.toNat*d)))) (w':=w) q (by rw[e1];simp[p]),e1];simp[p,u,bp]
end
section
variable {P:ac}{mn:Bool}{w:World}{l:Nat}{r:Loop}
def rE{a:Type}(h:w.heap[l]?=some (c6 r))(k:Obj->Sem a)(es:Array Event):(co l k).runT P w es=(k (c6 r)).runT P w (es.push ⟨du l,false,false⟩):=by
 simp only[cp,h,c5]
def rF{c:Type}(h:w.heap[l]?=some (c6 r))(a:Loop)(k:Sem c)(es:Array Event):(ct l (c6 a) k).runT P w es=k.runT P (w.putObj l (c6 a)) (es.push ⟨du l,true,false⟩):=by
 simp only[cp,h,c5,bi]
def wz{a b:Event}:∀e∈(#[a,b]:Array Event),e=a\/e=b:=λe c=>by simpa using c
variable {fn:ap}{tmps:Array Value}{k:List Item}{defers:List aq}{kind:ar}{ro:Option Nat}{cs:List Frame}
def G5(h:w.heap[l]?=some (c6 r))(a:r.state=.ready)(c:(kind==cd)=false) :
 ∃es,stepG P mn (G ⟨fn,tmps,d9::k,defers,dP,kind,some l⟩ cs) w=cc (G ⟨fn,tmps,k,defers,dP,kind,some l⟩ cs) (w.putObj l (c6 { r with state:=.busy })) es/\∀e∈es,∃wr,e=⟨du l,wr,false⟩:=by
 have e1:(do Instr.beginRound l;pure .skip:Sem Next).runT P w #[]=(.ok .skip (w.putObj l (c6 { r with state:=.busy })),#[⟨du l,false,false⟩,⟨du l,true,false⟩]):=by
  show((co l _).runT P w #[])=_;rw[rE h];show((ct l (c6 { r with state:=.busy }) _).runT P w _)=_;rw[rF h];simp only[a];rfl
 refine⟨seen P fn #[⟨du l,false,false⟩,⟨du l,true,false⟩],?_,λe f=>?_⟩
 ·simp only[G,stepG,cv];unfold cx;simp only[Option.elim,e1,if_true,c,b9,if_false,cb,Frame.finish,br]
 ·rcases wz e (bo f) with rfl|rfl
  ·exact⟨_,rfl⟩
  ·exact⟨_,rfl⟩
def zH{c:Frame}(h:w.heap[l]?=some (c6 r)) :
 ∃es,stepG P mn (G ⟨fn,tmps,[],defers,dP,ce,some l⟩ (c::cs)) w=cc (G (c.finish (.bool true)) cs) (w.putObj l (c6 { r with state:=.ready,pending:=none })) es/\∀e∈es,∃wr,e=⟨du l,wr,false⟩:=by
 have e1:(Instr.endRound l none).runT P w #[]=(.ok (.bool true) (w.putObj l (c6 { r with state:=.ready,pending:=none })),#[⟨du l,false,false⟩,⟨du l,true,false⟩]):=by
  show((co l _).runT P w #[])=_;rw[rE h];show((ct l (c6 { r with state:=.ready,pending:=none }) _).runT P w _)=_;rw[rF h];rfl
 refine⟨seen P fn #[⟨du l,false,false⟩,⟨du l,true,false⟩],?_,λe a=>?_⟩
 ·simp only[G,stepG,cv,e1,doReturn,cb,br]
 ·rcases wz e (bo a) with rfl|rfl
  ·exact⟨_,rfl⟩
  ·exact⟨_,rfl⟩
def BT(h:w.heap[l]?=some (c6 r))(hb:r.state=.ready)(a:r.pending=none) :
 ∃es,stepG P mn (G ⟨fn,tmps,ea l::k,defers,dP,kind,ro⟩ cs) w=cc (G ⟨fn,tmps,k,defers,dP,kind,ro⟩ cs) (w.putObj l (c6 { r with state:=.exhausted })) es/\∀e∈es,∃wr,e=⟨du l,wr,false⟩:=by
 have e1:(Instr.endLoop l).runT P w #[]=(.ok none (w.putObj l (c6 { r with state:=.exhausted })),#[⟨du l,false,false⟩,⟨du l,true,false⟩]):=by
  show((co l _).runT P w #[])=_;rw[rE h];obtain⟨st,f,a1,a2,a3,a4,i,j⟩:=r;simp only at hb a;subst hb a;show((ct l (c6 _) _).runT P w _)=_;rw[rF h];rfl
 refine⟨seen P fn #[⟨du l,false,false⟩,⟨du l,true,false⟩],?_,λe c=>?_⟩
 ·simp only[G,stepG,cv,e1,cb,br];rfl
 ·rcases wz e (bo c) with rfl|rfl
  ·exact⟨_,rfl⟩
  ·exact⟨_,rfl⟩
def step_take{b:Nat}{ds:List aq}{a:Array Value}(h:w.heap[b]?=some (c7 (some []))) :
 ∃es,stepG P mn (G ⟨fn,tmps,k,{ target:=ec b,args:=a }::ds,dQ,kind,ro⟩ cs) w=cc (G ⟨fn,tmps,k,ds,dQ,kind,ro⟩ cs) (w.putObj b (c7 none)) es/\∀e∈es,∃wr,e=⟨du b,wr,false⟩:=by
 have e1:(Instr.takeDeferred b).runT P w #[]=(.ok [] (w.putObj b (c7 none)),#[⟨du b,false,false⟩,⟨du b,true,false⟩]):=by
  show((co b _).runT P w #[])=_;simp only[cp,h,c5];show((ct b (c7 none) _).runT P w _)=_;simp only[cp,h,c5,bi];rfl
 refine⟨seen P fn #[⟨du b,false,false⟩,⟨du b,true,false⟩],?_,λe c=>?_⟩
 ·simp only[G,stepG,unwind,e1,cb,br];rfl
 ·rcases wz e (bo c) with rfl|rfl
  ·exact⟨_,rfl⟩
  ·exact⟨_,rfl⟩
end
section
variable {X:Fix}{V:Vw}{Stop:Stp}{M:Own}{d:Nat}{w:World}{g g':aa}{b:Nat}{o':Obj}
def Am{es:Array Event}{b:Nat}(d:Nat)(h:∀e∈es,∃wr,e=(⟨du b,wr,false⟩:Event)):ab d es=d:=mV d λe a=>by
 grind
def ay.rec(hc:Clear X V M)(hs:g.status=dy)(hl:Live X w)(hb:M b)(i:b<w.heap.size)
 (h:∀a,Rl X V M w a->∃es,stepG X.P (V.g==0) g a=cc g' (a.putObj b o') es/\∀e∈es,∃wr,e=⟨du b,wr,false⟩) (j:g'.status=dy)
 (m:∀a,Rl X V M w a->ay X V false Stop M d g' (a.putObj b o')):ay X V false Stop M d g w:=
 .own hc hs hl λa r=>by
  obtain⟨es,n,c⟩:=h a r;have f:M.more a (a.putObj b o')=M:=by
   funext x;unfold Own.more
   grind[World.putObj_size]
  refine⟨_,_,es,n,rfl,rfl,.refl _,by simp,λx q o=>World.putObj_heap_other λe=>o (e▸hb),λe p=>?_,j,?_⟩
  ·obtain⟨wr,rfl⟩:=c e p;rw[f];exact DG hb (by simp;exact b3 i r.size)
  ·rw[f,Am d c];exact m a r
def ay.new(hc:Clear X V M)(hs:g.status=dy)(hl:Live X w){o':World->Obj}{G':Nat->aa}
 (h:∀a,Rl X V M w a->stepG X.P (V.g==0) g a=cc (G' a.heap.size) (a.alloc (o' a)) #[]) (c:∀n,(G' n).status=dy)
 (e:∀a,Rl X V M w a->ay X V false Stop (λb=>M b\/b=a.heap.size) d (G' a.heap.size) (a.alloc (o' a))):ay X V false Stop M d g w:=
 .own hc hs hl λa r=>by
  have f:M.more a (a.alloc (o' a))=λb=>M b\/b=a.heap.size:=by
   funext x;unfold Own.more
   grind[bj]
  refine⟨_,_,#[],h a r,rfl,rfl,.refl _,by simp[bj],λx i _=>?_,by simp,c _,?_⟩
  ·show(a.heap.push _)[x]?=_
   grind
  ·rw[f];exact e a r
end
open Go.ConcM (MuAt muA msA OsLater muBlock)
section
variable {X:Fix}{V:Vw}{Stop:Stp}{M:Own}{d:Nat}{w:World}{g:aa}{o:Oper}{t ty:ad}{x y:ae}{b off:Nat}{v:Value}{cur:Array Value}
def ay.DS(hc:Clear X V M)(hl:Live X w)(f:M b)(h:bF g=some o)(l:o.op=dC t x y)(m:g.frame.eval x=df (some ⟨b,off,none⟩))(hy:g.frame.eval y=v)
 (hb:w.heap[b]?=some (c8 cur ty (0,0))) (hs:(X.P.info? t).map (·.size)=some v.cells.size) (i:off+v.cells.size<=cur.size) (n:∀c∈v.cells,c.oneCell'=true)
 (A:∀a,Rl X V M w a->ay X V false Stop M d (fin g undef) (a.setRow b (putRow cur off v.cells))):ay X V false Stop M d g w:=
 .own hc (aK h).1 hl λa r=>by
  have k:a.heap[b]?=some (c8 cur ty (0,0)):=by rw[r.own b f];exact hb
  obtain⟨es,e1,p⟩:=rC (P:=X.P) (mn:=V.g==0) h l m hy k hs i n;have q:b<a.heap.size:=(Array.getElem?_eq_some_iff.1 k).1;have s:M.more a (a.setRow b (putRow cur off v.cells))=M:=by
   funext x;unfold Own.more
   grind[setRow_size]
  refine⟨_,_,es,e1,rfl,rfl,.refl _,by simp,λx _ u=>a7 _ _ _ _ λe=>u (e▸f),λe z=>?_,(aK h).2.2 _,?_⟩
  ·obtain⟨j,_,rfl⟩:=p e z;rw[s];exact DF f (by simpa using q)
  grind[mV]
def Live.ad7{w:World}(hi:WO X)(hl:Live X w){cur new:Array Value}(hb:w.heap[X.Tb]?=some (c8 cur X.tT (0,0)))(hs:new.size=cur.size):Live X (w.setRow X.Tb new):=by
 obtain⟨⟨a1,a2,a⟩,⟨e,f,b⟩,c,c1,h⟩:=hl;rw[hb]at c1;cases c1;exact⟨⟨a1,a2,by unfold MuAt at a ⊢;rw[a7 _ _ _ _ hi.mt];exact a⟩,⟨e,f,by unfold Go.ConcR.WgAt at b ⊢;rw[a7 _ _ _ _ hi.wt];exact b⟩,new,aI w _ _ _ _ _ hb,hs.trans h⟩
def ay.Po(hc:Clear X V M)(l:bF g=some o)(s:o.op=dC t x y)(u:g.frame.eval x=df (some ⟨X.Tb,off,none⟩))(hy:g.frame.eval y=v)(hl:Live X w)
 (hs:(X.P.info? t).map (·.size)=some v.cells.size) (z:off+v.cells.size<=X.size) (A:∀c∈v.cells,c.oneCell'=true) (m:∀j,j<v.cells.size->V.row (off+j))
 (B:∀a w':World,Rl X V M w a->Live X w'->w'.heap.size=a.heap.size->(∀b,b≠X.Tb->w'.heap[b]?=a.heap[b]?)->(∀j,j<v.cells.size->w'.cell? ⟨X.Tb,off+j,none⟩=v.cells[j]?)->
   (∀j,(j<off\/off+v.cells.size<=j)->w'.cell? ⟨X.Tb,j,none⟩=a.cell? ⟨X.Tb,j,none⟩)->ay X V false Stop M d (fin g undef) w'):ay X V false Stop M d g w:=
 .step (aK l).1 λa r=>by
  have C:=r.live hl;obtain⟨⟨_,_,v1⟩,⟨_,_,K⟩,cur,i,L⟩:=C;have k:off+v.cells.size<=cur.size:=by omega
  obtain⟨es,e1,D⟩:=rC (P:=X.P) (mn:=V.g==0) l s u hy i hs k A;have E:X.Tb<a.heap.size:=(Array.getElem?_eq_some_iff.1 i).1;have n:=aI a X.Tb cur (putRow cur off v.cells) _ _ i;have F:∀j,j<v.cells.size->(a.setRow X.Tb (putRow cur off v.cells)).cell? ⟨X.Tb,off+j,none⟩=v.cells[j]?:=λj f=>by
   simp only[bb,n];exact Mo k f
  have p:∀j,(j<off\/off+v.cells.size<=j)->(a.setRow X.Tb (putRow cur off v.cells)).cell? ⟨X.Tb,j,none⟩=a.cell? ⟨X.Tb,j,none⟩:=λj f=>by
   simp only[bb,n,i];exact G4 k f
  refine⟨_,_,es,M,d,e1,⟨rfl,rfl,.refl _,by simp,λb _ _ _ _ H=>a7 _ _ _ _ H,λc I=>?_,λj f=>?_,by simp,λb=>⟨dx,λh=>h.resolve_right λx=>by simp at x;omega⟩,λe J=>?_,by simp,?_⟩,⟨a7 _ _ _ _ hc.ids.mt,a7 _ _ _ _ hc.ids.wt⟩,(aK l).2.2 _,?_⟩
  ·grind[vj]
  ·refine p j ?_
   rcases bT j off with h|h
   ·exact dx h
   ·rcases bT j (off+v.cells.size) with q|q
    ·exact absurd (by have:=m (j-off) (by omega);grind) f
    ·exact dv q
  ·obtain⟨j,f,rfl⟩:=D e J;exact Pf rfl (m j f) (by simpa using E)
  ·grind[mV]
  ·exact B a _ r (Live.ad7 hc.ids (r.live hl) i (vj k)) (by simp) (λb hb=>a7 _ _ _ _ hb) F p
end
end Go.Ph
namespace Go.Proofs
open Go.Ph Go.Conc
set_option maxRecDepth 100000
def xJ(g:aa):Bool:=match g.frame.mode with
 |dP=>match g.frame.todo with
  |[]=>g.frame.roundOf.isSome
  |d9::_=>true
  |ea _::_=>true
  |d8 (eh ..)::_=>true
  |d8 (ei _ _ true)::_=>true
  |[d8 _]=>g.frame.fn==41||g.frame.fn==72||g.frame.fn==73||g.frame.fn==67
  |eb _ (_::_)::_=>match bF g with
   |some o=>match o.op with
    |dz .. | dC .. | dB .. | .box ..=>true
    |_=>false
   |none=>false
  |_=>false
 |dQ=>true
 |_=>false
noncomputable abbrev T5(g:aa):aa:=wu PP false xJ 400 g
structure vN(g g':aa):Prop where
 q:ff PP false xJ 400 g
 d:∀d,xD PP false xJ 400 d g=d
 e:T5 g=g'
def jK{g g':aa}(e:T5 g=g')(a:ff PP false xJ 400 g:=by exact⟨λ_=>by kernel_rfl,by kernel_rfl⟩)(hd:∀d,xD PP false xJ 400 d g=d:=by intro _;kernel_rfl):vN g g':=⟨a,hd,e⟩
def vN.run{X:Fix}{V:Vw}{q:Bool}{Stop:Stp}{M:Own}{d:Nat}{g g':aa}{w:World}(h:vN g g')(a:X.P=PP)(hg:(V.g==0)=false)(b:ay X V q Stop M d g' w):ay X V q Stop M d g w:=by
 refine .oO (S:=xJ) hg 400 (by rw[a];exact h.q) ?_;have e:wu PP false xJ 400 g=g':=h.e;rw[a,h.d,e];exact b
noncomputable def Jt:Code:=((PP.funcs[70]?).bind (·.body)).getD ej
def rangeAt:Code->Option (Code×Code)
 |eh _ _ a b=>some (a,b)
 |.block _ b=>rangeAt b
 |.seq a b=>match rangeAt a with
  |some x=>some x
  |none=>rangeAt b
 |_=>none
noncomputable def vl:Code:=((rangeAt Jt).getD (ej,ej)).1
noncomputable def lZ:Code:=((rangeAt Jt).getD (ej,ej)).2
def jZ(i:Nat):Code->Option (Array Oper)
 |ei j ops _=>if j==i then some ops else none
 |.block _ b=>jZ i b
 |.loop b=>jZ i b
 |.cond _ a b=>match jZ i a with
  |some x=>some x
  |none=>jZ i b
 |.seq a b=>match jZ i a with
  |some x=>some x
  |none=>jZ i b
 |_=>none
noncomputable def dX:Array Oper:=(jZ 4 lZ).getD #[]
section
variable (W bc bg bm bt:Nat)(c:Value)(n:Int)(cl:Value)(v:Value)(lb b5:Nat)(cs:List Frame)
def Ul(a:Value)(f:Nat->Value):Nat->Value
 |0=>df (some ⟨W,0,none⟩)|1=>df (some ⟨bc,0,none⟩)|2=>df (some ⟨bg,0,none⟩)|3=>df (some ⟨bm,0,none⟩)|4=>df (some ⟨bt,0,none⟩)|5=>a|6=>c|7=>de .i64 n|8=>cl|9=>v|i=>f i
noncomputable def qJ(a:Value)(f:Nat->Value):Array Value:=zj 20 (Ul W bc bg bm bt c n cl v a f)
noncomputable def rG:List aq:=[{ target:=.fn (ed 71) #[],args:=#[pt W] }]
noncomputable def k3:aa:=T5 (G (((k2 W bc bg bm bt c n).callers.headD default).finish cl) [ez PP])
def aiY:k2 W bc bg bm bt c n=G (ch PP 41 #[c,de .i64 n] ce) [(k2 W bc bg bm bt c n).callers.headD default,ez PP]:=by kernel_rfl
noncomputable def kk:List Item:=(k3 0 0 0 0 0 undef 0 undef).frame.todo.tail
def k_3:vN (G (((k2 W bc bg bm bt c n).callers.headD default).finish cl) [ez PP]) (k3 W bc bg bm bt c n cl):=jK (by delta k3;rfl)
def aiZ:k3 W bc bg bm bt c n cl=G ⟨70,qJ W bc bg bm bt c n cl undef undef (λ_=>undef),d8 (eh (dT 8) #[9] vl lZ)::kk,rG W,dP,cf,none⟩ [ez PP]:=by kernel_rfl
noncomputable def rd0(f:Nat->Value):aa:=G (ci lb 70 (qJ W bc bg bm bt c n cl v undef f) vl lZ ce) cs
noncomputable def q0(f:Nat->Value):aa:=T5 (rd0 W bc bg bm bt c n cl v lb cs f)
def q_0(f:Nat->Value):vN (rd0 W bc bg bm bt c n cl v lb cs f) (q0 W bc bg bm bt c n cl v lb cs f):=jK (by delta q0;rfl)
def aj0(f:Nat->Value):(bF (q0 W bc bg bm bt c n cl v lb cs f)).map (·.op)=some (dB 53):=by kernel_rfl
noncomputable def q1(f:Nat->Value):aa:=T5 (fin (q0 W bc bg bm bt c n cl v lb cs f) (pt b5))
def q_1(f:Nat->Value):vN (fin (q0 W bc bg bm bt c n cl v lb cs f) (pt b5)) (q1 W bc bg bm bt c n cl v lb b5 cs f):=jK (by delta q1;rfl)
def aj1(f:Nat->Value):(bF (q1 W bc bg bm bt c n cl v lb b5 cs f)).map (·.op)=some (dC 53 (dT 5) (dT 9))/\(q1 W bc bg bm bt c n cl v lb b5 cs f).frame.eval (dT 5)=pt b5/\(q1 W bc bg bm bt c n cl v lb b5 cs f).frame.eval (dT 9)=v:=⟨by kernel_rfl,by kernel_rfl,by kernel_rfl⟩
noncomputable def q2(f:Nat->Value):aa:=T5 (fin (q1 W bc bg bm bt c n cl v lb b5 cs f) undef)
def q_2(f:Nat->Value):vN (fin (q1 W bc bg bm bt c n cl v lb b5 cs f) undef) (q2 W bc bg bm bt c n cl v lb b5 cs f):=jK (by delta q2;rfl)
def aj2(f:Nat->Value):q2 W bc bg bm bt c n cl v lb b5 cs f=G ⟨70,qJ W bc bg bm bt c n cl v (pt b5) f,[d9,d8 lZ],[],dP,ce,some lb⟩ cs:=by kernel_rfl
noncomputable def q3(f:Nat->Value):aa:=T5 (G ⟨70,qJ W bc bg bm bt c n cl v (pt b5) f,[d8 lZ],[],dP,ce,some lb⟩ cs)
def q_3(f:Nat->Value):vN (G ⟨70,qJ W bc bg bm bt c n cl v (pt b5) f,[d8 lZ],[],dP,ce,some lb⟩ cs) (q3 W bc bg bm bt c n cl v lb b5 cs f):=jK (by delta q3;rfl)
noncomputable def c0(f:Nat->Value):Frame:=(q3 W bc bg bm bt c n cl v lb b5 cs f).callers.headD default
def aj3(f:Nat->Value):q3 W bc bg bm bt c n cl v lb b5 cs f=G (ch PP 72 #[pt bm] ce) (c0 W bc bg bm bt c n cl v lb b5 cs f::cs):=by kernel_rfl
noncomputable def q4(f:Nat->Value):aa:=T5 (G ((c0 W bc bg bm bt c n cl v lb b5 cs f).finish (di #[])) cs)
def q_4(f:Nat->Value):vN (G ((c0 W bc bg bm bt c n cl v lb b5 cs f).finish (di #[])) cs) (q4 W bc bg bm bt c n cl v lb b5 cs f):=jK (by delta q4;rfl)
noncomputable def kr:List Item:=(q4 0 0 0 0 0 undef 0 undef undef 0 0 [] (λ_=>undef)).frame.todo.tail
def aj4(f:Nat->Value):q4 W bc bg bm bt c n cl v lb b5 cs f=G ⟨70,qJ W bc bg bm bt c n cl v (pt b5) (px 10 (di #[]) f),d8 (ei 4 dX true)::kr,[],dP,ce,some lb⟩ cs:=by kernel_rfl
end
end Go.Proofs
namespace Go.Ph
open Go.Conc Go.ConcN Go.bJ Go.Proofs
section
variable {fn:ap}{tmps:Array Value}{ops:Array Oper}{i:Nat}{rest:List Nat}{k:List Item}{ds:List aq}{kind:ar}{ro:Option Nat}{cs:List Frame}{o:Oper}
def DU(b:(kind==cd)=false)(c:ops[i]?=some o)(hg:o.guard=none)(hd:pS o.op=true):bF (G ⟨fn,tmps,eb ops (i::rest)::k,ds,dP,kind,ro⟩ cs)=some o:=by
 simp[bF,G,b,c,Region.wanted,hg,hd]
def xK(v:Value):fin (G ⟨fn,tmps,eb ops (i::rest)::k,ds,dP,kind,ro⟩ cs) v=G ⟨fn,(match(ops[i]?).bind (·.dst) with|some d=>tmps.setIfInBounds d v|none=>tmps),eb ops rest::k,ds,dP,kind,ro⟩ cs:=rfl
def Ju{n j:Nat}{F:Nat->Value}(h:j<n):(zj n F).getD j undef=F j:=by
 simp[zj,h]
def Jv{n j:Nat}{F:Nat->Value}{v:Value}:(zj n F).setIfInBounds j v=zj n (px j v F):=by
 apply bs
 ·simp[zj]
 ·intro i b c;simp only[zj,Array.getElem_setIfInBounds,List.getElem_toArray,List.getElem_map,List.getElem_range,px]
  grind
def Ap{n:Nat}{F b:Nat->Value}(h:∀i,i<n->F i=b i):zj n F=zj n b:=by
 unfold zj
 grind
end
def left(ops:Array Oper)(listed:Array Bool):Nat:=((bM ops.size).filter λi=>!listed.getD i true).length
def DV{ops:Array Oper}{listed:Array Bool}{i:Nat}(hi:i<ops.size)(h:listed.getD i true=false):left ops (listed.setIfInBounds i true)<left ops listed:=by
 unfold left;have b:i<listed.size:=by
  grind
 have sub:∀l:List Nat,(l.filter λj=>!(listed.setIfInBounds i true).getD j true).length+(if i∈l then 1 else 0)<=(l.filter λj=>!listed.getD j true).length:=by
  intro l
  induction l with
  |nil=>simp
  |cons a l c=>
   by_cases e:i=a
   ·subst e;have e1:(listed.setIfInBounds i true).getD i true=true:=by simp[b]
    grind
   ·have e1:(listed.setIfInBounds i true).getD a true=listed.getD a true:=getD_set_ne true e
    grind
 grind
section
variable {X:Fix}{V:Vw}{Stop:Stp}{M:Own}{d:Nat}{ops:Array Oper}
def ay.lin{st:Array Bool->List Nat->aa}{I:Array Bool->World->Prop}
 (j:∀listed w,c9 ek ops listed=[]->I listed w->ay X V false Stop M d (st listed []) w)
 (l:∀listed i rest w,i∈c9 ek ops listed->I listed w->(∀w',I (listed.setIfInBounds i true) w'->ay X V false Stop M d (st (listed.setIfInBounds i true) rest) w')->ay X V false Stop M d (st listed (i::rest)) w) :
 ∀fuel t listed w,I listed w->left ops listed<=fuel->ay X V false Stop M d (st listed (db ek ops fuel t listed [])) w:=by
 intro fuel
 induction fuel with
 |zero=>
  intro t listed w b hl;have f:c9 ek ops listed=[]:=by
   apply List.eq_nil_iff_forall_not_mem.2;intro i hi;obtain⟨c,o,e,_⟩:=mem_ready.1 hi;have:=DV (Array.getElem?_eq_some_iff.1 e).1 c;omega
  simpa[db]using j listed w f b
 |succ fuel m=>
  intro t listed w b hl;simp only[db]
  change ay X V false Stop M d (st listed (match(c9 ek ops listed)[t % (c9 ek ops listed).length]? with
   |some i=>db ek ops fuel (t / (c9 ek ops listed).length) (listed.setIfInBounds i true) [i]
   |none=>[].reverse)) w
  cases hi:(c9 ek ops listed)[t % (c9 ek ops listed).length]? with
  |none=>
   have n:c9 ek ops listed=[]:=by
    cases f:c9 ek ops listed with
    |nil=>rfl
    |cons x xs=>
     grind[Nat.mod_lt]
   grind
  |some i=>
   have h:=List.mem_of_getElem? hi;simp only[];rw[linearise_go_acc,List.reverse_singleton,List.singleton_append];refine l listed i _ w h b λw' p=>m _ _ w' p ?_;obtain⟨c,o,e,_⟩:=mem_ready.1 h;have:=DV (Array.getElem?_eq_some_iff.1 e).1 c;omega
def ay.draw{fn:ap}{tmps:Array Value}{k:List Item}{ds:List aq}{kind:ar}{ro:Option Nat}{cs:List Frame}{id:Nat}{w:World}(hc:Clear X V M)(c:X.P.follows .mixedOrders=true)
 (h:∀t,ay X V false Stop M d (G ⟨fn,tmps,eb ops (da ek ops t)::k,ds,dP,kind,ro⟩ cs) w):ay X V false Stop M d (G ⟨fn,tmps,d8 (ei id ops true)::k,ds,dP,kind,ro⟩ cs) w:=
 .idle hc rfl λb _=>⟨G ⟨fn,tmps,eb ops (da ek ops (b.tape b.drawn (.order fn id)))::k,ds,dP,kind,ro⟩ cs,{ b with drawn:=b.drawn+1 },#[],by
  simp[G,stepG,cv,choose,Sem.run,Question.forced,Question.cut,Region.schedule,c],rfl,rfl,.refl _,rfl,by simp,rfl,h _⟩
end
section
variable {P:ac}{mn:Bool}{w:World}{g:aa}{o:Oper}{t elem:ad}{x ix:ae}{len:Nat}{k:aS}{i:Int}{a:Addr}{sz:Nat}
def qK(j:bF g=some o)(l:o.op=dL t x ix)(m:g.frame.eval x=df (some a))(hi:g.frame.eval ix=de k i)
 (e:P.underlying t=some (.array len elem)) (hs:(P.info? elem).map (·.size)=some sz) (f:0<=i) (h:i<len) :
 stepG P mn g w=cc (fin g (df (some (a.add (i.toNat*sz))))) w #[]:=by
 have e1:ag g.frame.eval o=(do pure (.value (<-c2 t (df (some a)) (de k i))):Sem Next):=by
  unfold ag;simp only[l,m,hi]
 cases b:P.info? elem with
 |none=>simp[b]at hs
 |some c=>
  have n:c.size=sz:=by simpa[b]using hs
  have p:(c2 t (df (some a)) (de k i)).run P w=.ok (df (some (a.add (i.toNat*sz)))) w:=by
   simp[c2,a5,a6 e,cQ,f,h,aP,aF,b,n]
  have q:(c2 t (df (some a)) (de k i)).events P w #[]=#[]:=by
   simp[c2,a5,a6 e,cQ,f,h,aP,aF,b]
  rw[dF (v:=df (some (a.add (i.toNat*sz)))) (w':=w) j (by rw[e1];simp[p]),e1];simp[q,bp]
end
end Go.Ph
namespace Go.Ph
open Go.Conc Go.ConcN Go.bJ
section
variable {P:ac}{w:World}{t:ad}{a:Addr}{v:Value}
def Mx(a:Addr)(j:Nat):(a.add j).block=a.block:=by unfold Addr.add;split<;>rfl
theorem dY(b o j:Nat):(⟨b,o,none⟩:Addr).add j=⟨b,o+j,none⟩:=by unfold Addr.add;split<;>simp_all
structure G7(P:ac)(w:World)(t:ad)(a:Addr)(v:Value):Prop where
 run:(ai t a).run P w=.ok v w
 ev:∀e∈(ai t a).events P w #[],∃a':Addr,a'.block=a.block/\e=⟨dt a',false,false⟩
def qL(a:Addr):∀(n i:Nat)(b:Array Value)(es:Array Event),(∀j,j<n->(w.cell? (a.add (i+j))).isSome)->∀e∈(a8 a i n b).events P w es,e∈es\/∃j,e=⟨dt (a.add j),false,false⟩
 |0,_,_,_,_=>λe h=>dx (by simpa[a8]using h)
 |n+1,i,b,es,hc=>λe h=>by
  simp only[a8,cq]at h;obtain⟨u,c⟩:=Option.isSome_iff_exists.1 (hc 0 (by omega));simp only[Nat.add_zero]at c;have f:(load (a.add i)).run P w=.ok u w:=by simp[c]
  have k:(load (a.add i)).events P w es=es.push ⟨dt (a.add i),false,false⟩:=by
   rw[events_load,c];rfl
  rw[f,k]at h
  rcases qL a n (i+1) (b.push u) _ (λj l=>by grind) e h with h|h
  ·grind
  ·exact dv h
def sH{d:TypeDesc}{n:Nat}{f:Nat->Value}(k:P.underlying t=some d)(hd:(match d with | .struct _ | .array _ _=>true|_=>false)=true)(hi:(P.info? t).map (·.size)=some n)
 (h:∀j,j<n->w.cell? (a.add j)=some (f j)):G7 P w t a (dl ((bM n).map f).toArray):=by
 have c:(isAgg t).run P w=.ok true w:=by
  unfold isAgg;rw[cu,a6 k w];cases d<;>simp_all
 have l:(isAgg t).events P w #[]=#[]:=by
  simp_all
 cases b:P.info? t with
 |none=>simp[b]at hi
 |some i=>
  have hs:i.size=n:=by simpa[b]using hi
  have hl:=run_loadCells (P:=P) w a n f h;refine⟨by simp[ai,cu,c,aP,aF,b,hs,hl],λe m=>?_⟩;have:e∈(loadCells a n).events P w #[]:=by simpa[ai,cq,c,l,aP,aF,b,hs,hl]using m
  rcases qL (P:=P) (w:=w) a n 0 #[] #[] (λj p=>by grind) e this with h|⟨j,h⟩
  ·simp at h
  ·exact⟨_,Mx a j,h⟩
def l8{d:TypeDesc}(c:P.underlying t=some d)(hd:(match d with | .struct _ | .array _ _=>true|_=>false)=false)(h:w.cell? a=some v):G7 P w t a v:=by
 have b:(isAgg t).run P w=.ok false w:=by
  unfold isAgg;rw[cu,a6 c w];cases d<;>simp_all
 have f:(isAgg t).events P w #[]=#[]:=by
  simp_all
 refine⟨by simp[ai,cu,b,h],λe i=>?_⟩;have:e∈(load a).events P w #[]:=by simpa[ai,cq,b,f]using i
 simp_all
def zI{mn:Bool}{g:aa}{o:Oper}{x:ae}(b:bF g=some o)(c:o.op=.nilCheck x)(e:g.frame.eval x=df (some a)):stepG P mn g w=cc (fin g (df (some a))) w #[]:=by
 have e1:ag g.frame.eval o=pure (.value (df (some a))):=by
  unfold ag;simp only[c,e]
 rw[dF (v:=df (some a)) (w':=w) b (by rw[e1];rfl),e1];simp[bp]
variable {X:Fix}{V:Vw}{Stop:Stp}{M:Own}{d:Nat}{g:aa}{o:Oper}{x:ae}
def ay.qM(hc:Clear X V M)(hl:Live X w)(c:bF g=some o)(e:o.op=dz t x)(f:g.frame.eval x=df (some a))
 (h:∀b,Rl X V M w b->G7 X.P b t a v/\a.block<b.heap.size)
 (i:(V.st a.block/\∀a':Addr,a'.block=a.block->¬X.Shun (dt a'))\/M a.block) (j:ay X V false Stop M d (fin g v) w):ay X V false Stop M d g w:=
 .load hc hl c e f (λb r=>⟨(h b r).1.run,(h b r).2,(h b r).1.ev⟩) i j
def ay.DW{g':aa}{w:World}(hc:Clear X V M)(hs:g.status=dy)(h:∀w,stepG X.P (V.g==0) g w=cc g' w #[])(c:g'.status=dy)(e:ay X V false Stop M d g' w):ay X V false Stop M d g w:=
 .idle hc hs λb _=>⟨_,b,#[],h b,rfl,rfl,.refl _,rfl,by simp,c,e⟩
end
end Go.Ph
namespace Go.Proofs
open Go.Ph Go.Conc Go.bJ
set_option maxRecDepth 100000
def jL{i:Nat}{op:Op}{dst:Option Tmp}(h:(dX[i]?).map (λo=>(o.op,o.dst,o.guard))=some (op,dst,none)):∃o,dX[i]?=some o/\o.op=op/\o.dst=dst/\o.guard=none:=by
 grind
def adz:(dX[0]?).map (λo=>(o.op,o.dst,o.guard))=some (dz 95 (dT 4),some 11,none):=by kernel_rfl
def adA:(dX[1]?).map (λo=>(o.op,o.dst,o.guard))=some (dz 3 (dT 2),some 12,none):=by kernel_rfl
def adB:(dX[2]?).map (λo=>(o.op,o.dst,o.guard))=some (dO 53 (dT 5) 0,some 13,none):=by kernel_rfl
def adC:(dX[3]?).map (λo=>(o.op,o.dst,o.guard))=some (dz 3 (dT 13),some 14,none):=by kernel_rfl
def adD:(dX[4]?).map (λo=>(o.op,o.dst,o.guard))=some (dz 53 (dT 5),some 15,none):=by kernel_rfl
def adE:(dX[5]?).map (λo=>(o.op,o.dst,o.guard))=some (.nilCheck (dT 11),some 16,none):=by kernel_rfl
def adF:(dX[6]?).map (λo=>(o.op,o.dst,o.guard))=some (dL 131 (dT 16) (dT 12),some 17,none):=by kernel_rfl
def adG:(dX[7]?).map (λo=>(o.op,o.dst,o.guard))=some (dL 129 (dT 17) (dT 14),some 18,none):=by kernel_rfl
def adH:(dX[8]?).map (λo=>(o.op,o.dst,o.guard))=some (dC 53 (dT 18) (dT 15),none,none):=by kernel_rfl
def Pw:dX.size=9:=by kernel_rfl
def Aq:(bM 9).map (λi=>((dX[i]?).map λo=>o.after.toList.map (·.on)))=[some [],some [],some [],some [2],some [],some [0],some [5,1],some [6,3,0,1,2,3,4],some [7,4,0,1,2,3,4]]:=by kernel_rfl
def My:dX.all (λo=>o.after.all (Region.binds ek))=true:=by kernel_rfl
def mixed:PP.follows .mixedOrders=true:=by kernel_rfl
def WW:PP.underlying 95=some (.pointer 131):=by kernel_rfl
def ty3:PP.underlying 3=some (.int .i64):=by kernel_rfl
noncomputable def fieldsOf(t:ad):Array Field:=match PP.underlying t with
 |some (.struct fs)=>fs
 |_=>#[]
def aj6:PP.underlying 53=some (.struct (fieldsOf 53)):=by kernel_rfl
def Un:(PP.info? 53).map (·.size)=some 5:=by kernel_rfl
def adJ:PP.underlying 131=some (.array 3 129):=by kernel_rfl
def DX{mn:Bool}{g:aa}{o:Oper}{x:ae}{w:World}{b:Nat}(c:bF g=some o)(e:o.op=dO 53 x 0)(f:g.frame.eval x=df (some ⟨b,0,none⟩)):stepG PP mn g w=cc (fin g (df (some ⟨b,0,none⟩))) w #[]:=by
 have e1:ag g.frame.eval o=(do pure (.value (<-c4 53 (df (some ⟨b,0,none⟩)) 0)):Sem Next):=by
  unfold ag;simp only[e,f]
 have h:∀es,(c4 53 (df (some ⟨b,0,none⟩)) 0).runT PP w es=(.ok (df (some ⟨b,0,none⟩)) w,es):=λes=>by kernel_rfl
 have i:(c4 53 (df (some ⟨b,0,none⟩)) 0).run PP w=.ok (df (some ⟨b,0,none⟩)) w:=by rw[<-cm,h #[]]
 have j:(c4 53 (df (some ⟨b,0,none⟩)) 0).events PP w #[]=#[]:=by simp_all
 rw[dF (v:=df (some ⟨b,0,none⟩)) (w':=w) c (by rw[e1];simp[i]),e1];simp[j,bp]
def adK:(PP.info? 129).map (·.size)=some 25:=by kernel_rfl
def adM:PP.underlying 129=some (.array 5 53):=by kernel_rfl
structure R4(X:Fix)(V:Vw)(M:Own)(Q Q':World->Prop)(bg bt b5 n p:Nat)(vs:Array Value):Prop where
 hP:X.P=PP
 hg:(V.g==0)=false
 hc:Clear X V M
 hQ:∀w w',Q w->Rl X V M w w'->Q w'
 live:∀w,Q w->Live X w
 st:∀b,V.st b->∀a':Addr,a'.block=b->¬X.Shun (dt a')
 bt:V.st bt/\∀w,Q w->w.cell? ⟨bt,0,none⟩=some (df (some ⟨X.Tb,0,none⟩))
 bg:V.st bg/\∀w,Q w->w.cell? ⟨bg,0,none⟩=some (de .i64 (n:Int))
 b5:M b5/\∀w,Q w->∃fz,w.heap[b5]?=some (c8 vs 53 fz)
 hv:vs.size=5/\vs[0]?=some (de .i64 (p:Int))/\∀c∈vs,c.oneCell'=true
 hn:n<3
 hp:p<5
 fW:X.size=75
 row:∀j,j<5->V.row (n*25+p*5+j)
 hQ':∀w w',Q w->Live X w'->w'.heap.size=w.heap.size->(∀b,b≠X.Tb->w'.heap[b]?=w.heap[b]?)->(∀j,j<5->w'.cell? ⟨X.Tb,n*25+p*5+j,none⟩=vs[j]?)->(∀j,(j<n*25+p*5\/n*25+p*5+5<=j)->w'.cell? ⟨X.Tb,j,none⟩=w.cell? ⟨X.Tb,j,none⟩)->Q' w'
section
variable {X:Fix}{V:Vw}{Stop:Stp}{M:Own}{Q Q':World->Prop}{bg bt b5 n p:Nat}{vs:Array Value}
def zJ(a b5 n p:Nat)(vs:Array Value):Nat->Value
 |0=>df (some ⟨a,0,none⟩)
 |1=>de .i64 (n:Int)
 |2=>df (some ⟨b5,0,none⟩)
 |3=>de .i64 (p:Int)
 |4=>dl vs
 |5=>df (some ⟨a,0,none⟩)
 |6=>df (some ⟨a,n*25,none⟩)
 |_=>df (some ⟨a,n*25+p*5,none⟩)
def Jw(fv base:Nat->Value)(listed:Array Bool):Nat->Value:=λi=>if 11<=i/\i<=18/\listed.getD (i-11) false=true then fv (i-11) else base i
def oS{fv base:Nat->Value}{listed:Array Bool}{i:Nat}(h:i<11):Jw fv base listed i=base i:=by
 unfold Jw;rw[if_neg (by omega)]
def kN{fv base:Nat->Value}{listed:Array Bool}{i:Nat}(h:i<8)(hl:listed.getD i false=true):Jw fv base listed (11+i)=fv i:=by
 unfold Jw
 grind
def Uo{fv base:Nat->Value}{listed:Array Bool}{i:Nat}(h:i<8)(hs:i<listed.size):px (11+i) (fv i) (Jw fv base listed)=Jw fv base (listed.setIfInBounds i true):=by
 funext j;unfold px Jw;by_cases e:j=11+i
 ·subst e;have e1:11+i-11=i:=by omega
  rw[if_pos rfl,if_pos ⟨by omega,by omega,by rw[e1];simp[hs]⟩,e1]
 ·rw[if_neg e];by_cases c:11<=j/\j<=18
  ·have a:i≠j-11:=by omega
   rw[a9 false a]
  grind
def Px{fv base:Nat->Value}{listed:Array Bool}:Jw fv base (listed.setIfInBounds 8 true)=Jw fv base listed:=by
 funext j;unfold Jw;by_cases c:11<=j/\j<=18
 ·have a:8≠j-11:=by omega
  rw[a9 false a]
 grind
def Y0{listed:Array Bool}{i:Nat}(h:i∈c9 ek dX listed):i<9/\listed.getD i true=false/\i<listed.size/\
 (i=3->listed.getD 2 false=true)/\(i=5->listed.getD 0 false=true)/\(i=6->listed.getD 5 false=true/\listed.getD 1 false=true)/\(i=7->listed.getD 6 false=true/\listed.getD 3 false=true)/\
 (i=8->listed.getD 7 false=true/\listed.getD 4 false=true):=by
 obtain⟨f,o,c,g⟩:=mem_ready.1 h;have hi:i<9:=by have:=(Array.getElem?_eq_some_iff.1 c).1;rw[Pw]at this;exact this
 have hs:i<listed.size:=by
  rcases bT i listed.size with d|d
  ·exact d
  ·simp[d]at f
 have hb:∀e∈o.after,listed.getD e.on false=true:=λe b=>g e b (by
  have:=Array.all_eq_true_iff_forall_mem.1 My o (Array.mem_of_getElem? c)
  exact Array.all_eq_true_iff_forall_mem.1 this e b)
 have k:(bM 9)[i]?=some i:=by simp[hi]
 have hl:((bM 9).map (λi=>((dX[i]?).map λo=>o.after.toList.map (·.on))))[i]?=some (some (o.after.toList.map (·.on))):=by
  rw[List.getElem?_map,k];simp[c]
 rw[Aq]at hl;have a:∀j,j∈o.after.toList.map (·.on)->listed.getD j false=true:=λj l=>by
  obtain⟨e,b,rfl⟩:=List.mem_map.1 l;exact hb e (Array.mem_toList_iff.1 b)
 refine⟨hi,f,hs,λe=>?_,λe=>?_,λe=>?_,λe=>?_,λe=>?_⟩<;>subst e<;>simp only[List.getElem?_cons_succ,List.getElem?_cons_zero,Option.some.injEq]at hl<;>rw[<-hl]at a
 ·exact a 2 (by simp)
 ·exact a 0 (by simp)
 ·exact⟨a 5 (by simp),a 1 (by simp)⟩
 ·exact⟨a 6 (by simp),a 3 (by simp)⟩
 ·exact⟨a 7 (by simp),a 4 (by simp)⟩
def aj8{listed:Array Bool}(h:c9 ek dX listed=[])(hs:listed.size=9):∀i,i<9->listed.getD i false=true:=by
 have key:∀i,i<9->(∀j,(∃l,((bM 9).map (λi=>((dX[i]?).map λo=>o.after.toList.map (·.on))))[i]?=some (some l)/\j∈l)->listed.getD j false=true)->listed.getD i false=true:=by
  intro i hi b
  cases hg:listed.getD i true with
  |true=>
   grind
  |false=>
   have c:i<dX.size:=by rw[Pw];exact hi
   have:i∈c9 ek dX listed:=mem_ready.2 ⟨hg,dX[i],Array.getElem?_eq_getElem c,λe d _=>b _ ⟨dX[i].after.toList.map (·.on),by
    grind,List.mem_map.2 ⟨e,Array.mem_toList_iff.2 d,rfl⟩⟩⟩
   grind
 rw[Aq]at key;have k0:=key 0 (by omega) (by simp);have k1:=key 1 (by omega) (by simp);have k2:=key 2 (by omega) (by simp);have k3:=key 3 (by omega) (by simp at k2;simp[k2]);have f:=key 4 (by omega) (by simp);have a:=key 5 (by omega) (by simp at k0;simp[k0]);have g:=key 6 (by omega) (by simp at a k1;simp[a,k1]);have k:=key 7 (by omega) (by simp_all);have m:=key 8 (by omega) (by simp_all);intro i hi;obtain rfl|rfl|rfl|rfl|rfl|rfl|rfl|rfl|rfl:i=0\/i=1\/i=2\/i=3\/i=4\/i=5\/i=6\/i=7\/i=8:=by omega
 all_goals assumption
def Y1(listed:Array Bool):Prop:=(listed.getD 3 false=true->listed.getD 2 false=true)/\(listed.getD 5 false=true->listed.getD 0 false=true)/\(listed.getD 6 false=true->listed.getD 5 false=true/\listed.getD 1 false=true)/\
 (listed.getD 7 false=true->listed.getD 6 false=true/\listed.getD 3 false=true)/\(listed.getD 8 false=true->listed.getD 7 false=true/\listed.getD 4 false=true)
def MA(n j:Nat):(bv n false).getD j false=false:=by
 rw[bx,bA];split<;>rfl
def Py(n:Nat):Y1 (bv n false):=by
 unfold Y1;simp only[MA];simp
def Up{listed:Array Bool}(h:Y1 listed)(f:listed.getD 8 false=true):∀i,i<9->listed.getD i false=true:=by
 obtain⟨a,b,c,d,e⟩:=h
 grind
def Uq{listed:Array Bool}{i:Nat}(h:Y1 listed)(hs:i<listed.size)(k:(i=3->listed.getD 2 false=true)/\(i=5->listed.getD 0 false=true)/\(i=6->listed.getD 5 false=true/\listed.getD 1 false=true)/\(i=7->listed.getD 6 false=true/\listed.getD 3 false=true)/\
 (i=8->listed.getD 7 false=true/\listed.getD 4 false=true)):Y1 (listed.setIfInBounds i true):=by
 obtain⟨a,b,c,d,e⟩:=h;obtain⟨f,b',g,l,m⟩:=k;have or:∀j,(listed.setIfInBounds i true).getD j false=true->i=j\/listed.getD j false=true:=λj o=>by
  by_cases e:i=j
  ·exact dx e
  simp_all
 have up:∀{j},listed.getD j false=true->(listed.setIfInBounds i true).getD j false=true:=λh=>Go.getD_set_true h;refine⟨λh=>?_,λh=>?_,λh=>?_,λh=>?_,λh=>?_⟩
 ·exact up ((or _ h).elim f a)
 ·exact up ((or _ h).elim b' b)
 ·grind
 ·grind
 grind
noncomputable def Ur(F:Nat->Value)(a:List Item)(lb:Nat):Frame:=⟨70,zj 20 F,a,[],dP,ce,some lb⟩
noncomputable def DY(fv base:Nat->Value)(lb:Nat)(cs:List Frame)(listed:Array Bool)(rest:List Nat):aa:=G (Ur (Jw fv base listed) (eb dX rest::kr) lb) cs
def vm{fv base:Nat->Value}{lb:Nat}{cs:List Frame}{listed:Array Bool}{rest:List Nat}{i:Nat}{o:Oper}(a:dX[i]?=some o)(hd:o.dst=some (11+i))(h:i<8)(hs:i<listed.size) :
 fin (DY fv base lb cs listed (i::rest)) (fv i)=DY fv base lb cs (listed.setIfInBounds i true) rest:=by
 unfold DY Ur;rw[xK,a];simp only[Option.bind_some,hd,Jv,Uo h hs]
def adN{fv base:Nat->Value}{lb:Nat}{cs:List Frame}{listed:Array Bool}{rest:List Nat}{o:Oper}(a:dX[8]?=some o)(hd:o.dst=none)(v:Value) :
 fin (DY fv base lb cs listed (8::rest)) v=DY fv base lb cs (listed.setIfInBounds 8 true) rest:=by
 unfold DY Ur;rw[xK,a];simp only[Option.bind_some,hd,Px]
def Us{fv base:Nat->Value}{lb:Nat}{cs:List Frame}{listed:Array Bool}{rest:List Nat}{i:Nat}{o:Oper}(a:dX[i]?=some o)(hg:o.guard=none)(hd:pS o.op=true):bF (DY fv base lb cs listed (i::rest))=some o:=
 DU rfl a hg hd
def NP{F:Nat->Value}{a:List Item}{lb j:Nat}(h:j<20):(Ur F a lb).eval (dT j)=F j:=Ju h
def Ut(R:R4 X V M Q Q' bg bt b5 n p vs){base:Nat->Value}(C:base 2=df (some ⟨bg,0,none⟩))(S:base 4=df (some ⟨bt,0,none⟩))(N:base 5=df (some ⟨b5,0,none⟩)){lb:Nat}{cs:List Frame}{d:Nat}{w:World}(T:Q w)
 (U:∀F w',(∀j,j<11->F j=base j)->Q' w'->ay X V false Stop M d (G (Ur F (eb dX []::kr) lb) cs) w') :
 ay X V false Stop M d (G (Ur base (d8 (ei 4 dX true)::kr) lb) cs) w:=by
 have W:(V.g==0)=false:=R.hg;refine .draw R.hc (by rw[R.hP];exact mixed) λt=>?_;have Y:G ⟨70,zj 20 base,eb dX (da ek dX t)::kr,[],dP,ce,some lb⟩ cs=DY (zJ X.Tb b5 n p vs) base lb cs (bv dX.size false) (db ek dX dX.size t (bv dX.size false) []):=by
  unfold DY Ur;have:Jw (zJ X.Tb b5 n p vs) base (bv dX.size false)=base:=by
   funext j;unfold Jw;rw[if_neg];intro h;have:=h.2.2;rw[bx,bA]at this
   grind
  rw[this];rfl
 rw[Y];refine ay.lin (I:=λlisted w'=>listed.size=9/\Y1 listed/\(if listed.getD 8 false=true then Q' w' else Q w')) (λlisted w' Z B=>?_) (λlisted i b w' hi B k=>?_) dX.size t _ w ⟨by rw[Array.size_replicate];exact Pw,Py _,?_⟩ ?_
 ·have ha:=aj8 Z B.1;have s:=B.2.2;rw[if_pos (ha 8 (by omega))]at s;exact U _ _ (λj x=>oS x) s
 ·obtain⟨D,h0,hs,a3,O,E,H,J⟩:=Y0 hi;obtain⟨fW,y,s⟩:=B;have K:listed.getD 8 false=false:=by
   cases K:listed.getD 8 false with
   |false=>rfl
   |true=>
    have:=Up y K i D
    grind
  rw[if_neg (by rw[K];simp)]at s;have WY:=Uq y hs ⟨a3,O,E,H,J⟩;have next:∀w',i≠8->Q w'->(listed.setIfInBounds i true).size=9/\Y1 (listed.setIfInBounds i true)/\(if(listed.setIfInBounds i true).getD 8 false=true then Q' w' else Q w'):=λw' bu s=>by
   simp_all
  have hl:=R.live _ s;have L:∀{w:World}{a:Addr}{v:Value},w.cell? a=some v->a.block<w.heap.size:=λ{w a v}h=>by
   unfold bb at h
   grind
  have z:∀u,Q u->∀j,j<5->u.cell? ((⟨b5,0,none⟩:Addr).add j)=some (vs.getD j undef):=λu h j x=>by
   obtain⟨fz,h⟩:=R.b5.2 _ h;have zK:j<vs.size:=by rw[R.hv.1];exact x
   rw[dY,Nat.zero_add,cell_of_row _ _ _ _ _ _ h];simp[zK]
  have Ua:((bM 5).map λj=>vs.getD j undef).toArray=vs:=by
   apply bs
   ·simp[R.hv.1]
   ·intro j h1 C;simp[C]
  obtain rfl|rfl|rfl|rfl|rfl|rfl|rfl|rfl|rfl:i=0\/i=1\/i=2\/i=3\/i=4\/i=5\/i=6\/i=7\/i=8:=by omega
  ·obtain⟨o,l,e1,m,q⟩:=jL adz;refine .qM (v:=zJ X.Tb b5 n p vs 0) R.hc hl (Us l q (by rw[e1];rfl)) e1 ((NP (by omega)).trans ((oS (by omega)).trans S)) (λu r=>?_) (dx ⟨R.bt.1,R.st _ R.bt.1⟩) ?_
   ·have:=R.bt.2 _ (R.hQ _ _ s r);exact⟨l8 (by rw[R.hP];exact WW) rfl this,L this⟩
   ·rw[vm l m (by omega) hs];grind
  ·obtain⟨o,l,e1,m,q⟩:=jL adA;refine .qM (v:=zJ X.Tb b5 n p vs 1) R.hc hl (Us l q (by rw[e1];rfl)) e1 ((NP (by omega)).trans ((oS (by omega)).trans C)) (λu r=>?_) (dx ⟨R.bg.1,R.st _ R.bg.1⟩) ?_
   ·have:=R.bg.2 _ (R.hQ _ _ s r);exact⟨l8 (by rw[R.hP];exact ty3) rfl this,L this⟩
   ·rw[vm l m (by omega) hs];grind
  ·obtain⟨o,l,e1,m,q⟩:=jL adB;refine .DW (g':=fin (DY (zJ X.Tb b5 n p vs) base lb cs listed (2::b)) (zJ X.Tb b5 n p vs 2)) R.hc rfl (λw=>?_) rfl ?_
   ·rw[W,R.hP];have hx:(Ur (Jw (zJ X.Tb b5 n p vs) base listed) (eb dX (2::b)::kr) lb).eval (dT 5)=df (some ⟨b5,0,none⟩):=(NP (by omega)).trans ((oS (by omega)).trans N);exact DX (Us l q (by rw[e1];rfl)) e1 hx
   ·rw[vm l m (by omega) hs];grind
  ·obtain⟨o,l,e1,m,q⟩:=jL adC;refine .qM (v:=zJ X.Tb b5 n p vs 3) R.hc hl (Us l q (by rw[e1];rfl)) e1 ((NP (by omega)).trans (kN (i:=2) (by omega) (a3 rfl))) (λu r=>?_) (dv R.b5.1) ?_
   ·have h:=z _ (R.hQ _ _ s r) 0 (by omega);have e:vs.getD 0 undef=de .i64 (p:Int):=by rw[bx,R.hv.2.1];rfl
    rw[e,dY]at h;exact⟨l8 (by rw[R.hP];exact ty3) rfl h,L h⟩
   ·rw[vm l m (by omega) hs];grind
  ·obtain⟨o,l,e1,m,q⟩:=jL adD;refine .qM (v:=zJ X.Tb b5 n p vs 4) R.hc hl (Us l q (by rw[e1];rfl)) e1 ((NP (by omega)).trans ((oS (by omega)).trans N)) (λu r=>?_) (dv R.b5.1) ?_
   ·have A:=R.hQ _ _ s r;have:=sH (P:=X.P) (w:=u) (t:=53) (a:=⟨b5,0,none⟩) (n:=5) (f:=λj=>vs.getD j undef) (by rw[R.hP];exact aj6) rfl (by rw[R.hP];exact Un) (z _ A);rw[Ua]at this;obtain⟨fz,hb⟩:=R.b5.2 _ A;exact⟨this,(Array.getElem?_eq_some_iff.1 hb).1⟩
   ·rw[vm l m (by omega) hs];grind
  ·obtain⟨o,l,e1,m,q⟩:=jL adE;refine .DW (g':=fin (DY (zJ X.Tb b5 n p vs) base lb cs listed (5::b)) (zJ X.Tb b5 n p vs 5)) R.hc rfl (λw=>?_) rfl ?_
   ·exact zI (Us l q (by rw[e1];rfl)) e1 ((NP (by omega)).trans (kN (i:=0) (by omega) (O rfl)))
   ·rw[vm l m (by omega) hs];grind
  ·obtain⟨o,l,e1,m,q⟩:=jL adF;refine .DW (g':=fin (DY (zJ X.Tb b5 n p vs) base lb cs listed (6::b)) (zJ X.Tb b5 n p vs 6)) R.hc rfl (λw=>?_) rfl ?_
   ·have x1:(DY (zJ X.Tb b5 n p vs) base lb cs listed (6::b)).frame.eval (dT 16)=df (some ⟨X.Tb,0,none⟩):=(NP (by omega)).trans (kN (i:=5) (by omega) (E rfl).1);have x2:(DY (zJ X.Tb b5 n p vs) base lb cs listed (6::b)).frame.eval (dT 12)=de .i64 (n:Int):=(NP (by omega)).trans (kN (i:=1) (by omega) (E rfl).2);have:=qK (P:=X.P) (mn:=V.g==0) (w:=w) (Us l q (by rw[e1];rfl)) e1 x1 x2 (by rw[R.hP];exact adJ) (by rw[R.hP];exact adK) (by omega) (by have:=R.hn;omega);rw[dY]at this;simpa[zJ]using this
   ·rw[vm l m (by omega) hs];grind
  ·obtain⟨o,l,e1,m,q⟩:=jL adG;refine .DW (g':=fin (DY (zJ X.Tb b5 n p vs) base lb cs listed (7::b)) (zJ X.Tb b5 n p vs 7)) R.hc rfl (λw=>?_) rfl ?_
   ·have x1:(DY (zJ X.Tb b5 n p vs) base lb cs listed (7::b)).frame.eval (dT 17)=df (some ⟨X.Tb,n*25,none⟩):=(NP (by omega)).trans (kN (i:=6) (by omega) (H rfl).1);have x2:(DY (zJ X.Tb b5 n p vs) base lb cs listed (7::b)).frame.eval (dT 14)=de .i64 (p:Int):=(NP (by omega)).trans (kN (i:=3) (by omega) (H rfl).2);have:=qK (P:=X.P) (mn:=V.g==0) (w:=w) (Us l q (by rw[e1];rfl)) e1 x1 x2 (by rw[R.hP];exact adM) (by rw[R.hP];exact Un) (by omega) (by have:=R.hp;omega);rw[dY]at this;simpa[zJ]using this
   ·rw[vm l m (by omega) hs];grind
  ·obtain⟨o,l,e1,m,q⟩:=jL adH;refine .Po (v:=dl vs) R.hc (Us l q (by rw[e1];rfl)) e1 ((NP (by omega)).trans (kN (i:=7) (by omega) (J rfl).1)) ((NP (by omega)).trans (kN (i:=4) (by omega) (J rfl).2)) hl (by rw[R.hP,Un];simp[dd,R.hv.1]) (by rw[R.fW];simp only[dd,R.hv.1];have:=R.hn;have:=R.hp;omega)
    (λc hc=>R.hv.2.2 c hc) (λj x=>R.row j (by simpa[dd,R.hv.1]using x)) λu w2 r l1 l2 l3 l4 l5=>?_
   have hQ':=R.hQ' u w2 (R.hQ _ _ s r) l1 l2 l3 (λj x=>by simpa[dd]using l4 j (by simpa[dd,R.hv.1]using x)) (λj x=>l5 j (by simpa[dd,R.hv.1]using x));rw[adN l m]
   simp_all
 ·rw[if_neg]
  ·exact T
  ·rw[bx,bA];split<;>simp
 ·unfold left
  grind
end
end Go.Proofs
namespace Go.Proofs
open Go.Ph Go.Conc
set_option maxRecDepth 100000
section
variable (W bc bg bm bt:Nat)(c:Value)(n:Int)(cl:Value)(v:Value)(lb b5:Nat)(cs:List Frame)
noncomputable def q5(f:Nat->Value):aa:=T5 (G ⟨70,qJ W bc bg bm bt c n cl v (pt b5) f,eb dX []::kr,[],dP,ce,some lb⟩ cs)
def q_5(f:Nat->Value):vN (G ⟨70,qJ W bc bg bm bt c n cl v (pt b5) f,eb dX []::kr,[],dP,ce,some lb⟩ cs) (q5 W bc bg bm bt c n cl v lb b5 cs f):=jK (by delta q5;rfl)
noncomputable def c1(f:Nat->Value):Frame:=(q5 W bc bg bm bt c n cl v lb b5 cs f).callers.headD default
def aj9(f:Nat->Value):q5 W bc bg bm bt c n cl v lb b5 cs f=G (ch PP 73 #[pt bm] ce) (c1 W bc bg bm bt c n cl v lb b5 cs f::cs):=by kernel_rfl
noncomputable def q6(f:Nat->Value):aa:=T5 (G ((c1 W bc bg bm bt c n cl v lb b5 cs f).finish (di #[])) cs)
def q_6(f:Nat->Value):vN (G ((c1 W bc bg bm bt c n cl v lb b5 cs f).finish (di #[])) cs) (q6 W bc bg bm bt c n cl v lb b5 cs f):=jK (by delta q6;rfl)
def aja(f:Nat->Value):q6 W bc bg bm bt c n cl v lb b5 cs f=G ⟨70,qJ W bc bg bm bt c n cl v (pt b5) (px 19 (di #[]) f),[],[],dP,ce,some lb⟩ cs:=by kernel_rfl
noncomputable def Pz(b:Nat):List aq:={ target:=ec b,args:=#[] }::rG W
noncomputable def e1(b:Nat):aa:=T5 (G ⟨70,qJ W bc bg bm bt c n cl undef undef (λ_=>undef),kk,Pz W b,dP,cf,none⟩ [ez PP])
def e_1(b:Nat):vN (G ⟨70,qJ W bc bg bm bt c n cl undef undef (λ_=>undef),kk,Pz W b,dP,cf,none⟩ [ez PP]) (e1 W bc bg bm bt c n cl b):=jK (by delta e1;rfl)
def ajb(b:Nat):e1 W bc bg bm bt c n cl b=G ⟨70,qJ W bc bg bm bt c n cl undef undef (λ_=>undef),[],Pz W b,dQ,cf,none⟩ [ez PP]:=by kernel_rfl
def e_2:uo PP false 1 (G ⟨70,qJ W bc bg bm bt c n cl undef undef (λ_=>undef),[],rG W,dQ,cf,none⟩ [ez PP])/\∀d,YL PP false 1 d (G ⟨70,qJ W bc bg bm bt c n cl undef undef (λ_=>undef),[],rG W,dQ,cf,none⟩ [ez PP])=d:=⟨⟨λw=>by kernel_rfl,by kernel_rfl⟩,λd=>by kernel_rfl⟩
def ajc:adv PP false 1 (G ⟨70,qJ W bc bg bm bt c n cl undef undef (λ_=>undef),[],rG W,dQ,cf,none⟩ [ez PP])=dE W (qJ W bc bg bm bt c n cl undef undef (λ_=>undef)) []:=by kernel_rfl
end
end Go.Proofs
namespace Go.Proofs
open Go.bJ Go.Ph
def F3:ap->Bool:=λf=>f==41||f==67||f==68
def Y2:(bM Tryz.progTables.types.size).all (BI dp F3)=true:=by kernel_rfl
def PD:dM dp F3 ZZ:=Jf (bR _) Y2 (by kernel_rfl)
def adQ:Jg dp dq F3 NN ZZ 149=true:=by kernel_rfl
def PE:Tryz.funcs.size<=cn:=of_decide_eq_true (by kernel_rfl)
def Y3:((dq[41]?).any (·.norace)=false/\(dq[67]?).any (·.norace)=false)/\(dq[68]?).any (·.norace)=false:=⟨⟨by kernel_rfl,by kernel_rfl⟩,by kernel_rfl⟩
def PF:PP.funcs.all (λf=>((f.body.map readies).getD []).isEmpty)=true:=by kernel_rfl
def Uu(g:Nat):PP.stepOf g=none:=by
 unfold Program.stepOf;rw[Array.findIdx?_eq_none_iff];intro f hf;have:=Array.all_eq_true_iff_forall_mem.1 PF f hf
 cases h:f.body with
 |none=>rfl
 |some c=>
  grind
def Uv:PP.follows .staticDataAhead=true:=by kernel_rfl
def Y4(fr:Frame)(cs:List Frame)(d:Option Dying)(g:Nat)(w:World):∃o w1 es,early PP fr cs d g w=.ended o w1 es:=by
 unfold early;simp only[Uv,Uu,Bool.not_true,b9,if_false];exact⟨_,_,_,rfl⟩
def adR:zG dp dq dq F3 ZZ:=by
 have h:Fits dp dq dq F3 NN ZZ:=BJ PD (n:=149) (λf hf=>by
  simp only[F3,ca,beq_iff_eq]at hf
  grind) (λf _=>rfl) (λf a=>by cases a) adQ PE
 refine⟨h.zero,h.fns,λf hf=>h.same f hf rfl,by decide,λf hf=>?_,Y4⟩;simp only[F3,ca,beq_iff_eq]at hf
 rcases hf with(rfl|rfl)|rfl
 ·exact Y3.1.1
 ·exact Y3.1.2
 ·exact Y3.2
end Go.Proofs
namespace Go.Ph
open Go.Conc Go.ConcN Go.bJ
section
variable {T:ao}{fB fA:Array Func}{F:ap->Bool}{Z:ad->Bool}{X:Fix}{V:Vw}{Bs:Nat}{bot:Frame}{up:List Frame}{ρ ρ':Ren}{M M':Own}{g g':aa}{wL w w':World}{v v':Value}
def iG.same(h:iG T fB fA F Z bot up X V Bs ρ M g wL g' w)(hs:w.heap.size<=w'.heap.size)(hb:∀a b,ρ a b->w'.heap[b]?=w.heap[b]?):iG T fB fA F Z bot up X V Bs ρ M g wL g' w':=
 ⟨h.inj,⟨h.wr.pK,b2 h.wr.gN hs,h.wr.base,λ{a b}c d=>by
   obtain⟨o,e,f,i,j⟩:=h.wr.obj c d
   grind,λ{a b}c d=>by
   obtain⟨o,e,f,i,j⟩:=h.wr.low c d
   grind⟩,h.g,h.own,h.clear,λb hb=>⟨b3 (h.sG b hb).1 hs,(h.sG b hb).2⟩⟩
def iG.more(h:iG T fB fA F Z bot up X V Bs ρ M g wL g' w)(e:∀b,M b->M' b)(hc:Clear X V M')(hd:∀b,V.st b->¬M' b):iG T fB fA F Z bot up X V Bs ρ M' g wL g' w:=
 ⟨h.inj,h.wr,h.g,⟨λa b c d=>(h.own.st a b c d).imp id (e b),λa b c d=>e b (h.own.own a b c d)⟩,hc,λb hb=>⟨(h.sG b hb).1,hd b hb⟩⟩
def iG.apart(h:iG T fB fA F Z bot up X V Bs ρ M g wL g' w){a b:Nat}(d:ρ a b):jm X b:=by
 rcases bT a Bs with c|c
 ·exact(h.own.st a b d c).elim (h.clear.st b) (h.clear.own b)
 ·exact h.clear.own b (h.own.own a b d c)
def _root_.Go.bJ.GC.fin(h:GC T fB fA F Z bot up ρ g g')(hv:VR F ρ v v'):GC T fB fA F Z bot up ρ (fin g v) (fin g' v'):=by
 obtain⟨a,⟨l,b,c,d,e,f⟩,i,j,k,m,n,o⟩:=h;exact⟨a.finish hv,⟨l,b,c,d,e,f.top (bZ _ _)⟩,i,j,k,m,n,o⟩
def iG.fin(h:iG T fB fA F Z bot up X V Bs ρ M g wL g' w)(hv:VR F ρ v v'):iG T fB fA F Z bot up X V Bs ρ M (fin g v) wL (fin g' v') w:=
 ⟨h.inj,h.wr,h.g.fin hv,h.own,h.clear,h.sG⟩
def _root_.Go.bJ.GC.op(h:GC T fB fA F Z bot up ρ g g'){o:Oper}(p:bF g=some o):bF g'=some o/\∀j,VR F ρ (g.frame.eval (dT j)) (g'.frame.eval (dT j)):=by
 obtain⟨a,⟨l,r,s,t,u,x⟩,y,c,z,d,A,e⟩:=h;obtain⟨fn,tmps,ops,i,f,k,defers,kind,B,cs,rfl,k1,k2,k3,C⟩:=gF p;obtain⟨⟨D,q,E,H,I,J,K⟩,cs',st',Bl,Bm⟩:=g';have b:=a.todo;have m:=a.mode;have n:=a.bX;simp only at b m n c d e;subst c d e n;cases m
 cases b with
 |cons hi b=>
  cases hi with
  |inRegion _ _ L=>
   have hy:yielded ops q=yielded ops tmps:=funext λj=>(oo ops a.tmps j).symm;refine⟨?_,λj=>VA.getD a.tmps j .undef⟩;simp only[bF,Option.isNone_none]
   grind
def iG.back(h:iG T fB fA F Z bot up X V Bs ρ M g wL g' w)(j:g.frame.mode=dQ)(hd:g.frame.defers=[])(hc:g.callers=[bot]) :
 ∃fr',g'=G fr' up/\fr'.fn=g.frame.fn/\fr'.mode=dQ/\fr'.kind=ce/\fr'.defers=[]/\VA F ρ g.frame.tmps fr'.tmps:=by
 obtain⟨b,⟨l,o,p,d,k,q⟩,r,e,s,f,t,i⟩:=h.g;obtain⟨fr',cs',n,u,x⟩:=g';simp only at e f i d;subst e f i d;have hl:l=[]:=by
  simp_all
 subst hl;cases k;have c:=b.mode;have a:=b.defers;simp only at c a;rw[j]at c;rw[hd]at a;refine⟨fr',by simp[G],b.fn,?_,b.bX,?_,b.tmps⟩
 ·generalize fr'.mode=m at c;cases c;rfl
 ·generalize fr'.defers=m at a;cases a;rfl
def oT{k:aS}{n:Int}(h:VR F ρ (de k n) v):v=de k n:=by cases h;rfl
def PG{c:Nat}(d:ρ.bw c){a b o:Nat}(h:VR F ρ (df (some ⟨a,o,none⟩)) v)(e:ρ a b):v=df (some ⟨b,o,none⟩):=by
 cases h with
 |@ptr _ f x=>
  obtain⟨b',i,j⟩:=f;obtain⟨x1,x2,x3⟩:=x;simp only at x1 x2 x3;subst x2 x3;rw[d.fn x1 e]
def Jy{a o:Nat}(h:VR F ρ (df (some ⟨a,o,none⟩)) v):∃b,ρ a b/\v=df (some ⟨b,o,none⟩):=by
 cases h with
 |@ptr _ c x=>
  obtain⟨b',d,e⟩:=c;obtain⟨x1,x2,x3⟩:=x
  grind
def xL{d:Nat}(e:ρ.bw d){a b o l c:Nat}(h:VR F ρ (dk (some ⟨a,o,none⟩) l c) v)(f:ρ a b)(hl:0<l):v=dk (some ⟨b,o,none⟩) l c:=by
 cases h with
 |dK=>grind
 |@slice _ i _ _ x=>
  obtain⟨b',j,k⟩:=i;obtain⟨x1,x2,x3⟩:=x;simp only at x1 x2 x3;subst x2 x3;rw[e.fn x1 f]
def PI{j:Nat}(k:ρ.bw j)(hF:∀f,F f=true->f<cn){b:Nat}(h:VR F ρ (dj (ed (cn+0)) #[] #[]) v)(m:ρ 0 b):v=dj (eg b) #[] #[]:=by
 generalize n:(Fn.func (cn+0))=fx at h
 cases h with
 |@func fn r a d s c h e i=>
  have e1:d=#[]:=by cases o:d.toList with|nil=>grind|cons x y=>rw[o]at e;cases e
  have p:c=#[]:=by cases q:c.toList with|nil=>grind|cons x y=>rw[q]at i;cases i
  subst e1 p
  cases h with
  |func f hf=>
   grind
  |yield hl=>cases n
  |@spec l t hl=>
   have:l=0:=by
    grind
   subst this;rw[k.fn hl m]
def Y5{a:Array Value}(h:VR F ρ (dl a) v):∃a',v=dl a'/\VA F ρ a a':=by
 cases h with
 |agg h=>exact⟨_,rfl,h⟩
def Uw{l:List Int}{k:aS}{l':List Value}(h:cU F ρ (l.map (de k)) l'):l'=l.map (de k):=by
 induction l generalizing l' with
 |nil=>cases h;rfl
 |cons n l c=>
  cases h with
  |cons a b=>rw[oT a,c b];rfl
def Ux{j:Nat}(k:ρ.bw j){f:ap}(hF:∀f,F f=true->f<cn)(hf:f<cn){a b:Nat}(h:VR F ρ (dj (ed f) #[] #[df (some ⟨a,0,none⟩),df (some ⟨b,0,none⟩)]) v) :
 ∃a' b',ρ a a'/\ρ b b'/\v=dj (ed f) #[] #[df (some ⟨a',0,none⟩),df (some ⟨b',0,none⟩)]:=by
 generalize c:(Fn.func f)=fx at h
 cases h with
 |@func fn t x d y y' h e i=>
  have e1:d=#[]:=by cases l:d.toList with|nil=>grind|cons x y=>rw[l]at e;cases e
  subst e1;generalize hy:y'.toList=u at i
  cases i with
  |cons m n=>
   cases n with
   |cons o p=>
    cases p;obtain⟨a',q,rfl⟩:=Jy m;obtain⟨b',r,rfl⟩:=Jy o;have s:y'=#[df (some ⟨a',0,none⟩),df (some ⟨b',0,none⟩)]:=by
     grind
    subst s;refine⟨a',b',q,r,?_⟩
    cases h with
    |func f hf=>cases c;rfl
    |yield hl=>cases c
    |spec hl=>
     grind
end
end Go.Ph
