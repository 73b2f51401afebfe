/- Part of the proof of FieldFlat and FieldMarshals. -/
import Derived.Test.YtmkjeaacgibnoaaGreatY10
import Derived.Conc.MuSpec
import Derived.Conc.MuStep0
import Derived.Conc.Starve
set_option linter.all false
open Go renaming Program->aa,Goroutine->ab,mayWake->ac
open Go.MemAct renaming ofEvent->ae,touch?->ag
open Nat renaming le_refl->ao,zero_le->ar,lt_wfRel->aB,lt_of_lt_of_le->aF
open Go.Conc renaming QuitsD->aI,woken_quitsD->aJ,mem_ofEvents->aL
open Go.ConcN renaming upd_same->aP,upd_ne->aT,sumTo_upd->a5
open Go.MemOp renaming ofEvents->a6
open Array renaming getElem?_setIfInBounds_ne->a7,getElem?_setIfInBounds_self_of_lt->a8
namespace Go.Ph
open Go.Conc Go.ConcN
open Go.ConcM (MuAt muA msA OsLater muBlock)
open Go.ConcR (KK WgAt stA smA rd wr mk)
open Go.cD (Wd Th Mv Safe)
inductive Tree where
 |leaf
 |node (f:World->Tree)
inductive Tree.Lt:Tree->Tree->Prop
 |sub (f:World->Tree) (w:World):Tree.Lt (f w) (.node f)
def Tree.wf:WellFounded Tree.Lt:=⟨λt=>by
 induction t with
 |leaf=>exact⟨_,λ_ h=>by cases h⟩
 |node f a=>exact⟨_,λ_ h=>by cases h with|sub _ w=>exact a w⟩⟩
def _root_.Go.cD.Wd.num(x:Wd):Nat:=(if x.l then 1 else 0)+(if x.w then 2 else 0)+(if x.s then 4 else 0)+8*x.k
structure Sh where
 mw:Wd
 ms:Nat
 v:Nat
 wt:Nat
 ws:Nat
structure Fix where
 P:aa
 tM:TypeId
 tW:TypeId
 tT:TypeId
 Mu:Nat
 Wg:Nat
 Tb:Nat
 size:Nat
 n:Nat
 Shun:Loc->Prop
variable (X:Fix)
def ShAt(w:World)(s:Sh):Prop:=MuAt X.tM X.Mu w (s.mw.num:Int) (s.ms:Int)/\WgAt X.tW X.Wg w ((s.v:Int)*KK+(s.wt:Int)) (s.ws:Int)
def Live(w:World):Prop:=(∃st a,MuAt X.tM X.Mu w st a)/\(∃st a,WgAt X.tW X.Wg w st a)/\∃c:Array Value,w.heap[X.Tb]?=some (.cells c X.tT)/\c.size=X.size
def OZ(l:Loc):Prop:=∃a,l=.cell a/\(a.block=X.Mu\/a.block=X.Wg)
def jm(b:Nat):Prop:=b≠X.Mu/\b≠X.Wg/\b≠X.Tb
structure Vw where
 g:Nat
 st:Nat->Prop
 row:Nat->Prop
abbrev Own:=Nat->Prop
structure Rl(V:Vw)(M:Own)(w ai:World):Prop where
 tape:ai.tape=w.tape
 output:ai.output=w.output
 os:OsLater w.os ai.os
 size:w.heap.size<=ai.heap.size
 st:∀b,V.st b->ai.heap[b]?=w.heap[b]?
 own:∀b,M b->ai.heap[b]?=w.heap[b]?
 live:Live X w->Live X ai
 row:∀o,V.row o->ai.cell? ⟨X.Tb,o,none⟩=w.cell? ⟨X.Tb,o,none⟩
def TR(V:Vw)(M:Own)(l:Loc):Prop:=match l with
 |.cell a=>M a.block\/(a.block=X.Tb/\V.row a.off)
 |.obj b=>M b
 |_=>False
def RdL(V:Vw)(l:Loc):Prop:=¬X.Shun l/\match l with
 |.cell a=>V.st a.block
 |.obj b=>V.st b
 |_=>False
def jG(V:Vw)(M:Own)(B:Nat)(e:Event):Prop:=
 (∀x,(ae e).touch? = some x->x.loc.isMemory=true/\((OZ X x.loc/\if V.g=0 then x.kind≠.plain else x.kind=.atomic)\/(x.kind=.plain/\(TR X V M x.loc\/(RdL X V x.loc/\x.write=false)))))/\
 e.loc≠.mark (.release (stA X.Wg))/\(ae e).low B
structure Dl(V:Vw)(q:Bool)(M:Own)(d:Nat)(w w':World)(es:Array Event)(M':Own)(d':Nat):Prop where
 tape:w'.tape=w.tape
 output:w'.output=w.output
 os:OsLater w.os w'.os
 size:w.heap.size<=w'.heap.size
 block:∀b,b<w.heap.size->¬M b->b≠X.Mu->b≠X.Wg->b≠X.Tb->w'.heap[b]?=w.heap[b]?
 tb:∀c:Array Value,w.heap[X.Tb]?=some (.cells c X.tT)->∃c':Array Value,w'.heap[X.Tb]?=some (.cells c' X.tT)/\c'.size=c.size
 cells:∀o,¬V.row o->w'.cell? ⟨X.Tb,o,none⟩=w.cell? ⟨X.Tb,o,none⟩
 calm:q=true->w'.heap[X.Tb]?=w.heap[X.Tb]?
 own:∀b,M' b↔M b\/(w.heap.size<=b/\b<w'.heap.size)
 ev:∀e∈es,jG X V M' w'.heap.size e
 ai1:q=true->∀j e,es[j]?=some e->(ae e).touch? = none\/((∃ad wr,e=⟨.cell ad,wr,true⟩)/\0<deafBehind d (es.extract 0 j))
 deaf:d'=deafBehind d es
def L3(w w':World):Prop:=w'.heap[X.Mu]?=w.heap[X.Mu]?/\w'.heap[X.Wg]?=w.heap[X.Wg]?
abbrev Stp:=Own->Nat->ab->World->Prop
def jA(V:Vw)(q:Bool)(Stop:Stp):Tree->Own->Nat->ab->World->Prop
 |.leaf,M,d,g,w=>∀ai,Rl X V M w ai->Stop M d g ai
 |.node f,M,d,g,w=>∀ai,Rl X V M w ai->Stop M d g ai\/(g.status=.running/\∃a w' es b c,stepG X.P (V.g==0) g ai=.go a w' es/\Dl X V q M d ai w' es b c/\L3 X ai w'/\a.status=.running/\jA V q Stop (f ai) b c a w')
def ay(V:Vw)(q:Bool)(Stop:Stp)(M:Own)(d:Nat)(g:ab)(w:World):Prop:=∃t,jA X V q Stop t M d g w
section
variable {X}{V:Vw}{q:Bool}{Stop WG:Stp}{M:Own}{d:Nat}{g:ab}{w ai GD:World}
def Rl.refl(V:Vw)(M:Own)(w:World):Rl X V M w w:=⟨rfl,rfl,.refl _,ao _,λ_ _=>rfl,λ_ _=>rfl,id,λ_ _=>rfl⟩
def Rl.trans(h:Rl X V M w ai)(k:Rl X V M ai GD):Rl X V M w GD:=
 ⟨k.tape.trans h.tape,k.output.trans h.output,h.os.trans k.os,Nat.le_trans h.size k.size,λb hb=>(k.st b hb).trans (h.st b hb),λb hb=>(k.own b hb).trans (h.own b hb),λl=>k.live (h.live l),λo a=>(k.row o a).trans (h.row o a)⟩
def ay.stop(h:∀ai,Rl X V M w ai->Stop M d g ai):ay X V q Stop M d g w:=⟨.leaf,h⟩
def ay.either(h:∀ai,Rl X V M w ai->Stop M d g ai\/(g.status=.running/\∃g' w' es M' d',stepG X.P (V.g==0) g ai=.go g' w' es/\Dl X V q M d ai w' es M' d'/\L3 X ai w'/\g'.status=.running/\ay X V q Stop M' d' g' w')):ay X V q Stop M d g w:=by
 have key:∀ai,∃t:Tree,Rl X V M w ai->Stop M d g ai\/(g.status=.running/\∃g' w' es M' d',stepG X.P (V.g==0) g ai=.go g' w' es/\Dl X V q M d ai w' es M' d'/\L3 X ai w'/\g'.status=.running/\jA X V q Stop t M' d' g' w'):=by
  intro ai;by_cases a:Rl X V M w ai
  ·rcases h ai a with hs|⟨b,g',w',es,M',d',c,e,i,j,t,k⟩
   ·exact⟨.leaf,λ_=>.inl hs⟩
   ·exact⟨t,λ_=>.inr ⟨b,g',w',es,M',d',c,e,i,j,k⟩⟩
  ·exact⟨.leaf,λx=>absurd x a⟩
 obtain⟨f,hf⟩:=Classical.axiomOfChoice key;exact⟨.node f,λai a=>hf ai a⟩
def ay.step(a:g.status=.running)(h:∀ai,Rl X V M w ai->∃g' w' es M' d',stepG X.P (V.g==0) g ai=.go g' w' es/\Dl X V q M d ai w' es M' d'/\L3 X ai w'/\g'.status=.running/\ay X V q Stop M' d' g' w'):ay X V q Stop M d g w:=
 .either λai r=>.inr ⟨a,h ai r⟩
def jA.rely:∀{t:Tree},jA X V q Stop t M d g w->Rl X V M w ai->jA X V q Stop t M d g ai
 |.leaf,h,r=>λGD a=>h GD (r.trans a)
 |.node _,h,r=>λGD a=>h GD (r.trans a)
def ay.rely(h:ay X V q Stop M d g w)(r:Rl X V M w ai):ay X V q Stop M d g ai:=h.imp λ_ x=>x.rely r
def ay.mono(h:ay X V q Stop M d g w)(hs:∀M d g w,Stop M d g w->WG M d g w):ay X V q WG M d g w:=by
 obtain⟨t,a⟩:=h
 induction t generalizing M d g w with
 |leaf=>exact .stop λai r=>hs _ _ _ _ (a ai r)
 |node f b=>
  refine .either λai r=>?_
  rcases a ai r with x|⟨c,e,w',es,i,j,k,l,m,n,o⟩
  ·exact .inl (hs _ _ _ _ x)
  ·exact .inr ⟨c,e,w',es,i,j,k,l,m,n,b ai o⟩
end
end Go.Ph
namespace Go.Ph
open Go.Conc Go.ConcN
open Go.ConcM (MuAt muA msA OsLater muBlock)
open Go.ConcR (KK WgAt stA smA rd wr mk)
open Go.cD (Wd Th Mv Safe Head eR spin)
inductive Alt:Th->Th->Prop
 |refl (T:Th):Alt T T
 |head (T H:Th):Head T H->(T.aw=true->T.old.w=true)->Alt (eR T) H
 |r2 (T:Th) (b:Bool):T.pc=.r2->(T.sv=true->b=true)->Alt T { T with sv:=b }
variable (X:Fix)
def nR(V:Vw)(q:Bool)(a:Sh->Prop)(f:Sh->Sh)(wake:Bool)(Next:Sh->Stp):Stp:=λM d g w=>
 g.status=.running/\g.offers=none/\(wake=true->ac X.P g=true)/\∀s,ShAt X w s->a s->
  ∃b w' es e h,stepG X.P (V.g==0) g w=.go b w' es/\ShAt X w' (f s)/\Dl X V q M d w w' es e h/\b.status=.running/\Next s e h b w'
def acP(V:Vw)(q:Bool)(a:Sh->Prop)(waits:Sh->Prop)(f:Sh->Sh)(Next:Sh->Stp):Stp:=λM d g w=>
 g.status=.running/\g.offers=none/\∀s,ShAt X w s->a s->(waits s->stepG X.P (V.g==0) g w=.go { g with status:=.blocked } w #[])/\
  (¬waits s->∃b w' es e h,stepG X.P (V.g==0) g w=.go b w' es/\ShAt X w' (f s)/\Dl X V q M d w w' es e h/\b.status=.running/\Next s e h b w')
section
variable (V:Vw)(Fin:World->Prop)
def AtD4:Stp:=nR X V true (λs=>s.v=0/\s.wt=0/\s.ws=0) (λs=>{ s with ws:=1 }) true (λ_ _ d g _=>∃q,aI X.P q d g)
def AtD3:Stp:=nR X V true (λs=>s.v=0/\s.wt=1/\s.ws=0) (λs=>{ s with wt:=0 }) false (λ_=>ay X V true (AtD4 X V))
def AtD2:Stp:=nR X V true (λs=>s.v=0/\s.wt=1/\s.ws=0) id false (λ_=>ay X V true (AtD3 X V))
def AtD1:Stp:=nR X V true (λs=>1<=s.v/\s.v<=X.n/\s.wt<=1/\s.ws=0) (λs=>{ s with v:=s.v-1 }) false
 (λs=>if s.v=1/\s.wt=1 then ay X V true (AtD2 X V) else λ_ d g _=>∃q,aI X.P q d g)
def O0:Stp:=λM d g w=>g.status=.running/\d=0/\Fin w/\∃a,stepG X.P (V.g==0) g w=.go a w #[mk (.releaseMerge (stA X.Wg))]/\a.status=.running/\ay X V true (AtD1 X V) M 0 a w
def iF:Nat->Th->Stp
 |0,_,_,_,_,_=>True
 |k+1,T,M,d,g,w=>g.status=.running/\g.offers=none/\(T.pc=.us->ac X.P g=true)/\∀s,ShAt X w s->cD.Safe T s.mw->s.mw.k<=X.n->s.ms<=1->
  (T.pc=.s1/\s.ms=0->stepG X.P (V.g==0) g w=.go { g with status:=.blocked } w #[])/\
  (¬(T.pc=.s1/\s.ms=0)->∃e h a f w' es i j,Mv s.mw s.ms T e h a/\stepG X.P (V.g==0) g w=.go f w' es/\ShAt X w' { s with mw:=h,ms:=a }/\Dl X V false M d w w' es i j/\f.status=.running/\
    ay X V false (λM d g w=>if e.pc=.out then O0 X V Fin M d g w else∃b,Alt e b/\iF k b M d g w) i j f w')
def eU(k:Nat)(T:Th):Stp:=λM d g w=>if T.pc=.out then O0 X V Fin M d g w else∃a,Alt T a/\iF X V Fin k a M d g w
end
section
variable (c:Nat)(np:Nat)(row:Nat->Nat->Prop)(Fin:Nat->World->Prop)(Post:Own->ab->World->Prop)
def Yy:Stp:=λM d g w=>g.status=.running/\d=0/\Post M g w
def O1(V:Vw):Stp:=λM d g w=>g.status=.running/\d=0/\∃a,stepG X.P (V.g==0) g w=.go a w #[mk (.acquire (stA X.Wg))]/\a.status=.running/\ay X V false (Yy Post) M 0 a w
def AtW4(V:Vw):Stp:=nR X V false (λs=>s.v=0/\s.wt=0/\s.ws=0) id false (λ_=>ay X V false (O1 X Post V))
def AtW3(V:Vw):Stp:=acP X V false (λs=>s.ws<=1) (λs=>s.ws=0) (λs=>{ s with ws:=s.ws-1 }) (λ_=>ay X V false (AtW4 X Post V))
mutual
def AtW1(V:Vw):Nat->Stp
 |0=>λ_ _ _ _=>True
 |k+1=>nR X V false (λs=>s.v<=X.n/\s.wt=0/\s.ws=0) id false (λs=>if s.v=0 then ay X V false (O1 X Post V) else ay X V false (AtW2 V k s.v))
def AtW2(V:Vw):Nat->Nat->Stp
 |0,_=>λ_ _ _ _=>True
 |k+1,a=>nR X V false (λs=>s.v<=X.n/\s.wt=0/\s.ws=0) (λs=>if s.v=a then { s with wt:=1 } else s) false
  (λs=>if s.v=a then ay X V false (AtW3 X Post V) else ay X V false (AtW1 V k))
end
def rj(j:Nat)(V:Vw)(M:Own):Vw:=⟨c+j,λb=>V.st b\/M b,row j⟩
def Vw.more(V:Vw)(M:Own):Vw:={ V with st:=λb=>V.st b\/M b }
def nobody:Own:=λ_=>False
def AtGo(j:Nat)(a:Vw->Stp)(V:Vw):Stp:=λM d g w=>g.status=.running/\d=0/\∃b child,stepG X.P (V.g==0) g w=.spawn b child w #[]/\b.status=.running/\child.status=.running/\
 ((∀o,row j o->w.cell? ⟨X.Tb,o,none⟩=some (.int .i64 0))->∀k,ay X (rj c row j V M) false (eU X (rj c row j V M) (Fin j) k { pc:=.l0,r:=np }) nobody 0 child w)/\ay X (V.more M) false (a (V.more M)) nobody 0 b w
def Ta:Nat->Vw->Stp
 |0,V=>λM d g w=>∀k,AtW1 X Post V k M d g w
 |r+1,V=>nR X V false (λs=>s.v<X.n/\s.wt=0/\s.ws=0) (λs=>{ s with v:=s.v+1 }) false (λ_=>ay X V false (AtGo X c np row Fin (X.n-(r+1)) (Ta r) V))
end
end Go.Ph
namespace Go.Ph
open Go.Conc Go.ConcN
open Go.ConcM (MuAt muA msA OsLater muBlock)
open Go.ConcR (KK WgAt stA smA rd wr mk)
open Go.cD (Wd Th Mv Head eR spin)
inductive WP where
 |mu|d1|d2|d3|d4|quit
 deriving DecidableEq
inductive MP where
 |add|go|w1|w2 (v:Nat)|w3|w4|aq|an
 deriving DecidableEq
structure Gh where
 j:Nat
 th:Nat->Th
 wp:Nat->WP
 mp:MP
 V:Nat->Vw
 M:Nat->Own
 tr:Nat->Tree
 q:Nat->Nat
 fu:Nat->Nat
 s:Sh
structure CB extends Fix where
 c:Nat
 np:Nat
 row:Nat->Nat->Prop
 Fin:Nat->World->Prop
 Post:Own->ab->World->Prop
 sE:Nat
 w₀:World
variable (Y:CB)
def gid(a:Nat):Nat:=if a=0 then 0 else Y.c+(a-1)
def Gh.q?(G:Gh):Nat->Bool
 |0=>false
 |k+1=>decide (G.wp k≠.mu)
def stM(j f:Nat)(V:Vw):MP->Stp
 |.add=>Ta Y.toFix Y.c Y.np Y.row Y.Fin Y.Post (Y.n-j) V
 |.go=>AtGo Y.toFix Y.c Y.np Y.row Y.Fin j (Ta Y.toFix Y.c Y.np Y.row Y.Fin Y.Post (Y.n-(j+1))) V
 |.w1=>AtW1 Y.toFix Y.Post V f
 |.w2 v=>AtW2 Y.toFix Y.Post V f v
 |.w3=>AtW3 Y.toFix Y.Post V
 |.w4=>AtW4 Y.toFix Y.Post V
 |.aq=>O1 Y.toFix Y.Post V
 |.an=>Yy Y.Post
def NH(V:Vw)(k f:Nat)(T:Th):WP->Stp
 |.mu=>eU Y.toFix V (Y.Fin k) f T
 |.d1=>AtD1 Y.toFix V
 |.d2=>AtD2 Y.toFix V
 |.d3=>AtD3 Y.toFix V
 |.d4=>AtD4 Y.toFix V
 |.quit=>λ_ _ _ _=>False
def Gh.um(G:Gh):Nat->Stp
 |0=>stM Y G.j (G.fu 0) (G.V 0) G.mp
 |k+1=>NH Y (G.V (k+1)) k (G.fu (k+1)) (G.th k) (G.wp k)
def Gh.waits(G:Gh):Nat->Prop
 |0=>G.mp=.w3/\G.s.ws=0
 |k+1=>G.wp k=.mu/\(G.th k).pc=.s1/\G.s.ms=0
def Gh.gone(G:Gh):Nat->Prop
 |0=>False
 |k+1=>G.wp k=.quit
inductive Sit(G:Gh)(a:Nat)(d:Nat)(g:ab)(w:World):Prop
 |run:¬G.gone a->g.status=.running->jA Y.toFix (G.V a) (G.q? a) (G.um Y a) (G.tr a) (G.M a) d g w->Sit G a d g w
 |wait (fJ:ab):¬G.gone a->g={ fJ with status:=.blocked }->fJ.status=.running->fJ.offers=none->G.waits a->jA Y.toFix (G.V a) (G.q? a) (G.um Y a) (G.tr a) (G.M a) d fJ w->Sit G a d g w
 |gone:G.gone a->aI Y.P (G.q (gid Y a)) d g->Sit G a d g w
structure OI(G:Gh)(w:World):Prop where
 ap:∀a,a<=G.j->∀b,(G.M a b\/(G.V a).st b)->b<w.heap.size/\jm Y.toFix b
 dj:∀a a',a<=G.j->a'<=G.j->a≠a'->∀b,G.M a b->¬G.M a' b/\¬(G.V a').st b
 self:∀a,a<=G.j->∀b,G.M a b->¬(G.V a).st b
 rows:∀a a',a<=G.j->a'<=G.j->a≠a'->∀o,(G.V a).row o->¬(G.V a').row o
 base:∀a,a<=G.j->∀b,G.M a b->Y.sE<=b
 num:∀a,a<=G.j->(G.V a).g=gid Y a
 ids:Y.Mu≠Y.Wg/\Y.Mu≠Y.Tb/\Y.Wg≠Y.Tb/\Y.sE<=Y.Mu/\Y.sE<=Y.Wg/\Y.sE<=Y.Tb/\Y.Mu<w.heap.size/\Y.Wg<w.heap.size/\Y.Tb<w.heap.size
 main:(G.V 0).row=λ_=>False
 rowV:∀k,k<G.j->(G.V (k+1)).row=Y.row k
def BK(G:Gh)(g:Nat)(l:Loc):Prop:=Y.c<=g/\g<Y.c+G.j/\TR Y.toFix (G.V (g-Y.c+1)) (G.M (g-Y.c+1)) l
def O5(G:Gh)(g:Nat)(l:Loc):Prop:=Y.c<=g/\g<Y.c+G.j/\RdL Y.toFix (G.V (g-Y.c+1)) l
def fv:WP->Nat
 |.mu | .d1=>1
 |_=>0
def fd:WP->Nat
 |.d2 | .d3=>1
 |_=>0
def f4:WP->Nat
 |.d4=>1
 |_=>0
structure WI(G:Gh):Prop where
 v:G.s.v=sumTo G.j (λk=>fv (G.wp k))+(if G.mp=.go then 1 else 0)
 early:(G.mp=.add\/G.mp=.go)->G.j<Y.n
 late:G.mp≠.add->G.mp≠.go->G.j=Y.n
 le:G.j<=Y.n
 calm:(G.mp=.add\/G.mp=.go\/G.mp=.w1\/∃v,G.mp=.w2 v)->G.s.wt=0/\G.s.ws=0/\sumTo G.j (λk=>fd (G.wp k))=0/\sumTo G.j (λk=>f4 (G.wp k))=0
 w3:G.mp=.w3->(G.s.wt=1/\G.s.ws=0/\sumTo G.j (λk=>f4 (G.wp k))=0/\(if G.s.v=0 then 1 else 0)=sumTo G.j (λk=>fd (G.wp k)))\/
  (G.s.wt=0/\G.s.v=0/\sumTo G.j (λk=>fd (G.wp k))=0/\sumTo G.j (λk=>f4 (G.wp k))+G.s.ws=1)
 done:(G.mp=.w4\/G.mp=.aq\/G.mp=.an)->G.s.v=0/\G.s.wt=0/\G.s.ws=0/\∀k,k<G.j->G.wp k=.quit
 nz:∀v,G.mp=.w2 v->v≠0
def wW:WP->Nat
 |.mu=>30
 |.d1=>25
 |.d2=>10
 |.d3=>9
 |.d4=>8
 |.quit=>0
def wM(n j:Nat)(v:Nat):MP->Nat
 |.add=>50*(n-j)+20
 |.go=>50*(n-j)+15
 |.w1=>10
 |.w2 a=>if v=a then 9 else 12
 |.w3=>8
 |.w4=>7
 |.aq=>6
 |.an=>0
def vK(G:Gh):Nat:=wM Y.n G.j G.s.v G.mp+sumTo G.j (λk=>wW (G.wp k))
def muK(n:Nat):Nat:=(16*n+43)*n+(4*n+19)+1
def oD(G:Gh):cD.St:=⟨G.th,G.s.mw,G.s.ms⟩
def phi(G:Gh):Nat:=cD.nQ Y.n (oD G)*muK Y.n+cD.uh Y.n (oD G)
structure MI(G:Gh)(gs:Array ab)(w:World)(t:Trace):Prop where
 cpos:0<Y.c
 size:gs.size=Y.c+G.j
 sit:∀a,a<=G.j->∀g,gs[gid Y a]?=some g->Sit Y G a (Deaf t (gid Y a)) g w
 old:∀i g,0<i->i<Y.c->gs[i]?=some g->aI Y.P (G.q i) (Deaf t i) g
 above:∀i,gs.size<=i->Deaf t i=0
 sh:ShAt Y.toFix w G.s
 tb:∃cs:Array Value,w.heap[Y.Tb]?=some (.cells cs Y.tT)/\cs.size=Y.toFix.size
 mun:cD.Inv Y.n (oD G)
 fresh:∀k,G.j<=k->k<Y.n->G.th k={ pc:=.l0,r:=Y.np }
 out:∀k,k<G.j->G.wp k≠.mu->(G.th k).pc=.out
 wi:WI Y G
 fuel:∀k,k<G.j->phi Y G+1<=G.fu (k+1)
 fuel0:vK Y G+1<=G.fu 0
 oi:OI Y G w
 shun:∀l,Y.Shun l->l.low Y.sE/\l.isMemory=true
 tri:TI Y.Shun (OZ Y.toFix) (BK Y G) (O5 Y G) Y.c G.j t
 rel:∀k,k<G.j->G.wp k≠.mu->∃r,RelBy (stA Y.Wg) t (Y.c+k) r
 norel:NoRelease (stA Y.Wg) t
 low:∀op∈t,op.act.low w.heap.size
 fin:∀k,k<G.j->G.wp k≠.mu->Y.Fin k w
 acq:G.mp=.an->∃p,t.act? p=some (.mark (.acquire (stA Y.Wg)))/\t.g? p=some 0/\t.heard p/\∀k,k<G.j->∃r,RelBy (stA Y.Wg) t (Y.c+k) r/\r<p
 tape:w.tape=Y.w₀.tape
 output:w.output=Y.w₀.output
 os:OsLater Y.w₀.os w.os
 kept:∀b,b<Y.sE->w.heap[b]?=Y.w₀.heap[b]?
 rowok:∀k k' o,k≠k'->Y.row k o->¬Y.row k' o
 un:∀k,G.j<=k->∀o,Y.row k o->w.cell? ⟨Y.Tb,o,none⟩=some (.int .i64 0)
section
variable {Y:CB}{G G':Gh}{gs:Array ab}{w w':World}{t:Trace}{a b d d':Nat}{g g':ab}{es:Array Event}{M':Own}{q:Bool}
def iZ:gid Y 0=0:=rfl
def bQ(k:Nat):gid Y (k+1)=Y.c+k:=by simp[gid]
def wm(hc:0<Y.c)(h:gid Y a=gid Y b):a=b:=by
 unfold gid at h
 split at h<;>split at h<;>omega
def Yz(h:a<=G.j)(hc:0<Y.c):gid Y a<Y.c+G.j:=by
 unfold gid;split<;>omega
def TU(hs:ShAt Y.toFix w G.s)(c:∃cs:Array Value,w.heap[Y.Tb]?=some (.cells cs Y.tT)/\cs.size=Y.toFix.size):Live Y.toFix w:=
 ⟨⟨_,_,hs.1⟩,⟨_,_,hs.2⟩,c⟩
def acQ(c:Dl Y.toFix (G.V a) q (G.M a) d w w' es M' d')(e:∃cs:Array Value,w.heap[Y.Tb]?=some (.cells cs Y.tT)/\cs.size=Y.toFix.size):∃cs:Array Value,w'.heap[Y.Tb]?=some (.cells cs Y.tT)/\cs.size=Y.toFix.size:=by
 obtain⟨cs,f,h⟩:=e;obtain⟨cs',i,j⟩:=c.tb cs f;exact⟨cs',i,j.trans h⟩
def OI.rl(O:OI Y G w)(f:a<=G.j)(hb:b<=G.j)(i:a≠b)(c:Dl Y.toFix (G.V a) q (G.M a) d w w' es M' d')(hl:Live Y.toFix w->Live Y.toFix w'):Rl Y.toFix (G.V b) (G.M b) w w':=by
 refine⟨c.tape,c.output,c.os,c.size,λx e=>?_,λx e=>?_,hl,λo p=>c.cells o λh=>O.rows a b f hb i o h p⟩
 ·obtain⟨k,l,m,n⟩:=O.ap b hb x (.inr e);exact c.block x k (λh=>(O.dj a b f hb i x h).2 e) l m n
 ·obtain⟨k,l,m,n⟩:=O.ap b hb x (.inl e);exact c.block x k (λh=>(O.dj a b f hb i x h).1 e) l m n
def OI.after(O:OI Y G w)(F:a<=G.j)(u:Dl Y.toFix (G.V a) q (G.M a) d w w' es M' d')(m:G'.j=G.j)(n:G'.V=G.V)(s:G'.M=upd G.M a M'):OI Y G' w':=by
 have f:∀b x,(upd G.M a M') b x->G.M b x\/(b=a/\w.heap.size<=x/\x<w'.heap.size):=by
  intro b x h;by_cases e:b=a
  ·subst e;rw[aP]at h;exact((u.own x).1 h).imp id λy=>⟨rfl,y⟩
  ·rw[aT _ _ e]at h;exact .inl h
 obtain⟨v,z,A,B,C,D,H,i8,I⟩:=O.ids;have J:=u.size;refine⟨λb hb x c=>?_,λb b' hb i p x c=>?_,λb hb x c=>?_,λb b' hb i p=>?_,λb hb x c=>?_,λb hb=>?_,⟨v,z,A,B,C,D,by omega,by omega,by omega⟩,by rw[n];exact O.main,λk E=>by rw[n];exact O.rowV k (m▸E)⟩
 ·rw[m]at hb;rw[s,n]at c
  rcases c with c|c
  ·rcases f b x c with h|⟨_,r,l⟩
   ·obtain⟨r,l⟩:=O.ap b hb x (.inl h);exact⟨by omega,l⟩
   ·exact⟨l,by unfold jm;omega⟩
  ·obtain⟨r,l⟩:=O.ap b hb x (.inr c);exact⟨by omega,l⟩
 ·rw[m]at hb i;rw[s]at c ⊢;rw[n]
  rcases f b x c with h|⟨rfl,r,l⟩
  ·refine⟨λo=>?_,(O.dj b b' hb i p x h).2⟩
   rcases f b' x o with k|⟨rfl,k1,_⟩
   ·exact(O.dj b b' hb i p x h).1 k
   ·have:=(O.ap b hb x (.inl h)).1;omega
  ·refine⟨λo=>?_,λo=>?_⟩
   ·rcases f b' x o with k|⟨e,_⟩
    ·have:=(O.ap b' i x (.inl k)).1;omega
    ·exact p e.symm
   ·have:=(O.ap b' i x (.inr o)).1;omega
 ·rw[m]at hb;rw[s]at c;rw[n]
  rcases f b x c with h|⟨rfl,r,l⟩
  ·exact O.self b hb x h
  ·intro o;have:=(O.ap b hb x (.inr o)).1;omega
 ·rw[m]at hb i;rw[n];exact O.rows b b' hb i p
 ·rw[m]at hb;rw[s]at c
  rcases f b x c with h|⟨rfl,r,l⟩
  ·exact O.base b hb x h
  ·omega
 ·rw[m]at hb;rw[n];exact O.num b hb
def again_blocked(c:ab)(e:c.status=.running)(f:c.offers=none)(w:World):({ c with status:=.blocked }:ab).again w=c:=by
 obtain⟨fr,cs,st,h,of⟩:=c;simp only at e f;subst e f;rfl
def zF(P:aa)(x e c:ab)(f:c.status=.running)(h:c.offers=none)(w:World) :
 woken P x e w { c with status:=.blocked }={ c with status:=.blocked }\/woken P x e w { c with status:=.blocked }=c:=by
 unfold woken
 split
 ·exact .inr (again_blocked c f h w)
 ·exact .inl rfl
def GF(P:aa)(x e c:ab)(f:c.status=.running)(h:c.offers=none)(w:World)(i:ac P x=true)(j:e.status=.running) :
 woken P x e w { c with status:=.blocked }=c:=by
 unfold woken;rw[if_pos (by simp[i,j])];exact again_blocked c f h w
def Sit.other(h:Sit Y G b d g w)(r:Rl Y.toFix (G.V b) (G.M b) w w')(x i:ab)(e1:G'.V b=G.V b)(j:G'.M b=G.M b)(l:G'.tr b=G.tr b)(m:G'.um Y b=G.um Y b)(n:G'.q? b=G.q? b)(f:G'.gone b↔G.gone b)(s:G'.q (gid Y b)=G.q (gid Y b))
 (u:G.waits b->G'.waits b\/(ac Y.P x=true/\i.status=.running)):Sit Y G' b d (woken Y.P x i w' g) w':=by
 cases h with
 |run hg c h=>
  rw[woken_run c];exact .run (λy=>hg (f.1 y)) c (by rw[e1,j,l,m,n];exact h.rely r)
 |wait o hg e c p v h=>
  subst e
  rcases u v with k|⟨k1,k2⟩
  ·rcases zF Y.P x i o c p w' with e|e
   ·rw[e];exact .wait o (λy=>hg (f.1 y)) rfl c p k (by rw[e1,j,l,m,n];exact h.rely r)
   ·rw[e];exact .run (λy=>hg (f.1 y)) c (by rw[e1,j,l,m,n];exact h.rely r)
  ·rw[GF Y.P x i o c p w' k1 k2];exact .run (λy=>hg (f.1 y)) c (by rw[e1,j,l,m,n];exact h.rely r)
 |gone hg h=>
  rw[aJ h];exact .gone (f.2 hg) (by rw[s];exact h)
def Sit.status(h:Sit Y G b d g w):g.status=.running\/g.status=.blocked\/g.status=.finished:=by
 cases h with
 |run _ h _=>exact .inl h
 |wait _ _ e _ _ _ _=>subst e;exact .inr (.inl rfl)
 |gone _ h=>exact h.status.imp id .inr
def TV{x:MemAct}{c:Touch}{B:Nat}(h:x.touch? = some c)(hl:x.low B):c.loc.low B:=by
 cases x with
 |access e=>simp[ag]at h;subst h;exact hl
 |mark m=>cases m<;>simp[ag]at h<;>(subst h;exact hl)
 |_=>simp[ag]at h
def Aj(c:∀op∈t,op.act.low w.heap.size){l:Loc}(hl:¬l.low w.heap.size):∀i x,touchAt t i=some x->x.loc≠l:=by
 intro i x f e;obtain⟨op,h,j⟩:=touch_of f;exact hl (e▸TV j (c op (mem_of_getElem? h)))
def O6{V:Vw}{M:Own}{l:Loc}(h:TR Y.toFix V M l):l.isMemory=true:=by
 cases l<;>first|rfl|exact h.elim
def TW{V:Vw}{l:Loc}(h:RdL Y.toFix V l):l.isMemory=true:=by
 cases l<;>first|rfl|exact h.2.elim
def Jj:∀k l,(BK Y G k l\/O5 Y G k l)->l.isMemory=true:=λ_ _ h=>h.elim (λx=>O6 x.2.2) (λx=>TW x.2.2)
def OI.shun(O:OI Y G w)(hs:∀l,Y.Shun l->l.low Y.sE/\l.isMemory=true):∀l,OZ Y.toFix l->¬Y.Shun l/\l.isMemory=true:=by
 rintro l⟨a,rfl,h⟩;refine⟨λx=>?_,rfl⟩;have:=(hs _ x).1;obtain⟨_,_,_,c,e,_⟩:=O.ids;have:a.block<Y.sE:=this
 rcases h with h|h<;>omega
def OI.fam(O:OI Y G w)(hs:∀l,Y.Shun l->l.low Y.sE/\l.isMemory=true):Fam Y.Shun (OZ Y.toFix) (BK Y G) (O5 Y G):=by
 obtain⟨L,H,I,N,P,Q,_⟩:=O.ids;have blk:∀{V:Vw}{M:Own}{l:Loc},TR Y.toFix V M l->∃x,(l=.obj x\/∃f:Addr,l=.cell f/\f.block=x)/\(M x\/(x=Y.Tb/\∃f:Addr,l=.cell f/\V.row f.off)):=by
  intro V M l h
  cases l with
  |cell f=>exact⟨f.block,.inr ⟨f,rfl,rfl⟩,h.imp id λx=>⟨x.1,f,rfl,x.2⟩⟩
  |obj r=>exact⟨r,.inl rfl,.inl h⟩
  |_=>exact h.elim
 have st:∀{V:Vw}{l:Loc},RdL Y.toFix V l->∃x,(l=.obj x\/∃f:Addr,l=.cell f/\f.block=x)/\V.st x:=by
  intro V l h
  cases l with
  |cell f=>exact⟨f.block,.inr ⟨f,rfl,rfl⟩,h.2⟩
  |obj r=>exact⟨r,.inl rfl,h.2⟩
  |_=>exact h.2.elim
 have same:∀{l:Loc}{x y:Nat},(l=.obj x\/∃f:Addr,l=.cell f/\f.block=x)->(l=.obj y\/∃f:Addr,l=.cell f/\f.block=y)->x=y:=by
  rintro l x y(rfl|⟨f,rfl,rfl⟩)(h|⟨C,h,rfl⟩)
  ·cases h;rfl
  ·cases h
  ·cases h
  ·cases h;rfl
 refine⟨λk k' l h D=>?_,λk k' l h D=>?_,λk l h=>⟨λp=>?_,λp=>?_⟩,λk l h=>⟨λp=>?_,λp=>h.2.2.1 p⟩⟩
 ·obtain⟨A,B,o⟩:=h;obtain⟨J,K,s⟩:=D;refine Classical.byContradiction λR=>?_;obtain⟨x,v,m⟩:=blk o;obtain⟨y,hy,n⟩:=blk s;obtain rfl:=same v hy;have i:k-Y.c+1<=G.j:=by omega
  have u:k' - Y.c+1<=G.j:=by omega
  have z:k-Y.c+1≠k' - Y.c+1:=by omega
  rcases m with m|⟨e,f,e1,m⟩
  ·rcases n with n|⟨e,_⟩
   ·exact(O.dj _ _ i u z x m).1 n
   ·exact(O.ap _ i x (.inl m)).2.2.2 e
  ·rcases n with n|⟨_,C,F,n⟩
   ·exact(O.ap _ u x (.inl n)).2.2.2 e
   ·rw[e1]at F;cases F;exact O.rows _ _ i u z _ m n
 ·obtain⟨A,B,o⟩:=h;obtain⟨J,K,s⟩:=D;obtain⟨x,v,m⟩:=blk o;obtain⟨y,hy,n⟩:=st s;obtain rfl:=same v hy;have i:k-Y.c+1<=G.j:=by omega
  have u:k' - Y.c+1<=G.j:=by omega
  rcases m with m|⟨e,_⟩
  ·by_cases e:k-Y.c+1=k' - Y.c+1
   ·rw[<-e]at n;exact O.self _ i x m n
   ·exact(O.dj _ _ i u e x m).2 n
  ·exact(O.ap _ u x (.inr n)).2.2.2 e
 ·obtain⟨A,B,o⟩:=h;obtain⟨f,rfl,hb⟩:=p;have i:k-Y.c+1<=G.j:=by omega
  rcases o with m|⟨e,_⟩
  ·obtain⟨_,a1,a2,_⟩:=O.ap _ i _ (.inl m)
   rcases hb with e|e
   ·exact a1 e
   ·exact a2 e
  ·rcases hb with E|E
   ·exact H (E.symm.trans e)
   ·exact I (E.symm.trans e)
 ·obtain⟨A,B,o⟩:=h;have i:k-Y.c+1<=G.j:=by omega
  obtain⟨x,v,m⟩:=blk o;have S:x<Y.sE:=by
   have:=(hs _ p).1
   rcases v with rfl|⟨f,rfl,rfl⟩
   ·exact this
   ·exact this
  rcases m with m|⟨e,_⟩
  ·have:=O.base _ i x m;omega
  ·omega
 ·obtain⟨A,B,o⟩:=h;obtain⟨f,rfl,hb⟩:=p;have i:k-Y.c+1<=G.j:=by omega
  obtain⟨_,a1,a2,_⟩:=O.ap _ i _ (.inr o.2)
  rcases hb with e|e
  ·exact a1 e
  ·exact a2 e
end
def nG(Y:CB):Prop:=∀k w w',(∀o,Y.row k o->w'.cell? ⟨Y.Tb,o,none⟩=w.cell? ⟨Y.Tb,o,none⟩)->Y.Fin k w->Y.Fin k w'
section
variable {Y:CB}{G G':Gh}{gs:Array ab}{w w':World}{t:Trace}{a b d d':Nat}{g g':ab}{es:Array Event}{M':Own}{q:Bool}
def YA{k B:Nat}(p:k<G'.j)(hc:0<Y.c)(i:(G'.V (k+1)).g=Y.c+k)(fn:FuncId)(pos:String)(l:∀e∈es,jG Y.toFix (G'.V (k+1)) (G'.M (k+1)) B e) :
 ∀op∈a6 (Y.c+k) fn pos es,OkW (OZ Y.toFix) (BK Y G') (O5 Y G') (Y.c+k) op:=by
 intro op m;obtain⟨e,f,rfl⟩:=aL m;refine⟨rfl,λx n=>?_⟩;obtain⟨o,h⟩:=(l e f).1 x n;rw[i,if_neg (by omega)]at h;have hi:Y.c+k-Y.c+1=k+1:=by omega
 refine⟨o,h.imp id λy=>⟨y.1,y.2.imp (λz=>⟨by omega,by omega,by rw[hi];exact z⟩) λz=>⟨⟨by omega,by omega,by rw[hi];exact z.1⟩,z.2⟩⟩⟩
def YB(O:OI Y G' w')(hs:∀l,Y.Shun l->l.low Y.sE/\l.isMemory=true){B:Nat}(fn:FuncId)(pos:String)(u:∀e∈es,jG Y.toFix (G'.V 0) (G'.M 0) B e) :
 ∀op∈a6 0 fn pos es,Ok0 Y.Shun (OZ Y.toFix) (BK Y G') (O5 Y G') Y.c G'.j op:=by
 intro op v;obtain⟨e,o,rfl⟩:=aL v;refine⟨rfl,λx A K=>?_⟩;obtain⟨_,s⟩:=(u e o).1 x A;have C:=O.num 0 (ar _);rw[C,iZ,if_pos rfl]at s;obtain⟨L,N,P,Q,R,S,_⟩:=O.ids;have key:∀y,(x.loc=.obj y\/∃f:Addr,x.loc=.cell f/\f.block=y)->(G'.M 0 y\/(G'.V 0).st y)->¬OZ Y.toFix x.loc/\∀k,Y.c<=k->k<Y.c+G'.j->¬BK Y G' k x.loc:=by
  intro y hy m;obtain⟨_,a1,a2,a3⟩:=O.ap 0 (ar _) y m;refine⟨?_,λk k1 k2 D=>?_⟩
  ·rintro⟨f,e1,hb⟩;rw[e1]at hy
   rcases hy with hy|⟨E,hy,rfl⟩
   ·cases hy
   ·cases hy
    rcases hb with hb|hb
    ·exact a1 hb
    ·exact a2 hb
  ·obtain⟨_,_,i⟩:=D;have n:k-Y.c+1<=G'.j:=by omega
   have p:G'.M (k-Y.c+1) y:=by
    rcases hy with hy|⟨f,hy,rfl⟩
    ·rw[hy]at i;exact i
    ·rw[hy]at i;exact i.resolve_right λz=>a3 z.1
   have:=O.dj (k-Y.c+1) 0 n (ar _) (by omega) y p;exact m.elim this.1 this.2
 rcases s with h|⟨_,h|⟨h,F⟩⟩
 ·exact .inl h
 ·obtain⟨y,hy,m⟩:∃y,(x.loc=.obj y\/∃f:Addr,x.loc=.cell f/\f.block=y)/\G'.M 0 y:=by
   cases hl:x.loc with
   |cell f=>
    rw[hl]at h;refine⟨f.block,.inr ⟨f,rfl,rfl⟩,h.resolve_right λz=>?_⟩;have:=z.2;rw[O.main]at this;exact this
   |obj r=>rw[hl]at h;exact⟨r,.inl rfl,h⟩
   |_=>rw[hl]at h;exact h.elim
  obtain⟨k1,k2⟩:=key y hy (.inl m);refine .inr ⟨k1,λH=>?_,k2,λ_ k c1 T I=>?_⟩
  ·have hb:=O.base 0 (ar _) y m;have:=(hs _ H).1
   rcases hy with hy|⟨f,hy,rfl⟩
   ·rw[hy]at this;have:y<Y.sE:=this;omega
   ·rw[hy]at this;have:f.block<Y.sE:=this;omega
  ·obtain⟨_,_,i⟩:=I;have n:k-Y.c+1<=G'.j:=by omega
   have J:(G'.V (k-Y.c+1)).st y:=by
    rcases hy with hy|⟨f,hy,rfl⟩
    ·rw[hy]at i;exact i.2
    ·rw[hy]at i;exact i.2
   exact(O.dj 0 (k-Y.c+1) (ar _) n (by omega) y m).2 J
 ·obtain⟨y,hy,m⟩:∃y,(x.loc=.obj y\/∃f:Addr,x.loc=.cell f/\f.block=y)/\(G'.V 0).st y:=by
   cases hl:x.loc with
   |cell f=>rw[hl]at h;exact⟨f.block,.inr ⟨f,rfl,rfl⟩,h.2⟩
   |obj r=>rw[hl]at h;exact⟨r,.inl rfl,h.2⟩
   |_=>rw[hl]at h;exact h.2.elim
  obtain⟨k1,k2⟩:=key y hy (.inr m);exact .inr ⟨k1,h.1,k2,λz=>by rw[F]at z;cases z⟩
def O7(m:MI Y G gs w t)(C:a<=G.j)(s:Dl Y.toFix (G.V a) q (G.M a) d w w' es M' d')(i:G'.j=G.j)(o:G'.V=G.V)(u:G'.M=upd G.M a M'):TI Y.Shun (OZ Y.toFix) (BK Y G') (O5 Y G') Y.c G'.j t:=by
 have B:O5 Y G'=O5 Y G:=by funext k l;simp only[O5,i,o]
 rw[B,i];have v:∀b x,G.M b x->G'.M b x:=by
  intro b x h;rw[u];by_cases e:b=a
  ·subst e;rw[aP];exact(s.own x).2 (.inl h)
  ·rw[aT _ _ e];exact h
 have z:∀b x,G'.M b x->G.M b x\/w.heap.size<=x:=by
  intro b x h;rw[u]at h;by_cases e:b=a
  ·subst e;rw[aP]at h;exact((s.own x).1 h).imp id (·.1)
  ·rw[aT _ _ e]at h;exact .inl h
 refine m.tri.grow (λk l h=>⟨h.1,i▸h.2.1,?_⟩) (λk l h=>?_)
 ·have f:=h.2.2;rw[o]
  cases l with
  |cell A=>exact f.imp (v _ _) id
  |obj r=>exact v _ _ f
  |_=>exact f.elim
 ·obtain⟨p,n,f⟩:=h;rw[i]at n;rw[o]at f
  cases l with
  |cell A=>
   rcases f with f|f
   ·rcases z _ _ f with x|x
    ·exact .inl ⟨p,n,.inl x⟩
    ·exact .inr (Aj m.low (λy:A.block<w.heap.size=>by omega))
   ·exact .inl ⟨p,n,.inr f⟩
  |obj r=>
   rcases z _ _ f with x|x
   ·exact .inl ⟨p,n,x⟩
   ·exact .inr (Aj m.low (λy:r<w.heap.size=>by omega))
  |_=>exact f.elim
def Ma{i:Nat}(hi:i<Y.c)(e:0<i):i≠gid Y a:=by
 unfold gid;split<;>omega
def MI.own(m:MI Y G gs w t)(hF:nG Y)(z:a<=G.j)(hg:gs[gid Y a]?=some g)
 (l:Dl Y.toFix (G.V a) (G.q? a) (G.M a) (Deaf t (gid Y a)) w w' es M' d')
 (v:G'.j=G.j) (N:G'.V=G.V) (O:G'.M=upd G.M a M') (eq:∀i,i≠gid Y a->G'.q i=G.q i)
 (same:∀b,b<=G.j->b≠a->G'.tr b=G.tr b/\G'.um Y b=G.um Y b/\G'.q? b=G.q? b/\(G'.gone b↔G.gone b))
 (wk:∀b,b<=G.j->b≠a->G.waits b->G'.waits b\/(ac Y.P g=true/\g'.status=.running))
 (F:∀k,k<G.j->G'.wp k≠.mu->G.wp k≠.mu\/(a=k+1/\es=#[Go.ConcR.mk (.releaseMerge (stA Y.Wg))]/\Deaf t (Y.c+k)=0/\Y.Fin k w'))
 (R:G'.mp=.an->G.mp=.an\/(a=0/\es=#[Go.ConcR.mk (.acquire (stA Y.Wg))]/\Deaf t 0=0/\∀k,k<G.j->G.wp k=.quit))
 (sit:Sit Y G' a d' g' w') (sh:ShAt Y.toFix w' G'.s) (mun:cD.Inv Y.n (oD G')) (fresh:∀k,G.j<=k->G'.th k=G.th k) (out:∀k,k<G.j->G'.wp k≠.mu->(G'.th k).pc=.out)
 (wi:WI Y G') (fuel:∀k,k<G.j->phi Y G'+1<=G'.fu (k+1)) (fuel0:vK Y G'+1<=G'.fu 0) :
 MI Y G' ((gs.map (woken Y.P g g' w')).setIfInBounds (gid Y a) g') w' (t++a6 (gid Y a) g.frame.fn g.frame.place es):=by
 have aH:gid Y a<gs.size:=(Array.getElem?_eq_some_iff.1 hg).1;have H:=acQ l m.tb;have S:Live Y.toFix w->Live Y.toFix w':=λ_=>TU sh H;have C:=m.oi.after z l v N O;have T:∀b,b≠gid Y a->Deaf (t++a6 (gid Y a) g.frame.fn g.frame.place es) b=Deaf t b:=λb hb=>
  Deaf_other t (Ne.symm hb) _ (λop I=>by obtain⟨e,_,rfl⟩:=aL I;rfl)
 have U:Deaf (t++a6 (gid Y a) g.frame.fn g.frame.place es) (gid Y a)=d':=by rw[Deaf_own];exact l.deaf.symm
 have J:∀e∈es,jG Y.toFix (G'.V a) (G'.M a) w'.heap.size e:=by rw[N,O,aP];exact l.ev
 have fW:((gs.map (woken Y.P g g' w')).setIfInBounds (gid Y a) g').size=gs.size:=by simp
 have xB:∀i x,i≠gid Y a->((gs.map (woken Y.P g g' w')).setIfInBounds (gid Y a) g')[i]?=some x->∃y,gs[i]?=some y/\x=woken Y.P g g' w' y:=by
  intro i x hi A;rw[a7 (Ne.symm hi),Array.getElem?_map]at A;obtain⟨y,hy,rfl⟩:=Option.map_eq_some_iff.1 A;exact⟨y,hy,rfl⟩
 have W:∀k,k<G.j->G.wp k≠.mu->∀r,RelBy (stA Y.Wg) t (Y.c+k) r->RelBy (stA Y.Wg) (t++a6 (gid Y a) g.frame.fn g.frame.place es) (Y.c+k) r:=by
  intro k f B r u;by_cases e:a=k+1
  ·subst e;rw[bQ];refine u.appOwn _ _ _ λj e X=>?_;have K:G.q? (k+1)=true:=by simp[Gh.q?,B]
   have:=l.ai1 K j e X;rw[bQ]at this;exact this
  ·exact u.appOther (g:=gid Y a) (λop I=>by obtain⟨e,_,rfl⟩:=aL I;rfl) (λx=>e (by
    have:gid Y a=gid Y (k+1):=by rw[bQ];exact x
    exact wm m.cpos this))
 refine⟨m.cpos,by rw[fW,v];exact m.size,λb hb x A=>?_,λi x E hi A=>?_,λi hi=>?_,sh,H,mun,λk f By=>?_,λk f=>out k (v▸f),wi,λk f=>fuel k (v▸f),fuel0,C,m.shun,?_,λk f B=>?_,?_,λop I=>?_,λk f B=>?_,λhm=>?_,l.tape.trans m.tape,l.output.trans m.output,m.os.trans l.os,λb hb=>?_,m.rowok,λk f o Q=>?_⟩
 ·rw[v]at hb;by_cases e:b=a
  ·subst e;rw[a8 (by simpa using aH)]at A;obtain rfl:=Option.some.inj A;rw[U];exact sit
  ·have D:gid Y b≠gid Y a:=λx=>e (wm m.cpos x);obtain⟨y,hy,rfl⟩:=xB _ _ D A;rw[T _ D];obtain⟨s1,s2,s3,s4⟩:=same b hb e;exact(m.sit b hb y hy).other (m.oi.rl z hb (Ne.symm e) l S) g g' (by rw[N]) (by rw[O,aT _ _ e]) s1 s2 s3 s4 (eq _ D) (wk b hb e)
 ·have D:i≠gid Y a:=Ma hi E;obtain⟨y,hy,rfl⟩:=xB _ _ D A;have:=m.old i y E hi hy;rw[T _ D,aJ this,eq _ D];exact this
 ·rw[fW]at hi;rw[T _ (by omega)];exact m.above i hi
 ·rw[v]at f;rw[fresh k f];exact m.fresh k f By
 ·have T0:=O7 m z l v N O
  cases a with
  |zero=>exact T0.app0 (C.fam m.shun) (C.shun m.shun) Jj m.cpos (YB C m.shun _ _ J)
  |succ k=>
   rw[bQ];have f:k<G'.j:=by rw[v];exact z
   refine T0.appW (C.fam m.shun) (C.shun m.shun) (by omega) (by omega) (YA f m.cpos ?_ _ _ J);have:=C.num (k+1) f;rwa[bQ]at this
 ·rw[v]at f
  rcases F k f B with h|⟨rfl,rfl,E,_⟩
  ·obtain⟨r,u⟩:=m.rel k f h;exact⟨r,W k f h r u⟩
  ·rw[bQ];exact⟨t.size,RelBy.new E _ _⟩
 ·exact m.norel.app (norel_of (Wg:=Y.Wg) λe Z=>(l.ev e Z).2.1)
 ·rcases Array.mem_append.1 I with h|h
  ·exact MemAct.low_mono l.size (m.low op h)
  ·obtain⟨e,Z,rfl⟩:=aL h;exact(l.ev e Z).2.2
 ·rw[v]at f
  rcases F k f B with FA|⟨_,_,_,hf⟩
  case inr=>exact hf
  refine hF k w w' (λo Q=>?_) (m.fin k f FA);by_cases e:a=k+1
  ·subst e;have K:G.q? (k+1)=true:=by simp[Gh.q?,FA]
   simp only[World.cell?,l.calm K]
  ·refine l.cells o λu=>?_;exact m.oi.rows a (k+1) z f e o u (by rw[m.oi.rowV k f];exact Q)
 ·rcases R hm with L|⟨rfl,rfl,E,K⟩
  case inr=>
   have e1:a6 (gid Y 0) g.frame.fn g.frame.place #[Go.ConcR.mk (.acquire (stA Y.Wg))]=#[{ g:=0,fn:=g.frame.fn,pos:=g.frame.place,act:=.mark (.acquire (stA Y.Wg)) }]:=by rw[ofEvents_eq];simp[iZ];rfl
   refine⟨t.size,?_,?_,⟨0,?_,?_⟩,λk f=>?_⟩
   ·rw[e1];simp[Trace.act?]
   ·rw[e1];simp[Trace.g?]
   ·rw[e1];simp[Trace.g?]
   ·rw[deaf_old (ao _)];exact E
   ·rw[v]at f;have B:G.wp k≠.mu:=by rw[K k f];simp
    obtain⟨r,u⟩:=m.rel k f B;exact⟨r,W k f B r u,lt_of_act? u.act⟩
  obtain⟨p,p1,p2,p3,p4⟩:=m.acq L;have hp:=lt_of_act? p1;refine⟨p,by rw[act?_old hp];exact p1,by rw[g?_old hp];exact p2,(heard_old hp).2 p3,λk f=>?_⟩;rw[v]at f;obtain⟨r,u,hrp⟩:=p4 k f;have hd:=m.wi.done (.inr (.inr L));exact⟨r,W k f (by rw[hd.2.2.2 k f];simp) r u,hrp⟩
 ·rw[l.block b ?_ ?_ ?_ ?_ ?_,m.kept b hb]
  all_goals obtain⟨i1,i2,i3,i4,i5,i6,i7,i8,i9⟩:=m.oi.ids
  ·omega
  ·intro h;have:=m.oi.base a z b h;omega
  ·omega
  ·omega
  ·omega
 ·rw[v]at f;rw[l.cells o λu=>?_]
  ·exact m.un k f o Q
  ·cases a with
   |zero=>rw[m.oi.main]at u;exact u
   |succ i=>
    rw[m.oi.rowV i z]at u;exact m.rowok i k o (by have:i<G.j:=z;omega) u Q
end
end Go.Ph
namespace Go.cD
open Go.ConcN (sumTo upd sumTo_upd upd_ne upd_same sumTo_congr le_sumTo sumTo_le)
section
variable {n:Nat}{s s':St}
def Inv.LY(h:Inv n s):s.ms<=1:=by
 cases hs:s.w.s with
 |false=>
  have:=(h.norm hs).1
  split at this<;>omega
 |true=>have:=(h.star hs).2.2.1;omega
def YE(n:Nat)(w:Wd)(T:Th):wt n w T<=16*n+43:=by
 unfold wt;cases T.pc<;>simp only<;>(repeat' split)<;>omega
def O8(h:s.ms<=1):uh n s<=(16*n+43)*n+(4*n+19):=by
 have a:=sumTo_le (f:=λi=>wt n s.w (s.th i)) (c:=16*n+43) (j:=n) λi _=>YE n s.w (s.th i);have b:(4*n+19)*s.ms<=4*n+19:=by
  have:=Nat.mul_le_mul_left (4*n+19) h;omega
 unfold uh;omega
def O9(h:OY n s' s)(a:s'.ms<=1):nQ n s'*((16*n+43)*n+(4*n+19)+1)+uh n s'<nQ n s*((16*n+43)*n+(4*n+19)+1)+uh n s:=by
 generalize b:(16*n+43)*n+(4*n+19)=K;have c:=O8 (n:=n) a;rw[b]at c
 rcases h with h|⟨d,e⟩
 ·have:(nQ n s'+1)*(K+1)<=nQ n s*(K+1):=Nat.mul_le_mul_right _ h;rw[Nat.add_mul,Nat.one_mul]at this;omega
 ·rw[d];omega
def mU{b:Type}(f:Nat->b)(i:Nat)(x y:b):upd (upd f i x) i y=upd f i y:=by
 funext a;unfold upd
 split<;>rfl
def ja{b:Type}(f:Nat->b)(i:Nat):upd f i (f i)=f:=by
 funext a;unfold upd
 split
 ·rename_i h;rw[h]
 ·rfl
end
end Go.cD
namespace Go.Ph
open Go.Conc Go.ConcN
open Go.ConcM (MuAt muA msA OsLater muBlock)
open Go.ConcR (KK WgAt stA smA rd wr mk)
open Go.cD (Wd Th Mv Head eR spin mU ja)
def YF(n:Nat)(f' f:Nat->Tree):Prop:=∃a,a<n/\Tree.Lt (f' a) (f a)/\∀b,b≠a->f' b=f b
def Jk:∀(n:Nat)(f:Nat->Tree),Acc (YF n) f
 |0,f=>⟨_,λ_ h=>by obtain⟨a,o,_⟩:=h;omega⟩
 |n+1,f=>by
  have key:∀x:Tree,Acc Tree.Lt x->∀f:Nat->Tree,f n=x->Acc (YF (n+1)) f:=by
   intro x p
   induction p with
   |intro x _ c=>
    intro f hf;have inner:∀h:Nat->Tree,Acc (YF n) h->h n=x->Acc (YF (n+1)) h:=by
     intro h r
     induction r with
     |intro h _ i=>
      intro k;refine⟨_,λj s=>?_⟩;obtain⟨a,o,l,m⟩:=s;by_cases e:a=n
      ·subst e;exact c (j a) (k▸l) j rfl
      ·exact i j ⟨a,by omega,l,m⟩ ((m n (Ne.symm e)).trans k)
    exact inner f (Jk n f) hf
  exact key (f n) (Tree.wf.apply _) f rfl
structure Mz where
 a:Nat
 b:Nat
 c:Nat
 f:Nat->Tree
 e:Nat
def ML(n:Nat)(x y:Mz):Prop:=x.a<y.a\/(x.a=y.a/\(x.b<y.b\/(x.b=y.b/\(x.c<y.c\/(x.c=y.c/\(YF n x.f y.f\/(x.f=y.f/\x.e<y.e)))))))
def acT(n:Nat):WellFounded (ML n):=by
 have w1:WellFounded (Prod.Lex (YF n) (· < · : Nat->Nat->Prop)):=(Prod.lex ⟨YF n,⟨Jk n⟩⟩ aB).wf;have w2:=(Prod.lex aB ⟨_,w1⟩).wf;have w3:=(Prod.lex aB ⟨_,w2⟩).wf;have w4:=(Prod.lex aB ⟨_,w3⟩).wf;refine Subrelation.wf (r:=InvImage _ λx:Mz=>(x.a,x.b,x.c,x.f,x.e)) (λ{x y}h=>?_) (InvImage.wf _ w4);obtain⟨a,b,c,f,e⟩:=x;obtain⟨i,b',j,k,l⟩:=y;simp only[ML]at h;show Prod.Lex _ _ (a,b,c,f,e) (i,b',j,k,l)
 rcases h with h|⟨rfl,h⟩
 ·exact .left _ _ h
 ·refine .right _ ?_
  rcases h with h|⟨rfl,h⟩
  ·exact .left _ _ h
  ·refine .right _ ?_
   rcases h with h|⟨rfl,h⟩
   ·exact .left _ _ h
   ·refine .right _ ?_
    rcases h with h|⟨rfl,h⟩
    ·exact .left _ _ h
    ·exact .right _ h
section
variable {Y:CB}{G G':Gh}{gs:Array ab}{w w':World}{t:Trace}{a b d d':Nat}{g g':ab}{es:Array Event}{M':Own}{q:Bool}
def qs(Y:CB)(G:Gh):Nat:=sumTo Y.c (λi=>if i=0 then 0 else G.q i)+sumTo G.j (λk=>if G.wp k=.quit then G.q (Y.c+k) else 0)
def rn:Option ab->Nat
 |some g=>if g.status=.running then 1 else 0
 |none=>0
def awk(Y:CB)(G:Gh)(gs:Array ab):Nat:=sumTo (G.j+1) (λa=>rn gs[gid Y a]?)
def mz(Y:CB)(G:Gh)(gs:Array ab):Mz:=⟨vK Y G,phi Y G,qs Y G,G.tr,awk Y G gs⟩
def Made(Y:CB)(G:Gh)(gs:Array ab)(w:World)(t:Trace)(a:Nat)(g:ab):Prop:=
 ∃g' w' es G',stepG Y.P (gid Y a==0) g w=.go g' w' es/\MI Y G' ((gs.map (woken Y.P g g' w')).setIfInBounds (gid Y a) g') w' (t++a6 (gid Y a) g.frame.fn g.frame.place es)/\
  ML (Y.n+1) (mz Y G' ((gs.map (woken Y.P g g' w')).setIfInBounds (gid Y a) g')) (mz Y G gs)
def fT(m:MI Y G gs w t)(c:a<=G.j):((G.V a).g==0)=(gid Y a==0):=by rw[m.oi.num a c]
def MI.loc(m:MI Y G gs w t)(hF:nG Y)(e:a<=G.j)(hg:gs[gid Y a]?=some g)(n:¬G.gone a){f:World->Tree}(hf:G.tr a=.node f)
 (h:∃g' w' es M' d',stepG Y.P ((G.V a).g==0) g w=.go g' w' es/\Dl Y.toFix (G.V a) (G.q? a) (G.M a) (Deaf t (gid Y a)) w w' es M' d'/\L3 Y.toFix w w'/\g'.status=.running/\jA Y.toFix (G.V a) (G.q? a) (G.um Y a) (f w) M' d' g' w'):Made Y G gs w t a g:=by
 obtain⟨g',w',es,M',d',hs,o,i,p,r⟩:=h;rw[fT m e]at hs;have key:=MI.own (G':={ G with M:=upd G.M a M',tr:=upd G.tr a (f w) }) (g':=g') m hF e hg o rfl rfl rfl (λ_ _=>rfl) (λb hb l=>⟨aT _ _ l,rfl,rfl,Iff.rfl⟩) (λb hb l c=>.inl c) (λk u c=>.inl c) (λs=>.inl s)
  (.run n p (by simp only[aP];exact r)) ⟨by rw[MuAt,i.1];exact m.sh.1,by rw[WgAt,i.2];exact m.sh.2⟩ m.mun (λ_ _=>rfl) m.out ⟨m.wi.v,m.wi.early,m.wi.late,m.wi.le,m.wi.calm,m.wi.w3,m.wi.done,m.wi.nz⟩ m.fuel m.fuel0
 refine⟨g',w',es,_,hs,key,.inr ⟨rfl,.inr ⟨rfl,.inr ⟨rfl,.inl ⟨a,?_,?_,λb hb=>aT _ _ hb⟩⟩⟩⟩⟩
 ·have:=m.wi.le;omega
 ·simp only[mz,aP,hf];exact .sub f w
end
end Go.Ph
namespace Go.Ph
open Go.Conc Go.ConcN
open Go.ConcM (MuAt muA msA OsLater muBlock)
open Go.ConcR (KK WgAt stA smA rd wr)
open Go.cD (Wd Th Mv Head eR spin mU ja)
def Ds(T:Th):cD.fh (eR T)=0/\cD.fq (eR T)=0/\cD.fk (eR T)=0/\cD.fa (eR T)=0/\cD.fr (eR T)=0/\cD.fu (eR T)=0/\cD.fw (eR T)=cD.fw T:=(Head.c2 (T:=T)).counts
def TX{n:Nat}{w:Wd}{T H:Th}(h:Head T H):cD.wt n w H<=cD.wt n w (eR T):=by
 cases h with
 |c2=>exact ao _
 |spin e f i=>
  have c:cD.wt n w (eR T)=4*n+1+(if T.aw then 0 else 4*n+1)+3*(4-T.it)+4+(if T.old=w then 0 else 4):=rfl;rw[c]
  cases hc:(!T.aw && !T.old.w&&T.old.k != 0) with
  |true=>
   have e1:cD.wt n w (cD.spin T)=4*n+1+(if T.aw then 0 else 4*n+1)+3*(4-T.it)+3:=by simp only[cD.wt,cD.spin,hc,if_true]
   rw[e1];omega
  |false=>
   have e1:cD.wt n w (cD.spin T)=4*n+1+(if T.aw then 0 else 4*n+1)+3*(4-T.it)+2:=by simp only[cD.wt,cD.spin,hc,Bool.false_eq_true,if_false]
   rw[e1];omega
def TY{n:Nat}{s:cD.St}{i:Nat}{T T':Th}(h:cD.Inv n s)(hi:i<n)(c:s.th i=T)(hA:Alt T T') :
 cD.Inv n ⟨upd s.th i T',s.w,s.ms⟩/\cD.nQ n ⟨upd s.th i T',s.w,s.ms⟩=cD.nQ n s/\cD.uh n ⟨upd s.th i T',s.w,s.ms⟩<=cD.uh n s:=by
 have f:=h.tok i hi;have e1:=a5 s.th T' cD.am hi;have o:=a5 s.th T' (cD.wt n s.w) hi
 cases hA with
 |refl=>subst c;rw[ja];exact⟨h,rfl,ao _⟩
 |head l _ k m=>
  rw[c]at f e1 o;obtain⟨c1,p,c3,u,v,y,z⟩:=k.counts;obtain⟨k1,k2,k3,A,B,C,D⟩:=Ds l;refine⟨cD.fX h hi (k.tok (f.r (by simp[eR])) (f.sv (.inr (.inr (.inl rfl)))) f.Yv f.old m) ?_ ?_ ?_ ?_ ?_ ?_ ?_,?_,?_⟩
  ·rw[c,c1,k1]
  ·rw[c,p,k2]
  ·rw[c,c3,k3]
  ·rw[c,u,A]
  ·rw[c,v,B]
  ·rw[c,y,C]
  ·rw[c,z,D]
  ·have:cD.am T'=cD.am (eR l):=by rw[k.am,(Head.c2 (T:=l)).am]
   unfold cD.nQ;simp only;omega
  ·have:=TX (n:=n) (w:=s.w) k;unfold cD.uh;simp only;omega
 |r2 _ b j hb=>
  rw[c]at f e1 o
  have m:T.aw=false:=by cases e:T.aw with|false=>rfl|true=>rcases f.aw e with x|x|x<;>rw[j]at x<;>cases x
  refine⟨cD.fX h hi ?_ ?_ ?_ ?_ ?_ ?_ ?_ ?_,?_,?_⟩
  ·exact cD.dg m (by simp[j]) (by simp[j]) (by simp[j]) (by simp[j]) (by simp[j]) f.old (λ_=>f.r (by simp[j])) (by simp[j]) f.Yv
  all_goals first
   |(simp[c,cD.fh,cD.fq,cD.fk,cD.fa,cD.fr,cD.fw,cD.fu];done)
   |(have:cD.am { T with sv:=b }=cD.am T:=by simp[cD.am]
     unfold cD.nQ;simp only;omega)
   |(have:cD.wt n s.w { T with sv:=b }=cD.wt n s.w T:=by simp[cD.wt,j]
     unfold cD.uh;simp only;omega)
def TZ{w w':Wd}{ms ms':Nat}{T T':Th}(h:Mv w ms T T' w' ms'):ms'<=ms\/T.pc=.us:=by
 cases h<;>first|exact .inl (ao _)|exact .inl (Nat.sub_le _ _)|exact .inr (by assumption)
def YG{T T':Th}(h:Alt T T')(c:T'.pc=.s1):T'=T:=by
 cases h with
 |refl=>rfl
 |head j _ f _=>rcases f.pc with e|e|e<;>rw[e]at c<;>cases c
 |r2 _ _ i _=>simp at c;rw[i]at c;cases c
section
variable {Y:CB}{G G':Gh}{gs:Array ab}{w w':World}{t:Trace}{a b d d':Nat}{g g':ab}{es:Array Event}{M':Own}{q:Bool}
def MI.mutex(m:MI Y G gs w t)(hF:nG Y){k:Nat}(h:k<G.j)(hg:gs[gid Y (k+1)]?=some g)(o:G.wp k=.mu)(z:(G.th k).pc≠.out)
 (f:eU Y.toFix (G.V (k+1)) (Y.Fin k) (G.fu (k+1)) (G.th k) (G.M (k+1)) (Deaf t (gid Y (k+1))) g w) (A:¬((G.th k).pc=.s1/\G.s.ms=0)):Made Y G gs w t (k+1) g:=by
 unfold eU at f;rw[if_neg z]at f;obtain⟨B,hA,f⟩:=f;have C:k<Y.n:=aF h m.wi.le;obtain⟨p,R,i3⟩:=TY (s:=oD G) m.mun C rfl hA;have S:=m.fuel k h;obtain⟨r,D⟩:∃r,G.fu (k+1)=r+1:=⟨G.fu (k+1)-1,by omega⟩
 rw[D]at f;obtain⟨h1,h2,U,W⟩:=f;have J:=p.safe C;simp only[aP]at J;obtain⟨_,X⟩:=W G.s m.sh J p.small p.LY;have E:¬(B.pc=.s1/\G.s.ms=0):=fun⟨x,y⟩=>A ⟨by rw[<-YG hA x];exact x,y⟩;obtain⟨K,L,i,g',w',es,M',d',l,hs,Z,hD,N,O,YH⟩:=X E;rw[fT m (show k+1<=G.j from h)]at hs;obtain⟨F,P⟩:=p.move C (T:=B) (by simp only[aP]) l;simp only[mU]at F P;have Q:=cD.O9 P F.LY;have GG:phi Y { G with th:=upd G.th k K,M:=upd G.M (k+1) M',tr:=upd G.tr (k+1) O,fu:=upd G.fu (k+1) r,s:=⟨L,i,G.s.v,G.s.wt,G.s.ws⟩ }<phi Y G:=by
  have H:cD.nQ Y.n ⟨upd (oD G).th k B,(oD G).w,(oD G).ms⟩=cD.nQ Y.n (oD G):=R;rw[H]at Q;unfold phi muK;refine aF Q ?_;omega
 have hq:G.q? (k+1)=false:=by simp[Gh.q?,o]
 have key:=MI.own (G':={ G with th:=upd G.th k K,M:=upd G.M (k+1) M',tr:=upd G.tr (k+1) O,fu:=upd G.fu (k+1) r,s:=⟨L,i,G.s.v,G.s.wt,G.s.ws⟩ }) (g':=g') m hF (show k+1<=G.j from h) hg (by rw[hq];exact hD) rfl rfl rfl (λ_ _=>rfl)
  (λb hb I=>⟨aT _ _ I,by
    cases b with
    |zero=>simp only[Gh.um];rw[aT _ _ (by omega)]
    |succ b=>simp only[Gh.um];rw[aT _ _ I,aT _ _ (by omega)],rfl,Iff.rfl⟩)
  (λb hb I c=>by
    cases b with
    |zero=>exact .inl c
    |succ b=>
     obtain⟨x1,x2,x3⟩:=c
     rcases TZ l with e|e
     ·exact .inl ⟨x1,by simp only;rw[aT _ _ (by omega)];exact x2,by simp only;omega⟩
     ·exact .inr ⟨U e,N⟩)
  (λk h c=>.inl c) (λhm=>.inl hm)
  (.run (by simp[Gh.gone,o]) N (by simp only[Gh.q?,Gh.um,o,aP,ne_eq,not_true_eq_false,decide_false];exact YH)) Z F (λk' u=>aT _ _ (by omega))
  (λk' u c=>by
    have:k'≠k:=λe=>c (by rw[e];exact o)
    simp only;rw[aT _ _ this];exact m.out k' u c)
  ⟨m.wi.v,m.wi.early,m.wi.late,m.wi.le,m.wi.calm,m.wi.w3,m.wi.done,m.wi.nz⟩
  (λk' u=>by
    by_cases e:k'=k
    ·subst e;simp only[aP];omega
    ·simp only;rw[aT _ _ (by omega)];have:=m.fuel k' u;omega)
  (by simp only;rw[aT _ _ (by omega)];exact m.fuel0)
 exact⟨g',w',es,_,hs,key,.inr ⟨rfl,.inl GG⟩⟩
def MI.block(m:MI Y G gs w t)(hF:nG Y)(p:a<=G.j)(hg:gs[gid Y a]?=some g)(r:¬G.gone a)(n:g.status=.running)(f:g.offers=none)(e:G.waits a)
 (s:jA Y.toFix (G.V a) (G.q? a) (G.um Y a) (G.tr a) (G.M a) (Deaf t (gid Y a)) g w) (hs:stepG Y.P (gid Y a==0) g w=.go { g with status:=.blocked } w #[]):Made Y G gs w t a g:=by
 have u:Dl Y.toFix (G.V a) (G.q? a) (G.M a) (Deaf t (gid Y a)) w w #[] (G.M a) (Deaf t (gid Y a)):=
  ⟨rfl,rfl,.refl _,ao _,λ_ _ _ _ _ _=>rfl,λc h=>⟨c,h,rfl⟩,λ_ _=>rfl,λ_=>rfl,λb=>⟨.inl,λh=>h.resolve_right λx=>by omega⟩,by simp,by simp,rfl⟩
 have v:G.M=upd G.M a (G.M a):=(ja _ _).symm;have key:=MI.own (G':=G) (g':={ g with status:=.blocked }) m hF p hg u rfl rfl v (λ_ _=>rfl) (λb hb y=>⟨rfl,rfl,rfl,Iff.rfl⟩) (λb hb y e=>.inl e) (λk C e=>.inl e) (λz=>.inl z)
  (.wait g r rfl n f e s) m.sh m.mun (λ_ _=>rfl) m.out m.wi m.fuel m.fuel0
 refine⟨_,_,_,G,hs,key,.inr ⟨rfl,.inr ⟨rfl,.inr ⟨rfl,.inr ⟨rfl,?_⟩⟩⟩⟩⟩;have l:gs.map (woken Y.P g { g with status:=.blocked } w)=gs:=by
  have:woken Y.P g { g with status:=.blocked } w=id:=by funext o;exact Go.ConcM.woken_by_blocked rfl
  rw[this,Array.map_id]
 show awk Y G _<awk Y G gs;rw[l];unfold awk;have A:gid Y a<gs.size:=(Array.getElem?_eq_some_iff.1 hg).1;have B:sumTo (G.j+1) (λb=>rn (gs.setIfInBounds (gid Y a) { g with status:=.blocked })[gid Y b]?)=sumTo (G.j+1) (λb=>upd (λa=>rn gs[gid Y a]?) a 0 b):=by
  refine sumTo_congr λb _=>?_;by_cases h:b=a
  ·subst h;rw[aP,a8 A];rfl
  ·rw[aT _ _ h,a7 λx=>h (wm m.cpos x.symm)]
 rw[B];have D:sumTo (G.j+1) (λb=>upd (λa=>rn gs[gid Y a]?) a 0 b)+rn (some g)=sumTo (G.j+1) (λa=>rn gs[gid Y a]?)+0:=by
  have:=a5 (j:=G.j+1) (i:=a) (λa=>rn gs[gid Y a]?) 0 id (by omega);simpa only[id,hg]using this
 have E:rn (some g)=1:=by simp[rn,n]
 omega
end
end Go.Ph
