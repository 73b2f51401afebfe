/- Part of the proof of FieldLevels: see X45. -/
import Derived.Test.YtmkjeaacgibnoaaGreatX16
set_option linter.all false
open Go renaming Goroutine->aa,setCell_eq_setRow->ab,setRow_heap->ac,deafBehind->ae,asAddr->ag,events_load->ai,events_store->ao
open Go.ConcR renaming wgBlock->ap,wgBlock->aq
open Go.World renaming cell?->ar
open Go.Conc renaming aside_setCell->aF,semEvents->aH,casT_eq->aI,semEvents_sync->aJ
open Go.MemAct renaming ofEvent->aL
open Go.Extern.Atomic renaming update->aP,loadT->aT,read->a5,storeT->a6,none_->a7,casT->a8
open Go.Result renaming andThen->a9,evThen->ba
open Go.Extern.Sync renaming semacquire->bb,count->bc,none_->bd,semrelease->bg
open Option.some renaming injEq->bi
open Prod.mk renaming injEq->bj
namespace Go.Ph
open Go.Conc Go.ConcN Go.RowKit
open Go.ConcM (MuAt muA msA OsLater muBlock)
open Go.ConcR (KK WgAt stA smA rd wr mk wgBlock)
open Go.cD (Wd)
section
variable {X:Fix}{V:Vw}{q:Bool}{M:Own}{d:Nat}{g:aa}{w w':World}{es:Array Event}{s s':Sh}{mn:Bool}{f:FuncId}{nr:Bool}{P:Program}
def vP(v wt:Nat):Int:=(v:Int)*KK+(wt:Int)
def er(h:ShAt X w s):w.cell? (stA X.Wg)=some (.int .u64 (vP s.v s.wt)):=by have:=h.2;unfold WgAt ap at this;simp[ar,stA,this,vP]
def vn(h:ShAt X w s):w.cell? (smA X.Wg)=some (.int .u32 (s.ws:Int)):=by have:=h.2;unfold WgAt ap at this;simp[ar,smA,this]
def fM(h:ShAt X w s)(off:Nat):w.frozen? ⟨X.Wg,off,none⟩=false:=by have:=h.2;unfold WgAt ap at this;simp[World.frozen?,this]
def ShAt.setWg(hi:WO X)(h:ShAt X w s)(v wt:Nat):ShAt X (w.setCell (stA X.Wg) (.int .u64 (vP v wt))) { s with v:=v,wt:=wt }:=
 ⟨((aF w (stA X.Wg) _).block X.Mu hi.mw).trans h.1,by
   have:=h.2;unfold WgAt ap at this⊢;rw[stA,ab w X.Wg 0 _ _ (0,0) _ this,ac w X.Wg _ _ _ _ this]
   simp[vP]⟩
def ShAt.setWs(hi:WO X)(h:ShAt X w s)(n:Nat):ShAt X (w.setCell (smA X.Wg) (.int .u32 (n:Int))) { s with ws:=n }:=
 ⟨((aF w (smA X.Wg) _).block X.Mu hi.mw).trans h.1,by
   have:=h.2;unfold WgAt ap at this⊢;rw[smA,ab w X.Wg 1 _ _ (0,0) _ this,ac w X.Wg _ _ _ _ this]
   simp⟩
def uz(hc:Clear X V M){a:Addr}(i:a.block=X.Mu\/a.block=X.Wg)(v:Value)(k:ShAt X (w.setCell a v) s'):Rl X V M w (w.setCell a v)/\
 ∀d es,(∀e∈es,jG X V M w.heap.size e)->(q=true->∀j e,es[j]?=some e->(aL e).touch? = none\/((∃ad wr,e=⟨.cell ad,wr,true⟩)/\0<ae d (es.extract 0 j)))->Dl X V q M d w (w.setCell a v) es M (ae d es):=by
 have A:=aF w a v;have hb:∀b,b≠X.Mu->b≠X.Wg->(w.setCell a v).heap[b]?=w.heap[b]?:=λb n o=>A.block b (by rcases i with h|h<;>rw[h]<;>assumption);have c:OsLater w.os (w.setCell a v).os:=by rw[A.os];exact .refl _
 exact⟨BN hc A.tape A.output c A.size hb (Au k (hb _ hc.ids.mt.symm hc.ids.wt.symm)),λd es l m=>jI hc.ids A.tape A.output c A.size hb (by rw[A.size];exact l) m⟩
def Xb{ad:Addr}{wr:Bool}{j:Nat}{e:Event}(d:Nat)(h:(#[⟨.cell ad,wr,true⟩]:Array Event)[j]?=some e):(aL e).touch? = none\/((∃ad wr,e=⟨.cell ad,wr,true⟩)/\0<ae (d+1) ((#[⟨.cell ad,wr,true⟩]:Array Event).extract 0 j)):=by
 match j,h with
 |0,h=>exact .inr ⟨⟨ad,wr,by simpa using h.symm⟩,by simp[ae]⟩
 |j+1,h=>simp at h
def ae6{ad:Addr}{j:Nat}{e:Event}(d:Nat)(h:(#[⟨.cell ad,false,true⟩,⟨.cell ad,true,true⟩]:Array Event)[j]?=some e):(aL e).touch? = none\/((∃ad wr,e=⟨.cell ad,wr,true⟩)/\0<ae (d+1) ((#[⟨.cell ad,false,true⟩,⟨.cell ad,true,true⟩]:Array Event).extract 0 j)):=by
 match j,h with
 |0,h=>exact .inr ⟨⟨ad,false,by simpa using h.symm⟩,by simp[ae]⟩
 |1,h=>exact .inr ⟨⟨ad,true,by simpa using h.symm⟩,by simp[ae]⟩
 |j+2,h=>simp at h
def ae7{ad:Addr}{j:Nat}{e:Event}(d:Nat)(h:(aH ad)[j]?=some e):(aL e).touch? = none\/((∃ad wr,e=⟨.cell ad,wr,true⟩)/\0<ae (d+1) ((aH ad).extract 0 j)):=by
 unfold aH at h⊢
 match j,h with
 |0,h=>exact .inl (by simp at h;subst h;rfl)
 |1,h=>exact .inr ⟨⟨ad,false,by simpa using h.symm⟩,by simp[ae]⟩
 |2,h=>exact .inr ⟨⟨ad,true,by simpa using h.symm⟩,by simp[ae]⟩
 |3,h=>exact .inl (by simp at h;subst h;rfl)
 |j+4,h=>simp at h
def xP{n:Int}{v wt:Nat}(c:az g=some (f,#[.pointer (some ⟨X.Wg,0,none⟩),.int .u64 n]))(hb:cw P f nr (aP (Op.intArith .add) .u64 true))(a:ShAt X w s)(e:IntKind.u64.wrap (vP s.v s.wt+n)=vP v wt) :
 stepG P mn g w=.go (fin g (.int .u64 (vP v wt))) (w.setCell (stA X.Wg) (.int .u64 (vP v wt))) #[⟨.cell (stA X.Wg),false,true⟩,⟨.cell (stA X.Wg),true,true⟩]:=by
 have b:=run_add_entry (P:=P) (d:=n) (er a) (fM a 0);have h:=λes=>events_add_entry (P:=P) (d:=n) (er a) (fM a 0) es;rw[e]at b;exact hb.step c b ((h _).trans rfl) (sync_rw _)
def oV(a:az g=some (f,#[.pointer (some ⟨X.Wg,0,none⟩)]))(hb:cw P f nr (aT (.int .u64)))(b:ShAt X w s) :
 stepG P mn g w=.go (fin g (.int .u64 (vP s.v s.wt))) w #[⟨.cell (stA X.Wg),false,true⟩]:=by
 have hc:w.cell? ⟨X.Wg,0,none⟩=_:=er b;refine hb.step a ?_ ?_ (sync_r _)
 ·change Sem.run P (do a5 (.int .u64) (<-ag (.pointer (some ⟨X.Wg,0,none⟩)))) w=_;simp[a5,ag,hc]
 ·change Sem.events P (do a5 (.int .u64) (<-ag (.pointer (some ⟨X.Wg,0,none⟩)))) w _=_;simp[a5,ag,hc,ai,stA]
def B6{n:Int}(e:az g=some (f,#[.pointer (some ⟨X.Wg,0,none⟩),.int .u64 n]))(hb:cw P f nr a6)(a:ShAt X w s) :
 stepG P mn g w=.go (fin g (.tuple #[])) (w.setCell (stA X.Wg) (.int .u64 n)) #[⟨.cell (stA X.Wg),true,true⟩]:=by
 have hc:w.cell? ⟨X.Wg,0,none⟩=_:=er a;have b:=fM a 0;refine hb.step e ?_ ?_ (by intro x c;simp at c;subst c;exact⟨rfl,λg h=>by cases h⟩)
 ·change Sem.run P (do
   store (<-ag (.pointer (some ⟨X.Wg,0,none⟩))) (.int .u64 n) .atomic
   pure a7) w=_
  simp[ag,hc,b,run_store P w ⟨X.Wg,0,none⟩ (.int .u64 n) .atomic rfl,stA,a9,a7]
 ·change Sem.events P (do
   store (<-ag (.pointer (some ⟨X.Wg,0,none⟩))) (.int .u64 n) .atomic
   pure a7) w _=_
  simp[ag,hc,b,ao P w _ ⟨X.Wg,0,none⟩ (.int .u64 n) .atomic rfl,stA]
def G9{o n:Int}{v wt:Nat}(b:az g=some (f,#[.pointer (some ⟨X.Wg,0,none⟩),.int .u64 o,.int .u64 n]))(hb:cw P f nr (a8 (.int .u64)))(a:ShAt X w s)(h:n=vP v wt) :
 if vP s.v s.wt=o then stepG P mn g w=.go (fin g (.bool true)) (w.setCell (stA X.Wg) (.int .u64 (vP v wt))) #[⟨.cell (stA X.Wg),false,true⟩,⟨.cell (stA X.Wg),true,true⟩]
 else stepG P mn g w=.go (fin g (.bool false)) w #[⟨.cell (stA X.Wg),false,true⟩]:=by
 subst h
 split
 ·rename_i e;subst e;exact hb.step b (by rw[aI];exact run_cas_hit_entry (er a) (fM a 0)) (by rw[aI];exact(events_cas_hit_entry (er a) (fM a 0) _).trans rfl) (sync_rw _)
 ·rename_i c;exact hb.step b (by rw[aI];exact run_cas_miss_entry (er a) (fM a 0) c) (by rw[aI];exact(events_cas_miss_entry (er a) (fM a 0) c _).trans rfl) (sync_r _)
def He{args:Array Value}(c:az g=some (f,args))(b:args[0]?=some (.pointer (some ⟨X.Wg,1,none⟩)))(hb:cw P f nr bb)(h:ShAt X w s) :
 if s.ws=0 then stepG P mn g w=.go { g with status:=.blocked } w #[] else stepG P mn g w=.go (fin g (.tuple #[])) (w.setCell (smA X.Wg) (.int .u32 ((s.ws-1:Nat):Int))) (aH (smA X.Wg)):=by
 have hc:=vn h;have i:=fM h 1;unfold smA at hc
 split
 ·rename_i a;rw[a]at hc;exact hb.blocked c (by simp[bb,bc,b,hc])
 ·rename_i a;have e:((s.ws:Nat):Int)-1=((s.ws-1:Nat):Int):=by omega
  rw[<-e];exact hb.step c (by simp[bb,bc,b,hc,a,i,smA,bd,run_store P w ⟨X.Wg,1,none⟩ (.int .u32 ((s.ws:Int)-1)) .atomic rfl,a9])
   (by simp[bb,bc,b,hc,a,i,smA,aH,ai,ao P w _ ⟨X.Wg,1,none⟩ (.int .u32 ((s.ws:Int)-1)) .atomic rfl,run_store P w ⟨X.Wg,1,none⟩ (.int .u32 ((s.ws:Int)-1)) .atomic rfl,ba]) (aJ _)
def Hf{args:Array Value}(h:az g=some (f,args))(a:args[0]?=some (.pointer (some ⟨X.Wg,1,none⟩)))(hb:cw P f nr bg)(b:ShAt X w s)(i:s.ws=0) :
 stepG P mn g w=.go (fin g (.tuple #[])) (w.setCell (smA X.Wg) (.int .u32 ((1:Nat):Int))) (aH (smA X.Wg)):=by
 have hc:=vn b;have c:=fM b 1;unfold smA at hc;rw[i]at hc;have e:IntKind.u32.wrap (((0:Nat):Int)+1)=((1:Nat):Int):=by decide
 rw[<-e];exact hb.step h (by simp[bg,bc,a,hc,c,smA,bd,Op.intArith,run_store P w ⟨X.Wg,1,none⟩ (.int .u32 (IntKind.u32.wrap 1)) .atomic rfl,a9])
  (by simp[bg,bc,a,hc,c,smA,aH,Op.intArith,ai,ao P w _ ⟨X.Wg,1,none⟩ (.int .u32 (IntKind.u32.wrap 1)) .atomic rfl,run_store P w ⟨X.Wg,1,none⟩ (.int .u32 (IntKind.u32.wrap 1)) .atomic rfl,ba]) (aJ _)
end
end Go.Ph
namespace Go.Proofs
open Go.Ph Go.Conc Go.ConcN
open Go.ConcM (MuAt muA msA OsLater muBlock)
open Go.ConcR (KK WgAt stA smA rd wr mk)
set_option maxRecDepth 100000
structure Gk(X:Fix)(V:Vw)(M:Own)(F:World->Prop)(mn:Bool):Prop where
 hP:X.P=PP
 hg:(V.g==0)=mn
 hc:Clear X V M
 hF:∀w w',F w->Rl X V M w w'->F w'
 hL:∀w,F w->Live X w
 hn:X.n<=3
def sM{g:aa}{s d:TypeId}{v:Value}(h:gu g=some (s,d,v)):∃o x,bF g=some o/\o.op=.convert s d x/\g.frame.eval x=v:=by
 unfold gu at h
 split at h
 ·rename_i o a
  split at h
  ·rename_i c e x b;simp only[bi,bj]at h;obtain⟨rfl,rfl,rfl⟩:=h;exact⟨o,x,a,b,rfl⟩
  ·cases h
 ·cases h
def vo{g:aa}{f:FuncId}{v:Value}(h:gZ g=some (f,some v)):∃args,az g=some (f,args)/\args[0]?=some v:=by
 unfold gZ at h
 cases hc:az g with
 |none=>rw[hc]at h;cases h
 |some x=>
  obtain⟨a,args⟩:=x;rw[hc]at h;simp only[Option.map_some,bi,bj]at h;obtain⟨rfl,h⟩:=h;exact⟨args,rfl,h⟩
section
variable {X:Fix}{V:Vw}{M:Own}{F:World->Prop}{Fin:World->Prop}{Stop:Stp}{d:Nat}{g g':aa}{w:World}{q mn:Bool}
def Gk.aB(L:Gk X V M F mn)(h:fL mn g g')(a:ay X V q Stop M d g' w):ay X V q Stop M d g w:=h.run L.hP L.hg a
def Gk.sG(L:Gk X V M F mn)(a:az g=some (161,#[]))(b:ay X V q Stop M (d+1) (fin g (.tuple #[])) w):ay X V q Stop M d g w:=
 .Jo (m:=.disable) L.hc a (by rw[L.hP];exact adr) rfl b
def Gk.en(L:Gk X V M F mn)(a:az g=some (162,#[]))(b:ay X V q Stop M d (fin g (.tuple #[])) w):ay X V q Stop M (d+1) g w:=
 .Jo (m:=.enable) L.hc a (by rw[L.hP];exact ads) rfl b
def Gk.idle(L:Gk X V M F mn)(a:az g=some (163,#[]))(b:ay X V q Stop M d (fin g (.bool false)) w):ay X V q Stop M d g w:=
 ay.idle L.hc (aj a).1 λc _=>⟨_,c,#[],(by rw[L.hP];exact ajo:cw X.P 163 false _).step (v:=.bool false) a (by simp) (by simp) (by simp),rfl,rfl,.refl _,rfl,by simp,(aj a).2.2 _,b⟩
def Gk.low(L:Gk X V M F mn)(a:F w):X.Wg<w.heap.size:=by
 obtain⟨_,⟨_,_,k⟩,_⟩:=L.hL _ a;unfold WgAt at k;exact(Array.getElem?_eq_some_iff.1 k).1
def Gk.conv(L:Gk X V M F mn)(a:gu g=some (214,216,pt X.Wg))(b:F w)(c:ay X V q Stop M d (fin g (pt X.Wg)) w):ay X V q Stop M d g w:=by
 obtain⟨o,x,e,f,h⟩:=sM a
 exact .conv L.hc e f h (by rw[L.hP];exact u214) (by rw[L.hP];exact u216) (by rw[L.hP];exact ajx) (λi r=>by
  obtain⟨_,⟨_,_,k⟩,_⟩:=L.hL _ (L.hF _ _ b r);unfold WgAt aq at k
  exact⟨_,by simp[ar,k];rfl⟩) c
def Gk.Xc(L:Gk X V M F mn)(a:gu g=some (222,216,.pointer (some ⟨X.Wg,1,none⟩)))(b:F w)(c:ay X V q Stop M d (fin g (.pointer (some ⟨X.Wg,1,none⟩))) w):ay X V q Stop M d g w:=by
 obtain⟨o,x,e,f,h⟩:=sM a;obtain⟨t,k1,k2⟩:=u222
 exact .conv L.hc e f h (by rw[L.hP];exact k1) (by rw[L.hP];exact u216) (by rw[L.hP];exact k2) (λi r=>by
  obtain⟨_,⟨_,_,k⟩,_⟩:=L.hL _ (L.hF _ _ b r);unfold WgAt aq at k
  exact⟨_,by simp[ar,k];rfl⟩) c
def PS(L:Gk X V M F mn)(h:X.Wg<w.heap.size):∀e∈(#[⟨.cell (stA X.Wg),false,true⟩,⟨.cell (stA X.Wg),true,true⟩]:Array Event),jG X V M w.heap.size e:=by
 have:=L.hP;intro e a;simp at a
 rcases a with rfl|rfl<;>exact eo (.inr rfl) h
def xQ(L:Gk X V M F mn)(h:X.Wg<w.heap.size)(wr:Bool):∀e∈(#[⟨.cell (stA X.Wg),wr,true⟩]:Array Event),jG X V M w.heap.size e:=by
 have:=L.hP;intro e a;simp at a;subst a;exact eo (.inr rfl) h
def PT(L:Gk X V M F mn)(h:X.Wg<w.heap.size):∀e∈aH (smA X.Wg),jG X V M w.heap.size e:=by
 have:=L.hP;intro e a;simp[aH]at a
 rcases a with rfl|rfl|rfl|rfl
 ·exact lX rfl
 ·exact eo (.inr rfl) h
 ·exact eo (.inr rfl) h
 ·exact lX rfl
def MF(L:Gk X V M F false)(u:∀w,F w->Fin w)(a:Array Value)(b:List Item)(k:F w):ay X V false (O0 X V Fin) M 0 (dE X.Wg a b) w:=by
 have x:∀w,F w->ay X V true (AtD4 X V) M 1 (d7 X.Wg a b) w:=λw k=>.stop λn r=>by
  obtain⟨args,c,y⟩:=vo (aiU X.Wg a b);refine⟨(aj c).1,(aj c).2.1,λ_=>by rw[L.hP];exact aiV X.Wg a b,λs f m=>?_⟩;have l:=f.setWs L.hc.ids 1;obtain⟨o,p⟩:=uz (q:=true) L.hc (.inr rfl) _ l;exact⟨_,_,_,M,1,Hf c y (by rw[L.hP];exact ajr:cw X.P 172 true _) f m.2.2,l,p 1 _ (PT L (lC f)) (λ_ j e h=>ae7 0 h),(aj c).2.2 _,400,by rw[L.hP];exact ajn X.Wg a b⟩
 have z:∀w,F w->ay X V true (AtD3 X V) M 1 (d6 X.Wg a b) w:=λw k=>.stop λn r=>by
  have c:=aiT X.Wg a b;refine⟨(aj c).1,(aj c).2.1,λh=>(by cases h),λs f m=>?_⟩;have l:=f.setWg L.hc.ids 0 0;have e:({ s with v:=0,wt:=0 }:Sh)={ s with wt:=0 }:=by rw[<-m.1]
  have st:=B6 (mn:=V.g==0) c (by rw[L.hP];exact ajt:cw X.P 185 true _) f;obtain⟨o,p⟩:=uz (q:=true) L.hc (.inr rfl) _ l;rw[e]at l;exact⟨_,_,_,M,1,st,l,p 1 _ (xQ L (lC f) true) (λ_ j e h=>Xb 0 h),(aj c).2.2 _,L.aB (d_6 X.Wg a b) (x _ (L.hF _ _ (L.hF _ _ k r) o))⟩
 have A:∀w,F w->ay X V true (AtD2 X V) M 1 (d5 X.Wg a b) w:=λw k=>.stop λn r=>by
  have c:=aiS X.Wg a b;refine⟨(aj c).1,(aj c).2.1,λh=>(by cases h),λs f m=>?_⟩;have st:=oV (mn:=V.g==0) c (by rw[L.hP];exact Zl:cw X.P 184 true _) f;have e:vP s.v s.wt=1:=by rw[m.1,m.2.1];rfl
  rw[e]at st;exact⟨_,n,_,M,1,st,f,jI L.hc.ids rfl rfl (.refl _) rfl (λ_ _ _=>rfl) (xQ L (lC f) false) (λ_ j e h=>Xb 0 h),(aj c).2.2 _,L.aB (d_5 X.Wg a b) (z _ (L.hF _ _ k r))⟩
 have B:∀w,F w->ay X V true (AtD1 X V) M 1 (d4 X.Wg a b) w:=λw k=>.stop λn r=>by
  have c:=aiR X.Wg a b;refine⟨(aj c).1,(aj c).2.1,λh=>(by cases h),λs f m=>?_⟩;obtain⟨D,E,H,I⟩:=m;have J:=L.hn;have C:IntKind.u64.wrap (vP s.v s.wt+18446744069414584320)=vP (s.v-1) s.wt:=by
   obtain h|h|h:s.v=1\/s.v=2\/s.v=3:=by omega
   all_goals
    obtain i|i:s.wt=0\/s.wt=1:=by omega
    all_goals (rw[h,i];decide)
  have l:=f.setWg L.hc.ids (s.v-1) s.wt;have st:=xP (mn:=V.g==0) c (by rw[L.hP];exact ae4:cw X.P 183 true _) f C;obtain⟨o,p⟩:=uz (q:=true) L.hc (.inr rfl) _ l;refine⟨_,_,_,M,1,st,l,p 1 _ (PS L (lC f)) (λ_ j e h=>ae6 0 h),(aj c).2.2 _,?_⟩;by_cases hv:s.v=1/\s.wt=1
  ·simp only[hv,and_self,if_true];rw[show vP (1-1) 1=1 from rfl];exact L.aB (d_4 X.Wg a b) (A _ (by rw[hv.1,hv.2]at o;exact L.hF _ _ (L.hF _ _ k r) o))
  ·simp only[if_neg hv];refine⟨400,?_⟩;rw[L.hP];obtain h|h|h:s.v=1\/s.v=2\/s.v=3:=by omega
   ·obtain i:s.wt=0:=by omega
    rw[h,i];exact adZ X.Wg a b
   ·obtain i|i:s.wt=0\/s.wt=1:=by omega
    ·rw[h,i];exact ae0 X.Wg a b
    ·rw[h,i];exact ae1 X.Wg a b
   ·obtain i|i:s.wt=0\/s.wt=1:=by omega
    ·rw[h,i];exact ae2 X.Wg a b
    ·rw[h,i];exact ae3 X.Wg a b
 refine L.aB (d_E X.Wg a b) (L.conv (aiN X.Wg a b) k (L.aB (d_0 X.Wg a b) (.stop λn r=>?_)));have c:=aiO X.Wg a b;have t:=L.hF _ _ k r;refine⟨(aj c).1,rfl,u _ t,_,kM (mk':=.releaseMerge) (ad:=⟨X.Wg,0,none⟩) c (by rw[L.hP];exact adt:cw X.P 160 false _) (λ_ _ h=>by cases h) rfl,(aj c).2.2 _,?_⟩;exact L.aB (d_1 X.Wg a b) (L.sG (aiP X.Wg a b) (L.aB (d_2 X.Wg a b) (L.idle (aiQ X.Wg a b) (L.aB (d_3 X.Wg a b) (B _ t)))))
end
open Go.cD (Wd Th Mv Safe Head eR spin qZ)
structure Lk(X:Fix)(V:Vw)(M:Own)(F:World->Prop):Prop where
 hP:X.P=PP
 hg:(V.g==0)=false
 hc:Clear X V M
 hF:∀w w',F w->Rl X V M w w'->F w'
 hL:∀w,F w->Live X w
 hn:X.n<=3
def kO{g:aa}{t:TypeId}{v:Value}(h:fj g=some (t,v)):∃o x,bF g=some o/\o.op=.load t x/\g.frame.eval x=v:=by
 unfold fj at h
 split at h
 ·rename_i o a
  split at h
  ·rename_i c x b;simp only[bi,bj]at h;obtain⟨rfl,rfl⟩:=h;exact⟨o,x,a,b,rfl⟩
  ·cases h
 ·cases h
def D6{g:aa}{s d:TypeId}{v:Value}(h:gu g=some (s,d,v)):∃o x,bF g=some o/\o.op=.convert s d x/\g.frame.eval x=v:=by
 unfold gu at h
 split at h
 ·rename_i o a
  split at h
  ·rename_i c e x b;simp only[bi,bj]at h;obtain⟨rfl,rfl,rfl⟩:=h;exact⟨o,x,a,b,rfl⟩
  ·cases h
 ·cases h
def xR{g:aa}{f:FuncId}{v:Value}(h:gZ g=some (f,some v)):∃args,az g=some (f,args)/\args[0]?=some v:=by
 unfold gZ at h
 cases hc:az g with
 |none=>rw[hc]at h;cases h
 |some x=>
  obtain⟨a,args⟩:=x;rw[hc]at h;simp only[Option.map_some,bi,bj]at h;obtain⟨rfl,h⟩:=h;exact⟨args,rfl,h⟩
section
variable {X:Fix}{V:Vw}{M:Own}{F:World->Prop}{Fin:World->Prop}{Stop:Stp}{d:Nat}{g g':aa}{w:World}{q:Bool}
def Lk.aB(L:Lk X V M F)(h:gm g g')(a:ay X V q Stop M d g' w):ay X V q Stop M d g w:=h.run L.hP L.hg a
def Lk.sG(L:Lk X V M F)(a:az g=some (161,#[]))(b:ay X V q Stop M (d+1) (fin g (.tuple #[])) w):ay X V q Stop M d g w:=
 .Jo (m:=.disable) L.hc a (by rw[L.hP];exact adr) rfl b
def Lk.en(L:Lk X V M F)(a:az g=some (162,#[]))(b:ay X V q Stop M d (fin g (.tuple #[])) w):ay X V q Stop M (d+1) g w:=
 .Jo (m:=.enable) L.hc a (by rw[L.hP];exact ads) rfl b
def Lk.conv(L:Lk X V M F)(a:gu g=some (237,216,pt X.Mu))(b:F w)(c:ay X V q Stop M d (fin g (pt X.Mu)) w):ay X V q Stop M d g w:=by
 obtain⟨o,x,e,f,h⟩:=D6 a
 exact .conv L.hc e f h (by rw[L.hP];exact u237) (by rw[L.hP];exact u216) (by rw[L.hP];exact aiM) (λi r=>by
  obtain⟨⟨_,_,k⟩,_⟩:=L.hL _ (L.hF _ _ b r)
  exact⟨_,k.cellSt⟩) c
def Lk.low(L:Lk X V M F)(a:F w):X.Mu<w.heap.size:=by
 obtain⟨⟨_,_,k⟩,_⟩:=L.hL _ a;unfold MuAt at k;exact(Array.getElem?_eq_some_iff.1 k).1
def Lk.acq(L:Lk X V M F)(a:az g=some (175,#[pt X.Mu]))(b:F w)(c:ay X V q Stop M d (fin g (.tuple #[])) w):ay X V q Stop M d g w:=
 .Pe (mk':=.acquire) (ad:=⟨X.Mu,0,none⟩) L.hc a (by rw[L.hP];exact adu) (λ_ _ h=>by cases h) rfl (λe r=>⟨uq rfl (λh=>by cases h) (L.low (L.hF _ _ b r)),rfl⟩) (λ_=>rfl) c
def Lk.ajy(L:Lk X V M F)(a:az g=some (160,#[pt X.Mu]))(b:F w)(c:ay X V q Stop M d (fin g (.tuple #[])) w):ay X V q Stop M d g w:=
 .Pe (mk':=.releaseMerge) (ad:=⟨X.Mu,0,none⟩) L.hc a (by rw[L.hP];exact adt) (λ_ _ h=>by cases h) rfl (λe r=>⟨uq rfl (λh=>by cases h) (L.low (L.hF _ _ b r)),rfl⟩) (λ_=>rfl) c
def Lk.nano(L:Lk X V M F)(a:az g=some (195,#[]))(b:∀n:Nat,ay X V q Stop M d (fin g (.int .i64 (n:Int))) w):ay X V q Stop M d g w:=
 .nano L.hc a (by rw[L.hP];exact aiJ) b
def Lk.ae8(L:Lk X V M F){n:Int}(a:az g=some (192,#[.int .i64 n]))(c:∀b:Bool,(b=true->n<4)->ay X V q Stop M d (fin g (.bool b)) w):ay X V q Stop M d g w:=
 .canSpin L.hc a (by rw[L.hP];exact aiH) c
def Lk.spins(L:Lk X V M F)(a:az g=some (193,#[]))(b:ay X V q Stop M d (fin g (.tuple #[])) w):ay X V q Stop M d g w:=
 .nothing L.hc a (by rw[L.hP];exact aiI) b
def PV(X:Fix)(c0:Frame)(cs:List Frame)(T:Th)(g:aa):Prop:=
 let up:=iw X.Mu c0 cs
 T.old.k<=3/\match T.pc with
 |.l0=>g=y1 X.Mu c0 cs
 |.r0=>T.aw=false/\T.sv=false/\T.it=0/\∃f a,g=S7 (A7 X.Mu f (.int .i64 0) false false (.int .i64 0) a) zr0.frame.todo up/\fj g=some (21,pt X.Mu)
 |.c1=>T.it<4/\T.aw=false/\T.old.l=true/\T.old.w=false/\T.old.s=false/\∃f,∃t:Nat,g=S7 (A7 X.Mu (px 33 (.bool true) f) (.int .i64 (t:Int)) T.sv false (.int .i64 (T.it:Int)) (wv T.old)) zc1.frame.todo up/\az g=some (186,#[pt X.Mu,wv T.old,wv { T.old with w:=true }])
 |.r1=>T.it<4/\∃f,∃t:Nat,g=S7 (A7 X.Mu f (.int .i64 (t:Int)) T.sv T.aw (.int .i64 ((T.it+1:Nat):Int)) (wv T.old)) zr1.frame.todo up/\fj g=some (21,pt X.Mu)
 |.c2=>T.it<=4/\∃f,∃t:Nat,g=S7 (A7 X.Mu f (.int .i64 (t:Int)) T.sv T.aw (.int .i64 (T.it:Int)) (wv T.old)) xI.frame.todo up/\az g=some (186,#[pt X.Mu,wv T.old,wv T.nw])
 |.r3=>T.it<=4/\∃f,∃t:Nat,g=S7 (A7 X.Mu f (.int .i64 (t:Int)) T.sv T.aw (.int .i64 (T.it:Int)) (wv T.old)) zr3.frame.todo up/\fj g=some (21,pt X.Mu)
 |.s1=>∃f,∃t:Nat,∃b it a,g=S7 (A7 X.Mu f (.int .i64 (t:Int)) T.sv b it a) FD.frame.todo up/\gZ g=some (196,some (.pointer (some ⟨X.Mu,1,none⟩)))
 |.r2=>∃f,∃t:Nat,∃b it a,g=S7 (A7 X.Mu f (.int .i64 (t:Int)) T.sv b it a) WT.frame.todo up/\fj g=some (21,pt X.Mu)
 |.a1=>∃f,∃st b it a,g=S7 (A7 X.Mu f st T.sv b it a) za1.frame.todo up/\az g=some (188,#[pt X.Mu,.int .i32 (if T.ex then -11 else -7)])
 |_=>False
variable {c0:Frame}{cs:List Frame}{k:Nat}
def MG(X:Fix)(V:Vw)(Fin:World->Prop)(M:Own)(F:World->Prop)(c0:Frame)(cs:List Frame)(r k:Nat):Prop:=∀T g w,T.r=r->PV X c0 cs T g->F w->iF X V Fin k T M 1 g w
def ae9{T T':Th}(h:T.pc≠.out)(a:Alt T T')(b:iF X V Fin k T' M d g w):eU X V Fin k T M d g w:=by
 unfold eU;rw[if_neg h];exact⟨T',a,b⟩
def MG.run{r:Nat}(A:MG X V Fin M F c0 cs r k)(L:Lk X V M F){T T':Th}(b:T.r=r)(c:T'.pc≠.out)(a:Alt T' T)(h:PV X c0 cs T g)(e:F w):ay X V false (eU X V Fin k T') M 1 g w:=
 .stop λf i=>ae9 c a (A T g f b h (L.hF _ _ e i))
def sO{r:Nat}(A:MG X V Fin M F c0 cs r k)(L:Lk X V M F){T:Th}(E:T.r=r)(m:T.old.k<=3)(C:T.aw=true->T.old.w=true)(hi:T.it<=4)(f:Nat->Value)(t:Nat)(H:F w) :
 ay X V false (eU X V Fin k (eR T)) M 1 (S7 (A7 X.Mu f (.int .i64 (t:Int)) T.sv T.aw (.int .i64 (T.it:Int)) (wv T.old)) CE.frame.todo (iw X.Mu c0 cs)) w:=by
 obtain⟨N,hd⟩:=ada X.Mu f (iw X.Mu c0 cs) (.int .i64 (t:Int)) (.int .i64 (T.it:Int)) (wv T.old) T.sv T.aw;obtain⟨pc,⟨l,c,s,n⟩,o,i,a,it,ex,p⟩:=T;simp only at E m C hi N hd;have I:(eR ⟨pc,⟨l,c,s,n⟩,o,i,a,it,ex,p⟩).pc≠.out:=by simp[eR]
 have go:∀g',gm (nx PP false (S7 (A7 X.Mu f (.int .i64 (t:Int)) a i (.int .i64 (it:Int)) (wv ⟨l,c,s,n⟩)) CE.frame.todo (iw X.Mu c0 cs))) g'->ay X V false (eU X V Fin k (eR ⟨pc,⟨l,c,s,n⟩,o,i,a,it,ex,p⟩)) M 1 g' w->
  ay X V false (eU X V Fin k (eR ⟨pc,⟨l,c,s,n⟩,o,i,a,it,ex,p⟩)) M 1 (S7 (A7 X.Mu f (.int .i64 (t:Int)) a i (.int .i64 (it:Int)) (wv ⟨l,c,s,n⟩)) CE.frame.todo (iw X.Mu c0 cs)) w:=
  λg' h R=>YQ.run ⟨N,hd,h⟩ L.hP L.hg R
 have u:∀j,az (S7 (A7 X.Mu j (.int .i64 (t:Int)) a i (.int .i64 (it:Int)) (wv ⟨l,c,s,n⟩)) xI.frame.todo (iw X.Mu c0 cs))=some (186,#[pt X.Mu,wv ⟨l,c,s,n⟩,wv (qZ { pc:=.c2,old:=⟨l,c,s,n⟩,aw:=i,sv:=a,r:=0 })])->
  ay X V false (eU X V Fin k (eR ⟨pc,⟨l,c,s,n⟩,o,i,a,it,ex,p⟩)) M 1 (S7 (A7 X.Mu j (.int .i64 (t:Int)) a i (.int .i64 (it:Int)) (wv ⟨l,c,s,n⟩)) xI.frame.todo (iw X.Mu c0 cs)) w:=
  λj h=>A.run L (T:=eR ⟨pc,⟨l,c,s,n⟩,o,i,a,it,ex,p⟩) E I (.refl _) ⟨m,hi,j,t,rfl,h⟩ H
 by_cases O:l=true/\s=false
 ·obtain⟨rfl,rfl⟩:=O;obtain⟨j,y,z⟩:=YS X.Mu f (iw X.Mu c0 cs) (.int .i64 (t:Int)) (.int .i64 (it:Int)) a i c n m;refine go _ y (L.ae8 z λb hb=>?_)
  cases b with
  |false=>
   obtain⟨D,v,x⟩:=Uh X.Mu j (iw X.Mu c0 cs) (.int .i64 (t:Int)) (.int .i64 (it:Int)) a i c n m C;exact L.aB v (u _ x)
  |true=>
   have J:it<4:=by have:=hb rfl;omega
   have alt:Alt (eR ⟨pc,⟨true,c,false,n⟩,o,i,a,it,ex,p⟩) (spin ⟨pc,⟨true,c,false,n⟩,o,i,a,it,ex,p⟩):=.head _ _ (.spin rfl rfl J) C;have B:∀j,az (S7 (A7 X.Mu j (.int .i64 (t:Int)) a i (.int .i64 (it:Int)) (wv ⟨true,c,false,n⟩)) FC.frame.todo (iw X.Mu c0 cs))=some (193,#[])->(spin ⟨pc,⟨true,c,false,n⟩,o,i,a,it,ex,p⟩).pc=.r1->
    ay X V false (eU X V Fin k (eR ⟨pc,⟨true,c,false,n⟩,o,i,a,it,ex,p⟩)) M 1 (S7 (A7 X.Mu j (.int .i64 (t:Int)) a i (.int .i64 (it:Int)) (wv ⟨true,c,false,n⟩)) FC.frame.todo (iw X.Mu c0 cs)) w:=by
    intro j S U;refine L.spins S ?_;obtain⟨W,P,Q⟩:=adf X.Mu j (iw X.Mu c0 cs) (.int .i64 (t:Int)) (wv ⟨true,c,false,n⟩) (it:Int) a i;have e:IntKind.i64.wrap ((it:Int)+1)=((it+1:Nat):Int):=by
     obtain h|h|h|h:it=0\/it=1\/it=2\/it=3:=by omega
     all_goals (rw[h];decide)
    rw[e]at P Q;refine L.aB P (A.run L (T:=spin ⟨pc,⟨true,c,false,n⟩,o,i,a,it,ex,p⟩) E I alt ⟨m,?_⟩ H);rw[U];exact⟨J,W,t,rfl,Q⟩
   cases i with
   |true=>
    obtain⟨D,v,x⟩:=YT X.Mu j (iw X.Mu c0 cs) (.int .i64 (t:Int)) (.int .i64 (it:Int)) a c n m;exact L.aB v (B _ x (by simp[spin]))
   |false=>
    cases c with
    |true=>
     obtain⟨D,v,x⟩:=YU X.Mu j (iw X.Mu c0 cs) (.int .i64 (t:Int)) (.int .i64 (it:Int)) a n m;exact L.aB v (B _ x (by simp[spin]))
    |false=>
     by_cases K:n=0
     ·subst K;obtain⟨D,v,x⟩:=YV X.Mu j (iw X.Mu c0 cs) (.int .i64 (t:Int)) (.int .i64 (it:Int)) a;exact L.aB v (B _ x (by simp[spin]))
     ·obtain⟨D,v,x⟩:=aio X.Mu j (iw X.Mu c0 cs) (.int .i64 (t:Int)) (.int .i64 (it:Int)) a n m K;refine L.aB v (A.run L (T:=spin ⟨pc,⟨true,false,false,n⟩,o,false,a,it,ex,p⟩) E I alt ⟨m,?_⟩ H);have:(spin ⟨pc,⟨true,false,false,n⟩,o,false,a,it,ex,p⟩).pc=.c1:=by simp[spin,K]
      rw[this];exact⟨J,rfl,rfl,rfl,rfl,D,t,rfl,x⟩
 ·cases l with
  |false=>
   cases s with
   |false=>
    obtain⟨j,y,z⟩:=Ue X.Mu f (iw X.Mu c0 cs) (.int .i64 (t:Int)) (.int .i64 (it:Int)) a i c n m C;exact go _ y (u _ z)
   |true=>
    obtain⟨j,y,z⟩:=Uf X.Mu f (iw X.Mu c0 cs) (.int .i64 (t:Int)) (.int .i64 (it:Int)) a i c n m C;exact go _ y (u _ z)
  |true=>
   cases s with
   |false=>exact absurd ⟨rfl,rfl⟩ O
   |true=>
    obtain⟨j,y,z⟩:=Ug X.Mu f (iw X.Mu c0 cs) (.int .i64 (t:Int)) (.int .i64 (it:Int)) a i c n m C;exact go _ y (u _ z)
end
end Go.Proofs
