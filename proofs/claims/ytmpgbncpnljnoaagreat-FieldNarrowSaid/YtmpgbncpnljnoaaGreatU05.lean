/- Part of the proof of FieldNarrow. -/
import Derived.Test.YtmpgbncpnljnoaaGreatU04
import Derived.Conc.RingWorld
set_option linter.all false
open Go renaming Goroutine->aa,Program->ab,goexitEntry->ac,mayWake->ae,deafBehind->ag,FuncId->ai,events_load->ao,events_store->ap,setCell_eq_setRow->aq,setRow_heap->ar,asAddr->aF
open Go.Conc renaming QuitsD->aH,aside_setCell->aI,casT_eq->aJ,run_cas_hit_entry->aL,events_cas_hit_entry->aP,sync_rw->aS,run_cas_miss_entry->aT,events_cas_miss_entry->a5,run_add_entry->a6,events_add_entry->a7,semEvents->a8,semEvents_sync->a9
open Go.Frame renaming enter->ba
open Go.Extern.Race renaming marked->bb
open Go.Extern.Sync renaming semrelease->bd,semacquire->bi,count->bj,none_->bo
open Go.Extern.Atomic renaming update->bp,loadT->bq,storeT->br,casT->bs,read->bu,none_->bv
open Go.Op renaming intArith->bw,convert->bx
open Go.Result renaming andThen->bA,evThen->bC
open Go.ConcR renaming wgBlock->bL,wgBlock->bM,mk->bR
open Go.World renaming cell?->bT
open Go.MemAct renaming ofEvent->bX,mark->b1
open Go.Value renaming int->b2,tuple->b3,bool->b4,pointer->b5
open Or renaming inl->b6,inr->b8
open Go.IntKind renaming u64->b9,i64->ca,i32->cb,u32->cc
open Go.Loc renaming cell->cd
open Go.Mode renaming atomic->ce
namespace Go.Ph
open Go.Conc
def ended(g:aa):Bool:=match g.status with
 |.finished=>true
 |_=>false
def mZ{P:ab}:∀(n:Nat){d:Nat}{g:aa},(∀w,vg P false ended w n g=vh P false ended w n g)->(wu P false ended n g).status=.finished->xD P false ended n d g=0->aH P n d g
 |0,_,_,_,h,b=>⟨h,b⟩
 |n+1,d,g,i,h,b=>by
  cases f:ended g with
  |true=>
   simp only[wu,xD,f]at h b;exact b6 ⟨h,b⟩
  |false=>
   simp only[wu,xD,f]at h b;have c:∀w,g.status=.running/\stepG P false g w=.go (nx P false g) w (ex P false g)/\mutes (ex P false g)=true/\vg P false ended w n (nx P false g)=vh P false ended w n (nx P false g):=λw=>by
    have:=i w;simp only[vg,vh,f,List.cons.injEq,Prod.mk.injEq]at this
    grind
   refine b8 ⟨(c default).1,_,_,λe j=>?_,λw=>(c w).2.1,mZ n (λw=>(c w).2.2.2) h b⟩;have:=(c default).2.2.1;simp only[mutes,List.all_eq_true]at this
   grind
end Go.Ph
namespace Go.Proofs
open Go.Ph Go.Conc
set_option maxRecDepth 100000
def lY(g:aa):Bool:=match g.frame.mode with
 |.returning=>(g.frame.fn==69||g.frame.fn==74)
 |.run=>match g.frame.todo with
  |.inRegion _ (_::_)::_=>match bF g with
   |some o=>match o.op with
    |.load .. | .store ..=>true
    |bx _ d _=>d==154
    |.call { callee:=.value (.func f),.. }=>bare.contains f
    |_=>false
   |none=>false
  |_=>false
 |_=>false
noncomputable abbrev T2(mn:Bool)(g:aa):aa:=wu PP mn lY 400 g
structure fL(mn:Bool)(g g':aa):Prop where
 q:ff PP mn lY 400 g
 d:∀d,xD PP mn lY 400 d g=d
 e:T2 mn g=g'
def bU{mn:Bool}{g g':aa}(e:g'=T2 mn g)(b:ff PP mn lY 400 g:=by exact⟨λ_=>by kernel_rfl,by kernel_rfl⟩)(hd:∀d,xD PP mn lY 400 d g=d:=by intro _;kernel_rfl):fL mn g g':=⟨b,hd,e.symm⟩
def fL.run{X:Fix}{V:Vw}{q:Bool}{Stop:Stp}{M:Own}{d:Nat}{g g':aa}{w:World}{mn:Bool}(h:fL mn g g')(b:X.P=PP)(hg:(V.g==0)=mn)(c:ay X V q Stop M d g' w):ay X V q Stop M d g w:=by
 refine .oO (S:=lY) hg 400 (by rw[b];exact h.q) ?_;have e:wu PP mn lY 400 g=g':=h.e;rw[b,h.d,e];exact c
noncomputable def frD(a:Array Value)(td:List Item):Frame:={ fn:=70,tmps:=a,todo:=td,defers:=[],mode:=.returning,kind:=.deferred,roundOf:=none }
noncomputable def ez(P:ab):Frame:={ (default:Frame) with fn:=P.funcs.size,defers:=[],mode:=.panicking [ac] }
section
variable (W:Nat)(a:Array Value)(td:List Item)
noncomputable def dE:aa:=G (ba PP 71 #[pt W] .deferred) [frD a td,ez PP]
noncomputable def d0:aa:=T2 false (dE W a td)
noncomputable def d1:aa:=T2 false (fin (d0 W a td) (pt W))
noncomputable def d2:aa:=T2 false (fin (d1 W a td) (b3 #[]))
noncomputable def d3:aa:=T2 false (fin (d2 W a td) (b3 #[]))
noncomputable def d4:aa:=T2 false (fin (d3 W a td) (b4 false))
noncomputable def d5:aa:=T2 false (fin (d4 W a td) (b2 b9 1))
noncomputable def d6:aa:=T2 false (fin (d5 W a td) (b2 b9 1))
noncomputable def d7:aa:=T2 false (fin (d6 W a td) (b3 #[]))
def d_E:fL false (dE W a td) (d0 W a td):=bU (by delta d0;rfl)
def aiN:gu (d0 W a td)=some (152,154,pt W):=by kernel_rfl
def d_0:fL false (fin (d0 W a td) (pt W)) (d1 W a td):=bU (by delta d1;rfl)
def aiO:az (d1 W a td)=some (86,#[pt W]):=by kernel_rfl
def d_1:fL false (fin (d1 W a td) (b3 #[])) (d2 W a td):=bU (by delta d2;rfl)
def aiP:az (d2 W a td)=some (87,#[]):=by kernel_rfl
def d_2:fL false (fin (d2 W a td) (b3 #[])) (d3 W a td):=bU (by delta d3;rfl)
def aiQ:az (d3 W a td)=some (89,#[]):=by kernel_rfl
def d_3:fL false (fin (d3 W a td) (b4 false)) (d4 W a td):=bU (by delta d4;rfl)
def aiR:az (d4 W a td)=some (112,#[pt W,b2 b9 18446744069414584320]):=by kernel_rfl
def d_4:fL false (fin (d4 W a td) (b2 b9 1)) (d5 W a td):=bU (by delta d5;rfl)
def aiS:az (d5 W a td)=some (113,#[pt W]):=by kernel_rfl
def d_5:fL false (fin (d5 W a td) (b2 b9 1)) (d6 W a td):=bU (by delta d6;rfl)
def aiT:az (d6 W a td)=some (114,#[pt W,b2 b9 0]):=by kernel_rfl
def d_6:fL false (fin (d6 W a td) (b3 #[])) (d7 W a td):=bU (by delta d7;rfl)
def aiU:gZ (d7 W a td)=some (98,some (b5 (some ⟨W,1,none⟩))):=by kernel_rfl
def aiV:ae PP (d7 W a td)=true:=by kernel_rfl
end
noncomputable def uy(W bc bg bm bt:Nat):aa:=
 { frame:={ (default:Frame) with fn:=PP.funcs.size,defers:=[{ target:=.fn (.func 70) #[pt W,pt bc,pt bg,pt bm,pt bt],args:=#[] }],mode:=.panicking [ac] },callers:=[],status:=.running,dying:=none }
section
variable (W bc bg bm bt:Nat)
noncomputable def k0:aa:=T2 false (uy W bc bg bm bt)
def k_E:fL false (uy W bc bg bm bt) (k0 W bc bg bm bt):=bU (by delta k0;rfl)
def aiW:fj (k0 W bc bg bm bt)=some (77,pt bc):=by kernel_rfl
noncomputable def k1(c:Value):aa:=T2 false (fin (k0 W bc bg bm bt) c)
def k_0(c:Value):fL false (fin (k0 W bc bg bm bt) c) (k1 W bc bg bm bt c):=bU (by delta k1;rfl)
def aiX(c:Value):fj (k1 W bc bg bm bt c)=some (3,pt bg):=by kernel_rfl
def DT(g:aa):Bool:=lY g||(match g.frame.todo with
 |[.code _]=>g.frame.fn==41||g.frame.fn==67
 |_=>false)
noncomputable abbrev T3(g:aa):aa:=wu PP false DT 400 g
noncomputable def k2(c:Value)(n:Int):aa:=T3 (fin (k1 W bc bg bm bt c) (b2 ca n))
def k_1(c:Value)(n:Int):ff PP false DT 400 (fin (k1 W bc bg bm bt c) (b2 ca n))/\∀d,xD PP false DT 400 d (fin (k1 W bc bg bm bt c) (b2 ca n))=d:=⟨⟨λw=>by kernel_rfl,by kernel_rfl⟩,λd=>by kernel_rfl⟩
end
section
variable (W:Nat)(a:Array Value)(td:List Item)
def adZ:aH PP 400 1 (fin (d4 W a td) (b2 b9 0)):=mZ 400 (λw=>by kernel_rfl) (by kernel_rfl) (by kernel_rfl)
def ae0:aH PP 400 1 (fin (d4 W a td) (b2 b9 4294967296)):=mZ 400 (λw=>by kernel_rfl) (by kernel_rfl) (by kernel_rfl)
def ae1:aH PP 400 1 (fin (d4 W a td) (b2 b9 4294967297)):=mZ 400 (λw=>by kernel_rfl) (by kernel_rfl) (by kernel_rfl)
def ae2:aH PP 400 1 (fin (d4 W a td) (b2 b9 8589934592)):=mZ 400 (λw=>by kernel_rfl) (by kernel_rfl) (by kernel_rfl)
def ae3:aH PP 400 1 (fin (d4 W a td) (b2 b9 8589934593)):=mZ 400 (λw=>by kernel_rfl) (by kernel_rfl) (by kernel_rfl)
def ajn:aH PP 400 1 (fin (d7 W a td) (b3 #[])):=mZ 400 (λw=>by kernel_rfl) (by kernel_rfl) (by kernel_rfl)
end
def ajo:cw PP 89 false (λ_=>pure (b4 false)):=⟨Tryz.f89,by kernel_rfl,by kernel_rfl,by kernel_rfl,by kernel_rfl,by kernel_rfl,by kernel_rfl⟩
def ajp:cw PP 94 false (bb .read):=⟨Tryz.f94,by kernel_rfl,by kernel_rfl,by kernel_rfl,by kernel_rfl,by kernel_rfl,by kernel_rfl⟩
def ajq:cw PP 104 false (bb .write):=⟨Tryz.f104,by kernel_rfl,by kernel_rfl,by kernel_rfl,by kernel_rfl,by kernel_rfl,by kernel_rfl⟩
def ajr:cw PP 98 true bd:=⟨Tryz.f98,by kernel_rfl,by kernel_rfl,by kernel_rfl,by kernel_rfl,by kernel_rfl,by kernel_rfl⟩
def ajs:cw PP 105 true bi:=⟨Tryz.f105,by kernel_rfl,by kernel_rfl,by kernel_rfl,by kernel_rfl,by kernel_rfl,by kernel_rfl⟩
def ae4:cw PP 112 true (bp (bw .add) b9 true):=⟨Tryz.f112,by kernel_rfl,by kernel_rfl,by kernel_rfl,by kernel_rfl,by kernel_rfl,by kernel_rfl⟩
def Zl:cw PP 113 true (bq (.int b9)):=⟨Tryz.f113,by kernel_rfl,by kernel_rfl,by kernel_rfl,by kernel_rfl,by kernel_rfl,by kernel_rfl⟩
def ajt:cw PP 114 true br:=⟨Tryz.f114,by kernel_rfl,by kernel_rfl,by kernel_rfl,by kernel_rfl,by kernel_rfl,by kernel_rfl⟩
def aju:cw PP 119 true (bs (.int b9)):=⟨Tryz.f119,by kernel_rfl,by kernel_rfl,by kernel_rfl,by kernel_rfl,by kernel_rfl,by kernel_rfl⟩
def u214:PP.underlying 152=some (.pointer 145):=by kernel_rfl
def u222:∃t,PP.underlying 160=some (.pointer t)/\(PP.info? t).map (λi=>decide (i.size=0))=some false:=⟨134,by kernel_rfl,by kernel_rfl⟩
def ajx:(PP.info? 145).map (λi=>decide (i.size=0))=some false:=by kernel_rfl
end Go.Proofs
namespace Go.Ph
open Go.Conc Go.ConcN
open Go.ConcM (MuAt muA msA OsLater muBlock)
open Go.ConcR (KK WgAt stA smA rd wr mk)
open Go.cD (Wd Th Mv Safe Head eR spin qZ)
def _root_.Go.cD.Wd.UA{x y:Wd}(h:x.num=y.num):x=y:=by
 obtain⟨l,w,s,k⟩:=x;obtain⟨a,w',s',k'⟩:=y;simp only[Wd.num]at h
 grind
section
variable {X:Fix}{V:Vw}{q:Bool}{Stop:Stp}{M:Own}{d:Nat}{g g':aa}{w w':World}{es:Array Event}{s s':Sh}{mn:Bool}
def Au(h:ShAt X w' s')(hb:w'.heap[X.Tb]?=w.heap[X.Tb]?)(hl:Live X w):Live X w':=⟨⟨_,_,h.1⟩,⟨_,_,h.2⟩,by rw[hb];exact hl.2.2⟩
def sL(hc:Clear X V M){a:Addr}(j:a.block=X.Mu\/a.block=X.Wg)(v:Value)(h:ShAt X (w.setCell a v) s'):Rl X V M w (w.setCell a v)/\
 ∀d es,(∀e∈es,jG X V M w.heap.size e)->Dl X V false M d w (w.setCell a v) es M (ag d es):=by
 have A:=aI w a v;have hb:∀b,b≠X.Mu->b≠X.Wg->(w.setCell a v).heap[b]?=w.heap[b]?:=λb k l=>A.block b (by grind);have c:OsLater w.os (w.setCell a v).os:=by rw[A.os];exact .refl _
 exact⟨BN hc A.tape A.output c A.size hb (Au h (hb _ hc.ids.mt.symm hc.ids.wt.symm)),λd es i=>jI hc.ids A.tape A.output c A.size hb (by rw[A.size];exact i) (by simp)⟩
def JC(hc:Clear X V M)(d:Nat)(w:World)(es:Array Event)(a:∀e∈es,jG X V M w.heap.size e):Dl X V false M d w w es M (ag d es):=
 jI hc.ids rfl rfl (.refl _) rfl (λ_ _ _=>rfl) a (by simp)
def xO(h:ShAt X w s):X.Mu<w.heap.size:=by
 have:=h.1;unfold MuAt at this
 grind
def lC(h:ShAt X w s):X.Wg<w.heap.size:=by
 have:=h.2;unfold WgAt at this
 grind
def ShAt.setMu(hi:WO X)(h:ShAt X w s)(x:Wd):ShAt X (w.setCell (muA X.Mu) (b2 cb ((x.num:Nat):Int))) { s with mw:=x }:=
 ⟨h.1.setSt _,((aI w (muA X.Mu) _).block X.Wg hi.mw.symm).trans h.2⟩
def ShAt.setMs(hi:WO X)(h:ShAt X w s)(x:Nat):ShAt X (w.setCell (msA X.Mu) (b2 cc (x:Int))) { s with ms:=x }:=
 ⟨h.1.setSm _,((aI w (msA X.Mu) _).block X.Wg hi.mw.symm).trans h.2⟩
variable {o:Oper}{f:ai}{nr:Bool}{P:ab}
def DZ{x:Wd}(b:az g=some (f,#[b5 (some ⟨X.Mu,0,none⟩),b2 cb ((s.mw.num:Nat):Int),b2 cb ((x.num:Nat):Int)]))(hb:cw P f nr (bs (.int cb)))(a:ShAt X w s) :
 stepG P mn g w=.go (fin g (b4 true)) (w.setCell (muA X.Mu) (b2 cb ((x.num:Nat):Int))) #[⟨cd (muA X.Mu),false,true⟩,⟨cd (muA X.Mu),true,true⟩]:=
 hb.step b (by rw[aJ];exact aL a.1.cellSt (a.1.thaw 0)) (by rw[aJ];exact(aP a.1.cellSt (a.1.thaw 0) _).trans rfl) (aS _)
def B5{old x:Wd}(c:az g=some (f,#[b5 (some ⟨X.Mu,0,none⟩),b2 cb ((old.num:Nat):Int),b2 cb ((x.num:Nat):Int)]))(hb:cw P f nr (bs (.int cb)))(a:ShAt X w s)(h:s.mw≠old) :
 stepG P mn g w=.go (fin g (b4 false)) w #[⟨cd (muA X.Mu),false,true⟩]:=by
 have b:¬((s.mw.num:Nat):Int)=((old.num:Nat):Int):=λe=>h (Wd.UA (by omega));exact hb.step c (by rw[aJ];exact aT a.1.cellSt (a.1.thaw 0) b) (by rw[aJ];exact(a5 a.1.cellSt (a.1.thaw 0) b _).trans rfl) (sync_r _)
def PO{n:Int}{x:Wd}(c:az g=some (f,#[b5 (some ⟨X.Mu,0,none⟩),b2 cb n]))(hb:cw P f nr (bp (bw .add) cb true))(a:ShAt X w s)(e:IntKind.i32.wrap (((s.mw.num:Nat):Int)+n)=((x.num:Nat):Int)) :
 stepG P mn g w=.go (fin g (b2 cb ((x.num:Nat):Int))) (w.setCell (muA X.Mu) (b2 cb ((x.num:Nat):Int))) #[⟨cd (muA X.Mu),false,true⟩,⟨cd (muA X.Mu),true,true⟩]:=by
 have b:=a6 (P:=P) (d:=n) a.1.cellSt (a.1.thaw 0);have h:=λes=>a7 (P:=P) (d:=n) a.1.cellSt (a.1.thaw 0) es;rw[e]at b;exact hb.step c b ((h _).trans rfl) (aS _)
def D5{a:Array Value}(h:az g=some (f,a))(c:a[0]?=some (b5 (some ⟨X.Mu,1,none⟩)))(hb:cw P f nr bi)(i:ShAt X w s) :
 if s.ms=0 then stepG P mn g w=.go { g with status:=.blocked } w #[] else stepG P mn g w=.go (fin g (b3 #[])) (w.setCell (msA X.Mu) (b2 cc ((s.ms-1:Nat):Int))) (a8 (msA X.Mu)):=by
 have hc:=i.1.cellSm;have j:=i.1.thaw 1;unfold msA at hc
 split
 ·rename_i b;rw[b]at hc;exact hb.blocked h (by simp[bi,bj,c,hc])
 ·rename_i b;have e:((s.ms:Nat):Int)-1=((s.ms-1:Nat):Int):=by omega
  rw[<-e];exact hb.step h (by simp[bi,bj,c,hc,b,j,msA,bo,run_store P w ⟨X.Mu,1,none⟩ (b2 cc ((s.ms:Int)-1)) ce rfl,bA])
   (by simp[bi,bj,c,hc,b,j,msA,a8,ao,ap P w _ ⟨X.Mu,1,none⟩ (b2 cc ((s.ms:Int)-1)) ce rfl,run_store P w ⟨X.Mu,1,none⟩ (b2 cc ((s.ms:Int)-1)) ce rfl,bC]) (a9 _)
def sr{a:Array Value}(j:az g=some (f,a))(b:a[0]?=some (b5 (some ⟨X.Mu,1,none⟩)))(hb:cw P f nr bd)(c:ShAt X w s)(k:s.ms<=1) :
 stepG P mn g w=.go (fin g (b3 #[])) (w.setCell (msA X.Mu) (b2 cc ((s.ms+1:Nat):Int))) (a8 (msA X.Mu)):=by
 have hc:=c.1.cellSm;have i:=c.1.thaw 1;unfold msA at hc;have e:IntKind.u32.wrap (((s.ms:Nat):Int)+1)=((s.ms+1:Nat):Int):=by
  obtain h|h:s.ms=0\/s.ms=1:=by omega
  ·rw[h];decide
  ·rw[h];decide
 rw[<-e];exact hb.step j (by simp[bd,bj,b,hc,i,msA,bo,bw,run_store P w ⟨X.Mu,1,none⟩ (b2 cc (IntKind.u32.wrap ((s.ms:Int)+1))) ce rfl,bA])
  (by simp[bd,bj,b,hc,i,msA,a8,bw,ao,ap P w _ ⟨X.Mu,1,none⟩ (b2 cc (IntKind.u32.wrap ((s.ms:Int)+1))) ce rfl,run_store P w ⟨X.Mu,1,none⟩ (b2 cc (IntKind.u32.wrap ((s.ms:Int)+1))) ce rfl,bC]) (a9 _)
def PR(h:X.Mu<w.heap.size):∀e∈(#[⟨cd (muA X.Mu),false,true⟩,⟨cd (muA X.Mu),true,true⟩]:Array Event),jG X V M w.heap.size e:=by
 intro e a;simp at a
 rcases a with rfl|rfl<;>exact eo (b6 rfl) h
def ae5(h:X.Mu<w.heap.size):∀e∈(#[⟨cd (muA X.Mu),false,true⟩]:Array Event),jG X V M w.heap.size e:=by
 intro e a;simp at a;subst a;exact eo (b6 rfl) h
def JD(h:X.Mu<w.heap.size):∀e∈a8 (msA X.Mu),jG X V M w.heap.size e:=by
 intro e a;simp[a8]at a
 rcases a with rfl|rfl|rfl|rfl
 ·exact lX rfl
 ·exact eo (b6 rfl) h
 ·exact eo (b6 rfl) h
 ·exact lX rfl
end
end Go.Ph
namespace Go.Ph
open Go.Conc Go.ConcN Go.RowKit
open Go.ConcM (MuAt muA msA OsLater muBlock)
open Go.ConcR (KK WgAt stA smA rd wr mk wgBlock)
open Go.cD (Wd)
section
variable {X:Fix}{V:Vw}{q:Bool}{M:Own}{d:Nat}{g:aa}{w w':World}{es:Array Event}{s s':Sh}{mn:Bool}{f:ai}{nr:Bool}{P:ab}
def vP(v wt:Nat):Int:=(v:Int)*KK+(wt:Int)
def er(h:ShAt X w s):w.cell? (stA X.Wg)=some (b2 b9 (vP s.v s.wt)):=by have:=h.2;unfold WgAt bL at this;simp[bT,stA,this,vP]
def vn(h:ShAt X w s):w.cell? (smA X.Wg)=some (b2 cc (s.ws:Int)):=by have:=h.2;unfold WgAt bL at this;simp[bT,smA,this]
def fM(h:ShAt X w s)(off:Nat):w.frozen? ⟨X.Wg,off,none⟩=false:=by have:=h.2;unfold WgAt bL at this;simp[World.frozen?,this]
def ShAt.setWg(hi:WO X)(h:ShAt X w s)(v wt:Nat):ShAt X (w.setCell (stA X.Wg) (b2 b9 (vP v wt))) { s with v:=v,wt:=wt }:=
 ⟨((aI w (stA X.Wg) _).block X.Mu hi.mw).trans h.1,by
   have:=h.2;unfold WgAt bL at this⊢;rw[stA,aq w X.Wg 0 _ _ (0,0) _ this,ar w X.Wg _ _ _ _ this]
   simp[vP]⟩
def ShAt.setWs(hi:WO X)(h:ShAt X w s)(n:Nat):ShAt X (w.setCell (smA X.Wg) (b2 cc (n:Int))) { s with ws:=n }:=
 ⟨((aI w (smA X.Wg) _).block X.Mu hi.mw).trans h.1,by
   have:=h.2;unfold WgAt bL at this⊢;rw[smA,aq w X.Wg 1 _ _ (0,0) _ this,ar w X.Wg _ _ _ _ this]
   simp⟩
def uz(hc:Clear X V M){a:Addr}(l:a.block=X.Mu\/a.block=X.Wg)(v:Value)(h:ShAt X (w.setCell a v) s'):Rl X V M w (w.setCell a v)/\
 ∀d es,(∀e∈es,jG X V M w.heap.size e)->(q=true->∀j e,es[j]?=some e->(bX e).touch? = none\/((∃ad wr,e=⟨cd ad,wr,true⟩)/\0<ag d (es.extract 0 j)))->Dl X V q M d w (w.setCell a v) es M (ag d es):=by
 have A:=aI w a v;have hb:∀b,b≠X.Mu->b≠X.Wg->(w.setCell a v).heap[b]?=w.heap[b]?:=λb m n=>A.block b (by grind);have c:OsLater w.os (w.setCell a v).os:=by rw[A.os];exact .refl _
 exact⟨BN hc A.tape A.output c A.size hb (Au h (hb _ hc.ids.mt.symm hc.ids.wt.symm)),λd es i k=>jI hc.ids A.tape A.output c A.size hb (by rw[A.size];exact i) k⟩
def Xb{ad:Addr}{wr:Bool}{j:Nat}{e:Event}(d:Nat)(h:(#[⟨cd ad,wr,true⟩]:Array Event)[j]?=some e):(bX e).touch? = none\/((∃ad wr,e=⟨cd ad,wr,true⟩)/\0<ag (d+1) ((#[⟨cd ad,wr,true⟩]:Array Event).extract 0 j)):=by
 match j,h with
 |0,h=>exact b8 ⟨⟨ad,wr,by simpa using h.symm⟩,by simp[ag]⟩
 |j+1,h=>simp at h
def ae6{ad:Addr}{j:Nat}{e:Event}(d:Nat)(h:(#[⟨cd ad,false,true⟩,⟨cd ad,true,true⟩]:Array Event)[j]?=some e):(bX e).touch? = none\/((∃ad wr,e=⟨cd ad,wr,true⟩)/\0<ag (d+1) ((#[⟨cd ad,false,true⟩,⟨cd ad,true,true⟩]:Array Event).extract 0 j)):=by
 match j,h with
 |0,h=>exact b8 ⟨⟨ad,false,by simpa using h.symm⟩,by simp[ag]⟩
 |1,h=>exact b8 ⟨⟨ad,true,by simpa using h.symm⟩,by simp[ag]⟩
 |j+2,h=>simp at h
def ae7{ad:Addr}{j:Nat}{e:Event}(d:Nat)(h:(a8 ad)[j]?=some e):(bX e).touch? = none\/((∃ad wr,e=⟨cd ad,wr,true⟩)/\0<ag (d+1) ((a8 ad).extract 0 j)):=by
 unfold a8 at h⊢
 match j,h with
 |0,h=>exact b6 (by simp at h;subst h;rfl)
 |1,h=>exact b8 ⟨⟨ad,false,by simpa using h.symm⟩,by simp[ag]⟩
 |2,h=>exact b8 ⟨⟨ad,true,by simpa using h.symm⟩,by simp[ag]⟩
 |3,h=>exact b6 (by simp at h;subst h;rfl)
 |j+4,h=>simp at h
def xP{n:Int}{v wt:Nat}(c:az g=some (f,#[b5 (some ⟨X.Wg,0,none⟩),b2 b9 n]))(hb:cw P f nr (bp (bw .add) b9 true))(a:ShAt X w s)(e:IntKind.u64.wrap (vP s.v s.wt+n)=vP v wt) :
 stepG P mn g w=.go (fin g (b2 b9 (vP v wt))) (w.setCell (stA X.Wg) (b2 b9 (vP v wt))) #[⟨cd (stA X.Wg),false,true⟩,⟨cd (stA X.Wg),true,true⟩]:=by
 have b:=a6 (P:=P) (d:=n) (er a) (fM a 0);have h:=λes=>a7 (P:=P) (d:=n) (er a) (fM a 0) es;rw[e]at b;exact hb.step c b ((h _).trans rfl) (aS _)
def oV(a:az g=some (f,#[b5 (some ⟨X.Wg,0,none⟩)]))(hb:cw P f nr (bq (.int b9)))(b:ShAt X w s) :
 stepG P mn g w=.go (fin g (b2 b9 (vP s.v s.wt))) w #[⟨cd (stA X.Wg),false,true⟩]:=by
 have hc:w.cell? ⟨X.Wg,0,none⟩=_:=er b;refine hb.step a ?_ ?_ (sync_r _)
 ·change Sem.run P (do bu (.int b9) (<-aF (b5 (some ⟨X.Wg,0,none⟩)))) w=_;simp[bu,aF,hc]
 ·change Sem.events P (do bu (.int b9) (<-aF (b5 (some ⟨X.Wg,0,none⟩)))) w _=_;simp[bu,aF,hc,ao,stA]
def B6{n:Int}(c:az g=some (f,#[b5 (some ⟨X.Wg,0,none⟩),b2 b9 n]))(hb:cw P f nr br)(a:ShAt X w s) :
 stepG P mn g w=.go (fin g (b3 #[])) (w.setCell (stA X.Wg) (b2 b9 n)) #[⟨cd (stA X.Wg),true,true⟩]:=by
 have hc:w.cell? ⟨X.Wg,0,none⟩=_:=er a;have b:=fM a 0;refine hb.step c ?_ ?_ (by grind)
 ·change Sem.run P (do
   store (<-aF (b5 (some ⟨X.Wg,0,none⟩))) (b2 b9 n) ce
   pure bv) w=_
  simp[aF,hc,b,run_store P w ⟨X.Wg,0,none⟩ (b2 b9 n) ce rfl,stA,bA,bv]
 ·change Sem.events P (do
   store (<-aF (b5 (some ⟨X.Wg,0,none⟩))) (b2 b9 n) ce
   pure bv) w _=_
  simp[aF,hc,b,ap P w _ ⟨X.Wg,0,none⟩ (b2 b9 n) ce rfl,stA]
def G9{o n:Int}{v wt:Nat}(b:az g=some (f,#[b5 (some ⟨X.Wg,0,none⟩),b2 b9 o,b2 b9 n]))(hb:cw P f nr (bs (.int b9)))(a:ShAt X w s)(h:n=vP v wt) :
 if vP s.v s.wt=o then stepG P mn g w=.go (fin g (b4 true)) (w.setCell (stA X.Wg) (b2 b9 (vP v wt))) #[⟨cd (stA X.Wg),false,true⟩,⟨cd (stA X.Wg),true,true⟩]
 else stepG P mn g w=.go (fin g (b4 false)) w #[⟨cd (stA X.Wg),false,true⟩]:=by
 subst h
 split
 ·rename_i e;subst e;exact hb.step b (by rw[aJ];exact aL (er a) (fM a 0)) (by rw[aJ];exact(aP (er a) (fM a 0) _).trans rfl) (aS _)
 ·rename_i c;exact hb.step b (by rw[aJ];exact aT (er a) (fM a 0) c) (by rw[aJ];exact(a5 (er a) (fM a 0) c _).trans rfl) (sync_r _)
def He{args:Array Value}(c:az g=some (f,args))(b:args[0]?=some (b5 (some ⟨X.Wg,1,none⟩)))(hb:cw P f nr bi)(h:ShAt X w s) :
 if s.ws=0 then stepG P mn g w=.go { g with status:=.blocked } w #[] else stepG P mn g w=.go (fin g (b3 #[])) (w.setCell (smA X.Wg) (b2 cc ((s.ws-1:Nat):Int))) (a8 (smA X.Wg)):=by
 have hc:=vn h;have i:=fM h 1;unfold smA at hc
 split
 ·rename_i a;rw[a]at hc;exact hb.blocked c (by simp[bi,bj,b,hc])
 ·rename_i a;have e:((s.ws:Nat):Int)-1=((s.ws-1:Nat):Int):=by omega
  rw[<-e];exact hb.step c (by simp[bi,bj,b,hc,a,i,smA,bo,run_store P w ⟨X.Wg,1,none⟩ (b2 cc ((s.ws:Int)-1)) ce rfl,bA])
   (by simp[bi,bj,b,hc,a,i,smA,a8,ao,ap P w _ ⟨X.Wg,1,none⟩ (b2 cc ((s.ws:Int)-1)) ce rfl,run_store P w ⟨X.Wg,1,none⟩ (b2 cc ((s.ws:Int)-1)) ce rfl,bC]) (a9 _)
def Hf{args:Array Value}(h:az g=some (f,args))(a:args[0]?=some (b5 (some ⟨X.Wg,1,none⟩)))(hb:cw P f nr bd)(b:ShAt X w s)(i:s.ws=0) :
 stepG P mn g w=.go (fin g (b3 #[])) (w.setCell (smA X.Wg) (b2 cc ((1:Nat):Int))) (a8 (smA X.Wg)):=by
 have hc:=vn b;have c:=fM b 1;unfold smA at hc;rw[i]at hc;have e:IntKind.u32.wrap (((0:Nat):Int)+1)=((1:Nat):Int):=by decide
 rw[<-e];exact hb.step h (by simp[bd,bj,a,hc,c,smA,bo,bw,run_store P w ⟨X.Wg,1,none⟩ (b2 cc (IntKind.u32.wrap 1)) ce rfl,bA])
  (by simp[bd,bj,a,hc,c,smA,a8,bw,ao,ap P w _ ⟨X.Wg,1,none⟩ (b2 cc (IntKind.u32.wrap 1)) ce rfl,run_store P w ⟨X.Wg,1,none⟩ (b2 cc (IntKind.u32.wrap 1)) ce rfl,bC]) (a9 _)
end
end Go.Ph
namespace Go.Proofs
open Go.Ph Go.Conc Go.ConcN
open Go.ConcM (MuAt muA msA OsLater muBlock)
open Go.ConcR (KK WgAt stA smA rd wr mk)
set_option maxRecDepth 100000
structure Gk(X:Fix)(V:Vw)(M:Own)(F:World->Prop)(mn:Bool):Prop where
 hP:X.P=PP
 hg:(V.g==0)=mn
 hc:Clear X V M
 hF:∀w w',F w->Rl X V M w w'->F w'
 hL:∀w,F w->Live X w
 hn:X.n<=3
def sM{g:aa}{s d:TypeId}{v:Value}(h:gu g=some (s,d,v)):∃o x,bF g=some o/\o.op=bx s d x/\g.frame.eval x=v:=by
 unfold gu at h
 split at h
 ·rename_i o a
  split at h
  ·rename_i c e x b;simp only[Option.some.injEq,Prod.mk.injEq]at h;obtain⟨rfl,rfl,rfl⟩:=h;exact⟨o,x,a,b,rfl⟩
  ·cases h
 ·cases h
def vo{g:aa}{f:ai}{v:Value}(h:gZ g=some (f,some v)):∃args,az g=some (f,args)/\args[0]?=some v:=by
 unfold gZ at h
 cases hc:az g with
 |none=>rw[hc]at h;cases h
 |some x=>
  obtain⟨a,args⟩:=x;rw[hc]at h;simp only[Option.map_some,Option.some.injEq,Prod.mk.injEq]at h;obtain⟨rfl,h⟩:=h;exact⟨args,rfl,h⟩
section
variable {X:Fix}{V:Vw}{M:Own}{F:World->Prop}{Fin:World->Prop}{Stop:Stp}{d:Nat}{g g':aa}{w:World}{q mn:Bool}
def Gk.aB(L:Gk X V M F mn)(h:fL mn g g')(a:ay X V q Stop M d g' w):ay X V q Stop M d g w:=h.run L.hP L.hg a
def Gk.sG(L:Gk X V M F mn)(a:az g=some (87,#[]))(b:ay X V q Stop M (d+1) (fin g (b3 #[])) w):ay X V q Stop M d g w:=
 .Jo (m:=.disable) L.hc a (by rw[L.hP];exact adr) rfl b
def Gk.en(L:Gk X V M F mn)(a:az g=some (88,#[]))(b:ay X V q Stop M d (fin g (b3 #[])) w):ay X V q Stop M (d+1) g w:=
 .Jo (m:=.enable) L.hc a (by rw[L.hP];exact ads) rfl b
def Gk.idle(L:Gk X V M F mn)(a:az g=some (89,#[]))(b:ay X V q Stop M d (fin g (b4 false)) w):ay X V q Stop M d g w:=
 ay.idle L.hc (aj a).1 λc _=>⟨_,c,#[],(by rw[L.hP];exact ajo:cw X.P 89 false _).step (v:=b4 false) a (by simp) (by simp) (by simp),rfl,rfl,.refl _,rfl,by simp,(aj a).2.2 _,b⟩
def Gk.low(L:Gk X V M F mn)(a:F w):X.Wg<w.heap.size:=by
 obtain⟨_,⟨_,_,k⟩,_⟩:=L.hL _ a;unfold WgAt at k;exact(Array.getElem?_eq_some_iff.1 k).1
def Gk.conv(L:Gk X V M F mn)(a:gu g=some (152,154,pt X.Wg))(b:F w)(c:ay X V q Stop M d (fin g (pt X.Wg)) w):ay X V q Stop M d g w:=by
 obtain⟨o,x,e,f,h⟩:=sM a
 exact .conv L.hc e f h (by rw[L.hP];exact u214) (by rw[L.hP];exact u216) (by rw[L.hP];exact ajx) (λi r=>by
  obtain⟨_,⟨_,_,k⟩,_⟩:=L.hL _ (L.hF _ _ b r);unfold WgAt bM at k
  exact⟨_,by simp[bT,k];rfl⟩) c
def Gk.Xc(L:Gk X V M F mn)(a:gu g=some (160,154,b5 (some ⟨X.Wg,1,none⟩)))(b:F w)(c:ay X V q Stop M d (fin g (b5 (some ⟨X.Wg,1,none⟩))) w):ay X V q Stop M d g w:=by
 obtain⟨o,x,e,f,h⟩:=sM a;obtain⟨t,k1,k2⟩:=u222
 exact .conv L.hc e f h (by rw[L.hP];exact k1) (by rw[L.hP];exact u216) (by rw[L.hP];exact k2) (λi r=>by
  obtain⟨_,⟨_,_,k⟩,_⟩:=L.hL _ (L.hF _ _ b r);unfold WgAt bM at k
  exact⟨_,by simp[bT,k];rfl⟩) c
def PS(L:Gk X V M F mn)(h:X.Wg<w.heap.size):∀e∈(#[⟨cd (stA X.Wg),false,true⟩,⟨cd (stA X.Wg),true,true⟩]:Array Event),jG X V M w.heap.size e:=by
 have:=L.hP;intro e a;simp at a
 rcases a with rfl|rfl<;>exact eo (b8 rfl) h
def xQ(L:Gk X V M F mn)(h:X.Wg<w.heap.size)(wr:Bool):∀e∈(#[⟨cd (stA X.Wg),wr,true⟩]:Array Event),jG X V M w.heap.size e:=by
 have:=L.hP;intro e a;simp at a;subst a;exact eo (b8 rfl) h
def PT(L:Gk X V M F mn)(h:X.Wg<w.heap.size):∀e∈a8 (smA X.Wg),jG X V M w.heap.size e:=by
 have:=L.hP;intro e a;simp[a8]at a
 rcases a with rfl|rfl|rfl|rfl
 ·exact lX rfl
 ·exact eo (b8 rfl) h
 ·exact eo (b8 rfl) h
 ·exact lX rfl
def MF(L:Gk X V M F false)(u:∀w,F w->Fin w)(a:Array Value)(b:List Item)(k:F w):ay X V false (O0 X V Fin) M 0 (dE X.Wg a b) w:=by
 have x:∀w,F w->ay X V true (AtD4 X V) M 1 (d7 X.Wg a b) w:=λw k=>.stop λn r=>by
  obtain⟨args,c,y⟩:=vo (aiU X.Wg a b);refine⟨(aj c).1,(aj c).2.1,λ_=>by rw[L.hP];exact aiV X.Wg a b,λs f m=>?_⟩;have l:=f.setWs L.hc.ids 1;obtain⟨o,p⟩:=uz (q:=true) L.hc (b8 rfl) _ l;exact⟨_,_,_,M,1,Hf c y (by rw[L.hP];exact ajr:cw X.P 98 true _) f m.2.2,l,p 1 _ (PT L (lC f)) (λ_ j e h=>ae7 0 h),(aj c).2.2 _,400,by rw[L.hP];exact ajn X.Wg a b⟩
 have z:∀w,F w->ay X V true (AtD3 X V) M 1 (d6 X.Wg a b) w:=λw k=>.stop λn r=>by
  have c:=aiT X.Wg a b;refine⟨(aj c).1,(aj c).2.1,λh=>(by cases h),λs f m=>?_⟩;have l:=f.setWg L.hc.ids 0 0;have e:({ s with v:=0,wt:=0 }:Sh)={ s with wt:=0 }:=by rw[<-m.1]
  have st:=B6 (mn:=V.g==0) c (by rw[L.hP];exact ajt:cw X.P 114 true _) f;obtain⟨o,p⟩:=uz (q:=true) L.hc (b8 rfl) _ l;rw[e]at l;exact⟨_,_,_,M,1,st,l,p 1 _ (xQ L (lC f) true) (λ_ j e h=>Xb 0 h),(aj c).2.2 _,L.aB (d_6 X.Wg a b) (x _ (L.hF _ _ (L.hF _ _ k r) o))⟩
 have A:∀w,F w->ay X V true (AtD2 X V) M 1 (d5 X.Wg a b) w:=λw k=>.stop λn r=>by
  have c:=aiS X.Wg a b;refine⟨(aj c).1,(aj c).2.1,λh=>(by cases h),λs f m=>?_⟩;have st:=oV (mn:=V.g==0) c (by rw[L.hP];exact Zl:cw X.P 113 true _) f;have e:vP s.v s.wt=1:=by rw[m.1,m.2.1];rfl
  rw[e]at st;exact⟨_,n,_,M,1,st,f,jI L.hc.ids rfl rfl (.refl _) rfl (λ_ _ _=>rfl) (xQ L (lC f) false) (λ_ j e h=>Xb 0 h),(aj c).2.2 _,L.aB (d_5 X.Wg a b) (z _ (L.hF _ _ k r))⟩
 have B:∀w,F w->ay X V true (AtD1 X V) M 1 (d4 X.Wg a b) w:=λw k=>.stop λn r=>by
  have c:=aiR X.Wg a b;refine⟨(aj c).1,(aj c).2.1,λh=>(by cases h),λs f m=>?_⟩;obtain⟨D,E,H,I⟩:=m;have J:=L.hn;have C:IntKind.u64.wrap (vP s.v s.wt+18446744069414584320)=vP (s.v-1) s.wt:=by
   obtain h|h|h:s.v=1\/s.v=2\/s.v=3:=by omega
   all_goals
    obtain i|i:s.wt=0\/s.wt=1:=by omega
    all_goals (rw[h,i];decide)
  have l:=f.setWg L.hc.ids (s.v-1) s.wt;have st:=xP (mn:=V.g==0) c (by rw[L.hP];exact ae4:cw X.P 112 true _) f C;obtain⟨o,p⟩:=uz (q:=true) L.hc (b8 rfl) _ l;refine⟨_,_,_,M,1,st,l,p 1 _ (PS L (lC f)) (λ_ j e h=>ae6 0 h),(aj c).2.2 _,?_⟩;by_cases hv:s.v=1/\s.wt=1
  ·simp only[hv,and_self,if_true];rw[show vP (1-1) 1=1 from rfl];exact L.aB (d_4 X.Wg a b) (A _ (by rw[hv.1,hv.2]at o;exact L.hF _ _ (L.hF _ _ k r) o))
  ·simp only[if_neg hv];refine⟨400,?_⟩;rw[L.hP];obtain h|h|h:s.v=1\/s.v=2\/s.v=3:=by omega
   ·obtain i:s.wt=0:=by omega
    rw[h,i];exact adZ X.Wg a b
   ·obtain i|i:s.wt=0\/s.wt=1:=by omega
    ·rw[h,i];exact ae0 X.Wg a b
    ·rw[h,i];exact ae1 X.Wg a b
   ·obtain i|i:s.wt=0\/s.wt=1:=by omega
    ·rw[h,i];exact ae2 X.Wg a b
    ·rw[h,i];exact ae3 X.Wg a b
 refine L.aB (d_E X.Wg a b) (L.conv (aiN X.Wg a b) k (L.aB (d_0 X.Wg a b) (.stop λn r=>?_)));have c:=aiO X.Wg a b;have t:=L.hF _ _ k r;refine⟨(aj c).1,rfl,u _ t,_,kM (mk':=.releaseMerge) (ad:=⟨X.Wg,0,none⟩) c (by rw[L.hP];exact adt:cw X.P 86 false _) (λ_ _ h=>by cases h) rfl,(aj c).2.2 _,?_⟩;exact L.aB (d_1 X.Wg a b) (L.sG (aiP X.Wg a b) (L.aB (d_2 X.Wg a b) (L.idle (aiQ X.Wg a b) (L.aB (d_3 X.Wg a b) (B _ t)))))
end
open Go.cD (Wd Th Mv Safe Head eR spin qZ)
structure Lk(X:Fix)(V:Vw)(M:Own)(F:World->Prop):Prop where
 hP:X.P=PP
 hg:(V.g==0)=false
 hc:Clear X V M
 hF:∀w w',F w->Rl X V M w w'->F w'
 hL:∀w,F w->Live X w
 hn:X.n<=3
def kO{g:aa}{t:TypeId}{v:Value}(h:fj g=some (t,v)):∃o x,bF g=some o/\o.op=.load t x/\g.frame.eval x=v:=by
 unfold fj at h
 grind
def D6{g:aa}{s d:TypeId}{v:Value}(h:gu g=some (s,d,v)):∃o x,bF g=some o/\o.op=bx s d x/\g.frame.eval x=v:=by
 unfold gu at h
 grind
def xR{g:aa}{f:ai}{v:Value}(h:gZ g=some (f,some v)):∃args,az g=some (f,args)/\args[0]?=some v:=by
 unfold gZ at h
 cases hc:az g with
 |none=>rw[hc]at h;cases h
 |some x=>
  grind
section
variable {X:Fix}{V:Vw}{M:Own}{F:World->Prop}{Fin:World->Prop}{Stop:Stp}{d:Nat}{g g':aa}{w:World}{q:Bool}
def Lk.aB(L:Lk X V M F)(h:gm g g')(a:ay X V q Stop M d g' w):ay X V q Stop M d g w:=h.run L.hP L.hg a
def Lk.sG(L:Lk X V M F)(a:az g=some (87,#[]))(b:ay X V q Stop M (d+1) (fin g (b3 #[])) w):ay X V q Stop M d g w:=
 .Jo (m:=.disable) L.hc a (by rw[L.hP];exact adr) rfl b
def Lk.en(L:Lk X V M F)(a:az g=some (88,#[]))(b:ay X V q Stop M d (fin g (b3 #[])) w):ay X V q Stop M (d+1) g w:=
 .Jo (m:=.enable) L.hc a (by rw[L.hP];exact ads) rfl b
def Lk.conv(L:Lk X V M F)(a:gu g=some (182,154,pt X.Mu))(b:F w)(c:ay X V q Stop M d (fin g (pt X.Mu)) w):ay X V q Stop M d g w:=by
 obtain⟨o,x,e,f,h⟩:=D6 a
 exact .conv L.hc e f h (by rw[L.hP];exact u237) (by rw[L.hP];exact u216) (by rw[L.hP];exact aiM) (λi r=>by
  obtain⟨⟨_,_,k⟩,_⟩:=L.hL _ (L.hF _ _ b r)
  exact⟨_,k.cellSt⟩) c
def Lk.low(L:Lk X V M F)(a:F w):X.Mu<w.heap.size:=by
 obtain⟨⟨_,_,k⟩,_⟩:=L.hL _ a;unfold MuAt at k
 grind
def Lk.acq(L:Lk X V M F)(a:az g=some (101,#[pt X.Mu]))(b:F w)(c:ay X V q Stop M d (fin g (b3 #[])) w):ay X V q Stop M d g w:=
 .Pe (mk':=.acquire) (ad:=⟨X.Mu,0,none⟩) L.hc a (by rw[L.hP];exact adu) (λ_ _ h=>by cases h) rfl (λe r=>⟨uq rfl (λh=>by cases h) (L.low (L.hF _ _ b r)),rfl⟩) (λ_=>rfl) c
def Lk.ajy(L:Lk X V M F)(a:az g=some (86,#[pt X.Mu]))(b:F w)(c:ay X V q Stop M d (fin g (b3 #[])) w):ay X V q Stop M d g w:=
 .Pe (mk':=.releaseMerge) (ad:=⟨X.Mu,0,none⟩) L.hc a (by rw[L.hP];exact adt) (λ_ _ h=>by cases h) rfl (λe r=>⟨uq rfl (λh=>by cases h) (L.low (L.hF _ _ b r)),rfl⟩) (λ_=>rfl) c
def Lk.nano(L:Lk X V M F)(a:az g=some (125,#[]))(b:∀n:Nat,ay X V q Stop M d (fin g (b2 ca (n:Int))) w):ay X V q Stop M d g w:=
 .nano L.hc a (by rw[L.hP];exact aiJ) b
def Lk.ae8(L:Lk X V M F){n:Int}(a:az g=some (122,#[b2 ca n]))(c:∀b:Bool,(b=true->n<4)->ay X V q Stop M d (fin g (b4 b)) w):ay X V q Stop M d g w:=
 .canSpin L.hc a (by rw[L.hP];exact aiH) c
def Lk.spins(L:Lk X V M F)(a:az g=some (123,#[]))(b:ay X V q Stop M d (fin g (b3 #[])) w):ay X V q Stop M d g w:=
 .nothing L.hc a (by rw[L.hP];exact aiI) b
def PV(X:Fix)(c0:Frame)(cs:List Frame)(T:Th)(g:aa):Prop:=
 let up:=iw X.Mu c0 cs
 T.old.k<=3/\match T.pc with
 |.l0=>g=y1 X.Mu c0 cs
 |.r0=>T.aw=false/\T.sv=false/\T.it=0/\∃f a,g=S7 (A7 X.Mu f (b2 ca 0) false false (b2 ca 0) a) zr0.frame.todo up/\fj g=some (21,pt X.Mu)
 |.c1=>T.it<4/\T.aw=false/\T.old.l=true/\T.old.w=false/\T.old.s=false/\∃f,∃t:Nat,g=S7 (A7 X.Mu (px 33 (b4 true) f) (b2 ca (t:Int)) T.sv false (b2 ca (T.it:Int)) (wv T.old)) zc1.frame.todo up/\az g=some (115,#[pt X.Mu,wv T.old,wv { T.old with w:=true }])
 |.r1=>T.it<4/\∃f,∃t:Nat,g=S7 (A7 X.Mu f (b2 ca (t:Int)) T.sv T.aw (b2 ca ((T.it+1:Nat):Int)) (wv T.old)) zr1.frame.todo up/\fj g=some (21,pt X.Mu)
 |.c2=>T.it<=4/\∃f,∃t:Nat,g=S7 (A7 X.Mu f (b2 ca (t:Int)) T.sv T.aw (b2 ca (T.it:Int)) (wv T.old)) xI.frame.todo up/\az g=some (115,#[pt X.Mu,wv T.old,wv T.nw])
 |.r3=>T.it<=4/\∃f,∃t:Nat,g=S7 (A7 X.Mu f (b2 ca (t:Int)) T.sv T.aw (b2 ca (T.it:Int)) (wv T.old)) zr3.frame.todo up/\fj g=some (21,pt X.Mu)
 |.s1=>∃f,∃t:Nat,∃b it a,g=S7 (A7 X.Mu f (b2 ca (t:Int)) T.sv b it a) FD.frame.todo up/\gZ g=some (126,some (b5 (some ⟨X.Mu,1,none⟩)))
 |.r2=>∃f,∃t:Nat,∃b it a,g=S7 (A7 X.Mu f (b2 ca (t:Int)) T.sv b it a) WT.frame.todo up/\fj g=some (21,pt X.Mu)
 |.a1=>∃f,∃st b it a,g=S7 (A7 X.Mu f st T.sv b it a) za1.frame.todo up/\az g=some (117,#[pt X.Mu,b2 cb (if T.ex then -11 else -7)])
 |_=>False
variable {c0:Frame}{cs:List Frame}{k:Nat}
def MG(X:Fix)(V:Vw)(Fin:World->Prop)(M:Own)(F:World->Prop)(c0:Frame)(cs:List Frame)(r k:Nat):Prop:=∀T g w,T.r=r->PV X c0 cs T g->F w->iF X V Fin k T M 1 g w
def ae9{T T':Th}(h:T.pc≠.out)(a:Alt T T')(b:iF X V Fin k T' M d g w):eU X V Fin k T M d g w:=by
 unfold eU
 grind
def MG.run{r:Nat}(A:MG X V Fin M F c0 cs r k)(L:Lk X V M F){T T':Th}(b:T.r=r)(c:T'.pc≠.out)(a:Alt T' T)(h:PV X c0 cs T g)(e:F w):ay X V false (eU X V Fin k T') M 1 g w:=
 .stop λf i=>ae9 c a (A T g f b h (L.hF _ _ e i))
def sO{r:Nat}(A:MG X V Fin M F c0 cs r k)(L:Lk X V M F){T:Th}(E:T.r=r)(m:T.old.k<=3)(C:T.aw=true->T.old.w=true)(hi:T.it<=4)(f:Nat->Value)(t:Nat)(H:F w) :
 ay X V false (eU X V Fin k (eR T)) M 1 (S7 (A7 X.Mu f (b2 ca (t:Int)) T.sv T.aw (b2 ca (T.it:Int)) (wv T.old)) CE.frame.todo (iw X.Mu c0 cs)) w:=by
 obtain⟨N,hd⟩:=ada X.Mu f (iw X.Mu c0 cs) (b2 ca (t:Int)) (b2 ca (T.it:Int)) (wv T.old) T.sv T.aw;obtain⟨pc,⟨l,c,s,n⟩,o,i,a,it,ex,p⟩:=T;simp only at E m C hi N hd;have I:(eR ⟨pc,⟨l,c,s,n⟩,o,i,a,it,ex,p⟩).pc≠.out:=by simp[eR]
 have go:∀g',gm (nx PP false (S7 (A7 X.Mu f (b2 ca (t:Int)) a i (b2 ca (it:Int)) (wv ⟨l,c,s,n⟩)) CE.frame.todo (iw X.Mu c0 cs))) g'->ay X V false (eU X V Fin k (eR ⟨pc,⟨l,c,s,n⟩,o,i,a,it,ex,p⟩)) M 1 g' w->
  ay X V false (eU X V Fin k (eR ⟨pc,⟨l,c,s,n⟩,o,i,a,it,ex,p⟩)) M 1 (S7 (A7 X.Mu f (b2 ca (t:Int)) a i (b2 ca (it:Int)) (wv ⟨l,c,s,n⟩)) CE.frame.todo (iw X.Mu c0 cs)) w:=
  λg' h Q=>YQ.run ⟨N,hd,h⟩ L.hP L.hg Q
 have u:∀j,az (S7 (A7 X.Mu j (b2 ca (t:Int)) a i (b2 ca (it:Int)) (wv ⟨l,c,s,n⟩)) xI.frame.todo (iw X.Mu c0 cs))=some (115,#[pt X.Mu,wv ⟨l,c,s,n⟩,wv (qZ { pc:=.c2,old:=⟨l,c,s,n⟩,aw:=i,sv:=a,r:=0 })])->
  ay X V false (eU X V Fin k (eR ⟨pc,⟨l,c,s,n⟩,o,i,a,it,ex,p⟩)) M 1 (S7 (A7 X.Mu j (b2 ca (t:Int)) a i (b2 ca (it:Int)) (wv ⟨l,c,s,n⟩)) xI.frame.todo (iw X.Mu c0 cs)) w:=
  λj h=>A.run L (T:=eR ⟨pc,⟨l,c,s,n⟩,o,i,a,it,ex,p⟩) E I (.refl _) ⟨m,hi,j,t,rfl,h⟩ H
 by_cases R:l=true/\s=false
 ·obtain⟨rfl,rfl⟩:=R;obtain⟨j,y,z⟩:=YS X.Mu f (iw X.Mu c0 cs) (b2 ca (t:Int)) (b2 ca (it:Int)) a i c n m;refine go _ y (L.ae8 z λb hb=>?_)
  cases b with
  |false=>
   obtain⟨D,v,x⟩:=Uh X.Mu j (iw X.Mu c0 cs) (b2 ca (t:Int)) (b2 ca (it:Int)) a i c n m C;exact L.aB v (u _ x)
  |true=>
   have J:it<4:=by have:=hb rfl;omega
   have alt:Alt (eR ⟨pc,⟨true,c,false,n⟩,o,i,a,it,ex,p⟩) (spin ⟨pc,⟨true,c,false,n⟩,o,i,a,it,ex,p⟩):=.head _ _ (.spin rfl rfl J) C;have B:∀j,az (S7 (A7 X.Mu j (b2 ca (t:Int)) a i (b2 ca (it:Int)) (wv ⟨true,c,false,n⟩)) FC.frame.todo (iw X.Mu c0 cs))=some (123,#[])->(spin ⟨pc,⟨true,c,false,n⟩,o,i,a,it,ex,p⟩).pc=.r1->
    ay X V false (eU X V Fin k (eR ⟨pc,⟨true,c,false,n⟩,o,i,a,it,ex,p⟩)) M 1 (S7 (A7 X.Mu j (b2 ca (t:Int)) a i (b2 ca (it:Int)) (wv ⟨true,c,false,n⟩)) FC.frame.todo (iw X.Mu c0 cs)) w:=by
    intro j S U;refine L.spins S ?_;obtain⟨W,O,P⟩:=adf X.Mu j (iw X.Mu c0 cs) (b2 ca (t:Int)) (wv ⟨true,c,false,n⟩) (it:Int) a i;have e:IntKind.i64.wrap ((it:Int)+1)=((it+1:Nat):Int):=by
     obtain h|h|h|h:it=0\/it=1\/it=2\/it=3:=by omega
     all_goals (rw[h];decide)
    rw[e]at O P;refine L.aB O (A.run L (T:=spin ⟨pc,⟨true,c,false,n⟩,o,i,a,it,ex,p⟩) E I alt ⟨m,?_⟩ H);rw[U];exact⟨J,W,t,rfl,P⟩
   cases i with
   |true=>
    obtain⟨D,v,x⟩:=YT X.Mu j (iw X.Mu c0 cs) (b2 ca (t:Int)) (b2 ca (it:Int)) a c n m;exact L.aB v (B _ x (by simp[spin]))
   |false=>
    cases c with
    |true=>
     obtain⟨D,v,x⟩:=YU X.Mu j (iw X.Mu c0 cs) (b2 ca (t:Int)) (b2 ca (it:Int)) a n m;exact L.aB v (B _ x (by simp[spin]))
    |false=>
     by_cases K:n=0
     ·subst K;obtain⟨D,v,x⟩:=YV X.Mu j (iw X.Mu c0 cs) (b2 ca (t:Int)) (b2 ca (it:Int)) a;exact L.aB v (B _ x (by simp[spin]))
     ·obtain⟨D,v,x⟩:=aio X.Mu j (iw X.Mu c0 cs) (b2 ca (t:Int)) (b2 ca (it:Int)) a n m K;refine L.aB v (A.run L (T:=spin ⟨pc,⟨true,false,false,n⟩,o,false,a,it,ex,p⟩) E I alt ⟨m,?_⟩ H);have:(spin ⟨pc,⟨true,false,false,n⟩,o,false,a,it,ex,p⟩).pc=.c1:=by simp[spin,K]
      rw[this];exact⟨J,rfl,rfl,rfl,rfl,D,t,rfl,x⟩
 ·cases l with
  |false=>
   cases s with
   |false=>
    obtain⟨j,y,z⟩:=Ue X.Mu f (iw X.Mu c0 cs) (b2 ca (t:Int)) (b2 ca (it:Int)) a i c n m C;exact go _ y (u _ z)
   |true=>
    obtain⟨j,y,z⟩:=Uf X.Mu f (iw X.Mu c0 cs) (b2 ca (t:Int)) (b2 ca (it:Int)) a i c n m C;exact go _ y (u _ z)
  |true=>
   cases s with
   |false=>grind
   |true=>
    obtain⟨j,y,z⟩:=Ug X.Mu f (iw X.Mu c0 cs) (b2 ca (t:Int)) (b2 ca (it:Int)) a i c n m C;exact go _ y (u _ z)
end
end Go.Proofs
namespace Go.Proofs
open Go.Ph Go.Conc Go.ConcN
open Go.ConcM (MuAt muA msA OsLater muBlock)
open Go.ConcR (KK WgAt stA smA rd wr mk)
open Go.cD (Wd Th Mv Head eR spin qZ)
set_option maxRecDepth 100000
def aea(m:Nat)(c0:Frame)(cs:List Frame):az (y1 m c0 cs)=some (115,#[pt m,wv {},wv { l:=true }]):=by kernel_rfl
def xS{x:Wd}{l w s:Bool}(a:x.l=l)(b:x.w=w)(c:x.s=s):x=⟨l,w,s,x.k⟩:=by
 subst a b c;rfl
section
variable {X:Fix}{V:Vw}{M:Own}{F:World->Prop}{Fin:World->Prop}{d:Nat}{g:aa}{w:World}{k:Nat}{T:Th}
def B7(b:g.status=.running/\g.offers=none)(c:T.pc≠.us)(f:T.pc≠.s1)
 (H:∀s,ShAt X w s->cD.Safe T s.mw->s.mw.k<=X.n->s.ms<=1->∃T' a ms' g' w' es,Mv s.mw s.ms T T' a ms'/\stepG X.P (V.g==0) g w=.go g' w' es/\ShAt X w' { s with mw:=a,ms:=ms' }/\
   Dl X V false M d w w' es M d/\g'.status=.running/\ay X V false (eU X V Fin k T') M d g' w'):iF X V Fin (k+1) T M d g w:=by
 unfold iF;refine⟨b.1,b.2,λe=>absurd e c,λs h i j l=>⟨λe=>absurd e.1 f,λ_=>?_⟩⟩;obtain⟨T',a,ms',g',w',es,a1,a2,a3,a4,m,o⟩:=H s h i j l;exact⟨T',a,ms',g',w',es,M,d,a1,a2,a3,a4,m,o⟩
def sP(L:Lk X V M F)(h:fj g=some (21,pt X.Mu))(c:(PP.funcs[g.frame.fn]?).any (·.norace)=true)(e:T.pc≠.us)(f:T.pc≠.s1)
 (H:∀s:Sh,cD.Safe T s.mw->s.mw.k<=3->∃T',Mv s.mw s.ms T T' s.mw s.ms/\ay X V false (eU X V Fin k T') M d (fin g (wv s.mw)) w):iF X V Fin (k+1) T M d g w:=by
 obtain⟨o,x,a,i,j⟩:=kO h;refine B7 ⟨(aK a).1,(aK a).2.1⟩ e f λs b l m n=>?_;obtain⟨T',a1,a2⟩:=H s l (Nat.le_trans m L.hn);exact⟨T',s.mw,s.ms,_,w,#[],a1,xG a i j (by rw[L.hP];exact u21) b.1.cellSt (by rw[L.hP];exact c),b,JC L.hc d w #[] (by simp),(aK a).2.2 _,a2⟩
def B8(L:Lk X V M F){old nw:Wd}(h:az g=some (115,#[pt X.Mu,wv old,wv nw]))(c:T.pc≠.us)(f:T.pc≠.s1)(i:F w)
 (H:∀s:Sh,cD.Safe T s.mw->s.mw.k<=3->(s.mw=old->∃T',Mv s.mw s.ms T T' nw s.ms/\∀w',F w'->ay X V false (eU X V Fin k T') M d (fin g (b4 true)) w')/\
   (s.mw≠old->∃T',Mv s.mw s.ms T T' s.mw s.ms/\ay X V false (eU X V Fin k T') M d (fin g (b4 false)) w)):iF X V Fin (k+1) T M d g w:=by
 refine B7 ⟨(aj h).1,(aj h).2.1⟩ c f λs a j l q=>?_;obtain⟨m,n⟩:=H s j (Nat.le_trans l L.hn);by_cases e:s.mw=old
 ·obtain⟨T',a1,a2⟩:=m e;subst e;have b:=a.setMu L.hc.ids nw;obtain⟨o,p⟩:=sL L.hc (b6 rfl) _ b;exact⟨T',nw,s.ms,_,_,_,a1,DZ h (by rw[L.hP];exact adw) a,b,p d _ (PR (xO a)),(aj h).2.2 _,a2 _ (L.hF _ _ i o)⟩
 ·obtain⟨T',a1,a2⟩:=n e;exact⟨T',s.mw,s.ms,_,w,_,a1,B5 h (by rw[L.hP];exact adw) a e,a,JC L.hc d w _ (ae5 (xO a)),(aj h).2.2 _,a2⟩
def PW(L:Lk X V M F){n:Int}(h:az g=some (117,#[pt X.Mu,b2 cb n]))(c:T.pc≠.us)(e:T.pc≠.s1)(f:F w)
 (H:∀s:Sh,cD.Safe T s.mw->s.mw.k<=3->∃T' x,IntKind.i32.wrap (((s.mw.num:Nat):Int)+n)=((x.num:Nat):Int)/\Mv s.mw s.ms T T' x s.ms/\∀w',F w'->ay X V false (eU X V Fin k T') M d (fin g (wv x)) w'):iF X V Fin (k+1) T M d g w:=by
 refine B7 ⟨(aj h).1,(aj h).2.1⟩ c e λs a i j o=>?_;obtain⟨T',x,a0,a1,a2⟩:=H s i (Nat.le_trans j L.hn);have b:=a.setMu L.hc.ids x;obtain⟨l,m⟩:=sL L.hc (b6 rfl) _ b;exact⟨T',x,s.ms,_,_,_,a1,PO h (by rw[L.hP];exact aiG) a a0,b,m d _ (PR (xO a)),(aj h).2.2 _,a2 _ (L.hF _ _ f l)⟩
def Zn(L:Lk X V M F)(h:gZ g=some (126,some (b5 (some ⟨X.Mu,1,none⟩))))(a:T.pc=.s1)(l:F w)
 (H:∀s:Sh,cD.Safe T s.mw->s.ms≠0->∃T',Mv s.mw s.ms T T' s.mw (s.ms-1)/\∀w',F w'->ay X V false (eU X V Fin k T') M d (fin g (b3 #[])) w'):iF X V Fin (k+1) T M d g w:=by
 obtain⟨args,b,i⟩:=xR h;unfold iF;refine⟨(aj b).1,(aj b).2.1,λe=>(by rw[a]at e;cases e),λs c m p q=>⟨λe=>?_,λe=>?_⟩⟩
 ·have:=D5 (mn:=V.g==0) b i (by rw[L.hP];exact adx:cw X.P 126 true _) c;rwa[if_pos e.2]at this
 ·have f:s.ms≠0:=λf=>e ⟨a,f⟩;obtain⟨T',a1,a2⟩:=H s m f;have st:=D5 (mn:=V.g==0) b i (by rw[L.hP];exact adx:cw X.P 126 true _) c;rw[if_neg f]at st;have j:=c.setMs L.hc.ids (s.ms-1);obtain⟨n,o⟩:=sL L.hc (b6 rfl) _ j;exact⟨T',s.mw,s.ms-1,_,_,_,M,d,a1,st,j,o d _ (JD (xO c)),(aj b).2.2 _,a2 _ (L.hF _ _ l n)⟩
variable {c0:Frame}{cs:List Frame}
def uA(X:Fix)(V:Vw)(Fin:World->Prop)(M:Own)(F:World->Prop)(c0:Frame)(cs:List Frame)(r:Nat):Prop:=∀k w,F w->ay X V false (eU X V Fin k { pc:=.u0,r:=r }) M 0 (G (c0.finish (b3 #[])) cs) w
def aeb{r:Nat}(L:Lk X V M F)(e:uA X V Fin M F c0 cs r)(f:Nat->Value)(st:Value)(a b:Bool)(it old:Value)(w:World)(c:F w)(hc:az (S7 (A7 X.Mu f st a b it old) WU.frame.todo (iw X.Mu c0 cs))=some (88,#[])) :
 ay X V false (eU X V Fin k { pc:=.u0,r:=r }) M 1 (S7 (A7 X.Mu f st a b it old) WU.frame.todo (iw X.Mu c0 cs)) w:=by
 refine L.en hc ?_;obtain⟨h,a1,a2⟩:=ais X.Mu f (iw X.Mu c0 cs) st it old a b;refine L.aB a1 (L.conv a2 c ?_);obtain⟨i,a3,a4⟩:=ait X.Mu h (iw X.Mu c0 cs) st it old a b;exact L.aB a3 (L.acq a4 c ((l_e X.Mu c0 cs i st it old a b).run L.hP L.hg (e k w c)))
def Zo{a:Nat}(L:Lk X V M F)(m:uA X V Fin M F c0 cs a)(A:MG X V Fin M F c0 cs a k){old nw:Wd}{f i:Bool}{it:Nat}{ex:Bool}(o:old.k<=3)(h:PV X c0 cs ⟨.l0,old,nw,f,i,it,ex,a⟩ g)(j:F w) :
 iF X V Fin (k+1) ⟨.l0,old,nw,f,i,it,ex,a⟩ M 1 g w:=by
 have b:g=y1 X.Mu c0 cs:=h.2;have hl:=aea X.Mu c0 cs;rw[<-b]at hl;refine B8 L (old:={}) (nw:={ l:=true }) hl (λh=>by cases h) (λh=>by cases h) j λs _ _=>⟨λe=>⟨_,.lock _ rfl e,λw' c=>?_⟩,λe=>⟨_,.acJ _ rfl e,?_⟩⟩
 ·rw[b];refine L.aB (l_1 X.Mu c0 cs) (L.en (aiv X.Mu c0 cs) (L.aB (l_2 X.Mu c0 cs) (L.conv (aiw X.Mu c0 cs) c (L.aB (l_3 X.Mu c0 cs) (L.acq (aix X.Mu c0 cs) c ((l_4 X.Mu c0 cs).run L.hP L.hg (m k w' c)))))))
 ·rw[b];obtain⟨n,a1,a2⟩:=l_s X.Mu c0 cs;exact L.aB a1 (A.run L (T:={ pc:=.r0,r:=a }) rfl (by simp) (.refl _) ⟨by simp,rfl,rfl,rfl,n,undef,rfl,a2⟩ j)
def Zp{a:Nat}(L:Lk X V M F)(j:uA X V Fin M F c0 cs a)(A:MG X V Fin M F c0 cs a k){old nw:Wd}{b c:Bool}{it:Nat}{ex:Bool}(l:old.k<=3)(h:PV X c0 cs ⟨.r0,old,nw,b,c,it,ex,a⟩ g)(e:F w) :
 iF X V Fin (k+1) ⟨.r0,old,nw,b,c,it,ex,a⟩ M 1 g w:=by
 replace h:=h.2;obtain⟨rfl,rfl,rfl,f,o,rfl,hl⟩:=h;refine sP L hl Js (λh=>by cases h) (λh=>by cases h) λs _ hs=>⟨_,.Ws _ _ rfl .c2,?_⟩
 obtain⟨i,a1,a2⟩:=ail X.Mu f (iw X.Mu c0 cs) (b2 ca 0) (b2 ca 0) o (wv s.mw) false false;exact L.aB a1 (sO A L (T:={ pc:=.r0,old:=s.mw,r:=a }) rfl hs (by simp) (by simp) i 0 e)
def Zq{b:Nat}(L:Lk X V M F)(x:uA X V Fin M F c0 cs b)(A:MG X V Fin M F c0 cs b k){old nw:Wd}{m a:Bool}{it:Nat}{ex:Bool}(r:old.k<=3)(h:PV X c0 cs ⟨.c1,old,nw,m,a,it,ex,b⟩ g)(n:F w) :
 iF X V Fin (k+1) ⟨.c1,old,nw,m,a,it,ex,b⟩ M 1 g w:=by
 replace h:=h.2;obtain⟨o,rfl,y,z,B,f,t,rfl,hc⟩:=h;have j:∀c i w',F w'->az (S7 (A7 X.Mu i (b2 ca (t:Int)) a c (b2 ca (it:Int)) (wv old)) FC.frame.todo (iw X.Mu c0 cs))=some (123,#[])->
  ay X V false (eU X V Fin k ⟨.r1,old,nw,c,a,it,ex,b⟩) M 1 (S7 (A7 X.Mu i (b2 ca (t:Int)) a c (b2 ca (it:Int)) (wv old)) FC.frame.todo (iw X.Mu c0 cs)) w':=by
  intro c i w' l u;refine L.spins u ?_;obtain⟨v,p,q⟩:=adf X.Mu i (iw X.Mu c0 cs) (b2 ca (t:Int)) (wv old) (it:Int) a c;have e:IntKind.i64.wrap ((it:Int)+1)=((it+1:Nat):Int):=by
   obtain h|h|h|h:it=0\/it=1\/it=2\/it=3:=by simp only at o;omega
   all_goals (rw[h];decide)
  rw[e]at p q;exact L.aB p (A.run L (T:=⟨.r1,old,nw,c,a,it,ex,b⟩) rfl (by simp) (.refl _) ⟨r,o,v,t,rfl,q⟩ l)
 refine B8 L hc (λh=>by cases h) (λh=>by cases h) n λs C _=>⟨λe=>⟨⟨.r1,old,nw,true,a,it,ex,b⟩,?_,λw' l=>?_⟩,λe=>⟨_,.Wu _ rfl e,?_⟩⟩
 ·have:=Mv.Wt (w:=s.mw) (ms:=s.ms) (⟨.c1,old,nw,false,a,it,ex,b⟩:Th) rfl e
  grind
 ·obtain⟨i,a1,a2⟩:=adb X.Mu f (iw X.Mu c0 cs) (b2 ca (t:Int)) (b2 ca (it:Int)) (wv old) a false;exact L.aB a1 (j _ _ _ l a2)
 ·obtain⟨i,a1,a2⟩:=ade X.Mu f (iw X.Mu c0 cs) (b2 ca (t:Int)) (b2 ca (it:Int)) (wv old) a false;exact L.aB a1 (j _ _ _ n a2)
def Zr{a:Nat}(L:Lk X V M F)(n:uA X V Fin M F c0 cs a)(A:MG X V Fin M F c0 cs a k){old nw:Wd}{b c:Bool}{it:Nat}{ex:Bool}(o:old.k<=3)(h:PV X c0 cs ⟨.r1,old,nw,b,c,it,ex,a⟩ g)(i:F w) :
 iF X V Fin (k+1) ⟨.r1,old,nw,b,c,it,ex,a⟩ M 1 g w:=by
 replace h:=h.2;obtain⟨j,f,t,rfl,hl⟩:=h;refine sP L hl Js (λh=>by cases h) (λh=>by cases h) λs l hs=>⟨_,.Wv _ _ rfl .c2,?_⟩
 obtain⟨m,a1,a2⟩:=aim X.Mu f (iw X.Mu c0 cs) (b2 ca (t:Int)) (b2 ca ((it+1:Nat):Int)) (wv old) (wv s.mw) c b;exact L.aB a1 (sO A L (T:=⟨.r1,s.mw,nw,b,c,it+1,ex,a⟩) rfl hs (λe=>(l.aw e).1) (by simp only at j ⊢;omega) m t i)
def Zs{o:Nat}(L:Lk X V M F)(C:uA X V Fin M F c0 cs o)(A:MG X V Fin M F c0 cs o k){old nw:Wd}{b a:Bool}{it:Nat}{ex:Bool}(m:old.k<=3)(h:PV X c0 cs ⟨.c2,old,nw,b,a,it,ex,o⟩ g)(B:F w) :
 iF X V Fin (k+1) ⟨.c2,old,nw,b,a,it,ex,o⟩ M 1 g w:=by
 replace h:=h.2;obtain⟨D,f,t,rfl,hc⟩:=h;refine B8 L hc (λh=>by cases h) (λh=>by cases h) B λs H hs=>⟨λe=>?_,λe=>⟨_,.Ww _ rfl e,?_⟩⟩
 ·by_cases u:s.mw.l=false/\s.mw.s=false
  ·refine⟨_,.take _ rfl e u.1 u.2,λw' z=>?_⟩;simp only at e;rw[e]at u;obtain⟨l,i,j,n⟩:=old;obtain⟨rfl,rfl⟩:=u;obtain⟨c,a1,a2⟩:=G6 X.Mu f (iw X.Mu c0 cs) (b2 ca (t:Int)) (b2 ca (it:Int)) a b i n m;exact L.aB a1 (aeb L C _ _ _ _ _ _ _ z a2)
  ·have v:s.mw.l=true\/s.mw.s=true:=by
    grind
   refine⟨_,.queue _ rfl e v,λw' z=>?_⟩;simp only at e;rw[e]at v;have q:∀c(p:Nat)x y,gZ (S7 (A7 X.Mu c (b2 ca (p:Int)) a b x y) FD.frame.todo (iw X.Mu c0 cs))=some (126,some (b5 (some ⟨X.Mu,1,none⟩)))->
    ay X V false (eU X V Fin k { pc:=.s1,sv:=a,r:=o }) M 1 (S7 (A7 X.Mu c (b2 ca (p:Int)) a b x y) FD.frame.todo (iw X.Mu c0 cs)) w':=
    λc p x y hs=>A.run L (T:={ pc:=.s1,sv:=a,r:=o }) rfl (by simp) (.refl _) ⟨by simp,c,p,b,x,y,rfl,hs⟩ z
   obtain⟨l,i,j,n⟩:=old
   have key:(∃c,gm (fin (S7 (A7 X.Mu f (b2 ca (t:Int)) a b (b2 ca (it:Int)) (wv ⟨l,i,j,n⟩)) xI.frame.todo (iw X.Mu c0 cs)) (b4 true)) (S7 (A7 X.Mu c (b2 ca (t:Int)) a b (b2 ca (it:Int)) (wv ⟨l,i,j,n⟩)) Te.frame.todo (iw X.Mu c0 cs))/\
    az (S7 (A7 X.Mu c (b2 ca (t:Int)) a b (b2 ca (it:Int)) (wv ⟨l,i,j,n⟩)) Te.frame.todo (iw X.Mu c0 cs))=some (125,#[]))\/
    (∃c,gm (fin (S7 (A7 X.Mu f (b2 ca (t:Int)) a b (b2 ca (it:Int)) (wv ⟨l,i,j,n⟩)) xI.frame.todo (iw X.Mu c0 cs)) (b4 true)) (S7 (A7 X.Mu c (b2 ca (t:Int)) a b (b2 ca (it:Int)) (wv ⟨l,i,j,n⟩)) FD.frame.todo (iw X.Mu c0 cs))/\
    gZ (S7 (A7 X.Mu c (b2 ca (t:Int)) a b (b2 ca (it:Int)) (wv ⟨l,i,j,n⟩)) FD.frame.todo (iw X.Mu c0 cs))=some (126,some (b5 (some ⟨X.Mu,1,none⟩)))):=by
    cases t with
    |zero=>
     left;cases l<;>cases j<;>simp at v
     ·exact Mp X.Mu f (iw X.Mu c0 cs) (b2 ca (it:Int)) a b i n m
     ·exact Mt X.Mu f (iw X.Mu c0 cs) (b2 ca (it:Int)) a b i n m
     ·exact Mr X.Mu f (iw X.Mu c0 cs) (b2 ca (it:Int)) a b i n m
    |succ t=>
     right;cases l<;>cases j<;>simp at v
     ·exact Mq X.Mu f (iw X.Mu c0 cs) t (b2 ca (it:Int)) a b i n m
     ·exact Mw X.Mu f (iw X.Mu c0 cs) t (b2 ca (it:Int)) a b i n m
     ·exact Ms X.Mu f (iw X.Mu c0 cs) t (b2 ca (it:Int)) a b i n m
   rcases key with⟨c,a1,a2⟩|⟨c,a1,a2⟩
   ·refine L.aB a1 (L.nano a2 λp=>?_);obtain⟨E,a3,a4⟩:=aip X.Mu c (iw X.Mu c0 cs) (b2 ca (t:Int)) (b2 ca (it:Int)) (wv ⟨l,i,j,n⟩) (b2 ca (p:Int)) a b;exact L.aB a3 (q E p _ _ a4)
   ·exact L.aB a1 (q c t _ _ a2)
 ·obtain⟨c,a1,a2⟩:=adg X.Mu f (iw X.Mu c0 cs) (b2 ca (t:Int)) (b2 ca (it:Int)) (wv old) a b;exact L.aB a1 (A.run L (T:=⟨.r3,old,nw,b,a,it,ex,o⟩) rfl (by simp) (.refl _) ⟨m,D,c,t,rfl,a2⟩ B)
def Zt{a:Nat}(L:Lk X V M F)(n:uA X V Fin M F c0 cs a)(A:MG X V Fin M F c0 cs a k){old nw:Wd}{b c:Bool}{it:Nat}{ex:Bool}(o:old.k<=3)(h:PV X c0 cs ⟨.r3,old,nw,b,c,it,ex,a⟩ g)(i:F w) :
 iF X V Fin (k+1) ⟨.r3,old,nw,b,c,it,ex,a⟩ M 1 g w:=by
 replace h:=h.2;obtain⟨j,f,t,rfl,hl⟩:=h;refine sP L hl Js (λh=>by cases h) (λh=>by cases h) λs l hs=>⟨_,.Wx _ _ rfl .c2,?_⟩
 obtain⟨m,a1,a2⟩:=ain X.Mu f (iw X.Mu c0 cs) (b2 ca (t:Int)) (b2 ca (it:Int)) (wv old) (wv s.mw) c b;exact L.aB a1 (sO A L (T:=⟨.r3,s.mw,nw,b,c,it,ex,a⟩) rfl hs (λe=>(l.aw e).1) j m t i)
def Zu{a:Nat}(L:Lk X V M F)(v:uA X V Fin M F c0 cs a)(A:MG X V Fin M F c0 cs a k){old nw:Wd}{m j:Bool}{it:Nat}{ex:Bool}(x:old.k<=3)(h:PV X c0 cs ⟨.s1,old,nw,m,j,it,ex,a⟩ g)(p:F w) :
 iF X V Fin (k+1) ⟨.s1,old,nw,m,j,it,ex,a⟩ M 1 g w:=by
 replace h:=h.2;obtain⟨f,t,b,c,i,rfl,hs⟩:=h;refine Zn L hs rfl p λs _ q=>⟨_,.woken _ j rfl (λe=>e) q,λw' o=>?_⟩
 cases j with
 |true=>
  obtain⟨l,a1,a2⟩:=adh X.Mu f (iw X.Mu c0 cs) (b2 ca (t:Int)) c i b;exact L.aB a1 (A.run L (T:={ pc:=.r2,sv:=true,r:=a }) rfl (by simp) (.refl _) ⟨by simp,l,t,b,c,i,rfl,a2⟩ o)
 |false=>
  obtain⟨l,a1,a2⟩:=adi X.Mu f (iw X.Mu c0 cs) (b2 ca (t:Int)) c i b;refine L.aB a1 (L.nano a2 λn=>?_);obtain⟨u,a3,a4⟩:=aiq X.Mu l (iw X.Mu c0 cs) c i (t:Int) (n:Int) b;exact L.aB a3 (A.run L (T:={ pc:=.r2,sv:=decide (IntKind.i64.wrap ((n:Int)-(t:Int)) > 1000000),r:=a }) rfl (by simp) (.r2 _ _ rfl (by simp)) ⟨by simp,u,t,b,c,i,rfl,a4⟩ o)
def Zv{b:Nat}(L:Lk X V M F)(y:uA X V Fin M F c0 cs b)(A:MG X V Fin M F c0 cs b k){old nw:Wd}{n a:Bool}{it:Nat}{ex:Bool}(z:old.k<=3)(h:PV X c0 cs ⟨.r2,old,nw,n,a,it,ex,b⟩ g)(o:F w) :
 iF X V Fin (k+1) ⟨.r2,old,nw,n,a,it,ex,b⟩ M 1 g w:=by
 replace h:=h.2;obtain⟨f,t,i,j,p,rfl,hl⟩:=h;refine sP L hl Js (λh=>by cases h) (λh=>by cases h) λs q hs=>?_
 cases c:s.mw.s with
 |false=>
  refine⟨_,.Wz _ _ rfl c .c2,?_⟩;have e:s.mw=⟨s.mw.l,s.mw.w,false,s.mw.k⟩:=xS rfl rfl c;obtain⟨m,a1,a2⟩:=adj X.Mu f (iw X.Mu c0 cs) (b2 ca (t:Int)) j p a i s.mw.l s.mw.w s.mw.k hs;rw[<-e]at a1;exact L.aB a1 (sO A L (T:=⟨.r2,s.mw,nw,true,a,0,ex,b⟩) rfl hs (λ_=>q.r2n rfl c) (by simp) m t o)
 |true=>
  obtain⟨u,v,x⟩:=q.r2 rfl c;refine⟨_,.handed _ rfl c,?_⟩;have e:s.mw=⟨false,false,true,s.mw.k⟩:=xS u v c;obtain⟨m,a1,a2⟩:=adk X.Mu f (iw X.Mu c0 cs) (b2 ca (t:Int)) j p a i s.mw.k hs x;rw[<-e]at a1 a2;exact L.aB a1 (A.run L (T:={ pc:=.a1,sv:=a,ex:=!a||s.mw.k==1,r:=b }) rfl (by simp) (.refl _) ⟨by simp,m,_,i,j,_,rfl,a2⟩ o)
def Zw{a:Nat}(L:Lk X V M F)(e:uA X V Fin M F c0 cs a)(A:MG X V Fin M F c0 cs a k){old nw:Wd}{c b:Bool}{it:Nat}{ex:Bool}(u:old.k<=3)(h:PV X c0 cs ⟨.a1,old,nw,c,b,it,ex,a⟩ g)(i:F w) :
 iF X V Fin (k+1) ⟨.a1,old,nw,c,b,it,ex,a⟩ M 1 g w:=by
 replace h:=h.2;obtain⟨f,st,j,m,n,rfl,hc⟩:=h;refine PW L hc (λh=>by cases h) (λh=>by cases h) i λs o hs=>⟨_,_,?_,.acK _ rfl,λw' p=>?_⟩
 ·obtain⟨q,r,t,v⟩:=o.a1 rfl;rw[xS q r t];obtain h|h|h:s.mw.k=1\/s.mw.k=2\/s.mw.k=3:=by omega
  all_goals (rw[h];simp only;cases ex<;>rfl)
 ·obtain⟨x,a1,a2⟩:=air X.Mu f (iw X.Mu c0 cs) st m n (wv { l:=true,w:=s.mw.w,s:=s.mw.s && !ex,k:=s.mw.k-1 }) b j;exact L.aB a1 (aeb L e _ _ _ _ _ _ _ p a2)
def arr(L:Lk X V M F)(r:Nat)(a:uA X V Fin M F c0 cs r):∀k,MG X V Fin M F c0 cs r k
 |0=>λ_ _ _ _ _ _=>trivial
 |k+1=>λT g w e h c=>by
  have A:=arr L r a k;have b:=h.1;obtain⟨pc,f,i,j,l,it,ex,m⟩:=T;simp only at e b;subst e
  cases pc with
  |l0=>exact Zo L a A b h c
  |r0=>exact Zp L a A b h c
  |c1=>exact Zq L a A b h c
  |r1=>exact Zr L a A b h c
  |c2=>exact Zs L a A b h c
  |r3=>exact Zt L a A b h c
  |s1=>exact Zu L a A b h c
  |r2=>exact Zv L a A b h c
  |a1=>exact Zw L a A b h c
  |_=>exact absurd h.2 id
def MH(L:Lk X V M F)(r:Nat)(a:uA X V Fin M F c0 cs r)(k:Nat)(b:F w) :
 ay X V false (eU X V Fin k { pc:=.l0,r:=r }) M 0 (G (ba X.P 72 #[b5 (some ⟨X.Mu,0,none⟩)] .normal) (c0::cs)) w:=by
 rw[L.hP];exact L.aB (l_E X.Mu c0 cs) (L.sG (aiu X.Mu c0 cs) (L.aB (l_0 X.Mu c0 cs) ((arr L r a k).run L (T:={ pc:=.l0,r:=r }) rfl (by simp) (.refl _) ⟨by simp,rfl⟩ b)))
end
end Go.Proofs
namespace Go.Proofs
open Go.Ph Go.Conc Go.ConcN
open Go.ConcM (MuAt muA msA OsLater muBlock)
open Go.ConcR (KK WgAt stA smA rd wr mk)
open Go.cD (Wd Th Mv bP)
set_option maxRecDepth 100000
def aec(m:Nat)(f:Nat->Value)(o:Value)(up:List Frame):ae PP (G (vk (A9 m f o) wus.frame.todo) up)=true:=by kernel_rfl
def aed(m:Nat)(f:Nat->Value)(o:Value)(up:List Frame):ae PP (G (vk (A9 m f o) wuh.frame.todo) up)=true:=by kernel_rfl
def aee(m:Nat)(c0:Frame)(cs:List Frame):(PP.funcs[(x0 m c0 cs).frame.fn]?).any (·.norace)=true:=by kernel_rfl
section
variable {X:Fix}{V:Vw}{M:Own}{F:World->Prop}{Fin:World->Prop}{d:Nat}{g:aa}{w:World}{k:Nat}{T:Th}{c0:Frame}{cs:List Frame}{r:Nat}
def PX(L:Lk X V M F)(h:gZ g=some (128,some (b5 (some ⟨X.Mu,1,none⟩))))(i:ae X.P g=true)(b:T.pc=.us)(j:F w)
 (H:∀s:Sh,∃T',Mv s.mw s.ms T T' s.mw (s.ms+1)/\∀w',F w'->ay X V false (eU X V Fin k T') M d (fin g (b3 #[])) w'):iF X V Fin (k+1) T M d g w:=by
 obtain⟨args,a,l⟩:=xR h;unfold iF;refine⟨(aj a).1,(aj a).2.1,λ_=>i,λs c p q m=>⟨λe=>(by rw[b]at e;cases e.1),λ_=>?_⟩⟩;obtain⟨T',a1,a2⟩:=H s;have st:=sr (mn:=V.g==0) a l (by rw[L.hP];exact aiK:cw X.P 128 true _) c m;have f:=c.setMs L.hc.ids (s.ms+1);obtain⟨n,o⟩:=sL L.hc (b6 rfl) _ f;exact⟨T',s.mw,s.ms+1,_,_,_,M,d,a1,st,f,o d _ (JD (xO c)),(aj a).2.2 _,a2 _ (L.hF _ _ j n)⟩
def PU(X:Fix)(c0:Frame)(cs:List Frame)(T:Th)(g:aa):Prop:=
 let up:=tN X.Mu c0 cs
 match T.pc with
 |.u0=>∃v,g=x4 X.Mu c0 cs v
 |.uc=>∃n,n<=3/\n≠0/\T.old=⟨false,false,false,n⟩/\∃f f4,g=G (vk (A9 X.Mu f (wv ⟨false,false,false,n⟩)) Tf.frame.todo) (mY (A4 X.Mu f4) w4::up)/\az g=some (115,#[pt X.Mu,wv ⟨false,false,false,n⟩,wv ⟨false,true,false,n-1⟩])
 |.ux=>∃f f4 a,g=G (vk (A9 X.Mu f a) wux.frame.todo) (mY (A4 X.Mu f4) w4::up)/\fj g=some (21,pt X.Mu)
 |.us=>∃f f4 a,(g=G (vk (A9 X.Mu f a) wus.frame.todo) (mY (A4 X.Mu f4) w4::up)\/g=G (vk (A9 X.Mu f a) wuh.frame.todo) (mY (A4 X.Mu f4) w4::up))/\gZ g=some (128,some (b5 (some ⟨X.Mu,1,none⟩)))
 |_=>False
def MJ(X:Fix)(V:Vw)(Fin:World->Prop)(M:Own)(F:World->Prop)(c0:Frame)(cs:List Frame)(r k:Nat):Prop:=∀T g w,T.r=r->PU X c0 cs T g->F w->iF X V Fin k T M 1 g w
def MJ.run(A:MJ X V Fin M F c0 cs r k)(L:Lk X V M F){T:Th}(a:T.r=r)(b:T.pc≠.out)(h:PU X c0 cs T g)(c:F w):ay X V false (eU X V Fin k T) M 1 g w:=
 .stop λe f=>ae9 b (.refl _) (A T g e a h (L.hF _ _ c f))
def MK(X:Fix)(V:Vw)(Fin:World->Prop)(M:Own)(F:World->Prop)(c0:Frame)(cs:List Frame)(r:Nat):Prop:=∀k w,F w->ay X V false (eU X V Fin k (bP r)) M 0 (G (c0.finish (b3 #[])) cs) w
def UC(L:Lk X V M F)(hd:MK X V Fin M F c0 cs r)(f:Nat->Value)(w:World)(a:F w)(hc:az (G (mY (A4 X.Mu f) Pt.frame.todo) (tN X.Mu c0 cs))=some (88,#[])) :
 ay X V false (eU X V Fin k (bP r)) M 1 (G (mY (A4 X.Mu f) Pt.frame.todo) (tN X.Mu c0 cs)) w:=
 L.en hc ((u_e X.Mu c0 cs f).run L.hP L.hg (hd k w a))
def Zx{a:Nat}(L:Lk X V M F)(hd:MK X V Fin M F c0 cs a)(A:MJ X V Fin M F c0 cs a k){old nw:Wd}{p q:Bool}{it:Nat}{ex:Bool}(h:PU X c0 cs ⟨.u0,old,nw,p,q,it,ex,a⟩ g)(x:F w) :
 iF X V Fin (k+1) ⟨.u0,old,nw,p,q,it,ex,a⟩ M 1 g w:=by
 obtain⟨v,i⟩:=h;have hl:=aiC X.Mu c0 cs v;rw[<-i]at hl;refine PW L hl (λh=>by cases h) (λh=>by cases h) x λs y hs=>?_;have t:=y.u0 rfl;have j:IntKind.i32.wrap (((s.mw.num:Nat):Int) + -1)=((({ s.mw with l:=false }:Wd).num:Nat):Int):=by
  obtain⟨z,D⟩:=s;obtain⟨l,B,C,n⟩:=z;simp only at t hs ⊢;subst t;obtain h|h|h|h:n=0\/n=1\/n=2\/n=3:=by omega
  all_goals (subst h;cases B<;>cases C<;>rfl)
 cases b:s.mw.s with
 |true=>
  refine⟨_,_,j,.hand _ rfl b,λw' c=>?_⟩;obtain⟨f,f4,a1,a2⟩:=YX X.Mu c0 cs v s.mw.w s.mw.k hs;have e:({ s.mw with l:=false }:Wd)=⟨false,s.mw.w,true,s.mw.k⟩:=xS rfl rfl b;rw[i,e];exact L.aB a1 (A.run L (T:={ pc:=.us,r:=a }) rfl (by simp) ⟨f,f4,_,b8 rfl,a2⟩ c)
 |false=>
  by_cases m:s.mw.k=0\/s.mw.w=true
  ·refine⟨_,_,j,.free _ rfl b m,λw' c=>?_⟩;obtain⟨f,a1,a2⟩:=YW X.Mu c0 cs v s.mw.w s.mw.k hs m;have e:({ s.mw with l:=false }:Wd)=⟨false,s.mw.w,false,s.mw.k⟩:=xS rfl rfl b;rw[i,e];exact L.aB a1 (UC L hd f w' c a2)
  ·have o:s.mw.k≠0:=λh=>m (b6 h);have u:s.mw.w=false:=by grind
   refine⟨_,_,j,.acL _ rfl b o u,λw' c=>?_⟩;obtain⟨f,f4,a1,a2⟩:=YY X.Mu c0 cs v s.mw.k hs o;have e:({ s.mw with l:=false }:Wd)=⟨false,false,false,s.mw.k⟩:=xS rfl u b;rw[i,e];exact L.aB a1 (A.run L (T:={ pc:=.uc,old:=⟨false,false,false,s.mw.k⟩,r:=a }) rfl (by simp) ⟨s.mw.k,hs,o,rfl,f,f4,rfl,a2⟩ c)
def Zy{a:Nat}(L:Lk X V M F)(A:MJ X V Fin M F c0 cs a k){old nw:Wd}{b c:Bool}{it:Nat}{ex:Bool}(h:PU X c0 cs ⟨.uc,old,nw,b,c,it,ex,a⟩ g)(l:F w) :
 iF X V Fin (k+1) ⟨.uc,old,nw,b,c,it,ex,a⟩ M 1 g w:=by
 obtain⟨n,o,p,e,f,f4,rfl,hc⟩:=h;simp only at e;subst e;refine B8 L hc (λh=>by cases h) (λh=>by cases h) l λs _ _=>⟨λe=>⟨{ pc:=.us,r:=a },?_,λw' m=>?_⟩,λe=>⟨_,.again _ rfl e,?_⟩⟩
 ·have:=Mv.release (w:=s.mw) (ms:=s.ms) (⟨.uc,⟨false,false,false,n⟩,nw,b,c,it,ex,a⟩:Th) rfl e
  grind
 ·obtain⟨i,j,a1,a2⟩:=adp X.Mu c0 cs f f4 (wv ⟨false,false,false,n⟩);exact L.aB a1 (A.run L (T:={ pc:=.us,r:=a }) rfl (by simp) ⟨i,j,_,b6 rfl,a2⟩ m)
 ·obtain⟨i,j,a1,a2⟩:=adq X.Mu c0 cs f f4 (wv ⟨false,false,false,n⟩);exact L.aB a1 (A.run L (T:={ pc:=.ux,r:=a }) rfl (by simp) ⟨i,j,_,rfl,a2⟩ l)
def Zz{a:Nat}(L:Lk X V M F)(hd:MK X V Fin M F c0 cs a)(A:MJ X V Fin M F c0 cs a k){old nw:Wd}{j m:Bool}{it:Nat}{ex:Bool}(h:PU X c0 cs ⟨.ux,old,nw,j,m,it,ex,a⟩ g)(n:F w) :
 iF X V Fin (k+1) ⟨.ux,old,nw,j,m,it,ex,a⟩ M 1 g w:=by
 obtain⟨f,f4,o,rfl,hl⟩:=h;refine sP L hl ady (λh=>by cases h) (λh=>by cases h) λs _ hs=>?_;by_cases b:s.mw.k=0\/s.mw.l=true\/s.mw.w=true\/s.mw.s=true
 ·refine⟨_,.leave _ rfl b,?_⟩;obtain⟨c,a1,a2⟩:=Uj X.Mu c0 cs f f4 o s.mw.l s.mw.w s.mw.s s.mw.k hs b;exact L.aB a1 (UC L hd c w n a2)
 ·have i:s.mw.k≠0:=λh=>b (b6 h);have p:s.mw.l=false:=by grind
  have q:s.mw.w=false:=by grind
  have t:s.mw.s=false:=by grind
  refine⟨_,.WA _ rfl i p q t,?_⟩;obtain⟨c,u,a1,a2⟩:=Uk X.Mu c0 cs f f4 o s.mw.k hs i;have e:s.mw=⟨false,false,false,s.mw.k⟩:=xS p q t;rw[<-e]at a1;refine L.aB a1 (A.run L (T:={ pc:=.uc,old:=s.mw,r:=a }) rfl (by simp) ⟨s.mw.k,hs,i,e,c,u,?_,?_⟩ n)
  ·rw[<-e]
  grind
def ZA{a:Nat}(L:Lk X V M F)(hd:MK X V Fin M F c0 cs a){old nw:Wd}{e i:Bool}{it:Nat}{ex:Bool}(h:PU X c0 cs ⟨.us,old,nw,e,i,it,ex,a⟩ g)(j:F w) :
 iF X V Fin (k+1) ⟨.us,old,nw,e,i,it,ex,a⟩ M 1 g w:=by
 obtain⟨f,f4,o,h,hs⟩:=h
 rcases h with rfl|rfl
 ·refine PX L hs (by rw[L.hP];exact aec _ _ _ _) rfl j λs=>⟨_,.post _ rfl,λw' b=>?_⟩
  obtain⟨c,a1,a2⟩:=aiE X.Mu c0 cs f f4 o;exact L.aB a1 (UC L hd c w' b a2)
 ·refine PX L hs (by rw[L.hP];exact aed _ _ _ _) rfl j λs=>⟨_,.post _ rfl,λw' b=>?_⟩
  obtain⟨c,a1,a2⟩:=aiF X.Mu c0 cs f f4 o;exact L.aB a1 (UC L hd c w' b a2)
def aef(L:Lk X V M F)(r:Nat)(hd:MK X V Fin M F c0 cs r):∀k,MJ X V Fin M F c0 cs r k
 |0=>λ_ _ _ _ _ _=>trivial
 |k+1=>λT g w b h a=>by
  have A:=aef L r hd k;obtain⟨pc,c,e,f,i,it,ex,j⟩:=T;simp only at b;subst b
  cases pc with
  |u0=>exact Zx L hd A h a
  |uc=>exact Zy L A h a
  |ux=>exact Zz L hd A h a
  |us=>exact ZA L hd h a
  |_=>exact absurd h id
def D7(L:Lk X V M F)(r:Nat)(hd:MK X V Fin M F c0 cs r)(k:Nat)(a:F w) :
 ay X V false (eU X V Fin k { pc:=.u0,r:=r }) M 0 (G (ba X.P 73 #[b5 (some ⟨X.Mu,0,none⟩)] .normal) (c0::cs)) w:=by
 rw[L.hP];refine L.aB (u_E X.Mu c0 cs) ?_;obtain⟨o,x,c,e,f⟩:=kO (aiy X.Mu c0 cs);refine .ad2 L.hc c e f (k:=cb) (by rw[L.hP];exact u21) (by rw[L.hP];exact aee X.Mu c0 cs) (λi h=>?_) λv=>?_
 ·obtain⟨⟨_,_,k⟩,_⟩:=L.hL _ (L.hF _ _ a h);exact⟨_,k.cellSt⟩
 refine L.aB (u_0 X.Mu c0 cs v) ?_;refine L.conv (aiz X.Mu c0 cs v) a ?_;refine L.aB (u_1 X.Mu c0 cs v) ?_;refine L.ajy (aiA X.Mu c0 cs v) a ?_;refine L.aB (u_2 X.Mu c0 cs v) ?_;refine L.sG (aiB X.Mu c0 cs v) ?_;refine L.aB (u_3 X.Mu c0 cs v) ?_;have b:PU X c0 cs { pc:=.u0,r:=r } (x4 X.Mu c0 cs v):=by
  unfold PU
  grind
 generalize x4 X.Mu c0 cs v=g at b ⊢;exact(aef L r hd k).run L (T:={ pc:=.u0,r:=r }) rfl (by simp) b a
end
end Go.Proofs
namespace Go.Proofs
open Go.Ph Go.Conc
set_option maxRecDepth 100000
structure Ea(k d d':Nat)(g:aa)(c0:Frame)(cs:List Frame):Prop where
 q:ff PP true lY 400 g
 d0:∀d,xD PP true lY 400 d g=d
 q1:uo PP true k (T2 true g)
 d1:YL PP true k d (T2 true g)=d'
 e:adv PP true k (T2 true g)=G (c0.finish (b3 #[])) cs
def Ea.run{X:Fix}{V:Vw}{q:Bool}{Stop:Stp}{M:Own}{k d d':Nat}{g:aa}{w:World}{c0:Frame}{cs:List Frame}(h:Ea k d d' g c0 cs)(a:X.P=PP)(hg:(V.g==0)=true)(b:ay X V q Stop M d' (G (c0.finish (b3 #[])) cs) w):ay X V q Stop M d g w:=by
 refine .oO (S:=lY) hg 400 (by rw[a];exact h.q) ?_;refine .quiet hg k (by rw[a];exact h.q1) ?_;have e:=h.e;have d1:=h.d1;unfold T2 at e d1;rw[a,h.d0,d1,e];exact b
def JG(v:Nat):Value:=b2 b9 ((v:Int)*4294967296)
section
variable (W:Nat)(c0:Frame)(cs:List Frame)
noncomputable def aE:aa:=G (ba PP 69 #[pt W,b2 ca 1] .normal) (c0::cs)
noncomputable def a0:aa:=T2 true (aE W c0 cs)
noncomputable def a1:aa:=T2 true (fin (a0 W c0 cs) (b3 #[]))
noncomputable def a2:aa:=T2 true (fin (a1 W c0 cs) (b4 false))
noncomputable def a3:aa:=T2 true (fin (a2 W c0 cs) (JG 1))
noncomputable def a4:aa:=T2 true (fin (a3 W c0 cs) (b5 (some ⟨W,1,none⟩)))
def a_E  : fL true (aE W c0 cs) (a0 W c0 cs):=bU (by delta a0;rfl)
def ajB  : az (a0 W c0 cs)=some (87,#[]):=by kernel_rfl
def a_0  : fL true (fin (a0 W c0 cs) (b3 #[])) (a1 W c0 cs):=bU (by delta a1;rfl)
def ajC  : az (a1 W c0 cs)=some (89,#[]):=by kernel_rfl
def a_1  : fL true (fin (a1 W c0 cs) (b4 false)) (a2 W c0 cs):=bU (by delta a2;rfl)
def ajD  : az (a2 W c0 cs)=some (112,#[pt W,b2 b9 4294967296]):=by kernel_rfl
def a_2  : fL true (fin (a2 W c0 cs) (JG 1)) (a3 W c0 cs):=bU (by delta a3;rfl)
def ajE  : gu (a3 W c0 cs)=some (160,154,b5 (some ⟨W,1,none⟩)):=by kernel_rfl
def a_3  : fL true (fin (a3 W c0 cs) (b5 (some ⟨W,1,none⟩))) (a4 W c0 cs):=bU (by delta a4;rfl)
def ajF  : az (a4 W c0 cs)=some (94,#[b5 (some ⟨W,1,none⟩)]):=by kernel_rfl
def a_4:Ea 2 1 0 (fin (a4 W c0 cs) (b3 #[])) c0 cs:=⟨⟨λw=>by kernel_rfl,by kernel_rfl⟩,λd=>by kernel_rfl,⟨λw=>by kernel_rfl,by kernel_rfl⟩,by kernel_rfl,by kernel_rfl⟩
def ajG:Ea 2 1 0 (fin (a2 W c0 cs) (JG 2)) c0 cs:=⟨⟨λw=>by kernel_rfl,by kernel_rfl⟩,λd=>by kernel_rfl,⟨λw=>by kernel_rfl,by kernel_rfl⟩,by kernel_rfl,by kernel_rfl⟩
def ajH:Ea 2 1 0 (fin (a2 W c0 cs) (JG 3)) c0 cs:=⟨⟨λw=>by kernel_rfl,by kernel_rfl⟩,λd=>by kernel_rfl,⟨λw=>by kernel_rfl,by kernel_rfl⟩,by kernel_rfl,by kernel_rfl⟩
end
def F41(W:Nat)(f:Nat->Value):Nat->Value
 |0=>b5 (some ⟨W,0,none⟩)
 |i=>f i
noncomputable def A41(W:Nat)(f:Nat->Value):Array Value:=zj 84 (F41 W f)
noncomputable def aem(a:Array Value)(b:List Item):Frame:={ fn:=74,tmps:=a,todo:=b,defers:=[],mode:=.run,kind:=.normal,roundOf:=none }
def ZC{W:Nat}{a:Array Value}(hs:a.size=84)(b:a[0]! = b5 (some ⟨W,0,none⟩)):a=A41 W (λi=>a[i]!):=
 Jr hs λi _=>by
  unfold F41
  grind
section
variable (W:Nat)(c0:Frame)(cs:List Frame)
noncomputable def wE:aa:=G (ba PP 74 #[pt W] .normal) (c0::cs)
noncomputable def w0:aa:=T2 true (wE W c0 cs)
noncomputable def w1s:aa:=T2 true (fin (w0 W default []) (b3 #[]))
noncomputable def w1(f:Nat->Value):aa:=G (w1s W).frame (aem (A41 W f) (w1s 0).callers.head!.todo::c0::cs)
variable (f:Nat->Value)(v:Nat)
noncomputable def w2:aa:=T2 true (fin (w1 W c0 cs f) (JG v))
noncomputable def w3a:aa:=T2 true (fin (w2 W c0 cs f v) (b4 true))
noncomputable def w3b:aa:=T2 true (fin (w3a W c0 cs f v) (b5 (some ⟨W,1,none⟩)))
noncomputable def w3:aa:=T2 true (fin (w3b W c0 cs f v) (b3 #[]))
noncomputable def gw4:aa:=T2 true (fin (w3 W c0 cs f v) (b3 #[]))
noncomputable def w5:aa:=T2 true (fin (gw4 W c0 cs f v) (JG 0))
noncomputable def w6:aa:=T2 true (fin (w5 W c0 cs f v) (b3 #[]))
noncomputable def w7:aa:=T2 true (fin (w6 W c0 cs f v) (pt W))
noncomputable def v5:aa:=T2 true (fin (w1 W c0 cs f) (JG 0))
noncomputable def v6:aa:=T2 true (fin (v5 W c0 cs f) (b3 #[]))
noncomputable def v7:aa:=T2 true (fin (v6 W c0 cs f) (pt W))
def Xd{g:aa}(a:ff PP true lY 400 g:=by exact⟨λ_=>by kernel_rfl,by kernel_rfl⟩)(hd:∀d,xD PP true lY 400 d g=d:=by intro _;kernel_rfl)(b:T2 true g=G (w1s W).frame (aem (T2 true g).callers.head!.tmps (w1s 0).callers.head!.todo::c0::cs):=by kernel_rfl)(hs:(T2 true g).callers.head!.tmps.size=84:=by kernel_rfl)
 (c:(T2 true g).callers.head!.tmps[0]! = b5 (some ⟨W,0,none⟩):=by kernel_rfl):∃f',fL true g (w1 W c0 cs f'):=by
 have e:=ZC hs c;exact⟨_,a,hd,by unfold w1;rw[<-e];exact b⟩
def w_E  : fL true (wE W c0 cs) (w0 W c0 cs):=bU (by delta w0;rfl)
def ajI  : az (w0 W c0 cs)=some (87,#[]):=by kernel_rfl
def w_0:∃f',fL true (fin (w0 W c0 cs) (b3 #[])) (w1 W c0 cs f'):=Xd W c0 cs
def ajJ  : az (w1 W c0 cs f)=some (113,#[pt W]):=by kernel_rfl
def v_1  : fL true (fin (w1 W c0 cs f) (JG 0)) (v5 W c0 cs f):=bU (by delta v5;rfl)
def ajK  : az (v5 W c0 cs f)=some (88,#[]):=by kernel_rfl
def v_5  : fL true (fin (v5 W c0 cs f) (b3 #[])) (v6 W c0 cs f):=bU (by delta v6;rfl)
def ajL  : gu (v6 W c0 cs f)=some (152,154,pt W):=by kernel_rfl
def v_6  : fL true (fin (v6 W c0 cs f) (pt W)) (v7 W c0 cs f):=bU (by delta v7;rfl)
def ajM  : az (v7 W c0 cs f)=some (101,#[pt W]):=by kernel_rfl
def v_7:Ea 1 0 0 (fin (v7 W c0 cs f) (b3 #[])) c0 cs:=⟨⟨λw=>by kernel_rfl,by kernel_rfl⟩,λd=>by kernel_rfl,⟨λw=>by kernel_rfl,by kernel_rfl⟩,by kernel_rfl,by kernel_rfl⟩
def w_1(a:1<=v)(b:v<=3):fL true (fin (w1 W c0 cs f) (JG v)) (w2 W c0 cs f v):=by
 (obtain rfl|rfl|rfl:v=1\/v=2\/v=3:=by omega)<;>exact bU (by delta w2;rfl)
def ajN(a:1<=v)(b:v<=3):az (w2 W c0 cs f v)=some (119,#[pt W,JG v,b2 b9 ((v:Int)*4294967296+1)]):=by
 (obtain rfl|rfl|rfl:v=1\/v=2\/v=3:=by omega)<;>kernel_rfl
def w_2(a:1<=v)(b:v<=3):fL true (fin (w2 W c0 cs f v) (b4 true)) (w3a W c0 cs f v):=by
 (obtain rfl|rfl|rfl:v=1\/v=2\/v=3:=by omega)<;>exact bU (by delta w3a;rfl)
def aep(a:1<=v)(b:v<=3):gu (w3a W c0 cs f v)=some (160,154,b5 (some ⟨W,1,none⟩)):=by
 (obtain rfl|rfl|rfl:v=1\/v=2\/v=3:=by omega)<;>kernel_rfl
def ajO(a:1<=v)(b:v<=3):∃f',fL true (fin (w2 W c0 cs f v) (b4 false)) (w1 W c0 cs f'):=by
 (obtain rfl|rfl|rfl:v=1\/v=2\/v=3:=by omega)<;>exact Xd W c0 cs
def ajP(a:1<=v)(b:v<=3):fL true (fin (w3a W c0 cs f v) (b5 (some ⟨W,1,none⟩))) (w3b W c0 cs f v):=by
 (obtain rfl|rfl|rfl:v=1\/v=2\/v=3:=by omega)<;>exact bU (by delta w3b;rfl)
def aeq(a:1<=v)(b:v<=3):az (w3b W c0 cs f v)=some (104,#[b5 (some ⟨W,1,none⟩)]):=by
 (obtain rfl|rfl|rfl:v=1\/v=2\/v=3:=by omega)<;>kernel_rfl
def ajQ(a:1<=v)(b:v<=3):fL true (fin (w3b W c0 cs f v) (b3 #[])) (w3 W c0 cs f v):=by
 (obtain rfl|rfl|rfl:v=1\/v=2\/v=3:=by omega)<;>exact bU (by delta w3;rfl)
def ajR(a:1<=v)(b:v<=3):gZ (w3 W c0 cs f v)=some (105,some (b5 (some ⟨W,1,none⟩))):=by
 (obtain rfl|rfl|rfl:v=1\/v=2\/v=3:=by omega)<;>kernel_rfl
def w_3(a:1<=v)(b:v<=3):fL true (fin (w3 W c0 cs f v) (b3 #[])) (gw4 W c0 cs f v):=by
 (obtain rfl|rfl|rfl:v=1\/v=2\/v=3:=by omega)<;>exact bU (by delta gw4;rfl)
def ajS(a:1<=v)(b:v<=3):az (gw4 W c0 cs f v)=some (113,#[pt W]):=by
 (obtain rfl|rfl|rfl:v=1\/v=2\/v=3:=by omega)<;>kernel_rfl
def w_4(a:1<=v)(b:v<=3):fL true (fin (gw4 W c0 cs f v) (JG 0)) (w5 W c0 cs f v):=by
 (obtain rfl|rfl|rfl:v=1\/v=2\/v=3:=by omega)<;>exact bU (by delta w5;rfl)
def ajT(a:1<=v)(b:v<=3):az (w5 W c0 cs f v)=some (88,#[]):=by
 (obtain rfl|rfl|rfl:v=1\/v=2\/v=3:=by omega)<;>kernel_rfl
def w_5(a:1<=v)(b:v<=3):fL true (fin (w5 W c0 cs f v) (b3 #[])) (w6 W c0 cs f v):=by
 (obtain rfl|rfl|rfl:v=1\/v=2\/v=3:=by omega)<;>exact bU (by delta w6;rfl)
def ajU(a:1<=v)(b:v<=3):gu (w6 W c0 cs f v)=some (152,154,pt W):=by
 (obtain rfl|rfl|rfl:v=1\/v=2\/v=3:=by omega)<;>kernel_rfl
def w_6(a:1<=v)(b:v<=3):fL true (fin (w6 W c0 cs f v) (pt W)) (w7 W c0 cs f v):=by
 (obtain rfl|rfl|rfl:v=1\/v=2\/v=3:=by omega)<;>exact bU (by delta w7;rfl)
def ajV(a:1<=v)(b:v<=3):az (w7 W c0 cs f v)=some (101,#[pt W]):=by
 (obtain rfl|rfl|rfl:v=1\/v=2\/v=3:=by omega)<;>kernel_rfl
def w_7(a:1<=v)(b:v<=3):Ea 1 0 0 (fin (w7 W c0 cs f v) (b3 #[])) c0 cs:=by
 (obtain rfl|rfl|rfl:v=1\/v=2\/v=3:=by omega)<;>exact⟨⟨λw=>by kernel_rfl,by kernel_rfl⟩,λd=>by kernel_rfl,⟨λw=>by kernel_rfl,by kernel_rfl⟩,by kernel_rfl,by kernel_rfl⟩
end
open Go.ConcN
open Go.ConcM (MuAt muA msA OsLater muBlock)
open Go.ConcR (KK WgAt stA smA rd wr mk)
def sR(v:Nat):b2 b9 (vP v 0)=JG v:=by simp[vP,JG,KK]
def UH(v:Nat):vP v 0=(v:Int)*4294967296:=by simp[vP,KK]
section
variable {X:Fix}{V:Vw}{M:Own}{F:World->Prop}{Stop:Stp}{d:Nat}{g g':aa}{w:World}
variable {c np:Nat}{row:Nat->Nat->Prop}{Fin:Nat->World->Prop}{Post:Own->aa->World->Prop}{c0:Frame}{cs:List Frame}
def Gk.said(L:Gk X V M F true){f:ai}{mk':Addr->Mark}{m wr':Bool}(i:az g=some (f,#[b5 (some ⟨X.Wg,1,none⟩)]))(hb:cw PP f m (bb mk'))(j:∀a g,mk' a≠.extern g)
 (n:∀a,(b1 (mk' a)).touch? = some ⟨cd a,wr',.said⟩) (hl:∀a B,a.block<B->(b1 (mk' a)).low B) (o:∀a b,mk' a≠.release b) (hd:∀d a,ag d #[bR (mk' a)]=d) (p:F w) (q:ay X V false Stop M d (fin g (b3 #[])) w):ay X V false Stop M d g w:=
 .step (aj i).1 λs r=>by
  have t:=L.hF _ _ p r;refine⟨_,s,#[bR (mk' ⟨X.Wg,1,none⟩)],M,_,kM (ad:=⟨X.Wg,1,none⟩) i (by rw[L.hP];exact hb) j rfl,jI L.hc.ids rfl rfl (.refl _) rfl (λ_ _ _=>rfl) (λe k=>?_) (by simp),⟨rfl,rfl⟩,(aj i).2.2 _,?_⟩
  ·simp only[List.mem_toArray,List.mem_singleton]at k;subst k;refine⟨λx l=>?_,λh=>o _ _ (Loc.mark.inj h),hl _ _ (L.low t)⟩;rw[show bX (bR (mk' ⟨X.Wg,1,none⟩))=.mark (mk' ⟨X.Wg,1,none⟩) from rfl,n]at l;cases l;have:V.g=0:=by simpa using L.hg
   exact⟨rfl,b6 ⟨⟨_,rfl,b8 rfl⟩,by rw[if_pos this];simp⟩⟩
  ·rw[hd];exact q.rely r
def P6(L:Gk X V M F true)(r:Nat)(b:∀w,F w->ay X V false (AtGo X c np row Fin (X.n-(r+1)) (Ta X c np row Fin Post r) V) M 0 (G (c0.finish (b3 #[])) cs) w)(k:F w) :
 ay X V false (Ta X c np row Fin Post (r+1) V) M 0 (aE X.Wg c0 cs) w:=by
 refine L.aB (a_E X.Wg c0 cs) (L.sG (ajB X.Wg c0 cs) (L.aB (a_0 X.Wg c0 cs) (L.idle (ajC X.Wg c0 cs) (L.aB (a_1 X.Wg c0 cs) (.stop λx l=>?_)))));have e:=ajD X.Wg c0 cs;have m:=L.hF _ _ k l;refine⟨(aj e).1,(aj e).2.1,λh=>(by cases h),λs i o=>?_⟩;obtain⟨y,f,z⟩:=o;have A:=L.hn;have p:IntKind.u64.wrap (vP s.v s.wt+4294967296)=vP (s.v+1) s.wt:=by
  obtain h|h|h:s.v=0\/s.v=1\/s.v=2:=by omega
  all_goals (rw[h,f];decide)
 have j:=i.setWg L.hc.ids (s.v+1) s.wt;have st:=xP (mn:=V.g==0) e (by rw[L.hP];exact ae4:cw X.P 112 true _) i p;obtain⟨t,u⟩:=uz (q:=false) L.hc (b8 rfl) _ j;refine⟨_,_,_,M,1,st,j,u 1 _ (PS L (lC i)) (by simp),(aj e).2.2 _,?_⟩;have a:=L.hF _ _ m t;obtain h|h:s.v=0\/1<=s.v:=by omega
 ·rw[h,f]at a ⊢;rw[sR]at a ⊢;refine L.aB (a_2 X.Wg c0 cs) (L.Xc (ajE X.Wg c0 cs) a (L.aB (a_3 X.Wg c0 cs) ?_));exact L.said (wr':=false) (ajF X.Wg c0 cs) ajp (λ_ _ h=>by cases h) (λ_=>rfl) (λ_ _ h=>h) (λ_ _ h=>by cases h) (λ_ _=>rfl) a ((a_4 X.Wg c0 cs).run L.hP L.hg (b _ a))
 ·obtain h|h:s.v=1\/s.v=2:=by omega
  ·rw[h,f]at a ⊢;rw[sR]at a ⊢;exact(ajG X.Wg c0 cs).run L.hP L.hg (b _ a)
  ·rw[h,f]at a ⊢;rw[sR]at a ⊢;exact(ajH X.Wg c0 cs).run L.hP L.hg (b _ a)
def aer(L:Gk X V M F true)(h:gZ g=some (105,some (b5 (some ⟨X.Wg,1,none⟩))))(i:F w)(H:∀w',F w'->ay X V false (Ph.AtW4 X Post V) M 1 (fin g (b3 #[])) w'):Ph.AtW3 X Post V M 1 g w:=by
 obtain⟨args,a,j⟩:=vo h;refine⟨(aj a).1,(aj a).2.1,λs b n=>?_⟩;have st:=He (mn:=V.g==0) a j (by rw[L.hP];exact ajs:cw X.P 105 true _) b;refine⟨λe=>?_,λe=>?_⟩
 ·grind
 ·have k:¬s.ws=0:=e;rw[if_neg k]at st;have f:=b.setWs L.hc.ids (s.ws-1);obtain⟨l,m⟩:=uz (q:=false) L.hc (b8 rfl) _ f;exact⟨_,_,_,M,1,st,f,m 1 _ (PT L (lC b)) (by simp),(aj a).2.2 _,H _ (L.hF _ _ i l)⟩
theorem MO{g:aa}{w:World}{d:Nat}:Ph.AtW1 X Post V 0 M d g w:=by unfold Ph.AtW1;exact True.intro
theorem MQ{g:aa}{w:World}{d v:Nat}:Ph.AtW2 X Post V 0 v M d g w:=by unfold Ph.AtW2;exact True.intro
def MR(L:Gk X V M F true)(A:∀w,F w->ay X V false (Yy Post) M 0 (G (c0.finish (b3 #[])) cs) w)(j:F w) :
 ay X V false (Ta X c np row Fin Post 0 V) M 0 (wE X.Wg c0 cs) w:=by
 have u:∀g w,F w->az g=some (101,#[pt X.Wg])->Ea 1 0 0 (fin g (b3 #[])) c0 cs->ay X V false (O1 X Post V) M 0 g w:=by
  intro g w j i B;refine .stop λn m=>⟨(aj i).1,rfl,_,kM (mk':=.acquire) (ad:=⟨X.Wg,0,none⟩) i (by rw[L.hP];exact adu:cw X.P 101 false _) (λ_ _ h=>by cases h) rfl,(aj i).2.2 _,?_⟩
  exact B.run L.hP L.hg (A _ (L.hF _ _ j m))
 have C:∀f v w,1<=v->v<=3->F w->ay X V false (AtW4 X Post V) M 1 (gw4 X.Wg c0 cs f v) w:=by
  intro f v w a b j;refine .stop λn m=>?_;have i:=ajS X.Wg c0 cs f v a b;refine⟨(aj i).1,(aj i).2.1,λh=>(by cases h),λs l o=>?_⟩;have x:=L.hF _ _ j m;have st:=oV (mn:=V.g==0) i (by rw[L.hP];exact Zl:cw X.P 113 true _) l;have e:b2 b9 (vP s.v s.wt)=JG 0:=by rw[o.1,o.2.1,sR]
  rw[e]at st
  exact⟨_,n,_,M,1,st,l,jI L.hc.ids rfl rfl (.refl _) rfl (λ_ _ _=>rfl) (xQ L (lC l) false) (by simp),(aj i).2.2 _,
   L.aB (w_4 X.Wg c0 cs f v a b) (L.en (ajT X.Wg c0 cs f v a b) (L.aB (w_5 X.Wg c0 cs f v a b) (L.conv (ajU X.Wg c0 cs f v a b) x (L.aB (w_6 X.Wg c0 cs f v a b) (u _ _ x (ajV X.Wg c0 cs f v a b) (w_7 X.Wg c0 cs f v a b))))))⟩
 have D:∀f v w,1<=v->v<=3->F w->ay X V false (AtW3 X Post V) M 1 (w3 X.Wg c0 cs f v) w:=by
  intro f v w a b j;exact .stop λn m=>aer L (ajR X.Wg c0 cs f v a b) (L.hF _ _ j m) λw' E=>L.aB (w_3 X.Wg c0 cs f v a b) (C _ _ _ a b E)
 have p:∀k,(∀f w,F w->AtW1 X Post V k M 1 (w1 X.Wg c0 cs f) w)/\∀f v w,1<=v->v<=3->F w->AtW2 X Post V k v M 1 (w2 X.Wg c0 cs f v) w:=by
  intro k
  induction k with
  |zero=>grind[MO,MQ]
  |succ k y=>
   refine⟨λf w j=>?_,λf v w a b j=>?_⟩
   ·have i:=ajJ X.Wg c0 cs f;unfold Ph.AtW1;refine⟨(aj i).1,(aj i).2.1,λh=>(by cases h),λs l o=>?_⟩;obtain⟨H,r,I⟩:=o;have J:=L.hn;have st:=oV (mn:=V.g==0) i (by rw[L.hP];exact Zl:cw X.P 113 true _) l;rw[r,sR]at st;refine⟨_,w,_,M,1,st,l,jI L.hc.ids rfl rfl (.refl _) rfl (λ_ _ _=>rfl) (xQ L (lC l) false) (by simp),(aj i).2.2 _,?_⟩;by_cases hv:s.v=0
    ·simp only[if_pos hv];rw[hv];exact L.aB (v_1 X.Wg c0 cs f) (L.en (ajK X.Wg c0 cs f) (L.aB (v_5 X.Wg c0 cs f) (L.conv (ajL X.Wg c0 cs f) j (L.aB (v_6 X.Wg c0 cs f) (u _ _ j (ajM X.Wg c0 cs f) (v_7 X.Wg c0 cs f))))))
    ·simp only[if_neg hv];exact L.aB (w_1 X.Wg c0 cs f s.v (by omega) (by omega)) (.stop λn m=>y.2 f s.v n (by omega) (by omega) (L.hF _ _ j m))
   ·have i:=ajN X.Wg c0 cs f v a b;unfold Ph.AtW2;refine⟨(aj i).1,(aj i).2.1,λh=>(by cases h),λs l o=>?_⟩;obtain⟨H,r,I⟩:=o;have J:=L.hn;have st:=G9 (v:=v) (wt:=1) (mn:=V.g==0) i (by rw[L.hP];exact aju:cw X.P 119 true _) l (by simp[vP,KK]);have e:(vP s.v s.wt=(v:Int)*4294967296)↔s.v=v:=by rw[r,UH];omega
    by_cases hv:s.v=v
    ·rw[if_pos (e.2 hv)]at st;have z:=l.setWg L.hc.ids v 1;obtain⟨K,N⟩:=uz (q:=false) L.hc (b8 rfl) _ z;have O:({ s with v:=v,wt:=1 }:Sh)={ s with wt:=1 }:=by rw[<-hv]
     rw[O]at z;have t:=L.hF _ _ j K;refine⟨_,_,_,M,1,st,?_,N 1 _ (PS L (lC l)) (by simp),(aj i).2.2 _,?_⟩
     ·grind
     ·simp only[if_pos hv];refine L.aB (w_2 X.Wg c0 cs f v a b) (L.Xc (aep X.Wg c0 cs f v a b) t (L.aB (ajP X.Wg c0 cs f v a b) ?_));exact L.said (wr':=true) (aeq X.Wg c0 cs f v a b) ajq (λ_ _ h=>by cases h) (λ_=>rfl) (λ_ _ h=>h) (λ_ _ h=>by cases h) (λ_ _=>rfl) t (L.aB (ajQ X.Wg c0 cs f v a b) (D _ _ _ a b t))
    ·rw[if_neg (λh=>hv (e.1 h))]at st;refine⟨_,w,_,M,1,st,?_,jI L.hc.ids rfl rfl (.refl _) rfl (λ_ _ _=>rfl) (xQ L (lC l) false) (by simp),(aj i).2.2 _,?_⟩
     ·grind
     ·simp only[if_neg hv];obtain⟨Q,hf⟩:=ajO X.Wg c0 cs f v a b;exact L.aB hf (.stop λn m=>y.1 Q n (L.hF _ _ j m))
 obtain⟨f,hf⟩:=w_0 X.Wg c0 cs;refine L.aB (w_E X.Wg c0 cs) (L.sG (ajI X.Wg c0 cs) (L.aB hf (.stop λn m k=>?_)));exact(p k).1 f n (L.hF _ _ j m)
end
end Go.Proofs
