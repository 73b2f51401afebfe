/- Part of the proof of FieldLevels: see X45. -/
import Derived.Test.YtmkjeaacgibnoaaGreatX15
import Derived.Conc.RingWorld
set_option linter.all false
open Go.Goroutine renaming status->aa
open Go renaming Goroutine->ab,Program->ac,goexitEntry->ad,events_load->ae,events_store->ag
open Go.Extern.Race renaming none_->ai,marked->ao
open Go.Extern.Atomic renaming casT->ap,update->aq,loadT->ar,storeT->aB
open Go.Op renaming intArith->aF
open Go.Extern.Sync renaming canSpin->aH,nothing->aI,semacquire->aJ,semrelease->aL,count->aP,none_->aT
open Go.Conc renaming QuitsD->a5,aside_setCell->a6,casT_eq->a7,semEvents->a8,semEvents_sync->a9
namespace Go.Proofs
open Go.Ph Go.Conc
open Go.cD (Wd Th qZ)
set_option maxRecDepth 100000
variable (m:Nat)(f:Nat->Value)(up:List Frame)
def ail(st it old v:Value)(a b:Bool):∃f',gm (fin (S7 (A7 m f st a b it old) zr0.frame.todo up) v) (S7 (A7 m f' st a b it v) CE.frame.todo up)/\aa (S7 (A7 m f' st a b it v) CE.frame.todo up)=.running:=
 gK
def aim(st it old v:Value)(a b:Bool):∃f',gm (fin (S7 (A7 m f st a b it old) zr1.frame.todo up) v) (S7 (A7 m f' st a b it v) CE.frame.todo up)/\aa (S7 (A7 m f' st a b it v) CE.frame.todo up)=.running:=
 gK
def ain(st it old v:Value)(a b:Bool):∃f',gm (fin (S7 (A7 m f st a b it old) zr3.frame.todo up) v) (S7 (A7 m f' st a b it v) CE.frame.todo up)/\aa (S7 (A7 m f' st a b it v) CE.frame.todo up)=.running:=
 gK
def ada(st it old:Value)(a b:Bool):uo PP false 1 (S7 (A7 m f st a b it old) CE.frame.todo up)/\∀d,YL PP false 1 d (S7 (A7 m f st a b it old) CE.frame.todo up)=d:=⟨⟨λw=>by kernel_rfl,by kernel_rfl⟩,λd=>by kernel_rfl⟩
noncomputable abbrev wv(x:Wd):Value:=.int .i32 ((x.num:Nat):Int)
def YS(st it:Value)(a b w:Bool)(k:Nat)(c:k<=3):∃f',gm (nx PP false (S7 (A7 m f st a b it (wv ⟨true,w,false,k⟩)) CE.frame.todo up)) (S7 (A7 m (px 17 (.bool true) f') st a b it (wv ⟨true,w,false,k⟩)) Ud.frame.todo up)/\az (S7 (A7 m (px 17 (.bool true) f') st a b it (wv ⟨true,w,false,k⟩)) Ud.frame.todo up)=some (192,#[it]):=by
 cases w<;>((obtain rfl|rfl|rfl|rfl:k=0\/k=1\/k=2\/k=3:=by omega))<;>exact Pp
def Ue(st it:Value)(b a w:Bool)(k:Nat)(d:k<=3)(c:a=true->w=true):∃f',gm (nx PP false (S7 (A7 m f st b a it (wv ⟨false,w,false,k⟩)) CE.frame.todo up)) (S7 (A7 m f' st b a it (wv ⟨false,w,false,k⟩)) xI.frame.todo up)/\az (S7 (A7 m f' st b a it (wv ⟨false,w,false,k⟩)) xI.frame.todo up)=some (186,#[pt m,wv ⟨false,w,false,k⟩,wv (qZ { pc:=.c2,old:=⟨false,w,false,k⟩,aw:=a,sv:=b,r:=0 })]):=by
 cases b<;>cases a<;>cases w<;>(first|exact absurd (c rfl) (by decide)|skip)<;>((obtain rfl|rfl|rfl|rfl:k=0\/k=1\/k=2\/k=3:=by omega))<;>exact gK
def Uf(st it:Value)(b a w:Bool)(k:Nat)(d:k<=3)(c:a=true->w=true):∃f',gm (nx PP false (S7 (A7 m f st b a it (wv ⟨false,w,true,k⟩)) CE.frame.todo up)) (S7 (A7 m f' st b a it (wv ⟨false,w,true,k⟩)) xI.frame.todo up)/\az (S7 (A7 m f' st b a it (wv ⟨false,w,true,k⟩)) xI.frame.todo up)=some (186,#[pt m,wv ⟨false,w,true,k⟩,wv (qZ { pc:=.c2,old:=⟨false,w,true,k⟩,aw:=a,sv:=b,r:=0 })]):=by
 cases b<;>cases a<;>cases w<;>(first|exact absurd (c rfl) (by decide)|skip)<;>((obtain rfl|rfl|rfl|rfl:k=0\/k=1\/k=2\/k=3:=by omega))<;>exact gK
def Ug(st it:Value)(b a w:Bool)(k:Nat)(d:k<=3)(c:a=true->w=true):∃f',gm (nx PP false (S7 (A7 m f st b a it (wv ⟨true,w,true,k⟩)) CE.frame.todo up)) (S7 (A7 m f' st b a it (wv ⟨true,w,true,k⟩)) xI.frame.todo up)/\az (S7 (A7 m f' st b a it (wv ⟨true,w,true,k⟩)) xI.frame.todo up)=some (186,#[pt m,wv ⟨true,w,true,k⟩,wv (qZ { pc:=.c2,old:=⟨true,w,true,k⟩,aw:=a,sv:=b,r:=0 })]):=by
 cases b<;>cases a<;>cases w<;>(first|exact absurd (c rfl) (by decide)|skip)<;>((obtain rfl|rfl|rfl|rfl:k=0\/k=1\/k=2\/k=3:=by omega))<;>exact gK
def Uh(st it:Value)(b a w:Bool)(k:Nat)(d:k<=3)(c:a=true->w=true):∃f',gm (fin (S7 (A7 m (px 17 (.bool true) f) st b a it (wv ⟨true,w,false,k⟩)) Ud.frame.todo up) (.bool false)) (S7 (A7 m f' st b a it (wv ⟨true,w,false,k⟩)) xI.frame.todo up)/\az (S7 (A7 m f' st b a it (wv ⟨true,w,false,k⟩)) xI.frame.todo up)=some (186,#[pt m,wv ⟨true,w,false,k⟩,wv (qZ { pc:=.c2,old:=⟨true,w,false,k⟩,aw:=a,sv:=b,r:=0 })]):=by
 cases b<;>cases a<;>cases w<;>(first|exact absurd (c rfl) (by decide)|skip)<;>((obtain rfl|rfl|rfl|rfl:k=0\/k=1\/k=2\/k=3:=by omega))<;>exact gK
def aio(st it:Value)(a:Bool)(k:Nat)(b:k<=3)(c:k≠0):∃f',gm (fin (S7 (A7 m (px 17 (.bool true) f) st a false it (wv ⟨true,false,false,k⟩)) Ud.frame.todo up) (.bool true)) (S7 (A7 m (px 33 (.bool true) f') st a false it (wv ⟨true,false,false,k⟩)) zc1.frame.todo up)/\az (S7 (A7 m (px 33 (.bool true) f') st a false it (wv ⟨true,false,false,k⟩)) zc1.frame.todo up)=some (186,#[pt m,wv ⟨true,false,false,k⟩,wv ⟨true,true,false,k⟩]):=by
 (obtain rfl|rfl|rfl:k=1\/k=2\/k=3:=by omega)<;>exact Pp
def YT(st it:Value)(a w:Bool)(k:Nat)(b:k<=3):∃f',gm (fin (S7 (A7 m (px 17 (.bool true) f) st a true it (wv ⟨true,w,false,k⟩)) Ud.frame.todo up) (.bool true)) (S7 (A7 m f' st a true it (wv ⟨true,w,false,k⟩)) FC.frame.todo up)/\az (S7 (A7 m f' st a true it (wv ⟨true,w,false,k⟩)) FC.frame.todo up)=some (193,#[]):=by
 cases w<;>((obtain rfl|rfl|rfl|rfl:k=0\/k=1\/k=2\/k=3:=by omega))<;>exact gK
def YU(st it:Value)(a:Bool)(k:Nat)(b:k<=3):∃f',gm (fin (S7 (A7 m (px 17 (.bool true) f) st a false it (wv ⟨true,true,false,k⟩)) Ud.frame.todo up) (.bool true)) (S7 (A7 m f' st a false it (wv ⟨true,true,false,k⟩)) FC.frame.todo up)/\az (S7 (A7 m f' st a false it (wv ⟨true,true,false,k⟩)) FC.frame.todo up)=some (193,#[]):=by
 ((obtain rfl|rfl|rfl|rfl:k=0\/k=1\/k=2\/k=3:=by omega))<;>exact gK
def YV(st it:Value)(a:Bool):∃f',gm (fin (S7 (A7 m (px 17 (.bool true) f) st a false it (wv ⟨true,false,false,0⟩)) Ud.frame.todo up) (.bool true)) (S7 (A7 m f' st a false it (wv ⟨true,false,false,0⟩)) FC.frame.todo up)/\az (S7 (A7 m f' st a false it (wv ⟨true,false,false,0⟩)) FC.frame.todo up)=some (193,#[]):=
 gK
def adb(st it old:Value)(a b:Bool):∃f',gm (fin (S7 (A7 m (px 33 (.bool true) f) st a b it old) zc1.frame.todo up) (.bool true)) (S7 (A7 m f' st a true it old) FC.frame.todo up)/\az (S7 (A7 m f' st a true it old) FC.frame.todo up)=some (193,#[]):=
 gK
def ade(st it old:Value)(a b:Bool):∃f',gm (fin (S7 (A7 m (px 33 (.bool true) f) st a b it old) zc1.frame.todo up) (.bool false)) (S7 (A7 m f' st a b it old) FC.frame.todo up)/\az (S7 (A7 m f' st a b it old) FC.frame.todo up)=some (193,#[]):=
 gK
def adf(st old:Value)(it:Int)(a b:Bool):∃f',gm (fin (S7 (A7 m f st a b (.int .i64 it) old) FC.frame.todo up) (.tuple #[])) (S7 (A7 m f' st a b (.int .i64 (IntKind.i64.wrap (it+1))) old) zr1.frame.todo up)/\fj (S7 (A7 m f' st a b (.int .i64 (IntKind.i64.wrap (it+1))) old) zr1.frame.todo up)=some (21,pt m):=
 gK
def adg(st it old:Value)(a b:Bool):∃f',gm (fin (S7 (A7 m f st a b it old) xI.frame.todo up) (.bool false)) (S7 (A7 m f' st a b it old) zr3.frame.todo up)/\fj (S7 (A7 m f' st a b it old) zr3.frame.todo up)=some (21,pt m):=
 gK
def G6(st it:Value)(a b w:Bool)(k:Nat)(c:k<=3):∃f',gm (fin (S7 (A7 m f st a b it (wv ⟨false,w,false,k⟩)) xI.frame.todo up) (.bool true)) (S7 (A7 m f' st a b it (wv ⟨false,w,false,k⟩)) WU.frame.todo up)/\az (S7 (A7 m f' st a b it (wv ⟨false,w,false,k⟩)) WU.frame.todo up)=some (162,#[]):=by
 cases w<;>((obtain rfl|rfl|rfl|rfl:k=0\/k=1\/k=2\/k=3:=by omega))<;>exact gK
def Mp(it:Value)(a b w:Bool)(k:Nat)(c:k<=3):∃f',gm (fin (S7 (A7 m f (.int .i64 0) a b it (wv ⟨false,w,true,k⟩)) xI.frame.todo up) (.bool true)) (S7 (A7 m f' (.int .i64 0) a b it (wv ⟨false,w,true,k⟩)) Te.frame.todo up)/\az (S7 (A7 m f' (.int .i64 0) a b it (wv ⟨false,w,true,k⟩)) Te.frame.todo up)=some (195,#[]):=by
 cases w<;>((obtain rfl|rfl|rfl|rfl:k=0\/k=1\/k=2\/k=3:=by omega))<;>exact gK
def Mq(t:Nat)(it:Value)(a b w:Bool)(k:Nat)(c:k<=3):∃f',gm (fin (S7 (A7 m f (.int .i64 ((t+1:Nat):Int)) a b it (wv ⟨false,w,true,k⟩)) xI.frame.todo up) (.bool true)) (S7 (A7 m f' (.int .i64 ((t+1:Nat):Int)) a b it (wv ⟨false,w,true,k⟩)) FD.frame.todo up)/\gZ (S7 (A7 m f' (.int .i64 ((t+1:Nat):Int)) a b it (wv ⟨false,w,true,k⟩)) FD.frame.todo up)=some (196,some (.pointer (some ⟨m,1,none⟩))):=by
 cases w<;>((obtain rfl|rfl|rfl|rfl:k=0\/k=1\/k=2\/k=3:=by omega))<;>exact gK
def Mr(it:Value)(a b w:Bool)(k:Nat)(c:k<=3):∃f',gm (fin (S7 (A7 m f (.int .i64 0) a b it (wv ⟨true,w,true,k⟩)) xI.frame.todo up) (.bool true)) (S7 (A7 m f' (.int .i64 0) a b it (wv ⟨true,w,true,k⟩)) Te.frame.todo up)/\az (S7 (A7 m f' (.int .i64 0) a b it (wv ⟨true,w,true,k⟩)) Te.frame.todo up)=some (195,#[]):=by
 cases w<;>((obtain rfl|rfl|rfl|rfl:k=0\/k=1\/k=2\/k=3:=by omega))<;>exact gK
def Ms(t:Nat)(it:Value)(a b w:Bool)(k:Nat)(c:k<=3):∃f',gm (fin (S7 (A7 m f (.int .i64 ((t+1:Nat):Int)) a b it (wv ⟨true,w,true,k⟩)) xI.frame.todo up) (.bool true)) (S7 (A7 m f' (.int .i64 ((t+1:Nat):Int)) a b it (wv ⟨true,w,true,k⟩)) FD.frame.todo up)/\gZ (S7 (A7 m f' (.int .i64 ((t+1:Nat):Int)) a b it (wv ⟨true,w,true,k⟩)) FD.frame.todo up)=some (196,some (.pointer (some ⟨m,1,none⟩))):=by
 cases w<;>((obtain rfl|rfl|rfl|rfl:k=0\/k=1\/k=2\/k=3:=by omega))<;>exact gK
def Mt(it:Value)(a b w:Bool)(k:Nat)(c:k<=3):∃f',gm (fin (S7 (A7 m f (.int .i64 0) a b it (wv ⟨true,w,false,k⟩)) xI.frame.todo up) (.bool true)) (S7 (A7 m f' (.int .i64 0) a b it (wv ⟨true,w,false,k⟩)) Te.frame.todo up)/\az (S7 (A7 m f' (.int .i64 0) a b it (wv ⟨true,w,false,k⟩)) Te.frame.todo up)=some (195,#[]):=by
 cases w<;>((obtain rfl|rfl|rfl|rfl:k=0\/k=1\/k=2\/k=3:=by omega))<;>exact gK
def Mw(t:Nat)(it:Value)(a b w:Bool)(k:Nat)(c:k<=3):∃f',gm (fin (S7 (A7 m f (.int .i64 ((t+1:Nat):Int)) a b it (wv ⟨true,w,false,k⟩)) xI.frame.todo up) (.bool true)) (S7 (A7 m f' (.int .i64 ((t+1:Nat):Int)) a b it (wv ⟨true,w,false,k⟩)) FD.frame.todo up)/\gZ (S7 (A7 m f' (.int .i64 ((t+1:Nat):Int)) a b it (wv ⟨true,w,false,k⟩)) FD.frame.todo up)=some (196,some (.pointer (some ⟨m,1,none⟩))):=by
 cases w<;>((obtain rfl|rfl|rfl|rfl:k=0\/k=1\/k=2\/k=3:=by omega))<;>exact gK
def aip(st it old v:Value)(a b:Bool):∃f',gm (fin (S7 (A7 m f st a b it old) Te.frame.todo up) v) (S7 (A7 m f' v a b it old) FD.frame.todo up)/\gZ (S7 (A7 m f' v a b it old) FD.frame.todo up)=some (196,some (.pointer (some ⟨m,1,none⟩))):=
 gK
def adh(st it old:Value)(a:Bool):∃f',gm (fin (S7 (A7 m f st true a it old) FD.frame.todo up) (.tuple #[])) (S7 (A7 m f' st true a it old) WT.frame.todo up)/\fj (S7 (A7 m f' st true a it old) WT.frame.todo up)=some (21,pt m):=
 gK
def adi(st it old:Value)(a:Bool):∃f',gm (fin (S7 (A7 m f st false a it old) FD.frame.todo up) (.tuple #[])) (S7 (A7 m (px 95 (.bool false) f') st false a it old) zn2.frame.todo up)/\az (S7 (A7 m (px 95 (.bool false) f') st false a it old) zn2.frame.todo up)=some (195,#[]):=
 Pp
def aiq(it old:Value)(st v:Int)(a:Bool):∃f',gm (fin (S7 (A7 m (px 95 (.bool false) f) (.int .i64 st) false a it old) zn2.frame.todo up) (.int .i64 v)) (S7 (A7 m f' (.int .i64 st) (decide (IntKind.i64.wrap (v-st) > 1000000)) a it old) WT.frame.todo up)/\fj (S7 (A7 m f' (.int .i64 st) (decide (IntKind.i64.wrap (v-st) > 1000000)) a it old) WT.frame.todo up)=some (21,pt m):=
 gK
def adj(st it old:Value)(a b l w:Bool)(k:Nat)(c:k<=3):∃f',gm (fin (S7 (A7 m f st a b it old) WT.frame.todo up) (wv ⟨l,w,false,k⟩)) (S7 (A7 m f' st a true (.int .i64 0) (wv ⟨l,w,false,k⟩)) CE.frame.todo up)/\aa (S7 (A7 m f' st a true (.int .i64 0) (wv ⟨l,w,false,k⟩)) CE.frame.todo up)=.running:=by
 cases l<;>cases w<;>((obtain rfl|rfl|rfl|rfl:k=0\/k=1\/k=2\/k=3:=by omega))<;>exact gK
def adk(st it old:Value)(a b:Bool)(k:Nat)(c:k<=3)(d:k≠0):∃f',gm (fin (S7 (A7 m f st a b it old) WT.frame.todo up) (wv ⟨false,false,true,k⟩)) (S7 (A7 m f' st a b it (wv ⟨false,false,true,k⟩)) za1.frame.todo up)/\az (S7 (A7 m f' st a b it (wv ⟨false,false,true,k⟩)) za1.frame.todo up)=some (188,#[pt m,.int .i32 (if(!a||k==1) then -11 else -7)]):=by
 cases a<;>(obtain rfl|rfl|rfl:k=1\/k=2\/k=3:=by omega)<;>exact gK
def air(st it old v:Value)(a b:Bool):∃f',gm (fin (S7 (A7 m f st a b it old) za1.frame.todo up) v) (S7 (A7 m f' st a b it old) WU.frame.todo up)/\az (S7 (A7 m f' st a b it old) WU.frame.todo up)=some (162,#[]):=
 gK
def ais(st it old:Value)(a b:Bool):∃f',gm (fin (S7 (A7 m f st a b it old) WU.frame.todo up) (.tuple #[])) (S7 (A7 m f' st a b it old) zcv.frame.todo up)/\gu (S7 (A7 m f' st a b it old) zcv.frame.todo up)=some (237,216,pt m):=
 gK
def ait(st it old:Value)(a b:Bool):∃f',gm (fin (S7 (A7 m f st a b it old) zcv.frame.todo up) (pt m)) (S7 (A7 m f' st a b it old) zaq.frame.todo up)/\az (S7 (A7 m f' st a b it old) zaq.frame.todo up)=some (175,#[pt m]):=
 gK
structure Out(g:ab)(c0:Frame)(cs:List Frame):Prop where
 q:ff PP false eJ 300 g
 d:∀d,xD PP false eJ 300 d g=d
 q1:uo PP false 1 (TT g)
 d1:∀d,YL PP false 1 d (TT g)=d
 e:adv PP false 1 (TT g)=G (c0.finish (.tuple #[])) cs
def Out.run{X:Fix}{V:Vw}{q:Bool}{Stop:Stp}{M:Own}{d:Nat}{g:ab}{w:World}{c0:Frame}{cs:List Frame}(h:Out g c0 cs)(a:X.P=PP)(hg:(V.g==0)=false)(b:ay X V q Stop M d (G (c0.finish (.tuple #[])) cs) w):ay X V q Stop M d g w:=by
 refine .oO (S:=eJ) hg 300 (by rw[a];exact h.q) ?_;refine .quiet hg 1 (by rw[a];exact h.q1) ?_;rw[a,h.d,h.d1];have e:=h.e;unfold TT at e;rw[e];exact b
def lB{g g':ab}(e:g'=TT g)(a:ff PP false eJ 300 g:=by exact⟨λ_=>by kernel_rfl,by kernel_rfl⟩)(hd:∀d,xD PP false eJ 300 d g=d:=by intro _;kernel_rfl):gm g g':=⟨a,hd,e.symm⟩
section
variable (m:Nat)(c0:Frame)(cs:List Frame)
noncomputable def yE:ab:=G (Frame.enter PP 139 #[pt m] .normal) (c0::cs)
noncomputable def y0:ab:=TT (yE m c0 cs)
noncomputable def y1:ab:=TT (fin (y0 m c0 cs) (.tuple #[]))
noncomputable def y2:ab:=TT (fin (y1 m c0 cs) (.bool true))
noncomputable def y3:ab:=TT (fin (y2 m c0 cs) (.tuple #[]))
noncomputable def y4:ab:=TT (fin (y3 m c0 cs) (pt m))
noncomputable def iw:List Frame:=(TT (fin (y1 m c0 cs) (.bool false))).callers
def l_E:gm (yE m c0 cs) (y0 m c0 cs):=lB (by delta y0;rfl)
def aiu:az (y0 m c0 cs)=some (161,#[]):=by kernel_rfl
def l_0:gm (fin (y0 m c0 cs) (.tuple #[])) (y1 m c0 cs):=lB (by delta y1;rfl)
def l_1:gm (fin (y1 m c0 cs) (.bool true)) (y2 m c0 cs):=lB (by delta y2;rfl)
def aiv:az (y2 m c0 cs)=some (162,#[]):=by kernel_rfl
def l_2:gm (fin (y2 m c0 cs) (.tuple #[])) (y3 m c0 cs):=lB (by delta y3;rfl)
def aiw:gu (y3 m c0 cs)=some (237,216,pt m):=by kernel_rfl
def l_3:gm (fin (y3 m c0 cs) (pt m)) (y4 m c0 cs):=lB (by delta y4;rfl)
def aix:az (y4 m c0 cs)=some (175,#[pt m]):=by kernel_rfl
def l_4:Out (fin (y4 m c0 cs) (.tuple #[])) c0 cs:=⟨⟨λw=>by kernel_rfl,by kernel_rfl⟩,λd=>by kernel_rfl,⟨λw=>by kernel_rfl,by kernel_rfl⟩,λd=>by kernel_rfl,by kernel_rfl⟩
def l_s:∃f',gm (fin (y1 m c0 cs) (.bool false)) (S7 (A7 m f' (.int .i64 0) false false (.int .i64 0) undef) zr0.frame.todo (iw m c0 cs))/\fj (S7 (A7 m f' (.int .i64 0) false false (.int .i64 0) undef) zr0.frame.todo (iw m c0 cs))=some (21,pt m):=
 gK
def l_e(f:Nat->Value)(st it old:Value)(a b:Bool):Out (fin (S7 (A7 m f st a b it old) zaq.frame.todo (iw m c0 cs)) (.tuple #[])) c0 cs:=
 ⟨⟨λw=>by kernel_rfl,by kernel_rfl⟩,λd=>by kernel_rfl,⟨λw=>by kernel_rfl,by kernel_rfl⟩,λd=>by kernel_rfl,by kernel_rfl⟩
end
def F4(m:Nat)(f:Nat->Value):Nat->Value
 |0=>.pointer (some ⟨m,0,none⟩)
 |i=>f i
noncomputable def A4(m:Nat)(f:Nat->Value):Array Value:=zj 21 (F4 m f)
noncomputable def mY(a:Array Value)(td:List Item):Frame:={ fn:=174,tmps:=a,todo:=td,defers:=[],mode:=.run,kind:=.normal,roundOf:=none }
def F9(m:Nat)(f:Nat->Value)(old:Value):Nat->Value
 |0=>.pointer (some ⟨m,0,none⟩)
 |4=>old
 |i=>f i
noncomputable def A9(m:Nat)(f:Nat->Value)(old:Value):Array Value:=zj 43 (F9 m f old)
noncomputable def vk(a:Array Value)(td:List Item):Frame:={ fn:=189,tmps:=a,todo:=td,defers:=[],mode:=.run,kind:=.normal,roundOf:=none }
section
variable {g:ab}{m:Nat}{old:Value}{td td4:List Item}{up:List Frame}
def WV{a:Array Value}(hs:a.size=21)(b:a[0]! = .pointer (some ⟨m,0,none⟩)):a=A4 m (λi=>a[i]!):=
 Jr hs λi _=>by
  unfold F4
  split<;>first|exact b.symm|rfl
def adl{a:Array Value}(hs:a.size=43)(b:a[0]! = .pointer (some ⟨m,0,none⟩))(c:a[4]! = old):a=A9 m (λi=>a[i]!) old:=
 Jr hs λi _=>by
  unfold F9
  split<;>first|exact b.symm|exact c.symm|rfl
def Ui{a:Type}{b:ab->a}{v:a}(h:ff PP false eJ 300 g:=by exact⟨λ_=>by kernel_rfl,by kernel_rfl⟩)(hd:∀d,xD PP false eJ 300 d g=d:=by intro _;kernel_rfl)(j:TT g=G (mY (TT g).frame.tmps td) up:=by kernel_rfl)(hs:(TT g).frame.tmps.size=21:=by kernel_rfl)
 (k:(TT g).frame.tmps[0]! = .pointer (some ⟨m,0,none⟩):=by kernel_rfl) (l:b (TT g)=v:=by kernel_rfl):∃f',gm g (G (mY (A4 m f') td) up)/\b (G (mY (A4 m f') td) up)=v:=by
 have e:=WV hs k;have c:TT g=G (mY (A4 m (λi=>(TT g).frame.tmps[i]!)) td) up:=by rw[<-e];exact j
 exact⟨_,⟨h,hd,c⟩,by rw[<-c];exact l⟩
def Pq{c:Type}{h:ab->c}{v:c}(k:ff PP false eJ 300 g:=by exact⟨λ_=>by kernel_rfl,by kernel_rfl⟩)(hd:∀d,xD PP false eJ 300 d g=d:=by intro _;kernel_rfl)(l:TT g=G (vk (TT g).frame.tmps td) (mY (TT g).callers.head!.tmps td4::up):=by kernel_rfl)(hs:(TT g).frame.tmps.size=43:=by kernel_rfl)
 (n:(TT g).frame.tmps[0]! = .pointer (some ⟨m,0,none⟩):=by kernel_rfl) (o:(TT g).frame.tmps[4]! = old:=by kernel_rfl) (a:(TT g).callers.head!.tmps.size=21:=by kernel_rfl) (b:(TT g).callers.head!.tmps[0]! = .pointer (some ⟨m,0,none⟩):=by kernel_rfl) (p:h (TT g)=v:=by kernel_rfl) :
 ∃f' f4,gm g (G (vk (A9 m f' old) td) (mY (A4 m f4) td4::up))/\h (G (vk (A9 m f' old) td) (mY (A4 m f4) td4::up))=v:=by
 have e:=adl hs n o;have q:=WV a b;have j:TT g=G (vk (A9 m (λi=>(TT g).frame.tmps[i]!) old) td) (mY (A4 m (λi=>(TT g).callers.head!.tmps[i]!)) td4::up):=by rw[<-e,<-q];exact l
 exact⟨_,_,⟨k,hd,j⟩,by rw[<-j];exact p⟩
end
section
variable (m:Nat)(c0:Frame)(cs:List Frame)
noncomputable def xE:ab:=G (Frame.enter PP 140 #[pt m] .normal) (c0::cs)
noncomputable def x0:ab:=TT (xE m c0 cs)
noncomputable def x1(v:Int):ab:=TT (fin (x0 m c0 cs) (.int .i32 v))
noncomputable def x2(v:Int):ab:=TT (fin (x1 m c0 cs v) (pt m))
noncomputable def x3(v:Int):ab:=TT (fin (x2 m c0 cs v) (.tuple #[]))
noncomputable def x4(v:Int):ab:=TT (fin (x3 m c0 cs v) (.tuple #[]))
noncomputable def tN:List Frame:=(x0 m c0 cs).callers
def u_E:gm (xE m c0 cs) (x0 m c0 cs):=lB (by delta x0;rfl)
def aiy:fj (x0 m c0 cs)=some (21,pt m):=by kernel_rfl
def u_0(v:Int):gm (fin (x0 m c0 cs) (.int .i32 v)) (x1 m c0 cs v):=lB (by delta x1;rfl)
def aiz(v:Int):gu (x1 m c0 cs v)=some (237,216,pt m):=by kernel_rfl
def u_1(v:Int):gm (fin (x1 m c0 cs v) (pt m)) (x2 m c0 cs v):=lB (by delta x2;rfl)
def aiA(v:Int):az (x2 m c0 cs v)=some (160,#[pt m]):=by kernel_rfl
def u_2(v:Int):gm (fin (x2 m c0 cs v) (.tuple #[])) (x3 m c0 cs v):=lB (by delta x3;rfl)
def aiB(v:Int):az (x3 m c0 cs v)=some (161,#[]):=by kernel_rfl
def u_3(v:Int):gm (fin (x3 m c0 cs v) (.tuple #[])) (x4 m c0 cs v):=lB (by delta x4;rfl)
def aiC(v:Int):az (x4 m c0 cs v)=some (188,#[pt m,.int .i32 (-1)]):=by kernel_rfl
end
noncomputable def wx4:ab:=x4 0 default [] 0
noncomputable def Pt:ab:=TT (fin wx4 (.int .i32 0))
noncomputable def Tf:ab:=TT (fin wx4 (.int .i32 8))
noncomputable def wus:ab:=TT (fin Tf (.bool true))
noncomputable def wux:ab:=TT (fin Tf (.bool false))
noncomputable def wuh:ab:=TT (fin wx4 (.int .i32 4))
noncomputable def w4:List Item:=Tf.callers.head!.todo
section
variable (m:Nat)(c0:Frame)(cs:List Frame)(f f4:Nat->Value)
def YW(v:Int)(w:Bool)(k:Nat)(a:k<=3)(h:k=0\/w=true):∃f',gm (fin (x4 m c0 cs v) (wv ⟨false,w,false,k⟩)) (G (mY (A4 m f') Pt.frame.todo) (tN m c0 cs))/\az (G (mY (A4 m f') Pt.frame.todo) (tN m c0 cs))=some (162,#[]):=by
 cases w<;>(obtain rfl|rfl|rfl|rfl:k=0\/k=1\/k=2\/k=3:=by omega)<;>(first|exact absurd h (by decide)|skip)<;>exact Ui
def YX(v:Int)(w:Bool)(k:Nat)(b:k<=3):∃f' a,gm (fin (x4 m c0 cs v) (wv ⟨false,w,true,k⟩)) (G (vk (A9 m f' undef) wuh.frame.todo) (mY (A4 m a) w4::tN m c0 cs))/\gZ (G (vk (A9 m f' undef) wuh.frame.todo) (mY (A4 m a) w4::tN m c0 cs))=some (198,some (.pointer (some ⟨m,1,none⟩))):=by
 cases w<;>(obtain rfl|rfl|rfl|rfl:k=0\/k=1\/k=2\/k=3:=by omega)<;>exact Pq
def YY(v:Int)(k:Nat)(b:k<=3)(c:k≠0):∃f' a,gm (fin (x4 m c0 cs v) (wv ⟨false,false,false,k⟩)) (G (vk (A9 m f' (wv ⟨false,false,false,k⟩)) Tf.frame.todo) (mY (A4 m a) w4::tN m c0 cs))/\az (G (vk (A9 m f' (wv ⟨false,false,false,k⟩)) Tf.frame.todo) (mY (A4 m a) w4::tN m c0 cs))=some (186,#[pt m,wv ⟨false,false,false,k⟩,wv ⟨false,true,false,k-1⟩]):=by
 (obtain rfl|rfl|rfl:k=1\/k=2\/k=3:=by omega)<;>exact Pq
def adp(old:Value):∃f' a,gm (fin (G (vk (A9 m f old) Tf.frame.todo) (mY (A4 m f4) w4::tN m c0 cs)) (.bool true)) (G (vk (A9 m f' old) wus.frame.todo) (mY (A4 m a) w4::tN m c0 cs))/\gZ (G (vk (A9 m f' old) wus.frame.todo) (mY (A4 m a) w4::tN m c0 cs))=some (198,some (.pointer (some ⟨m,1,none⟩))):=by
 exact Pq
def adq(old:Value):∃f' a,gm (fin (G (vk (A9 m f old) Tf.frame.todo) (mY (A4 m f4) w4::tN m c0 cs)) (.bool false)) (G (vk (A9 m f' old) wux.frame.todo) (mY (A4 m a) w4::tN m c0 cs))/\fj (G (vk (A9 m f' old) wux.frame.todo) (mY (A4 m a) w4::tN m c0 cs))=some (21,pt m):=by
 exact Pq
def Uj(old:Value)(l w s:Bool)(k:Nat)(a:k<=3)(h:k=0\/l=true\/w=true\/s=true):∃f',gm (fin (G (vk (A9 m f old) wux.frame.todo) (mY (A4 m f4) w4::tN m c0 cs)) (wv ⟨l,w,s,k⟩)) (G (mY (A4 m f') Pt.frame.todo) (tN m c0 cs))/\az (G (mY (A4 m f') Pt.frame.todo) (tN m c0 cs))=some (162,#[]):=by
 cases l<;>cases w<;>cases s<;>(obtain rfl|rfl|rfl|rfl:k=0\/k=1\/k=2\/k=3:=by omega)<;>(first|exact absurd h (by decide)|skip)<;>exact Ui
def Uk(old:Value)(k:Nat)(b:k<=3)(c:k≠0):∃f' a,gm (fin (G (vk (A9 m f old) wux.frame.todo) (mY (A4 m f4) w4::tN m c0 cs)) (wv ⟨false,false,false,k⟩)) (G (vk (A9 m f' (wv ⟨false,false,false,k⟩)) Tf.frame.todo) (mY (A4 m a) w4::tN m c0 cs))/\az (G (vk (A9 m f' (wv ⟨false,false,false,k⟩)) Tf.frame.todo) (mY (A4 m a) w4::tN m c0 cs))=some (186,#[pt m,wv ⟨false,false,false,k⟩,wv ⟨false,true,false,k-1⟩]):=by
 (obtain rfl|rfl|rfl:k=1\/k=2\/k=3:=by omega)<;>exact Pq
def aiE(old:Value):∃f',gm (fin (G (vk (A9 m f old) wus.frame.todo) (mY (A4 m f4) w4::tN m c0 cs)) (.tuple #[])) (G (mY (A4 m f') Pt.frame.todo) (tN m c0 cs))/\az (G (mY (A4 m f') Pt.frame.todo) (tN m c0 cs))=some (162,#[]):=by
 exact Ui
def aiF(old:Value):∃f',gm (fin (G (vk (A9 m f old) wuh.frame.todo) (mY (A4 m f4) w4::tN m c0 cs)) (.tuple #[])) (G (mY (A4 m f') Pt.frame.todo) (tN m c0 cs))/\az (G (mY (A4 m f') Pt.frame.todo) (tN m c0 cs))=some (162,#[]):=by
 exact Ui
def u_e:Out (fin (G (mY (A4 m f) Pt.frame.todo) (tN m c0 cs)) (.tuple #[])) c0 cs:=
 ⟨⟨λw=>by kernel_rfl,by kernel_rfl⟩,λd=>by kernel_rfl,⟨λw=>by kernel_rfl,by kernel_rfl⟩,λd=>by kernel_rfl,by kernel_rfl⟩
end
end Go.Proofs
namespace Go.Proofs
open Go.Ph Go.Conc
set_option maxRecDepth 100000
def adr:cw PP 161 false (λ_=>do mark .disable;pure ai):=⟨Tryz.f161,by kernel_rfl,by kernel_rfl,by kernel_rfl,by kernel_rfl,by kernel_rfl,by kernel_rfl⟩
def ads:cw PP 162 false (λ_=>do mark .enable;pure ai):=⟨Tryz.f162,by kernel_rfl,by kernel_rfl,by kernel_rfl,by kernel_rfl,by kernel_rfl,by kernel_rfl⟩
def adt:cw PP 160 false (ao .releaseMerge):=⟨Tryz.f160,by kernel_rfl,by kernel_rfl,by kernel_rfl,by kernel_rfl,by kernel_rfl,by kernel_rfl⟩
def adu:cw PP 175 false (ao .acquire):=⟨Tryz.f175,by kernel_rfl,by kernel_rfl,by kernel_rfl,by kernel_rfl,by kernel_rfl,by kernel_rfl⟩
def adw:cw PP 186 true (ap (.int .i32)):=⟨Tryz.f186,by kernel_rfl,by kernel_rfl,by kernel_rfl,by kernel_rfl,by kernel_rfl,by kernel_rfl⟩
def aiG:cw PP 188 true (aq (aF .add) .i32 true):=⟨Tryz.f188,by kernel_rfl,by kernel_rfl,by kernel_rfl,by kernel_rfl,by kernel_rfl,by kernel_rfl⟩
def aiH:cw PP 192 true aH:=⟨Tryz.f192,by kernel_rfl,by kernel_rfl,by kernel_rfl,by kernel_rfl,by kernel_rfl,by kernel_rfl⟩
def aiI:cw PP 193 true aI:=⟨Tryz.f193,by kernel_rfl,by kernel_rfl,by kernel_rfl,by kernel_rfl,by kernel_rfl,by kernel_rfl⟩
def aiJ:cw PP 195 true Extern.OsHooks.nano:=⟨Tryz.f195,by kernel_rfl,by kernel_rfl,by kernel_rfl,by kernel_rfl,by kernel_rfl,by kernel_rfl⟩
def adx:cw PP 196 true aJ:=⟨Tryz.f196,by kernel_rfl,by kernel_rfl,by kernel_rfl,by kernel_rfl,by kernel_rfl,by kernel_rfl⟩
def aiK:cw PP 198 true aL:=⟨Tryz.f198,by kernel_rfl,by kernel_rfl,by kernel_rfl,by kernel_rfl,by kernel_rfl,by kernel_rfl⟩
def Js:(PP.funcs[187]?).any (·.norace)=true:=by kernel_rfl
def ady:(PP.funcs[189]?).any (·.norace)=true:=by kernel_rfl
def u21:PP.underlying 21=some (.int .i32):=by kernel_rfl
def u237:PP.underlying 237=some (.pointer 188):=by kernel_rfl
def u216:PP.underlying 216=some .unsafePointer:=by kernel_rfl
def aiM:(PP.info? 188).map (λi=>decide (i.size=0))=some false:=by kernel_rfl
end Go.Proofs
namespace Go.Ph
open Go.Conc
def ended(g:ab):Bool:=match g.status with
 |.finished=>true
 |_=>false
def mZ{P:ac}:∀(n:Nat){d:Nat}{g:ab},(∀w,vg P false ended w n g=vh P false ended w n g)->(wu P false ended n g).status=.finished->xD P false ended n d g=0->a5 P n d g
 |0,_,_,_,h,b=>⟨h,b⟩
 |n+1,d,g,i,h,b=>by
  cases f:ended g with
  |true=>
   simp only[wu,xD,f]at h b;exact .inl ⟨h,b⟩
  |false=>
   simp only[wu,xD,f]at h b;have c:∀w,g.status=.running/\stepG P false g w=.go (nx P false g) w (ex P false g)/\mutes (ex P false g)=true/\vg P false ended w n (nx P false g)=vh P false ended w n (nx P false g):=λw=>by
    have:=i w;simp only[vg,vh,f,List.cons.injEq,Prod.mk.injEq]at this;exact⟨this.1.1,this.1.2.1,this.1.2.2,this.2⟩
   refine .inr ⟨(c default).1,_,_,λe j=>?_,λw=>(c w).2.1,mZ n (λw=>(c w).2.2.2) h b⟩;have:=(c default).2.2.1;simp only[mutes,List.all_eq_true]at this;exact this e (Array.mem_toList_iff.2 j)
end Go.Ph
namespace Go.Proofs
open Go.Ph Go.Conc
set_option maxRecDepth 100000
def lY(g:ab):Bool:=match g.frame.mode with
 |.returning=>(g.frame.fn==136||g.frame.fn==141)
 |.run=>match g.frame.todo with
  |.inRegion _ (_::_)::_=>match bF g with
   |some o=>match o.op with
    |.load .. | .store ..=>true
    |.convert _ d _=>d==216
    |.call { callee:=.value (.func f),.. }=>bare.contains f
    |_=>false
   |none=>false
  |_=>false
 |_=>false
noncomputable abbrev T2(mn:Bool)(g:ab):ab:=wu PP mn lY 400 g
structure fL(mn:Bool)(g g':ab):Prop where
 q:ff PP mn lY 400 g
 d:∀d,xD PP mn lY 400 d g=d
 e:T2 mn g=g'
def bU{mn:Bool}{g g':ab}(e:g'=T2 mn g)(b:ff PP mn lY 400 g:=by exact⟨λ_=>by kernel_rfl,by kernel_rfl⟩)(hd:∀d,xD PP mn lY 400 d g=d:=by intro _;kernel_rfl):fL mn g g':=⟨b,hd,e.symm⟩
def fL.run{X:Fix}{V:Vw}{q:Bool}{Stop:Stp}{M:Own}{d:Nat}{g g':ab}{w:World}{mn:Bool}(h:fL mn g g')(b:X.P=PP)(hg:(V.g==0)=mn)(c:ay X V q Stop M d g' w):ay X V q Stop M d g w:=by
 refine .oO (S:=lY) hg 400 (by rw[b];exact h.q) ?_;have e:wu PP mn lY 400 g=g':=h.e;rw[b,h.d,e];exact c
noncomputable def frD(a:Array Value)(td:List Item):Frame:={ fn:=137,tmps:=a,todo:=td,defers:=[],mode:=.returning,kind:=.deferred,roundOf:=none }
noncomputable def ez(P:ac):Frame:={ (default:Frame) with fn:=P.funcs.size,defers:=[],mode:=.panicking [ad] }
section
variable (W:Nat)(a:Array Value)(td:List Item)
noncomputable def dE:ab:=G (Frame.enter PP 138 #[pt W] .deferred) [frD a td,ez PP]
noncomputable def d0:ab:=T2 false (dE W a td)
noncomputable def d1:ab:=T2 false (fin (d0 W a td) (pt W))
noncomputable def d2:ab:=T2 false (fin (d1 W a td) (.tuple #[]))
noncomputable def d3:ab:=T2 false (fin (d2 W a td) (.tuple #[]))
noncomputable def d4:ab:=T2 false (fin (d3 W a td) (.bool false))
noncomputable def d5:ab:=T2 false (fin (d4 W a td) (.int .u64 1))
noncomputable def d6:ab:=T2 false (fin (d5 W a td) (.int .u64 1))
noncomputable def d7:ab:=T2 false (fin (d6 W a td) (.tuple #[]))
def d_E:fL false (dE W a td) (d0 W a td):=bU (by delta d0;rfl)
def aiN:gu (d0 W a td)=some (214,216,pt W):=by kernel_rfl
def d_0:fL false (fin (d0 W a td) (pt W)) (d1 W a td):=bU (by delta d1;rfl)
def aiO:az (d1 W a td)=some (160,#[pt W]):=by kernel_rfl
def d_1:fL false (fin (d1 W a td) (.tuple #[])) (d2 W a td):=bU (by delta d2;rfl)
def aiP:az (d2 W a td)=some (161,#[]):=by kernel_rfl
def d_2:fL false (fin (d2 W a td) (.tuple #[])) (d3 W a td):=bU (by delta d3;rfl)
def aiQ:az (d3 W a td)=some (163,#[]):=by kernel_rfl
def d_3:fL false (fin (d3 W a td) (.bool false)) (d4 W a td):=bU (by delta d4;rfl)
def aiR:az (d4 W a td)=some (183,#[pt W,.int .u64 18446744069414584320]):=by kernel_rfl
def d_4:fL false (fin (d4 W a td) (.int .u64 1)) (d5 W a td):=bU (by delta d5;rfl)
def aiS:az (d5 W a td)=some (184,#[pt W]):=by kernel_rfl
def d_5:fL false (fin (d5 W a td) (.int .u64 1)) (d6 W a td):=bU (by delta d6;rfl)
def aiT:az (d6 W a td)=some (185,#[pt W,.int .u64 0]):=by kernel_rfl
def d_6:fL false (fin (d6 W a td) (.tuple #[])) (d7 W a td):=bU (by delta d7;rfl)
def aiU:gZ (d7 W a td)=some (172,some (.pointer (some ⟨W,1,none⟩))):=by kernel_rfl
def aiV:mayWake PP (d7 W a td)=true:=by kernel_rfl
end
noncomputable def uy(W bc bg bm bt:Nat):ab:=
 { frame:={ (default:Frame) with fn:=PP.funcs.size,defers:=[{ target:=.fn (.func 137) #[pt W,pt bc,pt bg,pt bm,pt bt],args:=#[] }],mode:=.panicking [ad] },callers:=[],status:=.running,dying:=none }
section
variable (W bc bg bm bt:Nat)
noncomputable def k0:ab:=T2 false (uy W bc bg bm bt)
def k_E:fL false (uy W bc bg bm bt) (k0 W bc bg bm bt):=bU (by delta k0;rfl)
def aiW:fj (k0 W bc bg bm bt)=some (121,pt bc):=by kernel_rfl
noncomputable def k1(c:Value):ab:=T2 false (fin (k0 W bc bg bm bt) c)
def k_0(c:Value):fL false (fin (k0 W bc bg bm bt) c) (k1 W bc bg bm bt c):=bU (by delta k1;rfl)
def aiX(c:Value):fj (k1 W bc bg bm bt c)=some (3,pt bg):=by kernel_rfl
def DT(g:ab):Bool:=lY g||(match g.frame.todo with
 |[.code _]=>g.frame.fn==110||g.frame.fn==144
 |_=>false)
noncomputable abbrev T3(g:ab):ab:=wu PP false DT 400 g
noncomputable def k2(c:Value)(n:Int):ab:=T3 (fin (k1 W bc bg bm bt c) (.int .i64 n))
def k_1(c:Value)(n:Int):ff PP false DT 400 (fin (k1 W bc bg bm bt c) (.int .i64 n))/\∀d,xD PP false DT 400 d (fin (k1 W bc bg bm bt c) (.int .i64 n))=d:=⟨⟨λw=>by kernel_rfl,by kernel_rfl⟩,λd=>by kernel_rfl⟩
end
section
variable (W:Nat)(a:Array Value)(td:List Item)
def adZ:a5 PP 400 1 (fin (d4 W a td) (.int .u64 0)):=mZ 400 (λw=>by kernel_rfl) (by kernel_rfl) (by kernel_rfl)
def ae0:a5 PP 400 1 (fin (d4 W a td) (.int .u64 4294967296)):=mZ 400 (λw=>by kernel_rfl) (by kernel_rfl) (by kernel_rfl)
def ae1:a5 PP 400 1 (fin (d4 W a td) (.int .u64 4294967297)):=mZ 400 (λw=>by kernel_rfl) (by kernel_rfl) (by kernel_rfl)
def ae2:a5 PP 400 1 (fin (d4 W a td) (.int .u64 8589934592)):=mZ 400 (λw=>by kernel_rfl) (by kernel_rfl) (by kernel_rfl)
def ae3:a5 PP 400 1 (fin (d4 W a td) (.int .u64 8589934593)):=mZ 400 (λw=>by kernel_rfl) (by kernel_rfl) (by kernel_rfl)
def ajn:a5 PP 400 1 (fin (d7 W a td) (.tuple #[])):=mZ 400 (λw=>by kernel_rfl) (by kernel_rfl) (by kernel_rfl)
end
def ajo:cw PP 163 false (λ_=>pure (.bool false)):=⟨Tryz.f163,by kernel_rfl,by kernel_rfl,by kernel_rfl,by kernel_rfl,by kernel_rfl,by kernel_rfl⟩
def ajp:cw PP 168 false (ao .read):=⟨Tryz.f168,by kernel_rfl,by kernel_rfl,by kernel_rfl,by kernel_rfl,by kernel_rfl,by kernel_rfl⟩
def ajq:cw PP 178 false (ao .write):=⟨Tryz.f178,by kernel_rfl,by kernel_rfl,by kernel_rfl,by kernel_rfl,by kernel_rfl,by kernel_rfl⟩
def ajr:cw PP 172 true aL:=⟨Tryz.f172,by kernel_rfl,by kernel_rfl,by kernel_rfl,by kernel_rfl,by kernel_rfl,by kernel_rfl⟩
def ajs:cw PP 179 true aJ:=⟨Tryz.f179,by kernel_rfl,by kernel_rfl,by kernel_rfl,by kernel_rfl,by kernel_rfl,by kernel_rfl⟩
def ae4:cw PP 183 true (aq (aF .add) .u64 true):=⟨Tryz.f183,by kernel_rfl,by kernel_rfl,by kernel_rfl,by kernel_rfl,by kernel_rfl,by kernel_rfl⟩
def Zl:cw PP 184 true (ar (.int .u64)):=⟨Tryz.f184,by kernel_rfl,by kernel_rfl,by kernel_rfl,by kernel_rfl,by kernel_rfl,by kernel_rfl⟩
def ajt:cw PP 185 true aB:=⟨Tryz.f185,by kernel_rfl,by kernel_rfl,by kernel_rfl,by kernel_rfl,by kernel_rfl,by kernel_rfl⟩
def aju:cw PP 190 true (ap (.int .u64)):=⟨Tryz.f190,by kernel_rfl,by kernel_rfl,by kernel_rfl,by kernel_rfl,by kernel_rfl,by kernel_rfl⟩
def u214:PP.underlying 214=some (.pointer 197):=by kernel_rfl
def u222:∃t,PP.underlying 222=some (.pointer t)/\(PP.info? t).map (λi=>decide (i.size=0))=some false:=⟨186,by kernel_rfl,by kernel_rfl⟩
def ajx:(PP.info? 197).map (λi=>decide (i.size=0))=some false:=by kernel_rfl
end Go.Proofs
namespace Go.Ph
open Go.Conc Go.ConcN
open Go.ConcM (MuAt muA msA OsLater muBlock)
open Go.ConcR (KK WgAt stA smA rd wr mk)
open Go.cD (Wd Th Mv Safe Head eR spin qZ)
def _root_.Go.cD.Wd.UA{x y:Wd}(h:x.num=y.num):x=y:=by
 obtain⟨l,w,s,k⟩:=x;obtain⟨a,w',s',k'⟩:=y;simp only[Wd.num]at h;cases l<;>cases w<;>cases s<;>cases a<;>cases w'<;>cases s'<;>simp at h⊢<;>omega
section
variable {X:Fix}{V:Vw}{q:Bool}{Stop:Stp}{M:Own}{d:Nat}{g g':ab}{w w':World}{es:Array Event}{s s':Sh}{mn:Bool}
def Au(h:ShAt X w' s')(hb:w'.heap[X.Tb]?=w.heap[X.Tb]?)(hl:Live X w):Live X w':=⟨⟨_,_,h.1⟩,⟨_,_,h.2⟩,by rw[hb];exact hl.2.2⟩
def sL(hc:Clear X V M){a:Addr}(i:a.block=X.Mu\/a.block=X.Wg)(v:Value)(j:ShAt X (w.setCell a v) s'):Rl X V M w (w.setCell a v)/\
 ∀d es,(∀e∈es,jG X V M w.heap.size e)->Dl X V false M d w (w.setCell a v) es M (deafBehind d es):=by
 have A:=a6 w a v;have hb:∀b,b≠X.Mu->b≠X.Wg->(w.setCell a v).heap[b]?=w.heap[b]?:=λb l m=>A.block b (by rcases i with h|h<;>rw[h]<;>assumption);have c:OsLater w.os (w.setCell a v).os:=by rw[A.os];exact .refl _
 exact⟨BN hc A.tape A.output c A.size hb (Au j (hb _ hc.ids.mt.symm hc.ids.wt.symm)),λd es k=>jI hc.ids A.tape A.output c A.size hb (by rw[A.size];exact k) (by simp)⟩
def JC(hc:Clear X V M)(d:Nat)(w:World)(es:Array Event)(a:∀e∈es,jG X V M w.heap.size e):Dl X V false M d w w es M (deafBehind d es):=
 jI hc.ids rfl rfl (.refl _) rfl (λ_ _ _=>rfl) a (by simp)
def xO(h:ShAt X w s):X.Mu<w.heap.size:=by
 have:=h.1;unfold MuAt at this;exact(Array.getElem?_eq_some_iff.1 this).1
def lC(h:ShAt X w s):X.Wg<w.heap.size:=by
 have:=h.2;unfold WgAt at this;exact(Array.getElem?_eq_some_iff.1 this).1
def ShAt.setMu(hi:WO X)(h:ShAt X w s)(x:Wd):ShAt X (w.setCell (muA X.Mu) (.int .i32 ((x.num:Nat):Int))) { s with mw:=x }:=
 ⟨h.1.setSt _,((a6 w (muA X.Mu) _).block X.Wg hi.mw.symm).trans h.2⟩
def ShAt.setMs(hi:WO X)(h:ShAt X w s)(x:Nat):ShAt X (w.setCell (msA X.Mu) (.int .u32 (x:Int))) { s with ms:=x }:=
 ⟨h.1.setSm _,((a6 w (msA X.Mu) _).block X.Wg hi.mw.symm).trans h.2⟩
variable {o:Oper}{f:FuncId}{nr:Bool}{P:ac}
def DZ{x:Wd}(b:az g=some (f,#[.pointer (some ⟨X.Mu,0,none⟩),.int .i32 ((s.mw.num:Nat):Int),.int .i32 ((x.num:Nat):Int)]))(hb:cw P f nr (ap (.int .i32)))(a:ShAt X w s) :
 stepG P mn g w=.go (fin g (.bool true)) (w.setCell (muA X.Mu) (.int .i32 ((x.num:Nat):Int))) #[⟨.cell (muA X.Mu),false,true⟩,⟨.cell (muA X.Mu),true,true⟩]:=
 hb.step b (by rw[a7];exact run_cas_hit_entry a.1.cellSt (a.1.thaw 0)) (by rw[a7];exact(events_cas_hit_entry a.1.cellSt (a.1.thaw 0) _).trans rfl) (sync_rw _)
def B5{old x:Wd}(c:az g=some (f,#[.pointer (some ⟨X.Mu,0,none⟩),.int .i32 ((old.num:Nat):Int),.int .i32 ((x.num:Nat):Int)]))(hb:cw P f nr (ap (.int .i32)))(a:ShAt X w s)(h:s.mw≠old) :
 stepG P mn g w=.go (fin g (.bool false)) w #[⟨.cell (muA X.Mu),false,true⟩]:=by
 have b:¬((s.mw.num:Nat):Int)=((old.num:Nat):Int):=λe=>h (Wd.UA (by omega));exact hb.step c (by rw[a7];exact run_cas_miss_entry a.1.cellSt (a.1.thaw 0) b) (by rw[a7];exact(events_cas_miss_entry a.1.cellSt (a.1.thaw 0) b _).trans rfl) (sync_r _)
def PO{n:Int}{x:Wd}(c:az g=some (f,#[.pointer (some ⟨X.Mu,0,none⟩),.int .i32 n]))(hb:cw P f nr (aq (aF .add) .i32 true))(a:ShAt X w s)(e:IntKind.i32.wrap (((s.mw.num:Nat):Int)+n)=((x.num:Nat):Int)) :
 stepG P mn g w=.go (fin g (.int .i32 ((x.num:Nat):Int))) (w.setCell (muA X.Mu) (.int .i32 ((x.num:Nat):Int))) #[⟨.cell (muA X.Mu),false,true⟩,⟨.cell (muA X.Mu),true,true⟩]:=by
 have b:=run_add_entry (P:=P) (d:=n) a.1.cellSt (a.1.thaw 0);have h:=λes=>events_add_entry (P:=P) (d:=n) a.1.cellSt (a.1.thaw 0) es;rw[e]at b;exact hb.step c b ((h _).trans rfl) (sync_rw _)
def D5{a:Array Value}(h:az g=some (f,a))(c:a[0]?=some (.pointer (some ⟨X.Mu,1,none⟩)))(hb:cw P f nr aJ)(i:ShAt X w s) :
 if s.ms=0 then stepG P mn g w=.go { g with status:=.blocked } w #[] else stepG P mn g w=.go (fin g (.tuple #[])) (w.setCell (msA X.Mu) (.int .u32 ((s.ms-1:Nat):Int))) (a8 (msA X.Mu)):=by
 have hc:=i.1.cellSm;have j:=i.1.thaw 1;unfold msA at hc
 split
 ·rename_i b;rw[b]at hc;exact hb.blocked h (by simp[aJ,aP,c,hc])
 ·rename_i b;have e:((s.ms:Nat):Int)-1=((s.ms-1:Nat):Int):=by omega
  rw[<-e];exact hb.step h (by simp[aJ,aP,c,hc,b,j,msA,aT,run_store P w ⟨X.Mu,1,none⟩ (.int .u32 ((s.ms:Int)-1)) .atomic rfl,Result.andThen])
   (by simp[aJ,aP,c,hc,b,j,msA,a8,ae,ag P w _ ⟨X.Mu,1,none⟩ (.int .u32 ((s.ms:Int)-1)) .atomic rfl,run_store P w ⟨X.Mu,1,none⟩ (.int .u32 ((s.ms:Int)-1)) .atomic rfl,Result.evThen]) (a9 _)
def sr{a:Array Value}(j:az g=some (f,a))(b:a[0]?=some (.pointer (some ⟨X.Mu,1,none⟩)))(hb:cw P f nr aL)(c:ShAt X w s)(k:s.ms<=1) :
 stepG P mn g w=.go (fin g (.tuple #[])) (w.setCell (msA X.Mu) (.int .u32 ((s.ms+1:Nat):Int))) (a8 (msA X.Mu)):=by
 have hc:=c.1.cellSm;have i:=c.1.thaw 1;unfold msA at hc;have e:IntKind.u32.wrap (((s.ms:Nat):Int)+1)=((s.ms+1:Nat):Int):=by
  obtain h|h:s.ms=0\/s.ms=1:=by omega
  ·rw[h];decide
  ·rw[h];decide
 rw[<-e];exact hb.step j (by simp[aL,aP,b,hc,i,msA,aT,aF,run_store P w ⟨X.Mu,1,none⟩ (.int .u32 (IntKind.u32.wrap ((s.ms:Int)+1))) .atomic rfl,Result.andThen])
  (by simp[aL,aP,b,hc,i,msA,a8,aF,ae,ag P w _ ⟨X.Mu,1,none⟩ (.int .u32 (IntKind.u32.wrap ((s.ms:Int)+1))) .atomic rfl,run_store P w ⟨X.Mu,1,none⟩ (.int .u32 (IntKind.u32.wrap ((s.ms:Int)+1))) .atomic rfl,Result.evThen]) (a9 _)
def PR(h:X.Mu<w.heap.size):∀e∈(#[⟨.cell (muA X.Mu),false,true⟩,⟨.cell (muA X.Mu),true,true⟩]:Array Event),jG X V M w.heap.size e:=by
 intro e a;simp at a
 rcases a with rfl|rfl<;>exact eo (.inl rfl) h
def ae5(h:X.Mu<w.heap.size):∀e∈(#[⟨.cell (muA X.Mu),false,true⟩]:Array Event),jG X V M w.heap.size e:=by
 intro e a;simp at a;subst a;exact eo (.inl rfl) h
def JD(h:X.Mu<w.heap.size):∀e∈a8 (msA X.Mu),jG X V M w.heap.size e:=by
 intro e a;simp[a8]at a
 rcases a with rfl|rfl|rfl|rfl
 ·exact lX rfl
 ·exact eo (.inl rfl) h
 ·exact eo (.inl rfl) h
 ·exact lX rfl
end
end Go.Ph
