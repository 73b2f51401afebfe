/- Part of the proof of FieldFlat and FieldMarshals. -/
import Derived.Test.YtmkjeaacgibnoaaGreatY13
import Derived.Conc.RingWorld
set_option linter.all false
open Go renaming Goroutine->aa,Program->ab,goexitEntry->ac,deafBehind->ae,events_load->ag,events_store->ai,setCell_eq_setRow->ao,setRow_heap->ap,asAddr->aq
open Go.Extern.Race renaming none_->ar,marked->aw
open Go.Extern.Atomic renaming casT->aF,update->aH,loadT->aI,storeT->aJ,read->aL,none_->aP
open Go.Op renaming intArith->aT
open Go.Extern.Sync renaming canSpin->a5,nothing->a6,semacquire->a7,semrelease->a8,count->a9,none_->ba
open Go.Conc renaming QuitsD->bb,aside_setCell->bd,casT_eq->bi,run_cas_hit_entry->bj,events_cas_hit_entry->bl,sync_rw->bo,run_cas_miss_entry->bp,events_cas_miss_entry->bq,run_add_entry->br,events_add_entry->bs,semEvents->bu,semEvents_sync->bv
open Go.Result renaming andThen->bw,evThen->bx
open Go.ConcR renaming wgBlock->bA,wgBlock->bC
open Go.World renaming cell?->bL
open Go.MemAct renaming ofEvent->bM
namespace Go.Proofs
open Go.Ph Go.Conc
open Go.cD (Wd Th qZ)
set_option maxRecDepth 100000
structure Out(g:aa)(c0:Frame)(cs:List Frame):Prop where
 q:ff PP false eJ 300 g
 d:∀d,xD PP false eJ 300 d g=d
 q1:uo PP false 1 (TT g)
 d1:∀d,YL PP false 1 d (TT g)=d
 e:adv PP false 1 (TT g)=G (c0.finish (.tuple #[])) cs
def Out.run{X:Fix}{V:Vw}{q:Bool}{Stop:Stp}{M:Own}{d:Nat}{g:aa}{w:World}{c0:Frame}{cs:List Frame}(h:Out g c0 cs)(a:X.P=PP)(hg:(V.g==0)=false)(b:ay X V q Stop M d (G (c0.finish (.tuple #[])) cs) w):ay X V q Stop M d g w:=by
 refine .oO (S:=eJ) hg 300 (by rw[a];exact h.q) ?_;refine .quiet hg 1 (by rw[a];exact h.q1) ?_;rw[a,h.d,h.d1];have e:=h.e;unfold TT at e;rw[e];exact b
def lB{g g':aa}(e:g'=TT g)(a:ff PP false eJ 300 g:=by exact⟨λ_=>by kernel_rfl,by kernel_rfl⟩)(hd:∀d,xD PP false eJ 300 d g=d:=by intro _;kernel_rfl):gm g g':=⟨a,hd,e.symm⟩
section
variable (m:Nat)(c0:Frame)(cs:List Frame)
noncomputable def yE:aa:=G (Frame.enter PP 139 #[pt m] .normal) (c0::cs)
noncomputable def y0:aa:=TT (yE m c0 cs)
noncomputable def y1:aa:=TT (fin (y0 m c0 cs) (.tuple #[]))
noncomputable def y2:aa:=TT (fin (y1 m c0 cs) (.bool true))
noncomputable def y3:aa:=TT (fin (y2 m c0 cs) (.tuple #[]))
noncomputable def y4:aa:=TT (fin (y3 m c0 cs) (pt m))
noncomputable def iw:List Frame:=(TT (fin (y1 m c0 cs) (.bool false))).callers
def l_E:gm (yE m c0 cs) (y0 m c0 cs):=lB (by delta y0;rfl)
def aiu:az (y0 m c0 cs)=some (161,#[]):=by kernel_rfl
def l_0:gm (fin (y0 m c0 cs) (.tuple #[])) (y1 m c0 cs):=lB (by delta y1;rfl)
def l_1:gm (fin (y1 m c0 cs) (.bool true)) (y2 m c0 cs):=lB (by delta y2;rfl)
def aiv:az (y2 m c0 cs)=some (162,#[]):=by kernel_rfl
def l_2:gm (fin (y2 m c0 cs) (.tuple #[])) (y3 m c0 cs):=lB (by delta y3;rfl)
def aiw:gu (y3 m c0 cs)=some (237,216,pt m):=by kernel_rfl
def l_3:gm (fin (y3 m c0 cs) (pt m)) (y4 m c0 cs):=lB (by delta y4;rfl)
def aix:az (y4 m c0 cs)=some (175,#[pt m]):=by kernel_rfl
def l_4:Out (fin (y4 m c0 cs) (.tuple #[])) c0 cs:=⟨⟨λw=>by kernel_rfl,by kernel_rfl⟩,λd=>by kernel_rfl,⟨λw=>by kernel_rfl,by kernel_rfl⟩,λd=>by kernel_rfl,by kernel_rfl⟩
def l_s:∃f',gm (fin (y1 m c0 cs) (.bool false)) (S7 (A7 m f' (.int .i64 0) false false (.int .i64 0) undef) zr0.frame.todo (iw m c0 cs))/\fj (S7 (A7 m f' (.int .i64 0) false false (.int .i64 0) undef) zr0.frame.todo (iw m c0 cs))=some (21,pt m):=
 gK
def l_e(f:Nat->Value)(st it old:Value)(a b:Bool):Out (fin (S7 (A7 m f st a b it old) zaq.frame.todo (iw m c0 cs)) (.tuple #[])) c0 cs:=
 ⟨⟨λw=>by kernel_rfl,by kernel_rfl⟩,λd=>by kernel_rfl,⟨λw=>by kernel_rfl,by kernel_rfl⟩,λd=>by kernel_rfl,by kernel_rfl⟩
end
def F4(m:Nat)(f:Nat->Value):Nat->Value
 |0=>.pointer (some ⟨m,0,none⟩)
 |i=>f i
noncomputable def A4(m:Nat)(f:Nat->Value):Array Value:=zj 21 (F4 m f)
noncomputable def mY(a:Array Value)(td:List Item):Frame:={ fn:=174,tmps:=a,todo:=td,defers:=[],mode:=.run,kind:=.normal,roundOf:=none }
def F9(m:Nat)(f:Nat->Value)(old:Value):Nat->Value
 |0=>.pointer (some ⟨m,0,none⟩)
 |4=>old
 |i=>f i
noncomputable def A9(m:Nat)(f:Nat->Value)(old:Value):Array Value:=zj 43 (F9 m f old)
noncomputable def vk(a:Array Value)(td:List Item):Frame:={ fn:=189,tmps:=a,todo:=td,defers:=[],mode:=.run,kind:=.normal,roundOf:=none }
section
variable {g:aa}{m:Nat}{old:Value}{td td4:List Item}{up:List Frame}
def WV{a:Array Value}(hs:a.size=21)(b:a[0]! = .pointer (some ⟨m,0,none⟩)):a=A4 m (λi=>a[i]!):=
 Jr hs λi _=>by
  unfold F4
  split<;>first|exact b.symm|rfl
def adl{a:Array Value}(hs:a.size=43)(b:a[0]! = .pointer (some ⟨m,0,none⟩))(c:a[4]! = old):a=A9 m (λi=>a[i]!) old:=
 Jr hs λi _=>by
  unfold F9
  split<;>first|exact b.symm|exact c.symm|rfl
def Ui{a:Type}{b:aa->a}{v:a}(h:ff PP false eJ 300 g:=by exact⟨λ_=>by kernel_rfl,by kernel_rfl⟩)(hd:∀d,xD PP false eJ 300 d g=d:=by intro _;kernel_rfl)(j:TT g=G (mY (TT g).frame.tmps td) up:=by kernel_rfl)(hs:(TT g).frame.tmps.size=21:=by kernel_rfl)
 (k:(TT g).frame.tmps[0]! = .pointer (some ⟨m,0,none⟩):=by kernel_rfl) (l:b (TT g)=v:=by kernel_rfl):∃f',gm g (G (mY (A4 m f') td) up)/\b (G (mY (A4 m f') td) up)=v:=by
 have e:=WV hs k;have c:TT g=G (mY (A4 m (λi=>(TT g).frame.tmps[i]!)) td) up:=by rw[<-e];exact j
 exact⟨_,⟨h,hd,c⟩,by rw[<-c];exact l⟩
def Pq{c:Type}{h:aa->c}{v:c}(k:ff PP false eJ 300 g:=by exact⟨λ_=>by kernel_rfl,by kernel_rfl⟩)(hd:∀d,xD PP false eJ 300 d g=d:=by intro _;kernel_rfl)(l:TT g=G (vk (TT g).frame.tmps td) (mY (TT g).callers.head!.tmps td4::up):=by kernel_rfl)(hs:(TT g).frame.tmps.size=43:=by kernel_rfl)
 (n:(TT g).frame.tmps[0]! = .pointer (some ⟨m,0,none⟩):=by kernel_rfl) (o:(TT g).frame.tmps[4]! = old:=by kernel_rfl) (a:(TT g).callers.head!.tmps.size=21:=by kernel_rfl) (b:(TT g).callers.head!.tmps[0]! = .pointer (some ⟨m,0,none⟩):=by kernel_rfl) (p:h (TT g)=v:=by kernel_rfl) :
 ∃f' f4,gm g (G (vk (A9 m f' old) td) (mY (A4 m f4) td4::up))/\h (G (vk (A9 m f' old) td) (mY (A4 m f4) td4::up))=v:=by
 have e:=adl hs n o;have q:=WV a b;have j:TT g=G (vk (A9 m (λi=>(TT g).frame.tmps[i]!) old) td) (mY (A4 m (λi=>(TT g).callers.head!.tmps[i]!)) td4::up):=by rw[<-e,<-q];exact l
 exact⟨_,_,⟨k,hd,j⟩,by rw[<-j];exact p⟩
end
section
variable (m:Nat)(c0:Frame)(cs:List Frame)
noncomputable def xE:aa:=G (Frame.enter PP 140 #[pt m] .normal) (c0::cs)
noncomputable def x0:aa:=TT (xE m c0 cs)
noncomputable def x1(v:Int):aa:=TT (fin (x0 m c0 cs) (.int .i32 v))
noncomputable def x2(v:Int):aa:=TT (fin (x1 m c0 cs v) (pt m))
noncomputable def x3(v:Int):aa:=TT (fin (x2 m c0 cs v) (.tuple #[]))
noncomputable def x4(v:Int):aa:=TT (fin (x3 m c0 cs v) (.tuple #[]))
noncomputable def tN:List Frame:=(x0 m c0 cs).callers
def u_E:gm (xE m c0 cs) (x0 m c0 cs):=lB (by delta x0;rfl)
def aiy:fj (x0 m c0 cs)=some (21,pt m):=by kernel_rfl
def u_0(v:Int):gm (fin (x0 m c0 cs) (.int .i32 v)) (x1 m c0 cs v):=lB (by delta x1;rfl)
def aiz(v:Int):gu (x1 m c0 cs v)=some (237,216,pt m):=by kernel_rfl
def u_1(v:Int):gm (fin (x1 m c0 cs v) (pt m)) (x2 m c0 cs v):=lB (by delta x2;rfl)
def aiA(v:Int):az (x2 m c0 cs v)=some (160,#[pt m]):=by kernel_rfl
def u_2(v:Int):gm (fin (x2 m c0 cs v) (.tuple #[])) (x3 m c0 cs v):=lB (by delta x3;rfl)
def aiB(v:Int):az (x3 m c0 cs v)=some (161,#[]):=by kernel_rfl
def u_3(v:Int):gm (fin (x3 m c0 cs v) (.tuple #[])) (x4 m c0 cs v):=lB (by delta x4;rfl)
def aiC(v:Int):az (x4 m c0 cs v)=some (188,#[pt m,.int .i32 (-1)]):=by kernel_rfl
end
noncomputable def wx4:aa:=x4 0 default [] 0
noncomputable def Pt:aa:=TT (fin wx4 (.int .i32 0))
noncomputable def Tf:aa:=TT (fin wx4 (.int .i32 8))
noncomputable def wus:aa:=TT (fin Tf (.bool true))
noncomputable def wux:aa:=TT (fin Tf (.bool false))
noncomputable def wuh:aa:=TT (fin wx4 (.int .i32 4))
noncomputable def w4:List Item:=Tf.callers.head!.todo
section
variable (m:Nat)(c0:Frame)(cs:List Frame)(f f4:Nat->Value)
def YW(v:Int)(w:Bool)(k:Nat)(a:k<=3)(h:k=0\/w=true):∃f',gm (fin (x4 m c0 cs v) (wv ⟨false,w,false,k⟩)) (G (mY (A4 m f') Pt.frame.todo) (tN m c0 cs))/\az (G (mY (A4 m f') Pt.frame.todo) (tN m c0 cs))=some (162,#[]):=by
 cases w<;>(obtain rfl|rfl|rfl|rfl:k=0\/k=1\/k=2\/k=3:=by omega)<;>(first|exact absurd h (by decide)|skip)<;>exact Ui
def YX(v:Int)(w:Bool)(k:Nat)(b:k<=3):∃f' a,gm (fin (x4 m c0 cs v) (wv ⟨false,w,true,k⟩)) (G (vk (A9 m f' undef) wuh.frame.todo) (mY (A4 m a) w4::tN m c0 cs))/\gZ (G (vk (A9 m f' undef) wuh.frame.todo) (mY (A4 m a) w4::tN m c0 cs))=some (198,some (.pointer (some ⟨m,1,none⟩))):=by
 cases w<;>(obtain rfl|rfl|rfl|rfl:k=0\/k=1\/k=2\/k=3:=by omega)<;>exact Pq
def YY(v:Int)(k:Nat)(b:k<=3)(c:k≠0):∃f' a,gm (fin (x4 m c0 cs v) (wv ⟨false,false,false,k⟩)) (G (vk (A9 m f' (wv ⟨false,false,false,k⟩)) Tf.frame.todo) (mY (A4 m a) w4::tN m c0 cs))/\az (G (vk (A9 m f' (wv ⟨false,false,false,k⟩)) Tf.frame.todo) (mY (A4 m a) w4::tN m c0 cs))=some (186,#[pt m,wv ⟨false,false,false,k⟩,wv ⟨false,true,false,k-1⟩]):=by
 (obtain rfl|rfl|rfl:k=1\/k=2\/k=3:=by omega)<;>exact Pq
def adp(old:Value):∃f' a,gm (fin (G (vk (A9 m f old) Tf.frame.todo) (mY (A4 m f4) w4::tN m c0 cs)) (.bool true)) (G (vk (A9 m f' old) wus.frame.todo) (mY (A4 m a) w4::tN m c0 cs))/\gZ (G (vk (A9 m f' old) wus.frame.todo) (mY (A4 m a) w4::tN m c0 cs))=some (198,some (.pointer (some ⟨m,1,none⟩))):=by
 exact Pq
def adq(old:Value):∃f' a,gm (fin (G (vk (A9 m f old) Tf.frame.todo) (mY (A4 m f4) w4::tN m c0 cs)) (.bool false)) (G (vk (A9 m f' old) wux.frame.todo) (mY (A4 m a) w4::tN m c0 cs))/\fj (G (vk (A9 m f' old) wux.frame.todo) (mY (A4 m a) w4::tN m c0 cs))=some (21,pt m):=by
 exact Pq
def Uj(old:Value)(l w s:Bool)(k:Nat)(a:k<=3)(h:k=0\/l=true\/w=true\/s=true):∃f',gm (fin (G (vk (A9 m f old) wux.frame.todo) (mY (A4 m f4) w4::tN m c0 cs)) (wv ⟨l,w,s,k⟩)) (G (mY (A4 m f') Pt.frame.todo) (tN m c0 cs))/\az (G (mY (A4 m f') Pt.frame.todo) (tN m c0 cs))=some (162,#[]):=by
 cases l<;>cases w<;>cases s<;>(obtain rfl|rfl|rfl|rfl:k=0\/k=1\/k=2\/k=3:=by omega)<;>(first|exact absurd h (by decide)|skip)<;>exact Ui
def Uk(old:Value)(k:Nat)(b:k<=3)(c:k≠0):∃f' a,gm (fin (G (vk (A9 m f old) wux.frame.todo) (mY (A4 m f4) w4::tN m c0 cs)) (wv ⟨false,false,false,k⟩)) (G (vk (A9 m f' (wv ⟨false,false,false,k⟩)) Tf.frame.todo) (mY (A4 m a) w4::tN m c0 cs))/\az (G (vk (A9 m f' (wv ⟨false,false,false,k⟩)) Tf.frame.todo) (mY (A4 m a) w4::tN m c0 cs))=some (186,#[pt m,wv ⟨false,false,false,k⟩,wv ⟨false,true,false,k-1⟩]):=by
 (obtain rfl|rfl|rfl:k=1\/k=2\/k=3:=by omega)<;>exact Pq
def aiE(old:Value):∃f',gm (fin (G (vk (A9 m f old) wus.frame.todo) (mY (A4 m f4) w4::tN m c0 cs)) (.tuple #[])) (G (mY (A4 m f') Pt.frame.todo) (tN m c0 cs))/\az (G (mY (A4 m f') Pt.frame.todo) (tN m c0 cs))=some (162,#[]):=by
 exact Ui
def aiF(old:Value):∃f',gm (fin (G (vk (A9 m f old) wuh.frame.todo) (mY (A4 m f4) w4::tN m c0 cs)) (.tuple #[])) (G (mY (A4 m f') Pt.frame.todo) (tN m c0 cs))/\az (G (mY (A4 m f') Pt.frame.todo) (tN m c0 cs))=some (162,#[]):=by
 exact Ui
def u_e:Out (fin (G (mY (A4 m f) Pt.frame.todo) (tN m c0 cs)) (.tuple #[])) c0 cs:=
 ⟨⟨λw=>by kernel_rfl,by kernel_rfl⟩,λd=>by kernel_rfl,⟨λw=>by kernel_rfl,by kernel_rfl⟩,λd=>by kernel_rfl,by kernel_rfl⟩
end
end Go.Proofs
namespace Go.Proofs
open Go.Ph Go.Conc
set_option maxRecDepth 100000
def adr:cw PP 161 false (λ_=>do mark .disable;pure ar):=⟨Tryz.f161,by kernel_rfl,by kernel_rfl,by kernel_rfl,by kernel_rfl,by kernel_rfl,by kernel_rfl⟩
def ads:cw PP 162 false (λ_=>do mark .enable;pure ar):=⟨Tryz.f162,by kernel_rfl,by kernel_rfl,by kernel_rfl,by kernel_rfl,by kernel_rfl,by kernel_rfl⟩
def adt:cw PP 160 false (aw .releaseMerge):=⟨Tryz.f160,by kernel_rfl,by kernel_rfl,by kernel_rfl,by kernel_rfl,by kernel_rfl,by kernel_rfl⟩
def adu:cw PP 175 false (aw .acquire):=⟨Tryz.f175,by kernel_rfl,by kernel_rfl,by kernel_rfl,by kernel_rfl,by kernel_rfl,by kernel_rfl⟩
def adw:cw PP 186 true (aF (.int .i32)):=⟨Tryz.f186,by kernel_rfl,by kernel_rfl,by kernel_rfl,by kernel_rfl,by kernel_rfl,by kernel_rfl⟩
def aiG:cw PP 188 true (aH (aT .add) .i32 true):=⟨Tryz.f188,by kernel_rfl,by kernel_rfl,by kernel_rfl,by kernel_rfl,by kernel_rfl,by kernel_rfl⟩
def aiH:cw PP 192 true a5:=⟨Tryz.f192,by kernel_rfl,by kernel_rfl,by kernel_rfl,by kernel_rfl,by kernel_rfl,by kernel_rfl⟩
def aiI:cw PP 193 true a6:=⟨Tryz.f193,by kernel_rfl,by kernel_rfl,by kernel_rfl,by kernel_rfl,by kernel_rfl,by kernel_rfl⟩
def aiJ:cw PP 195 true Extern.OsHooks.nano:=⟨Tryz.f195,by kernel_rfl,by kernel_rfl,by kernel_rfl,by kernel_rfl,by kernel_rfl,by kernel_rfl⟩
def adx:cw PP 196 true a7:=⟨Tryz.f196,by kernel_rfl,by kernel_rfl,by kernel_rfl,by kernel_rfl,by kernel_rfl,by kernel_rfl⟩
def aiK:cw PP 198 true a8:=⟨Tryz.f198,by kernel_rfl,by kernel_rfl,by kernel_rfl,by kernel_rfl,by kernel_rfl,by kernel_rfl⟩
def Js:(PP.funcs[187]?).any (·.norace)=true:=by kernel_rfl
def ady:(PP.funcs[189]?).any (·.norace)=true:=by kernel_rfl
def u21:PP.underlying 21=some (.int .i32):=by kernel_rfl
def u237:PP.underlying 237=some (.pointer 188):=by kernel_rfl
def u216:PP.underlying 216=some .unsafePointer:=by kernel_rfl
def aiM:(PP.info? 188).map (λi=>decide (i.size=0))=some false:=by kernel_rfl
end Go.Proofs
namespace Go.Ph
open Go.Conc
def ended(g:aa):Bool:=match g.status with
 |.finished=>true
 |_=>false
def mZ{P:ab}:∀(n:Nat){d:Nat}{g:aa},(∀w,vg P false ended w n g=vh P false ended w n g)->(wu P false ended n g).status=.finished->xD P false ended n d g=0->bb P n d g
 |0,_,_,_,h,b=>⟨h,b⟩
 |n+1,d,g,i,h,b=>by
  cases f:ended g with
  |true=>
   simp only[wu,xD,f]at h b;exact .inl ⟨h,b⟩
  |false=>
   simp only[wu,xD,f]at h b;have c:∀w,g.status=.running/\stepG P false g w=.go (nx P false g) w (ex P false g)/\mutes (ex P false g)=true/\vg P false ended w n (nx P false g)=vh P false ended w n (nx P false g):=λw=>by
    have:=i w;simp only[vg,vh,f,List.cons.injEq,Prod.mk.injEq]at this;exact⟨this.1.1,this.1.2.1,this.1.2.2,this.2⟩
   refine .inr ⟨(c default).1,_,_,λe j=>?_,λw=>(c w).2.1,mZ n (λw=>(c w).2.2.2) h b⟩;have:=(c default).2.2.1;simp only[mutes,List.all_eq_true]at this;exact this e (Array.mem_toList_iff.2 j)
end Go.Ph
namespace Go.Proofs
open Go.Ph Go.Conc
set_option maxRecDepth 100000
def lY(g:aa):Bool:=match g.frame.mode with
 |.returning=>(g.frame.fn==136||g.frame.fn==141)
 |.run=>match g.frame.todo with
  |.inRegion _ (_::_)::_=>match bF g with
   |some o=>match o.op with
    |.load .. | .store ..=>true
    |.convert _ d _=>d==216
    |.call { callee:=.value (.func f),.. }=>bare.contains f
    |_=>false
   |none=>false
  |_=>false
 |_=>false
noncomputable abbrev T2(mn:Bool)(g:aa):aa:=wu PP mn lY 400 g
structure fL(mn:Bool)(g g':aa):Prop where
 q:ff PP mn lY 400 g
 d:∀d,xD PP mn lY 400 d g=d
 e:T2 mn g=g'
def bU{mn:Bool}{g g':aa}(e:g'=T2 mn g)(b:ff PP mn lY 400 g:=by exact⟨λ_=>by kernel_rfl,by kernel_rfl⟩)(hd:∀d,xD PP mn lY 400 d g=d:=by intro _;kernel_rfl):fL mn g g':=⟨b,hd,e.symm⟩
def fL.run{X:Fix}{V:Vw}{q:Bool}{Stop:Stp}{M:Own}{d:Nat}{g g':aa}{w:World}{mn:Bool}(h:fL mn g g')(b:X.P=PP)(hg:(V.g==0)=mn)(c:ay X V q Stop M d g' w):ay X V q Stop M d g w:=by
 refine .oO (S:=lY) hg 400 (by rw[b];exact h.q) ?_;have e:wu PP mn lY 400 g=g':=h.e;rw[b,h.d,e];exact c
noncomputable def frD(a:Array Value)(td:List Item):Frame:={ fn:=137,tmps:=a,todo:=td,defers:=[],mode:=.returning,kind:=.deferred,roundOf:=none }
noncomputable def ez(P:ab):Frame:={ (default:Frame) with fn:=P.funcs.size,defers:=[],mode:=.panicking [ac] }
section
variable (W:Nat)(a:Array Value)(td:List Item)
noncomputable def dE:aa:=G (Frame.enter PP 138 #[pt W] .deferred) [frD a td,ez PP]
noncomputable def d0:aa:=T2 false (dE W a td)
noncomputable def d1:aa:=T2 false (fin (d0 W a td) (pt W))
noncomputable def d2:aa:=T2 false (fin (d1 W a td) (.tuple #[]))
noncomputable def d3:aa:=T2 false (fin (d2 W a td) (.tuple #[]))
noncomputable def d4:aa:=T2 false (fin (d3 W a td) (.bool false))
noncomputable def d5:aa:=T2 false (fin (d4 W a td) (.int .u64 1))
noncomputable def d6:aa:=T2 false (fin (d5 W a td) (.int .u64 1))
noncomputable def d7:aa:=T2 false (fin (d6 W a td) (.tuple #[]))
def d_E:fL false (dE W a td) (d0 W a td):=bU (by delta d0;rfl)
def aiN:gu (d0 W a td)=some (214,216,pt W):=by kernel_rfl
def d_0:fL false (fin (d0 W a td) (pt W)) (d1 W a td):=bU (by delta d1;rfl)
def aiO:az (d1 W a td)=some (160,#[pt W]):=by kernel_rfl
def d_1:fL false (fin (d1 W a td) (.tuple #[])) (d2 W a td):=bU (by delta d2;rfl)
def aiP:az (d2 W a td)=some (161,#[]):=by kernel_rfl
def d_2:fL false (fin (d2 W a td) (.tuple #[])) (d3 W a td):=bU (by delta d3;rfl)
def aiQ:az (d3 W a td)=some (163,#[]):=by kernel_rfl
def d_3:fL false (fin (d3 W a td) (.bool false)) (d4 W a td):=bU (by delta d4;rfl)
def aiR:az (d4 W a td)=some (183,#[pt W,.int .u64 18446744069414584320]):=by kernel_rfl
def d_4:fL false (fin (d4 W a td) (.int .u64 1)) (d5 W a td):=bU (by delta d5;rfl)
def aiS:az (d5 W a td)=some (184,#[pt W]):=by kernel_rfl
def d_5:fL false (fin (d5 W a td) (.int .u64 1)) (d6 W a td):=bU (by delta d6;rfl)
def aiT:az (d6 W a td)=some (185,#[pt W,.int .u64 0]):=by kernel_rfl
def d_6:fL false (fin (d6 W a td) (.tuple #[])) (d7 W a td):=bU (by delta d7;rfl)
def aiU:gZ (d7 W a td)=some (172,some (.pointer (some ⟨W,1,none⟩))):=by kernel_rfl
def aiV:mayWake PP (d7 W a td)=true:=by kernel_rfl
end
noncomputable def uy(W bc bg bm bt:Nat):aa:=
 { frame:={ (default:Frame) with fn:=PP.funcs.size,defers:=[{ target:=.fn (.func 137) #[pt W,pt bc,pt bg,pt bm,pt bt],args:=#[] }],mode:=.panicking [ac] },callers:=[],status:=.running,dying:=none }
section
variable (W bc bg bm bt:Nat)
noncomputable def k0:aa:=T2 false (uy W bc bg bm bt)
def k_E:fL false (uy W bc bg bm bt) (k0 W bc bg bm bt):=bU (by delta k0;rfl)
def aiW:fj (k0 W bc bg bm bt)=some (121,pt bc):=by kernel_rfl
noncomputable def k1(c:Value):aa:=T2 false (fin (k0 W bc bg bm bt) c)
def k_0(c:Value):fL false (fin (k0 W bc bg bm bt) c) (k1 W bc bg bm bt c):=bU (by delta k1;rfl)
def aiX(c:Value):fj (k1 W bc bg bm bt c)=some (3,pt bg):=by kernel_rfl
def DT(g:aa):Bool:=lY g||(match g.frame.todo with
 |[.code _]=>g.frame.fn==110||g.frame.fn==144
 |_=>false)
noncomputable abbrev T3(g:aa):aa:=wu PP false DT 400 g
noncomputable def k2(c:Value)(n:Int):aa:=T3 (fin (k1 W bc bg bm bt c) (.int .i64 n))
def k_1(c:Value)(n:Int):ff PP false DT 400 (fin (k1 W bc bg bm bt c) (.int .i64 n))/\∀d,xD PP false DT 400 d (fin (k1 W bc bg bm bt c) (.int .i64 n))=d:=⟨⟨λw=>by kernel_rfl,by kernel_rfl⟩,λd=>by kernel_rfl⟩
end
section
variable (W:Nat)(a:Array Value)(td:List Item)
def adZ:bb PP 400 1 (fin (d4 W a td) (.int .u64 0)):=mZ 400 (λw=>by kernel_rfl) (by kernel_rfl) (by kernel_rfl)
def ae0:bb PP 400 1 (fin (d4 W a td) (.int .u64 4294967296)):=mZ 400 (λw=>by kernel_rfl) (by kernel_rfl) (by kernel_rfl)
def ae1:bb PP 400 1 (fin (d4 W a td) (.int .u64 4294967297)):=mZ 400 (λw=>by kernel_rfl) (by kernel_rfl) (by kernel_rfl)
def ae2:bb PP 400 1 (fin (d4 W a td) (.int .u64 8589934592)):=mZ 400 (λw=>by kernel_rfl) (by kernel_rfl) (by kernel_rfl)
def ae3:bb PP 400 1 (fin (d4 W a td) (.int .u64 8589934593)):=mZ 400 (λw=>by kernel_rfl) (by kernel_rfl) (by kernel_rfl)
def ajn:bb PP 400 1 (fin (d7 W a td) (.tuple #[])):=mZ 400 (λw=>by kernel_rfl) (by kernel_rfl) (by kernel_rfl)
end
def ajo:cw PP 163 false (λ_=>pure (.bool false)):=⟨Tryz.f163,by kernel_rfl,by kernel_rfl,by kernel_rfl,by kernel_rfl,by kernel_rfl,by kernel_rfl⟩
def ajp:cw PP 168 false (aw .read):=⟨Tryz.f168,by kernel_rfl,by kernel_rfl,by kernel_rfl,by kernel_rfl,by kernel_rfl,by kernel_rfl⟩
def ajq:cw PP 178 false (aw .write):=⟨Tryz.f178,by kernel_rfl,by kernel_rfl,by kernel_rfl,by kernel_rfl,by kernel_rfl,by kernel_rfl⟩
def ajr:cw PP 172 true a8:=⟨Tryz.f172,by kernel_rfl,by kernel_rfl,by kernel_rfl,by kernel_rfl,by kernel_rfl,by kernel_rfl⟩
def ajs:cw PP 179 true a7:=⟨Tryz.f179,by kernel_rfl,by kernel_rfl,by kernel_rfl,by kernel_rfl,by kernel_rfl,by kernel_rfl⟩
def ae4:cw PP 183 true (aH (aT .add) .u64 true):=⟨Tryz.f183,by kernel_rfl,by kernel_rfl,by kernel_rfl,by kernel_rfl,by kernel_rfl,by kernel_rfl⟩
def Zl:cw PP 184 true (aI (.int .u64)):=⟨Tryz.f184,by kernel_rfl,by kernel_rfl,by kernel_rfl,by kernel_rfl,by kernel_rfl,by kernel_rfl⟩
def ajt:cw PP 185 true aJ:=⟨Tryz.f185,by kernel_rfl,by kernel_rfl,by kernel_rfl,by kernel_rfl,by kernel_rfl,by kernel_rfl⟩
def aju:cw PP 190 true (aF (.int .u64)):=⟨Tryz.f190,by kernel_rfl,by kernel_rfl,by kernel_rfl,by kernel_rfl,by kernel_rfl,by kernel_rfl⟩
def u214:PP.underlying 214=some (.pointer 197):=by kernel_rfl
def u222:∃t,PP.underlying 222=some (.pointer t)/\(PP.info? t).map (λi=>decide (i.size=0))=some false:=⟨186,by kernel_rfl,by kernel_rfl⟩
def ajx:(PP.info? 197).map (λi=>decide (i.size=0))=some false:=by kernel_rfl
end Go.Proofs
namespace Go.Ph
open Go.Conc Go.ConcN
open Go.ConcM (MuAt muA msA OsLater muBlock)
open Go.ConcR (KK WgAt stA smA rd wr mk)
open Go.cD (Wd Th Mv Safe Head eR spin qZ)
def _root_.Go.cD.Wd.UA{x y:Wd}(h:x.num=y.num):x=y:=by
 obtain⟨l,w,s,k⟩:=x;obtain⟨a,w',s',k'⟩:=y;simp only[Wd.num]at h;cases l<;>cases w<;>cases s<;>cases a<;>cases w'<;>cases s'<;>simp at h⊢<;>omega
section
variable {X:Fix}{V:Vw}{q:Bool}{Stop:Stp}{M:Own}{d:Nat}{g g':aa}{w w':World}{es:Array Event}{s s':Sh}{mn:Bool}
def Au(h:ShAt X w' s')(hb:w'.heap[X.Tb]?=w.heap[X.Tb]?)(hl:Live X w):Live X w':=⟨⟨_,_,h.1⟩,⟨_,_,h.2⟩,by rw[hb];exact hl.2.2⟩
def sL(hc:Clear X V M){a:Addr}(i:a.block=X.Mu\/a.block=X.Wg)(v:Value)(j:ShAt X (w.setCell a v) s'):Rl X V M w (w.setCell a v)/\
 ∀d es,(∀e∈es,jG X V M w.heap.size e)->Dl X V false M d w (w.setCell a v) es M (ae d es):=by
 have A:=bd w a v;have hb:∀b,b≠X.Mu->b≠X.Wg->(w.setCell a v).heap[b]?=w.heap[b]?:=λb l m=>A.block b (by rcases i with h|h<;>rw[h]<;>assumption);have c:OsLater w.os (w.setCell a v).os:=by rw[A.os];exact .refl _
 exact⟨BN hc A.tape A.output c A.size hb (Au j (hb _ hc.ids.mt.symm hc.ids.wt.symm)),λd es k=>jI hc.ids A.tape A.output c A.size hb (by rw[A.size];exact k) (by simp)⟩
def JC(hc:Clear X V M)(d:Nat)(w:World)(es:Array Event)(a:∀e∈es,jG X V M w.heap.size e):Dl X V false M d w w es M (ae d es):=
 jI hc.ids rfl rfl (.refl _) rfl (λ_ _ _=>rfl) a (by simp)
def xO(h:ShAt X w s):X.Mu<w.heap.size:=by
 have:=h.1;unfold MuAt at this;exact(Array.getElem?_eq_some_iff.1 this).1
def lC(h:ShAt X w s):X.Wg<w.heap.size:=by
 have:=h.2;unfold WgAt at this;exact(Array.getElem?_eq_some_iff.1 this).1
def ShAt.setMu(hi:WO X)(h:ShAt X w s)(x:Wd):ShAt X (w.setCell (muA X.Mu) (.int .i32 ((x.num:Nat):Int))) { s with mw:=x }:=
 ⟨h.1.setSt _,((bd w (muA X.Mu) _).block X.Wg hi.mw.symm).trans h.2⟩
def ShAt.setMs(hi:WO X)(h:ShAt X w s)(x:Nat):ShAt X (w.setCell (msA X.Mu) (.int .u32 (x:Int))) { s with ms:=x }:=
 ⟨h.1.setSm _,((bd w (msA X.Mu) _).block X.Wg hi.mw.symm).trans h.2⟩
variable {o:Oper}{f:FuncId}{nr:Bool}{P:ab}
def DZ{x:Wd}(b:az g=some (f,#[.pointer (some ⟨X.Mu,0,none⟩),.int .i32 ((s.mw.num:Nat):Int),.int .i32 ((x.num:Nat):Int)]))(hb:cw P f nr (aF (.int .i32)))(a:ShAt X w s) :
 stepG P mn g w=.go (fin g (.bool true)) (w.setCell (muA X.Mu) (.int .i32 ((x.num:Nat):Int))) #[⟨.cell (muA X.Mu),false,true⟩,⟨.cell (muA X.Mu),true,true⟩]:=
 hb.step b (by rw[bi];exact bj a.1.cellSt (a.1.thaw 0)) (by rw[bi];exact(bl a.1.cellSt (a.1.thaw 0) _).trans rfl) (bo _)
def B5{old x:Wd}(c:az g=some (f,#[.pointer (some ⟨X.Mu,0,none⟩),.int .i32 ((old.num:Nat):Int),.int .i32 ((x.num:Nat):Int)]))(hb:cw P f nr (aF (.int .i32)))(a:ShAt X w s)(h:s.mw≠old) :
 stepG P mn g w=.go (fin g (.bool false)) w #[⟨.cell (muA X.Mu),false,true⟩]:=by
 have b:¬((s.mw.num:Nat):Int)=((old.num:Nat):Int):=λe=>h (Wd.UA (by omega));exact hb.step c (by rw[bi];exact bp a.1.cellSt (a.1.thaw 0) b) (by rw[bi];exact(bq a.1.cellSt (a.1.thaw 0) b _).trans rfl) (sync_r _)
def PO{n:Int}{x:Wd}(c:az g=some (f,#[.pointer (some ⟨X.Mu,0,none⟩),.int .i32 n]))(hb:cw P f nr (aH (aT .add) .i32 true))(a:ShAt X w s)(e:IntKind.i32.wrap (((s.mw.num:Nat):Int)+n)=((x.num:Nat):Int)) :
 stepG P mn g w=.go (fin g (.int .i32 ((x.num:Nat):Int))) (w.setCell (muA X.Mu) (.int .i32 ((x.num:Nat):Int))) #[⟨.cell (muA X.Mu),false,true⟩,⟨.cell (muA X.Mu),true,true⟩]:=by
 have b:=br (P:=P) (d:=n) a.1.cellSt (a.1.thaw 0);have h:=λes=>bs (P:=P) (d:=n) a.1.cellSt (a.1.thaw 0) es;rw[e]at b;exact hb.step c b ((h _).trans rfl) (bo _)
def D5{a:Array Value}(h:az g=some (f,a))(c:a[0]?=some (.pointer (some ⟨X.Mu,1,none⟩)))(hb:cw P f nr a7)(i:ShAt X w s) :
 if s.ms=0 then stepG P mn g w=.go { g with status:=.blocked } w #[] else stepG P mn g w=.go (fin g (.tuple #[])) (w.setCell (msA X.Mu) (.int .u32 ((s.ms-1:Nat):Int))) (bu (msA X.Mu)):=by
 have hc:=i.1.cellSm;have j:=i.1.thaw 1;unfold msA at hc
 split
 ·rename_i b;rw[b]at hc;exact hb.blocked h (by simp[a7,a9,c,hc])
 ·rename_i b;have e:((s.ms:Nat):Int)-1=((s.ms-1:Nat):Int):=by omega
  rw[<-e];exact hb.step h (by simp[a7,a9,c,hc,b,j,msA,ba,run_store P w ⟨X.Mu,1,none⟩ (.int .u32 ((s.ms:Int)-1)) .atomic rfl,bw])
   (by simp[a7,a9,c,hc,b,j,msA,bu,ag,ai P w _ ⟨X.Mu,1,none⟩ (.int .u32 ((s.ms:Int)-1)) .atomic rfl,run_store P w ⟨X.Mu,1,none⟩ (.int .u32 ((s.ms:Int)-1)) .atomic rfl,bx]) (bv _)
def sr{a:Array Value}(j:az g=some (f,a))(b:a[0]?=some (.pointer (some ⟨X.Mu,1,none⟩)))(hb:cw P f nr a8)(c:ShAt X w s)(k:s.ms<=1) :
 stepG P mn g w=.go (fin g (.tuple #[])) (w.setCell (msA X.Mu) (.int .u32 ((s.ms+1:Nat):Int))) (bu (msA X.Mu)):=by
 have hc:=c.1.cellSm;have i:=c.1.thaw 1;unfold msA at hc;have e:IntKind.u32.wrap (((s.ms:Nat):Int)+1)=((s.ms+1:Nat):Int):=by
  obtain h|h:s.ms=0\/s.ms=1:=by omega
  ·rw[h];decide
  ·rw[h];decide
 rw[<-e];exact hb.step j (by simp[a8,a9,b,hc,i,msA,ba,aT,run_store P w ⟨X.Mu,1,none⟩ (.int .u32 (IntKind.u32.wrap ((s.ms:Int)+1))) .atomic rfl,bw])
  (by simp[a8,a9,b,hc,i,msA,bu,aT,ag,ai P w _ ⟨X.Mu,1,none⟩ (.int .u32 (IntKind.u32.wrap ((s.ms:Int)+1))) .atomic rfl,run_store P w ⟨X.Mu,1,none⟩ (.int .u32 (IntKind.u32.wrap ((s.ms:Int)+1))) .atomic rfl,bx]) (bv _)
def PR(h:X.Mu<w.heap.size):∀e∈(#[⟨.cell (muA X.Mu),false,true⟩,⟨.cell (muA X.Mu),true,true⟩]:Array Event),jG X V M w.heap.size e:=by
 intro e a;simp at a
 rcases a with rfl|rfl<;>exact eo (.inl rfl) h
def ae5(h:X.Mu<w.heap.size):∀e∈(#[⟨.cell (muA X.Mu),false,true⟩]:Array Event),jG X V M w.heap.size e:=by
 intro e a;simp at a;subst a;exact eo (.inl rfl) h
def JD(h:X.Mu<w.heap.size):∀e∈bu (msA X.Mu),jG X V M w.heap.size e:=by
 intro e a;simp[bu]at a
 rcases a with rfl|rfl|rfl|rfl
 ·exact lX rfl
 ·exact eo (.inl rfl) h
 ·exact eo (.inl rfl) h
 ·exact lX rfl
end
end Go.Ph
namespace Go.Ph
open Go.Conc Go.ConcN Go.RowKit
open Go.ConcM (MuAt muA msA OsLater muBlock)
open Go.ConcR (KK WgAt stA smA rd wr mk wgBlock)
open Go.cD (Wd)
section
variable {X:Fix}{V:Vw}{q:Bool}{M:Own}{d:Nat}{g:aa}{w w':World}{es:Array Event}{s s':Sh}{mn:Bool}{f:FuncId}{nr:Bool}{P:ab}
def vP(v wt:Nat):Int:=(v:Int)*KK+(wt:Int)
def er(h:ShAt X w s):w.cell? (stA X.Wg)=some (.int .u64 (vP s.v s.wt)):=by have:=h.2;unfold WgAt bA at this;simp[bL,stA,this,vP]
def vn(h:ShAt X w s):w.cell? (smA X.Wg)=some (.int .u32 (s.ws:Int)):=by have:=h.2;unfold WgAt bA at this;simp[bL,smA,this]
def fM(h:ShAt X w s)(off:Nat):w.frozen? ⟨X.Wg,off,none⟩=false:=by have:=h.2;unfold WgAt bA at this;simp[World.frozen?,this]
def ShAt.setWg(hi:WO X)(h:ShAt X w s)(v wt:Nat):ShAt X (w.setCell (stA X.Wg) (.int .u64 (vP v wt))) { s with v:=v,wt:=wt }:=
 ⟨((bd w (stA X.Wg) _).block X.Mu hi.mw).trans h.1,by
   have:=h.2;unfold WgAt bA at this⊢;rw[stA,ao w X.Wg 0 _ _ (0,0) _ this,ap w X.Wg _ _ _ _ this]
   simp[vP]⟩
def ShAt.setWs(hi:WO X)(h:ShAt X w s)(n:Nat):ShAt X (w.setCell (smA X.Wg) (.int .u32 (n:Int))) { s with ws:=n }:=
 ⟨((bd w (smA X.Wg) _).block X.Mu hi.mw).trans h.1,by
   have:=h.2;unfold WgAt bA at this⊢;rw[smA,ao w X.Wg 1 _ _ (0,0) _ this,ap w X.Wg _ _ _ _ this]
   simp⟩
def uz(hc:Clear X V M){a:Addr}(i:a.block=X.Mu\/a.block=X.Wg)(v:Value)(k:ShAt X (w.setCell a v) s'):Rl X V M w (w.setCell a v)/\
 ∀d es,(∀e∈es,jG X V M w.heap.size e)->(q=true->∀j e,es[j]?=some e->(bM e).touch? = none\/((∃ad wr,e=⟨.cell ad,wr,true⟩)/\0<ae d (es.extract 0 j)))->Dl X V q M d w (w.setCell a v) es M (ae d es):=by
 have A:=bd w a v;have hb:∀b,b≠X.Mu->b≠X.Wg->(w.setCell a v).heap[b]?=w.heap[b]?:=λb n o=>A.block b (by rcases i with h|h<;>rw[h]<;>assumption);have c:OsLater w.os (w.setCell a v).os:=by rw[A.os];exact .refl _
 exact⟨BN hc A.tape A.output c A.size hb (Au k (hb _ hc.ids.mt.symm hc.ids.wt.symm)),λd es l m=>jI hc.ids A.tape A.output c A.size hb (by rw[A.size];exact l) m⟩
def Xb{ad:Addr}{wr:Bool}{j:Nat}{e:Event}(d:Nat)(h:(#[⟨.cell ad,wr,true⟩]:Array Event)[j]?=some e):(bM e).touch? = none\/((∃ad wr,e=⟨.cell ad,wr,true⟩)/\0<ae (d+1) ((#[⟨.cell ad,wr,true⟩]:Array Event).extract 0 j)):=by
 match j,h with
 |0,h=>exact .inr ⟨⟨ad,wr,by simpa using h.symm⟩,by simp[ae]⟩
 |j+1,h=>simp at h
def ae6{ad:Addr}{j:Nat}{e:Event}(d:Nat)(h:(#[⟨.cell ad,false,true⟩,⟨.cell ad,true,true⟩]:Array Event)[j]?=some e):(bM e).touch? = none\/((∃ad wr,e=⟨.cell ad,wr,true⟩)/\0<ae (d+1) ((#[⟨.cell ad,false,true⟩,⟨.cell ad,true,true⟩]:Array Event).extract 0 j)):=by
 match j,h with
 |0,h=>exact .inr ⟨⟨ad,false,by simpa using h.symm⟩,by simp[ae]⟩
 |1,h=>exact .inr ⟨⟨ad,true,by simpa using h.symm⟩,by simp[ae]⟩
 |j+2,h=>simp at h
def ae7{ad:Addr}{j:Nat}{e:Event}(d:Nat)(h:(bu ad)[j]?=some e):(bM e).touch? = none\/((∃ad wr,e=⟨.cell ad,wr,true⟩)/\0<ae (d+1) ((bu ad).extract 0 j)):=by
 unfold bu at h⊢
 match j,h with
 |0,h=>exact .inl (by simp at h;subst h;rfl)
 |1,h=>exact .inr ⟨⟨ad,false,by simpa using h.symm⟩,by simp[ae]⟩
 |2,h=>exact .inr ⟨⟨ad,true,by simpa using h.symm⟩,by simp[ae]⟩
 |3,h=>exact .inl (by simp at h;subst h;rfl)
 |j+4,h=>simp at h
def xP{n:Int}{v wt:Nat}(c:az g=some (f,#[.pointer (some ⟨X.Wg,0,none⟩),.int .u64 n]))(hb:cw P f nr (aH (aT .add) .u64 true))(a:ShAt X w s)(e:IntKind.u64.wrap (vP s.v s.wt+n)=vP v wt) :
 stepG P mn g w=.go (fin g (.int .u64 (vP v wt))) (w.setCell (stA X.Wg) (.int .u64 (vP v wt))) #[⟨.cell (stA X.Wg),false,true⟩,⟨.cell (stA X.Wg),true,true⟩]:=by
 have b:=br (P:=P) (d:=n) (er a) (fM a 0);have h:=λes=>bs (P:=P) (d:=n) (er a) (fM a 0) es;rw[e]at b;exact hb.step c b ((h _).trans rfl) (bo _)
def oV(a:az g=some (f,#[.pointer (some ⟨X.Wg,0,none⟩)]))(hb:cw P f nr (aI (.int .u64)))(b:ShAt X w s) :
 stepG P mn g w=.go (fin g (.int .u64 (vP s.v s.wt))) w #[⟨.cell (stA X.Wg),false,true⟩]:=by
 have hc:w.cell? ⟨X.Wg,0,none⟩=_:=er b;refine hb.step a ?_ ?_ (sync_r _)
 ·change Sem.run P (do aL (.int .u64) (<-aq (.pointer (some ⟨X.Wg,0,none⟩)))) w=_;simp[aL,aq,hc]
 ·change Sem.events P (do aL (.int .u64) (<-aq (.pointer (some ⟨X.Wg,0,none⟩)))) w _=_;simp[aL,aq,hc,ag,stA]
def B6{n:Int}(e:az g=some (f,#[.pointer (some ⟨X.Wg,0,none⟩),.int .u64 n]))(hb:cw P f nr aJ)(a:ShAt X w s) :
 stepG P mn g w=.go (fin g (.tuple #[])) (w.setCell (stA X.Wg) (.int .u64 n)) #[⟨.cell (stA X.Wg),true,true⟩]:=by
 have hc:w.cell? ⟨X.Wg,0,none⟩=_:=er a;have b:=fM a 0;refine hb.step e ?_ ?_ (by intro x c;simp at c;subst c;exact⟨rfl,λg h=>by cases h⟩)
 ·change Sem.run P (do
   store (<-aq (.pointer (some ⟨X.Wg,0,none⟩))) (.int .u64 n) .atomic
   pure aP) w=_
  simp[aq,hc,b,run_store P w ⟨X.Wg,0,none⟩ (.int .u64 n) .atomic rfl,stA,bw,aP]
 ·change Sem.events P (do
   store (<-aq (.pointer (some ⟨X.Wg,0,none⟩))) (.int .u64 n) .atomic
   pure aP) w _=_
  simp[aq,hc,b,ai P w _ ⟨X.Wg,0,none⟩ (.int .u64 n) .atomic rfl,stA]
def G9{o n:Int}{v wt:Nat}(b:az g=some (f,#[.pointer (some ⟨X.Wg,0,none⟩),.int .u64 o,.int .u64 n]))(hb:cw P f nr (aF (.int .u64)))(a:ShAt X w s)(h:n=vP v wt) :
 if vP s.v s.wt=o then stepG P mn g w=.go (fin g (.bool true)) (w.setCell (stA X.Wg) (.int .u64 (vP v wt))) #[⟨.cell (stA X.Wg),false,true⟩,⟨.cell (stA X.Wg),true,true⟩]
 else stepG P mn g w=.go (fin g (.bool false)) w #[⟨.cell (stA X.Wg),false,true⟩]:=by
 subst h
 split
 ·rename_i e;subst e;exact hb.step b (by rw[bi];exact bj (er a) (fM a 0)) (by rw[bi];exact(bl (er a) (fM a 0) _).trans rfl) (bo _)
 ·rename_i c;exact hb.step b (by rw[bi];exact bp (er a) (fM a 0) c) (by rw[bi];exact(bq (er a) (fM a 0) c _).trans rfl) (sync_r _)
def He{args:Array Value}(c:az g=some (f,args))(b:args[0]?=some (.pointer (some ⟨X.Wg,1,none⟩)))(hb:cw P f nr a7)(h:ShAt X w s) :
 if s.ws=0 then stepG P mn g w=.go { g with status:=.blocked } w #[] else stepG P mn g w=.go (fin g (.tuple #[])) (w.setCell (smA X.Wg) (.int .u32 ((s.ws-1:Nat):Int))) (bu (smA X.Wg)):=by
 have hc:=vn h;have i:=fM h 1;unfold smA at hc
 split
 ·rename_i a;rw[a]at hc;exact hb.blocked c (by simp[a7,a9,b,hc])
 ·rename_i a;have e:((s.ws:Nat):Int)-1=((s.ws-1:Nat):Int):=by omega
  rw[<-e];exact hb.step c (by simp[a7,a9,b,hc,a,i,smA,ba,run_store P w ⟨X.Wg,1,none⟩ (.int .u32 ((s.ws:Int)-1)) .atomic rfl,bw])
   (by simp[a7,a9,b,hc,a,i,smA,bu,ag,ai P w _ ⟨X.Wg,1,none⟩ (.int .u32 ((s.ws:Int)-1)) .atomic rfl,run_store P w ⟨X.Wg,1,none⟩ (.int .u32 ((s.ws:Int)-1)) .atomic rfl,bx]) (bv _)
def Hf{args:Array Value}(h:az g=some (f,args))(a:args[0]?=some (.pointer (some ⟨X.Wg,1,none⟩)))(hb:cw P f nr a8)(b:ShAt X w s)(i:s.ws=0) :
 stepG P mn g w=.go (fin g (.tuple #[])) (w.setCell (smA X.Wg) (.int .u32 ((1:Nat):Int))) (bu (smA X.Wg)):=by
 have hc:=vn b;have c:=fM b 1;unfold smA at hc;rw[i]at hc;have e:IntKind.u32.wrap (((0:Nat):Int)+1)=((1:Nat):Int):=by decide
 rw[<-e];exact hb.step h (by simp[a8,a9,a,hc,c,smA,ba,aT,run_store P w ⟨X.Wg,1,none⟩ (.int .u32 (IntKind.u32.wrap 1)) .atomic rfl,bw])
  (by simp[a8,a9,a,hc,c,smA,bu,aT,ag,ai P w _ ⟨X.Wg,1,none⟩ (.int .u32 (IntKind.u32.wrap 1)) .atomic rfl,run_store P w ⟨X.Wg,1,none⟩ (.int .u32 (IntKind.u32.wrap 1)) .atomic rfl,bx]) (bv _)
end
end Go.Ph
namespace Go.Proofs
open Go.Ph Go.Conc Go.ConcN
open Go.ConcM (MuAt muA msA OsLater muBlock)
open Go.ConcR (KK WgAt stA smA rd wr mk)
set_option maxRecDepth 100000
structure Gk(X:Fix)(V:Vw)(M:Own)(F:World->Prop)(mn:Bool):Prop where
 hP:X.P=PP
 hg:(V.g==0)=mn
 hc:Clear X V M
 hF:∀w w',F w->Rl X V M w w'->F w'
 hL:∀w,F w->Live X w
 hn:X.n<=3
def sM{g:aa}{s d:TypeId}{v:Value}(h:gu g=some (s,d,v)):∃o x,bF g=some o/\o.op=.convert s d x/\g.frame.eval x=v:=by
 unfold gu at h
 split at h
 ·rename_i o a
  split at h
  ·rename_i c e x b;simp only[Option.some.injEq,Prod.mk.injEq]at h;obtain⟨rfl,rfl,rfl⟩:=h;exact⟨o,x,a,b,rfl⟩
  ·cases h
 ·cases h
def vo{g:aa}{f:FuncId}{v:Value}(h:gZ g=some (f,some v)):∃args,az g=some (f,args)/\args[0]?=some v:=by
 unfold gZ at h
 cases hc:az g with
 |none=>rw[hc]at h;cases h
 |some x=>
  obtain⟨a,args⟩:=x;rw[hc]at h;simp only[Option.map_some,Option.some.injEq,Prod.mk.injEq]at h;obtain⟨rfl,h⟩:=h;exact⟨args,rfl,h⟩
section
variable {X:Fix}{V:Vw}{M:Own}{F:World->Prop}{Fin:World->Prop}{Stop:Stp}{d:Nat}{g g':aa}{w:World}{q mn:Bool}
def Gk.aB(L:Gk X V M F mn)(h:fL mn g g')(a:ay X V q Stop M d g' w):ay X V q Stop M d g w:=h.run L.hP L.hg a
def Gk.sG(L:Gk X V M F mn)(a:az g=some (161,#[]))(b:ay X V q Stop M (d+1) (fin g (.tuple #[])) w):ay X V q Stop M d g w:=
 .Jo (m:=.disable) L.hc a (by rw[L.hP];exact adr) rfl b
def Gk.en(L:Gk X V M F mn)(a:az g=some (162,#[]))(b:ay X V q Stop M d (fin g (.tuple #[])) w):ay X V q Stop M (d+1) g w:=
 .Jo (m:=.enable) L.hc a (by rw[L.hP];exact ads) rfl b
def Gk.idle(L:Gk X V M F mn)(a:az g=some (163,#[]))(b:ay X V q Stop M d (fin g (.bool false)) w):ay X V q Stop M d g w:=
 ay.idle L.hc (aj a).1 λc _=>⟨_,c,#[],(by rw[L.hP];exact ajo:cw X.P 163 false _).step (v:=.bool false) a (by simp) (by simp) (by simp),rfl,rfl,.refl _,rfl,by simp,(aj a).2.2 _,b⟩
def Gk.low(L:Gk X V M F mn)(a:F w):X.Wg<w.heap.size:=by
 obtain⟨_,⟨_,_,k⟩,_⟩:=L.hL _ a;unfold WgAt at k;exact(Array.getElem?_eq_some_iff.1 k).1
def Gk.conv(L:Gk X V M F mn)(a:gu g=some (214,216,pt X.Wg))(b:F w)(c:ay X V q Stop M d (fin g (pt X.Wg)) w):ay X V q Stop M d g w:=by
 obtain⟨o,x,e,f,h⟩:=sM a
 exact .conv L.hc e f h (by rw[L.hP];exact u214) (by rw[L.hP];exact u216) (by rw[L.hP];exact ajx) (λi r=>by
  obtain⟨_,⟨_,_,k⟩,_⟩:=L.hL _ (L.hF _ _ b r);unfold WgAt bC at k
  exact⟨_,by simp[bL,k];rfl⟩) c
def Gk.Xc(L:Gk X V M F mn)(a:gu g=some (222,216,.pointer (some ⟨X.Wg,1,none⟩)))(b:F w)(c:ay X V q Stop M d (fin g (.pointer (some ⟨X.Wg,1,none⟩))) w):ay X V q Stop M d g w:=by
 obtain⟨o,x,e,f,h⟩:=sM a;obtain⟨t,k1,k2⟩:=u222
 exact .conv L.hc e f h (by rw[L.hP];exact k1) (by rw[L.hP];exact u216) (by rw[L.hP];exact k2) (λi r=>by
  obtain⟨_,⟨_,_,k⟩,_⟩:=L.hL _ (L.hF _ _ b r);unfold WgAt bC at k
  exact⟨_,by simp[bL,k];rfl⟩) c
def PS(L:Gk X V M F mn)(h:X.Wg<w.heap.size):∀e∈(#[⟨.cell (stA X.Wg),false,true⟩,⟨.cell (stA X.Wg),true,true⟩]:Array Event),jG X V M w.heap.size e:=by
 have:=L.hP;intro e a;simp at a
 rcases a with rfl|rfl<;>exact eo (.inr rfl) h
def xQ(L:Gk X V M F mn)(h:X.Wg<w.heap.size)(wr:Bool):∀e∈(#[⟨.cell (stA X.Wg),wr,true⟩]:Array Event),jG X V M w.heap.size e:=by
 have:=L.hP;intro e a;simp at a;subst a;exact eo (.inr rfl) h
def PT(L:Gk X V M F mn)(h:X.Wg<w.heap.size):∀e∈bu (smA X.Wg),jG X V M w.heap.size e:=by
 have:=L.hP;intro e a;simp[bu]at a
 rcases a with rfl|rfl|rfl|rfl
 ·exact lX rfl
 ·exact eo (.inr rfl) h
 ·exact eo (.inr rfl) h
 ·exact lX rfl
def MF(L:Gk X V M F false)(u:∀w,F w->Fin w)(a:Array Value)(b:List Item)(k:F w):ay X V false (O0 X V Fin) M 0 (dE X.Wg a b) w:=by
 have x:∀w,F w->ay X V true (AtD4 X V) M 1 (d7 X.Wg a b) w:=λw k=>.stop λn r=>by
  obtain⟨args,c,y⟩:=vo (aiU X.Wg a b);refine⟨(aj c).1,(aj c).2.1,λ_=>by rw[L.hP];exact aiV X.Wg a b,λs f m=>?_⟩;have l:=f.setWs L.hc.ids 1;obtain⟨o,p⟩:=uz (q:=true) L.hc (.inr rfl) _ l;exact⟨_,_,_,M,1,Hf c y (by rw[L.hP];exact ajr:cw X.P 172 true _) f m.2.2,l,p 1 _ (PT L (lC f)) (λ_ j e h=>ae7 0 h),(aj c).2.2 _,400,by rw[L.hP];exact ajn X.Wg a b⟩
 have z:∀w,F w->ay X V true (AtD3 X V) M 1 (d6 X.Wg a b) w:=λw k=>.stop λn r=>by
  have c:=aiT X.Wg a b;refine⟨(aj c).1,(aj c).2.1,λh=>(by cases h),λs f m=>?_⟩;have l:=f.setWg L.hc.ids 0 0;have e:({ s with v:=0,wt:=0 }:Sh)={ s with wt:=0 }:=by rw[<-m.1]
  have st:=B6 (mn:=V.g==0) c (by rw[L.hP];exact ajt:cw X.P 185 true _) f;obtain⟨o,p⟩:=uz (q:=true) L.hc (.inr rfl) _ l;rw[e]at l;exact⟨_,_,_,M,1,st,l,p 1 _ (xQ L (lC f) true) (λ_ j e h=>Xb 0 h),(aj c).2.2 _,L.aB (d_6 X.Wg a b) (x _ (L.hF _ _ (L.hF _ _ k r) o))⟩
 have A:∀w,F w->ay X V true (AtD2 X V) M 1 (d5 X.Wg a b) w:=λw k=>.stop λn r=>by
  have c:=aiS X.Wg a b;refine⟨(aj c).1,(aj c).2.1,λh=>(by cases h),λs f m=>?_⟩;have st:=oV (mn:=V.g==0) c (by rw[L.hP];exact Zl:cw X.P 184 true _) f;have e:vP s.v s.wt=1:=by rw[m.1,m.2.1];rfl
  rw[e]at st;exact⟨_,n,_,M,1,st,f,jI L.hc.ids rfl rfl (.refl _) rfl (λ_ _ _=>rfl) (xQ L (lC f) false) (λ_ j e h=>Xb 0 h),(aj c).2.2 _,L.aB (d_5 X.Wg a b) (z _ (L.hF _ _ k r))⟩
 have B:∀w,F w->ay X V true (AtD1 X V) M 1 (d4 X.Wg a b) w:=λw k=>.stop λn r=>by
  have c:=aiR X.Wg a b;refine⟨(aj c).1,(aj c).2.1,λh=>(by cases h),λs f m=>?_⟩;obtain⟨D,E,H,I⟩:=m;have J:=L.hn;have C:IntKind.u64.wrap (vP s.v s.wt+18446744069414584320)=vP (s.v-1) s.wt:=by
   obtain h|h|h:s.v=1\/s.v=2\/s.v=3:=by omega
   all_goals
    obtain i|i:s.wt=0\/s.wt=1:=by omega
    all_goals (rw[h,i];decide)
  have l:=f.setWg L.hc.ids (s.v-1) s.wt;have st:=xP (mn:=V.g==0) c (by rw[L.hP];exact ae4:cw X.P 183 true _) f C;obtain⟨o,p⟩:=uz (q:=true) L.hc (.inr rfl) _ l;refine⟨_,_,_,M,1,st,l,p 1 _ (PS L (lC f)) (λ_ j e h=>ae6 0 h),(aj c).2.2 _,?_⟩;by_cases hv:s.v=1/\s.wt=1
  ·simp only[hv,and_self,if_true];rw[show vP (1-1) 1=1 from rfl];exact L.aB (d_4 X.Wg a b) (A _ (by rw[hv.1,hv.2]at o;exact L.hF _ _ (L.hF _ _ k r) o))
  ·simp only[if_neg hv];refine⟨400,?_⟩;rw[L.hP];obtain h|h|h:s.v=1\/s.v=2\/s.v=3:=by omega
   ·obtain i:s.wt=0:=by omega
    rw[h,i];exact adZ X.Wg a b
   ·obtain i|i:s.wt=0\/s.wt=1:=by omega
    ·rw[h,i];exact ae0 X.Wg a b
    ·rw[h,i];exact ae1 X.Wg a b
   ·obtain i|i:s.wt=0\/s.wt=1:=by omega
    ·rw[h,i];exact ae2 X.Wg a b
    ·rw[h,i];exact ae3 X.Wg a b
 refine L.aB (d_E X.Wg a b) (L.conv (aiN X.Wg a b) k (L.aB (d_0 X.Wg a b) (.stop λn r=>?_)));have c:=aiO X.Wg a b;have t:=L.hF _ _ k r;refine⟨(aj c).1,rfl,u _ t,_,kM (mk':=.releaseMerge) (ad:=⟨X.Wg,0,none⟩) c (by rw[L.hP];exact adt:cw X.P 160 false _) (λ_ _ h=>by cases h) rfl,(aj c).2.2 _,?_⟩;exact L.aB (d_1 X.Wg a b) (L.sG (aiP X.Wg a b) (L.aB (d_2 X.Wg a b) (L.idle (aiQ X.Wg a b) (L.aB (d_3 X.Wg a b) (B _ t)))))
end
end Go.Proofs
