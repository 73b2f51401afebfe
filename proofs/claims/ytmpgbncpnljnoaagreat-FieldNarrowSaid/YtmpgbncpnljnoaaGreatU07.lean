/- Part of the proof of FieldNarrow. -/
import Derived.Test.YtmpgbncpnljnoaaGreatU06
set_option linter.all false
open Go renaming Goroutine->aa,FuncId->ab,TypeId->ac,LoopState->ad,Operand->ae,setRow_other->ag,setRow_heap->ai,Program->ao,GoStatus->ar
open Bool renaming rec->aw
open Nat renaming beq->aF,le_trans->aH,lt_of_lt_of_le->aI,le_refl->aL,mod_lt->aP,div_add_mod->aS,mul_sub->aT,le_mul_of_pos_right->a5,pos_of_ne_zero->a6,lt_or_ge->a7,mod_eq_of_lt->a8,add_mod_right->a9
open Go.Frame renaming enter->ba
open ByteArray renaming empty->bb
open Go.Obj renaming cells->bd,deferred->bi,loop->bj
open List renaming range->bo,replicate->bp
open Go.World renaming cell?->bq,size_alloc->br,putObj_heap_other->bs,alloc_heap_new->bu
open Go.Proofs.Tryz renaming progTables->bv,funcs->bx,f67->bA,func67->bC,f43->bL,func43->bM
open Go.Ph renaming nobody->bR,fin->bT
open Go.ConcM renaming MuAt->bX,OsLater->b4
open Go.ConcR renaming WgAt->b6,stA->b8
open Ne renaming symm->b9
open Go.Value renaming int->cb,cells->cc,func->cd,slice->ce,string->cf,agg->ch,pointer->ci,bool->cl,tuple->cm
open Go.Instr renaming box->co
open Array renaming getElem?_push_size->cq,ext_getElem?->ct,getElem?_eq_none->cu
open Go.Conc renaming mem_of_getElem?->cv,Leavers->cx
open Go.Fn renaming func->cB,yield->cC
open Go.Op renaming indexAddr->cQ,load->c6,store->c7,alloc->c8
open Go.IntKind renaming i64->c9
open Go.CallKind renaming normal->da,deferred->db
open Go.Operand renaming tmp->dd
open Or renaming inl->de,inr->df
open Go.LoopState renaming ready->dk,busy->dp,exhausted->dq
open Go.GoStatus renaming running->dt
namespace Go.Proofs
open Go.Ph Go.Conc Go.bJ
set_option maxRecDepth 100000
noncomputable def yieldOf(g:aa):Option (Array Value):=match bF g with
 |some o=>match o.op with
  |.call c=>match c.callee with
   |.value x=>match g.frame.eval x with
    |cd (cB f) _ _=>@aw (λ_=>Option (Array Value)) none (some (c.args.map g.frame.eval)) (aF f cn)
    |_=>none
   |_=>none
  |_=>none
 |none=>none
noncomputable def PK(g:aa):Option (Nat×Value×Value):=match bF g with
 |some o=>match o.op with
  |cQ t x i=>@aw (λ_=>Option (Nat×Value×Value)) none (some (0,g.frame.eval x,g.frame.eval i)) (aF t 25)
  |c6 t x=>@aw (λ_=>Option (Nat×Value×Value)) (@aw (λ_=>Option (Nat×Value×Value)) none (some (2,g.frame.eval x,undef)) (aF t 85)) (some (1,g.frame.eval x,undef)) (aF t 102)
  |_=>none
 |none=>none
noncomputable def oU(g:aa):Bool:=!BS g||(yieldOf g).isSome||(PK g).isSome
structure jB where
 l:Int
 p:Int
 so:Option Addr
 sl:Nat
 sc:Nat
 qo:Option Addr
 ql:Nat
 qc:Nat
 pb:Nat
 po:Nat
 cp:Nat
 gb:Nat
 go:Nat
 ng:Nat
 cg:Nat
 pe:Nat->ByteArray
 pn:Nat->Nat->Int
 pl:Nat->Option Addr
 pc:Nat->Nat
 pd:Nat->Nat
section
variable (np s:Nat)(D:jB)(O:Nat->Obj)(n dl:Int)(gn:ByteArray)(x:Nat)
def cA:Array Value:=#[cb c9 D.l,cb c9 D.p,ce D.so D.sl D.sc,ce D.qo D.ql D.qc,ce (some ⟨D.pb,D.po,none⟩) np D.cp,ce (some ⟨D.gb,D.go,none⟩) D.ng D.cg]
def pA(i:Nat):Array Value:=#[cf (D.pe i),cb c9 (D.pn i 1),cb c9 (D.pn i 2),cb c9 (D.pn i 3),cb c9 (D.pn i 4),cb c9 (D.pn i 5),cb c9 (D.pn i 6),cb c9 (D.pn i 7),cb c9 (D.pn i 8),cb c9 (D.pn i 9),cb c9 (D.pn i 10),ce (D.pl i) (D.pc i) (D.pd i)]
def gA:Array Value:=#[cf gn,cb c9 (s:Int),cb c9 dl]
def bY(r:Nat):Nat:=(s+r) % np
def zs(Z:Nat->Obj):Nat->List Obj->List Obj
 |0,l=>l
 |1,l=>Z 0::Z 1::Z 2::Z 3::Z 4::Z 5::l
 |2,l=>Z 0::Z 1::Z 2::Z 3::Z 4::Z 5::Z 6::Z 7::Z 8::Z 9::Z 10::Z 11::l
 |3,l=>Z 0::Z 1::Z 2::Z 3::Z 4::Z 5::Z 6::Z 7::Z 8::Z 9::Z 10::Z 11::Z 12::Z 13::Z 14::Z 15::Z 16::Z 17::l
 |_,l=>Z 0::Z 1::Z 2::Z 3::Z 4::Z 5::Z 6::Z 7::Z 8::Z 9::Z 10::Z 11::Z 12::Z 13::Z 14::Z 15::Z 16::Z 17::Z 18::Z 19::Z 20::Z 21::Z 22::Z 23::l
noncomputable def wL0(a:Nat)(O:Nat->Obj):World:={ (default:World) with heap:=#[O 0,O 1,O 2,O 3,O 4,O 5,O 6,O 7,O 8,O 9] }
noncomputable def gL0:aa:=G (ba PP 41 #[ch (cA np D),cb c9 n] da) [default]
noncomputable def A0:aa×World:=Jp PP oU 300 (gL0 np D n) (wL0 np O)
noncomputable def gL1(a:Nat):aa:=G (ba PP 67 #[cd (cB (cn+0)) #[] #[],ci (some ⟨10,0,none⟩),ci (some ⟨11,0,none⟩)] da) [default]
noncomputable def A1:aa×World:=Jp PP oU 300 (gL1 np) (A0 np D O n).2
noncomputable def A2:aa×World:=Jp PP oU 300 (fin (A1 np D O n).1 (ci (some ⟨D.gb,x,none⟩))) (A1 np D O n).2
noncomputable def A3:aa×World:=Jp PP oU 300 (fin (A2 np D O n x).1 (ch (gA s dl gn))) (A2 np D O n x).2
noncomputable def Y6:List Item:=(A3 3 0 ⟨0,0,none,0,0,none,0,0,0,0,3,0,0,2,2,λ_=>bb,λ_ _=>0,λ_=>none,λ_=>0,λ_=>0⟩ (λ_=>bi none) 0 0 bb 0).1.frame.todo
def aje(np a r b c:Nat)(f:Nat->Value):Array Value:=#[cd (cB (cn+0)) #[] #[],ci (some ⟨10,0,none⟩),ci (some ⟨11,0,none⟩),f 3,ci (some ⟨12,0,none⟩),ci (some ⟨13,0,none⟩),cd (cB 68) #[] #[ci (some ⟨13,0,none⟩)],cb c9 (a:Int),f 8,f 9,f 10,f 11,f 12,f 13,f 14,f 15,f 16,f 17,f 18,f 19,f 20,f 21,f 22,f 23,f 24,f 25,f 26,cb c9 (np:Int),cb c9 (r:Int),f 29,f 30,f 31,f 32,f 33,ci (some ⟨b,c+12*a,none⟩),f 35,f 36,f 37,f 38,f 39,f 40,f 41,f 42,f 43,f 44,f 45,f 46,f 47,f 48,f 49,f 50,f 51,f 52,f 53,f 54,f 55,f 56,f 57,f 58,f 59,f 60]
noncomputable def gR(r:Nat)(f:Nat->Value):aa:=G ⟨67,aje np (bY np s r) r D.pb D.po f,Y6,[],.run,da,none⟩ [default]
noncomputable def wR(r:Nat)(c:Int×Int)(Z:Nat->Obj):World:={ (default:World) with heap:=(O 0::O 1::O 2::O 3::O 4::O 5::O 6::O 7::O 8::O 9::bd (cA np D) 77::bd #[cb c9 n] 3::bd (gA s dl gn) 102::bd #[cb c9 c.1,cb c9 c.2] 30::zs Z r []).toArray }
noncomputable def Y7:jB:=⟨0,0,none,0,0,none,0,0,0,0,3,0,0,2,2,λ_=>bb,λ_ _=>0,λ_=>none,λ_=>0,λ_=>0⟩
noncomputable def Y8:List Item:=(Jp PP oU 600 (fin (A3 3 0 Y7 (λ_=>bi none) 0 0 bb 0).1 (ch (pA Y7 0))) (A3 3 0 Y7 (λ_=>bi none) 0 0 bb 0).2).1.frame.todo
def l9(r:Nat)(c:Int×Int):Int×Int:=(IntKind.i64.wrap (c.1+D.pn (bY np s r) 7),IntKind.i64.wrap (c.2+D.pn (bY np s r) 8))
def cG(r:Nat)(c:Int×Int):Array Value:=#[cb c9 ((bY np s r:Nat):Int),cb c9 c.1,cb c9 c.2,cb c9 (l9 np s D r c).1,cb c9 (l9 np s D r c).2]
def FY(np a r:Nat)(v:Value)(f:Nat->Value):Array Value:=#[cd (cB (cn+0)) #[] #[],ci (some ⟨10,0,none⟩),ci (some ⟨11,0,none⟩),f 3,ci (some ⟨12,0,none⟩),ci (some ⟨13,0,none⟩),cd (cB 68) #[] #[ci (some ⟨13,0,none⟩)],cb c9 (a:Int),ci (some ⟨14+6*r,0,none⟩),f 9,f 10,f 11,f 12,f 13,f 14,f 15,f 16,f 17,f 18,f 19,f 20,f 21,f 22,f 23,f 24,f 25,f 26,cb c9 (np:Int),cb c9 (r:Int),f 29,f 30,f 31,f 32,f 33,f 34,f 35,f 36,f 37,f 38,f 39,f 40,f 41,f 42,f 43,cd (cB (cn+0)) #[] #[],v,f 46,f 47,f 48,f 49,f 50,f 51,f 52,f 53,f 54,f 55,f 56,f 57,f 58,f 59,f 60]
noncomputable def gY(r:Nat)(c:Int×Int)(f:Nat->Value):aa:=G ⟨67,FY np (bY np s r) r (ch (cG np s D r c)) f,Y8,[],.run,da,none⟩ [default]
noncomputable def wY(r:Nat)(c:Int×Int)(Z:Nat->Obj):World:={ (default:World) with heap:=(O 0::O 1::O 2::O 3::O 4::O 5::O 6::O 7::O 8::O 9::bd (cA np D) 77::bd #[cb c9 n] 3::bd (gA s dl gn) 102::bd #[cb c9 c.1,cb c9 c.2] 30::zs Z r [bd (pA D (bY np s r)) 85,Z (6*r+1),Z (6*r+2),Z (6*r+3)]).toArray }
noncomputable def Yd(g:aa)(w:World)(r:Nat):aa×World:=Jp PP oU 600 (fin g (ch (pA D (bY np s r)))) w
noncomputable def Nx(g:aa)(w:World):aa×World:=Jp PP oU 300 (fin g (cl true)) w
def WZ(r:Nat)(c:Int×Int):Int×Int:=(IntKind.i64.wrap ((l9 np s D r c).1+D.pn (bY np s r) 9),IntKind.i64.wrap ((l9 np s D r c).2+D.pn (bY np s r) 10))
abbrev Good(b:Nat)(m:Nat)(g:aa)(w:World):Prop:=∀a d,DO PP (10) oU a d m g w=DQ PP (10) oU a d m g w
structure Y9(f:ab)(g:aa):Prop where
 fn:g.frame.fn=f
 mode:g.frame.mode=.returning
 kind:g.frame.kind=da
 defers:g.frame.defers=[]
 callers:g.callers=[default]
end
noncomputable def ah0(q:aa×World):Nat->Value:=λi=>q.1.frame.tmps[i]!
noncomputable def ah1(q:aa×World):Nat->Obj:=λi=>q.2.heap[14+i]!
structure j0(np s r:Nat):Prop where
 c3:∀D f,(bF (gR np s D r f)).map (·.op)=some (c6 85 (dd 34))/\(gR np s D r f).frame.eval (dd 34)=ci (some ⟨D.pb,D.po+12*bY np s r,none⟩)
 e4:∀D O n dl gn c f Z,Good np 600 (fin (gR np s D r f) (ch (pA D (bY np s r)))) (wR np s D O n dl gn r c Z)
 y:∀D O n dl gn c f Z,Yd np s D (gR np s D r f) (wR np s D O n dl gn r c Z) r=(gY np s D r c (ah0 (Yd np s D (gR np s D r f) (wR np s D O n dl gn r c Z) r)),wY np s D O n dl gn r (l9 np s D r c) (ah1 (Yd np s D (gR np s D r f) (wR np s D O n dl gn r c Z) r)))
 c4:∀D c f,(bF (gY np s D r c f)).map (·.op)=some (.call { callee:=.value (dd 44),args:=#[dd 45],argTypes:=#[53] })/\(gY np s D r c f).frame.eval (dd 44)=cd (cB (cn+0)) #[] #[]/\(gY np s D r c f).frame.eval (dd 45)=ch (cG np s D r c)
 e5:∀D O n dl gn c c' f Z,Good np 300 (fin (gY np s D r c f) (cl true)) (wY np s D O n dl gn r c' Z)
def j0.y'{np s r:Nat}(h:j0 np s r)(D:jB)(O n dl gn c f Z):∃f' a,Yd np s D (gR np s D r f) (wR np s D O n dl gn r c Z) r=(gY np s D r c f',wY np s D O n dl gn r (l9 np s D r c) a):=⟨_,_,h.y D O n dl gn c f Z⟩
structure mg(np s r:Nat):Prop where
 next:∀D O n dl gn c f Z,Nx (gY np s D r c f) (wY np s D O n dl gn r (l9 np s D r c) Z)=(gR np s D (r+1) (ah0 (Nx (gY np s D r c f) (wY np s D O n dl gn r (l9 np s D r c) Z))),wR np s D O n dl gn (r+1) (WZ np s D r c) (ah1 (Nx (gY np s D r c f) (wY np s D O n dl gn r (l9 np s D r c) Z))))
def mg.next'{np s r:Nat}(h:mg np s r)(D:jB)(O n dl gn c f Z):∃f' a,Nx (gY np s D r c f) (wY np s D O n dl gn r (l9 np s D r c) Z)=(gR np s D (r+1) f',wR np s D O n dl gn (r+1) (WZ np s D r c) a):=⟨_,_,h.next D O n dl gn c f Z⟩
structure xM(np s r:Nat):Prop where
 back:∀D O n dl gn c c' f Z,Y9 67 (Nx (gY np s D r c f) (wY np s D O n dl gn r c' Z)).1
structure FE(np s:Nat):Prop where
 e0:∀D O n,Good np 300 (gL0 np D n) (wL0 np O)
 b0:∀D O n,Y9 41 (A0 np D O n).1/\(A0 np D O n).1.frame.tmps.getD 4 undef=cd (cB 67) #[] #[ci (some ⟨10,0,none⟩),ci (some ⟨11,0,none⟩)]
 h0:∀D O n,(A0 np D O n).2.heap[0]?=some (O 0)
 e1:∀D O n,Good np 300 (gL1 np) (A0 np D O n).2
 c1:∀D O n,(bF (A1 np D O n).1).map (·.op)=some (cQ 25 (dd 12) (dd 13))/\(A1 np D O n).1.frame.eval (dd 12)=ce (some ⟨D.gb,D.go,none⟩) D.ng D.cg/\(A1 np D O n).1.frame.eval (dd 13)=cb c9 n
 e2:∀D O n x,Good np 300 (fin (A1 np D O n).1 (ci (some ⟨D.gb,x,none⟩))) (A1 np D O n).2
 c2:∀D O n x,(bF (A2 np D O n x).1).map (·.op)=some (c6 102 (dd 14))/\(A2 np D O n x).1.frame.eval (dd 14)=ci (some ⟨D.gb,x,none⟩)
 e3:∀D O n dl gn x,Good np 300 (fin (A2 np D O n x).1 (ch (gA s dl gn))) (A2 np D O n x).2
 r0:∀D O n dl gn x,A3 np s D O n dl gn x=(gR np s D 0 (ah0 (A3 np s D O n dl gn x)),wR np s D O n dl gn 0 (dl,dl) (ah1 (A3 np s D O n dl gn x)))
 round:∀r,r<np->j0 np s r
 next:∀r,r+1<np->mg np s r
 last:∀r,r+1=np->xM np s r
def FE.r0'{np s:Nat}(h:FE np s)(D:jB)(O n dl gn x):∃f' a,A3 np s D O n dl gn x=(gR np s D 0 f',wR np s D O n dl gn 0 (dl,dl) a):=⟨_,_,h.r0 D O n dl gn x⟩
end Go.Proofs
namespace Go.Ph
open Go.Conc Go.ConcN Go.bJ
structure LW(T:Tables)(F:ab->Bool)(Z:ac->Bool)(X:Fix)(V:Vw)(Bs:Nat)(ρ:Ren)(M:Own)(wL w:World):Prop where
 inj:ρ.bw T.globals.size
 wr:WC Bs T.globals.size F (codeOk T F Z) ρ wL w
 own:StO V M Bs ρ
 clear:Clear X V M
 sG:∀b,V.st b->b<w.heap.size/\¬M b
section
variable {T:Tables}{fB fA:Array Func}{F:ab->Bool}{Z:ac->Bool}{X:Fix}{V:Vw}{Bs:Nat}{bot:Frame}{up:List Frame}{ρ ρ':Ren}{M M':Own}{g g':aa}{wL w w':World}
def iG.lw(h:iG T fB fA F Z bot up X V Bs ρ M g wL g' w):LW T F Z X V Bs ρ M wL w:=⟨h.inj,h.wr,h.own,h.clear,h.sG⟩
def LW.like(h:LW T F Z X V Bs ρ M wL w)(k:GC T fB fA F Z bot up ρ g g'):iG T fB fA F Z bot up X V Bs ρ M g wL g' w:=⟨h.inj,h.wr,k,h.own,h.clear,h.sG⟩
def LW.loop(h:LW T F Z X V Bs ρ M wL w)(u:T.globals.size=0)(v:∀b,¬ρ 0 b)(z:0<Bs){lL l':Loop}{lb:Nat}(r:wL.heap[0]?=some (bj lL))(hl:w'.heap[lb]?=some (bj l'))(A:w.heap.size<=lb)(j:∀b,M b->M' b)(d:M' lb)
 (hc:Clear X V M') (hd:∀b,V.st b->¬M' b) (hs:w.heap.size<=w'.heap.size) (hb:∀b,b<w.heap.size->w'.heap[b]?=w.heap[b]?):LW T F Z X V Bs (λa b=>ρ a b\/(a=0/\b=lb)) M' wL w':=by
 have e:∀{a b},ρ a b->b<w.heap.size:=λt=>(h.wr.lt t).2;refine⟨⟨λ{a b b'}x y=>?_,λ{a B b}x y=>?_,λ{a b}_=>by omega⟩,⟨h.wr.pK,aH h.wr.gN hs,h.wr.base,λ{a b}c f=>?_,λ{a b}c f=>?_⟩,⟨λa b c i=>?_,λa b c i=>?_⟩,hc,λb k=>⟨aI (h.sG b k).1 hs,hd b k⟩⟩
 ·rcases x with x|⟨x1,x2⟩<;>rcases y with y|⟨y1,y2⟩
  ·exact h.inj.fn x y
  ·grind
  ·grind
  ·rw[x2,y2]
 ·rcases x with x|⟨x1,x2⟩<;>rcases y with y|⟨y1,y2⟩
  ·exact h.inj.inj x y
  ·have:=e x;omega
  ·have:=e y;omega
  ·rw[x1,y1]
 ·rcases c with c|⟨rfl,_⟩
  ·obtain⟨o,l,m,p,q⟩:=h.wr.obj c f;exact⟨o,l,m,by rw[hb b (e c)];exact p,q.mono λ_ _ x=>de x⟩
  ·omega
 ·rcases c with c|⟨rfl,rfl⟩
  ·obtain⟨o,l,m,p,q⟩:=h.wr.low c f
   grind
  ·exact⟨_,_,r,hl,.loop _ _⟩
 ·rcases c with c|⟨_,rfl⟩
  ·exact(h.own.st a b c i).imp id (j b)
  ·exact df d
 ·rcases c with c|⟨rfl,_⟩
  ·exact j b (h.own.own a b c i)
  ·omega
end
end Go.Ph
namespace Go.Proofs
open Go.Ph Go.Conc Go.ConcN Go.bJ
set_option maxRecDepth 100000
def bl(o:Option Addr)(l c:Nat):List Nat:=if l=0/\c=0 then[] else o.toList.map (·.block)
def dR(a:Nat)(D:jB):List Nat:=D.pb::D.gb::(bl D.so D.sl D.sc++bl D.qo D.ql D.qc++(bo 5).flatMap λi=>bl (D.pl i) (D.pc i) (D.pd i))
def Jz(np:Nat)(D:jB)(b:Nat):Nat:=1+(dR np D).idxOf b
def Uy(np:Nat)(D:jB)(a:Addr):Addr:=⟨Jz np D a.block,a.off,a.spot⟩
def lsl(np:Nat)(D:jB)(o:Option Addr)(l c:Nat):Option Addr:=if l=0/\c=0 then o.map λa=>⟨0,N1 a,none⟩ else o.map (Uy np D)
def aW(np:Nat)(D:jB):jB:={ D with so:=lsl np D D.so D.sl D.sc,qo:=lsl np D D.qo D.ql D.qc,pb:=Jz np D D.pb,gb:=Jz np D D.gb,pl:=λi=>lsl np D (D.pl i) (D.pc i) (D.pd i) }
def sI(np:Nat)(D:jB):Ren:=λa b=>b∈dR np D/\a=Jz np D b
noncomputable def hU(np:Nat)(D:jB)(w0:World):Nat->Obj
 |0=>bj default
 |a+1=>match(dR np D)[a]? with
  |some b=>match w0.heap[b]? with
   |some (bd c t d)=>bd c t d
   |_=>bj default
  |none=>bj default
structure zl(X:Fix)(V:Vw)(D:jB)(np s n:Nat)(dl:Int)(gn:ByteArray)(bc bg bt:Nat)(w0:World):Prop where
 hP:X.P=PP
 hg:(V.g==0)=false
 ids:WO X
 apart:∀b,V.st b->jm X b
 shun:∀b,V.st b->∀a':Addr,a'.block=b->¬X.Shun (.cell a')
 n3:X.n<=3
 sz:X.size=75
 low:∀b,V.st b->b<w0.heap.size
 bc:V.st bc/\w0.heap[bc]?=some (bd (cA np D) 77)
 bg:V.st bg/\w0.cell? ⟨bg,0,none⟩=some (cb c9 (n:Int))
 bt:V.st bt/\w0.cell? ⟨bt,0,none⟩=some (ci (some ⟨X.Tb,0,none⟩))
 blk:∀b,b∈dR np D->V.st b/\∃o,w0.heap[b]?=some o
 G8:∀i,i<np->∀j,j<12->w0.cell? ⟨D.pb,D.po+12*i+j,none⟩=(pA D i)[j]?
 PM:∀j,j<3->w0.cell? ⟨D.gb,D.go+3*n+j,none⟩=(gA s dl gn)[j]?
 hn:n<3
 Zb:n<D.ng
 hs:s<np
 MC:np<=5
 row:∀j,n*25<=j->j<n*25+25->V.row j
structure Kn(X:Fix)(V:Vw)(w0 w:World):Prop where
 live:Live X w
 st:∀b,V.st b->w.heap[b]?=w0.heap[b]?
 size:w0.heap.size<=w.heap.size
section
variable {X:Fix}{V:Vw}{D:jB}{np s n:Nat}{dl:Int}{gn:ByteArray}{bc bg bt:Nat}{w0 w w':World}{M:Own}{ρ:Ren}
def Kn.rl(h:Kn X V w0 w)(r:Rl X V M w w'):Kn X V w0 w':=⟨r.live h.live,λb hb=>(r.st b hb).trans (h.st b hb),aH h.size r.size⟩
def Kn.stay(h:Kn X V w0 w)(r:qw X V (10) ρ M w w')(l:Live X w'):Kn X V w0 w':=⟨l,λb hb=>(r.st b hb).trans (h.st b hb),aH h.size r.size⟩
def Kn.cell(h:Kn X V w0 w){b o:Nat}(hb:V.st b):w.cell? ⟨b,o,none⟩=w0.cell? ⟨b,o,none⟩:=by simp only[bq,h.st b hb]
def zl.clear(k:zl X V D np s n dl gn bc bg bt w0)(a:∀b,M b->jm X b):Clear X V M:=⟨k.ids,k.apart,a⟩
def adn(o:Option Addr)(l c:Nat):(bl o l c).length<=1:=by
 unfold bl
 grind
def BW{b:Nat}(h:b∈dR np D):1<=Jz np D b/\Jz np D b<10:=by
 have c:=List.idxOf_lt_length_of_mem h;have d:(dR np D).length<=9:=by
  have f:=adn D.so D.sl D.sc;have j:=adn D.qo D.ql D.qc;have a:∀i,(bl (D.pl i) (D.pc i) (D.pd i)).length<=1:=λi=>adn _ _ _;have a0:=a 0;have a1:=a 1;have a2:=a 2;have a3:=a 3;have a4:=a 4;have e:(bo 5).flatMap (λi=>bl (D.pl i) (D.pc i) (D.pd i))=bl (D.pl 0) (D.pc 0) (D.pd 0)++(bl (D.pl 1) (D.pc 1) (D.pd 1)++(bl (D.pl 2) (D.pc 2) (D.pd 2)++(bl (D.pl 3) (D.pc 3) (D.pd 3)++(bl (D.pl 4) (D.pc 4) (D.pd 4)++[])))):=rfl;unfold dR
  grind
 unfold Jz;omega
def BX{b:Nat}(h:b∈dR np D):(dR np D)[(dR np D).idxOf b]?=some b:=by
 grind
def PN:(sI np D).bw 0:=by
 refine⟨λ{a b b'}x y=>?_,λ{a c b}x y=>x.2.trans y.2.symm,λ{a b}_=>by omega⟩;have e:(dR np D).idxOf b=(dR np D).idxOf b':=by
  have:=x.2.symm.trans y.2;unfold Jz at this;omega
 have d:=BX x.1
 grind
def pW{b:Nat}(h:b∈dR np D):sI np D (Jz np D b) b:=⟨h,rfl⟩
def pX:Tryz.progTables.globals.size=0:=by kernel_rfl
def zl.lw0(k:zl X V D np s n dl gn bc bg bt w0)(h:Kn X V w0 w):LW bv F3 ZZ X V (10) (sI np D) bR (wL0 np (hU np D w0)) w:=by
 have m:(wL0 np (hU np D w0)).heap.size=10:=by simp[wL0]
 refine⟨by rw[pX];exact PN,⟨by rw[pX];omega,by rw[pX];omega,by rw[m];omega,λ{a b}d hb=>?_,λ{a b}d hb=>?_⟩,⟨λa b d _=>de (k.blk b d.1).1,λa b d hb=>?_⟩,k.clear λb hb=>hb.elim,λb hb=>⟨aI (k.low b hb) h.size,λx=>x⟩⟩
 ·have:=(BW d.1).2;have:=d.2;omega
 ·obtain⟨i,o,hc⟩:=k.blk b d.1;have p:=BW d.1;rw[<-d.2]at p;have e:a=(dR np D).idxOf b+1:=by rw[d.2];unfold Jz;omega
  have r:(wL0 np (hU np D w0)).heap=((bo 10).map (hU np D w0)).toArray:=rfl;have j:(wL0 np (hU np D w0)).heap[a]?=some (hU np D w0 a):=by
   grind
  by_cases l:∃c t f,o=bd c t f
  ·obtain⟨c,t,f,rfl⟩:=l;refine⟨bd c t f,bd c t f,?_,by rw[h.st b i];exact hc,.cells t f rfl⟩;rw[j,e];simp only[hU,BX d.1,hc]
  ·have q:∀c t f,o≠bd c t f:=λc t f e=>l ⟨c,t,f,e⟩;refine⟨bj default,o,?_,by rw[h.st b i];exact hc,.ac1 _ _ q⟩;rw[j,e];simp only[hU,BX d.1,hc]
   grind
 ·have:=(BW d.1).2;have:=d.2;omega
def BZ{o:Option Addr}{l c:Nat}(h:∀b,b∈bl o l c->b∈dR np D):VR F3 (sI np D) (ce (lsl np D o l c) l c) (ce o l c):=by
 unfold lsl;unfold bl at h
 split
 ·rename_i d;obtain⟨rfl,rfl⟩:=d
  cases o with
  |none=>exact .di _ _
  |some a=>exact .dK _ _
 ·rename_i d;rw[if_neg d]at h
  cases o with
  |none=>exact .di _ _
  |some a=>exact .slice _ _ ⟨pW (h _ (by simp)),rfl,rfl⟩
def Zc{b:Nat}(h:b∈bl D.so D.sl D.sc):b∈dR np D:=by simp[dR,h]
def Zd{b:Nat}(h:b∈bl D.qo D.ql D.qc):b∈dR np D:=by simp[dR,h]
def mem_pl{b i:Nat}(hi:i<5)(h:b∈bl (D.pl i) (D.pc i) (D.pd i)):b∈dR np D:=by
 unfold dR
 grind
def MD:VA F3 (sI np D) (cA np (aW np D)) (cA np D):=
 .cons (.int _ _) (.cons (.int _ _) (.cons (BZ λ_ h=>Zc h) (.cons (BZ λ_ h=>Zd h) (.cons (.slice _ _ ⟨pW (by simp[dR]),rfl,rfl⟩) (.cons (.slice _ _ ⟨pW (by simp[dR]),rfl,rfl⟩) .nil)))))
def Ze{i:Nat}(hi:i<5):VA F3 (sI np D) (pA (aW np D) i) (pA D i):=
 .cons (.string _) (.cons (.int _ _) (.cons (.int _ _) (.cons (.int _ _) (.cons (.int _ _) (.cons (.int _ _) (.cons (.int _ _) (.cons (.int _ _) (.cons (.int _ _) (.cons (.int _ _) (.cons (.int _ _) (.cons (BZ λ_ h=>mem_pl hi h) .nil)))))))))))
def Zf{ρ:Ren}:VA F3 ρ (gA s dl gn) (gA s dl gn):=.cons (.string _) (.cons (.int _ _) (.cons (.int _ _) .nil))
end
def W6:PP=⟨bv,bx⟩:=rfl
abbrev LWs(X:Fix)(V:Vw)(np:Nat)(ρ:Ren)(M:Own)(wL w:World):Prop:=LW bv F3 ZZ X V (10) ρ M wL w
abbrev LK(up:List Frame)(X:Fix)(V:Vw)(np:Nat)(ρ:Ren)(M:Own)(g:aa)(wL:World)(g':aa)(w:World):Prop:=iG bv bx bx F3 ZZ default up X V (10) ρ M g wL g' w
def Xa:∀f,F3 f=true->f<cn:=λf hf=>by
 simp only[F3,Bool.or_eq_true,beq_iff_eq]at hf
 rcases hf with(rfl|rfl)|rfl<;>decide
def Ar{ρ:Ren}{f:ab}(hf:F3 f=true){a a':Array Value}(h:VA F3 ρ a a'):aQ bv F3 ZZ bx bx ρ (ba PP f a da) (ba PP f a' da):=by
 have e:=fe (T:=bv) (fB:=bx) (fA:=bx) (Z:=ZZ) (adR.same f hf) hf h;rw[<-W6]at e;exact e
def Zg:∃fn,PP.funcs[41]?=some fn/\fn.results=#[.tmp 4]:=⟨Tryz.f41,Tryz.func41,rfl⟩
def Zh:∃fn,PP.funcs[67]?=some fn/\fn.results=#[]:=⟨bA,bC,rfl⟩
section
variable {X:Fix}{V:Vw}{D:jB}{np s n:Nat}{dl:Int}{gn:ByteArray}{bc bg bt:Nat}{w0 w w':World}{M:Own}{ρ:Ren}{Stop:Stp}{d:Nat}{up:List Frame}{g g':aa}{wL:World}{c:Frame}{cs:List Frame}
def JA(k:zl X V D np s n dl gn bc bg bt w0){m:Nat}{q:aa×World}(r:q=Jp PP oU m g wL)(hg:Good np m g wL)(h:LK up X V np ρ M g wL g' w)(o:Kn X V w0 w)
 (K:∀i j l w2,LK up X V np i j q.1 q.2 l w2->Kn X V w0 w2->(∀b,M b->j b)->(∀a b,ρ a b->i a b)->(∀a b,i a b->ρ a b\/(10<=a/\w.heap.size<=b))->qw X V (10) ρ M w w2->ay X V false Stop j d l w2):ay X V false Stop M d g' w:=by
 obtain⟨m',p⟩:=Pn default m hg;rw[<-r]at p;exact ay.lone adR (k.hP.trans W6) m' p h o.live λi j l w2 a b c d e f=>K i j l w2 a (o.stay f b) c d e f
def adU{e:Ren}(h:∀a b,e a b->sI np D a b\/(10<=a/\w.heap.size<=b)):∀b,¬e 0 b:=λb x=>by
 rcases h 0 b x with y|y
 ·have:=(BW y.1).1;have:=y.2;omega
 ·omega
def adV:GC bv bx bx F3 ZZ default up (sI np D) (gL0 np (aW np D) n) (G (ba PP 41 #[ch (cA np D),cb c9 (n:Int)] da) up):=by
 have e:=Ar (ρ:=sI np D) (f:=41) (by decide) (a:=#[ch (cA np (aW np D)),cb c9 (n:Int)]) (a':=#[ch (cA np D),cb c9 (n:Int)]) (.cons (.agg MD) (.cons (.int _ _) .nil));exact⟨e,⟨[],[],rfl,rfl,.nil,λx b=>(by cases b;rfl)⟩,rfl,rfl,rfl,rfl,rfl,rfl⟩
def Zi(k:zl X V D np s n dl gn bc bg bt w0)(j:FE np s)(l:Kn X V w0 w)
 (K:∀ρ M b0 e w2,LWs X V np ρ M (A0 np (aW np D) (hU np D w0) n).2 w2->Kn X V w0 w2->ρ (10) b0->ρ (11) e->(∀a b,sI np D a b->ρ a b)->(∀b,¬ρ 0 b)->qw X V (10) (sI np D) bR w w2->
   ay X V false Stop M 0 (G (c.finish (cd (cB 67) #[] #[pt b0,pt e])) cs) w2) :
 ay X V false Stop bR 0 (G (ba PP 41 #[ch (cA np D),cb c9 (n:Int)] da) (c::cs)) w:=by
 refine JA k (q:=A0 np (aW np D) (hU np D w0) n) (by delta A0;rfl) (j.e0 (aW np D) (hU np D w0) n) ((k.lw0 l).like adV) l λm o H w2 f p _ h i r=>?_;obtain⟨hb,t⟩:=j.b0 (aW np D) (hU np D w0) n;obtain⟨u,rfl,e1,v,x,y,z⟩:=f.back hb.mode hb.defers hb.callers;have hv:=VA.getD z 4 (.undef);rw[t]at hv;obtain⟨b0,e,A,B,C⟩:=Ux f.inj Xa (by decide) hv;obtain⟨fn,E,F⟩:=Zg;refine .leave1 f.clear v x y (by rw[k.hP,e1,hb.fn];exact E) F ?_;rw[C];exact K m o b0 e w2 f.lw p A B h (adU i) r
end
noncomputable def c3(W bc bg bm bt:Nat)(c:Value)(n:Int)(a:Value)(lb:Nat):Frame:=⟨70,qJ W bc bg bm bt c n a undef undef (λ_=>undef),.inRangeFunc lb::kk,Pz W (lb-1),.run,db,none⟩
noncomputable def ajh(W bc bg bm bt:Nat)(c:Value)(n:Int)(a:Value)(lb:Nat)(st:ad):Loop:={ state:=st,pending:=none,fn:=70,tmps:=qJ W bc bg bm bt c n a undef undef (λ_=>undef),params:=#[9],assign:=vl,body:=lZ,defers:=lb-1 }
def Uz:∃fd,PP.funcs[67]?=some fd/\fd.body.isSome=true/\fd.name≠ "runtime.NumGoroutine":=⟨bA,bC,rfl,by decide +kernel⟩
noncomputable abbrev vO(b0 b1:Nat):Value:=cd (cB 67) #[] #[pt b0,pt b1]
abbrev sJ(np:Nat)(D:jB):Value:=ch (cA np D)
noncomputable abbrev xN(X:Fix)(np:Nat)(D:jB)(n bc bg bt b0 b1 lb:Nat):Frame:=c3 X.Wg bc bg X.Mu bt (sJ np D) (n:Int) (vO b0 b1) lb
noncomputable abbrev Ti(X:Fix)(np:Nat)(D:jB)(n bc bg bt b0 b1 lb:Nat)(st:ad):Loop:=ajh X.Wg bc bg X.Mu bt (sJ np D) (n:Int) (vO b0 b1) lb st
section
variable {X:Fix}{V:Vw}{D:jB}{np s n:Nat}{dl:Int}{gn:ByteArray}{bc bg bt:Nat}{w0 w w':World}{M:Own}{ρ:Ren}{Stop:Stp}{d:Nat}{up:List Frame}{g g':aa}{wL:World}{c:Frame}{cs:List Frame}{bm b0 b1:Nat}
structure Gd(X:Fix)(np:Nat)(D:jB)(n bc bg bt b0 b1:Nat)(ρ:Ren)(M:Own)(lb:Nat)(st:ad)(w:World):Prop where
 r0:ρ 0 lb
 ml:M lb
 md:M (lb-1)
 pos:1<=lb
 un:∀a,¬ρ a (lb-1)
 hl:w.heap[lb]?=some (bj (Ti X np D n bc bg bt b0 b1 lb st))
 hd:w.heap[lb-1]?=some (bi (some []))
def Gd.rl{lb:Nat}{st:ad}(h:Gd X np D n bc bg bt b0 b1 ρ M lb st w)(r:Rl X V M w w'):Gd X np D n bc bg bt b0 b1 ρ M lb st w':=
 { h with hl:=(r.own _ h.ml).trans h.hl,hd:=(r.own _ h.md).trans h.hd }
def bn{w:World}{b:Nat}{o:Obj}(h:w.heap[b]?=some o):b<w.heap.size:=(Array.getElem?_eq_some_iff.1 h).1
def Gd.stay{lb:Nat}{st:ad}{e:Ren}{j:Own}(h:Gd X np D n bc bg bt b0 b1 ρ M lb st w)(r:qw X V (10) ρ M w w')(k:∀b,M b->j b)(f:∀a b,ρ a b->e a b)(i:∀a b,e a b->ρ a b\/(10<=a/\w.heap.size<=b)):Gd X np D n bc bg bt b0 b1 e j lb st w':=
 ⟨f _ _ h.r0,k _ h.ml,k _ h.md,h.pos,λa x=>by
   rcases i a _ x with y|y
   ·exact h.un a y
   ·have:=bn h.hd;omega,(r.low _ _ h.r0 (by omega)).trans h.hl,(r.own _ h.md (bn h.hd) h.un).trans h.hd⟩
def Zj(k:zl X V D np s n dl gn bc bg bt w0)(L:Kn X V w0 w)(m:LWs X V np ρ M (A0 np (aW np D) (hU np D w0) n).2 w)(Q:FE np s)(R:ρ (10) b0)(S:ρ (11) b1)(T:∀b,¬ρ 0 b)(z:∀a b,sI np D a b->ρ a b)
 (K:∀p M' lb w',LK [xN X np D n bc bg bt b0 b1 lb,ez PP] X V np p M' (gL1 np) (A0 np (aW np D) (hU np D w0) n).2 (G (ba PP 67 #[cd (cC lb) #[] #[],pt b0,pt b1] da) [xN X np D n bc bg bt b0 b1 lb,ez PP]) w'->Kn X V w0 w'->Gd X np D n bc bg bt b0 b1 p M' lb dk w'->(∀a b,sI np D a b->p a b)->
   (∀o,V.row o->w'.cell? ⟨X.Tb,o,none⟩=w.cell? ⟨X.Tb,o,none⟩)->ay X V false Stop M' 0 (G (ba PP 67 #[cd (cC lb) #[] #[],pt b0,pt b1] da) [xN X np D n bc bg bt b0 b1 lb,ez PP]) w') :
 ay X V false Stop M 0 (G (((k2 X.Wg bc bg X.Mu bt (sJ np D) (n:Int)).callers.headD default).finish (vO b0 b1)) [ez PP]) w:=by
 refine(k_3 X.Wg bc bg X.Mu bt (sJ np D) (n:Int) (vO b0 b1)).run k.hP k.hg ?_;rw[aiZ];obtain⟨fd,hF,hb,U⟩:=Uz;refine .own m.clear rfl L.live λi r=>?_;have zz:=L.rl r;have st:=GZ (P:=PP) (mn:=V.g==0) (w:=i) (fn:=70) (tmps:=qJ X.Wg bc bg X.Mu bt (sJ np D) (n:Int) (vO b0 b1) undef undef (λ_=>undef)) (f:=dd 8) (ps:=#[9]) (assign:=vl) (body:=lZ) (k:=kk) (defers:=rG X.Wg) (kind:=db) (cs:=[ez PP]) (F:=67) (caps:=#[pt b0,pt b1]) (fd:=fd) rfl (Ju (n:=20) (j:=8) (by omega)) hF hb U;rw[k.hP];have W:M.more i ((i.alloc (bi (some []))).alloc (uw 70 (qJ X.Wg bc bg X.Mu bt (sJ np D) (n:Int) (vO b0 b1) undef undef (λ_=>undef)) #[9] vl lZ i.heap.size))=λb=>M b\/b=i.heap.size\/b=i.heap.size+1:=by
  funext x;unfold Own.more
  grind[br]
 have l:∀b,b<i.heap.size->((i.alloc (bi (some []))).alloc (uw 70 (qJ X.Wg bc bg X.Mu bt (sJ np D) (n:Int) (vO b0 b1) undef undef (λ_=>undef)) #[9] vl lZ i.heap.size)).heap[b]?=i.heap[b]?:=λb hb=>by
  show((i.heap.push _).push _)[b]?=_
  grind
 have A:((i.alloc (bi (some []))).alloc (uw 70 (qJ X.Wg bc bg X.Mu bt (sJ np D) (n:Int) (vO b0 b1) undef undef (λ_=>undef)) #[9] vl lZ i.heap.size)).heap[i.heap.size]?=some (bi (some [])):=by
  show((i.heap.push _).push _)[i.heap.size]?=_
  grind
 have t:((i.alloc (bi (some []))).alloc (uw 70 (qJ X.Wg bc bg X.Mu bt (sJ np D) (n:Int) (vO b0 b1) undef undef (λ_=>undef)) #[9] vl lZ i.heap.size)).heap[i.heap.size+1]?=some (bj (Ti X np D n bc bg bt b0 b1 (i.heap.size+1) dk)):=by
  have e:∀o q:Obj,((i.heap.push o).push q)[i.heap.size+1]?=some q:=λo q=>by
   grind
  exact e _ _
 obtain⟨⟨_,_,v1⟩,⟨_,_,B⟩,Y,N,Z⟩:=zz.live;have lM:=bn v1;have lW:=bn B;have O:=bn N;have sB:Clear X V (λb=>M b\/b=i.heap.size\/b=i.heap.size+1):=k.clear λb hb=>by
  rcases hb with hb|hb|hb
  ·exact m.clear.own b hb
  ·exact⟨by omega,by omega,by omega⟩
  ·exact⟨by omega,by omega,by omega⟩
 refine⟨_,_,#[],st,rfl,rfl,.refl _,by grind,λb hb _=>l b hb,by simp,rfl,?_⟩;rw[W];have y:LWs X V np ρ M (A0 np (aW np D) (hU np D w0) n).2 i:=by
  refine⟨m.inj,⟨m.wr.pK,aH m.wr.gN r.size,m.wr.base,λ{a b}u v=>?_,λ{a b}u v=>?_⟩,m.own,m.clear,λb hb=>⟨aI (m.sG b hb).1 r.size,(m.sG b hb).2⟩⟩
  ·obtain⟨o,q,C,E,H⟩:=m.wr.obj u v;exact⟨o,q,C,by rw[r.own b (m.own.own a b u v)];exact E,H⟩
  ·obtain⟨o,q,C,E,H⟩:=m.wr.low u v;exact⟨o,q,C,by rw[(m.own.st a b u v).elim (r.st b) (r.own b)];exact E,H⟩
 have I:=y.loop pX T (by omega) (lL:=default) (Q.h0 (aW np D) (hU np D w0) n) t (by omega) (M':=λb=>M b\/b=i.heap.size\/b=i.heap.size+1) (λ_ h=>de h) (df (df rfl)) sB (λb hb h=>by
  have:=(y.sG b hb)
  grind) (by grind) l
 have lt0:∀a b,ρ a b->b<i.heap.size:=λa b h=>(y.wr.lt h).2;have J:GC bv bx bx F3 ZZ default [xN X np D n bc bg bt b0 b1 (i.heap.size+1),ez PP] (λa b=>ρ a b\/(a=0/\b=i.heap.size+1)) (gL1 np) (G (ba PP 67 #[cd (cC (i.heap.size+1)) #[] #[],pt b0,pt b1] da) [xN X np D n bc bg bt b0 b1 (i.heap.size+1),ez PP]):=by
  have e:=Ar (ρ:=λa b=>ρ a b\/(a=0/\b=i.heap.size+1)) (f:=67) (by decide) (a:=#[cd (cB (cn+0)) #[] #[],ci (some ⟨10,0,none⟩),ci (some ⟨11,0,none⟩)]) (a':=#[cd (cC (i.heap.size+1)) #[] #[],pt b0,pt b1])
   (.cons (.func (.spec (df ⟨rfl,rfl⟩)) .nil .nil) (.cons (.ptr ⟨de R,rfl,rfl⟩) (.cons (.ptr ⟨de S,rfl,rfl⟩) .nil)))
  exact⟨e,⟨[],[],rfl,rfl,.nil,λx hx=>(by cases hx;rfl)⟩,rfl,rfl,rfl,rfl,rfl,rfl⟩
 refine K _ _ (i.heap.size+1) _ (I.like J) ⟨?_,λb hb=>?_,?_⟩ ⟨df ⟨rfl,rfl⟩,df (df rfl),df (de rfl),by omega,λa x=>?_,t,A⟩ (λa b h=>de (z a b h)) (λo ho=>?_)
 ·exact⟨⟨_,_,by unfold bX at v1 ⊢;rw[l _ lM];exact v1⟩,⟨_,_,by unfold b6 at B ⊢;rw[l _ lW];exact B⟩,Y,by rw[l _ O];exact N,Z⟩
 ·rw[l b (y.sG b hb).1];exact zz.st b hb
 ·simp only[br];have:=zz.size;omega
 ·grind
 ·have e:∀{w2:World},w2.heap[X.Tb]?=i.heap[X.Tb]?->w2.cell? ⟨X.Tb,o,none⟩=i.cell? ⟨X.Tb,o,none⟩:=λh=>by simp only[bq,h]
  rw[e (l _ O)];exact r.row o ho
end
def jC{g:aa}{op:Op}(h:(bF g).map (·.op)=some op):∃o,bF g=some o/\o.op=op:=by
 simp_all
def adX:PP.underlying 25=some (.slice 102):=by kernel_rfl
def adY:(PP.info? 102).map (·.size)=some 3:=by kernel_rfl
def ajk:PP.underlying 102=some (.struct (fieldsOf 102)):=by kernel_rfl
def ajl:(PP.info? 85).map (·.size)=some 12:=by kernel_rfl
def ajm:PP.underlying 85=some (.struct (fieldsOf 85)):=by kernel_rfl
def pY{w:World}{a:Addr}{v:Value}(h:w.cell? a=some v):a.block<w.heap.size:=by
 unfold bq at h
 grind
section
variable {X:Fix}{V:Vw}{D:jB}{np s n:Nat}{dl:Int}{gn:ByteArray}{bc bg bt:Nat}{w0 w w':World}{M:Own}{ρ:Ren}{Stop:Stp}{d:Nat}{g g':aa}{wL:World}{b0 b1 lb:Nat}{st:ad}
structure Iv(X:Fix)(V:Vw)(np:Nat)(D:jB)(n bc bg bt b0 b1:Nat)(w0:World)(ρ:Ren)(M:Own)(lb:Nat)(st:ad)(gL:aa)(wL:World)(g':aa)(w:World):Prop where
 lk:LK [xN X np D n bc bg bt b0 b1 lb,ez PP] X V np ρ M gL wL g' w
 kn:Kn X V w0 w
 gd:Gd X np D n bc bg bt b0 b1 ρ M lb st w
 le:∀a b,sI np D a b->ρ a b
def sK(X:Fix)(V:Vw)(w w':World):Prop:=∀o,V.row o->w'.cell? ⟨X.Tb,o,none⟩=w.cell? ⟨X.Tb,o,none⟩
def Iv.rl{a:aa}(h:Iv X V np D n bc bg bt b0 b1 w0 ρ M lb st a wL g' w)(r:Rl X V M w w'):Iv X V np D n bc bg bt b0 b1 w0 ρ M lb st a wL g' w':=⟨h.lk.rely r,h.kn.rl r,h.gd.rl r,h.le⟩
def Iv.fin{a:aa}{v v':Value}(h:Iv X V np D n bc bg bt b0 b1 w0 ρ M lb st a wL g' w)(hv:VR F3 ρ v v'):Iv X V np D n bc bg bt b0 b1 w0 ρ M lb st (fin a v) wL (fin g' v') w:=⟨h.lk.fin hv,h.kn,h.gd,h.le⟩
def Iv.seg{l:aa}{m:Nat}{q:aa×World}(k:zl X V D np s n dl gn bc bg bt w0)(h:Iv X V np D n bc bg bt b0 b1 w0 ρ M lb st l wL g' w)(t:q=Jp PP oU m l wL)(hg:Good np m l wL)
 (K:∀o i j w2,Iv X V np D n bc bg bt b0 b1 w0 o i lb st q.1 q.2 j w2->sK X V w w2->ay X V false Stop i d j w2):ay X V false Stop M d g' w:=
 JA k t hg h.lk h.kn λo i j w2 a b c e f r=>K o i j w2 ⟨a,b,h.gd.stay r c e f,λx y p=>e x y (h.le x y p)⟩ r.row
def JB(k:zl X V D np s n dl gn bc bg bt w0){b:Nat}(hb:V.st b):(V.st b/\∀a':Addr,a'.block=b->¬X.Shun (.cell a'))\/M b:=de ⟨hb,k.shun b hb⟩
def Zk(k:zl X V D np s n dl gn bc bg bt w0)(l:FE np s)(h:Iv X V np D n bc bg bt b0 b1 w0 ρ M lb st (gL1 np) (A0 np (aW np D) (hU np D w0) n).2 g' w)
 (K:∀x y f Z C w2,Iv X V np D n bc bg bt b0 b1 w0 x y lb st (gR np s (aW np D) 0 f) (wR np s (aW np D) (hU np D w0) n dl gn 0 (dl,dl) Z) C w2->sK X V w w2->ay X V false Stop y 0 C w2):ay X V false Stop M 0 g' w:=by
 refine h.seg k (q:=A1 np (aW np D) (hU np D w0) n) (by delta A1;rfl) (l.e1 _ _ _) λF U H w1 c I=>?_;obtain⟨e,z,hi⟩:=l.c1 (aW np D) (hU np D w0) n;obtain⟨o,i,e⟩:=jC e;obtain⟨A,m⟩:=c.lk.g.op i;have a:F (Jz np D D.gb) D.gb:=c.le _ _ (pW (by simp[dR]));have e1:=m 12;rw[z]at e1;have e1:=xL c.lk.inj e1 a (show 0<D.ng from by have:=k.Zb;omega);have p:=m 13;rw[hi]at p;have p:=oT p;refine .DW (g':=fin H (ci (some ⟨D.gb,D.go+n*3,none⟩))) c.lk.clear c.lk.g.st' (λw=>?_) c.lk.g.st' ?_
 ·have:=xH (P:=X.P) (mn:=V.g==0) (w:=w) A e e1 p (by rw[k.hP];exact adX) (by rw[k.hP];exact adY) (by omega) (by have:=k.Zb;show(n:Int)<(D.ng:Int);omega);rw[dY,Int.toNat_natCast]at this;exact this
 have b:=c.fin (v:=ci (some ⟨Jz np D D.gb,D.go+n*3,none⟩)) (v':=ci (some ⟨D.gb,D.go+n*3,none⟩)) (.ptr ⟨a,rfl,rfl⟩);refine b.seg k (q:=A2 np (aW np D) (hU np D w0) n (D.go+n*3)) (by delta A2;rfl) (l.e2 _ _ _ _) λx y W w2 b J=>?_;obtain⟨e,z⟩:=l.c2 (aW np D) (hU np D w0) n (D.go+n*3);obtain⟨o,i,e⟩:=jC e;obtain⟨A,m⟩:=b.lk.g.op i;have a:x (Jz np D D.gb) D.gb:=b.le _ _ (pW (by simp[dR]));have e1:=m 14;rw[z]at e1;have e1:=PG b.lk.inj e1 a;have E:V.st D.gb:=(k.blk D.gb (by simp[dR])).1;have L:((bo 3).map λj=>(gA s dl gn).getD j undef).toArray=gA s dl gn:=rfl;refine .qM (v:=ch (gA s dl gn)) b.lk.clear b.kn.live A e e1 (λN r=>?_) (JB k E) ?_
 ·have zz:=b.kn.rl r;have hc:∀j,j<3->N.cell? ((⟨D.gb,D.go+n*3,none⟩:Addr).add j)=some ((gA s dl gn).getD j undef):=λj O=>by
   rw[dY,zz.cell E];have:=k.PM j O
   grind
  have:=sH (P:=X.P) (t:=102) (by rw[k.hP];exact ajk) rfl (by rw[k.hP];exact adY) hc;rw[L]at this;exact⟨this,pY (by have:=hc 0 (by omega);rwa[dY]at this)⟩
 have u:=b.fin (v:=ch (gA s dl gn)) (v':=ch (gA s dl gn)) (.agg Zf);refine u.seg k (q:=A3 np s (aW np D) (hU np D w0) n dl gn (D.go+n*3)) (by delta A3;rfl) (l.e3 _ _ _ _ _ _) λB Q R w3 u S=>?_;obtain⟨f,Z,T⟩:=l.r0' (aW np D) (hU np D w0) n dl gn (D.go+n*3);rw[T]at u;exact K B Q f Z R w3 u λo i=>(S o i).trans ((J o i).trans (I o i))
end
noncomputable def lD:Array Value:=#[cb c9 0,cb c9 0,cb c9 0,cb c9 0,cb c9 0]
def aeg:∃i,PP.info? 53=some i/\i.zero=some (ch lD):=by
 have h:(PP.info? 53).map (·.zero)=some (some (ch lD)):=by kernel_rfl
 simp_all
section
variable {T:Tables}{fB fA:Array Func}{F:ab->Bool}{Z:ac->Bool}{X:Fix}{V:Vw}{Bs:Nat}{bot:Frame}{up:List Frame}{ρ:Ren}{M:Own}{g g':aa}{wL w w':World}
def _root_.Go.Ph.iG.aeh(h:iG T fB fA F Z bot up X V Bs ρ M g wL g' w){lb:Nat}{l l':Loop}(m:ρ 0 lb)(r:0<Bs)(hs:w.heap.size<=w'.heap.size)(hb:∀a b,ρ a b->b≠lb->w'.heap[b]?=w.heap[b]?)(hl:w.heap[lb]?=some (bj l))(p:w'.heap[lb]?=some (bj l')) :
 iG T fB fA F Z bot up X V Bs ρ M g wL g' w':=by
 refine⟨h.inj,⟨h.wr.pK,aH h.wr.gN hs,h.wr.base,λ{a b}c f=>?_,λ{a b}c f=>?_⟩,h.g,h.own,h.clear,λb hb=>⟨aI (h.sG b hb).1 hs,(h.sG b hb).2⟩⟩
 ·obtain⟨o,q,j,i,k⟩:=h.wr.obj c f;have t:b≠lb:=λe=>by
   subst e;have:=h.inj.inj c m;omega
  grind
 ·obtain⟨o,q,j,i,k⟩:=h.wr.low c f;by_cases e:b=lb
  ·subst e;rw[hl]at i;cases i;cases k<;>exact⟨_,_,j,p,.loop _ _⟩
  grind
end
section
variable {X:Fix}{V:Vw}{D:jB}{np s n:Nat}{dl:Int}{gn:ByteArray}{bc bg bt:Nat}{w0 w w':World}{M:Own}{ρ:Ren}{Stop:Stp}{d:Nat}{g g' gL:aa}{wL:World}{b0 b1 lb b5:Nat}{st st':ad}
def Iv.alloc(k:zl X V D np s n dl gn bc bg bt w0)(h:Iv X V np D n bc bg bt b0 b1 w0 ρ M lb st gL wL g' w)(o:Obj) :
 Iv X V np D n bc bg bt b0 b1 w0 ρ (λb=>M b\/b=w.heap.size) lb st gL wL g' (w.alloc o)/\∀a,¬ρ a w.heap.size:=by
 obtain⟨⟨_,_,v1⟩,⟨_,_,e⟩,j,f,l⟩:=h.kn.live;have m:=bn v1;have p:=bn e;have q:=bn f;have c:∀b,b<w.heap.size->(w.alloc o).heap[b]?=w.heap[b]?:=λb hb=>by
  show(w.heap.push _)[b]?=_
  grind
 have r:Clear X V (λb=>M b\/b=w.heap.size):=k.clear λb hb=>by
  rcases hb with hb|hb
  ·exact h.lk.clear.own b hb
  ·exact⟨by omega,by omega,by omega⟩
 have i:∀a b,ρ a b->b<w.heap.size:=λa b x=>(h.lk.wr.lt x).2;refine⟨⟨(h.lk.more (λ_ x=>de x) r λb hb x=>?_).same (by simp[br]) λa b x=>c b (i a b x),⟨?_,λb hb=>?_,by simp only[br];have:=h.kn.size;omega⟩,⟨h.gd.r0,de h.gd.ml,de h.gd.md,h.gd.pos,h.gd.un,?_,?_⟩,h.le⟩,λa x=>?_⟩
 ·have:=h.lk.sG b hb
  grind
 ·exact⟨⟨_,_,by unfold bX at v1 ⊢;rw[c _ m];exact v1⟩,⟨_,_,by unfold b6 at e ⊢;rw[c _ p];exact e⟩,j,by rw[c _ q];exact f,l⟩
 ·rw[c b (h.lk.sG b hb).1];exact h.kn.st b hb
 ·rw[c _ (bn h.gd.hl)];exact h.gd.hl
 ·rw[c _ (bn h.gd.hd)];exact h.gd.hd
 ·have:=i a _ x;omega
def Iv.same(h:Iv X V np D n bc bg bt b0 b1 w0 ρ M lb st gL wL g' w)(hl:Live X w')(hs:w.heap.size<=w'.heap.size)(c:∀a b,ρ a b->w'.heap[b]?=w.heap[b]?)(e:∀b,V.st b->w'.heap[b]?=w.heap[b]?)(hd:w'.heap[lb-1]?=w.heap[lb-1]?) :
 Iv X V np D n bc bg bt b0 b1 w0 ρ M lb st gL wL g' w':=
 ⟨h.lk.same hs c,⟨hl,λb hb=>(e b hb).trans (h.kn.st b hb),aH h.kn.size hs⟩,{ h.gd with hl:=(c _ _ h.gd.r0).trans h.gd.hl,hd:=hd.trans h.gd.hd },h.le⟩
def Iv.PY(h:Iv X V np D n bc bg bt b0 b1 w0 ρ M lb st gL wL g' w):Iv X V np D n bc bg bt b0 b1 w0 ρ M lb st' gL wL g' (w.putObj lb (bj (Ti X np D n bc bg bt b0 b1 lb st'))):=by
 have k:=bn h.gd.hl;have i:=World.putObj_heap_same (w:=w) (o:=bj (Ti X np D n bc bg bt b0 b1 lb st')) k;have c:∀b,b≠lb->(w.putObj lb (bj (Ti X np D n bc bg bt b0 b1 lb st'))).heap[b]?=w.heap[b]?:=λb hb=>bs hb;have f:=h.lk.clear.own lb h.gd.ml;obtain⟨⟨_,_,v1⟩,⟨_,_,j⟩,l,m,p⟩:=h.kn.live;refine⟨h.lk.aeh h.gd.r0 (by omega) (by simp) (λa b _ hb=>c b hb) h.gd.hl i,⟨?_,λb hb=>?_,by simp;exact h.kn.size⟩,{ h.gd with hl:=i,hd:=by rw[c _ (by have:=h.gd.pos;omega)];exact h.gd.hd },h.le⟩
 ·exact⟨⟨_,_,by unfold bX at v1 ⊢;rw[c _ (b9 f.1)];exact v1⟩,⟨_,_,by unfold b6 at j ⊢;rw[c _ (b9 f.2.1)];exact j⟩,l,by rw[c _ (b9 f.2.2)];exact m,p⟩
 ·rw[c b λe=>(h.lk.sG b hb).2 (e▸h.gd.ml)];exact h.kn.st b hb
def _root_.Go.Ph.ay.UD{g g':aa}{b:Nat}(hc:Clear X V M)(hs:g.status=dt)(hl:Live X w)(hb:M b)(i:b<w.heap.size)
 (h:∀a,Rl X V M w a->∃es,stepG X.P (V.g==0) g a=.go g' a es/\∀e∈es,e=⟨.obj b,false,false⟩) (j:g'.status=dt) (k:∀a,Rl X V M w a->ay X V false Stop M d g' a):ay X V false Stop M d g w:=
 .own hc hs hl λa r=>by
  obtain⟨es,l,f⟩:=h a r;refine⟨_,_,es,l,rfl,rfl,.refl _,aL _,λx _ _=>rfl,λe c=>?_,j,?_⟩
  ·rw[f e c,pU];exact DG hb (aI i r.size)
  ·rw[pU,Am d (b:=b) λe c=>⟨false,f e c⟩];exact k a r
def bS(np s:Nat)(D:jB)(dl:Int):Nat->Int×Int
 |0=>(dl,dl)
 |r+1=>WZ np s D r (bS np s D dl r)
structure Rows(X:Fix)(V:Vw)(np s n:Nat)(D:jB)(dl:Int)(r:Nat)(w:World):Prop where
 put:∀r',r'<r->∀j,j<5->w.cell? ⟨X.Tb,n*25+bY np s r'*5+j,none⟩=(cG np s D r' (bS np s D dl r'))[j]?
 rest:∀j,V.row j->(j<n*25\/n*25+np*5<=j)->w.cell? ⟨X.Tb,j,none⟩=some (cb c9 0)
def oW(h:0<np){r:Nat}:bY np s r<np:=aP _ h
def PZ{r a:Nat}(h:a<r)(k:r<np):bY np s a≠bY np s r:=by
 unfold bY;intro e;have l:=aS (s+r) np;have i:=aS (s+a) np;rw[e]at i;have b:np*((s+r) / np)-np*((s+a) / np)=r-a:=by omega
 rw[<-aT]at b;have c:0<r-a:=by omega
 have j:r-a<np:=by omega
 rw[<-b]at c j;have:(s+r) / np-(s+a) / np=0:=by
  by_cases f:(s+r) / np-(s+a) / np=0
  ·exact f
  ·have:=a5 np (a6 f);omega
 rw[this]at c;omega
def Rows.tb{r:Nat}(h:Rows X V np s n D dl r w)(e:w'.heap[X.Tb]?=w.heap[X.Tb]?):Rows X V np s n D dl r w':=by
 have c:∀o,w'.cell? ⟨X.Tb,o,none⟩=w.cell? ⟨X.Tb,o,none⟩:=λo=>by simp only[bq,e]
 exact⟨λa b j f=>(c _).trans (h.put a b j f),λj i k=>(c _).trans (h.rest j i k)⟩
def Rows.row(k:zl X V D np s n dl gn bc bg bt w0){r:Nat}(l:r<=np)(h:Rows X V np s n D dl r w)(a:sK X V w w'):Rows X V np s n D dl r w':=⟨λb e j f=>by
 rw[a _ (k.row _ (by omega) (by
  have:=oW (s:=s) (r:=b) (show 0<np by omega);have:=k.MC
  omega))]
 exact h.put b e j f,λj c i=>(a j c).trans (h.rest j c i)⟩
def Rows.next{r:Nat}(i:r<np)(h:Rows X V np s n D dl r w)(k:∀j,j<5->w'.cell? ⟨X.Tb,n*25+bY np s r*5+j,none⟩=(cG np s D r (bS np s D dl r))[j]?)
 (b:∀j,(j<n*25+bY np s r*5\/n*25+bY np s r*5+5<=j)->w'.cell? ⟨X.Tb,j,none⟩=w.cell? ⟨X.Tb,j,none⟩):Rows X V np s n D dl (r+1) w':=⟨λa l j c=>by
 by_cases e:a=r
 ·subst e;exact k j c
 ·have f:a<r:=by omega
  rw[b _ (by have:=PZ (s:=s) f i;omega)];exact h.put a f j c,λj k1 k2=>by
 rw[b j (by have:=oW (s:=s) (r:=r) (show 0<np by omega);omega)]
 exact h.rest j k1 k2⟩
end
open Go.cD (Th bP)
section
variable {X:Fix}{V:Vw}{D:jB}{np s n:Nat}{dl:Int}{gn:ByteArray}{bc bg bt:Nat}{w0 w w':World}{M:Own}{ρ:Ren}{Fin:World->Prop}{g g' gL:aa}{wL:World}{b0 b1 lb b5 r m:Nat}{st st':ad}
def JE{Stop:Stp}(k:zl X V D np s n dl gn bc bg bt w0)(u:FE np s)(x:r<np){f Z}{c:Int×Int}(h:Iv X V np D n bc bg bt b0 b1 w0 ρ M lb st (gR np s (aW np D) r f) (wR np s (aW np D) (hU np D w0) n dl gn r c Z) g' w)
 (K:∀y i f Z l w2,Iv X V np D n bc bg bt b0 b1 w0 y i lb st (gY np s (aW np D) r c f) (wY np s (aW np D) (hU np D w0) n dl gn r (l9 np s (aW np D) r c) Z) l w2->sK X V w w2->ay X V false Stop i 0 l w2):ay X V false Stop M 0 g' w:=by
 have b:=u.round r x;obtain⟨d,z⟩:=b.c3 (aW np D) f;obtain⟨o,A,d⟩:=jC d;obtain⟨B,C⟩:=h.lk.g.op A;have e:ρ (Jz np D D.pb) D.pb:=h.le _ _ (pW (by simp[dR]));have e1:=C 34;rw[z]at e1;have e1:=PG h.lk.inj e1 e;have p:V.st D.pb:=(k.blk D.pb (by simp[dR])).1;have a:bY np s r<np:=oW (by omega);have E:((bo 12).map λj=>(pA D (bY np s r)).getD j undef).toArray=pA D (bY np s r):=rfl;refine .qM (v:=ch (pA D (bY np s r))) h.lk.clear h.kn.live B d e1 (λF q=>?_) (JB k p) ?_
 ·have zz:=h.kn.rl q;have hc:∀j,j<12->F.cell? ((⟨D.pb,D.po+12*bY np s r,none⟩:Addr).add j)=some ((pA D (bY np s r)).getD j undef):=λj H=>by
   rw[dY,zz.cell p,k.G8 _ a j H]
   grind
  have:=sH (P:=X.P) (t:=85) (by rw[k.hP];exact ajm) rfl (by rw[k.hP];exact ajl) hc;rw[E]at this;exact⟨this,pY (by have:=hc 0 (by omega);rwa[dY]at this)⟩
 have I:=h.fin (v:=ch (pA (aW np D) (bY np s r))) (v':=ch (pA D (bY np s r))) (.agg (cU.mono h.le (Ze (aI a k.MC))));refine I.seg k (q:=Yd np s (aW np D) (gR np s (aW np D) r f) (wR np s (aW np D) (hU np D w0) n dl gn r c Z) r) (by delta Yd;rfl) (b.e4 _ _ _ _ _ _ _ _) λJ L N w3 O Q=>?_;obtain⟨R,S,T⟩:=b.y' (aW np D) (hU np D w0) n dl gn c f Z
 grind
def GC.base{up:List Frame}(h:GC bv bx bx F3 ZZ default up ρ g g')(hc:g.callers=[default]):g'=G g'.frame up:=by
 obtain⟨i,⟨l,j,k,a,e,o⟩,p,b,q,c,t,d⟩:=h;obtain⟨f,cs',st',Bl,Bm⟩:=g';simp only at b c d a;subst b c d a;have hl:l=[]:=by
  simp_all
 subst hl;cases e;rfl
def UE(W bc bg a bt:Nat)(c:Value)(n:Int)(b v:Value):(qJ W bc bg a bt c n b undef undef (λ_=>undef)).setIfInBounds 9 v=qJ W bc bg a bt c n b v undef (λ_=>undef):=by
 unfold qJ;rw[Jv];refine Ap λi hi=>?_;unfold px;by_cases e:i=9
 ·subst e;rfl
 ·rw[if_neg e];unfold Ul
  grind
def yields{Stop:Stp}(k:zl X V D np s n dl gn bc bg bt w0)(p:FE np s)(t:r<np){f}{c:Int×Int}{a:World}(h:Iv X V np D n bc bg bt b0 b1 w0 ρ M lb st (gY np s (aW np D) r c f) a g' w)
 (K:∀w2,Iv X V np D n bc bg bt b0 b1 w0 ρ M lb st (gY np s (aW np D) r c f) a g' w2->sK X V w w2->g'=G g'.frame [xN X np D n bc bg bt b0 b1 lb,ez PP]->
   ay X V false Stop M 0 (rd0 X.Wg bc bg X.Mu bt (sJ np D) n (vO b0 b1) (ch (cG np s D r c)) lb (g'.frame::[xN X np D n bc bg bt b0 b1 lb,ez PP]) (λ_=>undef)) w2):ay X V false Stop M 0 g' w:=by
 have u:=p.round r t;obtain⟨e,v,y⟩:=u.c4 (aW np D) c f;obtain⟨o,z,e⟩:=jC e;obtain⟨A,i⟩:=h.lk.g.op z;have e1:=i 44;rw[v]at e1;have e1:=PI h.lk.inj Xa e1 h.gd.r0;have d:=i 45;rw[y]at d;obtain⟨j,d,B⟩:=Y5 d;have C:j=cG np s D r c:=by
  apply Array.toList_inj.1;have:cU F3 ρ ([((bY np s r:Nat):Int),c.1,c.2,(l9 np s D r c).1,(l9 np s D r c).2].map (cb c9)) j.toList:=B;rw[Uw this];rfl
 subst C;have hg:=GC.base h.lk.g rfl;refine .UD (b:=lb) h.lk.clear h.lk.g.st' h.kn.live h.gd.ml (bn h.gd.hl) (g':=rd0 X.Wg bc bg X.Mu bt (sJ np D) n (vO b0 b1) (ch (cG np s D r c)) lb (g'.frame::[xN X np D n bc bg bt b0 b1 lb,ez PP]) (λ_=>undef)) (λl q=>?_) rfl (λl q=>K l (h.rl q) q.row hg);have:=G3 (P:=X.P) (mn:=V.g==0) A e e1 (h.gd.rl q).hl rfl;obtain⟨es,E,F⟩:=this;refine⟨es,?_,F⟩;rw[E];have H:g'.callers=[xN X np D n bc bg bt b0 b1 lb,ez PP]:=congrArg Goroutine.callers hg;have I:((#[9]:Array Tmp).zip ((#[dd 45]:Array ae).map g'.frame.eval)).foldl (λtmps(x:Tmp×Value)=>tmps.setIfInBounds x.1 x.2) (qJ X.Wg bc bg X.Mu bt (sJ np D) n (vO b0 b1) undef undef (λ_=>undef))=qJ X.Wg bc bg X.Mu bt (sJ np D) n (vO b0 b1) (ch (cG np s D r c)) undef (λ_=>undef):=by
  have J:(#[9]:Array Tmp).zip ((#[dd 45]:Array ae).map g'.frame.eval)=#[(9,g'.frame.eval (dd 45))]:=by simp
  rw[J,d];simp only[List.size_toArray,List.length_cons,List.length_nil,List.foldl_toArray',List.foldl_cons,List.foldl_nil];exact UE _ _ _ _ _ _ _ _ _
 rw[H];unfold rd0;rw[<-I];rfl
end
def rH{cur vs:Array Value}(h:cur.size=vs.size):putRow cur 0 vs=vs:=by
 unfold putRow
 grind
section
variable {X:Fix}{V:Vw}{D:jB}{np s n:Nat}{dl:Int}{gn:ByteArray}{bc bg bt:Nat}{w0 w w':World}{M:Own}{ρ:Ren}{Fin:World->Prop}{g gy gL:aa}{wL:World}{b0 b1 lb b5 r m:Nat}{st:ad}
structure Hd(X:Fix)(V:Vw)(np s:Nat)(D:jB)(n:Nat)(dl:Int)(bc bg bt b0 b1:Nat)(w0:World)(ρ:Ren)(M:Own)(lb b5 r rows:Nat)(st:ad)(gL:aa)(wL:World)(gy:aa)(w:World):Prop where
 iv:Iv X V np D n bc bg bt b0 b1 w0 ρ M lb st gL wL gy w
 m5:M b5
 un:∀a,¬ρ a b5
 h5:w.heap[b5]?=some (bd (cG np s D r (bS np s D dl r)) 53)
 rows:Rows X V np s n D dl rows w
def Hd.rl(k:zl X V D np s n dl gn bc bg bt w0){rows:Nat}(a:rows<=np)(h:Hd X V np s D n dl bc bg bt b0 b1 w0 ρ M lb b5 r rows st gL wL gy w)(q:Rl X V M w w'):Hd X V np s D n dl bc bg bt b0 b1 w0 ρ M lb b5 r rows st gL wL gy w':=
 ⟨h.iv.rl q,h.m5,h.un,(q.own _ h.m5).trans h.h5,h.rows.row k a q.row⟩
def Hd.PY{rows:Nat}{st':ad}(h:Hd X V np s D n dl bc bg bt b0 b1 w0 ρ M lb b5 r rows st gL wL gy w):Hd X V np s D n dl bc bg bt b0 b1 w0 ρ M lb b5 r rows st' gL wL gy (w.putObj lb (bj (Ti X np D n bc bg bt b0 b1 lb st'))):=by
 have a:=h.iv.lk.clear.own lb h.iv.gd.ml;refine⟨h.iv.PY,h.m5,h.un,?_,h.rows.tb (bs (b9 a.2.2))⟩
 ·have b:b5≠lb:=λe=>h.un 0 (by rw[e];exact h.iv.gd.r0);rw[bs b];exact h.h5
def Hd.lk(k:zl X V D np s n dl gn bc bg bt w0){rows:Nat}(a:rows<=np)(hc:Clear X V M):Lk X V M (Hd X V np s D n dl bc bg bt b0 b1 w0 ρ M lb b5 r rows st gL wL gy):=
 ⟨k.hP,k.hg,hc,λ_ _ h q=>h.rl k a q,λ_ h=>h.iv.kn.live,k.n3⟩
def D9(c:Int×Int):∀v∈cG np s D r c,v.oneCell'=true:=by
 intro v hv;simp only[cG,List.mem_toArray,List.mem_cons,List.not_mem_nil,or_false]at hv
 rcases hv with rfl|rfl|rfl|rfl|rfl<;>rfl
def Hh(k:zl X V D np s n dl gn bc bg bt w0)(p:r<np)(hc:Clear X V M)(hg:gy=G gy.frame [xN X np D n bc bg bt b0 b1 lb,ez PP])
 (K:∀w2 c,Hd X V np s D n dl bc bg bt b0 b1 w0 ρ M lb b5 r (r+1) dk gL wL gy w2->ay X V false (eU X V Fin c (bP m)) M 0 (bT gy (cl true)) w2) (f:Nat->Value) :
 uA X V Fin M (Hd X V np s D n dl bc bg bt b0 b1 w0 ρ M lb b5 r r dp gL wL gy) (c0 X.Wg bc bg X.Mu bt (sJ np D) n (vO b0 b1) (ch (cG np s D r (bS np s D dl r))) lb b5 (gy.frame::[xN X np D n bc bg bt b0 b1 lb,ez PP]) f) (gy.frame::[xN X np D n bc bg bt b0 b1 lb,ez PP]) m:=by
 intro c w o;have t:bY np s r<np:=oW (by omega);have C:=k.MC;refine(q_4 ..).run k.hP k.hg ?_;rw[aj4];have R:R4 X V M (Hd X V np s D n dl bc bg bt b0 b1 w0 ρ M lb b5 r r dp gL wL gy) (Hd X V np s D n dl bc bg bt b0 b1 w0 ρ M lb b5 r (r+1) dp gL wL gy) bg bt b5 n (bY np s r) (cG np s D r (bS np s D dl r)):=by
  refine⟨k.hP,k.hg,hc,λ_ _ h q=>h.rl k (by omega) q,λ_ h=>h.iv.kn.live,k.shun,⟨k.bt.1,λw h=>(h.iv.kn.cell k.bt.1).trans k.bt.2⟩,⟨k.bg.1,λw h=>(h.iv.kn.cell k.bg.1).trans k.bg.2⟩,⟨o.m5,λw h=>⟨_,h.h5⟩⟩,⟨rfl,rfl,D9 _⟩,k.hn,by omega,k.sz,λj E=>k.row _ (by omega) (by omega),λw w' h hl H hb v y=>?_⟩;have l:∀{b},jm X b->w'.heap[b]?=w.heap[b]?:=λh=>hb _ h.2.2;refine⟨h.iv.same hl (by omega) (λa b x=>l (h.iv.lk.apart x)) (λb x=>l (k.apart b x)) (l (hc.own _ h.iv.gd.md)),h.m5,h.un,(l (hc.own _ h.m5)).trans h.h5,h.rows.next p v y⟩
 refine Ut R (base:=Ul X.Wg bc bg X.Mu bt (sJ np D) n (vO b0 b1) (ch (cG np s D r (bS np s D dl r))) (pt b5) (px 10 (cm #[]) f)) rfl rfl rfl o λF w2 hF z=>?_;have A:zj 20 F=qJ X.Wg bc bg X.Mu bt (sJ np D) n (vO b0 b1) (ch (cG np s D r (bS np s D dl r))) (pt b5) F:=Ap λi hi=>by
  rcases a7 i 10 with h|h
  ·rw[hF i (by omega)];obtain rfl|rfl|rfl|rfl|rfl|rfl|rfl|rfl|rfl|rfl:i=0\/i=1\/i=2\/i=3\/i=4\/i=5\/i=6\/i=7\/i=8\/i=9:=by omega
   all_goals rfl
  ·unfold Ul
   split<;>first|omega|rfl
 unfold Ur;rw[A];refine(q_5 ..).run k.hP k.hg ?_;rw[aj9];have u:=D7 (Fin:=Fin) (k:=c) (c0:=c1 X.Wg bc bg X.Mu bt (sJ np D) n (vO b0 b1) (ch (cG np s D r (bS np s D dl r))) lb b5 (gy.frame::[xN X np D n bc bg bt b0 b1 lb,ez PP]) F) (cs:=gy.frame::[xN X np D n bc bg bt b0 b1 lb,ez PP]) (Hd.lk (r:=r) k (show r+1<=np by omega) hc) m (λc w3 d=>?_) z
 ·rw[k.hP]at u;exact u
 refine(q_6 ..).run k.hP k.hg ?_;rw[aja];refine .rec (b:=lb) (o':=bj (Ti X np D n bc bg bt b0 b1 lb dk)) hc rfl d.iv.kn.live d.iv.gd.ml (bn d.iv.gd.hl) (g':=G (gy.frame.finish (cl true)) [xN X np D n bc bg bt b0 b1 lb,ez PP]) (λB q=>zH (d.iv.gd.rl q).hl) rfl λB q=>?_;have e:G (gy.frame.finish (cl true)) [xN X np D n bc bg bt b0 b1 lb,ez PP]=bT gy (cl true):=by rw[hg];rfl
 rw[e];exact K _ c (d.rl k (by omega) q).PY
def P3(k:zl X V D np s n dl gn bc bg bt w0)(H:r<np)(h:Iv X V np D n bc bg bt b0 b1 w0 ρ M lb dk gL wL gy w)(I:Rows X V np s n D dl r w)(hg:gy=G gy.frame [xN X np D n bc bg bt b0 b1 lb,ez PP])(i:Nat)
 (K:∀A w2 i,Iv X V np D n bc bg bt b0 b1 w0 ρ A lb dk gL wL gy w2->Rows X V np s n D dl (r+1) w2->ay X V false (eU X V Fin i (bP m)) A 0 (bT gy (cl true)) w2) :
 ay X V false (eU X V Fin i { pc:=.l0,r:=m }) M 0 (rd0 X.Wg bc bg X.Mu bt (sJ np D) n (vO b0 b1) (ch (cG np s D r (bS np s D dl r))) lb (gy.frame::[xN X np D n bc bg bt b0 b1 lb,ez PP]) (λ_=>undef)) w:=by
 refine(q_0 ..).run k.hP k.hg ?_;obtain⟨o,j,p⟩:=jC (aj0 X.Wg bc bg X.Mu bt (sJ np D) n (vO b0 b1) (ch (cG np s D r (bS np s D dl r))) lb (gy.frame::[xN X np D n bc bg bt b0 b1 lb,ez PP]) (λ_=>undef));obtain⟨J,hi,L⟩:=aeg;refine .new h.lk.clear (aK j).1 h.kn.live (o':=λ_=>bd lD 53) (G':=λb=>bT (q0 X.Wg bc bg X.Mu bt (sJ np D) n (vO b0 b1) (ch (cG np s D r (bS np s D dl r))) lb (gy.frame::[xN X np D n bc bg bt b0 b1 lb,ez PP]) (λ_=>undef)) (pt b)) (λc q=>?_) (λb=>(aK j).2.2 _) λc q=>?_
 ·have:=jY (P:=X.P) (mn:=V.g==0) (w:=c) j p (by rw[k.hP];exact hi) L;exact this
 have v:=h.rl q;obtain⟨y,B⟩:=v.alloc k (bd lD 53);have N:=I.row k (by omega) q.row;have C:(c.alloc (bd lD 53)).heap[c.heap.size]?=some (bd lD 53):=bu _ _;have O:Rows X V np s n D dl r (c.alloc (bd lD 53)):=by
  have Y:X.Tb<c.heap.size:=by
   obtain⟨_,_,E,z,_⟩:=v.kn.live;exact bn z
  refine N.tb ?_;show(c.heap.push _)[X.Tb]?=_
  grind
 refine(q_1 ..).run k.hP k.hg ?_;obtain⟨p,Q,hy⟩:=aj1 X.Wg bc bg X.Mu bt (sJ np D) n (vO b0 b1) (ch (cG np s D r (bS np s D dl r))) lb c.heap.size (gy.frame::[xN X np D n bc bg bt b0 b1 lb,ez PP]) (λ_=>undef);obtain⟨o,j,p⟩:=jC p;refine .DS (b:=c.heap.size) (cur:=lD) (ty:=53) y.lk.clear y.kn.live (df rfl) j p Q hy C (by rw[k.hP,Un];rfl) (by show 0+5<=5;omega) (D9 _) λw2 q2=>?_;rw[show(Value.agg (cG np s D r (bS np s D dl r))).cells=cG np s D r (bS np s D dl r) from rfl,rH (show lD.size=(cG np s D r (bS np s D dl r)).size from rfl)];have t:=y.rl q2;have R:w2.heap[c.heap.size]?=some (bd lD 53):=(q2.own _ (df rfl)).trans C;have u:jm X c.heap.size:=t.lk.clear.own _ (df rfl);have f:∀b,b≠c.heap.size->(w2.setRow c.heap.size (cG np s D r (bS np s D dl r))).heap[b]?=w2.heap[b]?:=λb hb=>ag _ _ _ _ hb;have S:Live X (w2.setRow c.heap.size (cG np s D r (bS np s D dl r))):=by
  obtain⟨⟨_,_,v1⟩,⟨_,_,F⟩,E,z,T⟩:=t.kn.live;exact⟨⟨_,_,by unfold bX at v1 ⊢;rw[f _ (b9 u.1)];exact v1⟩,⟨_,_,by unfold b6 at F ⊢;rw[f _ (b9 u.2.1)];exact F⟩,E,by rw[f _ (b9 u.2.2)];exact z,T⟩
 have U:lb-1<c.heap.size:=bn v.gd.hd;have d:Hd X V np s D n dl bc bg bt b0 b1 w0 ρ (λb=>M b\/b=c.heap.size) lb c.heap.size r r dk gL wL gy (w2.setRow c.heap.size (cG np s D r (bS np s D dl r))):=by
  refine⟨t.same S (by simp) (λa b x=>f b λe=>B a (e▸x)) (λb hb=>f b λe=>(t.lk.sG b hb).2 (df e)) (f _ (by omega)),df rfl,B,ai _ _ _ _ _ _ R,(O.row k (by omega) q2.row).tb (f X.Tb (b9 u.2.2))⟩
 refine(q_2 ..).run k.hP k.hg ?_;rw[aj2];refine .rec (b:=lb) (o':=bj (Ti X np D n bc bg bt b0 b1 lb dp)) d.iv.lk.clear rfl d.iv.kn.live d.iv.gd.ml (bn d.iv.gd.hl) (g':=G ⟨70,qJ X.Wg bc bg X.Mu bt (sJ np D) n (vO b0 b1) (ch (cG np s D r (bS np s D dl r))) (pt c.heap.size) (λ_=>undef),[.code lZ],[],.run,da,some lb⟩ (gy.frame::[xN X np D n bc bg bt b0 b1 lb,ez PP])) (λw3 q3=>G5 (d.iv.gd.rl q3).hl rfl rfl) rfl λw3 q3=>?_;have W:=(d.rl k (by omega) q3).PY (st':=dp);refine(q_3 ..).run k.hP k.hg ?_;rw[aj3];have l:=MH (Fin:=Fin) (k:=i) (Hd.lk (r:=r) k (show r<=np by omega) d.iv.lk.clear) m (Hh (m:=m) k H d.iv.lk.clear hg (λw2 i h=>K _ w2 i h.iv h.rows) (λ_=>undef)) W;rw[k.hP]at l;exact l
theorem P4(k:zl X V D np s n dl gn bc bg bt w0)(t:∀w,Rows X V np s n D dl np w->Fin w)(h:Iv X V np D n bc bg bt b0 b1 w0 ρ M lb dk gL wL g w)(u:Rows X V np s n D dl np w)(f:Y9 67 gL)(v:Nat) :
 ay X V false (eU X V Fin v (bP 1)) M 0 g w:=by
 refine ay.mono (Stop:=O0 X V Fin) ?_ λM d g w h=>by
  show(if(bP 1).pc=.out then O0 X V Fin M d g w else _);rw[if_pos (show(bP 1).pc=.out from rfl)];exact h
 obtain⟨x,rfl,e1,y,z,A,_⟩:=h.lk.back f.mode f.defers f.callers;obtain⟨fn,B,C⟩:=Zh;refine .leave0 h.lk.clear y z A (by rw[k.hP,e1,f.fn];exact B) C ?_;have E:=h.kn.live;have c:=h.gd.ml;have e:=h.gd.md;have O:=h.gd.pos;have hc:=h.lk.clear;refine .rec (b:=lb) (o':=bj (Ti X np D n bc bg bt b0 b1 lb dq)) hc rfl E c (bn h.gd.hl) (g':=G ⟨70,qJ X.Wg bc bg X.Mu bt (sJ np D) n (vO b0 b1) undef undef (λ_=>undef),kk,Pz X.Wg (lb-1),.run,db,none⟩ [ez PP]) (λo q=>BT (h.gd.rl q).hl rfl rfl) rfl λo q=>?_;have H:=hc.own lb c;have i:=(h.rl q).PY (st':=dq);have I:Rows X V np s n D dl np (o.putObj lb (bj (Ti X np D n bc bg bt b0 b1 lb dq))):=(u.row k (aL _) q.row).tb (bs (b9 H.2.2));refine(e_1 ..).run k.hP k.hg ?_;rw[ajb];refine .rec (b:=lb-1) (o':=bi none) hc rfl i.kn.live e (bn i.gd.hd) (g':=G ⟨70,qJ X.Wg bc bg X.Mu bt (sJ np D) n (vO b0 b1) undef undef (λ_=>undef),[],rG X.Wg,.returning,db,none⟩ [ez PP]) (λP q2=>step_take (i.gd.rl q2).hd) rfl λw2 q2=>?_;obtain⟨x1,x2⟩:=e_2 X.Wg bc bg X.Mu bt (sJ np D) n (vO b0 b1);refine .quiet (mn:=false) k.hg 1 (by rw[k.hP];exact x1) ?_;rw[k.hP,x2,ajc];have j:=hc.own _ e;have l:∀b,b≠lb-1->(w2.putObj (lb-1) (bi none)).heap[b]?=w2.heap[b]?:=λb hb=>bs hb;have J:=i.rl q2;refine MF (F:=λw=>Live X w/\Rows X V np s n D dl np w) ⟨k.hP,k.hg,hc,λw w' a q=>⟨q.live a.1,a.2.row k (aL _) q.row⟩,λw a=>a.1,k.n3⟩ (λw a=>t w a.2) _ [] ⟨?_,(I.row k (aL _) q2.row).tb (l X.Tb (b9 j.2.2))⟩
 obtain⟨⟨_,_,v1⟩,⟨_,_,p⟩,K,L,N⟩:=J.kn.live;exact⟨⟨_,_,by unfold bX at v1 ⊢;rw[l _ (b9 j.1)];exact v1⟩,⟨_,_,by unfold b6 at p ⊢;rw[l _ (b9 j.2.1)];exact p⟩,K,by rw[l _ (b9 j.2.2)];exact L,N⟩
def MN(k:zl X V D np s n dl gn bc bg bt w0)(b:FE np s)(P:∀w,Rows X V np s n D dl np w->Fin w):∀(m r:Nat),r+(m+1)=np->∀{ρ M f Z g w},Iv X V np D n bc bg bt b0 b1 w0 ρ M lb dk (gR np s (aW np D) r f) (wR np s (aW np D) (hU np D w0) n dl gn r (bS np s D dl r) Z) g w->Rows X V np s n D dl r w->
 ∀c,ay X V false (eU X V Fin c { pc:=.l0,r:=m+1 }) M 0 g w:=by
 intro m
 induction m with
 |zero=>
  intro r E ρ M f Z g w h j c;have a:r<np:=by omega
  refine JE k b a h λF H d i I w2 l o=>?_;refine yields k b a l λw3 p t hg=>?_;refine P3 k a p ((j.row k (by omega) o).row k (by omega) t) hg c λJ w4 c u x=>?_;have y:=b.round r a;have z:=u.fin (v:=cl true) (v':=cl true) (.bool true);refine z.seg k (q:=Nx (gY np s (aW np D) r (bS np s D dl r) d) (wY np s (aW np D) (hU np D w0) n dl gn r (l9 np s (aW np D) r (bS np s D dl r)) i)) (by delta Nx;rfl) (y.e5 _ _ _ _ _ _ _ _ _) λA K L w6 B C=>?_;have Q:=(b.last r (by omega)).back (aW np D) (hU np D w0) n dl gn (bS np s D dl r) (l9 np s (aW np D) r (bS np s D dl r)) d i;have R:=x.row k (by omega) C
  grind[P4]
 |succ m N=>
  intro r E ρ M f Z g w h j c;have a:r<np:=by omega
  refine JE k b a h λF H d i I w2 l o=>?_;refine yields k b a l λw3 p t hg=>?_;refine P3 k a p ((j.row k (by omega) o).row k (by omega) t) hg c λJ w4 c u x=>?_;have y:=b.round r a;have z:=u.fin (v:=cl true) (v':=cl true) (.bool true);refine z.seg k (q:=Nx (gY np s (aW np D) r (bS np s D dl r) d) (wY np s (aW np D) (hU np D w0) n dl gn r (l9 np s (aW np D) r (bS np s D dl r)) i)) (by delta Nx;rfl) (y.e5 _ _ _ _ _ _ _ _ _) λA K L w6 B C=>?_;obtain⟨S,T,O⟩:=(b.next r (by omega)).next' (aW np D) (hU np D w0) n dl gn (bS np s D dl r) d i;rw[O]at B;have e:bP (m+1+1)={ pc:=.l0,r:=m+1 }:=by
   unfold bP
   grind
  rw[e];exact N (r+1) (by omega) B (x.row k (by omega) C) c
end
def aei:(PP.info? 77).map (·.size)=some 6:=by kernel_rfl
def aej:PP.underlying 77=some (.struct (fieldsOf 77)):=by kernel_rfl
def ajA(W bc bg a bt:Nat)(c:Value)(n:Int):wu PP false DT 400 (bT (k1 W bc bg a bt c) (cb c9 n))=k2 W bc bg a bt c n:=by delta k2;rfl
section
variable {X:Fix}{V:Vw}{D:jB}{np s n:Nat}{dl:Int}{gn:ByteArray}{bc bg bt:Nat}{w0 w:World}{Fin:World->Prop}
def Hl(k:zl X V D np s n dl gn bc bg bt w0)(c:FE np s)(MC:1<=np)(C:∀w,Rows X V np s n D dl np w->Fin w)(a:Kn X V w0 w)(e:∀j,V.row j->(j<n*25\/n*25+np*5<=j)->w.cell? ⟨X.Tb,j,none⟩=some (cb c9 0))(A:Nat) :
 ay X V false (eU X V Fin A { pc:=.l0,r:=np }) bR 0 (uy X.Wg bc bg X.Mu bt) w:=by
 have hc:Clear X V bR:=k.clear λb hb=>hb.elim;refine(k_E X.Wg bc bg X.Mu bt).run k.hP k.hg ?_;obtain⟨o,x,g,i,l⟩:=kO (aiW X.Wg bc bg X.Mu bt);have hcell:∀w,Kn X V w0 w->∀j,j<6->w.cell? ((⟨bc,0,none⟩:Addr).add j)=some ((cA np D).getD j undef):=λw a j hj=>by
  rw[dY,Nat.zero_add,a.cell k.bc.1,cell_of_row _ _ _ _ _ _ k.bc.2];obtain rfl|rfl|rfl|rfl|rfl|rfl:j=0\/j=1\/j=2\/j=3\/j=4\/j=5:=by omega
  all_goals rfl
 have E:((bo 6).map λj=>(cA np D).getD j undef).toArray=cA np D:=rfl;refine .qM (v:=sJ np D) hc a.live g i l (λB q=>?_) (JB k k.bc.1) ?_
 ·have h:=hcell B (a.rl q);have:=sH (P:=X.P) (t:=77) (by rw[k.hP];exact aej) rfl (by rw[k.hP];exact aei) h;rw[E]at this;exact⟨this,pY (by have:=h 0 (by omega);rwa[dY]at this)⟩
 refine(k_0 X.Wg bc bg X.Mu bt (sJ np D)).run k.hP k.hg ?_;obtain⟨o,x,g,i,l⟩:=kO (aiX X.Wg bc bg X.Mu bt (sJ np D));refine .qM (v:=cb c9 (n:Int)) hc a.live g i l (λB q=>?_) (JB k k.bg.1) ?_
 ·have h:=((a.rl q).cell k.bg.1).trans k.bg.2;exact⟨l8 (by rw[k.hP];exact ty3) rfl h,pY h⟩
 obtain⟨x1,x2⟩:=k_1 X.Wg bc bg X.Mu bt (sJ np D) n;refine .oO (S:=DT) k.hg 400 (by rw[k.hP];exact x1) ?_;rw[k.hP,x2,ajA,aiY];refine Zi k c a λaJ M1 b0 F w1 H zz I J p K L=>?_;refine Zj k zz H c I J K p λM N lb w2 u O Q R y=>?_;have z:Iv X V np D n bc bg bt b0 F w0 M N lb dk (gL1 np) (A0 np (aW np D) (hU np D w0) n).2 _ w2:=⟨u,O,Q,R⟩
 refine Zk k c z λT M3 f Z g3 w3 U W=>?_;have Y:Rows X V np s n D dl 0 w3:=⟨λr' gl=>absurd gl (Nat.not_lt_zero _),λj d u=>(W j d).trans ((y j d).trans ((L.row j d).trans (e j d u)))⟩
 obtain⟨m,rfl⟩:∃m,np=m+1:=⟨np-1,by omega⟩
 exact MN k c C m 0 (by omega) U Y A
end
end Go.Proofs
namespace Go.Proofs
open Go.Ph Go.Conc
set_option maxRecDepth 100000
def eL(g:aa):Bool:=match g.frame.mode with
 |.run=>match g.frame.todo with
  |[.code _]=>g.frame.fn==69||g.frame.fn==74
  |.inRegion _ (_::_)::_=>match bF g with
   |some o=>match o.op with
    |c6 .. | c7 .. | c8 .. | .box .. | .go ..=>true
    |_=>false
   |none=>false
  |_=>false
 |.returning=>true
 |_=>false
noncomputable abbrev T6(g:aa):aa:=wu PP true eL 400 g
structure jq(g g':aa):Prop where
 q:ff PP true eL 400 g
 d:∀d,xD PP true eL 400 d g=d
 e:T6 g=g'
def dm{g g':aa}(e:T6 g=g')(a:ff PP true eL 400 g:=by exact⟨λ_=>by kernel_rfl,by kernel_rfl⟩)(hd:∀d,xD PP true eL 400 d g=d:=by intro _;kernel_rfl):jq g g':=⟨a,hd,e⟩
def jq.run{X:Fix}{V:Vw}{q:Bool}{Stop:Stp}{M:Own}{d:Nat}{g g':aa}{w:World}(h:jq g g')(a:X.P=PP)(hg:(V.g==0)=true)(b:ay X V q Stop M d g' w):ay X V q Stop M d g w:=by
 refine .oO (S:=eL) hg 400 (by rw[a];exact h.q) ?_;have e:wu PP true eL 400 g=g':=h.e;rw[a,h.d,e];exact b
noncomputable def dZ:Array Value:=Array.replicate 75 (cb c9 0)
structure CA where
 arr:Array Value
 f:Nat->Value
 rest:List Value
noncomputable def Ho:Code:=(Tryz.f43.body).getD .skip
noncomputable def fE(ca:CA):Frame:=⟨43,⟨ch ca.arr::ca.f 1::ca.f 2::ca.f 3::ca.f 4::ca.f 5::ca.f 6::ca.f 7::ca.f 8::ca.f 9::ca.f 10::ca.f 11::ca.f 12::ca.f 13::ca.f 14::ca.f 15::ca.f 16::ca.f 17::ca.f 18::ca.f 19::ca.f 20::ca.rest⟩,[.code Ho],[],.run,da,none⟩
section
variable (ca:CA)(bc Tb bt Mu Wg:Nat)(sa:Option Addr)(cg:Nat)(cs:List Frame)
noncomputable def m0:aa:=T6 (G (fE ca) cs)
def m_0:jq (G (fE ca) cs) (m0 ca cs):=dm (by delta m0;rfl)
def ajX:(bF (m0 ca cs)).map (·.op)=some (.box 77 (dd 0))/\(m0 ca cs).frame.eval (dd 0)=ch ca.arr:=⟨by kernel_rfl,by kernel_rfl⟩
noncomputable def m1:aa:=T6 (fin (m0 ca cs) (pt bc))
def m_1:jq (fin (m0 ca cs) (pt bc)) (m1 ca bc cs):=dm (by delta m1;rfl)
def ajY:(bF (m1 ca bc cs)).map (·.op)=some (.box 131 (dd 7))/\(m1 ca bc cs).frame.eval (dd 7)=ch dZ:=⟨by kernel_rfl,by kernel_rfl⟩
noncomputable def m2:aa:=T6 (fin (m1 ca bc cs) (pt Tb))
def m_2:jq (fin (m1 ca bc cs) (pt Tb)) (m2 ca bc Tb cs):=dm (by delta m2;rfl)
def ajZ:(bF (m2 ca bc Tb cs)).map (·.op)=some (c8 95):=by kernel_rfl
noncomputable def m3:aa:=T6 (fin (m2 ca bc Tb cs) (pt bt))
def m_3:jq (fin (m2 ca bc Tb cs) (pt bt)) (m3 ca bc Tb bt cs):=dm (by delta m3;rfl)
def ak0:(bF (m3 ca bc Tb bt cs)).map (·.op)=some (c7 95 (dd 3) (dd 8))/\(m3 ca bc Tb bt cs).frame.eval (dd 3)=pt bt/\(m3 ca bc Tb bt cs).frame.eval (dd 8)=pt Tb:=⟨by kernel_rfl,by kernel_rfl,by kernel_rfl⟩
noncomputable def m4:aa:=T6 (fin (m3 ca bc Tb bt cs) undef)
def m_4:jq (fin (m3 ca bc Tb bt cs) undef) (m4 ca bc Tb bt cs):=dm (by delta m4;rfl)
def ak1:(bF (m4 ca bc Tb bt cs)).map (·.op)=some (c8 138):=by kernel_rfl
noncomputable def m5:aa:=T6 (fin (m4 ca bc Tb bt cs) (pt Mu))
def m_5:jq (fin (m4 ca bc Tb bt cs) (pt Mu)) (m5 ca bc Tb bt Mu cs):=dm (by delta m5;rfl)
def ak2:(bF (m5 ca bc Tb bt Mu cs)).map (·.op)=some (c8 145):=by kernel_rfl
noncomputable def m6:aa:=T6 (fin (m5 ca bc Tb bt Mu cs) (pt Wg))
def m_6:jq (fin (m5 ca bc Tb bt Mu cs) (pt Wg)) (m6 ca bc Tb bt Mu Wg cs):=dm (by delta m6;rfl)
def aes:(bF (m6 ca bc Tb bt Mu Wg cs)).map (·.op)=some (c6 25 (dd 10))/\(m6 ca bc Tb bt Mu Wg cs).frame.eval (dd 10)=ci (some ⟨bc,5,none⟩)/\(m6 ca bc Tb bt Mu Wg cs).status=dt:=⟨by kernel_rfl,by kernel_rfl,by kernel_rfl⟩
end
noncomputable def tdA:List Item:=(T6 (fin (m6 ⟨#[],λ_=>undef,[]⟩ 0 0 0 0 0 []) (ce none 2 0))).frame.todo
section
variable (ng i:Nat)(ca:CA)(bc Tb bt Mu Wg bg:Nat)(sa:Option Addr)(cg:Nat)(cs:List Frame)(f:Nat->Value)
noncomputable def a_:aa:=G ⟨43,⟨ch ca.arr :: ci (some ⟨bc,0,none⟩) :: ci none :: ci (some ⟨bt,0,none⟩) :: ci (some ⟨Mu,0,none⟩) :: ci (some ⟨Wg,0,none⟩)::f 6::f 7::f 8::f 9::f 10::f 11 :: cb c9 (ng:Int) :: cb c9 (i:Int)::f 14 :: cb c9 (i:Int)::f 16::f 17::f 18::f 19::f 20::ca.rest⟩,tdA,[],.run,da,none⟩ cs
noncomputable def b_:aa:=T6 (fin (a_ ng i ca bc bt Mu Wg cs f) (pt bg))
noncomputable def c_:aa:=T6 (fin (b_ ng i ca bc bt Mu Wg bg cs f) undef)
noncomputable def frA:Frame:=(c_ ng i ca bc bt Mu Wg bg cs f).callers.headD default
noncomputable def d_:aa:=T6 (G ((frA ng i ca bc bt Mu Wg bg cs f).finish (cm #[])) cs)
noncomputable def e_:aa:=T6 (fin (d_ ng i ca bc bt Mu Wg bg cs f) undef)
noncomputable def frW:Frame:=(e_ ng i ca bc bt Mu Wg bg cs f).callers.headD default
noncomputable def f_:aa:=T6 (G ((frW ng i ca bc bt Mu Wg bg cs f).finish (cm #[])) cs)
noncomputable def g_:aa:=T6 (fin (f_ ng i ca bc bt Mu Wg bg cs f) (pt Tb))
noncomputable def sW0:aa:=T6 (fin (m6 ca bc Tb bt Mu Wg cs) (ce sa 0 cg))
noncomputable def al7:Frame:=(sW0 ca bc Tb bt Mu Wg sa cg cs).callers.headD default
noncomputable def sL0:aa:=T6 (G ((al7 ca bc Tb bt Mu Wg sa cg cs).finish (cm #[])) cs)
noncomputable def sR0:aa:=T6 (fin (sL0 ca bc Tb bt Mu Wg sa cg cs) (pt Tb))
end
noncomputable def ajg(g:aa):Nat->Value:=λk=>g.frame.tmps[k]!
structure al8(ng i:Nat):Prop where
 oA:∀ca bc bt Mu Wg cs f,(bF (a_ ng i ca bc bt Mu Wg cs f)).map (·.op)=some (c8 3)
 hB:∀ca bc bt Mu Wg bg cs f,jq (fin (a_ ng i ca bc bt Mu Wg cs f) (pt bg)) (b_ ng i ca bc bt Mu Wg bg cs f)
 oB:∀ca bc bt Mu Wg bg cs f,(bF (b_ ng i ca bc bt Mu Wg bg cs f)).map (·.op)=some (c7 3 (dd 6) (dd 15))/\(b_ ng i ca bc bt Mu Wg bg cs f).frame.eval (dd 6)=pt bg/\(b_ ng i ca bc bt Mu Wg bg cs f).frame.eval (dd 15)=cb c9 (i:Int)
 hC:∀ca bc bt Mu Wg bg cs f,jq (fin (b_ ng i ca bc bt Mu Wg bg cs f) undef) (aE Wg (frA ng i ca bc bt Mu Wg bg cs f) cs)
 hD:∀ca bc bt Mu Wg bg cs f,jq (G ((frA ng i ca bc bt Mu Wg bg cs f).finish (cm #[])) cs) (d_ ng i ca bc bt Mu Wg bg cs f)
 goD:∀ca bc bt Mu Wg bg cs f w,stepG PP true (d_ ng i ca bc bt Mu Wg bg cs f) w=.spawn (fin (d_ ng i ca bc bt Mu Wg bg cs f) undef) (uy Wg bc bg Mu bt) w #[]
 rD:∀ca bc bt Mu Wg bg cs f,(d_ ng i ca bc bt Mu Wg bg cs f).status=dt/\(fin (d_ ng i ca bc bt Mu Wg bg cs f) undef).status=dt
structure anK(ng i:Nat):Prop where
 hE:∀ca bc bt Mu Wg bg cs f,jq (fin (d_ ng i ca bc bt Mu Wg bg cs f) undef) (a_ ng (i+1) ca bc bt Mu Wg cs (ajg (T6 (fin (d_ ng i ca bc bt Mu Wg bg cs f) undef))))
structure al9(ng:Nat):Prop where
 h:∀ca bc Tb bt Mu Wg sa cg cs,jq (fin (m6 ca bc Tb bt Mu Wg cs) (ce sa ng cg)) (a_ ng 0 ca bc bt Mu Wg cs (ajg (T6 (fin (m6 ca bc Tb bt Mu Wg cs) (ce sa ng cg)))))
structure ala(g:aa)(cs:List Frame)(Tb:Nat):Prop where
 self:g=G g.frame cs
 mode:g.frame.mode=.returning
 kind:g.frame.kind=da
 defers:g.frame.defers=[]
 fn:g.frame.fn=43
 res:g.frame.tmps.getD 2 undef=pt Tb
structure aqC(ng i:Nat):Prop where
 hW:∀ca bc bt Mu Wg bg cs f,jq (fin (d_ ng i ca bc bt Mu Wg bg cs f) undef) (wE Wg (frW ng i ca bc bt Mu Wg bg cs f) cs)
 hL:∀ca bc bt Mu Wg bg cs f,jq (G ((frW ng i ca bc bt Mu Wg bg cs f).finish (cm #[])) cs) (f_ ng i ca bc bt Mu Wg bg cs f)
 oL:∀ca bc bt Mu Wg bg cs f,(bF (f_ ng i ca bc bt Mu Wg bg cs f)).map (·.op)=some (c6 95 (dd 3))/\(f_ ng i ca bc bt Mu Wg bg cs f).frame.eval (dd 3)=pt bt
 hR:∀ca bc Tb bt Mu Wg bg cs f,jq (fin (f_ ng i ca bc bt Mu Wg bg cs f) (pt Tb)) (g_ ng i ca bc Tb bt Mu Wg bg cs f)
 eR:∀ca bc Tb bt Mu Wg bg cs f,ala (g_ ng i ca bc Tb bt Mu Wg bg cs f) cs Tb
structure anL:Prop where
 hW:∀ca bc Tb bt Mu Wg sa cg cs,jq (fin (m6 ca bc Tb bt Mu Wg cs) (ce sa 0 cg)) (wE Wg (al7 ca bc Tb bt Mu Wg sa cg cs) cs)
 hL:∀ca bc Tb bt Mu Wg sa cg cs,jq (G ((al7 ca bc Tb bt Mu Wg sa cg cs).finish (cm #[])) cs) (sL0 ca bc Tb bt Mu Wg sa cg cs)
 oL:∀ca bc Tb bt Mu Wg sa cg cs,(bF (sL0 ca bc Tb bt Mu Wg sa cg cs)).map (·.op)=some (c6 95 (dd 3))/\(sL0 ca bc Tb bt Mu Wg sa cg cs).frame.eval (dd 3)=pt bt
 hR:∀ca bc Tb bt Mu Wg sa cg cs,jq (fin (sL0 ca bc Tb bt Mu Wg sa cg cs) (pt Tb)) (sR0 ca bc Tb bt Mu Wg sa cg cs)
 eR:∀ca bc Tb bt Mu Wg sa cg cs,ala (sR0 ca bc Tb bt Mu Wg sa cg cs) cs Tb
def ahJ(ng i:Nat)(h:i<ng)(a:ng<=3):al8 ng i:=by
 match ng,i,h,a with
 |1,0,_,_|2,0,_,_|2,1,_,_|3,0,_,_|3,1,_,_|3,2,_,_=>
  exact⟨λca bc bt Mu Wg cs f=>by kernel_rfl,λca bc bt Mu Wg bg cs f=>dm (by delta b_;rfl),λca bc bt Mu Wg bg cs f=>⟨by kernel_rfl,by kernel_rfl,by kernel_rfl⟩,λca bc bt Mu Wg bg cs f=>dm (by kernel_rfl),λca bc bt Mu Wg bg cs f=>dm (by delta d_;rfl),λca bc bt Mu Wg bg cs f w=>by kernel_rfl,λca bc bt Mu Wg bg cs f=>⟨by kernel_rfl,by kernel_rfl⟩⟩
def alb(ng i:Nat)(h:i+1<ng)(a:ng<=3):anK ng i:=by
 match ng,i,h,a with
 |2,0,_,_|3,0,_,_|3,1,_,_=>exact⟨λca bc bt Mu Wg bg cs f=>dm (by kernel_rfl)⟩
def ahK(ng:Nat)(h:0<ng)(a:ng<=3):al9 ng:=by
 match ng,h,a with
 |1,_,_|2,_,_|3,_,_=>exact⟨λca bc Tb bt Mu Wg sa cg cs=>dm (by kernel_rfl)⟩
def anM(ng:Nat)(a:ng<=2):aqC (ng+1) ng:=by
 match ng,a with
 |0,_|1,_|2,_=>
  exact⟨λca bc bt Mu Wg bg cs f=>dm (by kernel_rfl),λca bc bt Mu Wg bg cs f=>dm (by delta f_;rfl),λca bc bt Mu Wg bg cs f=>⟨by kernel_rfl,by kernel_rfl⟩,λca bc Tb bt Mu Wg bg cs f=>dm (by delta g_;rfl),λca bc Tb bt Mu Wg bg cs f=>⟨by kernel_rfl,by kernel_rfl,by kernel_rfl,by kernel_rfl,by kernel_rfl,by kernel_rfl⟩⟩
def anN:anL:=
 ⟨λca bc Tb bt Mu Wg sa cg cs=>dm (by kernel_rfl),λca bc Tb bt Mu Wg sa cg cs=>dm (by delta sL0;rfl),λca bc Tb bt Mu Wg sa cg cs=>⟨by kernel_rfl,by kernel_rfl⟩,λca bc Tb bt Mu Wg sa cg cs=>dm (by delta sR0;rfl),λca bc Tb bt Mu Wg sa cg cs=>⟨by kernel_rfl,by kernel_rfl,by kernel_rfl,by kernel_rfl,by kernel_rfl,by kernel_rfl⟩⟩
open Go.ConcN Go.bJ
open Go.cD (Th bP)
def akl:∃i,PP.info? 3=some i/\i.zero=some (cb c9 0):=by
 have h:(PP.info? 3).map (·.zero)=some (some (cb c9 0)):=by kernel_rfl
 simp_all
def sz3:(PP.info? 3).map (·.size)=some 1:=by kernel_rfl
structure Cf(np ng:Nat)(D:jB)(S:Nat->Nat)(dl:Nat->Int)(gn:Nat->ByteArray)(w0:World):Prop where
 blk:∀b,b∈dR np D->b<w0.heap.size/\∃o,w0.heap[b]?=some o
 G8:∀i,i<np->∀j,j<12->w0.cell? ⟨D.pb,D.po+12*i+j,none⟩=(pA D i)[j]?
 PM:∀k,k<ng->∀j,j<3->w0.cell? ⟨D.gb,D.go+3*k+j,none⟩=(gA (S k) (dl k) (gn k))[j]?
 Zb:D.ng=ng
 hs:∀k,k<ng->S k<np
 MC:1<=np/\np<=5
 hn:ng<=3
section
variable {X:Fix}{V:Vw}{M:Own}{D:jB}{np ng:Nat}{S:Nat->Nat}{dl:Nat->Int}{gn:Nat->ByteArray}{bc bt:Nat}{w0 w w':World}
structure Mk(X:Fix)(np:Nat)(D:jB)(bc bt:Nat)(w0 w:World):Prop where
 live:Live X w
 blk:∀b,b∈dR np D->w.heap[b]?=w0.heap[b]?
 bc:w.heap[bc]?=some (bd (cA np D) 77)
 bt:w.heap[bt]?=some (bd #[ci (some ⟨X.Tb,0,none⟩)] 95)
structure Mv(X:Fix)(V:Vw)(M:Own)(np:Nat)(D:jB)(bc bt:Nat)(w:World):Prop where
 hg:V.g=0
 clear:Clear X V M
 shun:∀b,V.st b\/M b->∀a':Addr,a'.block=b->¬X.Shun (.cell a')
 low:∀b,V.st b\/M b->b<w.heap.size
 has:∀b,(b∈dR np D\/b=bc\/b=bt)->V.st b\/M b
def Mv.keep(h:Mv X V M np D bc bt w)(r:Rl X V M w w'){b:Nat}(hb:V.st b\/M b):w'.heap[b]?=w.heap[b]?:=hb.elim (r.st b) (r.own b)
def Mk.rl(h:Mk X np D bc bt w0 w)(v:Mv X V M np D bc bt w)(r:Rl X V M w w'):Mk X np D bc bt w0 w':=
 ⟨r.live h.live,λb hb=>(v.keep r (v.has b (de hb))).trans (h.blk b hb),(v.keep r (v.has bc (df (de rfl)))).trans h.bc,(v.keep r (v.has bt (df (df rfl)))).trans h.bt⟩
def Mv.rl(v:Mv X V M np D bc bt w)(r:Rl X V M w w'):Mv X V M np D bc bt w':={ v with low:=λb hb=>aI (v.low b hb) r.size }
variable {c:Nat}{row:Nat->Nat->Prop}{Post:Own->aa->World->Prop}
def JH(X:Fix)(np:Nat)(D:jB)(S:Nat->Nat)(dl:Nat->Int)(row:Nat->Nat->Prop)(k:Nat)(w:World):Prop:=k<3->Rows X ⟨0,λ_=>False,row k⟩ np (S k) k D (dl k) np w
def aev(h:X.P=PP)(l:X.size=75)(p:X.n<=3)(r:0<c)(a:Cf np ng D S dl gn w0){k:Nat}(e:k<ng)(q:∀j,k*25<=j->j<k*25+25->row k j){d:Nat}(v:Mv X V M np D bc bt w)(m:Mk X np D bc bt w0 w)(f:V.st d\/M d)(hg:w.heap[d]?=some (bd #[cb c9 (k:Int)] 3)) :
 zl X (rj c row k V M) D np (S k) k (dl k) (gn k) bc d bt w:=by
 have cell:∀{b:Nat}{o:Nat},b∈dR np D->w.cell? ⟨b,o,none⟩=w0.cell? ⟨b,o,none⟩:=λhb=>by simp only[bq,m.blk _ hb]
 refine⟨h,by show(c+k==0)=false;simp;omega,v.clear.ids,λb hb=>hb.elim (v.clear.st b) (v.clear.own b),λb hb=>v.shun b hb,p,l,λb hb=>v.low b hb,⟨v.has bc (df (de rfl)),m.bc⟩,⟨f,by simp only[bq,hg];rfl⟩,⟨v.has bt (df (df rfl)),by simp only[bq,m.bt];rfl⟩,
  λb hb=>⟨v.has b (de hb),by rw[m.blk b hb];exact(a.blk b hb).2⟩,λi hi j g=>(cell (by simp[dR])).trans (a.G8 i hi j g),λj g=>(cell (by simp[dR])).trans (a.PM k e j g),by have:=a.hn;omega,by rw[a.Zb];exact e,a.hs k e,a.MC.2,q⟩
def Aw(f:X.P=PP)(fW:X.size=75)(U:X.n<=3)(Xe:0<c)(W:Cf np ng D S dl gn w0)(hX:X.n=ng){k r:Nat}(hk:k+(r+1)=ng)(sg:FE np (S k))(BU:∀j,k*25<=j->j<k*25+25->row k j)
 {gA:aa} {u p:Nat->aa} {fA:Nat->Frame} {cs:List Frame} (oA:(bF gA).map (·.op)=some (c8 3)) (hB:∀d,jq (bT gA (pt d)) (u d)) (oB:∀d,(bF (u d)).map (·.op)=some (c7 3 (dd 6) (dd 15))/\(u d).frame.eval (dd 6)=pt d/\(u d).frame.eval (dd 15)=cb c9 (k:Int))
 (hC:∀d,jq (bT (u d) undef) (aE X.Wg (fA d) cs)) (hD:∀d,jq (G ((fA d).finish (cm #[])) cs) (p d)) (C:∀d w,stepG PP true (p d) w=.spawn (bT (p d) undef) (uy X.Wg bc d X.Mu bt) w #[]) (Y:∀d,(p d).status=dt/\(bT (p d) undef).status=dt)
 (v:Mv X V M np D bc bt w) (m:Mk X np D bc bt w0 w) (qU:∀b,w0.heap.size<=b->∀a':Addr,a'.block=b->¬X.Shun (.cell a')) (FA:w0.heap.size<=w.heap.size)
 (K:∀d w1,Mv X (V.more λb=>M b\/b=d) bR np D bc bt w1->Mk X np D bc bt w0 w1->w0.heap.size<=w1.heap.size->ay X (V.more λb=>M b\/b=d) false (Ta X c np row (JH X np D S dl row) Post r (V.more λb=>M b\/b=d)) bR 0 (bT (p d) undef) w1) :
 ay X V false (Ta X c np row (JH X np D S dl row) Post (r+1) V) M 0 gA w:=by
 have x:(V.g==0)=true:=by rw[v.hg];rfl
 obtain⟨o,y,z⟩:=jC oA;obtain⟨i3,hi,hz⟩:=akl;refine .new v.clear (aK y).1 m.live (o':=λ_=>bd #[cb c9 0] 3) (G':=λb=>bT gA (pt b)) (λa q=>?_) (λb=>(aK y).2.2 _) λa q=>?_
 ·have:=jY (P:=X.P) (mn:=V.g==0) (w:=a) y z (by rw[f];exact hi) hz;exact this
 have m1:=m.rl v q;have v1:=v.rl q;obtain⟨⟨_,_,s⟩,⟨_,_,t⟩,E,H,I⟩:=m1.live;have lM:=bn s;have lW:=bn t;have lT:=bn H;have e:∀(o:Obj)(b:Nat),b<a.heap.size->(a.alloc o).heap[b]?=a.heap[b]?:=λo b hb=>by
  show(a.heap.push _)[b]?=_
  grind
 have A:(a.alloc (bd #[cb c9 0] 3)).heap[a.heap.size]?=some (bd #[cb c9 0] 3):=bu _ _;have J:Mv X V (λb=>M b\/b=a.heap.size) np D bc bt (a.alloc (bd #[cb c9 0] 3)):=by
  refine⟨v1.hg,⟨v1.clear.ids,v1.clear.st,λb hb=>?_⟩,λb hb=>?_,λb hb=>?_,λb hb=>(v1.has b hb).imp id de⟩
  ·rcases hb with hb|rfl
   ·exact v1.clear.own b hb
   ·exact⟨by omega,by omega,by omega⟩
  ·rcases hb with hb|hb|rfl
   ·exact v1.shun b (de hb)
   ·exact v1.shun b (df hb)
   ·exact qU _ (aH FA q.size)
  ·simp only[br]
   rcases hb with hb|hb|rfl
   ·have:=v1.low b (de hb);omega
   ·have:=v1.low b (df hb);omega
   ·omega
 have m2:Mk X np D bc bt w0 (a.alloc (bd #[cb c9 0] 3)):=by
  refine⟨⟨⟨_,_,by unfold bX at s ⊢;rw[e _ _ lM];exact s⟩,⟨_,_,by unfold b6 at t ⊢;rw[e _ _ lW];exact t⟩,E,by rw[e _ _ lT];exact H,I⟩,λb hb=>?_,?_,?_⟩
  ·rw[e _ _ (v1.low b (v1.has b (de hb)))];exact m1.blk b hb
  ·rw[e _ _ (v1.low bc (v1.has bc (df (de rfl))))];exact m1.bc
  ·rw[e _ _ (v1.low bt (v1.has bt (df (df rfl))))];exact m1.bt
 refine(hB a.heap.size).run f x ?_;obtain⟨z,hx,hy⟩:=oB a.heap.size;obtain⟨o,y,z⟩:=jC z;have L:=v1.low
 refine .DS (b:=a.heap.size) (cur:=#[cb c9 0]) (ty:=3) J.clear m2.live (df rfl) y z hx hy A (by rw[f,sz3];rfl) (by show 0+1<=1;omega) (λc hc=>by
  have:c=cb c9 (k:Int):=by simpa[cc]using hc
  subst this;rfl) λw2 q2=>?_
 rw[show(cb c9 (k:Int)).cells=#[cb c9 (k:Int)] from rfl,rH (show(#[cb c9 0]:Array Value).size=(#[cb c9 (k:Int)]:Array Value).size from rfl)];have m3:=m2.rl J q2;have N:=J.rl q2;have eP:w2.heap[a.heap.size]?=some (bd #[cb c9 0] 3):=(q2.own _ (df rfl)).trans A;have Z:jm X a.heap.size:=N.clear.own _ (df rfl);have B:∀b,b≠a.heap.size->(w2.setRow a.heap.size #[cb c9 (k:Int)]).heap[b]?=w2.heap[b]?:=λb hb=>ag _ _ _ _ hb;have m4:Mk X np D bc bt w0 (w2.setRow a.heap.size #[cb c9 (k:Int)]):=by
  obtain⟨⟨_,_,s⟩,⟨_,_,t⟩,E,H,I⟩:=m3.live;refine⟨⟨⟨_,_,by unfold bX at s ⊢;rw[B _ (b9 Z.1)];exact s⟩,⟨_,_,by unfold b6 at t ⊢;rw[B _ (b9 Z.2.1)];exact t⟩,E,by grind,I⟩,λb hb=>?_,?_,?_⟩
  ·rw[B _ (by have:=L b (v1.has b (de hb));omega)];exact m3.blk b hb
  ·rw[B _ (by have:=L bc (v1.has bc (df (de rfl)));omega)];exact m3.bc
  ·rw[B _ (by have:=L bt (v1.has bt (df (df rfl)));omega)];exact m3.bt
 have v4:Mv X V (λb=>M b\/b=a.heap.size) np D bc bt (w2.setRow a.heap.size #[cb c9 (k:Int)]):={ N with low:=λb hb=>by simpa using N.low b hb }
 have g4:(w2.setRow a.heap.size #[cb c9 (k:Int)]).heap[a.heap.size]?=some (bd #[cb c9 (k:Int)] 3):=ai _ _ _ _ _ _ eP;refine(hC a.heap.size).run f x ?_;have O:w0.heap.size<=w2.heap.size:=by
  have:=q.size;grind
 refine P6 (F:=λw=>Mk X np D bc bt w0 w/\Mv X V (λb=>M b\/b=a.heap.size) np D bc bt w/\w.heap[a.heap.size]?=some (bd #[cb c9 (k:Int)] 3)/\w0.heap.size<=w.heap.size)
  ⟨f,x,v4.clear,λw w' h q=>⟨h.1.rl h.2.1 q,h.2.1.rl q,(q.own _ (df rfl)).trans h.2.2.1,aH h.2.2.2 q.size⟩,λw h=>h.1.live,U⟩ r (λw5 h5=>?_) ⟨m4,v4,g4,by simpa using O⟩
 refine(hD a.heap.size).run f x (.stop λw6 q6=>?_);obtain⟨Q,i,R,T⟩:=h5;have m6:=Q.rl i q6;have v6:=i.rl q6;have g6:w6.heap[a.heap.size]?=some (bd #[cb c9 (k:Int)] 3):=(q6.own _ (df rfl)).trans R;have ek:X.n-(r+1)=k:=by omega
 rw[ek];refine⟨(Y _).1,rfl,_,_,by rw[f,x];exact C _ _,(Y _).2,rfl,λl kf=>?_,?_⟩
 ·have GH:=aev (c:=c) (row:=row) f fW U Xe W (show k<ng by omega) BU v6 m6 (df (df rfl)) g6;refine Hl GH sg W.MC.1 (λw h _=>⟨h.put,h.rest⟩) ⟨m6.live,λ_ _=>rfl,aL _⟩ (λj hj _=>l j hj) kf
 ·refine K _ _ ⟨i.hg,⟨v6.clear.ids,λb hb=>hb.elim (v6.clear.st b) (v6.clear.own b),λb hb=>hb.elim⟩,λb hb=>hb.elim (λhb=>v6.shun b hb) (λhb=>hb.elim),λb hb=>hb.elim (λhb=>v6.low b hb) (λhb=>hb.elim),λb hb=>de (v6.has b hb)⟩ m6 (aH T q6.size)
end
end Go.Proofs
namespace Go.Proofs
open Go.Ph Go.Conc Go.ConcN Go.bJ
set_option maxRecDepth 100000
def aew:∃fn,PP.funcs[43]?=some fn/\fn.results=#[.tmp 2]:=⟨bL,bM,rfl⟩
section
variable {jf:Nat->Value}{jr:List Value}{X:Fix}{V:Vw}{M:Own}{D:jB}{np ng:Nat}{S:Nat->Nat}{dl:Nat->Int}{gn:Nat->ByteArray}{bc bt:Nat}{w0 w:World}{c:Nat}{row:Nat->Nat->Prop}{c':Frame}{l':List Frame}
def P8(X:Fix)(c':Frame)(l':List Frame):Own->aa->World->Prop:=λ_ g _=>g=G (c'.finish (ci (some ⟨X.Tb,0,none⟩))) l'
def ahP(a:X.P=PP)(p:X.n<=3){g d gR:aa}{k:Frame}(v:Mv X V bR np D bc bt w)(m:Mk X np D bc bt w0 w)
 (r:jq g (wE X.Wg k (c'::l'))) (s:jq (G (k.finish (cm #[])) (c'::l')) d) (oL:(bF d).map (·.op)=some (c6 95 (dd 3))/\d.frame.eval (dd 3)=pt bt)
 (t:jq (bT d (pt X.Tb)) gR) (eR:ala gR (c'::l') X.Tb):ay X V false (Ta X c np row (JH X np D S dl row) (P8 X c' l') 0 V) bR 0 g w:=by
 have e:(V.g==0)=true:=by rw[v.hg];rfl
 refine r.run a e ?_;refine MR (F:=λw=>Mk X np D bc bt w0 w/\Mv X V bR np D bc bt w) ⟨a,e,v.clear,λw w' h q=>⟨h.1.rl h.2 q,h.2.rl q⟩,λw h=>h.1.live,p⟩ (λw3 u=>?_) ⟨m,v⟩;obtain⟨m3,b⟩:=u;refine s.run a e ?_;obtain⟨f,x⟩:=oL;obtain⟨o,y,f⟩:=jC f;refine .qM (v:=ci (some ⟨X.Tb,0,none⟩)) b.clear m3.live y f x (λl q=>?_) ((b.has bt (df (df rfl))).imp (λh=>⟨h,b.shun bt (de h)⟩) id) ?_
 ·have m4:=m3.rl b q;have h:l.cell? ⟨bt,0,none⟩=some (ci (some ⟨X.Tb,0,none⟩)):=by simp only[bq,m4.bt];rfl
  exact⟨l8 (by rw[a];exact WW) rfl h,pY h⟩
 refine t.run a e ?_;rw[eR.self];obtain⟨fn,i,j⟩:=aew;refine .leave1 b.clear eR.mode eR.kind eR.defers (by rw[a,eR.fn];exact i) j ?_;rw[eR.res];exact .stop λl _=>⟨rfl,rfl,rfl⟩
theorem abC(h:X.P=PP)(p:X.size=75)(l:X.n<=3)(q:0<c)(s:Cf np ng D S dl gn w0)(t:X.n=ng)(u:∀k,k<ng->FE np (S k))(x:∀k,k<ng->∀j,k*25<=j->j<k*25+25->row k j)
 (y:∀b,w0.heap.size<=b->∀a':Addr,a'.block=b->¬X.Shun (.cell a')):∀(r k:Nat),k+(r+1)=ng->∀{V:Vw}{M:Own}{w:World}{f:Nat->Value},Mv X V M np D bc bt w->Mk X np D bc bt w0 w->w0.heap.size<=w.heap.size->
 ay X V false (Ta X c np row (JH X np D S dl row) (P8 X c' l') (r+1) V) M 0 (a_ ng k (CA.mk (cA np D) jf jr) bc bt X.Mu X.Wg (c'::l') f) w
 |r,k,i,V,M,w,f,v,m,A=>by
  have z:ng<=3:=by omega
  have a:=ahJ ng k (by omega) z;refine Aw (r:=r) (k:=k) h p l q s t i (u k (by omega)) (x k (by omega)) (a.oA ..) (λd=>a.hB (CA.mk (cA np D) jf jr) bc bt X.Mu X.Wg d (c'::l') f) (λd=>a.oB ..) (λd=>a.hC ..) (λd=>a.hD (CA.mk (cA np D) jf jr) bc bt X.Mu X.Wg d (c'::l') f) (λd w=>a.goD ..) (λd=>a.rD ..) v m y A λe w1 v1 m1 B=>?_;have o:((V.more λb=>M b\/b=e).g==0)=true:=by rw[v1.hg];rfl
  match r,i with
  |0,i=>
   obtain rfl:ng=k+1:=by omega
   have me:=anM k (by omega);exact ahP h l v1 m1 (me.hW ..) (me.hL (CA.mk (cA np D) jf jr) bc bt X.Mu X.Wg e (c'::l') f) (me.oL ..) (me.hR ..) (me.eR ..)
  |r+1,i=>
   refine((alb ng k (by omega) z).hE (CA.mk (cA np D) jf jr) bc bt X.Mu X.Wg e (c'::l') f).run h o ?_;exact abC h p l q s t u x y r (k+1) (by omega) v1 m1 B
def ag5(f:0<ng)(i:X.P=PP)(y:X.size=75)(d:X.n=ng)(z:0<c)(a:Cf np ng D S dl gn w0)(l:∀k,k<ng->FE np (S k))(p:∀k,k<ng->∀j,k*25<=j->j<k*25+25->row k j)
 (v:Mv X V M np D bc bt w) (m:Mk X np D bc bt w0 w) (A:∀b,w0.heap.size<=b->∀a':Addr,a'.block=b->¬X.Shun (.cell a')) (B:w0.heap.size<=w.heap.size) :
 ay X V false (Ta X c np row (JH X np D S dl row) (P8 X c' l') ng V) M 0 (m6 (CA.mk (cA np D) jf jr) bc X.Tb bt X.Mu X.Wg (c'::l')) w:=by
 have C:X.n<=3:=by rw[d];exact a.hn
 have r:(V.g==0)=true:=by rw[v.hg];rfl
 obtain⟨e,s,_⟩:=aes (CA.mk (cA np D) jf jr) bc X.Tb bt X.Mu X.Wg (c'::l');obtain⟨o,t,e⟩:=jC e;have u:=a.Zb;refine .qM (v:=ce (some ⟨D.gb,D.go,none⟩) ng D.cg) v.clear m.live t e s (λx q=>?_) ((v.has bc (df (de rfl))).imp (λh=>⟨h,v.shun bc (de h)⟩) id) ?_
 ·have m1:=m.rl v q;have h:x.cell? ⟨bc,5,none⟩=some (ce (some ⟨D.gb,D.go,none⟩) ng D.cg):=by
   simp only[bq,m1.bc];rw[<-u];rfl
  exact⟨l8 (by rw[i];exact adX) rfl h,pY h⟩
 match ng,f,d,a,l,p with
 |g+1,f,d,a,l,p=>
  refine((ahK (g+1) (by omega) a.hn).h (CA.mk (cA np D) jf jr) bc X.Tb bt X.Mu X.Wg (some ⟨D.gb,D.go,none⟩) D.cg (c'::l')).run i r ?_
  grind[abC]
def ah2{Fin:Nat->World->Prop}{arr:Array Value}{a:Option Addr}{b:Nat}(d:X.P=PP)(y:X.n<=3)(hg:V.g=0)(k:Clear X V M)(u:M bc)(f:M bt)(hl:Live X w)(z:w.heap[bc]?=some (bd arr 77))(A:w.heap[bt]?=some (bd #[ci (some ⟨X.Tb,0,none⟩)] 95))(B:arr[5]?=some (ce a 0 b)) :
 ay X V false (Ta X c np row Fin (P8 X c' l') 0 V) M 0 (m6 (CA.mk arr jf jr) bc X.Tb bt X.Mu X.Wg (c'::l')) w:=by
 have l:(V.g==0)=true:=by rw[hg];rfl
 obtain⟨i,p,_⟩:=aes (CA.mk arr jf jr) bc X.Tb bt X.Mu X.Wg (c'::l');obtain⟨o,r,i⟩:=jC i;refine .qM (v:=ce a 0 b) k hl r i p (λm q=>?_) (df u) ?_
 ·have h:m.cell? ⟨bc,5,none⟩=some (ce a 0 b):=by
   have e:=(q.own bc u).trans z;simp only[bq,e];simpa using B
  exact⟨l8 (by rw[d];exact adX) rfl h,pY h⟩
 have j:=anN;refine(j.hW (CA.mk arr jf jr) bc X.Tb bt X.Mu X.Wg a b (c'::l')).run d l ?_;refine MR (F:=λw=>Live X w/\w.heap[bt]?=some (bd #[ci (some ⟨X.Tb,0,none⟩)] 95)) ⟨d,l,k,λw w' h q=>⟨q.live h.1,(q.own bt f).trans h.2⟩,λw h=>h.1,y⟩ (λw3 x=>?_) ⟨hl,A⟩;refine(j.hL (CA.mk arr jf jr) bc X.Tb bt X.Mu X.Wg a b (c'::l')).run d l ?_;obtain⟨i,p⟩:=j.oL (CA.mk arr jf jr) bc X.Tb bt X.Mu X.Wg a b (c'::l');obtain⟨o,r,i⟩:=jC i;refine .qM (v:=ci (some ⟨X.Tb,0,none⟩)) k x.1 r i p (λm q=>?_) (df f) ?_
 ·have h:m.cell? ⟨bt,0,none⟩=some (ci (some ⟨X.Tb,0,none⟩)):=by
   have e:=(q.own bt f).trans x.2;simp only[bq,e];rfl
  exact⟨l8 (by rw[d];exact WW) rfl h,pY h⟩
 refine(j.hR (CA.mk arr jf jr) bc X.Tb bt X.Mu X.Wg a b (c'::l')).run d l ?_;have eR:=j.eR (CA.mk arr jf jr) bc X.Tb bt X.Mu X.Wg a b (c'::l');rw[eR.self];obtain⟨fn,s,t⟩:=aew;refine .leave1 k eR.mode eR.kind eR.defers (by rw[d,eR.fn];exact s) t ?_;rw[eR.res];exact .stop λm _=>⟨rfl,rfl,rfl⟩
end
section
variable (P:ao)(S:aa->Bool)
noncomputable def nM(w:World):Nat->aa->List (ar×GStep)
 |0,_=>[]
 |n+1,g=>@aw (λ_=>List (ar×GStep)) ((g.status,stepG P true g w)::nM w n (nx P true g)) [] (S g)
noncomputable def nN(w:World):Nat->aa->List (ar×GStep)
 |0,_=>[]
 |n+1,g=>@aw (λ_=>List (ar×GStep)) ((dt,.go (nx P true g) w #[])::nN w n (nx P true g)) [] (S g)
end
section
variable {Shun:Loc->Prop}{Q:Nat->aa->World->Prop}
def jF.quiet{P:ao}{S:aa->Bool}{K:World->Prop}(f:∀w d,K w->K (w.at d)):∀(n:Nat){B:Nat}{g:aa},(∀w,nM P S w n g=nN P S w n g)->(∀w,K w->jF P Shun Q B (wu P true S n g) w)->∀w,K w->jF P Shun Q B g w
 |0,_,_,_,a,w,b=>a w b
 |n+1,B,g,h,a,w,b=>by
  cases c:S g with
  |true=>simpa only[wu,c]using a w b
  |false=>
   simp only[wu,c]at a;have e:∀w,g.status=dt/\stepG P true g w=.go (nx P true g) w #[]/\nM P S w n (nx P true g)=nN P S w n (nx P true g):=λw=>by
    have:=h w;simp only[nM,nN,c,List.cons.injEq,Prod.mk.injEq]at this
    grind
   refine .one B (e w).1 (aL _) λd=>⟨_,_,#[],(e (w.at d)).2.1,by simp,?_⟩
   exact jF.quiet f n (λw=>(e w).2.2) a _ (f w d b)
def xU{P:ao}{mn:Bool}{w:World}{g:aa}{o:Oper}{t:ac}{x:ae}{v:Value}(a:bF g=some o)(b:o.op=.box t x)(c:g.frame.eval x=v) :
 stepG P mn g w=.go (bT g (ci (some ⟨w.heap.size,0,none⟩))) (w.alloc (bd v.cells t)) #[]:=by
 have e1:execOp g.frame.eval o=(do pure (.value (<-co t v)):Sem Next):=by
  unfold execOp;simp only[b,c]
 have d:(co t v).run P w=.ok (ci (some ⟨w.heap.size,0,none⟩)) (w.alloc (bd v.cells t)):=by
  simp[co,newVar,newRow]
 have e:(co t v).events P w #[]=#[]:=by
  simp[co,newVar,newRow]
 rw[dF (v:=ci (some ⟨w.heap.size,0,none⟩)) (w':=w.alloc (bd v.cells t)) a (by rw[e1];simp[d]),e1];simp[e,seen_none]
structure Ee(w:World)(h:Array Obj)(w':World):Prop where
 tape:w'.tape=w.tape
 os:w'.os=w.os
 output:w'.output=w.output
 heap:w'.heap=h
def Ee.at{w w':World}{h:Array Obj}(k:Ee w h w')(d:Nat):Ee w h (w'.at d):=⟨k.tape,k.os,k.output,k.heap⟩
def Ee.alloc{w w':World}{h:Array Obj}(k:Ee w h w')(o:Obj):Ee w (h.push o) (w'.alloc o):=⟨k.tape,k.os,k.output,by show w'.heap.push o=_;rw[k.heap]⟩
noncomputable def JI:Value:=ci none
def ZJ:∃i,PP.info? 95=some i/\i.zero=some JI:=by
 have h:(PP.info? 95).map (·.zero)=some (some JI):=by kernel_rfl
 simp_all
noncomputable def kP:Array Value:=#[cb .i32 0,cb .u32 0]
def ZK:∃i,PP.info? 138=some i/\i.zero=some (ch kP):=by
 have h:(PP.info? 138).map (·.zero)=some (some (ch kP)):=by kernel_rfl
 simp_all
noncomputable def nc:Array Value:=#[cb .u64 0,cb .u32 0]
def ZL:∃i,PP.info? 145=some i/\i.zero=some (ch nc):=by
 have h:(PP.info? 145).map (·.zero)=some (some (ch nc)):=by kernel_rfl
 simp_all
def aex:(PP.info? 95).map (·.size)=some 1:=by kernel_rfl
variable (ca:CA)(bc Tb bt Mu Wg:Nat)(cs:List Frame)
def z_0:∀w,nM PP eL w 400 (G (fE ca) cs)=nN PP eL w 400 (G (fE ca) cs):=λw=>by kernel_rfl
def z_1:∀w,nM PP eL w 400 (bT (m0 ca cs) (pt bc))=nN PP eL w 400 (bT (m0 ca cs) (pt bc)):=λw=>by kernel_rfl
def z_2:∀w,nM PP eL w 400 (bT (m1 ca bc cs) (pt Tb))=nN PP eL w 400 (bT (m1 ca bc cs) (pt Tb)):=λw=>by kernel_rfl
def z_3:∀w,nM PP eL w 400 (bT (m2 ca bc Tb cs) (pt bt))=nN PP eL w 400 (bT (m2 ca bc Tb cs) (pt bt)):=λw=>by kernel_rfl
def z_4:∀w,nM PP eL w 400 (bT (m3 ca bc Tb bt cs) undef)=nN PP eL w 400 (bT (m3 ca bc Tb bt cs) undef):=λw=>by kernel_rfl
def z_5:∀w,nM PP eL w 400 (bT (m4 ca bc Tb bt cs) (pt Mu))=nN PP eL w 400 (bT (m4 ca bc Tb bt cs) (pt Mu)):=λw=>by kernel_rfl
def z_6:∀w,nM PP eL w 400 (bT (m5 ca bc Tb bt Mu cs) (pt Wg))=nN PP eL w 400 (bT (m5 ca bc Tb bt Mu cs) (pt Wg)):=λw=>by kernel_rfl
def jF.aB{Shun:Loc->Prop}{Q:Nat->aa->World->Prop}{K:World->Prop}(a:∀w d,K w->K (w.at d)){B:Nat}{g g':aa}(b:jq g g')(h:∀w,nM PP eL w 400 g=nN PP eL w 400 g)(c:∀w,K w->jF PP Shun Q B g' w):∀w,K w->jF PP Shun Q B g w:=
 jF.quiet a 400 h (by rw[show wu PP true eL 400 g=g' from b.e];exact c)
noncomputable def oX(h:Array Obj)(ca:Array Value):Array Obj:=((((h.push (bd ca 77)).push (bd dZ 131)).push (bd #[ci (some ⟨h.size+1,0,none⟩)] 95)).push (bd kP 138)).push (bd nc 145)
def ZN{w:World}(L:∀b,w.heap.size<=b->∀o,¬Shun (.cell ⟨b,o,none⟩))(u:∀w',Ee w (oX w.heap ca.arr) w'->Q (w.heap.size+3) (m6 ca w.heap.size (w.heap.size+1) (w.heap.size+2) (w.heap.size+3) (w.heap.size+4) cs) w') :
 jF PP Shun Q w.heap.size (G (fE ca) cs) w:=by
 have M:=w.heap.size;refine jF.aB (K:=Ee w w.heap) (λ_ d h=>h.at d) (m_0 ca cs) (z_0 ca cs) (λw1 n=>?_) w ⟨rfl,rfl,rfl,rfl⟩;obtain⟨a,k⟩:=ajX ca cs;obtain⟨o,f,a⟩:=jC a;refine .one (g:=m0 ca cs) w.heap.size (aK f).1 (aL _) λd=>⟨_,_,#[],xU f a k,by simp,?_⟩
 have k1:=(n.at d).alloc (bd ca.arr 77);have v:(w1.at d).heap.size=w.heap.size:=by rw[(n.at d).heap]
 rw[v];refine jF.aB (K:=Ee w (w.heap.push (bd ca.arr 77))) (λ_ d h=>h.at d) (m_1 ca w.heap.size cs) (z_1 ca w.heap.size cs) (λw2 p=>?_) _ k1;obtain⟨a,k⟩:=ajY ca w.heap.size cs;obtain⟨o,f,a⟩:=jC a;refine .one (g:=m1 ca w.heap.size cs) w.heap.size (aK f).1 (aL _) λd=>⟨_,_,#[],xU f a k,by simp,?_⟩
 have k2:=(p.at d).alloc (bd dZ 131);have y:(w2.at d).heap.size=w.heap.size+1:=by rw[(p.at d).heap];simp
 rw[y];refine jF.aB (K:=Ee w ((w.heap.push (bd ca.arr 77)).push (bd dZ 131))) (λ_ d h=>h.at d) (m_2 ca w.heap.size (w.heap.size+1) cs) (z_2 ca w.heap.size (w.heap.size+1) cs) (λw3 q=>?_) _ k2;obtain⟨o,f,a⟩:=jC (ajZ ca w.heap.size (w.heap.size+1) cs);obtain⟨i,hi,l⟩:=ZJ;refine .one (g:=m2 ca w.heap.size (w.heap.size+1) cs) w.heap.size (aK f).1 (aL _) λd=>⟨_,_,#[],jY f a hi l,by simp,?_⟩
 have k3:=(q.at d).alloc (bd #[ci none] 95);have z:(w3.at d).heap.size=w.heap.size+2:=by rw[(q.at d).heap];simp
 rw[z];refine jF.aB (K:=Ee w (((w.heap.push (bd ca.arr 77)).push (bd dZ 131)).push (bd #[ci none] 95))) (λ_ d h=>h.at d) (m_3 ca w.heap.size (w.heap.size+1) (w.heap.size+2) cs) (z_3 ca w.heap.size (w.heap.size+1) (w.heap.size+2) cs) (λw4 m=>?_) _ k3;obtain⟨a,k,hy⟩:=ak0 ca w.heap.size (w.heap.size+1) (w.heap.size+2) cs;obtain⟨o,f,a⟩:=jC a;refine .one (g:=m3 ca w.heap.size (w.heap.size+1) (w.heap.size+2) cs) (w.heap.size+3) (aK f).1 (by omega) λd=>?_;have r:((w.heap.push (bd ca.arr 77)).push (bd dZ 131)).size=w.heap.size+2:=by simp
 have hb:(w4.at d).heap[w.heap.size+2]?=some (bd #[ci none] 95 (0,0)):=by rw[(m.at d).heap,<-r,cq]
 obtain⟨es,st,A⟩:=rC (P:=PP) (mn:=true) f a k hy hb (by rw[aex];rfl) (by show 0+1<=1;omega) (λc hc=>by
  have:c=ci (some ⟨w.heap.size+1,0,none⟩):=by simpa[cc]using hc
  subst this;rfl)
 refine⟨_,_,es,st,λe B=>?_,?_⟩
 ·obtain⟨j,N,rfl⟩:=A e B;refine⟨λx O hs=>?_,by simp,by simp,?_⟩
  ·have e1:(MemAct.ofEvent ⟨.cell ⟨w.heap.size+2,0+j,none⟩,true,false⟩).touch? = some ⟨.cell ⟨w.heap.size+2,0+j,none⟩,true,.plain⟩:=rfl
   grind
  ·show w.heap.size+2<w.heap.size+3;omega
 have C:Ee w (((w.heap.push (bd ca.arr 77)).push (bd dZ 131)).push (bd #[ci (some ⟨w.heap.size+1,0,none⟩)] 95)) ((w4.at d).setRow (w.heap.size+2) (putRow #[ci none] 0 (pt (w.heap.size+1)).cells)):=by
  refine⟨m.tape,m.os,m.output,?_⟩;rw[rH (show(#[ci none]:Array Value).size=(pt (w.heap.size+1)).cells.size from rfl)];apply ct;intro b;have R:=(m.at d).heap;by_cases D:b=w.heap.size+2
  ·subst D;rw[ai _ _ _ _ _ _ hb,<-r,cq];rfl
  grind[ag,a7,Array.getElem?_push_lt,cu]
 refine jF.aB (K:=Ee w (((w.heap.push (bd ca.arr 77)).push (bd dZ 131)).push (bd #[ci (some ⟨w.heap.size+1,0,none⟩)] 95))) (λ_ d h=>h.at d) (m_4 ca w.heap.size (w.heap.size+1) (w.heap.size+2) cs) (z_4 ca w.heap.size (w.heap.size+1) (w.heap.size+2) cs) (λw5 s=>?_) _ C;obtain⟨o,f,a⟩:=jC (ak1 ca w.heap.size (w.heap.size+1) (w.heap.size+2) cs);obtain⟨i,hi,l⟩:=ZK;refine .one (g:=m4 ca w.heap.size (w.heap.size+1) (w.heap.size+2) cs) (w.heap.size+3) (aK f).1 (aL _) λd=>⟨_,_,#[],jY f a hi l,by simp,?_⟩
 have E:=(s.at d).alloc (bd kP 138);have F:(w5.at d).heap.size=w.heap.size+3:=by rw[(s.at d).heap];simp
 rw[F];refine jF.aB (K:=Ee w ((((w.heap.push (bd ca.arr 77)).push (bd dZ 131)).push (bd #[ci (some ⟨w.heap.size+1,0,none⟩)] 95)).push (bd kP 138))) (λ_ d h=>h.at d) (m_5 ca w.heap.size (w.heap.size+1) (w.heap.size+2) (w.heap.size+3) cs) (z_5 ca w.heap.size (w.heap.size+1) (w.heap.size+2) (w.heap.size+3) cs) (λw6 t=>?_) _ E;obtain⟨o,f,a⟩:=jC (ak2 ca w.heap.size (w.heap.size+1) (w.heap.size+2) (w.heap.size+3) cs);obtain⟨i,hi,l⟩:=ZL;refine .one (g:=m5 ca w.heap.size (w.heap.size+1) (w.heap.size+2) (w.heap.size+3) cs) (w.heap.size+3) (aK f).1 (aL _) λd=>⟨_,_,#[],jY f a hi l,by simp,?_⟩
 have H:=(t.at d).alloc (bd nc 145);have I:(w6.at d).heap.size=w.heap.size+4:=by rw[(t.at d).heap];simp
 rw[I];refine jF.aB (K:=Ee w (oX w.heap ca.arr)) (λ_ d h=>h.at d) (m_6 ca w.heap.size (w.heap.size+1) (w.heap.size+2) (w.heap.size+3) (w.heap.size+4) cs) (z_6 ca w.heap.size (w.heap.size+1) (w.heap.size+2) (w.heap.size+3) (w.heap.size+4) cs) (λw7 J=>.done (u w7 J)) _ H
end
end Go.Proofs
namespace Go.Ph
open Go.Conc Go.ConcN
def TI.ZO{Shun Sh:Loc->Prop}{c:Nat}{t:Trace}{B:Nat}(h:Past Shun B t)(n:∀l,Sh l->l.isMemory=true/\¬l.low B)(Own Rd:Nat->Loc->Prop)(hg:∀op∈t,c<=op.g->op.act.touch? = none):TI Shun Sh Own Rd c 0 t:=by
 have o:∀(i:Nat)(op:MemOp)(x:Touch),t[i]?=some op->op.act.touch? = some x->¬Sh x.loc:=by
  intro i op x hi b hs;obtain⟨d,hl⟩:=n _ hs;refine hl ?_;have:=h.seen op (cv hi);generalize op.act=act at b this
  cases act with
  |access e=>cases e.sync<;>(simp[MemAct.touch?]at b;subst b;exact this)
  |mark m=>cases m<;>simp[MemAct.touch?]at b<;>(subst b;exact this)
  |_=>simp[MemAct.touch?]at b
 refine⟨h.clean,λi a f _ d=>(h.known i a f d).imp id (·.2),λi op x hi b hs=>absurd hs (o i op x hi b),λk _ _=>by omega,λk _ _=>by omega,λl d _ hs _ i a f e=>?_,λl d _ hs _ i a f e _=>?_,
  λi op a hi _ _ f d=>h.known i a (by rw[touchAt_of hi];exact f) d,λi g hi p _ hc=>h.over i g hi p hc,λi op a hi j f=>?_,λi op hi j=>hg op (cv hi) j⟩
 ·rcases h.known i a f (by rw[e];exact d) with k|⟨k,_⟩
  ·exact k
  ·exact absurd (e▸k) hs
 ·rcases h.known i a f (by rw[e];exact d) with k|⟨k,_⟩
  ·exact k
  ·exact absurd (e▸k) hs
 grind
end Go.Ph
namespace Go.Proofs
open Go.Ph Go.Conc Go.ConcN Go.bJ
set_option maxRecDepth 100000
section
variable {h:Array Obj}{ca:Array Value}
def xV:(oX h ca).size=h.size+5:=by simp[oX]
def Ay{b:Nat}(hb:b<h.size):(oX h ca)[b]?=h[b]?:=by
 unfold oX
 grind
def oY(k:Nat):(oX h ca)[h.size+k]?=(#[bd ca 77,bd dZ 131,bd #[ci (some ⟨h.size+1,0,none⟩)] 95,bd kP 138,bd nc 145]:Array Obj)[k]?:=by
 have e:oX h ca=h ++ #[bd ca 77,bd dZ 131,bd #[ci (some ⟨h.size+1,0,none⟩)] 95,bd kP 138,bd nc 145]:=by
  apply Array.ext';simp[oX]
 grind
end
noncomputable def zL(Shun:Loc->Prop)(n0 n:Nat):Fix:={ P:=PP,tM:=138,tW:=145,tT:=131,Mu:=n0+3,Wg:=n0+4,Tb:=n0+1,size:=75,n:=n,Shun }
def Ef(k o:Nat):Prop:=k<3/\k*25<=o/\o<k*25+25
noncomputable def xW(Shun:Loc->Prop)(n0 n c np:Nat)(D:jB)(S:Nat->Nat)(dl:Nat->Int)(c':Frame)(l':List Frame)(w₀:World):CB:=
 { zL Shun n0 n with c,np,row:=Ef,Fin:=JH (zL Shun n0 n) np D S dl Ef,Post:=P8 (zL Shun n0 n) c' l',sE:=n0,w₀ }
def mp0(n:Nat):MP:=if n=0 then .w1 else .add
def adI(n:Nat):(n=0/\mp0 n=.w1)\/(0<n/\mp0 n=.add):=by
 unfold mp0
 grind
noncomputable def ZP(n0 n np:Nat)(st:Nat->Prop)(tr:Tree)(q:Nat->Nat):Gh where
 j:=0
 th:=λ_=>{ pc:=.l0,r:=np }
 wp:=λ_=>.mu
 mp:=mp0 n
 V:=λ_=>⟨0,st,λ_=>False⟩
 M:=λ_ b=>b=n0\/b=n0+2
 tr:=λ_=>tr
 q:=q
 fu:=λ_=>1000
 s:=⟨{},0,0,0,0⟩
def akp(n np:Nat)(b:1<=np):cD.Inv n ⟨λ_=>{ pc:=.l0,r:=np },{},0⟩:=by
 have z:∀(f:cD.Th->Nat),f { pc:=.l0,r:=np }=0->sumTo n (λi=>f ((λ_=>({ pc:=.l0,r:=np }:cD.Th)) i))=0:=by
  intro f hf;show sumTo n (λ_=>f { pc:=.l0,r:=np })=0;rw[hf]
  induction n with
  |zero=>rfl
  |succ n a=>simp[sumTo,a]
 have c:=z cD.fh rfl;have d:=z cD.fq rfl;have e:=z cD.fk rfl;have g:=z cD.fa rfl;have j:=z cD.fr rfl;have k:=z cD.fw rfl;refine⟨λi _=>⟨?_,?_,?_,?_,?_,?_,?_,?_,?_,?_,?_⟩,?_,?_,?_,?_,?_⟩
 all_goals grind
def aey{Shun:Loc->Prop}{n0 n c np:Nat}{st:Nat->Prop}{D:jB}{S:Nat->Nat}{dl:Nat->Int}{c':Frame}{l':List Frame}{w₀:World}{tr:Tree}{q:Nat->Nat}(a:n<=3):vK (xW Shun n0 n c np D S dl c' l' w₀) (ZP n0 n np st tr q)<=170:=by
 show wM n 0 0 (mp0 n)+0<=170
 rcases adI n with⟨_,h⟩|⟨_,h⟩<;>rw[h]<;>simp only[wM]<;>omega
def UO{Shun:Loc->Prop}{n0 n c np:Nat}{D:jB}{S:Nat->Nat}{dl:Nat->Int}{c':Frame}{l':List Frame}{w₀:World}(f:1<=np/\np<=5):nG (xW Shun n0 n c np D S dl c' l' w₀):=by
 intro k w w' h hf a;have b:=hf a;refine⟨λd g j i=>?_,λj e l=>?_⟩
 ·refine(h _ ⟨a,by omega,?_⟩).trans (b.put d g j i);have:=oW (s:=S k) f.1 (r:=d);omega
 ·exact(h j e).trans (b.rest j e l)
def JK{Shun:Loc->Prop}{n0 n c np:Nat}{D:jB}{S:Nat->Nat}{dl:Nat->Int}{c':Frame}{l':List Frame}{w₀:World}:Jn (xW Shun n0 n c np D S dl c' l' w₀):=by
 intro k k' o b h a;obtain⟨_,d,e⟩:=h;obtain⟨_,f,g⟩:=a
 grind
def Qa{Shun:Loc->Prop}{n0 n c np:Nat}{D:jB}{S:Nat->Nat}{dl:Nat->Int}{c':Frame}{l':List Frame}{w₀:World}:GL (xW Shun n0 n c np D S dl c' l' w₀):=λ_ _ _ _ h=>h
def MS{o:Nat}(h:o<75):dZ[o]?=some (cb c9 0):=by
 unfold dZ
 grind
section
variable {jf:Nat->Value}{jr:List Value}{Shun:Loc->Prop}{np:Nat}{D:jB}{S:Nat->Nat}{dl:Nat->Int}{gn:Nat->ByteArray}{c':Frame}{l':List Frame}
def UP{n:Nat}{arr:Array Value}{st:Nat->Prop}{gs:Array aa}{w w1:World}{t:Trace}{q:Nat->Nat}(K:n<=3)(L:1<=np)(F:∀b,st b->b<w.heap.size)
 (N:∀l,Shun l->l.low w.heap.size/\l.isMemory=true)
 (p:Ee w (oX w.heap arr) w1) (O:gs[0]?=some (m6 (CA.mk arr jf jr) w.heap.size (w.heap.size+1) (w.heap.size+2) (w.heap.size+3) (w.heap.size+4) (c'::l')))
 (H:ay (zL Shun w.heap.size n) ⟨0,st,λ_=>False⟩ false (Ta (zL Shun w.heap.size n) gs.size np Ef (JH (zL Shun w.heap.size n) np D S dl Ef) (P8 (zL Shun w.heap.size n) c' l') n ⟨0,st,λ_=>False⟩) (λb=>b=w.heap.size\/b=w.heap.size+2) 0 (m6 (CA.mk arr jf jr) w.heap.size (w.heap.size+1) (w.heap.size+2) (w.heap.size+3) (w.heap.size+4) (c'::l')) w1)
 (I:cx PP t gs q) (x:Past Shun (w.heap.size+3) t) (P:∀op∈t,gs.size<=op.g->op.act.touch? = none) :
 ∃tr,MI (xW Shun w.heap.size n gs.size np D S dl c' l' w1) (ZP w.heap.size n np st tr q) gs w1 t:=by
 have Q:0<gs.size:=(Array.getElem?_eq_some_iff.1 O).1;have Y:w1.heap.size=w.heap.size+5:=by rw[p.heap,xV]
 have hold:∀b,b<w.heap.size->w1.heap[b]?=w.heap[b]?:=λb hb=>by rw[p.heap,Ay hb]
 have Z:w1.heap[w.heap.size]?=some (bd arr 77):=by rw[p.heap];exact oY 0
 have r:w1.heap[w.heap.size+1]?=some (bd dZ 131):=by rw[p.heap];exact oY 1
 have R:w1.heap[w.heap.size+2]?=some (bd #[ci (some ⟨w.heap.size+1,0,none⟩)] 95):=by rw[p.heap];exact oY 2
 have z:w1.heap[w.heap.size+3]?=some (bd kP 138):=by rw[p.heap];exact oY 3
 have A:w1.heap[w.heap.size+4]?=some (bd nc 145):=by rw[p.heap];exact oY 4
 have T:ShAt (zL Shun w.heap.size n) w1 ⟨{},0,0,0,0⟩:=⟨z,A⟩
 have B:ay (zL Shun w.heap.size n) ⟨0,st,λ_=>False⟩ false (stM (xW Shun w.heap.size n gs.size np D S dl c' l' w1) 0 1000 ⟨0,st,λ_=>False⟩ (mp0 n)) (λb=>b=w.heap.size\/b=w.heap.size+2) 0 (m6 (CA.mk arr jf jr) w.heap.size (w.heap.size+1) (w.heap.size+2) (w.heap.size+3) (w.heap.size+4) (c'::l')) w1:=by
  rcases adI n with⟨h,e⟩|⟨_,e⟩
  ·rw[e];subst h;exact H.mono λM d g w h=>h 1000
  ·rw[e];exact H
 have s:=adI n;obtain⟨tr,C⟩:=B;obtain⟨_,_,U⟩:=aes (CA.mk arr jf jr) w.heap.size (w.heap.size+1) (w.heap.size+2) (w.heap.size+3) (w.heap.size+4) (c'::l');refine⟨tr,?_⟩;have z0:∀a,a<=(ZP w.heap.size n np st tr q).j->a=0:=λa f=>Nat.le_zero.1 f;constructor
 case cpos=>exact Q
 case size=>rfl
 case sit=>
  intro a f g hg;obtain rfl:=z0 a f;have:g=m6 (CA.mk arr jf jr) w.heap.size (w.heap.size+1) (w.heap.size+2) (w.heap.size+3) (w.heap.size+4) (c'::l'):=by
   have I1:gs[0]?=some g:=hg
   grind
  subst this;refine .run (λh=>h) U ?_;have hd:Deaf t (gid (xW Shun w.heap.size n gs.size np D S dl c' l' w1) 0)=0:=x.hears;rw[hd];exact C
 case old=>exact λi g m _ J=>I.old i g m J
 case above=>exact I.above
 case sh=>exact T
 case tb=>exact⟨dZ,r,by show dZ.size=75;simp[dZ]⟩
 case mun=>exact akp n np L
 case fresh=>exact λ_ _ _=>rfl
 case out=>grind
 case wi=>
  refine⟨?_,λh=>?_,λh h'=>?_,Nat.zero_le _,λ_=>⟨rfl,rfl,rfl,rfl⟩,λh=>?_,λh=>?_,λv h=>?_⟩
  ·show 0=0+(if mp0 n=.go then 1 else 0)
   grind
  ·show 0<n
   rcases s with⟨_,e⟩|⟨m,e⟩
   ·rcases h with h|h
    ·have h:mp0 n=.add:=h;rw[e]at h;cases h
    ·have h:mp0 n=.go:=h;rw[e]at h;cases h
   ·exact m
  ·show 0=n
   rcases s with⟨m,e⟩|⟨_,e⟩
   ·exact m.symm
   ·exact absurd e h
  ·have h:mp0 n=.w3:=h
   grind
  ·have h:mp0 n=.w4\/mp0 n=.aq\/mp0 n=.an:=h
   grind
  ·have h:mp0 n=.w2 v:=h
   grind
 case fuel=>grind
 case fuel0=>
  have:=aey (Shun:=Shun) (n0:=w.heap.size) (n:=n) (c:=gs.size) (np:=np) (st:=st) (D:=D) (S:=S) (dl:=dl) (c':=c') (l':=l') (w₀:=w1) (tr:=tr) (q:=q) K;show _+1<=1000;omega
 case oi=>
  constructor
  case ap=>
   intro a f b hb
   rcases hb with hb|hb
   ·have y:b=w.heap.size\/b=w.heap.size+2:=hb;exact⟨by omega,by show b≠w.heap.size+3;omega,by show b≠w.heap.size+4;omega,by show b≠w.heap.size+1;omega⟩
   ·have:=F b hb;exact⟨by omega,by show b≠w.heap.size+3;omega,by show b≠w.heap.size+4;omega,by show b≠w.heap.size+1;omega⟩
  case dj=>grind
  case self=>
   intro a f b hb hs;have y:b=w.heap.size\/b=w.heap.size+2:=hb;have:=F b hs;omega
  case rows=>grind
  case base=>
   intro a f b hb;have y:b=w.heap.size\/b=w.heap.size+2:=hb;show w.heap.size<=b;omega
  case num=>intro a f;obtain rfl:=z0 a f;rfl
  case ids=>
   show w.heap.size+3≠w.heap.size+4/\w.heap.size+3≠w.heap.size+1/\w.heap.size+4≠w.heap.size+1/\w.heap.size<=w.heap.size+3/\w.heap.size<=w.heap.size+4/\w.heap.size<=w.heap.size+1/\w.heap.size+3<w1.heap.size/\w.heap.size+4<w1.heap.size/\w.heap.size+1<w1.heap.size;omega
  case main=>rfl
  grind
 case shun=>exact N
 case tri=>
  refine TI.ZO x (λl hl=>?_) _ _ P;obtain⟨a,rfl,f⟩:=hl;refine⟨rfl,λV=>?_⟩;have m:a.block<w.heap.size+3:=V;have y:a.block=w.heap.size+3\/a.block=w.heap.size+4:=f;omega
 case rel=>grind
 case norel=>
  intro i hi;obtain⟨op,E,W⟩:∃op,t[i]?=some op/\op.act=.mark (.release (b8 (w.heap.size+4))):=by
   unfold Trace.act? at hi
   cases u:t[i]? with
   |none=>rw[u]at hi;cases hi
   |some op=>rw[u]at hi;exact⟨op,rfl,Option.some.inj hi⟩
  have:=x.seen op (cv E);rw[W]at this;have m:w.heap.size+4<w.heap.size+3:=this;omega
 case low=>exact λop E=>MemAct.low_mono (by omega) (x.seen op E)
 case fin=>grind
 case acq=>
  intro h;have h:mp0 n=.an:=h
  grind
 case tape=>rfl
 case output=>rfl
 case os=>exact .refl _
 case kept=>exact λ_ _=>rfl
 case rowok=>exact JK (Shun:=Shun) (n0:=w.heap.size) (n:=n) (c:=gs.size) (np:=np) (D:=D) (S:=S) (dl:=dl) (c':=c') (l':=l') (w₀:=w1)
 case un=>
  intro k _ o X;obtain⟨m,y,J⟩:=X;show w1.cell? ⟨w.heap.size+1,o,none⟩=_;simp only[bq,r];exact MS (by omega)
structure UQ(n np:Nat)(D:jB)(S:Nat->Nat)(dl:Nat->Int)(w w1:World):Prop where
 tape:w1.tape=w.tape
 output:w1.output=w.output
 os:b4 w.os w1.os
 kept:∀b,b<w.heap.size->w1.heap[b]?=w.heap[b]?
 size:w.heap.size+5<=w1.heap.size
 tb:∃cs:Array Value,w1.heap[w.heap.size+1]?=some (bd cs 131)/\cs.size=75
 rows:∀k,k<n->Rows (zL (λ_=>False) w.heap.size n) ⟨0,λ_=>False,Ef k⟩ np (S k) k D (dl k) np w1
 rest:∀o,n*25<=o->o<75->w1.cell? ⟨w.heap.size+1,o,none⟩=some (cb c9 0)
def ac7{n:Nat}{arr:Array Value}{st:Nat->Prop}{gs:Array aa}{w:World}{sl:Option (Nat×Nat)}{t:Trace}{q:Nat->Nat}(I:n<=3)(A:1<=np/\np<=5)(J:∀b,st b->b<w.heap.size)
 (C:∀l,Shun l->l.low w.heap.size/\l.isMemory=true)
 (K:∀c w1,0<c->Ee w (oX w.heap arr) w1->ay (zL Shun w.heap.size n) ⟨0,st,λ_=>False⟩ false (Ta (zL Shun w.heap.size n) c np Ef (JH (zL Shun w.heap.size n) np D S dl Ef) (P8 (zL Shun w.heap.size n) c' l') n ⟨0,st,λ_=>False⟩) (λb=>b=w.heap.size\/b=w.heap.size+2) 0 (m6 (CA.mk arr jf jr) w.heap.size (w.heap.size+1) (w.heap.size+2) (w.heap.size+3) (w.heap.size+4) (c'::l')) w1)
 (L:gs[0]?=some (G (fE (CA.mk arr jf jr)) (c'::l')))
 (M:cx PP t gs q) (O:Past Shun w.heap.size t) (P:∀op∈t,gs.size<=op.g->op.act.touch? = none) :
 ∃(N:Nat)(a:Array aa)(w1:World)(p:Option (Nat×Nat))(t1:Trace)(q1:Nat->Nat),runNT PP N (crowd gs w sl) t=(.next (crowd a w1 p),t1)/\gs.size<=a.size/\
  a[0]?=some (G (c'.finish (ci (some ⟨w.heap.size+1,0,none⟩))) l')/\cx PP t1 a q1/\Past (λl=>Shun l\/OZ (zL Shun w.heap.size n) l) w1.heap.size t1/\(∀op∈t1,a.size<=op.g->op.act.touch? = none)/\
  UQ n np D S dl w w1:=by
 have hs:=ZN (Shun:=Shun) (ca:=CA.mk arr jf jr) (cs:=c'::l') (w:=w) (Q:=λB g w'=>B=w.heap.size+3/\g=m6 (CA.mk arr jf jr) w.heap.size (w.heap.size+1) (w.heap.size+2) (w.heap.size+3) (w.heap.size+4) (c'::l')/\Ee w (oX w.heap arr) w')
  (λb hb o R=>by
    have T:b<w.heap.size:=(C _ R).1
    omega) (λw' h=>⟨rfl,rfl,h⟩)
 obtain⟨N,B1,a,g1,w1,p,t1,q1,U,r2,r,V,E,W,X,Y,d⟩:=hs.run gs sl t q L M O P;rw[X]at E;rw[Y]at r;have Z:0<a.size:=(Array.getElem?_eq_some_iff.1 r).1;obtain⟨tr,m⟩:=UP (c':=c') (l':=l') I A.1 J C d r (K a.size w1 Z d) V E W;obtain⟨N2,f,w2,s,t2,F,k1,m2,there⟩:=MI.runs (UO A) JK Qa _ _ a w1 p t1 rfl m;have u:=nL.T8 m2 there;have v:=nL.GA m2 there;have x:=nL.fin m2 there;have H:F.j=n:=m2.wi.late (by rw[there.1];simp) (by rw[there.1];simp);have aqV:f.size=a.size+n:=by rw[m2.size,H];rfl
 have aqW:w1.heap.size=w.heap.size+5:=by rw[d.heap,xV]
 obtain⟨_,g,hg,_,_,Eb⟩:=there;have ZQ:g=G (c'.finish (ci (some ⟨w.heap.size+1,0,none⟩))) l':=Eb;rw[ZQ]at hg;obtain⟨cs,y,hcs⟩:=m2.tb;have z:cs.size=75:=hcs;refine⟨N+N2,f,w2,s,t2,F.q,Go.ConcX.runNT_trans U k1,by omega,hg,u,v,λop aB ve=>?_,?_⟩
 ·obtain⟨i,hi⟩:=Array.mem_iff_getElem?.1 aB;refine m2.tri.LY i op hi ?_;rw[H];show a.size+n<=op.g;omega
 ·have YM:b4 w.os w2.os:=by
   have:=m2.os;have e:(xW Shun w.heap.size n a.size np D S dl c' l' w1).w₀.os=w.os:=d.os;rwa[e]at this
  have hmu:w.heap.size+4<w2.heap.size:=m2.oi.ids.2.2.2.2.2.2.2.1;refine⟨m2.tape.trans d.tape,m2.output.trans d.output,YM,λb hb=>(m2.kept b hb).trans ?_,by omega,⟨cs,y,z⟩,λk hk=>?_,λo T h2=>?_⟩
  ·show w1.heap[b]?=_;rw[d.heap,Ay hb]
  ·have:=x k hk (by omega);exact⟨this.put,this.rest⟩
  ·exact m2.un (o / 25) (by omega) o ⟨by omega,by omega,by omega⟩
def MU{n:Nat}{gs:Array aa}{w:World}{sl:Option (Nat×Nat)}{t:Trace}{q:Nat->Nat}(v:0<n)(d:Cf np n D S dl gn w)(x:∀k,k<n->FE np (S k))
 (f:∀l,Shun l->l.low w.heap.size/\l.isMemory=true) (h:∀b∈dR np D,∀a':Addr,a'.block=b->¬Shun (.cell a'))
 (y:gs[0]?=some (G (fE (CA.mk (cA np D) jf jr)) (c'::l')))
 (z:cx PP t gs q) (A:Past Shun w.heap.size t) (B:∀op∈t,gs.size<=op.g->op.act.touch? = none) :
 ∃(N:Nat)(e:Array aa)(w1:World)(C:Option (Nat×Nat))(t1:Trace)(q1:Nat->Nat),runNT PP N (crowd gs w sl) t=(.next (crowd e w1 C),t1)/\gs.size<=e.size/\
  e[0]?=some (G (c'.finish (ci (some ⟨w.heap.size+1,0,none⟩))) l')/\cx PP t1 e q1/\Past (λl=>Shun l\/OZ (zL Shun w.heap.size n) l) w1.heap.size t1/\(∀op∈t1,e.size<=op.g->op.act.touch? = none)/\
  UQ n np D S dl w w1:=by
 have i:∀b,b∈dR np D->b<w.heap.size:=λb hb=>(d.blk b hb).1;refine ac7 (arr:=cA np D) (st:=(·∈dR np D)) d.hn d.MC i f (λc w1 hc a=>?_) y z A B;have H:w1.heap.size=w.heap.size+5:=by rw[a.heap,xV]
 have hold:∀b,b<w.heap.size->w1.heap[b]?=w.heap[b]?:=λb hb=>by rw[a.heap,Ay hb]
 have E:w1.heap[w.heap.size]?=some (bd (cA np D) 77):=by rw[a.heap];exact oY 0
 have m:w1.heap[w.heap.size+1]?=some (bd dZ 131):=by rw[a.heap];exact oY 1
 have o:w1.heap[w.heap.size+2]?=some (bd #[ci (some ⟨w.heap.size+1,0,none⟩)] 95):=by rw[a.heap];exact oY 2
 have p:w1.heap[w.heap.size+3]?=some (bd kP 138):=by rw[a.heap];exact oY 3
 have r:w1.heap[w.heap.size+4]?=some (bd nc 145):=by rw[a.heap];exact oY 4
 have u:ShAt (zL Shun w.heap.size n) w1 ⟨{},0,0,0,0⟩:=⟨p,r⟩
 have I:=d.hn;exact ag5 (jf:=jf) (jr:=jr) (X:=zL Shun w.heap.size n) (V:=⟨0,(·∈dR np D),λ_=>False⟩) (M:=λb=>b=w.heap.size\/b=w.heap.size+2) (bc:=w.heap.size) (bt:=w.heap.size+2) (c:=c) (row:=Ef) (c':=c') (l':=l') (w:=w1) v rfl rfl rfl hc d x
  (λk J j s F=>⟨by omega,s,F⟩)
  ⟨rfl,⟨⟨by show w.heap.size+3≠w.heap.size+4;omega,by show w.heap.size+3≠w.heap.size+1;omega,by show w.heap.size+4≠w.heap.size+1;omega⟩,
    λb hb=>by
     have:=i b hb;exact⟨by show b≠w.heap.size+3;omega,by show b≠w.heap.size+4;omega,by show b≠w.heap.size+1;omega⟩,
    λb hb=>by
     have:b=w.heap.size\/b=w.heap.size+2:=hb
     exact⟨by show b≠w.heap.size+3;omega,by show b≠w.heap.size+4;omega,by show b≠w.heap.size+1;omega⟩⟩,
    λb hb a' ha' hs=>by
     rcases hb with hb|hb
     ·exact h b hb a' ha' hs
     ·have s:a'.block<w.heap.size:=(f _ hs).1
      grind,
    λb hb=>by
     grind,
    λb hb=>by
     grind⟩
  ⟨⟨⟨_,_,u.1⟩,⟨_,_,u.2⟩,dZ,m,by show dZ.size=75;simp[dZ]⟩,λb hb=>hold b (i b hb),E,o⟩
  (λb hb a' ha' hs=>by
    have s:a'.block<w.heap.size:=(f _ hs).1
    omega) (by omega)
def ac9{arr:Array Value}{k:Option Addr}{m:Nat}{gs:Array aa}{w:World}{sl:Option (Nat×Nat)}{t:Trace}{q:Nat->Nat}(o:arr[5]?=some (ce k 0 m))
 (p:∀l,Shun l->l.low w.heap.size/\l.isMemory=true)
 (r:gs[0]?=some (G (fE (CA.mk arr jf jr)) (c'::l')))
 (s:cx PP t gs q) (u:Past Shun w.heap.size t) (v:∀op∈t,gs.size<=op.g->op.act.touch? = none) :
 ∃(N:Nat)(a:Array aa)(w1:World)(x:Option (Nat×Nat))(t1:Trace)(q1:Nat->Nat),runNT PP N (crowd gs w sl) t=(.next (crowd a w1 x),t1)/\gs.size<=a.size/\
  a[0]?=some (G (c'.finish (ci (some ⟨w.heap.size+1,0,none⟩))) l')/\cx PP t1 a q1/\Past (λl=>Shun l\/OZ (zL Shun w.heap.size 0) l) w1.heap.size t1/\(∀op∈t1,a.size<=op.g->op.act.touch? = none)/\
  UQ 0 1 Y7 (λ_=>0) (λ_=>0) w w1:=by
 refine ac7 (np:=1) (n:=0) (arr:=arr) (st:=λ_=>False) (by omega) ⟨by omega,by omega⟩ (λb hb=>hb.elim) p (λc w1 hc d=>?_) r s u v;have y:w1.heap[w.heap.size]?=some (bd arr 77):=by rw[d.heap];exact oY 0
 have e:w1.heap[w.heap.size+1]?=some (bd dZ 131):=by rw[d.heap];exact oY 1
 have f:w1.heap[w.heap.size+2]?=some (bd #[ci (some ⟨w.heap.size+1,0,none⟩)] 95):=by rw[d.heap];exact oY 2
 have h:w1.heap[w.heap.size+3]?=some (bd kP 138):=by rw[d.heap];exact oY 3
 have i:w1.heap[w.heap.size+4]?=some (bd nc 145):=by rw[d.heap];exact oY 4
 have j:ShAt (zL Shun w.heap.size 0) w1 ⟨{},0,0,0,0⟩:=⟨h,i⟩
 exact ah2 (X:=zL Shun w.heap.size 0) rfl (by show 0<=3;omega) rfl
  ⟨⟨by show w.heap.size+3≠w.heap.size+4;omega,by show w.heap.size+3≠w.heap.size+1;omega,by show w.heap.size+4≠w.heap.size+1;omega⟩,λb hb=>hb.elim,
    λb hb=>by
     have:b=w.heap.size\/b=w.heap.size+2:=hb
     exact⟨by show b≠w.heap.size+3;omega,by show b≠w.heap.size+4;omega,by show b≠w.heap.size+1;omega⟩⟩
  (de rfl) (df rfl) ⟨⟨_,_,j.1⟩,⟨_,_,j.2⟩,dZ,e,by show dZ.size=75;simp[dZ]⟩ y f o
end
def Qc:∀(n:Nat)(L:List Value),n<=L.length->∃(f:Nat->Value)(r:List Value),L=(bo n).map f++r
 |0,L,_=>⟨λ_=>undef,L,by simp⟩
 |n+1,[],h=>by simp at h
 |n+1,x::L,h=>by
  obtain⟨f,r,e⟩:=Qc n L (by simpa using h);refine⟨λi=>if i=0 then x else f (i-1),r,?_⟩;rw[e,List.range_succ_eq_map];simp[Function.comp_def]
def US{a:Array Value}{ca:Array Value}(h:a[0]?=some (ch ca)):∃f r,ba PP 43 a da=fE ⟨ca,f,r⟩:=by
 obtain⟨l⟩:=a
 cases l with
 |nil=>simp at h
 |cons x L=>
  have b:x=ch ca:=by simpa using h
  subst b;obtain⟨g,r,e⟩:=Qc 20 (L++bp (21-(L.length+1)) undef) (by simp;omega);refine⟨λi=>g (i-1),r,?_⟩;have c:Tryz.f43.ntmps=21:=by kernel_rfl
  have e1:ba PP 43 ⟨ch ca::L⟩ da=⟨43,⟨ch ca::(L++bp (21-(L.length+1)) undef)⟩,[.code Ho],[],.run,da,none⟩:=by
   have hf:PP.funcs[43]?=some bL:=bM;have hb:((some bL).bind (·.body)).getD (.refuse "unsupported: a function without a Go body is entered")=Ho:=by kernel_rfl
   unfold ba
   simp_all
  rw[e1,e];rfl
end Go.Proofs
namespace Go.Proofs
def s8(np s r:Nat):Nat:=(s+r) % np
def cmV(pn:Nat->Nat->Int)(np s:Nat)(dl:Int):Nat->Int×Int
 |0=>(dl,dl)
 |r+1=>(IntKind.i64.wrap (IntKind.i64.wrap ((cmV pn np s dl r).1+pn (s8 np s r) 7)+pn (s8 np s r) 9),IntKind.i64.wrap (IntKind.i64.wrap ((cmV pn np s dl r).2+pn (s8 np s r) 8)+pn (s8 np s r) 10))
def vsV(pn:Nat->Nat->Int)(np s:Nat)(dl:Int)(r:Nat):Nat->Int
 |0=>(s8 np s r:Nat)
 |1=>(cmV pn np s dl r).1
 |2=>(cmV pn np s dl r).2
 |3=>IntKind.i64.wrap ((cmV pn np s dl r).1+pn (s8 np s r) 7)
 |_=>IntKind.i64.wrap ((cmV pn np s dl r).2+pn (s8 np s r) 8)
def OnT(np G R k r:Nat):Prop:=(k<G/\r<np)\/(k=G/\r<R)
def aga(np s k r o:Nat):Prop:=k*25+s8 np s r*5<=o/\o<k*25+s8 np s r*5+5
structure b7(pn:Nat->Nat->Int)(np:Nat)(S:Nat->Nat)(dl:Nat->Int)(G R:Nat)(cs:Array Value):Prop where
 size:cs.size=75
 put:∀k r j,OnT np G R k r->j<5->cs[k*25+s8 np (S k) r*5+j]?=some (cb c9 (vsV pn np (S k) (dl k) r j))
 rest:∀o,o<75->(∀k r,OnT np G R k r->¬aga np (S k) k r o)->cs[o]?=some (cb c9 0)
def abh{np s r:Nat}(h:0<np):s8 np s r<np:=aP _ h
theorem ahS{np s r a:Nat}(h:a<r)(i:r<np):s8 np s a≠s8 np s r:=by
 unfold s8;intro e;have j:=aS (s+r) np;have f:=aS (s+a) np;rw[e]at f;have b:np*((s+r) / np)-np*((s+a) / np)=r-a:=by omega
 rw[<-aT]at b;have c:0<r-a:=by omega
 have g:r-a<np:=by omega
 rw[<-b]at c g;have:(s+r) / np-(s+a) / np=0:=by
  by_cases d:(s+r) / np-(s+a) / np=0
  ·exact d
  ·have:=a5 np (a6 d);omega
 rw[this]at c;omega
def ac3(np s p:Nat):Nat:=(p+np-s) % np
def Q2{np s p:Nat}(h:0<np):ac3 np s p<np:=aP _ h
def afC{np s p:Nat}(a:p<np)(hs:s<np):s8 np s (ac3 np s p)=p:=by
 unfold s8 ac3
 rcases a7 p s with h|h
 ·rw[a8 (show p+np-s<np by omega),show s+(p+np-s)=p+np by omega,a9,a8 a]
 ·rw[show p+np-s=(p-s)+np by omega,a9,a8 (show p-s<np by omega),show s+(p-s)=p by omega,a8 a]
def abq{np s r:Nat}(h:0<np):s8 np s (r+1)=if s8 np s r+1=np then 0 else s8 np s r+1:=by
 unfold s8;have e:(s+(r+1)) % np=((s+r) % np+1) % np:=by grind[Nat.add_mod,Nat.mod_add_mod]
 have:=aP (s+r) h;rw[e]
 split
 ·simp_all
 ·rw[a8 (by omega)]
section
variable {pn:Nat->Nat->Int}{np:Nat}{S:Nat->Nat}{dl:Nat->Int}{G R:Nat}{cs cs':Array Value}
def b7.uniq(h:b7 pn np S dl G R cs)(k:b7 pn np S dl G R cs'):cs=cs':=by
 apply ct;intro o
 rcases a7 o 75 with a|a
 ·by_cases hc:∃q r,OnT np G R q r/\aga np (S q) q r o
  ·obtain⟨q,r,b,c,f⟩:=hc;have e:o=q*25+s8 np (S q) r*5+(o-(q*25+s8 np (S q) r*5)):=by omega
   rw[e,h.put q r _ b (by omega),k.put q r _ b (by omega)]
  ·have d:∀q r,OnT np G R q r->¬aga np (S q) q r o:=λq r b c=>hc ⟨q,r,b,c⟩;rw[h.rest o a d,k.rest o a d]
 ·rw[cu (by rw[h.size];exact a),cu (by rw[k.size];exact a)]
def b7.int(h:b7 pn np S dl G R cs){o:Nat}(c:o<75):∃n,cs[o]?=some (cb c9 n):=by
 by_cases hc:∃q r,OnT np G R q r/\aga np (S q) q r o
 ·obtain⟨q,r,a,b,d⟩:=hc;have e:o=q*25+s8 np (S q) r*5+(o-(q*25+s8 np (S q) r*5)):=by omega
  exact⟨_,by rw[e,h.put q r _ a (by omega)]⟩
 ·exact⟨0,h.rest o c λq r a b=>hc ⟨q,r,a,b⟩⟩
def b7.zero(a:cs.size=75)(b:∀o,o<75->cs[o]?=some (cb c9 0)):b7 pn np S dl 0 0 cs:=
 ⟨a,λk r j h _=>by rcases h with h|h<;>omega,λo c _=>b o c⟩
def b7.next(h:b7 pn np S dl G R cs)(g:R<np)(i:np<=5)(hs:cs'.size=75)(l:∀j,j<5->cs'[G*25+s8 np (S G) R*5+j]?=some (cb c9 (vsV pn np (S G) (dl G) R j)))
 (b:∀o,(o<G*25+s8 np (S G) R*5\/G*25+s8 np (S G) R*5+5<=o)->cs'[o]?=cs[o]?):b7 pn np S dl G (R+1) cs':=by
 have m:=abh (np:=np) (s:=S G) (r:=R) (by omega);refine⟨hs,λk r j a d=>?_,λo f c=>?_⟩
 ·have n:=abh (np:=np) (s:=S k) (r:=r) (by omega);by_cases e:k=G/\r=R
  ·grind
  ·rw[b _ ?_]
   ·refine h.put k r j ?_ d
    rcases a with a|a
    ·exact de a
    ·exact df ⟨a.1,by omega⟩
   ·rcases a with a|⟨rfl,a⟩
    ·omega
    grind[ahS]
 ·rw[b o ?_]
  ·refine h.rest o f λk r a=>c k r ?_
   rcases a with a|a
   ·exact de a
   ·exact df ⟨a.1,by omega⟩
  ·have:=c G R (df ⟨rfl,by omega⟩);unfold aga at this;omega
def b7.done(h:b7 pn np S dl G np cs):b7 pn np S dl (G+1) 0 cs:=by
 have e:∀k r,OnT np (G+1) 0 k r↔OnT np G np k r:=λk r=>by
  unfold OnT
  grind
 exact⟨h.size,λk r j a=>h.put k r j ((e k r).1 a),λo b c=>h.rest o b λk r a=>c k r ((e k r).2 a)⟩
def b7.at{n k p j:Nat}(h:b7 pn np S dl n 0 cs)(a:k<n)(b:p<np)(hs:S k<np)(c:j<5):cs[k*25+p*5+j]?=some (cb c9 (vsV pn np (S k) (dl k) (ac3 np (S k) p) j)):=by
 have:=h.put k (ac3 np (S k) p) j (de ⟨a,Q2 (by omega)⟩) c;rwa[afC b hs]at this
end
structure h_ where
 l:Int
 p:Int
 b2:Option Addr
 n2:Nat
 c2:Nat
 b3:Option Addr
 n3:Nat
 c3:Nat
 k4:Nat
 o4:Nat
 np:Nat
 c4:Nat
 b5:Option Addr
 k5:Nat
 o5:Nat
 n:Nat
 c5:Nat
 pn:Nat->Nat->Int
 S:Nat->Nat
 dl:Nat->Int
 nm:Nat->ByteArray
 gn:Nat->ByteArray
 lb:Nat->Option Addr
 ll:Nat->Nat
 lc:Nat->Nat
abbrev h_.arr(T:h_):Array Value:=#[cb c9 T.l,cb c9 T.p,ce T.b2 T.n2 T.c2,ce T.b3 T.n3 T.c3,ce (some ⟨T.k4,T.o4,none⟩) T.np T.c4,ce T.b5 T.n T.c5]
def h_.G8(T:h_)(i:Nat):Nat->Value
 |0=>cf (T.nm i)
 |11=>ce (T.lb i) (T.ll i) (T.lc i)
 |j=>cb c9 (T.pn i j)
def h_.PM(T:h_)(k:Nat):Nat->Value
 |0=>cf (T.gn k)
 |1=>cb c9 (T.S k:Int)
 |_=>cb c9 (T.dl k)
structure h_.In(T:h_)(w:World):Prop where
 lo:2<=T.np/\T.np<=5/\T.n<=3
 h4:T.k4<w.heap.size
 h5:0<T.n->T.b5=some ⟨T.k5,T.o5,none⟩/\T.k5<w.heap.size
 st:∀k,k<T.n->T.S k<T.np
 c4:∀i,i<T.np->∀j,j<12->w.cell? ⟨T.k4,T.o4+i*12+j,none⟩=some (T.G8 i j)
 c5:∀k,k<T.n->∀j,j<3->w.cell? ⟨T.k5,T.o5+k*3+j,none⟩=some (T.PM k j)
open Go.Ph Go.Conc Go.bJ
set_option maxRecDepth 100000
def agc{r:Nat}(b:r<2):j0 2 0 r:=by
 match r,b with
 |0,_|1,_=>exact⟨λD f=>⟨by kernel_rfl,by kernel_rfl⟩,λD O n a gn c f Z e d=>by kernel_rfl,λD O n a gn c f Z=>by kernel_rfl,λD c f=>⟨by kernel_rfl,by kernel_rfl,by kernel_rfl⟩,λD O n a gn c g f Z e d=>by kernel_rfl⟩
def agr{r:Nat}(b:r<2):j0 2 1 r:=by
 match r,b with
 |0,_|1,_=>exact⟨λD f=>⟨by kernel_rfl,by kernel_rfl⟩,λD O n a gn c f Z e d=>by kernel_rfl,λD O n a gn c f Z=>by kernel_rfl,λD c f=>⟨by kernel_rfl,by kernel_rfl,by kernel_rfl⟩,λD O n a gn c g f Z e d=>by kernel_rfl⟩
def ahW{s r:Nat}(hs:s<2)(a:r<2):j0 2 s r:=by
 match s,hs with
 |0,_=>exact agc a
 |1,_=>exact agr a
def alG{s r:Nat}(hs:s<2)(a:r<1):mg 2 s r:=by
 match s,hs,r,a with
 |0,_,0,_|1,_,0,_=>exact⟨λD O n b gn c f Z=>by kernel_rfl⟩
def alH{s:Nat}(hs:s<2):xM 2 s 1:=by
 match s,hs with
 |0,_|1,_=>exact⟨λD O n a gn c b f Z=>⟨by kernel_rfl,by kernel_rfl,by kernel_rfl,by kernel_rfl,by kernel_rfl⟩⟩
def aqR{s:Nat}(hs:s<2):FE 2 s where
 e0 D O n a d:=by kernel_rfl
 b0 D O n:=⟨⟨by kernel_rfl,by kernel_rfl,by kernel_rfl,by kernel_rfl,by kernel_rfl⟩,by kernel_rfl⟩
 h0 D O n:=by kernel_rfl
 e1 D O n a d:=by kernel_rfl
 c1 D O n:=⟨by kernel_rfl,by kernel_rfl,by kernel_rfl⟩
 e2 D O n x a d:=by kernel_rfl
 c2 D O n x:=⟨by kernel_rfl,by kernel_rfl⟩
 e3 D O n c gn x:=by
  match s,hs with
  |0,_|1,_=>intro a d;kernel_rfl
 r0 D O n c gn x:=by
  match s,hs with
  |0,_|1,_=>show _=_;kernel_rfl
 round r b:=ahW hs b
 next r b:=alG hs (by omega)
 last r b:=by
  obtain rfl:r=1:=by omega
  exact alH hs
def ags{r:Nat}(b:r<3):j0 3 0 r:=by
 match r,b with
 |0,_|1,_|2,_=>exact⟨λD f=>⟨by kernel_rfl,by kernel_rfl⟩,λD O n a gn c f Z e d=>by kernel_rfl,λD O n a gn c f Z=>by kernel_rfl,λD c f=>⟨by kernel_rfl,by kernel_rfl,by kernel_rfl⟩,λD O n a gn c g f Z e d=>by kernel_rfl⟩
def agt{r:Nat}(b:r<3):j0 3 1 r:=by
 match r,b with
 |0,_|1,_|2,_=>exact⟨λD f=>⟨by kernel_rfl,by kernel_rfl⟩,λD O n a gn c f Z e d=>by kernel_rfl,λD O n a gn c f Z=>by kernel_rfl,λD c f=>⟨by kernel_rfl,by kernel_rfl,by kernel_rfl⟩,λD O n a gn c g f Z e d=>by kernel_rfl⟩
def agu{r:Nat}(b:r<3):j0 3 2 r:=by
 match r,b with
 |0,_|1,_|2,_=>exact⟨λD f=>⟨by kernel_rfl,by kernel_rfl⟩,λD O n a gn c f Z e d=>by kernel_rfl,λD O n a gn c f Z=>by kernel_rfl,λD c f=>⟨by kernel_rfl,by kernel_rfl,by kernel_rfl⟩,λD O n a gn c g f Z e d=>by kernel_rfl⟩
def ahZ{s r:Nat}(hs:s<3)(a:r<3):j0 3 s r:=by
 match s,hs with
 |0,_=>exact ags a
 |1,_=>exact agt a
 |2,_=>exact agu a
def alI{s r:Nat}(hs:s<3)(a:r<2):mg 3 s r:=by
 match s,hs,r,a with
 |0,_,0,_|0,_,1,_|1,_,0,_|1,_,1,_|2,_,0,_|2,_,1,_=>exact⟨λD O n b gn c f Z=>by kernel_rfl⟩
def alJ{s:Nat}(hs:s<3):xM 3 s 2:=by
 match s,hs with
 |0,_|1,_|2,_=>exact⟨λD O n a gn c b f Z=>⟨by kernel_rfl,by kernel_rfl,by kernel_rfl,by kernel_rfl,by kernel_rfl⟩⟩
def aqS{s:Nat}(hs:s<3):FE 3 s where
 e0 D O n a d:=by kernel_rfl
 b0 D O n:=⟨⟨by kernel_rfl,by kernel_rfl,by kernel_rfl,by kernel_rfl,by kernel_rfl⟩,by kernel_rfl⟩
 h0 D O n:=by kernel_rfl
 e1 D O n a d:=by kernel_rfl
 c1 D O n:=⟨by kernel_rfl,by kernel_rfl,by kernel_rfl⟩
 e2 D O n x a d:=by kernel_rfl
 c2 D O n x:=⟨by kernel_rfl,by kernel_rfl⟩
 e3 D O n c gn x:=by
  match s,hs with
  |0,_|1,_|2,_=>intro a d;kernel_rfl
 r0 D O n c gn x:=by
  match s,hs with
  |0,_|1,_|2,_=>show _=_;kernel_rfl
 round r b:=ahZ hs b
 next r b:=alI hs (by omega)
 last r b:=by
  obtain rfl:r=2:=by omega
  exact alJ hs
def agv{r:Nat}(b:r<4):j0 4 0 r:=by
 match r,b with
 |0,_|1,_|2,_|3,_=>exact⟨λD f=>⟨by kernel_rfl,by kernel_rfl⟩,λD O n a gn c f Z e d=>by kernel_rfl,λD O n a gn c f Z=>by kernel_rfl,λD c f=>⟨by kernel_rfl,by kernel_rfl,by kernel_rfl⟩,λD O n a gn c g f Z e d=>by kernel_rfl⟩
def agw{r:Nat}(b:r<4):j0 4 1 r:=by
 match r,b with
 |0,_|1,_|2,_|3,_=>exact⟨λD f=>⟨by kernel_rfl,by kernel_rfl⟩,λD O n a gn c f Z e d=>by kernel_rfl,λD O n a gn c f Z=>by kernel_rfl,λD c f=>⟨by kernel_rfl,by kernel_rfl,by kernel_rfl⟩,λD O n a gn c g f Z e d=>by kernel_rfl⟩
def agx{r:Nat}(b:r<4):j0 4 2 r:=by
 match r,b with
 |0,_|1,_|2,_|3,_=>exact⟨λD f=>⟨by kernel_rfl,by kernel_rfl⟩,λD O n a gn c f Z e d=>by kernel_rfl,λD O n a gn c f Z=>by kernel_rfl,λD c f=>⟨by kernel_rfl,by kernel_rfl,by kernel_rfl⟩,λD O n a gn c g f Z e d=>by kernel_rfl⟩
def agy{r:Nat}(b:r<4):j0 4 3 r:=by
 match r,b with
 |0,_|1,_|2,_|3,_=>exact⟨λD f=>⟨by kernel_rfl,by kernel_rfl⟩,λD O n a gn c f Z e d=>by kernel_rfl,λD O n a gn c f Z=>by kernel_rfl,λD c f=>⟨by kernel_rfl,by kernel_rfl,by kernel_rfl⟩,λD O n a gn c g f Z e d=>by kernel_rfl⟩
def ai2{s r:Nat}(hs:s<4)(a:r<4):j0 4 s r:=by
 match s,hs with
 |0,_=>exact agv a
 |1,_=>exact agw a
 |2,_=>exact agx a
 |3,_=>exact agy a
def alM{s r:Nat}(hs:s<4)(a:r<3):mg 4 s r:=by
 match s,hs,r,a with
 |0,_,0,_|0,_,1,_|0,_,2,_|1,_,0,_|1,_,1,_|1,_,2,_|2,_,0,_|2,_,1,_|2,_,2,_|3,_,0,_|3,_,1,_|3,_,2,_=>exact⟨λD O n b gn c f Z=>by kernel_rfl⟩
def alN{s:Nat}(hs:s<4):xM 4 s 3:=by
 match s,hs with
 |0,_|1,_|2,_|3,_=>exact⟨λD O n a gn c b f Z=>⟨by kernel_rfl,by kernel_rfl,by kernel_rfl,by kernel_rfl,by kernel_rfl⟩⟩
def aqT{s:Nat}(hs:s<4):FE 4 s where
 e0 D O n a d:=by kernel_rfl
 b0 D O n:=⟨⟨by kernel_rfl,by kernel_rfl,by kernel_rfl,by kernel_rfl,by kernel_rfl⟩,by kernel_rfl⟩
 h0 D O n:=by kernel_rfl
 e1 D O n a d:=by kernel_rfl
 c1 D O n:=⟨by kernel_rfl,by kernel_rfl,by kernel_rfl⟩
 e2 D O n x a d:=by kernel_rfl
 c2 D O n x:=⟨by kernel_rfl,by kernel_rfl⟩
 e3 D O n c gn x:=by
  match s,hs with
  |0,_|1,_|2,_|3,_=>intro a d;kernel_rfl
 r0 D O n c gn x:=by
  match s,hs with
  |0,_|1,_|2,_|3,_=>show _=_;kernel_rfl
 round r b:=ai2 hs b
 next r b:=alM hs (by omega)
 last r b:=by
  obtain rfl:r=3:=by omega
  exact alN hs
def agz{r:Nat}(b:r<5):j0 5 0 r:=by
 match r,b with
 |0,_|1,_|2,_|3,_|4,_=>exact⟨λD f=>⟨by kernel_rfl,by kernel_rfl⟩,λD O n a gn c f Z e d=>by kernel_rfl,λD O n a gn c f Z=>by kernel_rfl,λD c f=>⟨by kernel_rfl,by kernel_rfl,by kernel_rfl⟩,λD O n a gn c g f Z e d=>by kernel_rfl⟩
def agA{r:Nat}(b:r<5):j0 5 1 r:=by
 match r,b with
 |0,_|1,_|2,_|3,_|4,_=>exact⟨λD f=>⟨by kernel_rfl,by kernel_rfl⟩,λD O n a gn c f Z e d=>by kernel_rfl,λD O n a gn c f Z=>by kernel_rfl,λD c f=>⟨by kernel_rfl,by kernel_rfl,by kernel_rfl⟩,λD O n a gn c g f Z e d=>by kernel_rfl⟩
def agB{r:Nat}(b:r<5):j0 5 2 r:=by
 match r,b with
 |0,_|1,_|2,_|3,_|4,_=>exact⟨λD f=>⟨by kernel_rfl,by kernel_rfl⟩,λD O n a gn c f Z e d=>by kernel_rfl,λD O n a gn c f Z=>by kernel_rfl,λD c f=>⟨by kernel_rfl,by kernel_rfl,by kernel_rfl⟩,λD O n a gn c g f Z e d=>by kernel_rfl⟩
def agC{r:Nat}(b:r<5):j0 5 3 r:=by
 match r,b with
 |0,_|1,_|2,_|3,_|4,_=>exact⟨λD f=>⟨by kernel_rfl,by kernel_rfl⟩,λD O n a gn c f Z e d=>by kernel_rfl,λD O n a gn c f Z=>by kernel_rfl,λD c f=>⟨by kernel_rfl,by kernel_rfl,by kernel_rfl⟩,λD O n a gn c g f Z e d=>by kernel_rfl⟩
def agD{r:Nat}(b:r<5):j0 5 4 r:=by
 match r,b with
 |0,_|1,_|2,_|3,_|4,_=>exact⟨λD f=>⟨by kernel_rfl,by kernel_rfl⟩,λD O n a gn c f Z e d=>by kernel_rfl,λD O n a gn c f Z=>by kernel_rfl,λD c f=>⟨by kernel_rfl,by kernel_rfl,by kernel_rfl⟩,λD O n a gn c g f Z e d=>by kernel_rfl⟩
def ai3{s r:Nat}(hs:s<5)(a:r<5):j0 5 s r:=by
 match s,hs with
 |0,_=>exact agz a
 |1,_=>exact agA a
 |2,_=>exact agB a
 |3,_=>exact agC a
 |4,_=>exact agD a
def alO{s r:Nat}(hs:s<5)(a:r<4):mg 5 s r:=by
 match s,hs,r,a with
 |0,_,0,_|0,_,1,_|0,_,2,_|0,_,3,_|1,_,0,_|1,_,1,_|1,_,2,_|1,_,3,_|2,_,0,_|2,_,1,_|2,_,2,_|2,_,3,_|3,_,0,_|3,_,1,_|3,_,2,_|3,_,3,_|4,_,0,_|4,_,1,_|4,_,2,_|4,_,3,_=>exact⟨λD O n b gn c f Z=>by kernel_rfl⟩
def alQ{s:Nat}(hs:s<5):xM 5 s 4:=by
 match s,hs with
 |0,_|1,_|2,_|3,_|4,_=>exact⟨λD O n a gn c b f Z=>⟨by kernel_rfl,by kernel_rfl,by kernel_rfl,by kernel_rfl,by kernel_rfl⟩⟩
def aqU{s:Nat}(hs:s<5):FE 5 s where
 e0 D O n a d:=by kernel_rfl
 b0 D O n:=⟨⟨by kernel_rfl,by kernel_rfl,by kernel_rfl,by kernel_rfl,by kernel_rfl⟩,by kernel_rfl⟩
 h0 D O n:=by kernel_rfl
 e1 D O n a d:=by kernel_rfl
 c1 D O n:=⟨by kernel_rfl,by kernel_rfl,by kernel_rfl⟩
 e2 D O n x a d:=by kernel_rfl
 c2 D O n x:=⟨by kernel_rfl,by kernel_rfl⟩
 e3 D O n c gn x:=by
  match s,hs with
  |0,_|1,_|2,_|3,_|4,_=>intro a d;kernel_rfl
 r0 D O n c gn x:=by
  match s,hs with
  |0,_|1,_|2,_|3,_|4,_=>show _=_;kernel_rfl
 round r b:=ai3 hs b
 next r b:=alO hs (by omega)
 last r b:=by
  obtain rfl:r=4:=by omega
  exact alQ hs
end Go.Proofs
