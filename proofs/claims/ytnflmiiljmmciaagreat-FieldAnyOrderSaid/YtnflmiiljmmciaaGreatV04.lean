/- Part of the proof of FieldAnyOrder. -/
import Derived.Test.YtnflmiiljmmciaaGreatV03
set_option linter.all false
open Go renaming Goroutine->aa,Value->ac,Addr->ad,World->ai,Item->aF,FuncId->aH,Tables->aI,TypeId->aL,Func->aP,Frame->aT,LoopState->a7,Operand->a8,setRow_other->a9,setRow_heap->bb,Code->bi,Program->bj,GoStatus->bq,GStep->bv,Oper->bC,execOp->bL,Next->bM,Trace->bR,eqGuard->bT,run_underlying->b8,TypeDesc->b9,Field->cb,TypeInfo->cd,sizeOf->ce,typeInfo->cf,loadCellsFrom->ch,run_load->ci,loadVar->cl,zeroValue->cm
open Bool renaming rec->co,not_false->cq
open Nat renaming beq->ct,le_trans->cv,lt_of_lt_of_le->cB,le_refl->cC,mod_lt->cQ,div_add_mod->c8,mul_sub->c9,le_mul_of_pos_right->da,pos_of_ne_zero->db,lt_or_ge->dd,zero_add->df,not_lt_zero->dk,zero_le->dp,mod_eq_of_lt->dq,add_mod_right->dt,add_zero->du,zero_mul->dv,lt_irrefl->dx
open Go.Frame renaming enter->dC,finish->dL
open ByteArray renaming empty->dO
open Go.Obj renaming cells->dQ,deferred->dT,loop->dU
open Go.bJ renaming codeOk->d8
open Go.Ph renaming Clear->d9,nobody->eb,fin->ec,uu->ed,xH->eg,dY->eh
open List renaming range->ei,mem_toArray->ej,mem_cons->el,not_mem_nil->em,range_succ_eq_map->ep,replicate->eq,range'->et,map_toArray->eu,map_cons->eA,map_nil->eD
open Go.World renaming cell?->eE,size_alloc->eF,putObj_heap_other->eI,alloc_heap_new->eM
open Go.Proofs.Tryz renaming progTables->eN,funcs->eQ,f73->eS,func73->eT,f29->eV,func29->eW
open Go.ConcM renaming MuAt->eX,OsLater->e6
open Go.ConcR renaming WgAt->e7,stA->e8
open Int renaming toNat_natCast->fb
open Ne renaming symm->fg
open Go.Value renaming int->fi,agg->fl,cells->fm,string->fo,func->fp,slice->ft,pointer->fJ,bool->fO,tuple->fP
open Go.Instr renaming box->fR,field->fY,build->f2,fill->f3
open Array renaming getElem?_push_size->f5,ext_getElem?->f6,getElem?_eq_none->f7,ext'->f8
open Go.Conc renaming Past->f9,mem_of_getElem?->gc,Leavers->ge
open Option.some renaming inj->gf,injEq->gg
open Go.Program renaming mk->gj
open Go.Sem renaming runT_fst->gp,run_bind->gr
open Go.Op renaming stringOp->gt,intCmp->gw,equalIn->gB,call->gD,indexAddr->gE,load->gG,store->g2,alloc->g7,binOp->g8,field->g9,build->he,move->hh
open Go.Builtin renaming len_->hm
open Go.Result renaming andThen->hq,ok->hr,halt->ht
open Function renaming comp_def->hu
open Go.ConcN renaming upd_same->hG,upd_ne->hH
open Go.Fn renaming func->hI,yield->hJ
open Go.IntKind renaming i64->hK
open Go.CallKind renaming normal->hM,deferred->hN
open Go.FrameMode renaming run->hO,returning->hS
open Go.Operand renaming tmp->hT,const->hV
open Or renaming inl->hY,inr->hZ
open Go.LoopState renaming ready->h6,busy->h7,exhausted->h8
open Go.TypeDesc renaming slice->ib,struct->ih,array->ii
open Go.GoStatus renaming running->ik
open Go.Item renaming code->il,inLoop->im,inBlock->io
open Go.Code renaming skip->ip,region->ix,seq->iB,cond->iC,exit->iN,loop->iP
open Go.Next renaming value->iU
open Go.BinOp renaming xor->iY,add->i0,eql->i1,leq->i2,lss->i4
set_option maxRecDepth 100000
namespace Go.Proofs
open Go.Ph Go.Conc Go.bJ
noncomputable def yieldOf(g:aa):Option (Array ac):=match bF g with
 |some o=>match o.op with
  |gD c=>match c.callee with
   |.value x=>match g.frame.eval x with
    |fp (hI f) _ _=>@co (λ_=>Option (Array ac)) none (some (c.args.map g.frame.eval)) (ct f cn)
    |_=>none
   |_=>none
  |_=>none
 |none=>none
noncomputable def PK(g:aa):Option (Nat×ac×ac):=match bF g with
 |some o=>match o.op with
  |gE t x i=>@co (λ_=>Option (Nat×ac×ac)) none (some (0,g.frame.eval x,g.frame.eval i)) (ct t 25)
  |gG t x=>@co (λ_=>Option (Nat×ac×ac)) (@co (λ_=>Option (Nat×ac×ac)) none (some (2,g.frame.eval x,undef)) (ct t 88)) (some (1,g.frame.eval x,undef)) (ct t 32)
  |_=>none
 |none=>none
noncomputable def oU(g:aa):Bool:=!BS g||(yieldOf g).isSome||(PK g).isSome
structure jB where
 l:Int
 p:Int
 so:Option ad
 sl:Nat
 sc:Nat
 qo:Option ad
 ql:Nat
 qc:Nat
 pb:Nat
 po:Nat
 cp:Nat
 gb:Nat
 go:Nat
 ng:Nat
 cg:Nat
 pe:Nat->ByteArray
 pn:Nat->Nat->Int
 pl:Nat->Option ad
 pc:Nat->Nat
 pd:Nat->Nat
section
variable (np s:Nat)(D:jB)(O:Nat->Obj)(n dl:Int)(gn:ByteArray)(x:Nat)
def cA:Array ac:=#[fi hK D.l,fi hK D.p,ft D.so D.sl D.sc,ft D.qo D.ql D.qc,ft (some ⟨D.pb,D.po,none⟩) np D.cp,ft (some ⟨D.gb,D.go,none⟩) D.ng D.cg]
def pA(i:Nat):Array ac:=#[fo (D.pe i),fi hK (D.pn i 1),fi hK (D.pn i 2),fi hK (D.pn i 3),fi hK (D.pn i 4),fi hK (D.pn i 5),fi hK (D.pn i 6),fi hK (D.pn i 7),fi hK (D.pn i 8),fi hK (D.pn i 9),fi hK (D.pn i 10),ft (D.pl i) (D.pc i) (D.pd i)]
def gA:Array ac:=#[fo gn,fi hK (s:Int),fi hK dl]
def bY(r:Nat):Nat:=(s+r) % np
def zs(Z:Nat->Obj):Nat->List Obj->List Obj
 |0,l=>l
 |1,l=>Z 0::Z 1::Z 2::Z 3::Z 4::Z 5::l
 |2,l=>Z 0::Z 1::Z 2::Z 3::Z 4::Z 5::Z 6::Z 7::Z 8::Z 9::Z 10::Z 11::l
 |3,l=>Z 0::Z 1::Z 2::Z 3::Z 4::Z 5::Z 6::Z 7::Z 8::Z 9::Z 10::Z 11::Z 12::Z 13::Z 14::Z 15::Z 16::Z 17::l
 |_,l=>Z 0::Z 1::Z 2::Z 3::Z 4::Z 5::Z 6::Z 7::Z 8::Z 9::Z 10::Z 11::Z 12::Z 13::Z 14::Z 15::Z 16::Z 17::Z 18::Z 19::Z 20::Z 21::Z 22::Z 23::l
noncomputable def wL0(a:Nat)(O:Nat->Obj):ai:={ (default:ai) with heap:=#[O 0,O 1,O 2,O 3,O 4,O 5,O 6,O 7,O 8,O 9] }
noncomputable def gL0:aa:=G (dC PP 49 #[fl (cA np D),fi hK n] hM) [default]
noncomputable def A0:aa×ai:=Jp PP oU 300 (gL0 np D n) (wL0 np O)
noncomputable def gL1(a:Nat):aa:=G (dC PP 73 #[fp (hI (cn+0)) #[] #[],fJ (some ⟨10,0,none⟩),fJ (some ⟨11,0,none⟩)] hM) [default]
noncomputable def A1:aa×ai:=Jp PP oU 300 (gL1 np) (A0 np D O n).2
noncomputable def A2:aa×ai:=Jp PP oU 300 (fin (A1 np D O n).1 (fJ (some ⟨D.gb,x,none⟩))) (A1 np D O n).2
noncomputable def A3:aa×ai:=Jp PP oU 300 (fin (A2 np D O n x).1 (fl (gA s dl gn))) (A2 np D O n x).2
noncomputable def Y6:List aF:=(A3 3 0 ⟨0,0,none,0,0,none,0,0,0,0,3,0,0,2,2,λ_=>dO,λ_ _=>0,λ_=>none,λ_=>0,λ_=>0⟩ (λ_=>dT none) 0 0 dO 0).1.frame.todo
def aje(np a r b c:Nat)(f:Nat->ac):Array ac:=#[fp (hI (cn+0)) #[] #[],fJ (some ⟨10,0,none⟩),fJ (some ⟨11,0,none⟩),f 3,fJ (some ⟨12,0,none⟩),fJ (some ⟨13,0,none⟩),fp (hI 74) #[] #[fJ (some ⟨13,0,none⟩)],fi hK (a:Int),f 8,f 9,f 10,f 11,f 12,f 13,f 14,f 15,f 16,f 17,f 18,f 19,f 20,f 21,f 22,f 23,f 24,f 25,f 26,fi hK (np:Int),fi hK (r:Int),f 29,f 30,f 31,f 32,f 33,fJ (some ⟨b,c+12*a,none⟩),f 35,f 36,f 37,f 38,f 39,f 40,f 41,f 42,f 43,f 44,f 45,f 46,f 47,f 48,f 49,f 50,f 51,f 52,f 53,f 54,f 55,f 56,f 57,f 58,f 59,f 60]
noncomputable def gR(r:Nat)(f:Nat->ac):aa:=G ⟨73,aje np (bY np s r) r D.pb D.po f,Y6,[],hO,hM,none⟩ [default]
noncomputable def wR(r:Nat)(c:Int×Int)(Z:Nat->Obj):ai:={ (default:ai) with heap:=(O 0::O 1::O 2::O 3::O 4::O 5::O 6::O 7::O 8::O 9::dQ (cA np D) 77::dQ #[fi hK n] 3::dQ (gA s dl gn) 32::dQ #[fi hK c.1,fi hK c.2] 56::zs Z r []).toArray }
noncomputable def Y7:jB:=⟨0,0,none,0,0,none,0,0,0,0,3,0,0,2,2,λ_=>dO,λ_ _=>0,λ_=>none,λ_=>0,λ_=>0⟩
noncomputable def Y8:List aF:=(Jp PP oU 600 (fin (A3 3 0 Y7 (λ_=>dT none) 0 0 dO 0).1 (fl (pA Y7 0))) (A3 3 0 Y7 (λ_=>dT none) 0 0 dO 0).2).1.frame.todo
def l9(r:Nat)(c:Int×Int):Int×Int:=(IntKind.i64.wrap (c.1+D.pn (bY np s r) 7),IntKind.i64.wrap (c.2+D.pn (bY np s r) 8))
def cG(r:Nat)(c:Int×Int):Array ac:=#[fi hK ((bY np s r:Nat):Int),fi hK c.1,fi hK c.2,fi hK (l9 np s D r c).1,fi hK (l9 np s D r c).2]
def FY(np a r:Nat)(v:ac)(f:Nat->ac):Array ac:=#[fp (hI (cn+0)) #[] #[],fJ (some ⟨10,0,none⟩),fJ (some ⟨11,0,none⟩),f 3,fJ (some ⟨12,0,none⟩),fJ (some ⟨13,0,none⟩),fp (hI 74) #[] #[fJ (some ⟨13,0,none⟩)],fi hK (a:Int),fJ (some ⟨14+6*r,0,none⟩),f 9,f 10,f 11,f 12,f 13,f 14,f 15,f 16,f 17,f 18,f 19,f 20,f 21,f 22,f 23,f 24,f 25,f 26,fi hK (np:Int),fi hK (r:Int),f 29,f 30,f 31,f 32,f 33,f 34,f 35,f 36,f 37,f 38,f 39,f 40,f 41,f 42,f 43,fp (hI (cn+0)) #[] #[],v,f 46,f 47,f 48,f 49,f 50,f 51,f 52,f 53,f 54,f 55,f 56,f 57,f 58,f 59,f 60]
noncomputable def gY(r:Nat)(c:Int×Int)(f:Nat->ac):aa:=G ⟨73,FY np (bY np s r) r (fl (cG np s D r c)) f,Y8,[],hO,hM,none⟩ [default]
noncomputable def wY(r:Nat)(c:Int×Int)(Z:Nat->Obj):ai:={ (default:ai) with heap:=(O 0::O 1::O 2::O 3::O 4::O 5::O 6::O 7::O 8::O 9::dQ (cA np D) 77::dQ #[fi hK n] 3::dQ (gA s dl gn) 32::dQ #[fi hK c.1,fi hK c.2] 56::zs Z r [dQ (pA D (bY np s r)) 88,Z (6*r+1),Z (6*r+2),Z (6*r+3)]).toArray }
noncomputable def Yd(g:aa)(w:ai)(r:Nat):aa×ai:=Jp PP oU 600 (fin g (fl (pA D (bY np s r)))) w
noncomputable def Nx(g:aa)(w:ai):aa×ai:=Jp PP oU 300 (fin g (fO true)) w
def WZ(r:Nat)(c:Int×Int):Int×Int:=(IntKind.i64.wrap ((l9 np s D r c).1+D.pn (bY np s r) 9),IntKind.i64.wrap ((l9 np s D r c).2+D.pn (bY np s r) 10))
abbrev Good(b:Nat)(m:Nat)(g:aa)(w:ai):Prop:=∀a d,DO PP (10) oU a d m g w=DQ PP (10) oU a d m g w
structure Y9(f:aH)(g:aa):Prop where
 fn:g.frame.fn=f
 mode:g.frame.mode=hS
 kind:g.frame.kind=hM
 defers:g.frame.defers=[]
 callers:g.callers=[default]
end
noncomputable def ahy(q:aa×ai):Nat->ac:=λi=>q.1.frame.tmps[i]!
noncomputable def ahz(q:aa×ai):Nat->Obj:=λi=>q.2.heap[14+i]!
structure j0(np s r:Nat):Prop where
 c3:∀D f,(bF (gR np s D r f)).map (·.op)=some (gG 88 (hT 34))/\(gR np s D r f).frame.eval (hT 34)=fJ (some ⟨D.pb,D.po+12*bY np s r,none⟩)
 e4:∀D O n dl gn c f Z,Good np 600 (fin (gR np s D r f) (fl (pA D (bY np s r)))) (wR np s D O n dl gn r c Z)
 y:∀D O n dl gn c f Z,Yd np s D (gR np s D r f) (wR np s D O n dl gn r c Z) r=(gY np s D r c (ahy (Yd np s D (gR np s D r f) (wR np s D O n dl gn r c Z) r)),wY np s D O n dl gn r (l9 np s D r c) (ahz (Yd np s D (gR np s D r f) (wR np s D O n dl gn r c Z) r)))
 c4:∀D c f,(bF (gY np s D r c f)).map (·.op)=some (gD { callee:=.value (hT 44),args:=#[hT 45],argTypes:=#[72] })/\(gY np s D r c f).frame.eval (hT 44)=fp (hI (cn+0)) #[] #[]/\(gY np s D r c f).frame.eval (hT 45)=fl (cG np s D r c)
 e5:∀D O n dl gn c c' f Z,Good np 300 (fin (gY np s D r c f) (fO true)) (wY np s D O n dl gn r c' Z)
def j0.y'{np s r:Nat}(h:j0 np s r)(D:jB)(O n dl gn c f Z):∃f' a,Yd np s D (gR np s D r f) (wR np s D O n dl gn r c Z) r=(gY np s D r c f',wY np s D O n dl gn r (l9 np s D r c) a):=⟨_,_,h.y D O n dl gn c f Z⟩
structure mg(np s r:Nat):Prop where
 next:∀D O n dl gn c f Z,Nx (gY np s D r c f) (wY np s D O n dl gn r (l9 np s D r c) Z)=(gR np s D (r+1) (ahy (Nx (gY np s D r c f) (wY np s D O n dl gn r (l9 np s D r c) Z))),wR np s D O n dl gn (r+1) (WZ np s D r c) (ahz (Nx (gY np s D r c f) (wY np s D O n dl gn r (l9 np s D r c) Z))))
def mg.next'{np s r:Nat}(h:mg np s r)(D:jB)(O n dl gn c f Z):∃f' a,Nx (gY np s D r c f) (wY np s D O n dl gn r (l9 np s D r c) Z)=(gR np s D (r+1) f',wR np s D O n dl gn (r+1) (WZ np s D r c) a):=⟨_,_,h.next D O n dl gn c f Z⟩
structure xM(np s r:Nat):Prop where
 back:∀D O n dl gn c c' f Z,Y9 73 (Nx (gY np s D r c f) (wY np s D O n dl gn r c' Z)).1
structure FE(np s:Nat):Prop where
 e0:∀D O n,Good np 300 (gL0 np D n) (wL0 np O)
 b0:∀D O n,Y9 49 (A0 np D O n).1/\(A0 np D O n).1.frame.tmps.getD 4 undef=fp (hI 73) #[] #[fJ (some ⟨10,0,none⟩),fJ (some ⟨11,0,none⟩)]
 h0:∀D O n,(A0 np D O n).2.heap[0]?=some (O 0)
 e1:∀D O n,Good np 300 (gL1 np) (A0 np D O n).2
 c1:∀D O n,(bF (A1 np D O n).1).map (·.op)=some (gE 25 (hT 12) (hT 13))/\(A1 np D O n).1.frame.eval (hT 12)=ft (some ⟨D.gb,D.go,none⟩) D.ng D.cg/\(A1 np D O n).1.frame.eval (hT 13)=fi hK n
 e2:∀D O n x,Good np 300 (fin (A1 np D O n).1 (fJ (some ⟨D.gb,x,none⟩))) (A1 np D O n).2
 c2:∀D O n x,(bF (A2 np D O n x).1).map (·.op)=some (gG 32 (hT 14))/\(A2 np D O n x).1.frame.eval (hT 14)=fJ (some ⟨D.gb,x,none⟩)
 e3:∀D O n dl gn x,Good np 300 (fin (A2 np D O n x).1 (fl (gA s dl gn))) (A2 np D O n x).2
 r0:∀D O n dl gn x,A3 np s D O n dl gn x=(gR np s D 0 (ahy (A3 np s D O n dl gn x)),wR np s D O n dl gn 0 (dl,dl) (ahz (A3 np s D O n dl gn x)))
 round:∀r,r<np->j0 np s r
 next:∀r,r+1<np->mg np s r
 last:∀r,r+1=np->xM np s r
def FE.r0'{np s:Nat}(h:FE np s)(D:jB)(O n dl gn x):∃f' a,A3 np s D O n dl gn x=(gR np s D 0 f',wR np s D O n dl gn 0 (dl,dl) a):=⟨_,_,h.r0 D O n dl gn x⟩
end Go.Proofs
namespace Go.Ph
open Go.Conc Go.ConcN Go.bJ
structure LW(T:aI)(F:aH->Bool)(Z:aL->Bool)(X:Fix)(V:Vw)(Bs:Nat)(ρ:Ren)(M:Own)(wL w:ai):Prop where
 inj:ρ.bw T.globals.size
 wr:WC Bs T.globals.size F (d8 T F Z) ρ wL w
 own:StO V M Bs ρ
 clear:d9 X V M
 sG:∀b,V.st b->b<w.heap.size/\¬M b
section
variable {T:aI}{fB fA:Array aP}{F:aH->Bool}{Z:aL->Bool}{X:Fix}{V:Vw}{Bs:Nat}{bot:aT}{up:List aT}{ρ ρ':Ren}{M M':Own}{g g':aa}{wL w w':ai}
def iG.lw(h:iG T fB fA F Z bot up X V Bs ρ M g wL g' w):LW T F Z X V Bs ρ M wL w:=⟨h.inj,h.wr,h.own,h.clear,h.sG⟩
def LW.like(h:LW T F Z X V Bs ρ M wL w)(k:GC T fB fA F Z bot up ρ g g'):iG T fB fA F Z bot up X V Bs ρ M g wL g' w:=⟨h.inj,h.wr,k,h.own,h.clear,h.sG⟩
def LW.loop(h:LW T F Z X V Bs ρ M wL w)(u:T.globals.size=0)(v:∀b,¬ρ 0 b)(z:0<Bs){lL l':Loop}{lb:Nat}(r:wL.heap[0]?=some (dU lL))(hl:w'.heap[lb]?=some (dU l'))(A:w.heap.size<=lb)(j:∀b,M b->M' b)(d:M' lb)
 (hc:d9 X V M') (hd:∀b,V.st b->¬M' b) (hs:w.heap.size<=w'.heap.size) (hb:∀b,b<w.heap.size->w'.heap[b]?=w.heap[b]?):LW T F Z X V Bs (λa b=>ρ a b\/(a=0/\b=lb)) M' wL w':=by
 have e:∀{a b},ρ a b->b<w.heap.size:=λt=>(h.wr.lt t).2;refine⟨⟨λ{a b b'}x y=>?_,λ{a B b}x y=>?_,λ{a b}_=>ab⟩,⟨h.wr.pK,cv h.wr.gN hs,h.wr.base,λ{a b}c f=>?_,λ{a b}c f=>?_⟩,⟨λa b c i=>?_,λa b c i=>?_⟩,hc,λb k=>⟨cB (h.sG b k).1 hs,hd b k⟩⟩
 .rcases x with x|⟨x1,x2⟩<;>rcases y with y|⟨y1,y2⟩
  .exact h.inj.fn x y
  .grind
  .grind
  .rw[x2,y2]
 .rcases x with x|⟨x1,x2⟩<;>rcases y with y|⟨y1,y2⟩
  .exact h.inj.inj x y
  .have:=e x;omega
  .have:=e y;omega
  .rw[x1,y1]
 .rcases c with c|⟨rfl,_⟩
  .obtain⟨o,l,m,p,q⟩:=h.wr.obj c f;exact⟨o,l,m,by rw[hb b (e c)];exact p,q.mono λ_ _ x=>hY x⟩
  .omega
 .rcases c with c|⟨rfl,rfl⟩
  .obtain⟨o,l,m,p,q⟩:=h.wr.low c f;grind
  .exact⟨_,_,r,hl,.loop _ _⟩
 .rcases c with c|⟨_,rfl⟩
  .exact(h.own.st a b c i).imp id (j b)
  .exact hZ d
 .rcases c with c|⟨rfl,_⟩
  .exact j b (h.own.own a b c i)
  .omega
end
end Go.Ph
namespace Go.Proofs
open Go.Ph Go.Conc Go.ConcN Go.bJ
def bl(o:Option ad)(l c:Nat):List Nat:=if l=0/\c=0 then[] else o.toList.map (·.block)
def dR(a:Nat)(D:jB):List Nat:=D.pb::D.gb::(bl D.so D.sl D.sc++bl D.qo D.ql D.qc++(ei 5).flatMap λi=>bl (D.pl i) (D.pc i) (D.pd i))
def Jz(np:Nat)(D:jB)(b:Nat):Nat:=1+(dR np D).idxOf b
def Uy(np:Nat)(D:jB)(a:ad):ad:=⟨Jz np D a.block,a.off,a.spot⟩
def lsl(np:Nat)(D:jB)(o:Option ad)(l c:Nat):Option ad:=if l=0/\c=0 then o.map λa=>⟨0,N1 a,none⟩ else o.map (Uy np D)
def aW(np:Nat)(D:jB):jB:={ D with so:=lsl np D D.so D.sl D.sc,qo:=lsl np D D.qo D.ql D.qc,pb:=Jz np D D.pb,gb:=Jz np D D.gb,pl:=λi=>lsl np D (D.pl i) (D.pc i) (D.pd i) }
def sI(np:Nat)(D:jB):Ren:=λa b=>b∈dR np D/\a=Jz np D b
noncomputable def hU(np:Nat)(D:jB)(w0:ai):Nat->Obj
 |0=>dU default
 |a+1=>match(dR np D)[a]? with
  |some b=>match w0.heap[b]? with
   |some (dQ c t d)=>dQ c t d
   |_=>dU default
  |none=>dU default
structure zl(X:Fix)(V:Vw)(D:jB)(np s n:Nat)(dl:Int)(gn:ByteArray)(bc bg bt:Nat)(w0:ai):Prop where
 hP:X.P=PP
 hg:(V.g==0)=false
 ids:WO X
 apart:∀b,V.st b->jm X b
 shun:∀b,V.st b->∀a':ad,a'.block=b->¬X.Shun (.cell a')
 n3:X.n<=3
 sz:X.size=75
 low:∀b,V.st b->b<w0.heap.size
 bc:V.st bc/\w0.heap[bc]?=some (dQ (cA np D) 77)
 bg:V.st bg/\w0.cell? ⟨bg,0,none⟩=some (fi hK (n:Int))
 bt:V.st bt/\w0.cell? ⟨bt,0,none⟩=some (fJ (some ⟨X.Tb,0,none⟩))
 blk:∀b,b∈dR np D->V.st b/\∃o,w0.heap[b]?=some o
 G8:∀i,i<np->∀j,j<12->w0.cell? ⟨D.pb,D.po+12*i+j,none⟩=(pA D i)[j]?
 PM:∀j,j<3->w0.cell? ⟨D.gb,D.go+3*n+j,none⟩=(gA s dl gn)[j]?
 hn:n<3
 Zb:n<D.ng
 hs:s<np
 MC:np<=5
 row:∀j,n*25<=j->j<n*25+25->V.row j
structure Kn(X:Fix)(V:Vw)(w0 w:ai):Prop where
 live:Live X w
 st:∀b,V.st b->w.heap[b]?=w0.heap[b]?
 size:w0.heap.size<=w.heap.size
section
variable {X:Fix}{V:Vw}{D:jB}{np s n:Nat}{dl:Int}{gn:ByteArray}{bc bg bt:Nat}{w0 w w':ai}{M:Own}{ρ:Ren}
def Kn.rl(h:Kn X V w0 w)(r:Rl X V M w w'):Kn X V w0 w':=⟨r.live h.live,λb hb=>(r.st b hb).trans (h.st b hb),cv h.size r.size⟩
def Kn.stay(h:Kn X V w0 w)(r:qw X V (10) ρ M w w')(l:Live X w'):Kn X V w0 w':=⟨l,λb hb=>(r.st b hb).trans (h.st b hb),cv h.size r.size⟩
def Kn.cell(h:Kn X V w0 w){b o:Nat}(hb:V.st b):w.cell? ⟨b,o,none⟩=w0.cell? ⟨b,o,none⟩:=by simp only[eE,h.st b hb]
def zl.clear(k:zl X V D np s n dl gn bc bg bt w0)(a:∀b,M b->jm X b):d9 X V M:=⟨k.ids,k.apart,a⟩
def afZ(o:Option ad)(l c:Nat):(bl o l c).length<=1:=by
 unfold bl;grind
def BW{b:Nat}(h:b∈dR np D):1<=Jz np D b/\Jz np D b<10:=by
 have c:=List.idxOf_lt_length_of_mem h;have d:(dR np D).length<=9:=by
  have f:=afZ D.so D.sl D.sc;have j:=afZ D.qo D.ql D.qc;have a:∀i,(bl (D.pl i) (D.pc i) (D.pd i)).length<=1:=λi=>afZ _ _ _;have a0:=a 0;have a1:=a 1;have a2:=a 2;have a3:=a 3;have a4:=a 4;have e:(ei 5).flatMap (λi=>bl (D.pl i) (D.pc i) (D.pd i))=bl (D.pl 0) (D.pc 0) (D.pd 0)++(bl (D.pl 1) (D.pc 1) (D.pd 1)++(bl (D.pl 2) (D.pc 2) (D.pd 2)++(bl (D.pl 3) (D.pc 3) (D.pd 3)++(bl (D.pl 4) (D.pc 4) (D.pd 4)++[])))):=rfl;unfold dR;grind
 unfold Jz;omega
def BX{b:Nat}(h:b∈dR np D):(dR np D)[(dR np D).idxOf b]?=some b:=by
 grind
def PN:(sI np D).bw 0:=by
 refine⟨λ{a b b'}x y=>?_,λ{a c b}x y=>x.2.trans y.2.symm,λ{a b}_=>ab⟩;have e:(dR np D).idxOf b=(dR np D).idxOf b':=by
  have:=x.2.symm.trans y.2;unfold Jz at this;omega
 have d:=BX x.1;grind
def pW{b:Nat}(h:b∈dR np D):sI np D (Jz np D b) b:=⟨h,rfl⟩
def pX:Tryz.progTables.globals.size=0:=ae
def zl.lw0(k:zl X V D np s n dl gn bc bg bt w0)(h:Kn X V w0 w):LW eN F3 ZZ X V (10) (sI np D) eb (wL0 np (hU np D w0)) w:=by
 have m:(wL0 np (hU np D w0)).heap.size=10:=by simp[wL0]
 refine⟨by rw[pX];exact PN,⟨by rw[pX];omega,by rw[pX];omega,by rw[m];omega,λ{a b}d hb=>?_,λ{a b}d hb=>?_⟩,⟨λa b d _=>hY (k.blk b d.1).1,λa b d hb=>?_⟩,k.clear λb hb=>hb.elim,λb hb=>⟨cB (k.low b hb) h.size,λx=>x⟩⟩
 .have:=(BW d.1).2;have:=d.2;omega
 .obtain⟨i,o,hc⟩:=k.blk b d.1;have p:=BW d.1;rw[<-d.2]at p;have e:a=(dR np D).idxOf b+1:=by rw[d.2];unfold Jz;omega
  have r:(wL0 np (hU np D w0)).heap=((ei 10).map (hU np D w0)).toArray:=rfl;have j:(wL0 np (hU np D w0)).heap[a]?=some (hU np D w0 a):=by
   grind
  by_cases l:∃c t f,o=dQ c t f
  .obtain⟨c,t,f,rfl⟩:=l;refine⟨dQ c t f,dQ c t f,?_,by rw[h.st b i];exact hc,.cells t f rfl⟩;rw[j,e];simp only[hU,BX d.1,hc]
  .have q:∀c t f,o≠dQ c t f:=λc t f e=>l ⟨c,t,f,e⟩;refine⟨dU default,o,?_,by rw[h.st b i];exact hc,.acn _ _ q⟩;rw[j,e];simp only[hU,BX d.1,hc];grind
 .have:=(BW d.1).2;have:=d.2;omega
def BZ{o:Option ad}{l c:Nat}(h:∀b,b∈bl o l c->b∈dR np D):VR F3 (sI np D) (ft (lsl np D o l c) l c) (ft o l c):=by
 unfold lsl;unfold bl at h;split
 .rename_i d;obtain⟨rfl,rfl⟩:=d
  cases o with
  |none=>exact .di _ _
  |some a=>exact .dK _ _
 .rename_i d;rw[if_neg d]at h
  cases o with
  |none=>exact .di _ _
  |some a=>exact .slice _ _ ⟨pW (h _ ar),rfl,rfl⟩
def Zc{b:Nat}(h:b∈bl D.so D.sl D.sc):b∈dR np D:=by simp[dR,h]
def Zd{b:Nat}(h:b∈bl D.qo D.ql D.qc):b∈dR np D:=by simp[dR,h]
def mem_pl{b i:Nat}(hi:i<5)(h:b∈bl (D.pl i) (D.pc i) (D.pd i)):b∈dR np D:=by
 unfold dR;grind
def MD:VA F3 (sI np D) (cA np (aW np D)) (cA np D):=
 .cons (.int _ _) (.cons (.int _ _) (.cons (BZ λ_ h=>Zc h) (.cons (BZ λ_ h=>Zd h) (.cons (.slice _ _ ⟨pW (by simp[dR]),rfl,rfl⟩) (.cons (.slice _ _ ⟨pW (by simp[dR]),rfl,rfl⟩) .nil)))))
def Ze{i:Nat}(hi:i<5):VA F3 (sI np D) (pA (aW np D) i) (pA D i):=
 .cons (.string _) (.cons (.int _ _) (.cons (.int _ _) (.cons (.int _ _) (.cons (.int _ _) (.cons (.int _ _) (.cons (.int _ _) (.cons (.int _ _) (.cons (.int _ _) (.cons (.int _ _) (.cons (.int _ _) (.cons (BZ λ_ h=>mem_pl hi h) .nil)))))))))))
def Zf{ρ:Ren}:VA F3 ρ (gA s dl gn) (gA s dl gn):=.cons (.string _) (.cons (.int _ _) (.cons (.int _ _) .nil))
end
def W6:PP=⟨eN,eQ⟩:=rfl
abbrev LWs(X:Fix)(V:Vw)(np:Nat)(ρ:Ren)(M:Own)(wL w:ai):Prop:=LW eN F3 ZZ X V (10) ρ M wL w
abbrev LK(up:List aT)(X:Fix)(V:Vw)(np:Nat)(ρ:Ren)(M:Own)(g:aa)(wL:ai)(g':aa)(w:ai):Prop:=iG eN eQ eQ F3 ZZ default up X V (10) ρ M g wL g' w
def Xa:∀f,F3 f=true->f<cn:=λf hf=>by
 simp only[F3,Bool.or_eq_true,beq_iff_eq]at hf
 rcases hf with(rfl|rfl)|rfl<;>decide
def Ar{ρ:Ren}{f:aH}(hf:F3 f=true){a a':Array ac}(h:VA F3 ρ a a'):aQ eN F3 ZZ eQ eQ ρ (dC PP f a hM) (dC PP f a' hM):=by
 have e:=fe (T:=eN) (fB:=eQ) (fA:=eQ) (Z:=ZZ) (adR.same f hf) hf h;rw[<-W6]at e;exact e
def Zg:∃fn,PP.funcs[49]?=some fn/\fn.results=#[.tmp 4]:=⟨Tryz.f49,Tryz.func49,rfl⟩
def Zh:∃fn,PP.funcs[73]?=some fn/\fn.results=#[]:=⟨eS,eT,rfl⟩
section
variable {X:Fix}{V:Vw}{D:jB}{np s n:Nat}{dl:Int}{gn:ByteArray}{bc bg bt:Nat}{w0 w w':ai}{M:Own}{ρ:Ren}{Stop:Stp}{d:Nat}{up:List aT}{g g':aa}{wL:ai}{c:aT}{cs:List aT}
def JA(k:zl X V D np s n dl gn bc bg bt w0){m:Nat}{q:aa×ai}(r:q=Jp PP oU m g wL)(hg:Good np m g wL)(h:LK up X V np ρ M g wL g' w)(o:Kn X V w0 w)
 (K:∀i j l w2,LK up X V np i j q.1 q.2 l w2->Kn X V w0 w2->(∀b,M b->j b)->(∀a b,ρ a b->i a b)->(∀a b,i a b->ρ a b\/(10<=a/\w.heap.size<=b))->qw X V (10) ρ M w w2->ay X V false Stop j d l w2):ay X V false Stop M d g' w:=by
 obtain⟨m',p⟩:=Pn default m hg;rw[<-r]at p;exact ay.lone adR (k.hP.trans W6) m' p h o.live λi j l w2 a b c d e f=>K i j l w2 a (o.stay f b) c d e f
def adU{e:Ren}(h:∀a b,e a b->sI np D a b\/(10<=a/\w.heap.size<=b)):∀b,¬e 0 b:=λb x=>by
 rcases h 0 b x with y|y
 .have:=(BW y.1).1;have:=y.2;omega
 .omega
def adV:GC eN eQ eQ F3 ZZ default up (sI np D) (gL0 np (aW np D) n) (G (dC PP 49 #[fl (cA np D),fi hK (n:Int)] hM) up):=by
 have e:=Ar (ρ:=sI np D) (f:=49) ao (a:=#[fl (cA np (aW np D)),fi hK (n:Int)]) (a':=#[fl (cA np D),fi hK (n:Int)]) (.cons (.agg MD) (.cons (.int _ _) .nil));exact⟨e,⟨[],[],rfl,rfl,.nil,λx b=>(by cases b;rfl)⟩,rfl,rfl,rfl,rfl,rfl,rfl⟩
def Zi(k:zl X V D np s n dl gn bc bg bt w0)(j:FE np s)(l:Kn X V w0 w)
 (K:∀ρ M b0 e w2,LWs X V np ρ M (A0 np (aW np D) (hU np D w0) n).2 w2->Kn X V w0 w2->ρ (10) b0->ρ (11) e->(∀a b,sI np D a b->ρ a b)->(∀b,¬ρ 0 b)->qw X V (10) (sI np D) eb w w2->
   ay X V false Stop M 0 (G (c.finish (fp (hI 73) #[] #[pt b0,pt e])) cs) w2) :
 ay X V false Stop eb 0 (G (dC PP 49 #[fl (cA np D),fi hK (n:Int)] hM) (c::cs)) w:=by
 refine JA k (q:=A0 np (aW np D) (hU np D w0) n) (by delta A0;rfl) (j.e0 (aW np D) (hU np D w0) n) ((k.lw0 l).like adV) l λm o H w2 f p _ h i r=>?_;obtain⟨hb,t⟩:=j.b0 (aW np D) (hU np D w0) n;obtain⟨u,rfl,e1,v,x,y,z⟩:=f.back hb.mode hb.defers hb.callers;have hv:=VA.getD z 4 (.undef);rw[t]at hv;obtain⟨b0,e,A,B,C⟩:=Ux f.inj Xa ao hv;obtain⟨fn,E,F⟩:=Zg;refine .leave1 f.clear v x y (by rw[k.hP,e1,hb.fn];exact E) F ?_;rw[C];exact K m o b0 e w2 f.lw p A B h (adU i) r
end
noncomputable def c3(W bc bg bm bt:Nat)(c:ac)(n:Int)(a:ac)(lb:Nat):aT:=⟨55,qJ W bc bg bm bt c n a undef undef (λ_=>undef),.inRangeFunc lb::kk,Pz W (lb-1),hO,hN,none⟩
noncomputable def ajh(W bc bg bm bt:Nat)(c:ac)(n:Int)(a:ac)(lb:Nat)(st:a7):Loop:={ state:=st,pending:=none,fn:=55,tmps:=qJ W bc bg bm bt c n a undef undef (λ_=>undef),params:=#[9],assign:=vl,body:=lZ,defers:=lb-1 }
def Uz:∃fd,PP.funcs[73]?=some fd/\fd.body.isSome=true/\fd.name≠ "runtime.NumGoroutine":=⟨eS,eT,rfl,by decide +kernel⟩
noncomputable abbrev vO(b0 b1:Nat):ac:=fp (hI 73) #[] #[pt b0,pt b1]
abbrev sJ(np:Nat)(D:jB):ac:=fl (cA np D)
noncomputable abbrev xN(X:Fix)(np:Nat)(D:jB)(n bc bg bt b0 b1 lb:Nat):aT:=c3 X.Wg bc bg X.Mu bt (sJ np D) (n:Int) (vO b0 b1) lb
noncomputable abbrev Ti(X:Fix)(np:Nat)(D:jB)(n bc bg bt b0 b1 lb:Nat)(st:a7):Loop:=ajh X.Wg bc bg X.Mu bt (sJ np D) (n:Int) (vO b0 b1) lb st
section
variable {X:Fix}{V:Vw}{D:jB}{np s n:Nat}{dl:Int}{gn:ByteArray}{bc bg bt:Nat}{w0 w w':ai}{M:Own}{ρ:Ren}{Stop:Stp}{d:Nat}{up:List aT}{g g':aa}{wL:ai}{c:aT}{cs:List aT}{bm b0 b1:Nat}
structure Gd(X:Fix)(np:Nat)(D:jB)(n bc bg bt b0 b1:Nat)(ρ:Ren)(M:Own)(lb:Nat)(st:a7)(w:ai):Prop where
 r0:ρ 0 lb
 ml:M lb
 md:M (lb-1)
 pos:1<=lb
 un:∀a,¬ρ a (lb-1)
 hl:w.heap[lb]?=some (dU (Ti X np D n bc bg bt b0 b1 lb st))
 hd:w.heap[lb-1]?=some (dT (some []))
def Gd.rl{lb:Nat}{st:a7}(h:Gd X np D n bc bg bt b0 b1 ρ M lb st w)(r:Rl X V M w w'):Gd X np D n bc bg bt b0 b1 ρ M lb st w':=
 { h with hl:=(r.own _ h.ml).trans h.hl,hd:=(r.own _ h.md).trans h.hd }
def bn{w:ai}{b:Nat}{o:Obj}(h:w.heap[b]?=some o):b<w.heap.size:=(Array.getElem?_eq_some_iff.1 h).1
def Gd.stay{lb:Nat}{st:a7}{e:Ren}{j:Own}(h:Gd X np D n bc bg bt b0 b1 ρ M lb st w)(r:qw X V (10) ρ M w w')(k:∀b,M b->j b)(f:∀a b,ρ a b->e a b)(i:∀a b,e a b->ρ a b\/(10<=a/\w.heap.size<=b)):Gd X np D n bc bg bt b0 b1 e j lb st w':=
 ⟨f _ _ h.r0,k _ h.ml,k _ h.md,h.pos,λa x=>by
   rcases i a _ x with y|y
   .exact h.un a y
   .have:=bn h.hd;omega,(r.low _ _ h.r0 ab).trans h.hl,(r.own _ h.md (bn h.hd) h.un).trans h.hd⟩
def Zj(k:zl X V D np s n dl gn bc bg bt w0)(L:Kn X V w0 w)(m:LWs X V np ρ M (A0 np (aW np D) (hU np D w0) n).2 w)(Q:FE np s)(R:ρ (10) b0)(S:ρ (11) b1)(T:∀b,¬ρ 0 b)(z:∀a b,sI np D a b->ρ a b)
 (K:∀p M' lb w',LK [xN X np D n bc bg bt b0 b1 lb,ez PP] X V np p M' (gL1 np) (A0 np (aW np D) (hU np D w0) n).2 (G (dC PP 73 #[fp (hJ lb) #[] #[],pt b0,pt b1] hM) [xN X np D n bc bg bt b0 b1 lb,ez PP]) w'->Kn X V w0 w'->Gd X np D n bc bg bt b0 b1 p M' lb h6 w'->(∀a b,sI np D a b->p a b)->
   (∀o,V.row o->w'.cell? ⟨X.Tb,o,none⟩=w.cell? ⟨X.Tb,o,none⟩)->ay X V false Stop M' 0 (G (dC PP 73 #[fp (hJ lb) #[] #[],pt b0,pt b1] hM) [xN X np D n bc bg bt b0 b1 lb,ez PP]) w') :
 ay X V false Stop M 0 (G (((k2 X.Wg bc bg X.Mu bt (sJ np D) (n:Int)).callers.headD default).finish (vO b0 b1)) [ez PP]) w:=by
 refine(k_3 X.Wg bc bg X.Mu bt (sJ np D) (n:Int) (vO b0 b1)).run k.hP k.hg ?_;rw[aiZ];obtain⟨fd,hF,hb,U⟩:=Uz;refine .own m.clear rfl L.live λi r=>?_;have zz:=L.rl r;have st:=GZ (P:=PP) (mn:=V.g==0) (w:=i) (fn:=55) (tmps:=qJ X.Wg bc bg X.Mu bt (sJ np D) (n:Int) (vO b0 b1) undef undef (λ_=>undef)) (f:=hT 8) (ps:=#[9]) (assign:=vl) (body:=lZ) (k:=kk) (defers:=rG X.Wg) (kind:=hN) (cs:=[ez PP]) (F:=73) (caps:=#[pt b0,pt b1]) (fd:=fd) rfl (Ju (n:=20) (j:=8) ab) hF hb U;rw[k.hP];have W:M.more i ((i.alloc (dT (some []))).alloc (uw 55 (qJ X.Wg bc bg X.Mu bt (sJ np D) (n:Int) (vO b0 b1) undef undef (λ_=>undef)) #[9] vl lZ i.heap.size))=λb=>M b\/b=i.heap.size\/b=i.heap.size+1:=by
  funext x;unfold Own.more;grind[eF]
 have l:∀b,b<i.heap.size->((i.alloc (dT (some []))).alloc (uw 55 (qJ X.Wg bc bg X.Mu bt (sJ np D) (n:Int) (vO b0 b1) undef undef (λ_=>undef)) #[9] vl lZ i.heap.size)).heap[b]?=i.heap[b]?:=λb hb=>by
  show((i.heap.push _).push _)[b]?=_;grind
 have A:((i.alloc (dT (some []))).alloc (uw 55 (qJ X.Wg bc bg X.Mu bt (sJ np D) (n:Int) (vO b0 b1) undef undef (λ_=>undef)) #[9] vl lZ i.heap.size)).heap[i.heap.size]?=some (dT (some [])):=by
  show((i.heap.push _).push _)[i.heap.size]?=_;grind
 have t:((i.alloc (dT (some []))).alloc (uw 55 (qJ X.Wg bc bg X.Mu bt (sJ np D) (n:Int) (vO b0 b1) undef undef (λ_=>undef)) #[9] vl lZ i.heap.size)).heap[i.heap.size+1]?=some (dU (Ti X np D n bc bg bt b0 b1 (i.heap.size+1) h6)):=by
  have e:∀o q:Obj,((i.heap.push o).push q)[i.heap.size+1]?=some q:=λo q=>by
   grind
  exact e _ _
 obtain⟨⟨_,_,v1⟩,⟨_,_,B⟩,Y,N,Z⟩:=zz.live;have lM:=bn v1;have lW:=bn B;have O:=bn N;have sB:d9 X V (λb=>M b\/b=i.heap.size\/b=i.heap.size+1):=k.clear λb hb=>by
  rcases hb with hb|hb|hb
  .exact m.clear.own b hb
  .exact⟨ab,ab,ab⟩
  .exact⟨ab,ab,ab⟩
 refine⟨_,_,#[],st,rfl,rfl,.refl _,aS,λb hb _=>l b hb,ar,rfl,?_⟩;rw[W];have y:LWs X V np ρ M (A0 np (aW np D) (hU np D w0) n).2 i:=by
  refine⟨m.inj,⟨m.wr.pK,cv m.wr.gN r.size,m.wr.base,λ{a b}u v=>?_,λ{a b}u v=>?_⟩,m.own,m.clear,λb hb=>⟨cB (m.sG b hb).1 r.size,(m.sG b hb).2⟩⟩
  .obtain⟨o,q,C,E,H⟩:=m.wr.obj u v;exact⟨o,q,C,by rw[r.own b (m.own.own a b u v)];exact E,H⟩
  .obtain⟨o,q,C,E,H⟩:=m.wr.low u v;exact⟨o,q,C,by rw[(m.own.st a b u v).elim (r.st b) (r.own b)];exact E,H⟩
 have I:=y.loop pX T ab (lL:=default) (Q.h0 (aW np D) (hU np D w0) n) t ab (M':=λb=>M b\/b=i.heap.size\/b=i.heap.size+1) (λ_ h=>hY h) (hZ (hZ rfl)) sB (λb hb h=>by
  have:=(y.sG b hb)
  grind) aS l
 have lt0:∀a b,ρ a b->b<i.heap.size:=λa b h=>(y.wr.lt h).2;have J:GC eN eQ eQ F3 ZZ default [xN X np D n bc bg bt b0 b1 (i.heap.size+1),ez PP] (λa b=>ρ a b\/(a=0/\b=i.heap.size+1)) (gL1 np) (G (dC PP 73 #[fp (hJ (i.heap.size+1)) #[] #[],pt b0,pt b1] hM) [xN X np D n bc bg bt b0 b1 (i.heap.size+1),ez PP]):=by
  have e:=Ar (ρ:=λa b=>ρ a b\/(a=0/\b=i.heap.size+1)) (f:=73) ao (a:=#[fp (hI (cn+0)) #[] #[],fJ (some ⟨10,0,none⟩),fJ (some ⟨11,0,none⟩)]) (a':=#[fp (hJ (i.heap.size+1)) #[] #[],pt b0,pt b1])
   (.cons (.func (.spec (hZ ⟨rfl,rfl⟩)) .nil .nil) (.cons (.ptr ⟨hY R,rfl,rfl⟩) (.cons (.ptr ⟨hY S,rfl,rfl⟩) .nil)))
  exact⟨e,⟨[],[],rfl,rfl,.nil,λx hx=>(by cases hx;rfl)⟩,rfl,rfl,rfl,rfl,rfl,rfl⟩
 refine K _ _ (i.heap.size+1) _ (I.like J) ⟨?_,λb hb=>?_,?_⟩ ⟨hZ ⟨rfl,rfl⟩,hZ (hZ rfl),hZ (hY rfl),ab,λa x=>?_,t,A⟩ (λa b h=>hY (z a b h)) (λo ho=>?_)
 .exact⟨⟨_,_,by unfold eX at v1 ⊢;rw[l _ lM];exact v1⟩,⟨_,_,by unfold e7 at B ⊢;rw[l _ lW];exact B⟩,Y,by rw[l _ O];exact N,Z⟩
 .rw[l b (y.sG b hb).1];exact zz.st b hb
 .simp only[eF];have:=zz.size;omega
 .grind
 .have e:∀{w2:ai},w2.heap[X.Tb]?=i.heap[X.Tb]?->w2.cell? ⟨X.Tb,o,none⟩=i.cell? ⟨X.Tb,o,none⟩:=λh=>by simp only[eE,h]
  rw[e (l _ O)];exact r.row o ho
end
def jC{g:aa}{op:Op}(h:(bF g).map (·.op)=some op):∃o,bF g=some o/\o.op=op:=by
 simp_all
def adX:PP.underlying 25=some (ib 32):=ae
def adY:(PP.info? 32).map (·.size)=some 3:=ae
def ajk:PP.underlying 32=some (ih (fieldsOf 32)):=ae
def ajl:(PP.info? 88).map (·.size)=some 12:=ae
def ajm:PP.underlying 88=some (ih (fieldsOf 88)):=ae
def pY{w:ai}{a:ad}{v:ac}(h:w.cell? a=some v):a.block<w.heap.size:=by
 unfold eE at h;grind
section
variable {X:Fix}{V:Vw}{D:jB}{np s n:Nat}{dl:Int}{gn:ByteArray}{bc bg bt:Nat}{w0 w w':ai}{M:Own}{ρ:Ren}{Stop:Stp}{d:Nat}{g g':aa}{wL:ai}{b0 b1 lb:Nat}{st:a7}
structure Iv(X:Fix)(V:Vw)(np:Nat)(D:jB)(n bc bg bt b0 b1:Nat)(w0:ai)(ρ:Ren)(M:Own)(lb:Nat)(st:a7)(gL:aa)(wL:ai)(g':aa)(w:ai):Prop where
 lk:LK [xN X np D n bc bg bt b0 b1 lb,ez PP] X V np ρ M gL wL g' w
 kn:Kn X V w0 w
 gd:Gd X np D n bc bg bt b0 b1 ρ M lb st w
 le:∀a b,sI np D a b->ρ a b
def sK(X:Fix)(V:Vw)(w w':ai):Prop:=∀o,V.row o->w'.cell? ⟨X.Tb,o,none⟩=w.cell? ⟨X.Tb,o,none⟩
def Iv.rl{a:aa}(h:Iv X V np D n bc bg bt b0 b1 w0 ρ M lb st a wL g' w)(r:Rl X V M w w'):Iv X V np D n bc bg bt b0 b1 w0 ρ M lb st a wL g' w':=⟨h.lk.rely r,h.kn.rl r,h.gd.rl r,h.le⟩
def Iv.fin{a:aa}{v v':ac}(h:Iv X V np D n bc bg bt b0 b1 w0 ρ M lb st a wL g' w)(hv:VR F3 ρ v v'):Iv X V np D n bc bg bt b0 b1 w0 ρ M lb st (fin a v) wL (fin g' v') w:=⟨h.lk.fin hv,h.kn,h.gd,h.le⟩
def Iv.seg{l:aa}{m:Nat}{q:aa×ai}(k:zl X V D np s n dl gn bc bg bt w0)(h:Iv X V np D n bc bg bt b0 b1 w0 ρ M lb st l wL g' w)(t:q=Jp PP oU m l wL)(hg:Good np m l wL)
 (K:∀o i j w2,Iv X V np D n bc bg bt b0 b1 w0 o i lb st q.1 q.2 j w2->sK X V w w2->ay X V false Stop i d j w2):ay X V false Stop M d g' w:=
 JA k t hg h.lk h.kn λo i j w2 a b c e f r=>K o i j w2 ⟨a,b,h.gd.stay r c e f,λx y p=>e x y (h.le x y p)⟩ r.row
def JB(k:zl X V D np s n dl gn bc bg bt w0){b:Nat}(hb:V.st b):(V.st b/\∀a':ad,a'.block=b->¬X.Shun (.cell a'))\/M b:=hY ⟨hb,k.shun b hb⟩
def Zk(k:zl X V D np s n dl gn bc bg bt w0)(l:FE np s)(h:Iv X V np D n bc bg bt b0 b1 w0 ρ M lb st (gL1 np) (A0 np (aW np D) (hU np D w0) n).2 g' w)
 (K:∀x y f Z C w2,Iv X V np D n bc bg bt b0 b1 w0 x y lb st (gR np s (aW np D) 0 f) (wR np s (aW np D) (hU np D w0) n dl gn 0 (dl,dl) Z) C w2->sK X V w w2->ay X V false Stop y 0 C w2):ay X V false Stop M 0 g' w:=by
 refine h.seg k (q:=A1 np (aW np D) (hU np D w0) n) (by delta A1;rfl) (l.e1 _ _ _) λF U H w1 c I=>?_;obtain⟨e,z,hi⟩:=l.c1 (aW np D) (hU np D w0) n;obtain⟨o,i,e⟩:=jC e;obtain⟨A,m⟩:=c.lk.g.op i;have a:F (Jz np D D.gb) D.gb:=c.le _ _ (pW (by simp[dR]));have e1:=m 12;rw[z]at e1;have e1:=xL c.lk.inj e1 a (show 0<D.ng from by have:=k.Zb;omega);have p:=m 13;rw[hi]at p;have p:=oT p;refine .DW (g':=fin H (fJ (some ⟨D.gb,D.go+n*3,none⟩))) c.lk.clear c.lk.g.st' (λw=>?_) c.lk.g.st' ?_
 .have:=xH (P:=X.P) (mn:=V.g==0) (w:=w) A e e1 p (by rw[k.hP];exact adX) (by rw[k.hP];exact adY) ab (by have:=k.Zb;show(n:Int)<(D.ng:Int);omega);rw[dY,fb]at this;exact this
 have b:=c.fin (v:=fJ (some ⟨Jz np D D.gb,D.go+n*3,none⟩)) (v':=fJ (some ⟨D.gb,D.go+n*3,none⟩)) (.ptr ⟨a,rfl,rfl⟩);refine b.seg k (q:=A2 np (aW np D) (hU np D w0) n (D.go+n*3)) (by delta A2;rfl) (l.e2 _ _ _ _) λx y W w2 b J=>?_;obtain⟨e,z⟩:=l.c2 (aW np D) (hU np D w0) n (D.go+n*3);obtain⟨o,i,e⟩:=jC e;obtain⟨A,m⟩:=b.lk.g.op i;have a:x (Jz np D D.gb) D.gb:=b.le _ _ (pW (by simp[dR]));have e1:=m 14;rw[z]at e1;have e1:=PG b.lk.inj e1 a;have E:V.st D.gb:=(k.blk D.gb (by simp[dR])).1;have L:((ei 3).map λj=>(gA s dl gn).getD j undef).toArray=gA s dl gn:=rfl;refine .qM (v:=fl (gA s dl gn)) b.lk.clear b.kn.live A e e1 (λN r=>?_) (JB k E) ?_
 .have zz:=b.kn.rl r;have hc:∀j,j<3->N.cell? ((⟨D.gb,D.go+n*3,none⟩:ad).add j)=some ((gA s dl gn).getD j undef):=λj O=>by
   rw[dY,zz.cell E];have:=k.PM j O;grind
  have:=sH (P:=X.P) (t:=32) (by rw[k.hP];exact ajk) rfl (by rw[k.hP];exact adY) hc;rw[L]at this;exact⟨this,pY (by have:=hc 0 ab;rwa[dY]at this)⟩
 have u:=b.fin (v:=fl (gA s dl gn)) (v':=fl (gA s dl gn)) (.agg Zf);refine u.seg k (q:=A3 np s (aW np D) (hU np D w0) n dl gn (D.go+n*3)) (by delta A3;rfl) (l.e3 _ _ _ _ _ _) λB Q R w3 u S=>?_;obtain⟨f,Z,T⟩:=l.r0' (aW np D) (hU np D w0) n dl gn (D.go+n*3);rw[T]at u;exact K B Q f Z R w3 u λo i=>(S o i).trans ((J o i).trans (I o i))
end
noncomputable def lD:Array ac:=#[fi hK 0,fi hK 0,fi hK 0,fi hK 0,fi hK 0]
def aeg:∃i,PP.info? 72=some i/\i.zero=some (fl lD):=by
 have h:(PP.info? 72).map (·.zero)=some (some (fl lD)):=ae;simp_all
section
variable {T:aI}{fB fA:Array aP}{F:aH->Bool}{Z:aL->Bool}{X:Fix}{V:Vw}{Bs:Nat}{bot:aT}{up:List aT}{ρ:Ren}{M:Own}{g g':aa}{wL w w':ai}
def _root_.Go.Ph.iG.aeh(h:iG T fB fA F Z bot up X V Bs ρ M g wL g' w){lb:Nat}{l l':Loop}(m:ρ 0 lb)(r:0<Bs)(hs:w.heap.size<=w'.heap.size)(hb:∀a b,ρ a b->b≠lb->w'.heap[b]?=w.heap[b]?)(hl:w.heap[lb]?=some (dU l))(p:w'.heap[lb]?=some (dU l')) :
 iG T fB fA F Z bot up X V Bs ρ M g wL g' w':=by
 refine⟨h.inj,⟨h.wr.pK,cv h.wr.gN hs,h.wr.base,λ{a b}c f=>?_,λ{a b}c f=>?_⟩,h.g,h.own,h.clear,λb hb=>⟨cB (h.sG b hb).1 hs,(h.sG b hb).2⟩⟩
 .obtain⟨o,q,j,i,k⟩:=h.wr.obj c f;have t:b≠lb:=λe=>by
   subst e;have:=h.inj.inj c m;omega
  grind
 .obtain⟨o,q,j,i,k⟩:=h.wr.low c f;by_cases e:b=lb
  .subst e;rw[hl]at i;cases i;cases k<;>exact⟨_,_,j,p,.loop _ _⟩
  grind
end
section
variable {X:Fix}{V:Vw}{D:jB}{np s n:Nat}{dl:Int}{gn:ByteArray}{bc bg bt:Nat}{w0 w w':ai}{M:Own}{ρ:Ren}{Stop:Stp}{d:Nat}{g g' gL:aa}{wL:ai}{b0 b1 lb b5:Nat}{st st':a7}
def Iv.alloc(k:zl X V D np s n dl gn bc bg bt w0)(h:Iv X V np D n bc bg bt b0 b1 w0 ρ M lb st gL wL g' w)(o:Obj) :
 Iv X V np D n bc bg bt b0 b1 w0 ρ (λb=>M b\/b=w.heap.size) lb st gL wL g' (w.alloc o)/\∀a,¬ρ a w.heap.size:=by
 obtain⟨⟨_,_,v1⟩,⟨_,_,e⟩,j,f,l⟩:=h.kn.live;have m:=bn v1;have p:=bn e;have q:=bn f;have c:∀b,b<w.heap.size->(w.alloc o).heap[b]?=w.heap[b]?:=λb hb=>by
  show(w.heap.push _)[b]?=_;grind
 have r:d9 X V (λb=>M b\/b=w.heap.size):=k.clear λb hb=>by
  rcases hb with hb|hb
  .exact h.lk.clear.own b hb
  .exact⟨ab,ab,ab⟩
 have i:∀a b,ρ a b->b<w.heap.size:=λa b x=>(h.lk.wr.lt x).2;refine⟨⟨(h.lk.more (λ_ x=>hY x) r λb hb x=>?_).same (by simp[eF]) λa b x=>c b (i a b x),⟨?_,λb hb=>?_,by simp only[eF];have:=h.kn.size;omega⟩,⟨h.gd.r0,hY h.gd.ml,hY h.gd.md,h.gd.pos,h.gd.un,?_,?_⟩,h.le⟩,λa x=>?_⟩
 .have:=h.lk.sG b hb;grind
 .exact⟨⟨_,_,by unfold eX at v1 ⊢;rw[c _ m];exact v1⟩,⟨_,_,by unfold e7 at e ⊢;rw[c _ p];exact e⟩,j,by rw[c _ q];exact f,l⟩
 .rw[c b (h.lk.sG b hb).1];exact h.kn.st b hb
 .rw[c _ (bn h.gd.hl)];exact h.gd.hl
 .rw[c _ (bn h.gd.hd)];exact h.gd.hd
 .have:=i a _ x;omega
def Iv.same(h:Iv X V np D n bc bg bt b0 b1 w0 ρ M lb st gL wL g' w)(hl:Live X w')(hs:w.heap.size<=w'.heap.size)(c:∀a b,ρ a b->w'.heap[b]?=w.heap[b]?)(e:∀b,V.st b->w'.heap[b]?=w.heap[b]?)(hd:w'.heap[lb-1]?=w.heap[lb-1]?) :
 Iv X V np D n bc bg bt b0 b1 w0 ρ M lb st gL wL g' w':=
 ⟨h.lk.same hs c,⟨hl,λb hb=>(e b hb).trans (h.kn.st b hb),cv h.kn.size hs⟩,{ h.gd with hl:=(c _ _ h.gd.r0).trans h.gd.hl,hd:=hd.trans h.gd.hd },h.le⟩
def Iv.PY(h:Iv X V np D n bc bg bt b0 b1 w0 ρ M lb st gL wL g' w):Iv X V np D n bc bg bt b0 b1 w0 ρ M lb st' gL wL g' (w.putObj lb (dU (Ti X np D n bc bg bt b0 b1 lb st'))):=by
 have k:=bn h.gd.hl;have i:=World.putObj_heap_same (w:=w) (o:=dU (Ti X np D n bc bg bt b0 b1 lb st')) k;have c:∀b,b≠lb->(w.putObj lb (dU (Ti X np D n bc bg bt b0 b1 lb st'))).heap[b]?=w.heap[b]?:=λb hb=>eI hb;have f:=h.lk.clear.own lb h.gd.ml;obtain⟨⟨_,_,v1⟩,⟨_,_,j⟩,l,m,p⟩:=h.kn.live;refine⟨h.lk.aeh h.gd.r0 ab ar (λa b _ hb=>c b hb) h.gd.hl i,⟨?_,λb hb=>?_,by simp;exact h.kn.size⟩,{ h.gd with hl:=i,hd:=by rw[c _ (by have:=h.gd.pos;omega)];exact h.gd.hd },h.le⟩
 .exact⟨⟨_,_,by unfold eX at v1 ⊢;rw[c _ (fg f.1)];exact v1⟩,⟨_,_,by unfold e7 at j ⊢;rw[c _ (fg f.2.1)];exact j⟩,l,by rw[c _ (fg f.2.2)];exact m,p⟩
 .rw[c b λe=>(h.lk.sG b hb).2 (e▸h.gd.ml)];exact h.kn.st b hb
def _root_.Go.Ph.ay.UD{g g':aa}{b:Nat}(hc:d9 X V M)(hs:g.status=ik)(hl:Live X w)(hb:M b)(i:b<w.heap.size)
 (h:∀a,Rl X V M w a->∃es,stepG X.P (V.g==0) g a=.go g' a es/\∀e∈es,e=⟨.obj b,false,false⟩) (j:g'.status=ik) (k:∀a,Rl X V M w a->ay X V false Stop M d g' a):ay X V false Stop M d g w:=
 .own hc hs hl λa r=>by
  obtain⟨es,l,f⟩:=h a r;refine⟨_,_,es,l,rfl,rfl,.refl _,cC _,λx _ _=>rfl,λe c=>?_,j,?_⟩
  .rw[f e c,pU];exact DG hb (cB i r.size)
  .rw[pU,Am d (b:=b) λe c=>⟨false,f e c⟩];exact k a r
def bS(np s:Nat)(D:jB)(dl:Int):Nat->Int×Int
 |0=>(dl,dl)
 |r+1=>WZ np s D r (bS np s D dl r)
structure Rows(X:Fix)(V:Vw)(np s n:Nat)(D:jB)(dl:Int)(r:Nat)(w:ai):Prop where
 put:∀r',r'<r->∀j,j<5->w.cell? ⟨X.Tb,n*25+bY np s r'*5+j,none⟩=(cG np s D r' (bS np s D dl r'))[j]?
 rest:∀j,V.row j->(j<n*25\/n*25+np*5<=j)->w.cell? ⟨X.Tb,j,none⟩=some (fi hK 0)
def oW(h:0<np){r:Nat}:bY np s r<np:=cQ _ h
def PZ{r a:Nat}(h:a<r)(k:r<np):bY np s a≠bY np s r:=by
 unfold bY;intro e;have l:=c8 (s+r) np;have i:=c8 (s+a) np;rw[e]at i;have b:np*((s+r) / np)-np*((s+a) / np)=r-a:=ab;rw[<-c9]at b;have c:0<r-a:=ab;have j:r-a<np:=ab;rw[<-b]at c j;have:(s+r) / np-(s+a) / np=0:=by
  by_cases f:(s+r) / np-(s+a) / np=0
  .exact f
  .have:=da np (db f);omega
 rw[this]at c;omega
def Rows.tb{r:Nat}(h:Rows X V np s n D dl r w)(e:w'.heap[X.Tb]?=w.heap[X.Tb]?):Rows X V np s n D dl r w':=by
 have c:∀o,w'.cell? ⟨X.Tb,o,none⟩=w.cell? ⟨X.Tb,o,none⟩:=λo=>by simp only[eE,e]
 exact⟨λa b j f=>(c _).trans (h.put a b j f),λj i k=>(c _).trans (h.rest j i k)⟩
def Rows.row(k:zl X V D np s n dl gn bc bg bt w0){r:Nat}(l:r<=np)(h:Rows X V np s n D dl r w)(a:sK X V w w'):Rows X V np s n D dl r w':=⟨λb e j f=>by
 rw[a _ (k.row _ ab (by
  have:=oW (s:=s) (r:=b) (show 0<np by omega);have:=k.MC
  omega))]
 exact h.put b e j f,λj c i=>(a j c).trans (h.rest j c i)⟩
def Rows.next{r:Nat}(i:r<np)(h:Rows X V np s n D dl r w)(k:∀j,j<5->w'.cell? ⟨X.Tb,n*25+bY np s r*5+j,none⟩=(cG np s D r (bS np s D dl r))[j]?)
 (b:∀j,(j<n*25+bY np s r*5\/n*25+bY np s r*5+5<=j)->w'.cell? ⟨X.Tb,j,none⟩=w.cell? ⟨X.Tb,j,none⟩):Rows X V np s n D dl (r+1) w':=⟨λa l j c=>by
 by_cases e:a=r
 .subst e;exact k j c
 .have f:a<r:=ab;rw[b _ (by have:=PZ (s:=s) f i;omega)];exact h.put a f j c,λj k1 k2=>by
 rw[b j (by have:=oW (s:=s) (r:=r) (show 0<np by omega);omega)]
 exact h.rest j k1 k2⟩
end
open Go.cD (Th bP)
section
variable {X:Fix}{V:Vw}{D:jB}{np s n:Nat}{dl:Int}{gn:ByteArray}{bc bg bt:Nat}{w0 w w':ai}{M:Own}{ρ:Ren}{Fin:ai->Prop}{g g' gL:aa}{wL:ai}{b0 b1 lb b5 r m:Nat}{st st':a7}
def JE{Stop:Stp}(k:zl X V D np s n dl gn bc bg bt w0)(u:FE np s)(x:r<np){f Z}{c:Int×Int}(h:Iv X V np D n bc bg bt b0 b1 w0 ρ M lb st (gR np s (aW np D) r f) (wR np s (aW np D) (hU np D w0) n dl gn r c Z) g' w)
 (K:∀y i f Z l w2,Iv X V np D n bc bg bt b0 b1 w0 y i lb st (gY np s (aW np D) r c f) (wY np s (aW np D) (hU np D w0) n dl gn r (l9 np s (aW np D) r c) Z) l w2->sK X V w w2->ay X V false Stop i 0 l w2):ay X V false Stop M 0 g' w:=by
 have b:=u.round r x;obtain⟨d,z⟩:=b.c3 (aW np D) f;obtain⟨o,A,d⟩:=jC d;obtain⟨B,C⟩:=h.lk.g.op A;have e:ρ (Jz np D D.pb) D.pb:=h.le _ _ (pW (by simp[dR]));have e1:=C 34;rw[z]at e1;have e1:=PG h.lk.inj e1 e;have p:V.st D.pb:=(k.blk D.pb (by simp[dR])).1;have a:bY np s r<np:=oW ab;have E:((ei 12).map λj=>(pA D (bY np s r)).getD j undef).toArray=pA D (bY np s r):=rfl;refine .qM (v:=fl (pA D (bY np s r))) h.lk.clear h.kn.live B d e1 (λF q=>?_) (JB k p) ?_
 .have zz:=h.kn.rl q;have hc:∀j,j<12->F.cell? ((⟨D.pb,D.po+12*bY np s r,none⟩:ad).add j)=some ((pA D (bY np s r)).getD j undef):=λj H=>by
   rw[dY,zz.cell p,k.G8 _ a j H];grind
  have:=sH (P:=X.P) (t:=88) (by rw[k.hP];exact ajm) rfl (by rw[k.hP];exact ajl) hc;rw[E]at this;exact⟨this,pY (by have:=hc 0 ab;rwa[dY]at this)⟩
 have I:=h.fin (v:=fl (pA (aW np D) (bY np s r))) (v':=fl (pA D (bY np s r))) (.agg (cU.mono h.le (Ze (cB a k.MC))));refine I.seg k (q:=Yd np s (aW np D) (gR np s (aW np D) r f) (wR np s (aW np D) (hU np D w0) n dl gn r c Z) r) (by delta Yd;rfl) (b.e4 _ _ _ _ _ _ _ _) λJ L N w3 O Q=>?_;obtain⟨R,S,T⟩:=b.y' (aW np D) (hU np D w0) n dl gn c f Z;grind
def GC.base{up:List aT}(h:GC eN eQ eQ F3 ZZ default up ρ g g')(hc:g.callers=[default]):g'=G g'.frame up:=by
 obtain⟨i,⟨l,j,k,a,e,o⟩,p,b,q,c,t,d⟩:=h;obtain⟨f,cs',st',Bl,Bm⟩:=g';simp only at b c d a;subst b c d a;have hl:l=[]:=by
  simp_all
 subst hl;cases e;rfl
def UE(W bc bg a bt:Nat)(c:ac)(n:Int)(b v:ac):(qJ W bc bg a bt c n b undef undef (λ_=>undef)).setIfInBounds 9 v=qJ W bc bg a bt c n b v undef (λ_=>undef):=by
 unfold qJ;rw[Jv];refine Ap λi hi=>?_;unfold px;by_cases e:i=9
 .subst e;rfl
 .rw[if_neg e];unfold Ul;grind
def yields{Stop:Stp}(k:zl X V D np s n dl gn bc bg bt w0)(p:FE np s)(t:r<np){f}{c:Int×Int}{a:ai}(h:Iv X V np D n bc bg bt b0 b1 w0 ρ M lb st (gY np s (aW np D) r c f) a g' w)
 (K:∀w2,Iv X V np D n bc bg bt b0 b1 w0 ρ M lb st (gY np s (aW np D) r c f) a g' w2->sK X V w w2->g'=G g'.frame [xN X np D n bc bg bt b0 b1 lb,ez PP]->
   ay X V false Stop M 0 (rd0 X.Wg bc bg X.Mu bt (sJ np D) n (vO b0 b1) (fl (cG np s D r c)) lb (g'.frame::[xN X np D n bc bg bt b0 b1 lb,ez PP]) (λ_=>undef)) w2):ay X V false Stop M 0 g' w:=by
 have u:=p.round r t;obtain⟨e,v,y⟩:=u.c4 (aW np D) c f;obtain⟨o,z,e⟩:=jC e;obtain⟨A,i⟩:=h.lk.g.op z;have e1:=i 44;rw[v]at e1;have e1:=PI h.lk.inj Xa e1 h.gd.r0;have d:=i 45;rw[y]at d;obtain⟨j,d,B⟩:=Y5 d;have C:j=cG np s D r c:=by
  apply Array.toList_inj.1;have:cU F3 ρ ([((bY np s r:Nat):Int),c.1,c.2,(l9 np s D r c).1,(l9 np s D r c).2].map (fi hK)) j.toList:=B;rw[Uw this];rfl
 subst C;have hg:=GC.base h.lk.g rfl;refine .UD (b:=lb) h.lk.clear h.lk.g.st' h.kn.live h.gd.ml (bn h.gd.hl) (g':=rd0 X.Wg bc bg X.Mu bt (sJ np D) n (vO b0 b1) (fl (cG np s D r c)) lb (g'.frame::[xN X np D n bc bg bt b0 b1 lb,ez PP]) (λ_=>undef)) (λl q=>?_) rfl (λl q=>K l (h.rl q) q.row hg);have:=G3 (P:=X.P) (mn:=V.g==0) A e e1 (h.gd.rl q).hl rfl;obtain⟨es,E,F⟩:=this;refine⟨es,?_,F⟩;rw[E];have H:g'.callers=[xN X np D n bc bg bt b0 b1 lb,ez PP]:=congrArg Goroutine.callers hg;have I:((#[9]:Array Tmp).zip ((#[hT 45]:Array a8).map g'.frame.eval)).foldl (λtmps(x:Tmp×ac)=>tmps.setIfInBounds x.1 x.2) (qJ X.Wg bc bg X.Mu bt (sJ np D) n (vO b0 b1) undef undef (λ_=>undef))=qJ X.Wg bc bg X.Mu bt (sJ np D) n (vO b0 b1) (fl (cG np s D r c)) undef (λ_=>undef):=by
  have J:(#[9]:Array Tmp).zip ((#[hT 45]:Array a8).map g'.frame.eval)=#[(9,g'.frame.eval (hT 45))]:=ar;rw[J,d];simp only[List.size_toArray,List.length_cons,List.length_nil,List.foldl_toArray',List.foldl_cons,List.foldl_nil];exact UE _ _ _ _ _ _ _ _ _
 rw[H];unfold rd0;rw[<-I];rfl
end
def rH{cur vs:Array ac}(h:cur.size=vs.size):putRow cur 0 vs=vs:=by
 unfold putRow;grind
section
variable {X:Fix}{V:Vw}{D:jB}{np s n:Nat}{dl:Int}{gn:ByteArray}{bc bg bt:Nat}{w0 w w':ai}{M:Own}{ρ:Ren}{Fin:ai->Prop}{g gy gL:aa}{wL:ai}{b0 b1 lb b5 r m:Nat}{st:a7}
structure Hd(X:Fix)(V:Vw)(np s:Nat)(D:jB)(n:Nat)(dl:Int)(bc bg bt b0 b1:Nat)(w0:ai)(ρ:Ren)(M:Own)(lb b5 r rows:Nat)(st:a7)(gL:aa)(wL:ai)(gy:aa)(w:ai):Prop where
 iv:Iv X V np D n bc bg bt b0 b1 w0 ρ M lb st gL wL gy w
 m5:M b5
 un:∀a,¬ρ a b5
 h5:w.heap[b5]?=some (dQ (cG np s D r (bS np s D dl r)) 72)
 rows:Rows X V np s n D dl rows w
def Hd.rl(k:zl X V D np s n dl gn bc bg bt w0){rows:Nat}(a:rows<=np)(h:Hd X V np s D n dl bc bg bt b0 b1 w0 ρ M lb b5 r rows st gL wL gy w)(q:Rl X V M w w'):Hd X V np s D n dl bc bg bt b0 b1 w0 ρ M lb b5 r rows st gL wL gy w':=
 ⟨h.iv.rl q,h.m5,h.un,(q.own _ h.m5).trans h.h5,h.rows.row k a q.row⟩
def Hd.PY{rows:Nat}{st':a7}(h:Hd X V np s D n dl bc bg bt b0 b1 w0 ρ M lb b5 r rows st gL wL gy w):Hd X V np s D n dl bc bg bt b0 b1 w0 ρ M lb b5 r rows st' gL wL gy (w.putObj lb (dU (Ti X np D n bc bg bt b0 b1 lb st'))):=by
 have a:=h.iv.lk.clear.own lb h.iv.gd.ml;refine⟨h.iv.PY,h.m5,h.un,?_,h.rows.tb (eI (fg a.2.2))⟩
 .have b:b5≠lb:=λe=>h.un 0 (by rw[e];exact h.iv.gd.r0);rw[eI b];exact h.h5
def Hd.lk(k:zl X V D np s n dl gn bc bg bt w0){rows:Nat}(a:rows<=np)(hc:d9 X V M):Lk X V M (Hd X V np s D n dl bc bg bt b0 b1 w0 ρ M lb b5 r rows st gL wL gy):=
 ⟨k.hP,k.hg,hc,λ_ _ h q=>h.rl k a q,λ_ h=>h.iv.kn.live,k.n3⟩
def D9(c:Int×Int):∀v∈cG np s D r c,v.oneCell'=true:=by
 intro v hv;simp only[cG,ej,el,em,or_false]at hv
 rcases hv with rfl|rfl|rfl|rfl|rfl<;>rfl
def Hh(k:zl X V D np s n dl gn bc bg bt w0)(p:r<np)(hc:d9 X V M)(hg:gy=G gy.frame [xN X np D n bc bg bt b0 b1 lb,ez PP])
 (K:∀w2 c,Hd X V np s D n dl bc bg bt b0 b1 w0 ρ M lb b5 r (r+1) h6 gL wL gy w2->ay X V false (eU X V Fin c (bP m)) M 0 (ec gy (fO true)) w2) (f:Nat->ac) :
 uA X V Fin M (Hd X V np s D n dl bc bg bt b0 b1 w0 ρ M lb b5 r r h7 gL wL gy) (c0 X.Wg bc bg X.Mu bt (sJ np D) n (vO b0 b1) (fl (cG np s D r (bS np s D dl r))) lb b5 (gy.frame::[xN X np D n bc bg bt b0 b1 lb,ez PP]) f) (gy.frame::[xN X np D n bc bg bt b0 b1 lb,ez PP]) m:=by
 intro c w o;have t:bY np s r<np:=oW ab;have C:=k.MC;refine(q_4 ..).run k.hP k.hg ?_;rw[aj4];have R:R4 X V M (Hd X V np s D n dl bc bg bt b0 b1 w0 ρ M lb b5 r r h7 gL wL gy) (Hd X V np s D n dl bc bg bt b0 b1 w0 ρ M lb b5 r (r+1) h7 gL wL gy) bg bt b5 n (bY np s r) (cG np s D r (bS np s D dl r)):=by
  refine⟨k.hP,k.hg,hc,λ_ _ h q=>h.rl k ab q,λ_ h=>h.iv.kn.live,k.shun,⟨k.bt.1,λw h=>(h.iv.kn.cell k.bt.1).trans k.bt.2⟩,⟨k.bg.1,λw h=>(h.iv.kn.cell k.bg.1).trans k.bg.2⟩,⟨o.m5,λw h=>⟨_,h.h5⟩⟩,⟨rfl,rfl,D9 _⟩,k.hn,ab,k.sz,λj E=>k.row _ ab ab,λw w' h hl H hb v y=>?_⟩;have l:∀{b},jm X b->w'.heap[b]?=w.heap[b]?:=λh=>hb _ h.2.2;refine⟨h.iv.same hl ab (λa b x=>l (h.iv.lk.apart x)) (λb x=>l (k.apart b x)) (l (hc.own _ h.iv.gd.md)),h.m5,h.un,(l (hc.own _ h.m5)).trans h.h5,h.rows.next p v y⟩
 refine Ut R (base:=Ul X.Wg bc bg X.Mu bt (sJ np D) n (vO b0 b1) (fl (cG np s D r (bS np s D dl r))) (pt b5) (px 10 (fP #[]) f)) rfl rfl rfl o λF w2 hF z=>?_;have A:zj 20 F=qJ X.Wg bc bg X.Mu bt (sJ np D) n (vO b0 b1) (fl (cG np s D r (bS np s D dl r))) (pt b5) F:=Ap λi hi=>by
  rcases dd i 10 with h|h
  .rw[hF i ab];obtain rfl|rfl|rfl|rfl|rfl|rfl|rfl|rfl|rfl|rfl:i=0\/i=1\/i=2\/i=3\/i=4\/i=5\/i=6\/i=7\/i=8\/i=9:=ab
   all_goals rfl
  .unfold Ul;split<;>first|omega|rfl
 unfold Ur;rw[A];refine(q_5 ..).run k.hP k.hg ?_;rw[aj9];have u:=D7 (Fin:=Fin) (k:=c) (c0:=c1 X.Wg bc bg X.Mu bt (sJ np D) n (vO b0 b1) (fl (cG np s D r (bS np s D dl r))) lb b5 (gy.frame::[xN X np D n bc bg bt b0 b1 lb,ez PP]) F) (cs:=gy.frame::[xN X np D n bc bg bt b0 b1 lb,ez PP]) (Hd.lk (r:=r) k (show r+1<=np by omega) hc) m (λc w3 d=>?_) z
 .rw[k.hP]at u;exact u
 refine(q_6 ..).run k.hP k.hg ?_;rw[aja];refine .rec (b:=lb) (o':=dU (Ti X np D n bc bg bt b0 b1 lb h6)) hc rfl d.iv.kn.live d.iv.gd.ml (bn d.iv.gd.hl) (g':=G (gy.frame.finish (fO true)) [xN X np D n bc bg bt b0 b1 lb,ez PP]) (λB q=>zH (d.iv.gd.rl q).hl) rfl λB q=>?_;have e:G (gy.frame.finish (fO true)) [xN X np D n bc bg bt b0 b1 lb,ez PP]=ec gy (fO true):=by rw[hg];rfl
 rw[e];exact K _ c (d.rl k ab q).PY
def P3(k:zl X V D np s n dl gn bc bg bt w0)(H:r<np)(h:Iv X V np D n bc bg bt b0 b1 w0 ρ M lb h6 gL wL gy w)(I:Rows X V np s n D dl r w)(hg:gy=G gy.frame [xN X np D n bc bg bt b0 b1 lb,ez PP])(i:Nat)
 (K:∀A w2 i,Iv X V np D n bc bg bt b0 b1 w0 ρ A lb h6 gL wL gy w2->Rows X V np s n D dl (r+1) w2->ay X V false (eU X V Fin i (bP m)) A 0 (ec gy (fO true)) w2) :
 ay X V false (eU X V Fin i { pc:=.l0,r:=m }) M 0 (rd0 X.Wg bc bg X.Mu bt (sJ np D) n (vO b0 b1) (fl (cG np s D r (bS np s D dl r))) lb (gy.frame::[xN X np D n bc bg bt b0 b1 lb,ez PP]) (λ_=>undef)) w:=by
 refine(q_0 ..).run k.hP k.hg ?_;obtain⟨o,j,p⟩:=jC (aj0 X.Wg bc bg X.Mu bt (sJ np D) n (vO b0 b1) (fl (cG np s D r (bS np s D dl r))) lb (gy.frame::[xN X np D n bc bg bt b0 b1 lb,ez PP]) (λ_=>undef));obtain⟨J,hi,L⟩:=aeg;refine .new h.lk.clear (aK j).1 h.kn.live (o':=λ_=>dQ lD 72) (G':=λb=>ec (q0 X.Wg bc bg X.Mu bt (sJ np D) n (vO b0 b1) (fl (cG np s D r (bS np s D dl r))) lb (gy.frame::[xN X np D n bc bg bt b0 b1 lb,ez PP]) (λ_=>undef)) (pt b)) (λc q=>?_) (λb=>(aK j).2.2 _) λc q=>?_
 .have:=jY (P:=X.P) (mn:=V.g==0) (w:=c) j p (by rw[k.hP];exact hi) L;exact this
 have v:=h.rl q;obtain⟨y,B⟩:=v.alloc k (dQ lD 72);have N:=I.row k ab q.row;have C:(c.alloc (dQ lD 72)).heap[c.heap.size]?=some (dQ lD 72):=eM _ _;have O:Rows X V np s n D dl r (c.alloc (dQ lD 72)):=by
  have Y:X.Tb<c.heap.size:=by
   obtain⟨_,_,E,z,_⟩:=v.kn.live;exact bn z
  refine N.tb ?_;show(c.heap.push _)[X.Tb]?=_;grind
 refine(q_1 ..).run k.hP k.hg ?_;obtain⟨p,Q,hy⟩:=aj1 X.Wg bc bg X.Mu bt (sJ np D) n (vO b0 b1) (fl (cG np s D r (bS np s D dl r))) lb c.heap.size (gy.frame::[xN X np D n bc bg bt b0 b1 lb,ez PP]) (λ_=>undef);obtain⟨o,j,p⟩:=jC p;refine .DS (b:=c.heap.size) (cur:=lD) (ty:=72) y.lk.clear y.kn.live (hZ rfl) j p Q hy C (by rw[k.hP,Un];rfl) (by show 0+5<=5;omega) (D9 _) λw2 q2=>?_;rw[show(fl (cG np s D r (bS np s D dl r))).cells=cG np s D r (bS np s D dl r) from rfl,rH (show lD.size=(cG np s D r (bS np s D dl r)).size from rfl)];have t:=y.rl q2;have R:w2.heap[c.heap.size]?=some (dQ lD 72):=(q2.own _ (hZ rfl)).trans C;have u:jm X c.heap.size:=t.lk.clear.own _ (hZ rfl);have f:∀b,b≠c.heap.size->(w2.setRow c.heap.size (cG np s D r (bS np s D dl r))).heap[b]?=w2.heap[b]?:=λb hb=>a9 _ _ _ _ hb;have S:Live X (w2.setRow c.heap.size (cG np s D r (bS np s D dl r))):=by
  obtain⟨⟨_,_,v1⟩,⟨_,_,F⟩,E,z,T⟩:=t.kn.live;exact⟨⟨_,_,by unfold eX at v1 ⊢;rw[f _ (fg u.1)];exact v1⟩,⟨_,_,by unfold e7 at F ⊢;rw[f _ (fg u.2.1)];exact F⟩,E,by rw[f _ (fg u.2.2)];exact z,T⟩
 have U:lb-1<c.heap.size:=bn v.gd.hd;have d:Hd X V np s D n dl bc bg bt b0 b1 w0 ρ (λb=>M b\/b=c.heap.size) lb c.heap.size r r h6 gL wL gy (w2.setRow c.heap.size (cG np s D r (bS np s D dl r))):=by
  refine⟨t.same S ar (λa b x=>f b λe=>B a (e▸x)) (λb hb=>f b λe=>(t.lk.sG b hb).2 (hZ e)) (f _ ab),hZ rfl,B,bb _ _ _ _ _ _ R,(O.row k ab q2.row).tb (f X.Tb (fg u.2.2))⟩
 refine(q_2 ..).run k.hP k.hg ?_;rw[aj2];refine .rec (b:=lb) (o':=dU (Ti X np D n bc bg bt b0 b1 lb h7)) d.iv.lk.clear rfl d.iv.kn.live d.iv.gd.ml (bn d.iv.gd.hl) (g':=G ⟨55,qJ X.Wg bc bg X.Mu bt (sJ np D) n (vO b0 b1) (fl (cG np s D r (bS np s D dl r))) (pt c.heap.size) (λ_=>undef),[il lZ],[],hO,hM,some lb⟩ (gy.frame::[xN X np D n bc bg bt b0 b1 lb,ez PP])) (λw3 q3=>G5 (d.iv.gd.rl q3).hl rfl rfl) rfl λw3 q3=>?_;have W:=(d.rl k ab q3).PY (st':=h7);refine(q_3 ..).run k.hP k.hg ?_;rw[aj3];have l:=MH (Fin:=Fin) (k:=i) (Hd.lk (r:=r) k (show r<=np by omega) d.iv.lk.clear) m (Hh (m:=m) k H d.iv.lk.clear hg (λw2 i h=>K _ w2 i h.iv h.rows) (λ_=>undef)) W;rw[k.hP]at l;exact l
theorem P4(k:zl X V D np s n dl gn bc bg bt w0)(t:∀w,Rows X V np s n D dl np w->Fin w)(h:Iv X V np D n bc bg bt b0 b1 w0 ρ M lb h6 gL wL g w)(u:Rows X V np s n D dl np w)(f:Y9 73 gL)(v:Nat) :
 ay X V false (eU X V Fin v (bP 1)) M 0 g w:=by
 refine ay.mono (Stop:=O0 X V Fin) ?_ λM d g w h=>by
  show(if(bP 1).pc=.out then O0 X V Fin M d g w else _);rw[if_pos (show(bP 1).pc=.out from rfl)];exact h
 obtain⟨x,rfl,e1,y,z,A,_⟩:=h.lk.back f.mode f.defers f.callers;obtain⟨fn,B,C⟩:=Zh;refine .leave0 h.lk.clear y z A (by rw[k.hP,e1,f.fn];exact B) C ?_;have E:=h.kn.live;have c:=h.gd.ml;have e:=h.gd.md;have O:=h.gd.pos;have hc:=h.lk.clear;refine .rec (b:=lb) (o':=dU (Ti X np D n bc bg bt b0 b1 lb h8)) hc rfl E c (bn h.gd.hl) (g':=G ⟨55,qJ X.Wg bc bg X.Mu bt (sJ np D) n (vO b0 b1) undef undef (λ_=>undef),kk,Pz X.Wg (lb-1),hO,hN,none⟩ [ez PP]) (λo q=>BT (h.gd.rl q).hl rfl rfl) rfl λo q=>?_;have H:=hc.own lb c;have i:=(h.rl q).PY (st':=h8);have I:Rows X V np s n D dl np (o.putObj lb (dU (Ti X np D n bc bg bt b0 b1 lb h8))):=(u.row k (cC _) q.row).tb (eI (fg H.2.2));refine(e_1 ..).run k.hP k.hg ?_;rw[ajb];refine .rec (b:=lb-1) (o':=dT none) hc rfl i.kn.live e (bn i.gd.hd) (g':=G ⟨55,qJ X.Wg bc bg X.Mu bt (sJ np D) n (vO b0 b1) undef undef (λ_=>undef),[],rG X.Wg,hS,hN,none⟩ [ez PP]) (λP q2=>step_take (i.gd.rl q2).hd) rfl λw2 q2=>?_;obtain⟨x1,x2⟩:=e_2 X.Wg bc bg X.Mu bt (sJ np D) n (vO b0 b1);refine .quiet (mn:=false) k.hg 1 (by rw[k.hP];exact x1) ?_;rw[k.hP,x2,ajc];have j:=hc.own _ e;have l:∀b,b≠lb-1->(w2.putObj (lb-1) (dT none)).heap[b]?=w2.heap[b]?:=λb hb=>eI hb;have J:=i.rl q2;refine MF (F:=λw=>Live X w/\Rows X V np s n D dl np w) ⟨k.hP,k.hg,hc,λw w' a q=>⟨q.live a.1,a.2.row k (cC _) q.row⟩,λw a=>a.1,k.n3⟩ (λw a=>t w a.2) _ [] ⟨?_,(I.row k (cC _) q2.row).tb (l X.Tb (fg j.2.2))⟩
 obtain⟨⟨_,_,v1⟩,⟨_,_,p⟩,K,L,N⟩:=J.kn.live;exact⟨⟨_,_,by unfold eX at v1 ⊢;rw[l _ (fg j.1)];exact v1⟩,⟨_,_,by unfold e7 at p ⊢;rw[l _ (fg j.2.1)];exact p⟩,K,by rw[l _ (fg j.2.2)];exact L,N⟩
def MN(k:zl X V D np s n dl gn bc bg bt w0)(b:FE np s)(P:∀w,Rows X V np s n D dl np w->Fin w):∀(m r:Nat),r+(m+1)=np->∀{ρ M f Z g w},Iv X V np D n bc bg bt b0 b1 w0 ρ M lb h6 (gR np s (aW np D) r f) (wR np s (aW np D) (hU np D w0) n dl gn r (bS np s D dl r) Z) g w->Rows X V np s n D dl r w->
 ∀c,ay X V false (eU X V Fin c { pc:=.l0,r:=m+1 }) M 0 g w:=by
 intro m
 induction m with
 |zero=>
  intro r E ρ M f Z g w h j c;have a:r<np:=ab;refine JE k b a h λF H d i I w2 l o=>?_;refine yields k b a l λw3 p t hg=>?_;refine P3 k a p ((j.row k ab o).row k ab t) hg c λJ w4 c u x=>?_;have y:=b.round r a;have z:=u.fin (v:=fO true) (v':=fO true) (.bool true);refine z.seg k (q:=Nx (gY np s (aW np D) r (bS np s D dl r) d) (wY np s (aW np D) (hU np D w0) n dl gn r (l9 np s (aW np D) r (bS np s D dl r)) i)) (by delta Nx;rfl) (y.e5 _ _ _ _ _ _ _ _ _) λA K L w6 B C=>?_;have Q:=(b.last r ab).back (aW np D) (hU np D w0) n dl gn (bS np s D dl r) (l9 np s (aW np D) r (bS np s D dl r)) d i;have R:=x.row k ab C;grind[P4]
 |succ m N=>
  intro r E ρ M f Z g w h j c;have a:r<np:=ab;refine JE k b a h λF H d i I w2 l o=>?_;refine yields k b a l λw3 p t hg=>?_;refine P3 k a p ((j.row k ab o).row k ab t) hg c λJ w4 c u x=>?_;have y:=b.round r a;have z:=u.fin (v:=fO true) (v':=fO true) (.bool true);refine z.seg k (q:=Nx (gY np s (aW np D) r (bS np s D dl r) d) (wY np s (aW np D) (hU np D w0) n dl gn r (l9 np s (aW np D) r (bS np s D dl r)) i)) (by delta Nx;rfl) (y.e5 _ _ _ _ _ _ _ _ _) λA K L w6 B C=>?_;obtain⟨S,T,O⟩:=(b.next r ab).next' (aW np D) (hU np D w0) n dl gn (bS np s D dl r) d i;rw[O]at B;have e:bP (m+1+1)={ pc:=.l0,r:=m+1 }:=by
   unfold bP;grind
  rw[e];exact N (r+1) ab B (x.row k ab C) c
end
def aei:(PP.info? 77).map (·.size)=some 6:=ae
def aej:PP.underlying 77=some (ih (fieldsOf 77)):=ae
def ajA(W bc bg a bt:Nat)(c:ac)(n:Int):wu PP false DT 400 (ec (k1 W bc bg a bt c) (fi hK n))=k2 W bc bg a bt c n:=by delta k2;rfl
section
variable {X:Fix}{V:Vw}{D:jB}{np s n:Nat}{dl:Int}{gn:ByteArray}{bc bg bt:Nat}{w0 w:ai}{Fin:ai->Prop}
def Hl(k:zl X V D np s n dl gn bc bg bt w0)(c:FE np s)(MC:1<=np)(C:∀w,Rows X V np s n D dl np w->Fin w)(a:Kn X V w0 w)(e:∀j,V.row j->(j<n*25\/n*25+np*5<=j)->w.cell? ⟨X.Tb,j,none⟩=some (fi hK 0))(A:Nat) :
 ay X V false (eU X V Fin A { pc:=.l0,r:=np }) eb 0 (uy X.Wg bc bg X.Mu bt) w:=by
 have hc:d9 X V eb:=k.clear λb hb=>hb.elim;refine(k_E X.Wg bc bg X.Mu bt).run k.hP k.hg ?_;obtain⟨o,x,g,i,l⟩:=kO (aiW X.Wg bc bg X.Mu bt);have hcell:∀w,Kn X V w0 w->∀j,j<6->w.cell? ((⟨bc,0,none⟩:ad).add j)=some ((cA np D).getD j undef):=λw a j hj=>by
  rw[dY,df,a.cell k.bc.1,cell_of_row _ _ _ _ _ _ k.bc.2];obtain rfl|rfl|rfl|rfl|rfl|rfl:j=0\/j=1\/j=2\/j=3\/j=4\/j=5:=ab
  all_goals rfl
 have E:((ei 6).map λj=>(cA np D).getD j undef).toArray=cA np D:=rfl;refine .qM (v:=sJ np D) hc a.live g i l (λB q=>?_) (JB k k.bc.1) ?_
 .have h:=hcell B (a.rl q);have:=sH (P:=X.P) (t:=77) (by rw[k.hP];exact aej) rfl (by rw[k.hP];exact aei) h;rw[E]at this;exact⟨this,pY (by have:=h 0 ab;rwa[dY]at this)⟩
 refine(k_0 X.Wg bc bg X.Mu bt (sJ np D)).run k.hP k.hg ?_;obtain⟨o,x,g,i,l⟩:=kO (aiX X.Wg bc bg X.Mu bt (sJ np D));refine .qM (v:=fi hK (n:Int)) hc a.live g i l (λB q=>?_) (JB k k.bg.1) ?_
 .have h:=((a.rl q).cell k.bg.1).trans k.bg.2;exact⟨l8 (by rw[k.hP];exact ty3) rfl h,pY h⟩
 obtain⟨x1,x2⟩:=k_1 X.Wg bc bg X.Mu bt (sJ np D) n;refine .oO (S:=DT) k.hg 400 (by rw[k.hP];exact x1) ?_;rw[k.hP,x2,ajA,aiY];refine Zi k c a λaJ M1 b0 F w1 H zz I J p K L=>?_;refine Zj k zz H c I J K p λM N lb w2 u O Q R y=>?_;have z:Iv X V np D n bc bg bt b0 F w0 M N lb h6 (gL1 np) (A0 np (aW np D) (hU np D w0) n).2 _ w2:=⟨u,O,Q,R⟩
 refine Zk k c z λT M3 f Z g3 w3 U W=>?_;have Y:Rows X V np s n D dl 0 w3:=⟨λr' gl=>absurd gl (dk _),λj d u=>(W j d).trans ((y j d).trans ((L.row j d).trans (e j d u)))⟩
 obtain⟨m,rfl⟩:∃m,np=m+1:=⟨np-1,ab⟩
 exact MN k c C m 0 ab U Y A
end
end Go.Proofs
namespace Go.Proofs
open Go.Ph Go.Conc
def eL(g:aa):Bool:=match g.frame.mode with
 |hO=>match g.frame.todo with
  |[il _]=>g.frame.fn==54||g.frame.fn==59
  |.inRegion _ (_::_)::_=>match bF g with
   |some o=>match o.op with
    |gG .. | g2 .. | g7 .. | .box .. | .go ..=>true
    |_=>false
   |none=>false
  |_=>false
 |hS=>true
 |_=>false
noncomputable abbrev T6(g:aa):aa:=wu PP true eL 400 g
structure jq(g g':aa):Prop where
 q:ff PP true eL 400 g
 d:∀d,xD PP true eL 400 d g=d
 e:T6 g=g'
def dm{g g':aa}(e:T6 g=g')(a:ff PP true eL 400 g:=by exact⟨λ_=>ae,ae⟩)(hd:∀d,xD PP true eL 400 d g=d:=by intro _;kernel_rfl):jq g g':=⟨a,hd,e⟩
def jq.run{X:Fix}{V:Vw}{q:Bool}{Stop:Stp}{M:Own}{d:Nat}{g g':aa}{w:ai}(h:jq g g')(a:X.P=PP)(hg:(V.g==0)=true)(b:ay X V q Stop M d g' w):ay X V q Stop M d g w:=by
 refine .oO (S:=eL) hg 400 (by rw[a];exact h.q) ?_;have e:wu PP true eL 400 g=g':=h.e;rw[a,h.d,e];exact b
noncomputable def dZ:Array ac:=Array.replicate 75 (fi hK 0)
structure CA where
 arr:Array ac
 f:Nat->ac
 rest:List ac
noncomputable def Ho:bi:=(Tryz.f29.body).getD ip
noncomputable def fE(ca:CA):aT:=⟨29,⟨fl ca.arr::ca.f 1::ca.f 2::ca.f 3::ca.f 4::ca.f 5::ca.f 6::ca.f 7::ca.f 8::ca.f 9::ca.f 10::ca.f 11::ca.f 12::ca.f 13::ca.f 14::ca.f 15::ca.f 16::ca.f 17::ca.f 18::ca.f 19::ca.f 20::ca.rest⟩,[il Ho],[],hO,hM,none⟩
section
variable (ca:CA)(bc Tb bt Mu Wg:Nat)(sa:Option ad)(cg:Nat)(cs:List aT)
noncomputable def m0:aa:=T6 (G (fE ca) cs)
def m_0:jq (G (fE ca) cs) (m0 ca cs):=dm (by delta m0;rfl)
def ajX:(bF (m0 ca cs)).map (·.op)=some (.box 77 (hT 0))/\(m0 ca cs).frame.eval (hT 0)=fl ca.arr:=⟨ae,ae⟩
noncomputable def m1:aa:=T6 (fin (m0 ca cs) (pt bc))
def m_1:jq (fin (m0 ca cs) (pt bc)) (m1 ca bc cs):=dm (by delta m1;rfl)
def ajY:(bF (m1 ca bc cs)).map (·.op)=some (.box 113 (hT 7))/\(m1 ca bc cs).frame.eval (hT 7)=fl dZ:=⟨ae,ae⟩
noncomputable def m2:aa:=T6 (fin (m1 ca bc cs) (pt Tb))
def m_2:jq (fin (m1 ca bc cs) (pt Tb)) (m2 ca bc Tb cs):=dm (by delta m2;rfl)
def ajZ:(bF (m2 ca bc Tb cs)).map (·.op)=some (g7 81):=ae
noncomputable def m3:aa:=T6 (fin (m2 ca bc Tb cs) (pt bt))
def m_3:jq (fin (m2 ca bc Tb cs) (pt bt)) (m3 ca bc Tb bt cs):=dm (by delta m3;rfl)
def ak0:(bF (m3 ca bc Tb bt cs)).map (·.op)=some (g2 81 (hT 3) (hT 8))/\(m3 ca bc Tb bt cs).frame.eval (hT 3)=pt bt/\(m3 ca bc Tb bt cs).frame.eval (hT 8)=pt Tb:=⟨ae,ae,ae⟩
noncomputable def m4:aa:=T6 (fin (m3 ca bc Tb bt cs) undef)
def m_4:jq (fin (m3 ca bc Tb bt cs) undef) (m4 ca bc Tb bt cs):=dm (by delta m4;rfl)
def ak1:(bF (m4 ca bc Tb bt cs)).map (·.op)=some (g7 120):=ae
noncomputable def m5:aa:=T6 (fin (m4 ca bc Tb bt cs) (pt Mu))
def m_5:jq (fin (m4 ca bc Tb bt cs) (pt Mu)) (m5 ca bc Tb bt Mu cs):=dm (by delta m5;rfl)
def ak2:(bF (m5 ca bc Tb bt Mu cs)).map (·.op)=some (g7 127):=ae
noncomputable def m6:aa:=T6 (fin (m5 ca bc Tb bt Mu cs) (pt Wg))
def m_6:jq (fin (m5 ca bc Tb bt Mu cs) (pt Wg)) (m6 ca bc Tb bt Mu Wg cs):=dm (by delta m6;rfl)
def aes:(bF (m6 ca bc Tb bt Mu Wg cs)).map (·.op)=some (gG 25 (hT 10))/\(m6 ca bc Tb bt Mu Wg cs).frame.eval (hT 10)=fJ (some ⟨bc,5,none⟩)/\(m6 ca bc Tb bt Mu Wg cs).status=ik:=⟨ae,ae,ae⟩
end
noncomputable def tdA:List aF:=(T6 (fin (m6 ⟨#[],λ_=>undef,[]⟩ 0 0 0 0 0 []) (ft none 2 0))).frame.todo
section
variable (ng i:Nat)(ca:CA)(bc Tb bt Mu Wg bg:Nat)(sa:Option ad)(cg:Nat)(cs:List aT)(f:Nat->ac)
noncomputable def a_:aa:=G ⟨29,⟨fl ca.arr :: fJ (some ⟨bc,0,none⟩) :: fJ none :: fJ (some ⟨bt,0,none⟩) :: fJ (some ⟨Mu,0,none⟩) :: fJ (some ⟨Wg,0,none⟩)::f 6::f 7::f 8::f 9::f 10::f 11 :: fi hK (ng:Int) :: fi hK (i:Int)::f 14 :: fi hK (i:Int)::f 16::f 17::f 18::f 19::f 20::ca.rest⟩,tdA,[],hO,hM,none⟩ cs
noncomputable def b_:aa:=T6 (fin (a_ ng i ca bc bt Mu Wg cs f) (pt bg))
noncomputable def c_:aa:=T6 (fin (b_ ng i ca bc bt Mu Wg bg cs f) undef)
noncomputable def frA:aT:=(c_ ng i ca bc bt Mu Wg bg cs f).callers.headD default
noncomputable def d_:aa:=T6 (G ((frA ng i ca bc bt Mu Wg bg cs f).finish (fP #[])) cs)
noncomputable def e_:aa:=T6 (fin (d_ ng i ca bc bt Mu Wg bg cs f) undef)
noncomputable def frW:aT:=(e_ ng i ca bc bt Mu Wg bg cs f).callers.headD default
noncomputable def f_:aa:=T6 (G ((frW ng i ca bc bt Mu Wg bg cs f).finish (fP #[])) cs)
noncomputable def g_:aa:=T6 (fin (f_ ng i ca bc bt Mu Wg bg cs f) (pt Tb))
noncomputable def sW0:aa:=T6 (fin (m6 ca bc Tb bt Mu Wg cs) (ft sa 0 cg))
noncomputable def amC:aT:=(sW0 ca bc Tb bt Mu Wg sa cg cs).callers.headD default
noncomputable def sL0:aa:=T6 (G ((amC ca bc Tb bt Mu Wg sa cg cs).finish (fP #[])) cs)
noncomputable def sR0:aa:=T6 (fin (sL0 ca bc Tb bt Mu Wg sa cg cs) (pt Tb))
end
noncomputable def amf(g:aa):Nat->ac:=λk=>g.frame.tmps[k]!
structure amD(ng i:Nat):Prop where
 oA:∀ca bc bt Mu Wg cs f,(bF (a_ ng i ca bc bt Mu Wg cs f)).map (·.op)=some (g7 3)
 hB:∀ca bc bt Mu Wg bg cs f,jq (fin (a_ ng i ca bc bt Mu Wg cs f) (pt bg)) (b_ ng i ca bc bt Mu Wg bg cs f)
 oB:∀ca bc bt Mu Wg bg cs f,(bF (b_ ng i ca bc bt Mu Wg bg cs f)).map (·.op)=some (g2 3 (hT 6) (hT 15))/\(b_ ng i ca bc bt Mu Wg bg cs f).frame.eval (hT 6)=pt bg/\(b_ ng i ca bc bt Mu Wg bg cs f).frame.eval (hT 15)=fi hK (i:Int)
 hC:∀ca bc bt Mu Wg bg cs f,jq (fin (b_ ng i ca bc bt Mu Wg bg cs f) undef) (aE Wg (frA ng i ca bc bt Mu Wg bg cs f) cs)
 hD:∀ca bc bt Mu Wg bg cs f,jq (G ((frA ng i ca bc bt Mu Wg bg cs f).finish (fP #[])) cs) (d_ ng i ca bc bt Mu Wg bg cs f)
 goD:∀ca bc bt Mu Wg bg cs f w,stepG PP true (d_ ng i ca bc bt Mu Wg bg cs f) w=.spawn (fin (d_ ng i ca bc bt Mu Wg bg cs f) undef) (uy Wg bc bg Mu bt) w #[]
 rD:∀ca bc bt Mu Wg bg cs f,(d_ ng i ca bc bt Mu Wg bg cs f).status=ik/\(fin (d_ ng i ca bc bt Mu Wg bg cs f) undef).status=ik
structure aoV(ng i:Nat):Prop where
 hE:∀ca bc bt Mu Wg bg cs f,jq (fin (d_ ng i ca bc bt Mu Wg bg cs f) undef) (a_ ng (i+1) ca bc bt Mu Wg cs (amf (T6 (fin (d_ ng i ca bc bt Mu Wg bg cs f) undef))))
structure amE(ng:Nat):Prop where
 h:∀ca bc Tb bt Mu Wg sa cg cs,jq (fin (m6 ca bc Tb bt Mu Wg cs) (ft sa ng cg)) (a_ ng 0 ca bc bt Mu Wg cs (amf (T6 (fin (m6 ca bc Tb bt Mu Wg cs) (ft sa ng cg)))))
structure amF(g:aa)(cs:List aT)(Tb:Nat):Prop where
 self:g=G g.frame cs
 mode:g.frame.mode=hS
 kind:g.frame.kind=hM
 defers:g.frame.defers=[]
 fn:g.frame.fn=29
 res:g.frame.tmps.getD 2 undef=pt Tb
structure as3(ng i:Nat):Prop where
 hW:∀ca bc bt Mu Wg bg cs f,jq (fin (d_ ng i ca bc bt Mu Wg bg cs f) undef) (wE Wg (frW ng i ca bc bt Mu Wg bg cs f) cs)
 hL:∀ca bc bt Mu Wg bg cs f,jq (G ((frW ng i ca bc bt Mu Wg bg cs f).finish (fP #[])) cs) (f_ ng i ca bc bt Mu Wg bg cs f)
 oL:∀ca bc bt Mu Wg bg cs f,(bF (f_ ng i ca bc bt Mu Wg bg cs f)).map (·.op)=some (gG 81 (hT 3))/\(f_ ng i ca bc bt Mu Wg bg cs f).frame.eval (hT 3)=pt bt
 hR:∀ca bc Tb bt Mu Wg bg cs f,jq (fin (f_ ng i ca bc bt Mu Wg bg cs f) (pt Tb)) (g_ ng i ca bc Tb bt Mu Wg bg cs f)
 eR:∀ca bc Tb bt Mu Wg bg cs f,amF (g_ ng i ca bc Tb bt Mu Wg bg cs f) cs Tb
structure aoW:Prop where
 hW:∀ca bc Tb bt Mu Wg sa cg cs,jq (fin (m6 ca bc Tb bt Mu Wg cs) (ft sa 0 cg)) (wE Wg (amC ca bc Tb bt Mu Wg sa cg cs) cs)
 hL:∀ca bc Tb bt Mu Wg sa cg cs,jq (G ((amC ca bc Tb bt Mu Wg sa cg cs).finish (fP #[])) cs) (sL0 ca bc Tb bt Mu Wg sa cg cs)
 oL:∀ca bc Tb bt Mu Wg sa cg cs,(bF (sL0 ca bc Tb bt Mu Wg sa cg cs)).map (·.op)=some (gG 81 (hT 3))/\(sL0 ca bc Tb bt Mu Wg sa cg cs).frame.eval (hT 3)=pt bt
 hR:∀ca bc Tb bt Mu Wg sa cg cs,jq (fin (sL0 ca bc Tb bt Mu Wg sa cg cs) (pt Tb)) (sR0 ca bc Tb bt Mu Wg sa cg cs)
 eR:∀ca bc Tb bt Mu Wg sa cg cs,amF (sR0 ca bc Tb bt Mu Wg sa cg cs) cs Tb
def al5(ng i:Nat)(h:i<ng)(a:ng<=3):amD ng i:=by
 match ng,i,h,a with
 |1,0,_,_|2,0,_,_|2,1,_,_|3,0,_,_|3,1,_,_|3,2,_,_=>
  exact⟨λca bc bt Mu Wg cs f=>ae,λca bc bt Mu Wg bg cs f=>dm (by delta b_;rfl),λca bc bt Mu Wg bg cs f=>⟨ae,ae,ae⟩,λca bc bt Mu Wg bg cs f=>dm ae,λca bc bt Mu Wg bg cs f=>dm (by delta d_;rfl),λca bc bt Mu Wg bg cs f w=>ae,λca bc bt Mu Wg bg cs f=>⟨ae,ae⟩⟩
def amG(ng i:Nat)(h:i+1<ng)(a:ng<=3):aoV ng i:=by
 match ng,i,h,a with
 |2,0,_,_|3,0,_,_|3,1,_,_=>exact⟨λca bc bt Mu Wg bg cs f=>dm ae⟩
def al6(ng:Nat)(h:0<ng)(a:ng<=3):amE ng:=by
 match ng,h,a with
 |1,_,_|2,_,_|3,_,_=>exact⟨λca bc Tb bt Mu Wg sa cg cs=>dm ae⟩
def aoX(ng:Nat)(a:ng<=2):as3 (ng+1) ng:=by
 match ng,a with
 |0,_|1,_|2,_=>
  exact⟨λca bc bt Mu Wg bg cs f=>dm ae,λca bc bt Mu Wg bg cs f=>dm (by delta f_;rfl),λca bc bt Mu Wg bg cs f=>⟨ae,ae⟩,λca bc Tb bt Mu Wg bg cs f=>dm (by delta g_;rfl),λca bc Tb bt Mu Wg bg cs f=>⟨ae,ae,ae,ae,ae,ae⟩⟩
def aoY:aoW:=
 ⟨λca bc Tb bt Mu Wg sa cg cs=>dm ae,λca bc Tb bt Mu Wg sa cg cs=>dm (by delta sL0;rfl),λca bc Tb bt Mu Wg sa cg cs=>⟨ae,ae⟩,λca bc Tb bt Mu Wg sa cg cs=>dm (by delta sR0;rfl),λca bc Tb bt Mu Wg sa cg cs=>⟨ae,ae,ae,ae,ae,ae⟩⟩
open Go.ConcN Go.bJ
open Go.cD (Th bP)
def akl:∃i,PP.info? 3=some i/\i.zero=some (fi hK 0):=by
 have h:(PP.info? 3).map (·.zero)=some (some (fi hK 0)):=ae;simp_all
def sz3:(PP.info? 3).map (·.size)=some 1:=ae
structure Cf(np ng:Nat)(D:jB)(S:Nat->Nat)(dl:Nat->Int)(gn:Nat->ByteArray)(w0:ai):Prop where
 blk:∀b,b∈dR np D->b<w0.heap.size/\∃o,w0.heap[b]?=some o
 G8:∀i,i<np->∀j,j<12->w0.cell? ⟨D.pb,D.po+12*i+j,none⟩=(pA D i)[j]?
 PM:∀k,k<ng->∀j,j<3->w0.cell? ⟨D.gb,D.go+3*k+j,none⟩=(gA (S k) (dl k) (gn k))[j]?
 Zb:D.ng=ng
 hs:∀k,k<ng->S k<np
 MC:1<=np/\np<=5
 hn:ng<=3
section
variable {X:Fix}{V:Vw}{M:Own}{D:jB}{np ng:Nat}{S:Nat->Nat}{dl:Nat->Int}{gn:Nat->ByteArray}{bc bt:Nat}{w0 w w':ai}
structure Mk(X:Fix)(np:Nat)(D:jB)(bc bt:Nat)(w0 w:ai):Prop where
 live:Live X w
 blk:∀b,b∈dR np D->w.heap[b]?=w0.heap[b]?
 bc:w.heap[bc]?=some (dQ (cA np D) 77)
 bt:w.heap[bt]?=some (dQ #[fJ (some ⟨X.Tb,0,none⟩)] 81)
structure Mv(X:Fix)(V:Vw)(M:Own)(np:Nat)(D:jB)(bc bt:Nat)(w:ai):Prop where
 hg:V.g=0
 clear:d9 X V M
 shun:∀b,V.st b\/M b->∀a':ad,a'.block=b->¬X.Shun (.cell a')
 low:∀b,V.st b\/M b->b<w.heap.size
 has:∀b,(b∈dR np D\/b=bc\/b=bt)->V.st b\/M b
def Mv.keep(h:Mv X V M np D bc bt w)(r:Rl X V M w w'){b:Nat}(hb:V.st b\/M b):w'.heap[b]?=w.heap[b]?:=hb.elim (r.st b) (r.own b)
def Mk.rl(h:Mk X np D bc bt w0 w)(v:Mv X V M np D bc bt w)(r:Rl X V M w w'):Mk X np D bc bt w0 w':=
 ⟨r.live h.live,λb hb=>(v.keep r (v.has b (hY hb))).trans (h.blk b hb),(v.keep r (v.has bc (hZ (hY rfl)))).trans h.bc,(v.keep r (v.has bt (hZ (hZ rfl)))).trans h.bt⟩
def Mv.rl(v:Mv X V M np D bc bt w)(r:Rl X V M w w'):Mv X V M np D bc bt w':={ v with low:=λb hb=>cB (v.low b hb) r.size }
variable {c:Nat}{row:Nat->Nat->Prop}{Post:Own->aa->ai->Prop}
def JH(X:Fix)(np:Nat)(D:jB)(S:Nat->Nat)(dl:Nat->Int)(row:Nat->Nat->Prop)(k:Nat)(w:ai):Prop:=k<3->Rows X ⟨0,λ_=>False,row k⟩ np (S k) k D (dl k) np w
def aev(h:X.P=PP)(l:X.size=75)(p:X.n<=3)(r:0<c)(a:Cf np ng D S dl gn w0){k:Nat}(e:k<ng)(q:∀j,k*25<=j->j<k*25+25->row k j){d:Nat}(v:Mv X V M np D bc bt w)(m:Mk X np D bc bt w0 w)(f:V.st d\/M d)(hg:w.heap[d]?=some (dQ #[fi hK (k:Int)] 3)) :
 zl X (rj c row k V M) D np (S k) k (dl k) (gn k) bc d bt w:=by
 have cell:∀{b:Nat}{o:Nat},b∈dR np D->w.cell? ⟨b,o,none⟩=w0.cell? ⟨b,o,none⟩:=λhb=>by simp only[eE,m.blk _ hb]
 refine⟨h,by show(c+k==0)=false;simp;omega,v.clear.ids,λb hb=>hb.elim (v.clear.st b) (v.clear.own b),λb hb=>v.shun b hb,p,l,λb hb=>v.low b hb,⟨v.has bc (hZ (hY rfl)),m.bc⟩,⟨f,by simp only[eE,hg];rfl⟩,⟨v.has bt (hZ (hZ rfl)),by simp only[eE,m.bt];rfl⟩,
  λb hb=>⟨v.has b (hY hb),by rw[m.blk b hb];exact(a.blk b hb).2⟩,λi hi j g=>(cell (by simp[dR])).trans (a.G8 i hi j g),λj g=>(cell (by simp[dR])).trans (a.PM k e j g),by have:=a.hn;omega,by rw[a.Zb];exact e,a.hs k e,a.MC.2,q⟩
def Aw(f:X.P=PP)(fW:X.size=75)(U:X.n<=3)(Xe:0<c)(W:Cf np ng D S dl gn w0)(hX:X.n=ng){k r:Nat}(hk:k+(r+1)=ng)(sg:FE np (S k))(BU:∀j,k*25<=j->j<k*25+25->row k j)
 {gA:aa} {u p:Nat->aa} {fA:Nat->aT} {cs:List aT} (oA:(bF gA).map (·.op)=some (g7 3)) (hB:∀d,jq (ec gA (pt d)) (u d)) (oB:∀d,(bF (u d)).map (·.op)=some (g2 3 (hT 6) (hT 15))/\(u d).frame.eval (hT 6)=pt d/\(u d).frame.eval (hT 15)=fi hK (k:Int))
 (hC:∀d,jq (ec (u d) undef) (aE X.Wg (fA d) cs)) (hD:∀d,jq (G ((fA d).finish (fP #[])) cs) (p d)) (C:∀d w,stepG PP true (p d) w=.spawn (ec (p d) undef) (uy X.Wg bc d X.Mu bt) w #[]) (Y:∀d,(p d).status=ik/\(ec (p d) undef).status=ik)
 (v:Mv X V M np D bc bt w) (m:Mk X np D bc bt w0 w) (qU:∀b,w0.heap.size<=b->∀a':ad,a'.block=b->¬X.Shun (.cell a')) (FA:w0.heap.size<=w.heap.size)
 (K:∀d w1,Mv X (V.more λb=>M b\/b=d) eb np D bc bt w1->Mk X np D bc bt w0 w1->w0.heap.size<=w1.heap.size->ay X (V.more λb=>M b\/b=d) false (Ta X c np row (JH X np D S dl row) Post r (V.more λb=>M b\/b=d)) eb 0 (ec (p d) undef) w1) :
 ay X V false (Ta X c np row (JH X np D S dl row) Post (r+1) V) M 0 gA w:=by
 have x:(V.g==0)=true:=by rw[v.hg];rfl
 obtain⟨o,y,z⟩:=jC oA;obtain⟨i3,hi,hz⟩:=akl;refine .new v.clear (aK y).1 m.live (o':=λ_=>dQ #[fi hK 0] 3) (G':=λb=>ec gA (pt b)) (λa q=>?_) (λb=>(aK y).2.2 _) λa q=>?_
 .have:=jY (P:=X.P) (mn:=V.g==0) (w:=a) y z (by rw[f];exact hi) hz;exact this
 have m1:=m.rl v q;have v1:=v.rl q;obtain⟨⟨_,_,s⟩,⟨_,_,t⟩,E,H,I⟩:=m1.live;have lM:=bn s;have lW:=bn t;have lT:=bn H;have e:∀(o:Obj)(b:Nat),b<a.heap.size->(a.alloc o).heap[b]?=a.heap[b]?:=λo b hb=>by
  show(a.heap.push _)[b]?=_;grind
 have A:(a.alloc (dQ #[fi hK 0] 3)).heap[a.heap.size]?=some (dQ #[fi hK 0] 3):=eM _ _;have J:Mv X V (λb=>M b\/b=a.heap.size) np D bc bt (a.alloc (dQ #[fi hK 0] 3)):=by
  refine⟨v1.hg,⟨v1.clear.ids,v1.clear.st,λb hb=>?_⟩,λb hb=>?_,λb hb=>?_,λb hb=>(v1.has b hb).imp id hY⟩
  .rcases hb with hb|rfl
   .exact v1.clear.own b hb
   .exact⟨ab,ab,ab⟩
  .rcases hb with hb|hb|rfl
   .exact v1.shun b (hY hb)
   .exact v1.shun b (hZ hb)
   .exact qU _ (cv FA q.size)
  .simp only[eF]
   rcases hb with hb|hb|rfl
   .have:=v1.low b (hY hb);omega
   .have:=v1.low b (hZ hb);omega
   .omega
 have m2:Mk X np D bc bt w0 (a.alloc (dQ #[fi hK 0] 3)):=by
  refine⟨⟨⟨_,_,by unfold eX at s ⊢;rw[e _ _ lM];exact s⟩,⟨_,_,by unfold e7 at t ⊢;rw[e _ _ lW];exact t⟩,E,by rw[e _ _ lT];exact H,I⟩,λb hb=>?_,?_,?_⟩
  .rw[e _ _ (v1.low b (v1.has b (hY hb)))];exact m1.blk b hb
  .rw[e _ _ (v1.low bc (v1.has bc (hZ (hY rfl))))];exact m1.bc
  .rw[e _ _ (v1.low bt (v1.has bt (hZ (hZ rfl))))];exact m1.bt
 refine(hB a.heap.size).run f x ?_;obtain⟨z,hx,hy⟩:=oB a.heap.size;obtain⟨o,y,z⟩:=jC z;have L:=v1.low
 refine .DS (b:=a.heap.size) (cur:=#[fi hK 0]) (ty:=3) J.clear m2.live (hZ rfl) y z hx hy A (by rw[f,sz3];rfl) (by show 0+1<=1;omega) (λc hc=>by
  have:c=fi hK (k:Int):=by simpa[fm]using hc
  subst this;rfl) λw2 q2=>?_
 rw[show(fi hK (k:Int)).cells=#[fi hK (k:Int)] from rfl,rH (show(#[fi hK 0]:Array ac).size=(#[fi hK (k:Int)]:Array ac).size from rfl)];have m3:=m2.rl J q2;have N:=J.rl q2;have eP:w2.heap[a.heap.size]?=some (dQ #[fi hK 0] 3):=(q2.own _ (hZ rfl)).trans A;have Z:jm X a.heap.size:=N.clear.own _ (hZ rfl);have B:∀b,b≠a.heap.size->(w2.setRow a.heap.size #[fi hK (k:Int)]).heap[b]?=w2.heap[b]?:=λb hb=>a9 _ _ _ _ hb;have m4:Mk X np D bc bt w0 (w2.setRow a.heap.size #[fi hK (k:Int)]):=by
  obtain⟨⟨_,_,s⟩,⟨_,_,t⟩,E,H,I⟩:=m3.live;refine⟨⟨⟨_,_,by unfold eX at s ⊢;rw[B _ (fg Z.1)];exact s⟩,⟨_,_,by unfold e7 at t ⊢;rw[B _ (fg Z.2.1)];exact t⟩,E,aS,I⟩,λb hb=>?_,?_,?_⟩
  .rw[B _ (by have:=L b (v1.has b (hY hb));omega)];exact m3.blk b hb
  .rw[B _ (by have:=L bc (v1.has bc (hZ (hY rfl)));omega)];exact m3.bc
  .rw[B _ (by have:=L bt (v1.has bt (hZ (hZ rfl)));omega)];exact m3.bt
 have v4:Mv X V (λb=>M b\/b=a.heap.size) np D bc bt (w2.setRow a.heap.size #[fi hK (k:Int)]):={ N with low:=λb hb=>by simpa using N.low b hb }
 have g4:(w2.setRow a.heap.size #[fi hK (k:Int)]).heap[a.heap.size]?=some (dQ #[fi hK (k:Int)] 3):=bb _ _ _ _ _ _ eP;refine(hC a.heap.size).run f x ?_;have O:w0.heap.size<=w2.heap.size:=by
  have:=q.size;grind
 refine P6 (F:=λw=>Mk X np D bc bt w0 w/\Mv X V (λb=>M b\/b=a.heap.size) np D bc bt w/\w.heap[a.heap.size]?=some (dQ #[fi hK (k:Int)] 3)/\w0.heap.size<=w.heap.size)
  ⟨f,x,v4.clear,λw w' h q=>⟨h.1.rl h.2.1 q,h.2.1.rl q,(q.own _ (hZ rfl)).trans h.2.2.1,cv h.2.2.2 q.size⟩,λw h=>h.1.live,U⟩ r (λw5 h5=>?_) ⟨m4,v4,g4,by simpa using O⟩
 refine(hD a.heap.size).run f x (.stop λw6 q6=>?_);obtain⟨Q,i,R,T⟩:=h5;have m6:=Q.rl i q6;have v6:=i.rl q6;have g6:w6.heap[a.heap.size]?=some (dQ #[fi hK (k:Int)] 3):=(q6.own _ (hZ rfl)).trans R;have ek:X.n-(r+1)=k:=ab;rw[ek];refine⟨(Y _).1,rfl,_,_,by rw[f,x];exact C _ _,(Y _).2,rfl,λl kf=>?_,?_⟩
 .have GH:=aev (c:=c) (row:=row) f fW U Xe W (show k<ng by omega) BU v6 m6 (hZ (hZ rfl)) g6;refine Hl GH sg W.MC.1 (λw h _=>⟨h.put,h.rest⟩) ⟨m6.live,λ_ _=>rfl,cC _⟩ (λj hj _=>l j hj) kf
 .refine K _ _ ⟨i.hg,⟨v6.clear.ids,λb hb=>hb.elim (v6.clear.st b) (v6.clear.own b),λb hb=>hb.elim⟩,λb hb=>hb.elim (λhb=>v6.shun b hb) (λhb=>hb.elim),λb hb=>hb.elim (λhb=>v6.low b hb) (λhb=>hb.elim),λb hb=>hY (v6.has b hb)⟩ m6 (cv T q6.size)
end
end Go.Proofs
namespace Go.Proofs
open Go.Ph Go.Conc Go.ConcN Go.bJ
def aew:∃fn,PP.funcs[29]?=some fn/\fn.results=#[.tmp 2]:=⟨eV,eW,rfl⟩
section
variable {jf:Nat->ac}{jr:List ac}{X:Fix}{V:Vw}{M:Own}{D:jB}{np ng:Nat}{S:Nat->Nat}{dl:Nat->Int}{gn:Nat->ByteArray}{bc bt:Nat}{w0 w:ai}{c:Nat}{row:Nat->Nat->Prop}{c':aT}{l':List aT}
def P8(X:Fix)(c':aT)(l':List aT):Own->aa->ai->Prop:=λ_ g _=>g=G (c'.finish (fJ (some ⟨X.Tb,0,none⟩))) l'
def al7(a:X.P=PP)(p:X.n<=3){g d gR:aa}{k:aT}(v:Mv X V eb np D bc bt w)(m:Mk X np D bc bt w0 w)
 (r:jq g (wE X.Wg k (c'::l'))) (s:jq (G (k.finish (fP #[])) (c'::l')) d) (oL:(bF d).map (·.op)=some (gG 81 (hT 3))/\d.frame.eval (hT 3)=pt bt)
 (t:jq (ec d (pt X.Tb)) gR) (eR:amF gR (c'::l') X.Tb):ay X V false (Ta X c np row (JH X np D S dl row) (P8 X c' l') 0 V) eb 0 g w:=by
 have e:(V.g==0)=true:=by rw[v.hg];rfl
 refine r.run a e ?_;refine MR (F:=λw=>Mk X np D bc bt w0 w/\Mv X V eb np D bc bt w) ⟨a,e,v.clear,λw w' h q=>⟨h.1.rl h.2 q,h.2.rl q⟩,λw h=>h.1.live,p⟩ (λw3 u=>?_) ⟨m,v⟩;obtain⟨m3,b⟩:=u;refine s.run a e ?_;obtain⟨f,x⟩:=oL;obtain⟨o,y,f⟩:=jC f;refine .qM (v:=fJ (some ⟨X.Tb,0,none⟩)) b.clear m3.live y f x (λl q=>?_) ((b.has bt (hZ (hZ rfl))).imp (λh=>⟨h,b.shun bt (hY h)⟩) id) ?_
 .have m4:=m3.rl b q;have h:l.cell? ⟨bt,0,none⟩=some (fJ (some ⟨X.Tb,0,none⟩)):=by simp only[eE,m4.bt];rfl
  exact⟨l8 (by rw[a];exact WW) rfl h,pY h⟩
 refine t.run a e ?_;rw[eR.self];obtain⟨fn,i,j⟩:=aew;refine .leave1 b.clear eR.mode eR.kind eR.defers (by rw[a,eR.fn];exact i) j ?_;rw[eR.res];exact .stop λl _=>⟨rfl,rfl,rfl⟩
theorem abD(h:X.P=PP)(p:X.size=75)(l:X.n<=3)(q:0<c)(s:Cf np ng D S dl gn w0)(t:X.n=ng)(u:∀k,k<ng->FE np (S k))(x:∀k,k<ng->∀j,k*25<=j->j<k*25+25->row k j)
 (y:∀b,w0.heap.size<=b->∀a':ad,a'.block=b->¬X.Shun (.cell a')):∀(r k:Nat),k+(r+1)=ng->∀{V:Vw}{M:Own}{w:ai}{f:Nat->ac},Mv X V M np D bc bt w->Mk X np D bc bt w0 w->w0.heap.size<=w.heap.size->
 ay X V false (Ta X c np row (JH X np D S dl row) (P8 X c' l') (r+1) V) M 0 (a_ ng k (CA.mk (cA np D) jf jr) bc bt X.Mu X.Wg (c'::l') f) w
 |r,k,i,V,M,w,f,v,m,A=>by
  have z:ng<=3:=ab;have a:=al5 ng k ab z;refine Aw (r:=r) (k:=k) h p l q s t i (u k ab) (x k ab) (a.oA ..) (λd=>a.hB (CA.mk (cA np D) jf jr) bc bt X.Mu X.Wg d (c'::l') f) (λd=>a.oB ..) (λd=>a.hC ..) (λd=>a.hD (CA.mk (cA np D) jf jr) bc bt X.Mu X.Wg d (c'::l') f) (λd w=>a.goD ..) (λd=>a.rD ..) v m y A λe w1 v1 m1 B=>?_;have o:((V.more λb=>M b\/b=e).g==0)=true:=by rw[v1.hg];rfl
  match r,i with
  |0,i=>
   obtain rfl:ng=k+1:=ab;have me:=aoX k ab;exact al7 h l v1 m1 (me.hW ..) (me.hL (CA.mk (cA np D) jf jr) bc bt X.Mu X.Wg e (c'::l') f) (me.oL ..) (me.hR ..) (me.eR ..)
  |r+1,i=>
   refine((amG ng k ab z).hE (CA.mk (cA np D) jf jr) bc bt X.Mu X.Wg e (c'::l') f).run h o ?_;exact abD h p l q s t u x y r (k+1) ab v1 m1 B
def agW(f:0<ng)(i:X.P=PP)(y:X.size=75)(d:X.n=ng)(z:0<c)(a:Cf np ng D S dl gn w0)(l:∀k,k<ng->FE np (S k))(p:∀k,k<ng->∀j,k*25<=j->j<k*25+25->row k j)
 (v:Mv X V M np D bc bt w) (m:Mk X np D bc bt w0 w) (A:∀b,w0.heap.size<=b->∀a':ad,a'.block=b->¬X.Shun (.cell a')) (B:w0.heap.size<=w.heap.size) :
 ay X V false (Ta X c np row (JH X np D S dl row) (P8 X c' l') ng V) M 0 (m6 (CA.mk (cA np D) jf jr) bc X.Tb bt X.Mu X.Wg (c'::l')) w:=by
 have C:X.n<=3:=by rw[d];exact a.hn
 have r:(V.g==0)=true:=by rw[v.hg];rfl
 obtain⟨e,s,_⟩:=aes (CA.mk (cA np D) jf jr) bc X.Tb bt X.Mu X.Wg (c'::l');obtain⟨o,t,e⟩:=jC e;have u:=a.Zb;refine .qM (v:=ft (some ⟨D.gb,D.go,none⟩) ng D.cg) v.clear m.live t e s (λx q=>?_) ((v.has bc (hZ (hY rfl))).imp (λh=>⟨h,v.shun bc (hY h)⟩) id) ?_
 .have m1:=m.rl v q;have h:x.cell? ⟨bc,5,none⟩=some (ft (some ⟨D.gb,D.go,none⟩) ng D.cg):=by
   simp only[eE,m1.bc];rw[<-u];rfl
  exact⟨l8 (by rw[i];exact adX) rfl h,pY h⟩
 match ng,f,d,a,l,p with
 |g+1,f,d,a,l,p=>
  refine((al6 (g+1) ab a.hn).h (CA.mk (cA np D) jf jr) bc X.Tb bt X.Mu X.Wg (some ⟨D.gb,D.go,none⟩) D.cg (c'::l')).run i r ?_;grind[abD]
def ahA{Fin:Nat->ai->Prop}{arr:Array ac}{a:Option ad}{b:Nat}(d:X.P=PP)(y:X.n<=3)(hg:V.g=0)(k:d9 X V M)(u:M bc)(f:M bt)(hl:Live X w)(z:w.heap[bc]?=some (dQ arr 77))(A:w.heap[bt]?=some (dQ #[fJ (some ⟨X.Tb,0,none⟩)] 81))(B:arr[5]?=some (ft a 0 b)) :
 ay X V false (Ta X c np row Fin (P8 X c' l') 0 V) M 0 (m6 (CA.mk arr jf jr) bc X.Tb bt X.Mu X.Wg (c'::l')) w:=by
 have l:(V.g==0)=true:=by rw[hg];rfl
 obtain⟨i,p,_⟩:=aes (CA.mk arr jf jr) bc X.Tb bt X.Mu X.Wg (c'::l');obtain⟨o,r,i⟩:=jC i;refine .qM (v:=ft a 0 b) k hl r i p (λm q=>?_) (hZ u) ?_
 .have h:m.cell? ⟨bc,5,none⟩=some (ft a 0 b):=by
   have e:=(q.own bc u).trans z;simp only[eE,e];simpa using B
  exact⟨l8 (by rw[d];exact adX) rfl h,pY h⟩
 have j:=aoY;refine(j.hW (CA.mk arr jf jr) bc X.Tb bt X.Mu X.Wg a b (c'::l')).run d l ?_;refine MR (F:=λw=>Live X w/\w.heap[bt]?=some (dQ #[fJ (some ⟨X.Tb,0,none⟩)] 81)) ⟨d,l,k,λw w' h q=>⟨q.live h.1,(q.own bt f).trans h.2⟩,λw h=>h.1,y⟩ (λw3 x=>?_) ⟨hl,A⟩;refine(j.hL (CA.mk arr jf jr) bc X.Tb bt X.Mu X.Wg a b (c'::l')).run d l ?_;obtain⟨i,p⟩:=j.oL (CA.mk arr jf jr) bc X.Tb bt X.Mu X.Wg a b (c'::l');obtain⟨o,r,i⟩:=jC i;refine .qM (v:=fJ (some ⟨X.Tb,0,none⟩)) k x.1 r i p (λm q=>?_) (hZ f) ?_
 .have h:m.cell? ⟨bt,0,none⟩=some (fJ (some ⟨X.Tb,0,none⟩)):=by
   have e:=(q.own bt f).trans x.2;simp only[eE,e];rfl
  exact⟨l8 (by rw[d];exact WW) rfl h,pY h⟩
 refine(j.hR (CA.mk arr jf jr) bc X.Tb bt X.Mu X.Wg a b (c'::l')).run d l ?_;have eR:=j.eR (CA.mk arr jf jr) bc X.Tb bt X.Mu X.Wg a b (c'::l');rw[eR.self];obtain⟨fn,s,t⟩:=aew;refine .leave1 k eR.mode eR.kind eR.defers (by rw[d,eR.fn];exact s) t ?_;rw[eR.res];exact .stop λm _=>⟨rfl,rfl,rfl⟩
end
section
variable (P:bj)(S:aa->Bool)
noncomputable def nM(w:ai):Nat->aa->List (bq×bv)
 |0,_=>[]
 |n+1,g=>@co (λ_=>List (bq×bv)) ((g.status,stepG P true g w)::nM w n (nx P true g)) [] (S g)
noncomputable def nN(w:ai):Nat->aa->List (bq×bv)
 |0,_=>[]
 |n+1,g=>@co (λ_=>List (bq×bv)) ((ik,.go (nx P true g) w #[])::nN w n (nx P true g)) [] (S g)
end
section
variable {Shun:Loc->Prop}{Q:Nat->aa->ai->Prop}
def jF.quiet{P:bj}{S:aa->Bool}{K:ai->Prop}(f:∀w d,K w->K (w.at d)):∀(n:Nat){B:Nat}{g:aa},(∀w,nM P S w n g=nN P S w n g)->(∀w,K w->jF P Shun Q B (wu P true S n g) w)->∀w,K w->jF P Shun Q B g w
 |0,_,_,_,a,w,b=>a w b
 |n+1,B,g,h,a,w,b=>by
  cases c:S g with
  |true=>simpa only[wu,c]using a w b
  |false=>
   simp only[wu,c]at a;have e:∀w,g.status=ik/\stepG P true g w=.go (nx P true g) w #[]/\nM P S w n (nx P true g)=nN P S w n (nx P true g):=λw=>by
    have:=h w;simp only[nM,nN,c,List.cons.injEq,Prod.mk.injEq]at this;grind
   refine .one B (e w).1 (cC _) λd=>⟨_,_,#[],(e (w.at d)).2.1,ar,?_⟩
   exact jF.quiet f n (λw=>(e w).2.2) a _ (f w d b)
def xU{P:bj}{mn:Bool}{w:ai}{g:aa}{o:bC}{t:aL}{x:a8}{v:ac}(a:bF g=some o)(b:o.op=.box t x)(c:g.frame.eval x=v) :
 stepG P mn g w=.go (ec g (fJ (some ⟨w.heap.size,0,none⟩))) (w.alloc (dQ v.cells t)) #[]:=by
 have e1:bL g.frame.eval o=(do pure (iU (<-fR t v)):Sem bM):=by
  unfold bL;simp only[b,c]
 have d:(fR t v).run P w=hr (fJ (some ⟨w.heap.size,0,none⟩)) (w.alloc (dQ v.cells t)):=by
  simp[fR,newVar,newRow]
 have e:(fR t v).events P w #[]=#[]:=by
  simp[fR,newVar,newRow]
 rw[dF (v:=fJ (some ⟨w.heap.size,0,none⟩)) (w':=w.alloc (dQ v.cells t)) a (by rw[e1];simp[d]),e1];simp[e,seen_none]
structure Ee(w:ai)(h:Array Obj)(w':ai):Prop where
 tape:w'.tape=w.tape
 os:w'.os=w.os
 output:w'.output=w.output
 heap:w'.heap=h
def Ee.at{w w':ai}{h:Array Obj}(k:Ee w h w')(d:Nat):Ee w h (w'.at d):=⟨k.tape,k.os,k.output,k.heap⟩
def Ee.alloc{w w':ai}{h:Array Obj}(k:Ee w h w')(o:Obj):Ee w (h.push o) (w'.alloc o):=⟨k.tape,k.os,k.output,by show w'.heap.push o=_;rw[k.heap]⟩
noncomputable def JI:ac:=fJ none
def ZJ:∃i,PP.info? 81=some i/\i.zero=some JI:=by
 have h:(PP.info? 81).map (·.zero)=some (some JI):=ae;simp_all
noncomputable def kP:Array ac:=#[fi .i32 0,fi .u32 0]
def ZK:∃i,PP.info? 120=some i/\i.zero=some (fl kP):=by
 have h:(PP.info? 120).map (·.zero)=some (some (fl kP)):=ae;simp_all
noncomputable def nc:Array ac:=#[fi .u64 0,fi .u32 0]
def ZL:∃i,PP.info? 127=some i/\i.zero=some (fl nc):=by
 have h:(PP.info? 127).map (·.zero)=some (some (fl nc)):=ae;simp_all
def aex:(PP.info? 81).map (·.size)=some 1:=ae
variable (ca:CA)(bc Tb bt Mu Wg:Nat)(cs:List aT)
def z_0:∀w,nM PP eL w 400 (G (fE ca) cs)=nN PP eL w 400 (G (fE ca) cs):=λw=>ae
def z_1:∀w,nM PP eL w 400 (ec (m0 ca cs) (pt bc))=nN PP eL w 400 (ec (m0 ca cs) (pt bc)):=λw=>ae
def z_2:∀w,nM PP eL w 400 (ec (m1 ca bc cs) (pt Tb))=nN PP eL w 400 (ec (m1 ca bc cs) (pt Tb)):=λw=>ae
def z_3:∀w,nM PP eL w 400 (ec (m2 ca bc Tb cs) (pt bt))=nN PP eL w 400 (ec (m2 ca bc Tb cs) (pt bt)):=λw=>ae
def z_4:∀w,nM PP eL w 400 (ec (m3 ca bc Tb bt cs) undef)=nN PP eL w 400 (ec (m3 ca bc Tb bt cs) undef):=λw=>ae
def z_5:∀w,nM PP eL w 400 (ec (m4 ca bc Tb bt cs) (pt Mu))=nN PP eL w 400 (ec (m4 ca bc Tb bt cs) (pt Mu)):=λw=>ae
def z_6:∀w,nM PP eL w 400 (ec (m5 ca bc Tb bt Mu cs) (pt Wg))=nN PP eL w 400 (ec (m5 ca bc Tb bt Mu cs) (pt Wg)):=λw=>ae
def jF.aB{Shun:Loc->Prop}{Q:Nat->aa->ai->Prop}{K:ai->Prop}(a:∀w d,K w->K (w.at d)){B:Nat}{g g':aa}(b:jq g g')(h:∀w,nM PP eL w 400 g=nN PP eL w 400 g)(c:∀w,K w->jF PP Shun Q B g' w):∀w,K w->jF PP Shun Q B g w:=
 jF.quiet a 400 h (by rw[show wu PP true eL 400 g=g' from b.e];exact c)
noncomputable def oX(h:Array Obj)(ca:Array ac):Array Obj:=((((h.push (dQ ca 77)).push (dQ dZ 113)).push (dQ #[fJ (some ⟨h.size+1,0,none⟩)] 81)).push (dQ kP 120)).push (dQ nc 127)
def ZN{w:ai}(L:∀b,w.heap.size<=b->∀o,¬Shun (.cell ⟨b,o,none⟩))(u:∀w',Ee w (oX w.heap ca.arr) w'->Q (w.heap.size+3) (m6 ca w.heap.size (w.heap.size+1) (w.heap.size+2) (w.heap.size+3) (w.heap.size+4) cs) w') :
 jF PP Shun Q w.heap.size (G (fE ca) cs) w:=by
 have M:=w.heap.size;refine jF.aB (K:=Ee w w.heap) (λ_ d h=>h.at d) (m_0 ca cs) (z_0 ca cs) (λw1 n=>?_) w ⟨rfl,rfl,rfl,rfl⟩;obtain⟨a,k⟩:=ajX ca cs;obtain⟨o,f,a⟩:=jC a;refine .one (g:=m0 ca cs) w.heap.size (aK f).1 (cC _) λd=>⟨_,_,#[],xU f a k,ar,?_⟩
 have k1:=(n.at d).alloc (dQ ca.arr 77);have v:(w1.at d).heap.size=w.heap.size:=by rw[(n.at d).heap]
 rw[v];refine jF.aB (K:=Ee w (w.heap.push (dQ ca.arr 77))) (λ_ d h=>h.at d) (m_1 ca w.heap.size cs) (z_1 ca w.heap.size cs) (λw2 p=>?_) _ k1;obtain⟨a,k⟩:=ajY ca w.heap.size cs;obtain⟨o,f,a⟩:=jC a;refine .one (g:=m1 ca w.heap.size cs) w.heap.size (aK f).1 (cC _) λd=>⟨_,_,#[],xU f a k,ar,?_⟩
 have k2:=(p.at d).alloc (dQ dZ 113);have y:(w2.at d).heap.size=w.heap.size+1:=by rw[(p.at d).heap];simp
 rw[y];refine jF.aB (K:=Ee w ((w.heap.push (dQ ca.arr 77)).push (dQ dZ 113))) (λ_ d h=>h.at d) (m_2 ca w.heap.size (w.heap.size+1) cs) (z_2 ca w.heap.size (w.heap.size+1) cs) (λw3 q=>?_) _ k2;obtain⟨o,f,a⟩:=jC (ajZ ca w.heap.size (w.heap.size+1) cs);obtain⟨i,hi,l⟩:=ZJ;refine .one (g:=m2 ca w.heap.size (w.heap.size+1) cs) w.heap.size (aK f).1 (cC _) λd=>⟨_,_,#[],jY f a hi l,ar,?_⟩
 have k3:=(q.at d).alloc (dQ #[fJ none] 81);have z:(w3.at d).heap.size=w.heap.size+2:=by rw[(q.at d).heap];simp
 rw[z];refine jF.aB (K:=Ee w (((w.heap.push (dQ ca.arr 77)).push (dQ dZ 113)).push (dQ #[fJ none] 81))) (λ_ d h=>h.at d) (m_3 ca w.heap.size (w.heap.size+1) (w.heap.size+2) cs) (z_3 ca w.heap.size (w.heap.size+1) (w.heap.size+2) cs) (λw4 m=>?_) _ k3;obtain⟨a,k,hy⟩:=ak0 ca w.heap.size (w.heap.size+1) (w.heap.size+2) cs;obtain⟨o,f,a⟩:=jC a;refine .one (g:=m3 ca w.heap.size (w.heap.size+1) (w.heap.size+2) cs) (w.heap.size+3) (aK f).1 ab λd=>?_;have r:((w.heap.push (dQ ca.arr 77)).push (dQ dZ 113)).size=w.heap.size+2:=ar;have hb:(w4.at d).heap[w.heap.size+2]?=some (dQ #[fJ none] 81 (0,0)):=by rw[(m.at d).heap,<-r,f5]
 obtain⟨es,st,A⟩:=rC (P:=PP) (mn:=true) f a k hy hb (by rw[aex];rfl) (by show 0+1<=1;omega) (λc hc=>by
  have:c=fJ (some ⟨w.heap.size+1,0,none⟩):=by simpa[fm]using hc
  subst this;rfl)
 refine⟨_,_,es,st,λe B=>?_,?_⟩
 .obtain⟨j,N,rfl⟩:=A e B;refine⟨λx O hs=>?_,ar,ar,?_⟩
  .have e1:(MemAct.ofEvent ⟨.cell ⟨w.heap.size+2,0+j,none⟩,true,false⟩).touch? = some ⟨.cell ⟨w.heap.size+2,0+j,none⟩,true,.plain⟩:=rfl;grind
  .show w.heap.size+2<w.heap.size+3;omega
 have C:Ee w (((w.heap.push (dQ ca.arr 77)).push (dQ dZ 113)).push (dQ #[fJ (some ⟨w.heap.size+1,0,none⟩)] 81)) ((w4.at d).setRow (w.heap.size+2) (putRow #[fJ none] 0 (pt (w.heap.size+1)).cells)):=by
  refine⟨m.tape,m.os,m.output,?_⟩;rw[rH (show(#[fJ none]:Array ac).size=(pt (w.heap.size+1)).cells.size from rfl)];apply f6;intro b;have R:=(m.at d).heap;by_cases D:b=w.heap.size+2
  .subst D;rw[bb _ _ _ _ _ _ hb,<-r,f5];rfl
  grind[a9,dd,Array.getElem?_push_lt,f7]
 refine jF.aB (K:=Ee w (((w.heap.push (dQ ca.arr 77)).push (dQ dZ 113)).push (dQ #[fJ (some ⟨w.heap.size+1,0,none⟩)] 81))) (λ_ d h=>h.at d) (m_4 ca w.heap.size (w.heap.size+1) (w.heap.size+2) cs) (z_4 ca w.heap.size (w.heap.size+1) (w.heap.size+2) cs) (λw5 s=>?_) _ C;obtain⟨o,f,a⟩:=jC (ak1 ca w.heap.size (w.heap.size+1) (w.heap.size+2) cs);obtain⟨i,hi,l⟩:=ZK;refine .one (g:=m4 ca w.heap.size (w.heap.size+1) (w.heap.size+2) cs) (w.heap.size+3) (aK f).1 (cC _) λd=>⟨_,_,#[],jY f a hi l,ar,?_⟩
 have E:=(s.at d).alloc (dQ kP 120);have F:(w5.at d).heap.size=w.heap.size+3:=by rw[(s.at d).heap];simp
 rw[F];refine jF.aB (K:=Ee w ((((w.heap.push (dQ ca.arr 77)).push (dQ dZ 113)).push (dQ #[fJ (some ⟨w.heap.size+1,0,none⟩)] 81)).push (dQ kP 120))) (λ_ d h=>h.at d) (m_5 ca w.heap.size (w.heap.size+1) (w.heap.size+2) (w.heap.size+3) cs) (z_5 ca w.heap.size (w.heap.size+1) (w.heap.size+2) (w.heap.size+3) cs) (λw6 t=>?_) _ E;obtain⟨o,f,a⟩:=jC (ak2 ca w.heap.size (w.heap.size+1) (w.heap.size+2) (w.heap.size+3) cs);obtain⟨i,hi,l⟩:=ZL;refine .one (g:=m5 ca w.heap.size (w.heap.size+1) (w.heap.size+2) (w.heap.size+3) cs) (w.heap.size+3) (aK f).1 (cC _) λd=>⟨_,_,#[],jY f a hi l,ar,?_⟩
 have H:=(t.at d).alloc (dQ nc 127);have I:(w6.at d).heap.size=w.heap.size+4:=by rw[(t.at d).heap];simp
 rw[I];refine jF.aB (K:=Ee w (oX w.heap ca.arr)) (λ_ d h=>h.at d) (m_6 ca w.heap.size (w.heap.size+1) (w.heap.size+2) (w.heap.size+3) (w.heap.size+4) cs) (z_6 ca w.heap.size (w.heap.size+1) (w.heap.size+2) (w.heap.size+3) (w.heap.size+4) cs) (λw7 J=>.done (u w7 J)) _ H
end
end Go.Proofs
namespace Go.Ph
open Go.Conc Go.ConcN
def TI.ZO{Shun Sh:Loc->Prop}{c:Nat}{t:bR}{B:Nat}(h:f9 Shun B t)(n:∀l,Sh l->l.isMemory=true/\¬l.low B)(Own Rd:Nat->Loc->Prop)(hg:∀op∈t,c<=op.g->op.act.touch? = none):TI Shun Sh Own Rd c 0 t:=by
 have o:∀(i:Nat)(op:MemOp)(x:Touch),t[i]?=some op->op.act.touch? = some x->¬Sh x.loc:=by
  intro i op x hi b hs;obtain⟨d,hl⟩:=n _ hs;refine hl ?_;have:=h.seen op (gc hi);generalize op.act=act at b this
  cases act with
  |access e=>cases e.sync<;>(simp[MemAct.touch?]at b;subst b;exact this)
  |mark m=>cases m<;>simp[MemAct.touch?]at b<;>(subst b;exact this)
  |_=>simp[MemAct.touch?]at b
 refine⟨h.clean,λi a f _ d=>(h.known i a f d).imp id (·.2),λi op x hi b hs=>absurd hs (o i op x hi b),λk _ _=>ab,λk _ _=>ab,λl d _ hs _ i a f e=>?_,λl d _ hs _ i a f e _=>?_,
  λi op a hi _ _ f d=>h.known i a (by rw[touchAt_of hi];exact f) d,λi g hi p _ hc=>h.over i g hi p hc,λi op a hi j f=>?_,λi op hi j=>hg op (gc hi) j⟩
 .rcases h.known i a f (by rw[e];exact d) with k|⟨k,_⟩
  .exact k
  .exact absurd (e▸k) hs
 .rcases h.known i a f (by rw[e];exact d) with k|⟨k,_⟩
  .exact k
  .exact absurd (e▸k) hs
 grind
end Go.Ph
namespace Go.Proofs
open Go.Ph Go.Conc Go.ConcN Go.bJ
section
variable {h:Array Obj}{ca:Array ac}
def xV:(oX h ca).size=h.size+5:=by simp[oX]
def Ay{b:Nat}(hb:b<h.size):(oX h ca)[b]?=h[b]?:=by
 unfold oX;grind
def oY(k:Nat):(oX h ca)[h.size+k]?=(#[dQ ca 77,dQ dZ 113,dQ #[fJ (some ⟨h.size+1,0,none⟩)] 81,dQ kP 120,dQ nc 127]:Array Obj)[k]?:=by
 have e:oX h ca=h ++ #[dQ ca 77,dQ dZ 113,dQ #[fJ (some ⟨h.size+1,0,none⟩)] 81,dQ kP 120,dQ nc 127]:=by
  apply f8;simp[oX]
 grind
end
noncomputable def zL(Shun:Loc->Prop)(n0 n:Nat):Fix:={ P:=PP,tM:=120,tW:=127,tT:=113,Mu:=n0+3,Wg:=n0+4,Tb:=n0+1,size:=75,n:=n,Shun }
def Ef(k o:Nat):Prop:=k<3/\k*25<=o/\o<k*25+25
noncomputable def xW(Shun:Loc->Prop)(n0 n c np:Nat)(D:jB)(S:Nat->Nat)(dl:Nat->Int)(c':aT)(l':List aT)(w₀:ai):CB:=
 { zL Shun n0 n with c,np,row:=Ef,Fin:=JH (zL Shun n0 n) np D S dl Ef,Post:=P8 (zL Shun n0 n) c' l',sE:=n0,w₀ }
def mp0(n:Nat):MP:=if n=0 then .w1 else .add
def ag5(n:Nat):(n=0/\mp0 n=.w1)\/(0<n/\mp0 n=.add):=by
 unfold mp0;grind
noncomputable def ZP(n0 n np:Nat)(st:Nat->Prop)(tr:Tree)(q:Nat->Nat):Gh where
 j:=0
 th:=λ_=>{ pc:=.l0,r:=np }
 wp:=λ_=>.mu
 mp:=mp0 n
 V:=λ_=>⟨0,st,λ_=>False⟩
 M:=λ_ b=>b=n0\/b=n0+2
 tr:=λ_=>tr
 q:=q
 fu:=λ_=>1000
 s:=⟨{},0,0,0,0⟩
def akp(n np:Nat)(b:1<=np):cD.Inv n ⟨λ_=>{ pc:=.l0,r:=np },{},0⟩:=by
 have z:∀(f:cD.Th->Nat),f { pc:=.l0,r:=np }=0->sumTo n (λi=>f ((λ_=>({ pc:=.l0,r:=np }:cD.Th)) i))=0:=by
  intro f hf;show sumTo n (λ_=>f { pc:=.l0,r:=np })=0;rw[hf]
  induction n with
  |zero=>rfl
  |succ n a=>simp[sumTo,a]
 have c:=z cD.fh rfl;have d:=z cD.fq rfl;have e:=z cD.fk rfl;have g:=z cD.fa rfl;have j:=z cD.fr rfl;have k:=z cD.fw rfl;refine⟨λi _=>⟨?_,?_,?_,?_,?_,?_,?_,?_,?_,?_,?_⟩,?_,?_,?_,?_,?_⟩
 all_goals grind
def aey{Shun:Loc->Prop}{n0 n c np:Nat}{st:Nat->Prop}{D:jB}{S:Nat->Nat}{dl:Nat->Int}{c':aT}{l':List aT}{w₀:ai}{tr:Tree}{q:Nat->Nat}(a:n<=3):vK (xW Shun n0 n c np D S dl c' l' w₀) (ZP n0 n np st tr q)<=170:=by
 show wM n 0 0 (mp0 n)+0<=170
 rcases ag5 n with⟨_,h⟩|⟨_,h⟩<;>rw[h]<;>simp only[wM]<;>omega
def UO{Shun:Loc->Prop}{n0 n c np:Nat}{D:jB}{S:Nat->Nat}{dl:Nat->Int}{c':aT}{l':List aT}{w₀:ai}(f:1<=np/\np<=5):nG (xW Shun n0 n c np D S dl c' l' w₀):=by
 intro k w w' h hf a;have b:=hf a;refine⟨λd g j i=>?_,λj e l=>?_⟩
 .refine(h _ ⟨a,ab,?_⟩).trans (b.put d g j i);have:=oW (s:=S k) f.1 (r:=d);omega
 .exact(h j e).trans (b.rest j e l)
def JK{Shun:Loc->Prop}{n0 n c np:Nat}{D:jB}{S:Nat->Nat}{dl:Nat->Int}{c':aT}{l':List aT}{w₀:ai}:Jn (xW Shun n0 n c np D S dl c' l' w₀):=by
 intro k k' o b h a;obtain⟨_,d,e⟩:=h;obtain⟨_,f,g⟩:=a;grind
def Qa{Shun:Loc->Prop}{n0 n c np:Nat}{D:jB}{S:Nat->Nat}{dl:Nat->Int}{c':aT}{l':List aT}{w₀:ai}:GL (xW Shun n0 n c np D S dl c' l' w₀):=λ_ _ _ _ h=>h
def MS{o:Nat}(h:o<75):dZ[o]?=some (fi hK 0):=by
 unfold dZ;grind
section
variable {jf:Nat->ac}{jr:List ac}{Shun:Loc->Prop}{np:Nat}{D:jB}{S:Nat->Nat}{dl:Nat->Int}{gn:Nat->ByteArray}{c':aT}{l':List aT}
def UP{n:Nat}{arr:Array ac}{st:Nat->Prop}{gs:Array aa}{w w1:ai}{t:bR}{q:Nat->Nat}(K:n<=3)(L:1<=np)(F:∀b,st b->b<w.heap.size)
 (N:∀l,Shun l->l.low w.heap.size/\l.isMemory=true)
 (p:Ee w (oX w.heap arr) w1) (O:gs[0]?=some (m6 (CA.mk arr jf jr) w.heap.size (w.heap.size+1) (w.heap.size+2) (w.heap.size+3) (w.heap.size+4) (c'::l')))
 (H:ay (zL Shun w.heap.size n) ⟨0,st,λ_=>False⟩ false (Ta (zL Shun w.heap.size n) gs.size np Ef (JH (zL Shun w.heap.size n) np D S dl Ef) (P8 (zL Shun w.heap.size n) c' l') n ⟨0,st,λ_=>False⟩) (λb=>b=w.heap.size\/b=w.heap.size+2) 0 (m6 (CA.mk arr jf jr) w.heap.size (w.heap.size+1) (w.heap.size+2) (w.heap.size+3) (w.heap.size+4) (c'::l')) w1)
 (I:ge PP t gs q) (x:f9 Shun (w.heap.size+3) t) (P:∀op∈t,gs.size<=op.g->op.act.touch? = none) :
 ∃tr,MI (xW Shun w.heap.size n gs.size np D S dl c' l' w1) (ZP w.heap.size n np st tr q) gs w1 t:=by
 have Q:0<gs.size:=(Array.getElem?_eq_some_iff.1 O).1;have Y:w1.heap.size=w.heap.size+5:=by rw[p.heap,xV]
 have hold:∀b,b<w.heap.size->w1.heap[b]?=w.heap[b]?:=λb hb=>by rw[p.heap,Ay hb]
 have Z:w1.heap[w.heap.size]?=some (dQ arr 77):=by rw[p.heap];exact oY 0
 have r:w1.heap[w.heap.size+1]?=some (dQ dZ 113):=by rw[p.heap];exact oY 1
 have R:w1.heap[w.heap.size+2]?=some (dQ #[fJ (some ⟨w.heap.size+1,0,none⟩)] 81):=by rw[p.heap];exact oY 2
 have z:w1.heap[w.heap.size+3]?=some (dQ kP 120):=by rw[p.heap];exact oY 3
 have A:w1.heap[w.heap.size+4]?=some (dQ nc 127):=by rw[p.heap];exact oY 4
 have T:ShAt (zL Shun w.heap.size n) w1 ⟨{},0,0,0,0⟩:=⟨z,A⟩
 have B:ay (zL Shun w.heap.size n) ⟨0,st,λ_=>False⟩ false (stM (xW Shun w.heap.size n gs.size np D S dl c' l' w1) 0 1000 ⟨0,st,λ_=>False⟩ (mp0 n)) (λb=>b=w.heap.size\/b=w.heap.size+2) 0 (m6 (CA.mk arr jf jr) w.heap.size (w.heap.size+1) (w.heap.size+2) (w.heap.size+3) (w.heap.size+4) (c'::l')) w1:=by
  rcases ag5 n with⟨h,e⟩|⟨_,e⟩
  .rw[e];subst h;exact H.mono λM d g w h=>h 1000
  .rw[e];exact H
 have s:=ag5 n;obtain⟨tr,C⟩:=B;obtain⟨_,_,U⟩:=aes (CA.mk arr jf jr) w.heap.size (w.heap.size+1) (w.heap.size+2) (w.heap.size+3) (w.heap.size+4) (c'::l');refine⟨tr,?_⟩;have z0:∀a,a<=(ZP w.heap.size n np st tr q).j->a=0:=λa f=>Nat.le_zero.1 f;constructor
 case cpos=>exact Q
 case size=>rfl
 case sit=>
  intro a f g hg;obtain rfl:=z0 a f;have:g=m6 (CA.mk arr jf jr) w.heap.size (w.heap.size+1) (w.heap.size+2) (w.heap.size+3) (w.heap.size+4) (c'::l'):=by
   have I1:gs[0]?=some g:=hg;grind
  subst this;refine .run (λh=>h) U ?_;have hd:Deaf t (gid (xW Shun w.heap.size n gs.size np D S dl c' l' w1) 0)=0:=x.hears;rw[hd];exact C
 case old=>exact λi g m _ J=>I.old i g m J
 case above=>exact I.above
 case sh=>exact T
 case tb=>exact⟨dZ,r,by show dZ.size=75;simp[dZ]⟩
 case mun=>exact akp n np L
 case fresh=>exact λ_ _ _=>rfl
 case out=>grind
 case wi=>
  refine⟨?_,λh=>?_,λh h'=>?_,dp _,λ_=>⟨rfl,rfl,rfl,rfl⟩,λh=>?_,λh=>?_,λv h=>?_⟩
  .show 0=0+(if mp0 n=.go then 1 else 0)
   grind
  .show 0<n
   rcases s with⟨_,e⟩|⟨m,e⟩
   .rcases h with h|h
    .have h:mp0 n=.add:=h;rw[e]at h;cases h
    .have h:mp0 n=.go:=h;rw[e]at h;cases h
   .exact m
  .show 0=n
   rcases s with⟨m,e⟩|⟨_,e⟩
   .exact m.symm
   .exact absurd e h
  .have h:mp0 n=.w3:=h;grind
  .have h:mp0 n=.w4\/mp0 n=.aq\/mp0 n=.an:=h;grind
  .have h:mp0 n=.w2 v:=h;grind
 case fuel=>grind
 case fuel0=>
  have:=aey (Shun:=Shun) (n0:=w.heap.size) (n:=n) (c:=gs.size) (np:=np) (st:=st) (D:=D) (S:=S) (dl:=dl) (c':=c') (l':=l') (w₀:=w1) (tr:=tr) (q:=q) K;show _+1<=1000;omega
 case oi=>
  constructor
  case ap=>
   intro a f b hb
   rcases hb with hb|hb
   .have y:b=w.heap.size\/b=w.heap.size+2:=hb;exact⟨ab,by show b≠w.heap.size+3;omega,by show b≠w.heap.size+4;omega,by show b≠w.heap.size+1;omega⟩
   .have:=F b hb;exact⟨ab,by show b≠w.heap.size+3;omega,by show b≠w.heap.size+4;omega,by show b≠w.heap.size+1;omega⟩
  case dj=>grind
  case self=>
   intro a f b hb hs;have y:b=w.heap.size\/b=w.heap.size+2:=hb;have:=F b hs;omega
  case rows=>grind
  case base=>
   intro a f b hb;have y:b=w.heap.size\/b=w.heap.size+2:=hb;show w.heap.size<=b;omega
  case num=>intro a f;obtain rfl:=z0 a f;rfl
  case ids=>
   show w.heap.size+3≠w.heap.size+4/\w.heap.size+3≠w.heap.size+1/\w.heap.size+4≠w.heap.size+1/\w.heap.size<=w.heap.size+3/\w.heap.size<=w.heap.size+4/\w.heap.size<=w.heap.size+1/\w.heap.size+3<w1.heap.size/\w.heap.size+4<w1.heap.size/\w.heap.size+1<w1.heap.size;omega
  case main=>rfl
  grind
 case shun=>exact N
 case tri=>
  refine TI.ZO x (λl hl=>?_) _ _ P;obtain⟨a,rfl,f⟩:=hl;refine⟨rfl,λV=>?_⟩;have m:a.block<w.heap.size+3:=V;have y:a.block=w.heap.size+3\/a.block=w.heap.size+4:=f;omega
 case rel=>grind
 case norel=>
  intro i hi;obtain⟨op,E,W⟩:∃op,t[i]?=some op/\op.act=.mark (.release (e8 (w.heap.size+4))):=by
   unfold Trace.act? at hi
   cases u:t[i]? with
   |none=>rw[u]at hi;cases hi
   |some op=>rw[u]at hi;exact⟨op,rfl,gf hi⟩
  have:=x.seen op (gc E);rw[W]at this;have m:w.heap.size+4<w.heap.size+3:=this;omega
 case low=>exact λop E=>MemAct.low_mono ab (x.seen op E)
 case fin=>grind
 case acq=>
  intro h;have h:mp0 n=.an:=h;grind
 case tape=>rfl
 case output=>rfl
 case os=>exact .refl _
 case kept=>exact λ_ _=>rfl
 case rowok=>exact JK (Shun:=Shun) (n0:=w.heap.size) (n:=n) (c:=gs.size) (np:=np) (D:=D) (S:=S) (dl:=dl) (c':=c') (l':=l') (w₀:=w1)
 case un=>
  intro k _ o X;obtain⟨m,y,J⟩:=X;show w1.cell? ⟨w.heap.size+1,o,none⟩=_;simp only[eE,r];exact MS ab
structure UQ(n np:Nat)(D:jB)(S:Nat->Nat)(dl:Nat->Int)(w w1:ai):Prop where
 tape:w1.tape=w.tape
 output:w1.output=w.output
 os:e6 w.os w1.os
 kept:∀b,b<w.heap.size->w1.heap[b]?=w.heap[b]?
 size:w.heap.size+5<=w1.heap.size
 tb:∃cs:Array ac,w1.heap[w.heap.size+1]?=some (dQ cs 113)/\cs.size=75
 rows:∀k,k<n->Rows (zL (λ_=>False) w.heap.size n) ⟨0,λ_=>False,Ef k⟩ np (S k) k D (dl k) np w1
 rest:∀o,n*25<=o->o<75->w1.cell? ⟨w.heap.size+1,o,none⟩=some (fi hK 0)
def ado{n:Nat}{arr:Array ac}{st:Nat->Prop}{gs:Array aa}{w:ai}{sl:Option (Nat×Nat)}{t:bR}{q:Nat->Nat}(I:n<=3)(A:1<=np/\np<=5)(J:∀b,st b->b<w.heap.size)
 (C:∀l,Shun l->l.low w.heap.size/\l.isMemory=true)
 (K:∀c w1,0<c->Ee w (oX w.heap arr) w1->ay (zL Shun w.heap.size n) ⟨0,st,λ_=>False⟩ false (Ta (zL Shun w.heap.size n) c np Ef (JH (zL Shun w.heap.size n) np D S dl Ef) (P8 (zL Shun w.heap.size n) c' l') n ⟨0,st,λ_=>False⟩) (λb=>b=w.heap.size\/b=w.heap.size+2) 0 (m6 (CA.mk arr jf jr) w.heap.size (w.heap.size+1) (w.heap.size+2) (w.heap.size+3) (w.heap.size+4) (c'::l')) w1)
 (L:gs[0]?=some (G (fE (CA.mk arr jf jr)) (c'::l')))
 (M:ge PP t gs q) (O:f9 Shun w.heap.size t) (P:∀op∈t,gs.size<=op.g->op.act.touch? = none) :
 ∃(N:Nat)(a:Array aa)(w1:ai)(p:Option (Nat×Nat))(t1:bR)(q1:Nat->Nat),runNT PP N (crowd gs w sl) t=(.next (crowd a w1 p),t1)/\gs.size<=a.size/\
  a[0]?=some (G (c'.finish (fJ (some ⟨w.heap.size+1,0,none⟩))) l')/\ge PP t1 a q1/\f9 (λl=>Shun l\/OZ (zL Shun w.heap.size n) l) w1.heap.size t1/\(∀op∈t1,a.size<=op.g->op.act.touch? = none)/\
  UQ n np D S dl w w1:=by
 have hs:=ZN (Shun:=Shun) (ca:=CA.mk arr jf jr) (cs:=c'::l') (w:=w) (Q:=λB g w'=>B=w.heap.size+3/\g=m6 (CA.mk arr jf jr) w.heap.size (w.heap.size+1) (w.heap.size+2) (w.heap.size+3) (w.heap.size+4) (c'::l')/\Ee w (oX w.heap arr) w')
  (λb hb o R=>by
    have T:b<w.heap.size:=(C _ R).1
    omega) (λw' h=>⟨rfl,rfl,h⟩)
 obtain⟨N,B1,a,g1,w1,p,t1,q1,U,r2,r,V,E,W,X,Y,d⟩:=hs.run gs sl t q L M O P;rw[X]at E;rw[Y]at r;have Z:0<a.size:=(Array.getElem?_eq_some_iff.1 r).1;obtain⟨tr,m⟩:=UP (c':=c') (l':=l') I A.1 J C d r (K a.size w1 Z d) V E W;obtain⟨N2,f,w2,s,t2,F,k1,m2,there⟩:=MI.runs (UO A) JK Qa _ _ a w1 p t1 rfl m;have u:=nL.T8 m2 there;have v:=nL.GA m2 there;have x:=nL.fin m2 there;have H:F.j=n:=m2.wi.late (by rw[there.1];simp) (by rw[there.1];simp);have aqV:f.size=a.size+n:=by rw[m2.size,H];rfl
 have aqW:w1.heap.size=w.heap.size+5:=by rw[d.heap,xV]
 obtain⟨_,g,hg,_,_,Eb⟩:=there;have ZQ:g=G (c'.finish (fJ (some ⟨w.heap.size+1,0,none⟩))) l':=Eb;rw[ZQ]at hg;obtain⟨cs,y,hcs⟩:=m2.tb;have z:cs.size=75:=hcs;refine⟨N+N2,f,w2,s,t2,F.q,Go.ConcX.runNT_trans U k1,ab,hg,u,v,λop aB ve=>?_,?_⟩
 .obtain⟨i,hi⟩:=Array.mem_iff_getElem?.1 aB;refine m2.tri.LY i op hi ?_;rw[H];show a.size+n<=op.g;omega
 .have YM:e6 w.os w2.os:=by
   have:=m2.os;have e:(xW Shun w.heap.size n a.size np D S dl c' l' w1).w₀.os=w.os:=d.os;rwa[e]at this
  have hmu:w.heap.size+4<w2.heap.size:=m2.oi.ids.2.2.2.2.2.2.2.1;refine⟨m2.tape.trans d.tape,m2.output.trans d.output,YM,λb hb=>(m2.kept b hb).trans ?_,ab,⟨cs,y,z⟩,λk hk=>?_,λo T h2=>?_⟩
  .show w1.heap[b]?=_;rw[d.heap,Ay hb]
  .have:=x k hk ab;exact⟨this.put,this.rest⟩
  .exact m2.un (o / 25) ab o ⟨ab,ab,ab⟩
def MU{n:Nat}{gs:Array aa}{w:ai}{sl:Option (Nat×Nat)}{t:bR}{q:Nat->Nat}(v:0<n)(d:Cf np n D S dl gn w)(x:∀k,k<n->FE np (S k))
 (f:∀l,Shun l->l.low w.heap.size/\l.isMemory=true) (h:∀b∈dR np D,∀a':ad,a'.block=b->¬Shun (.cell a'))
 (y:gs[0]?=some (G (fE (CA.mk (cA np D) jf jr)) (c'::l')))
 (z:ge PP t gs q) (A:f9 Shun w.heap.size t) (B:∀op∈t,gs.size<=op.g->op.act.touch? = none) :
 ∃(N:Nat)(e:Array aa)(w1:ai)(C:Option (Nat×Nat))(t1:bR)(q1:Nat->Nat),runNT PP N (crowd gs w sl) t=(.next (crowd e w1 C),t1)/\gs.size<=e.size/\
  e[0]?=some (G (c'.finish (fJ (some ⟨w.heap.size+1,0,none⟩))) l')/\ge PP t1 e q1/\f9 (λl=>Shun l\/OZ (zL Shun w.heap.size n) l) w1.heap.size t1/\(∀op∈t1,e.size<=op.g->op.act.touch? = none)/\
  UQ n np D S dl w w1:=by
 have i:∀b,b∈dR np D->b<w.heap.size:=λb hb=>(d.blk b hb).1;refine ado (arr:=cA np D) (st:=(·∈dR np D)) d.hn d.MC i f (λc w1 hc a=>?_) y z A B;have H:w1.heap.size=w.heap.size+5:=by rw[a.heap,xV]
 have hold:∀b,b<w.heap.size->w1.heap[b]?=w.heap[b]?:=λb hb=>by rw[a.heap,Ay hb]
 have E:w1.heap[w.heap.size]?=some (dQ (cA np D) 77):=by rw[a.heap];exact oY 0
 have m:w1.heap[w.heap.size+1]?=some (dQ dZ 113):=by rw[a.heap];exact oY 1
 have o:w1.heap[w.heap.size+2]?=some (dQ #[fJ (some ⟨w.heap.size+1,0,none⟩)] 81):=by rw[a.heap];exact oY 2
 have p:w1.heap[w.heap.size+3]?=some (dQ kP 120):=by rw[a.heap];exact oY 3
 have r:w1.heap[w.heap.size+4]?=some (dQ nc 127):=by rw[a.heap];exact oY 4
 have u:ShAt (zL Shun w.heap.size n) w1 ⟨{},0,0,0,0⟩:=⟨p,r⟩
 have I:=d.hn;exact agW (jf:=jf) (jr:=jr) (X:=zL Shun w.heap.size n) (V:=⟨0,(·∈dR np D),λ_=>False⟩) (M:=λb=>b=w.heap.size\/b=w.heap.size+2) (bc:=w.heap.size) (bt:=w.heap.size+2) (c:=c) (row:=Ef) (c':=c') (l':=l') (w:=w1) v rfl rfl rfl hc d x
  (λk J j s F=>⟨ab,s,F⟩)
  ⟨rfl,⟨⟨by show w.heap.size+3≠w.heap.size+4;omega,by show w.heap.size+3≠w.heap.size+1;omega,by show w.heap.size+4≠w.heap.size+1;omega⟩,
    λb hb=>by
     have:=i b hb;exact⟨by show b≠w.heap.size+3;omega,by show b≠w.heap.size+4;omega,by show b≠w.heap.size+1;omega⟩,
    λb hb=>by
     have:b=w.heap.size\/b=w.heap.size+2:=hb
     exact⟨by show b≠w.heap.size+3;omega,by show b≠w.heap.size+4;omega,by show b≠w.heap.size+1;omega⟩⟩,
    λb hb a' ha' hs=>by
     rcases hb with hb|hb
     .exact h b hb a' ha' hs
     .have s:a'.block<w.heap.size:=(f _ hs).1;grind,
    λb hb=>by
     grind,
    λb hb=>by
     grind⟩
  ⟨⟨⟨_,_,u.1⟩,⟨_,_,u.2⟩,dZ,m,by show dZ.size=75;simp[dZ]⟩,λb hb=>hold b (i b hb),E,o⟩
  (λb hb a' ha' hs=>by
    have s:a'.block<w.heap.size:=(f _ hs).1
    omega) ab
def adI{arr:Array ac}{k:Option ad}{m:Nat}{gs:Array aa}{w:ai}{sl:Option (Nat×Nat)}{t:bR}{q:Nat->Nat}(o:arr[5]?=some (ft k 0 m))
 (p:∀l,Shun l->l.low w.heap.size/\l.isMemory=true)
 (r:gs[0]?=some (G (fE (CA.mk arr jf jr)) (c'::l')))
 (s:ge PP t gs q) (u:f9 Shun w.heap.size t) (v:∀op∈t,gs.size<=op.g->op.act.touch? = none) :
 ∃(N:Nat)(a:Array aa)(w1:ai)(x:Option (Nat×Nat))(t1:bR)(q1:Nat->Nat),runNT PP N (crowd gs w sl) t=(.next (crowd a w1 x),t1)/\gs.size<=a.size/\
  a[0]?=some (G (c'.finish (fJ (some ⟨w.heap.size+1,0,none⟩))) l')/\ge PP t1 a q1/\f9 (λl=>Shun l\/OZ (zL Shun w.heap.size 0) l) w1.heap.size t1/\(∀op∈t1,a.size<=op.g->op.act.touch? = none)/\
  UQ 0 1 Y7 (λ_=>0) (λ_=>0) w w1:=by
 refine ado (np:=1) (n:=0) (arr:=arr) (st:=λ_=>False) ab ⟨ab,ab⟩ (λb hb=>hb.elim) p (λc w1 hc d=>?_) r s u v;have y:w1.heap[w.heap.size]?=some (dQ arr 77):=by rw[d.heap];exact oY 0
 have e:w1.heap[w.heap.size+1]?=some (dQ dZ 113):=by rw[d.heap];exact oY 1
 have f:w1.heap[w.heap.size+2]?=some (dQ #[fJ (some ⟨w.heap.size+1,0,none⟩)] 81):=by rw[d.heap];exact oY 2
 have h:w1.heap[w.heap.size+3]?=some (dQ kP 120):=by rw[d.heap];exact oY 3
 have i:w1.heap[w.heap.size+4]?=some (dQ nc 127):=by rw[d.heap];exact oY 4
 have j:ShAt (zL Shun w.heap.size 0) w1 ⟨{},0,0,0,0⟩:=⟨h,i⟩
 exact ahA (X:=zL Shun w.heap.size 0) rfl (by show 0<=3;omega) rfl
  ⟨⟨by show w.heap.size+3≠w.heap.size+4;omega,by show w.heap.size+3≠w.heap.size+1;omega,by show w.heap.size+4≠w.heap.size+1;omega⟩,λb hb=>hb.elim,
    λb hb=>by
     have:b=w.heap.size\/b=w.heap.size+2:=hb
     exact⟨by show b≠w.heap.size+3;omega,by show b≠w.heap.size+4;omega,by show b≠w.heap.size+1;omega⟩⟩
  (hY rfl) (hZ rfl) ⟨⟨_,_,j.1⟩,⟨_,_,j.2⟩,dZ,e,by show dZ.size=75;simp[dZ]⟩ y f o
end
end Go.Proofs
namespace Go.bJ
open Go.Conc Go.Ph
section
variable {T:aI}{fB:Array aP}{F:aH->Bool}{Z:aL->Bool}{f:aH}{R:ac->ai->Prop}{g0 g:aa}{w0 w:ai}
structure Way(T:aI)(fB:Array aP)(F:aH->Bool)(Z:aL->Bool)(f:aH)(R:ac->ai->Prop)(g0:aa)(w0:ai)(g:aa)(w:ai):Prop where
 term:Term ⟨T,fB⟩ (lQ ⟨T,fB⟩ f R) g w
 inv:iE T fB F Z g w
 chain:∃n,cy ⟨T,fB⟩ n g0 w0 g w
def Way.next(fit:Fits T fB fB F (λ_:aH=>false) Z)(h:Way T fB F Z f R g0 w0 g w)(hc:2<=g.callers.length):∃b w1 es,stepG (gj T fB) true g w=.go b w1 es/\Way T fB F Z f R g0 w0 b w1:=by
 obtain⟨c,hi,n,d⟩:=h
 cases c with
 |done i=>
  have:=i.1;grind
 |step j k hs l=>
  obtain⟨es,e⟩:=hs w.tape w.drawn;have a:stepG (gj T fB) true g w=.go (j w.tape w.drawn) (k w.tape w.drawn) es:=e;refine⟨_,_,es,a,l _ _,hi.step fit (λm=>?_) a,n+1,.succ d a⟩;have:=m.2.2;grind
def Qb:Halt->Prop
 |.stuck _=>True
 |.unsupported (.initOrder _)=>False
 |.unsupported _=>True
 |_=>False
def Eg{P:bj}{mn:Bool}{o:bC}{h:Halt}{w':ai}(a:bF g=some o)(b:(bL g.frame.eval o).run P w=ht h w')(hb:Qb h):∃e w1 es,stepG P mn g w=.ended e w1 es:=by
 rw[lV a];obtain⟨fn,tmps,ops,i,c,k,defers,kind,d,cs,rfl,j,l,m,n⟩:=gF a
 cases h with
 |stuck s=>exact⟨_,_,_,by simp only[stepG.apply,if_true,gp,b,GStep.after];rfl⟩
 |unsupported u=>
  cases u with
  |initOrder _=>exact hb.elim
  |_=>exact⟨_,_,_,by simp only[stepG.apply,if_true,gp,b,GStep.after];rfl⟩
 |_=>exact hb.elim
def Way.val(fit:Fits T fB fB F (λ_:aH=>false) Z){o:bC}{s:Sem ac}(h:Way T fB F Z f R g0 w0 g w)(hc:2<=g.callers.length)(c:bF g=some o)(e:bL g.frame.eval o=(do pure (iU (<-s)):Sem bM))(hs:(∃v w',s.run (gj T fB) w=hr v w')\/∃a w',s.run (gj T fB) w=ht a w'/\Qb a) :
 ∃v w',s.run (gj T fB) w=hr v w'/\Way T fB F Z f R g0 w0 (fin g v) w':=by
 obtain⟨i,w1,es,e1,j⟩:=h.next fit hc
 rcases hs with⟨v,w',hv⟩|⟨a,w',d,hb⟩
 .have b:(bL g.frame.eval o).run (gj T fB) w=hr (iU v) w':=by rw[e];simp[hv]
  have:=dF (P:=gj T fB) (mn:=true) (v:=v) (w':=w') c b;grind
 .have b:(bL g.frame.eval o).run (gj T fB) w=ht a w':=by rw[e];simp[d]
  obtain⟨x,w2,l,k⟩:=Eg (P:=gj T fB) (mn:=true) (w:=w) c b hb;rw[k]at e1;cases e1
end
section
variable {T:aI}{fB:Array aP}{F:aH->Bool}{Z:aL->Bool}{f:aH}{R:ac->ai->Prop}{g0 g:aa}{w0 w:ai}{ty t:aL}{x y:a8}{o:bC}
def sS{b:Type}:Result b->Prop
 |ht a _=>Qb a
 |hr _ _=>False
def sS.ex{b:Type}{r:Result b}(h:sS r):∃a w',r=ht a w'/\Qb a:=by
 cases r with
 |halt a w=>exact⟨a,w,rfl,h⟩
 |ok a w=>exact h.elim
def Way.go(fit:Fits T fB fB F (λ_:aH=>false) Z)(h:Way T fB F Z f R g0 w0 g w)(hc:2<=g.callers.length){a:aa}{w1:ai}{es:Array Event}(e:stepG (gj T fB) true g w=.go a w1 es):Way T fB F Z f R g0 w0 a w1:=by
 obtain⟨b,w2,c,d,i⟩:=h.next fit hc;grind
def oZ{ev:a8->ac}{op:BinOp}{u:aL}(a:o.op=g8 op ty x y u):bL ev o=(do pure (iU (<-(do bT op ty x y (ev x) (ev y);binOp op ty (ev x) (ev y)))):Sem bM):=by
 unfold bL;simp only[a]
def Way.int(fit:Fits T fB fB F (λ_:aH=>false) Z)(h:Way T fB F Z f R g0 w0 g w)(hc:2<=g.callers.length){u:aL}(c:bF g=some o)(j:o.op=g8 iY ty x y u)(hy:g.frame.eval y=fi hK 0) :
 ∃n v,g.frame.eval x=fi hK n/\Way T fB F Z f R g0 w0 (fin g v) w:=by
 have e:=oZ (ev:=g.frame.eval) j;rw[hy]at e;have key:(∃n v,g.frame.eval x=fi hK n/\((do bT iY ty x y (g.frame.eval x) (fi hK 0);binOp iY ty (g.frame.eval x) (fi hK 0)):Sem ac).run (gj T fB) w=hr v w)\/
  sS (((do bT iY ty x y (g.frame.eval x) (fi hK 0);binOp iY ty (g.frame.eval x) (fi hK 0)):Sem ac).run (gj T fB) w):=by
  cases g.frame.eval x with
  |int k n=>
   by_cases d:k=hK
   .subst d;exact hY ⟨n,_,rfl,by simp[bT,binOp,Op.intBits];rfl⟩
   .exact hZ (by simp[bT,binOp,d,sS,Qb])
  |_=>exact hZ (by simp[bT,binOp,sS,Qb])
 rcases key with⟨n,v,q,l⟩|i
 .obtain⟨v',w',b,m⟩:=h.val fit hc c e (hY ⟨_,_,l⟩);grind
 .obtain⟨v',w',b,m⟩:=h.val fit hc c e (hZ i.ex);obtain⟨a,r,p,_⟩:=i.ex;rw[p]at b;cases b
def Way.str(fit:Fits T fB fB F (λ_:aH=>false) Z)(h:Way T fB F Z f R g0 w0 g w)(hc:2<=g.callers.length){u:aL}(c:bF g=some o)(j:o.op=g8 i0 ty x y u)(hy:g.frame.eval y=fo dO) :
 ∃n v,g.frame.eval x=fo n/\Way T fB F Z f R g0 w0 (fin g v) w:=by
 have e:=oZ (ev:=g.frame.eval) j;rw[hy]at e;have key:(∃n v,g.frame.eval x=fo n/\((do bT i0 ty x y (g.frame.eval x) (fo dO);binOp i0 ty (g.frame.eval x) (fo dO)):Sem ac).run (gj T fB) w=hr v w)\/
  sS (((do bT i0 ty x y (g.frame.eval x) (fo dO);binOp i0 ty (g.frame.eval x) (fo dO)):Sem ac).run (gj T fB) w):=by
  cases g.frame.eval x with
  |string n=>
   by_cases d:((n.size+ByteArray.empty.size:Nat):Int) > IntKind.i64.max
   .exact hZ (by simp only[bT,binOp,gt,if_pos d];exact trivial)
   .exact hY ⟨n,_,rfl,by simp only[bT,binOp,gt,if_neg d];rfl⟩
  |_=>exact hZ (by simp[bT,binOp,sS,Qb])
 rcases key with⟨n,v,p,k⟩|i
 .obtain⟨v',w',b,l⟩:=h.val fit hc c e (hY ⟨_,_,k⟩);grind
 .obtain⟨v',w',b,l⟩:=h.val fit hc c e (hZ i.ex);obtain⟨a,q,m,_⟩:=i.ex;rw[m]at b;cases b
def Way.len(fit:Fits T fB fB F (λ_:aH=>false) Z)(h:Way T fB F Z f R g0 w0 g w)(hc:2<=g.callers.length){l:aL}(i:bF g=some o)(m:o.op=gD { callee:=.builtin .len,args:=#[x],argTypes:=#[t] })(j:(gj T fB).underlying t=some (ib l)) :
 ∃b n c,g.frame.eval x=ft b n c/\Way T fB F Z f R g0 w0 (fin g (fi hK (n:Int))) w:=by
 have e:bL g.frame.eval o=(do pure (iU (<-hm #[t] o.type #[g.frame.eval x])):Sem bM):=by
  unfold bL;simp[m,resolve,invoke,builtin]
 have key:(∃b n c,g.frame.eval x=ft b n c/\(hm #[t] o.type #[g.frame.eval x]).run (gj T fB) w=hr (fi hK (n:Int)) w)\/sS ((hm #[t] o.type #[g.frame.eval x]).run (gj T fB) w):=by
  cases g.frame.eval x with
  |slice b n c=>exact hY ⟨b,n,c,rfl,by simp[hm,b8 j,goInt]⟩
  |_=>exact hZ (by simp[hm,b8 j,sS,Qb])
 rcases key with⟨b,n,c,s,p⟩|k
 .obtain⟨v',w',d,q⟩:=h.val fit hc i e (hY ⟨_,_,p⟩);grind
 .obtain⟨v',w',d,q⟩:=h.val fit hc i e (hZ k.ex);obtain⟨a,u,r,_⟩:=k.ex;rw[r]at d;cases d
def Way.JL(fit:Fits T fB fB F (λ_:aH=>false) Z)(h:Way T fB F Z f R g0 w0 g w)(hc:2<=g.callers.length){u:aL}{m n:Int}(a:bF g=some o)(b:o.op=g8 i1 ty x y u)(c:g.frame.eval x=fi hK m)(hy:g.frame.eval y=fi hK n) :
 Way T fB F Z f R g0 w0 (fin g (fO (m==n))) w:=by
 have e:=oZ (ev:=g.frame.eval) b;rw[c,hy]at e;have d:((do bT i1 ty x y (fi hK m) (fi hK n);binOp i1 ty (fi hK m) (fi hK n)):Sem ac).run (gj T fB) w=hr (fO (m==n)) w:=by simp[bT,binOp,gw]
 obtain⟨v',w',i,j⟩:=h.val fit hc a e (hY ⟨_,_,d⟩);grind
def MV{P:bj}(d:Nat){a:aL}{b:Option ad}{n c:Nat}(e:P.underlying t=some (ib a)):(gB (d+1) t (ft b n c) (ft none 0 0)).run P w=hr b.isNone w:=by
 cases b<;>simp[gB,b8 e]
def Way.JM(fit:Fits T fB fB F (λ_:aH=>false) Z)(h:Way T fB F Z f R g0 w0 g w)(hc:2<=g.callers.length){u a:aL}{b:Option ad}{n c:Nat}(d:bF g=some o)(i:o.op=g8 i1 t x y u)(j:(gj T fB).underlying t=some (ib a))(k:g.frame.eval x=ft b n c)(hy:g.frame.eval y=ft none 0 0) :
 Way T fB F Z f R g0 w0 (fin g (fO b.isNone)) w:=by
 have e:=oZ (ev:=g.frame.eval) i;rw[k,hy]at e;have l:((do bT i1 t x y (ft b n c) (ft none 0 0);binOp i1 t (ft b n c) (ft none 0 0)):Sem ac).run (gj T fB) w=hr (fO b.isNone) w:=by
  have m:(Op.equal t (ft b n c) (ft none 0 0)).run (gj T fB) w=hr b.isNone w:=MV 9999 j;simp[bT,binOp,m]
 obtain⟨v',w',p,q⟩:=h.val fit hc d e (hY ⟨_,_,l⟩);grind
def Way.add(fit:Fits T fB fB F (λ_:aH=>false) Z)(h:Way T fB F Z f R g0 w0 g w)(hc:2<=g.callers.length){u:aL}{m n:Int}(a:bF g=some o)(b:o.op=g8 i0 ty x y u)(c:g.frame.eval x=fi hK m)(hy:g.frame.eval y=fi hK n) :
 Way T fB F Z f R g0 w0 (fin g (fi hK (IntKind.i64.wrap (m+n)))) w:=by
 have e:=oZ (ev:=g.frame.eval) b;rw[c,hy]at e;have d:((do bT i0 ty x y (fi hK m) (fi hK n);binOp i0 ty (fi hK m) (fi hK n)):Sem ac).run (gj T fB) w=hr (fi hK (IntKind.i64.wrap (m+n))) w:=by simp[bT,binOp,Op.intArith]
 obtain⟨v',w',i,j⟩:=h.val fit hc a e (hY ⟨_,_,d⟩);grind
end
section
variable {T:aI}{fB:Array aP}{F:aH->Bool}{Z:aL->Bool}{f:aH}{R:ac->ai->Prop}{g0 g:aa}{w0 w w':ai}{ty t:aL}{x y:a8}{o:bC}{ρ:Ren}
def qy:b9->Bool
 |ih _ | ii _ _=>true
 |_=>false
def mh{P:bj}{d:b9}(h:P.underlying t=some d)(w:ai):(isAgg t).run P w=hr (qy d) w:=by
 unfold isAgg;rw[gr,b8 h w];cases d<;>simp[qy]
def xX{ev:a8->ac}{i:Nat}(a:o.op=g9 ty x i):bL ev o=(do pure (iU (<-fY ty (ev x) i)):Sem bM):=by
 unfold bL;simp only[a]
def Way.field(fit:Fits T fB fB F (λ_:aH=>false) Z)(h:Way T fB F Z f R g0 w0 g w)(hc:2<=g.callers.length){i:Nat}{fs:Array cb}{fd:cb}{d:b9}(k:bF g=some o)(m:o.op=g9 ty x i)(c:(gj T fB).underlying ty=some (ih fs))(hf:fs[i]?=some fd)(hd:(gj T fB).underlying fd.type=some d)(b:qy d=false) :
 ∃cs v,g.frame.eval x=fl cs/\cs[fd.offset]?=some v/\Way T fB F Z f R g0 w0 (fin g v) w:=by
 have e:=xX (ev:=g.frame.eval) m;have key:(∃cs v,g.frame.eval x=fl cs/\cs[fd.offset]?=some v/\(fY ty (g.frame.eval x) i).run (gj T fB) w=hr v w)\/sS ((fY ty (g.frame.eval x) i).run (gj T fB) w):=by
  cases g.frame.eval x with
  |agg cs=>
   cases hv:cs[fd.offset]? with
   |some v=>exact hY ⟨cs,v,rfl,hv,by simp[fY,b8 c,hf,asAgg,part,mh hd,b,hv]⟩
   |none=>exact hZ (by simp[fY,b8 c,hf,asAgg,part,mh hd,b,hv,sS,Qb])
  |_=>exact hZ (by simp[fY,b8 c,hf,asAgg,sS,Qb])
 rcases key with⟨cs,v,q,hv,n⟩|l
 .obtain⟨v',w',j,p⟩:=h.val fit hc k e (hY ⟨_,_,n⟩);grind
 .obtain⟨v',w',j,p⟩:=h.val fit hc k e (hZ l.ex);obtain⟨a,r,b,_⟩:=l.ex;rw[b]at j;cases j
def Way.Hu(fit:Fits T fB fB F (λ_:aH=>false) Z)(h:Way T fB F Z f R g0 w0 g w)(hc:2<=g.callers.length){i:Nat}{fs:Array cb}{fd:cb}{d:b9}{a:cd}{cs:Array ac}(b:bF g=some o)(c:o.op=g9 ty x i)(j:g.frame.eval x=fl cs)(k:(gj T fB).underlying ty=some (ih fs))(hf:fs[i]?=some fd)(hd:(gj T fB).underlying fd.type=some d)(l:qy d=true)(hi:(gj T fB).info? fd.type=some a) :
 Way T fB F Z f R g0 w0 (fin g (fl (cs.extract fd.offset (fd.offset+a.size)))) w:=by
 have e:=xX (ev:=g.frame.eval) c;have m:(fY ty (g.frame.eval x) i).run (gj T fB) w=hr (fl (cs.extract fd.offset (fd.offset+a.size))) w:=by
  rw[j];simp[fY,b8 k,hf,asAgg,part,mh hd,l,ce,cf,hi]
 obtain⟨v',w',n,p⟩:=h.val fit hc b e (hY ⟨_,_,m⟩);grind
def Az{a a':ad}(h:WR T.globals.size F (d8 T F Z) ρ w w')(k:AR ρ a a'):∀(n i:Nat)(b:Array ac),
 (∃u d:Nat->ac,(∀j,j<n->w.cell? (a.add (i+j))=some (u j)/\w'.cell? (a'.add (i+j))=some (d j)/\VR F ρ (u j) (d j)/\(∃c t l,w'.heap[a'.block]?=some (dQ c t l)))/\
   (ch a i n b).run (gj T fB) w=hr (b++((ei n).map u).toArray) w)\/sS ((ch a i n b).run (gj T fB) w)
 |0,i,b=>hY ⟨λ_=>undef,λ_=>undef,λj m=>absurd m (dk _),by simp[ch]⟩
 |n+1,i,b=>by
  have hb:(a.add i).block=a.block:=by unfold Addr.add;split<;>rfl
  have z:(a'.add i).block=a'.block:=by unfold Addr.add;split<;>rfl
  rcases lF (T:=T) (fB:=fB) h (k.add i) with⟨e,s,p⟩|⟨v,v',c,A,t,l,e,p,B,C,D,E,H⟩
  .right;simp[ch,e,p,sS,Qb]
  .rcases Az h k n (i+1) (b.push v) with⟨u,d,I,q⟩|r
   .left;refine⟨λj=>if j=0 then v else u (j-1),λj=>if j=0 then v' else d (j-1),λj m=>?_,?_⟩
    .grind
    .simp only[ch,gr,ci,e,hq];rw[q];simp[ep,hu]
   .right;simp only[ch,gr,ci,e,hq];exact r
def Way.load(fit:Fits T fB fB F (λ_:aH=>false) Z)(h:Way T fB F Z f R g0 w0 g w)(hc:2<=g.callers.length){d:b9}{i:cd}{a a':ad}(p:bF g=some o)(r:o.op=gG ty x)(s:g.frame.eval x=fJ (some a))(m:WR T.globals.size F (d8 T F Z) ρ w w')(v:AR ρ a a')(z:(gj T fB).underlying ty=some d)(hd:qy d=true)(hi:(gj T fB).info? ty=some i) :
 ∃u n:Nat->ac,(∀j,j<i.size->w.cell? (a.add j)=some (u j)/\w'.cell? (a'.add j)=some (n j)/\VR F ρ (u j) (n j)/\(∃c t A,w'.heap[a'.block]?=some (dQ c t A)))/\Way T fB F Z f R g0 w0 (fin g (fl ((ei i.size).map u).toArray)) w:=by
 have e:bL g.frame.eval o=(do pure (iU (<-cl ty a)):Sem bM):=ed r s;have B:(cl ty a).run (gj T fB) w=((ch a 0 i.size #[]).run (gj T fB) w).andThen λc w=>hr (fl c) w:=by
  simp[cl,mh z,hd,ce,cf,hi,loadCells]
 rcases Az (T:=T) (fB:=fB) m v i.size 0 #[]with⟨u,n,E,H⟩|C
 .have k:(cl ty a).run (gj T fB) w=hr (fl ((ei i.size).map u).toArray) w:=by
   simp_all
  obtain⟨v',w',l,m⟩:=h.val fit hc p e (hY ⟨_,_,k⟩);rw[k]at l;cases l;exact⟨u,n,λj I=>aS,m⟩
 .obtain⟨b,q,hb,D⟩:=C.ex;have k:(cl ty a).run (gj T fB) w=ht b q:=by rw[B,hb];rfl
  obtain⟨v',w',l,m⟩:=h.val fit hc p e (hZ ⟨b,q,k,D⟩);rw[k]at l;cases l
end
open Go.ConcN (upd upd_ne upd_same)
def SL(n:Nat)(F:Nat->ac)(rest:List ac)(ops:Array bC)(is:List Nat)(k:List aF)(fn:aH)(cs:List aT):aa:=fH ⟨fn,⟨(ei n).map F++rest⟩,.inRegion ops is::k,[],hO,hM,none⟩ cs
section
variable {n:Nat}{H:Nat->ac}{rest:List ac}{ops:Array bC}{i:Nat}{is:List Nat}{k:List aF}{fn:aH}{cs:List aT}{o:bC}
def bH{j:Nat}(h:j<n):(SL n H rest ops is k fn cs).frame.eval (hT j)=H j:=by
 show(⟨(ei n).map H++rest⟩:Array ac).getD j undef=H j;rw[Array.getD_eq_getD_getElem?];grind
def ahC(v:ac):(SL n H rest ops is k fn cs).frame.eval (hV v)=v:=rfl
def jb(h:ops[i]?=some o)(hg:o.guard=none)(hd:pS o.op=true):bF (SL n H rest ops (i::is) k fn cs)=some o:=by
 unfold bF SL;simp[fH,h,Region.wanted,hg,hd]
def ZS{d:Nat}(hd:d<n)(v:ac):(⟨(ei n).map H++rest⟩:Array ac).setIfInBounds d v=⟨(ei n).map (upd H d v)++rest⟩:=by
 apply f8;rw[Array.toList_setIfInBounds];show((ei n).map H++rest).set d v=_;rw[List.set_append_left _ _ (by simpa using hd)];congr 1;apply List.ext_getElem
 .simp
 .intro j a b;simp only[List.getElem_set,List.getElem_map,List.getElem_range];by_cases e:d=j
  .subst e;simp[hG]
  .rw[if_neg e,hH _ _ (fg e)]
def ZT{d:Nat}(h:ops[i]?=some o)(hd:o.dst=some d)(a:d<n)(v:ac):fin (SL n H rest ops (i::is) k fn cs) v=SL n (upd H d v) rest ops is k fn cs:=by
 unfold SL fin dL;simp only[fH,h,Option.bind_some,hd,ZS a]
def UR(h:ops[i]?=some o)(hd:o.dst=none)(v:ac):fin (SL n H rest ops (i::is) k fn cs) v=SL n H rest ops is k fn cs:=by
 unfold SL fin dL;grind
section
variable {T:aI}{fB:Array aP}{F:aH->Bool}{Z:aL->Bool}{f:aH}{R:ac->ai->Prop}{g0:aa}{w0 w:ai}
def Way.check(fit:Fits T fB fB F (λ_:aH=>false) Z){j d:Nat}{b bad:Bool}{l:bC}{x:ac}(h:Way T fB F Z f R g0 w0 (SL n H rest ops (i::is) k fn cs) w)(hc:2<=cs.length)(a:ops[i]?=some o)(hg:o.guard=some (j,bad))(m:o.op=g9 3 (hV x) 0)(c:o.dst=none)(g:∃k,(gj T fB).underlying 3=some (.int k))
 (u:ops[j]?=some l) (r:l.dst=some d) (hd:d<n) (hb:H d=fO b):b = !bad/\Way T fB F Z f R g0 w0 (SL n H rest ops is k fn cs) w:=by
 obtain⟨v,g⟩:=g;have hy:yielded ops (⟨(ei n).map H++rest⟩:Array ac) j=some b:=by
  have:(⟨(ei n).map H++rest⟩:Array ac)[d]?=some (fO b):=by
   grind
  have e:((ops[j]?).bind (·.dst)).bind ((⟨(ei n).map H++rest⟩:Array ac)[·]?)=some (fO b):=by
   grind
  unfold yielded;rw[e]
 obtain⟨y,w1,es,e,p⟩:=h.next fit hc;by_cases q:b=bad
 case neg=>
  have e1:stepG (gj T fB) true (SL n H rest ops (i::is) k fn cs) w=.go (fin (SL n H rest ops (i::is) k fn cs) undef) w #[]:=by
   unfold SL fH;simp[stepG,stepG.exec,a,Region.wanted,hg,hy,fin,q]
  rw[e1]at e;cases e;rw[UR a c]at p;exact⟨by cases b<;>cases bad<;>simp_all,p⟩
 case pos=>
  have s:bF (SL n H rest ops (i::is) k fn cs)=some o:=by
   unfold bF SL;simp[fH,a,Region.wanted,hg,hy,pS,m,q]
  obtain⟨x1,w2,z,t⟩:=Eg (P:=gj T fB) (mn:=true) (w:=w) (h:=.stuck "Field: struct type expected") (w':=w) s (by
   unfold bL
   simp[m,fY,b8 g]) trivial
  rw[t]at e;cases e
end
end
end Go.bJ
namespace Go.Proofs
open Go.bJ Go.Conc Go.Ph
open Go.ConcN
def Qc:∀(n:Nat)(L:List ac),n<=L.length->∃(f:Nat->ac)(r:List ac),L=(ei n).map f++r
 |0,L,_=>⟨λ_=>undef,L,ar⟩
 |n+1,[],h=>by simp at h
 |n+1,x::L,h=>by
  obtain⟨f,r,e⟩:=Qc n L (by simpa using h);refine⟨λi=>if i=0 then x else f (i-1),r,?_⟩;rw[e,ep];simp[hu]
def US{a:Array ac}{ca:Array ac}(h:a[0]?=some (fl ca)):∃f r,dC PP 29 a hM=fE ⟨ca,f,r⟩:=by
 obtain⟨l⟩:=a
 cases l with
 |nil=>simp at h
 |cons x L=>
  have b:x=fl ca:=by simpa using h
  subst b;obtain⟨g,r,e⟩:=Qc 20 (L++eq (21-(L.length+1)) undef) (by simp;omega);refine⟨λi=>g (i-1),r,?_⟩;have c:Tryz.f29.ntmps=21:=ae;have e1:dC PP 29 ⟨fl ca::L⟩ hM=⟨29,⟨fl ca::(L++eq (21-(L.length+1)) undef)⟩,[il Ho],[],hO,hM,none⟩:=by
   have hf:PP.funcs[29]?=some eV:=eW;have hb:((some eV).bind (·.body)).getD (.refuse "unsupported: a function without a Go body is entered")=Ho:=ae;unfold dC;simp_all
  rw[e1,e];rfl
end Go.Proofs
namespace Go.Proofs
open Go.bJ Go.Conc Go.Ph
def Eh:cY.funcs.size<=cn:=of_decide_eq_true ae
def aeA:Jg eN cY.funcs FF NN ZZ 146=true:=ae
def JN:Fits eN cY.funcs eQ FF XX ZZ:=by
 refine BJ Jh (n:=146) (λf hf=>of_decide_eq_true (Bool.and_eq_true_iff.1 hf).1) (λf a=>?_) (λf a=>?_) acG Eh
 .have b:29≠f:=λe=>by subst e;cases a
  show(Tryz.funcs.setIfInBounds 29 nS)[f]?=_;grind
 .obtain rfl:f=29:=by simpa[XX]using a
  have hl:29<Tryz.funcs.size:=(Array.getElem?_eq_some_iff.1 eW).1;refine⟨⟨nS,?_,rfl,by decide +kernel⟩,eV,eW,rfl,by decide +kernel⟩;show(Tryz.funcs.setIfInBounds 29 nS)[29]?=_;grind
def bV:Fits eN cY.funcs cY.funcs FF NN ZZ:=
 BJ Jh (n:=146) (λf hf=>of_decide_eq_true (Bool.and_eq_true_iff.1 hf).1) (λf _=>rfl) (λf a=>by cases a) aeA Eh
def JO:cY.funcs[29]?=some nS:=by
 have hl:29<Tryz.funcs.size:=(Array.getElem?_eq_some_iff.1 eW).1;show(Tryz.funcs.setIfInBounds 29 nS)[29]?=_;grind
def ZU(a:Array ac):∃H r,(∀v,a[0]?=some v->H 0=v)/\(a=#[]->H 0=undef)/\dC cY 29 a hM=⟨29,⟨(ei 98).map H++r⟩,[il sU],[],hO,hM,none⟩:=by
 obtain⟨L⟩:=a;obtain⟨H,r,e⟩:=Qc 98 (L++eq (98-L.length) undef) (by simp;omega);have b:(L++eq (98-L.length) undef)[0]?=some (H 0):=by
  grind
 refine⟨H,r,λv hv=>?_,λc=>?_,?_⟩
 .cases L with
  |nil=>simp at hv
  |cons x L=>
   grind
 .grind
 .have hf:cY.funcs[29]?=some nS:=JO;unfold dC;simp only[hf,Option.map_some,Option.getD_some,Option.bind_some];have d:nS.ntmps=98:=rfl;have f:nS.body=some sU:=rfl;simp_all
open Go.ConcN (upd upd_ne upd_same)
noncomputable abbrev PC:bj:=⟨eN,cY.funcs⟩
section
variable {f:aH}{R:ac->ai->Prop}{g0:aa}{w0 w w':ai}{H:Nat->ac}{r:List ac}{cs:List aT}{i d x y:Nat}{ρ:Ren}{ops:Array bC}{m:Nat}{K:List aF}
structure Wi(f:aH)(R:ac->ai->Prop)(g0:aa)(w0:ai)(r:List ac)(cs:List aT)(ops:Array bC)(m:Nat)(K:List aF)(H:Nat->ac)(i:Nat)(w:ai):Prop where
 hc:2<=cs.length
 way:Go.bJ.Way eN cY.funcs FF ZZ f R g0 w0 (SL 98 H r ops (et i (m-i)) K 29 cs) w
def rng(h:i<m):et i (m-i)=i::et (i+1) (m-(i+1)):=by
 rw[show m-i=(m-(i+1))+1 by omega,List.range'_succ]
def Wi.at(h:Wi f R g0 w0 r cs ops m K H i w)(hi:i<m):Go.bJ.Way eN cY.funcs FF ZZ f R g0 w0 (SL 98 H r ops (i::et (i+1) (m-(i+1))) K 29 cs) w:=by
 rw[<-rng hi];exact h.way
def Wi.next{op:Op}{v:ac}{w1:ai}(hc:2<=cs.length)(a:ops[i]?=some (aD (some d) op none))(hd:d<98)(h:Go.bJ.Way eN cY.funcs FF ZZ f R g0 w0 (fin (SL 98 H r ops (i::et (i+1) (m-(i+1))) K 29 cs) v) w1):Wi f R g0 w0 r cs ops m K (upd H d v) (i+1) w1:=by
 rw[ZT a rfl hd]at h;exact⟨hc,h⟩
def Wi.int(h:Wi f R g0 w0 r cs ops m K H i w)(hi:i<m)(a:ops[i]?=some (aD (some d) (g8 iY 3 (hT x) (hV (fi hK 0)) 3) none))(hd:d<98)(c:x<98):∃n v,H x=fi hK n/\Wi f R g0 w0 r cs ops m K (upd H d v) (i+1) w:=by
 obtain⟨n,v,b,e⟩:=(h.at hi).int bV h.hc (jb a rfl rfl) rfl rfl;rw[bH c]at b;exact⟨n,v,b,.next h.hc a hd e⟩
def Wi.str(h:Wi f R g0 w0 r cs ops m K H i w)(hi:i<m)(a:ops[i]?=some (aD (some d) (g8 i0 9 (hT x) (hV (fo dO)) 9) none))(hd:d<98)(c:x<98):∃n v,H x=fo n/\Wi f R g0 w0 r cs ops m K (upd H d v) (i+1) w:=by
 obtain⟨n,v,b,e⟩:=(h.at hi).str bV h.hc (jb a rfl rfl) rfl rfl;rw[bH c]at b;exact⟨n,v,b,.next h.hc a hd e⟩
def Wi.len{t g:aL}(h:Wi f R g0 w0 r cs ops m K H i w)(hi:i<m)(a:ops[i]?=some (aD (some d) (gD { callee:=.builtin .len,args:=#[hT x],argTypes:=#[t] }) none))(j:PC.underlying t=some (ib g))(hd:d<98)(k:x<98):∃b n c,H x=ft b n c/\Wi f R g0 w0 r cs ops m K (upd H d (fi hK (n:Int))) (i+1) w:=by
 obtain⟨b,n,c,e,l⟩:=(h.at hi).len bV h.hc (jb a rfl rfl) rfl j;rw[bH k]at e;exact⟨b,n,c,e,.next h.hc a hd l⟩
def Wi.JM{t e:aL}{b:Option ad}{n c:Nat}(h:Wi f R g0 w0 r cs ops m K H i w)(hi:i<m)(a:ops[i]?=some (aD (some d) (g8 i1 t (hT x) (hV (ft none 0 0)) t) none))(g:PC.underlying t=some (ib e))(hd:d<98)(j:x<98)(hv:H x=ft b n c):Wi f R g0 w0 r cs ops m K (upd H d (fO b.isNone)) (i+1) w:=
 .next h.hc a hd ((h.at hi).JM bV h.hc (jb a rfl rfl) rfl g ((bH j).trans hv) rfl)
def Wi.add{m1 n:Int}(h:Wi f R g0 w0 r cs ops m K H i w)(hi:i<m)(a:ops[i]?=some (aD (some d) (g8 i0 3 (hT x) (hT y) 3) none))(hd:d<98)(b:x<98)(hy:y<98)(hv:H x=fi hK m1)(c:H y=fi hK n):Wi f R g0 w0 r cs ops m K (upd H d (fi hK (IntKind.i64.wrap (m1+n)))) (i+1) w:=
 .next h.hc a hd ((h.at hi).add bV h.hc (jb a rfl rfl) rfl ((bH b).trans hv) ((bH hy).trans c))
def Wi.field{t:aL}{j:Nat}{fs:Array cb}{fd:cb}{a:b9}(h:Wi f R g0 w0 r cs ops m K H i w)(hi:i<m)(b:ops[i]?=some (aD (some d) (g9 t (hT x) j) none))(g:PC.underlying t=some (ih fs))(hf:fs[j]?=some fd)(k:PC.underlying fd.type=some a)(l:qy a=false)(hd:d<98)(n:x<98) :
 ∃c v,H x=fl c/\c[fd.offset]?=some v/\Wi f R g0 w0 r cs ops m K (upd H d v) (i+1) w:=by
 obtain⟨c,v,e,o,p⟩:=(h.at hi).field bV h.hc (jb b rfl rfl) rfl g hf k l;rw[bH n]at e;exact⟨c,v,e,o,.next h.hc b hd p⟩
def Wi.Hu{t:aL}{j:Nat}{fs:Array cb}{fd:cb}{b:b9}{a:cd}{c:Array ac}(h:Wi f R g0 w0 r cs ops m K H i w)(hi:i<m)(e:ops[i]?=some (aD (some d) (g9 t (hT x) j) none))(g:PC.underlying t=some (ih fs))(hf:fs[j]?=some fd)(k:PC.underlying fd.type=some b)(l:qy b=true)(n:PC.info? fd.type=some a)(hd:d<98)(o:x<98)(hv:H x=fl c) :
 Wi f R g0 w0 r cs ops m K (upd H d (fl (c.extract fd.offset (fd.offset+a.size)))) (i+1) w:=
 .next h.hc e hd ((h.at hi).Hu bV h.hc (jb e rfl rfl) rfl ((bH o).trans hv) g hf k l n)
def Wi.load{t:aL}{k:b9}{b:cd}{a a':ad}(h:Wi f R g0 w0 r cs ops m K H i w)(hi:i<m)(l:ops[i]?=some (aD (some d) (gG t (hT x)) none))(n:WR Tryz.progTables.globals.size FF (d8 eN FF ZZ) ρ w w')(o:AR ρ a a')(p:PC.underlying t=some k)(g:qy k=true)(q:PC.info? t=some b)(hd:d<98)(s:x<98)(hv:H x=fJ (some a)) :
 ∃u e:Nat->ac,(∀j,j<b.size->w.cell? (a.add j)=some (u j)/\w'.cell? (a'.add j)=some (e j)/\VR FF ρ (u j) (e j)/\(∃c t v,w'.heap[a'.block]?=some (dQ c t v)))/\Wi f R g0 w0 r cs ops m K (upd H d (fl ((ei b.size).map u).toArray)) (i+1) w:=by
 obtain⟨u,e,z,A⟩:=(h.at hi).load bV h.hc (jb l rfl rfl) rfl ((bH s).trans hv) n o p g q;exact⟨u,e,z,.next h.hc l hd A⟩
def Wi.index{t b:aL}{e:Nat}{a:ad}{n c:Nat}{k:Int}(h:Wi f R g0 w0 r cs ops m K H i w)(hi:i<m)(g:ops[i]?=some (aD (some d) (gE t (hT x) (hV (fi hK k))) none))(j:PC.underlying t=some (ib b))(hs:(PC.info? b).map (·.size)=some e)(l:0<=k)(o:k<n)(hd:d<98)(p:x<98)(hv:H x=ft (some a) n c) :
 Wi f R g0 w0 r cs ops m K (upd H d (fJ (some (a.add (k.toNat*e))))) (i+1) w:=
 .next h.hc g hd ((h.at hi).go bV h.hc (eg (jb g rfl rfl) rfl ((bH p).trans hv) rfl j hs l o))
def Wi.check{j dj:Nat}{b bad:Bool}{op:Op}(h:Wi f R g0 w0 r cs ops m K H i w)(hi:i<m)(a:ops[i]?=some (aD none (g9 3 (hV (fi hK 0)) 0) (some (j,bad))))(c:ops[j]?=some (aD (some dj) op none))(hd:dj<98)(hb:H dj=fO b):b = !bad/\Wi f R g0 w0 r cs ops m K H (i+1) w:=by
 have e:∃k,PC.underlying 3=some (.int k):=⟨_,ty3⟩
 obtain⟨g,l⟩:=Go.bJ.Way.check bV (h.at hi) h.hc a rfl rfl rfl e c rfl hd hb;exact⟨g,h.hc,l⟩
def run_build{t:aL}{fs:Array cb}{z:ac}{a:Array (Nat×Nat)}(parts:Array (Nat×ac))(b:(cm t).run PC w=hr z w)(e:PC.underlying t=some (ih fs))(g:(fs.mapM λf=>(do pure (f.offset,<-ce f.type):Sem (Nat×Nat))).run PC w=hr a w) :
 (f2 t parts).run PC w=match f3 (a[·]?) z.cells parts.toList with|some c=>hr (fl c) w|none=>ht (.stuck "build: no such field, or a part of the wrong size") w:=by
 unfold f2;simp only[gr,b,hq,b8 e,g];generalize f3 _ z.cells parts.toList=q;cases q<;>simp
def xY{o:bC}{ev:a8->ac}{t:aL}{ps:Array (Nat×a8)}(a:o.op=he t ps):bL ev o=(do pure (iU (<-f2 t (ps.map fun(i,x)=>(i,ev x)))):Sem bM):=by
 unfold bL;simp only[a]
def Wi.build{t:aL}{ps:Array (Nat×a8)}{pv:Array (Nat×ac)}{v:ac}(h:Wi f R g0 w0 r cs ops m K H i w)(hi:i<m)(a:ops[i]?=some (aD (some d) (he t ps) none))(hd:d<98)(b:ps.map (fun(j,x)=>(j,(SL 98 H r ops (i::et (i+1) (m-(i+1))) K 29 cs).frame.eval x))=pv)(c:(f2 t pv).run PC w=hr v w):Wi f R g0 w0 r cs ops m K (upd H d v) (i+1) w:=by
 have e:=xY (o:=aD (some d) (he t ps) none) (ev:=(SL 98 H r ops (i::et (i+1) (m-(i+1))) K 29 cs).frame.eval) (t:=t) (ps:=ps) rfl;rw[b]at e;have hs:=dF (P:=PC) (mn:=true) (v:=v) (w':=w) (w:=w) (g:=SL 98 H r ops (i::et (i+1) (m-(i+1))) K 29 cs) (jb a rfl rfl) (by rw[e];simp[c]);exact .next h.hc a hd ((h.at hi).go bV h.hc hs)
def Qe{t:aL}{i:cd}{z:ac}(hi:PC.info? t=some i)(a:i.zero=some z)(w:ai):(cm t).run PC w=hr z w:=by
 simp[cm,cf,hi,a]
def ZX{t:aL}{z:ac}(h:(PC.info? t).map (·.zero)=some (some z))(w:ai):(cm t).run PC w=hr z w:=by
 cases hi:PC.info? t with
 |none=>rw[hi]at h;cases h
 |some i=>
  rw[hi]at h;exact Qe hi (gf h) w
noncomputable def Ei:ac:=fl #[fi hK 0,fi hK 0,ft none 0 0,ft none 0 0,ft none 0 0,ft none 0 0]
def akt(w:ai):(cm 77).run PC w=hr Ei w:=ZX ae w
def aku(w:ai):((fieldsOf 77).mapM λf=>(do pure (f.offset,<-ce f.type):Sem (Nat×Nat))).run PC w=hr #[(0,6)] w:=ae
def u121:PC.underlying 77=some (ih (fieldsOf 77)):=ae
def Wi.six(h:Wi f R g0 w0 r cs ops m K H i w)(hi:i<m)(g:ops[i]?=some (aD (some d) (he 77 #[(0,hT x)]) none))(hd:d<98)(n:x<98):(H x).cells.size=6/\∃v,Wi f R g0 w0 r cs ops m K (upd H d v) (i+1) w:=by
 have e:=xY (o:=aD (some d) (he 77 #[(0,hT x)]) none) (ev:=(SL 98 H r ops (i::et (i+1) (m-(i+1))) K 29 cs).frame.eval) (t:=77) (ps:=#[(0,hT x)]) rfl;have p:(#[(0,hT x)]:Array (Nat×a8)).map (fun(j,x)=>(j,(SL 98 H r ops (i::et (i+1) (m-(i+1))) K 29 cs).frame.eval x))=#[(0,H x)]:=by simp[bH n]
 rw[p]at e;have b:=run_build (w:=w) #[(0,H x)] (akt w) u121 (aku w);by_cases hs:(H x).cells.size=6
 .have a:∃c,f3 (#[(0,6)][·]?) Ei.cells (#[(0,H x)]:Array (Nat×ac)).toList=some c:=by
   cases q:f3 (#[(0,6)][·]?) Ei.cells (#[(0,H x)]:Array (Nat×ac)).toList with
   |some c=>exact⟨c,rfl⟩
   |none=>
    have s:Ei.cells.size=6:=rfl;simp[f3,hs,s]at q
  obtain⟨c,a⟩:=a;rw[a]at b;obtain⟨v,w1,k,l⟩:=(h.at hi).val bV h.hc (jb g rfl rfl) e (hY ⟨_,_,b⟩);have u:hr (fl c) w=hr v w1:=b.symm.trans k;cases u;exact⟨hs,_,.next h.hc g hd l⟩
 .have a:f3 (#[(0,6)][·]?) Ei.cells (#[(0,H x)]:Array (Nat×ac)).toList=none:=by
   simp only[f3];simp[hs]
  rw[a]at b;obtain⟨v,w1,k,l⟩:=(h.at hi).val bV h.hc (jb g rfl rfl) e (hZ ⟨_,_,b,trivial⟩);grind
def Wi.move{v:ac}(h:Wi f R g0 w0 r cs ops m K H i w)(hi:i<m)(a:ops[i]?=some (aD (some d) (hh (hV v)) none))(hd:d<98):Wi f R g0 w0 r cs ops m K (upd H d v) (i+1) w:=by
 have e:bL (SL 98 H r ops (i::et (i+1) (m-(i+1))) K 29 cs).frame.eval (aD (some d) (hh (hV v)) none)=(pure (iU v):Sem bM):=rfl;have hs:=dF (P:=PC) (mn:=true) (v:=v) (w':=w) (w:=w) (g:=SL 98 H r ops (i::et (i+1) (m-(i+1))) K 29 cs) (jb a rfl rfl) (by rw[e];rfl);exact .next h.hc a hd ((h.at hi).go bV h.hc hs)
def Wi.leq{a b:Int}{X Y:a8}(h:Wi f R g0 w0 r cs ops m K H i w)(hi:i<m)(c:ops[i]?=some (aD (some d) (g8 i2 3 X Y 3) none))(hd:d<98)(j:(SL 98 H r ops (i::et (i+1) (m-(i+1))) K 29 cs).frame.eval X=fi hK a)(hy:(SL 98 H r ops (i::et (i+1) (m-(i+1))) K 29 cs).frame.eval Y=fi hK b):Wi f R g0 w0 r cs ops m K (upd H d (fO (decide (a<=b)))) (i+1) w:=by
 have e:=oZ (o:=aD (some d) (g8 i2 3 X Y 3) none) (ev:=(SL 98 H r ops (i::et (i+1) (m-(i+1))) K 29 cs).frame.eval) (op:=i2) (ty:=3) (x:=X) (y:=Y) (u:=3) rfl;rw[j,hy]at e;have g:((do bT i2 3 X Y (fi hK a) (fi hK b);binOp i2 3 (fi hK a) (fi hK b)):Sem ac).run PC w=hr (fO (decide (a<=b))) w:=by simp[bT,binOp,gw]
 obtain⟨v',w',k,l⟩:=(h.at hi).val bV h.hc (jb c rfl rfl) e (hY ⟨_,_,g⟩);have n:=g.symm.trans k;cases n;exact .next h.hc c hd l
def Wi.lss{a b:Int}{X Y:a8}(h:Wi f R g0 w0 r cs ops m K H i w)(hi:i<m)(c:ops[i]?=some (aD (some d) (g8 i4 3 X Y 3) none))(hd:d<98)(j:(SL 98 H r ops (i::et (i+1) (m-(i+1))) K 29 cs).frame.eval X=fi hK a)(hy:(SL 98 H r ops (i::et (i+1) (m-(i+1))) K 29 cs).frame.eval Y=fi hK b):Wi f R g0 w0 r cs ops m K (upd H d (fO (decide (a<b)))) (i+1) w:=by
 have e:=oZ (o:=aD (some d) (g8 i4 3 X Y 3) none) (ev:=(SL 98 H r ops (i::et (i+1) (m-(i+1))) K 29 cs).frame.eval) (op:=i4) (ty:=3) (x:=X) (y:=Y) (u:=3) rfl;rw[j,hy]at e;have g:((do bT i4 3 X Y (fi hK a) (fi hK b);binOp i4 3 (fi hK a) (fi hK b)):Sem ac).run PC w=hr (fO (decide (a<b))) w:=by simp[bT,binOp,gw]
 obtain⟨v',w',k,l⟩:=(h.at hi).val bV h.hc (jb c rfl rfl) e (hY ⟨_,_,g⟩);have n:=g.symm.trans k;cases n;exact .next h.hc c hd l
def Wi.add1{n:Int}(h:Wi f R g0 w0 r cs ops m K H i w)(hi:i<m)(a:ops[i]?=some (aD (some d) (g8 i0 3 (hT x) (hV (fi hK 1)) 3) none))(hd:d<98)(b:x<98)(hv:H x=fi hK n):Wi f R g0 w0 r cs ops m K (upd H d (fi hK (IntKind.i64.wrap (n+1)))) (i+1) w:=
 .next h.hc a hd ((h.at hi).add bV h.hc (jb a rfl rfl) rfl ((bH b).trans hv) rfl)
def Wi.abt(h:Wi f R g0 w0 r cs ops m K H i w)(hi:i<m)(a:ops[i]?=some (aD (some d) (hh (hT x)) none))(hd:d<98)(b:x<98):Wi f R g0 w0 r cs ops m K (upd H d (H x)) (i+1) w:=by
 have e:bL (SL 98 H r ops (i::et (i+1) (m-(i+1))) K 29 cs).frame.eval (aD (some d) (hh (hT x)) none)=(pure (iU (H x)):Sem bM):=by
  show(pure (iU ((SL 98 H r ops (i::et (i+1) (m-(i+1))) K 29 cs).frame.eval (hT x))):Sem bM)=_;rw[bH b]
 have hs:=dF (P:=PC) (mn:=true) (v:=H x) (w':=w) (w:=w) (g:=SL 98 H r ops (i::et (i+1) (m-(i+1))) K 29 cs) (jb a rfl rfl) (by rw[e];rfl);exact .next h.hc a hd ((h.at hi).go bV h.hc hs)
def Wi.aco{t b:aL}{e:Nat}{a:ad}{n c:Nat}{k:Int}(h:Wi f R g0 w0 r cs ops m K H i w)(hi:i<m)(g:ops[i]?=some (aD (some d) (gE t (hT x) (hT y)) none))(j:PC.underlying t=some (ib b))(hs:(PC.info? b).map (·.size)=some e)(l:0<=k)(o:k<n)(hd:d<98)(p:x<98)(hy:y<98)(hv:H x=ft (some a) n c)(q:H y=fi hK k) :
 Wi f R g0 w0 r cs ops m K (upd H d (fJ (some (a.add (k.toNat*e))))) (i+1) w:=
 .next h.hc g hd ((h.at hi).go bV h.hc (eg (jb g rfl rfl) rfl ((bH p).trans hv) ((bH hy).trans q) j hs l o))
end
section
variable {f:aH}{R:ac->ai->Prop}{g0:aa}{w0 w w':ai}{H:Nat->ac}{r:List ac}{cs:List aT}{i d x y p:Nat}{ρ:Ren}{ops:Array bC}{m:Nat}{K:List aF}
def xL{v':ac}{a:ad}{n c:Nat}(h:VR FF ρ (ft (some a) n c) v')(e:0<n):∃a',v'=ft (some a') n c/\AR ρ a a':=by
 cases h with
 |dK=>grind
 |slice _ _ b=>exact⟨_,rfl,b⟩
def Wi.ZY{t:aL}{j:Nat}{fs:Array cb}{fd:cb}{a:b9}{c:Array ac}{v:ac}(h:Wi f R g0 w0 r cs ops m K H i w)(hi:i<m)(b:ops[i]?=some (aD (some d) (g9 t (hT x) j) none))(hd:d<98)(e:x<98)(hv:H x=fl c)(g:PC.underlying t=some (ih fs))(hf:fs[j]?=some fd)(k:PC.underlying fd.type=some a)(l:qy a=false)(hc:c[fd.offset]?=some v) :
 Wi f R g0 w0 r cs ops m K (upd H d v) (i+1) w:=by
 obtain⟨n,v',o,q,s⟩:=h.field hi b g hf k l hd e;grind
def Wi.Z4{t:aL}{j:Nat}{fs:Array cb}{fd:cb}{b:b9}{a:cd}{c c':Array ac}(h:Wi f R g0 w0 r cs ops m K H i w)(hi:i<m)(e:ops[i]?=some (aD (some d) (g9 t (hT x) j) none))(hd:d<98)(g:x<98)(hv:H x=fl c)(k:PC.underlying t=some (ih fs))(hf:fs[j]?=some fd)(l:PC.underlying fd.type=some b)(n:qy b=true)(o:PC.info? fd.type=some a)(hc:c.extract fd.offset (fd.offset+a.size)=c') :
 Wi f R g0 w0 r cs ops m K (upd H d (fl c')) (i+1) w:=by
 have:=h.Hu hi e k hf l n o hd g hv;rwa[hc]at this
def Z5{v:ac}(h:v.cells.size=6):∃x0 x1 x2 x3 x4 a,v=fl #[x0,x1,x2,x3,x4,a]:=by
 cases v with
 |agg c=>
  obtain⟨l⟩:=c;have hl:l.length=6:=h
  match l,hl with
  |[x0,x1,x2,x3,x4,a],_=>grind
 |_=>exact absurd h (by simp[fm])
structure Fd(t j off:Nat)(ag:Bool)(sz:Nat):Prop where
 ex:∃fs fd de inf,PC.underlying t=some (ih fs)/\fs[j]?=some fd/\PC.underlying fd.type=some de/\qy de=ag/\PC.info? fd.type=some inf/\fd.offset=off/\inf.size=sz
noncomputable def fdq(t j:Nat):Option (Nat×Bool×Nat):=match PC.underlying t with
 |some (ih fs)=>match fs[j]? with
  |some fd=>match PC.underlying fd.type,PC.info? fd.type with
   |some b,some a=>some (fd.offset,qy b,a.size)
   |_,_=>none
  |none=>none
 |_=>none
def gH{t j off b:Nat}{c:Bool}(h:fdq t j=some (off,c,b)):Fd t j off c b:=by
 unfold fdq at h;split at h
 .rename_i fs e1;split at h
  .rename_i fd e;split at h
   .rename_i g a k l;simp only[gg,Prod.mk.injEq]at h;exact⟨fs,fd,g,a,e1,e,k,h.2.1,l,h.1,h.2.2⟩
   .cases h
  .cases h
 .cases h
def Wi.fk{t j off a:Nat}{c:Array ac}{v:ac}(h:Wi f R g0 w0 r cs ops m K H i w)(q:Fd t j off false a)(hi:i<m)(b:ops[i]?=some (aD (some d) (g9 t (hT x) j) none))(hd:d<98)(e:x<98)(hv:H x=fl c)(hc:c[off]?=some v):Wi f R g0 w0 r cs ops m K (upd H d v) (i+1) w:=by
 obtain⟨fs,fd,s,g,e1,k,l,n,u,o,z⟩:=q.ex;exact h.ZY hi b hd e hv e1 k l n (by rw[o];exact hc)
def Wi.fs{t j off a:Nat}{c c':Array ac}(h:Wi f R g0 w0 r cs ops m K H i w)(q:Fd t j off true a)(hi:i<m)(b:ops[i]?=some (aD (some d) (g9 t (hT x) j) none))(hd:d<98)(e:x<98)(hv:H x=fl c)(hc:c.extract off (off+a)=c'):Wi f R g0 w0 r cs ops m K (upd H d (fl c')) (i+1) w:=by
 obtain⟨fs,fd,v,g,e1,k,l,n,o,s,u⟩:=q.ex;exact h.Z4 hi b hd e hv e1 k l n o (by rw[s,u];exact hc)
def aeE:Fd 77 0 0 true 6:=gH ae
def Z6:Fd 27 0 0 false 1:=gH ae
def Z7:Fd 27 1 1 false 1:=gH ae
def Z8:Fd 27 2 2 false 1:=gH ae
def Z9:Fd 27 3 3 false 1:=gH ae
def aa0:Fd 27 4 4 false 1:=gH ae
def aa1:Fd 27 5 5 false 1:=gH ae
structure Sd(t sz:Nat):Prop where
 ex:∃de inf,PC.underlying t=some de/\qy de=true/\PC.info? t=some inf/\inf.size=sz
def JP{t g:Nat}(h:((PC.underlying t).map qy,(PC.info? t).map (·.size))=(some true,some g)):Sd t g:=by
 simp only[Prod.mk.injEq]at h;obtain⟨a,b⟩:=h
 cases e1:PC.underlying t with
 |none=>rw[e1]at a;cases a
 |some j=>
  cases c:PC.info? t with
  |none=>rw[c]at b;cases b
  |some e=>
   rw[e1]at a;rw[c]at b;exact⟨j,e,e1,gf a,c,gf b⟩
def akw:PC.underlying 22=some (ib 56):=ae
def akx:PC.underlying 23=some (ib 94):=ae
def aeH:PC.underlying 24=some (ib 88):=ae
def UU:PC.underlying 42=some (ib 3):=ae
def Xh:PC.underlying 25=some (ib 32):=ae
def aeI:(PC.info? 88).map (·.size)=some 12:=ae
def aeM:(PC.info? 32).map (·.size)=some 3:=ae
def aa2:Fd 56 0 0 false 1:=gH ae
def aa3:Fd 56 1 1 false 1:=gH ae
def aa4:Fd 88 0 0 false 1:=gH ae
def aa5:Fd 88 1 1 true 2:=gH ae
def aa6:Fd 88 2 3 true 2:=gH ae
def aa7:Fd 88 3 5 false 1:=gH ae
def aa8:Fd 88 4 6 false 1:=gH ae
def aa9:Fd 88 5 7 true 2:=gH ae
def aaa:Fd 88 6 9 true 2:=gH ae
def aab:Fd 88 7 11 false 1:=gH ae
def aac:Fd 32 0 0 false 1:=gH ae
def aad:Fd 32 1 1 false 1:=gH ae
def aae:Fd 32 2 2 false 1:=gH ae
def akC:Sd 88 12:=JP ae
def akH:Sd 32 3:=JP ae
def Wi.span{t k off:Nat}{c:Array ac}{v0 v1:ac}(h:Wi f R g0 w0 r cs ops m K H i w)(q:Fd t k off true 2)(hi:i+5<m)(hd:d+4<98)(u:p<d)(hv:H p=fl c)(hc:c.extract off (off+2)=#[v0,v1])
 (e:ops[i]?=some (aD (some d) (g9 t (hT p) k) none))
 (g:ops[i+1]?=some (aD (some (d+1)) (g9 56 (hT d) 0) none))
 (l:ops[i+2]?=some (aD (some (d+2)) (g8 iY 3 (hT (d+1)) (hV (fi hK 0)) 3) none))
 (n:ops[i+3]?=some (aD (some (d+3)) (g9 56 (hT d) 1) none))
 (o:ops[i+4]?=some (aD (some (d+4)) (g8 iY 3 (hT (d+3)) (hV (fi hK 0)) 3) none)) :
 ∃n0 b a,v0=fi hK n0/\v1=fi hK b/\a (d+1)=fi hK n0/\a (d+3)=fi hK b/\(∀j,j<d->a j=H j)/\Wi f R g0 w0 r cs ops m K a (i+5) w:=by
 have W:=h.fs q ab e ab ab hv hc;have W:=W.fk aa2 (v:=v0) ab g ab ab (hG _ _ _) rfl;obtain⟨n0,u0,s,W⟩:=W.int ab l ab ab;rw[hG]at s;have W:=W.fk aa3 (v:=v1) (c:=#[v0,v1]) ab n ab ab (by rw[hH _ _ ab,hH _ _ ab,hG]) rfl;obtain⟨b,u1,e1,W⟩:=W.int ab o ab ab;grind[hG,hH]
def Wi.num{t k off b:Nat}{c:Array ac}{v0:ac}(h:Wi f R g0 w0 r cs ops m K H i w)(q:Fd t k off false b)(hi:i+2<m)(hd:d+1<98)(l:p<d)(hv:H p=fl c)(hc:c[off]?=some v0)
 (e:ops[i]?=some (aD (some d) (g9 t (hT p) k) none))
 (g:ops[i+1]?=some (aD (some (d+1)) (g8 iY 3 (hT d) (hV (fi hK 0)) 3) none)) :
 ∃n0 a,v0=fi hK n0/\a d=fi hK n0/\(∀j,j<d->a j=H j)/\Wi f R g0 w0 r cs ops m K a (i+2) w:=by
 have W:=h.fk q (v:=v0) ab e ab ab hv hc;obtain⟨n0,u0,n,W⟩:=W.int ab g ab ab;grind[hG,hH]
def Wi.name{t k off b:Nat}{c:Array ac}{v0:ac}(h:Wi f R g0 w0 r cs ops m K H i w)(q:Fd t k off false b)(hi:i+2<m)(hd:d+1<98)(l:p<d)(hv:H p=fl c)(hc:c[off]?=some v0)
 (e:ops[i]?=some (aD (some d) (g9 t (hT p) k) none))
 (g:ops[i+1]?=some (aD (some (d+1)) (g8 i0 9 (hT d) (hV (fo dO)) 9) none)) :
 ∃s a,v0=fo s/\(∀j,j<d->a j=H j)/\Wi f R g0 w0 r cs ops m K a (i+2) w:=by
 have W:=h.fk q (v:=v0) ab e ab ab hv hc;obtain⟨n,u0,o,W⟩:=W.str ab g ab ab;grind[hG,hH]
end
section
variable {f:aH}{R:ac->ai->Prop}{g0:aa}{w0 w w':ai}{H:Nat->ac}{r:List ac}{cs:List aT}{ρ:Ren}{K:List aF}
structure Hd0(H:Nat->ac)(l p:Int)(b2 b3:Option ad)(b4:ad)(b5:Option ad)(n2 c2 n3 c3 np c4 n c5:Nat)(H':Nat->ac):Prop where
 arg:H 0=fl #[fi hK l,fi hK p,ft b2 n2 c2,ft b3 n3 c3,ft (some b4) np c4,ft b5 n c5]
 ahE:H' 9=ft (some b4) np c4
 ahF:H' 10=ft b5 n c5
 MC:H' 15=fi hK (np:Int)
 hn:H' 16=fi hK (n:Int)
 i:H' 20=fi hK 0
 j:H' 21=fi hK 0
 lo:2<=np/\np<=5/\n<=3
def amL(h:Wi f R g0 w0 r cs adS 24 K H 0 w):∃l p j k g m o q s c3 np i n t E,Hd0 H l p j k g m o q s c3 np i n t E/\Wi f R g0 w0 r cs adS 24 K E 24 w:=by
 obtain⟨hs,v,W⟩:=h.six (d:=3) (x:=0) ab rfl ab ab;obtain⟨x0,x1,x2,x3,x4,y,e⟩:=Z5 hs;have W:=W.fs aeE (d:=4) (x:=0) (c:=#[x0,x1,x2,x3,x4,y]) (c':=#[x0,x1,x2,x3,x4,y]) ab rfl ab ab e ar;have W:=W.fk Z6 (d:=5) (x:=4) (v:=x0) ab rfl ab ab rfl rfl;have W:=W.fk Z7 (d:=6) (x:=4) (v:=x1) ab rfl ab ab rfl rfl;have W:=W.fk Z8 (d:=7) (x:=4) (v:=x2) ab rfl ab ab rfl rfl;have W:=W.fk Z9 (d:=8) (x:=4) (v:=x3) ab rfl ab ab rfl rfl;have W:=W.fk aa0 (d:=9) (x:=4) (v:=x4) ab rfl ab ab rfl rfl;have W:=W.fk aa1 (d:=10) (x:=4) (v:=y) ab rfl ab ab rfl rfl;obtain⟨l,v,A,W⟩:=W.int (d:=11) (x:=5) ab rfl ab ab;have A:x0=fi hK l:=A;obtain⟨p,u,e1,W⟩:=W.int (d:=12) (x:=6) ab rfl ab ab;have e1:x1=fi hK p:=e1;obtain⟨j,o,q,B,W⟩:=W.len (d:=13) (x:=7) ab rfl akw ab ab;have B:x2=ft j o q:=B;obtain⟨k,s,c3,C,W⟩:=W.len (d:=14) (x:=8) ab rfl akx ab ab;have C:x3=ft k s c3:=C;obtain⟨g,np,i,z,W⟩:=W.len (d:=15) (x:=9) ab rfl aeH ab ab;have z:x4=ft g np i:=z;obtain⟨m,n,t,D,W⟩:=W.len (d:=16) (x:=10) ab rfl Xh ab ab;have D:y=ft m n t:=D;have W:=W.leq (d:=17) (a:=2) (b:=(np:Int)) ab rfl ab rfl (bH ab);obtain⟨k1,W⟩:=W.check (b:=decide ((2:Int)<=np)) ab rfl (rfl:adS[14]?=some (aD (some 17) _ none)) ab (hG _ _ _);have W:=W.leq (d:=18) (a:=(np:Int)) (b:=5) ab rfl ab (bH ab) rfl;obtain⟨k2,W⟩:=W.check (b:=decide ((np:Int)<=5)) ab rfl (rfl:adS[16]?=some (aD (some 18) _ none)) ab (hG _ _ _);have W:=W.leq (d:=19) (a:=(n:Int)) (b:=3) ab rfl ab (bH ab) rfl;obtain⟨k3,W⟩:=W.check (b:=decide ((n:Int)<=3)) ab rfl (rfl:adS[18]?=some (aD (some 19) _ none)) ab (hG _ _ _);have W:=W.JM (d:=3) (x:=9) ab rfl aeH ab ab (show _=Value.slice g np i from z);obtain⟨F,W⟩:=W.check (b:=g.isNone) ab rfl (rfl:adS[20]?=some (aD (some 3) _ none)) ab (hG _ _ _);have W:=W.move (d:=20) ab rfl ab;have W:=W.move (d:=21) ab rfl ab
 cases g with
 |none=>cases F
 |some a4=>
 subst A e1 B C z D;simp only[cq,decide_eq_true_eq]at k1 k2 k3;exact⟨l,p,j,k,a4,m,o,q,s,c3,np,i,n,t,_,⟨e,rfl,rfl,rfl,rfl,rfl,rfl,ab⟩,W⟩
structure ye(ρ:Ren)(w w':ai)(a a':ad)(k:Nat)(u u':Nat->ac)(s:ByteArray)(n:Nat->Int)(lb:Option ad)(ll lc:Nat):Prop where
 cell:∀j,j<12->w.cell? ((a.add (k*12)).add j)=some (u j)/\w'.cell? ((a'.add (k*12)).add j)=some (u' j)/\VR FF ρ (u j) (u' j)/\(∃c t fz,w'.heap[(a'.add (k*12)).block]?=some (dQ c t fz))
 name:u 0=fo s
 num:∀j,1<=j->j<=10->u j=fi hK (n j)
 lane:u 11=ft lb ll lc
def aez{k:Nat}(h:k<100):IntKind.i64.wrap ((k:Int)+1)=((k+1:Nat):Int):=by
 have e:((k:Int)+1) % 2 ^ 64=(k:Int)+1:=ab;unfold IntKind.wrap;simp only[IntKind.signed,IntKind.bits,e];grind
def ap5{a a':ad}{np c k:Nat}(h:Wi f R g0 w0 r cs ahD 32 K H 0 w)(L:WR Tryz.progTables.globals.size FF (d8 eN FF ZZ) ρ w w')(M:H 9=ft (some a) np c)(b:H 20=fi hK (k:Int))(hk:k<np)(N:k<5)(O:AR ρ a a') :
 ∃u e s n lb g i l,ye ρ w w' a a' k u e s n lb g i/\l 20=fi hK ((k+1:Nat):Int)/\(∀j,j<23->j≠20->l j=H j)/\Wi f R g0 w0 r cs ahD 32 K l 32 w:=by
 have W:=h.aco (d:=23) (x:=9) (y:=20) (k:=(k:Int)) ab rfl aeH aeI ab ab ab ab ab M b;have P:a.add ((k:Int).toNat*12)=a.add (k*12):=ar;rw[P]at W;obtain⟨de,Q,t1,t2,S,T⟩:=akC.ex;obtain⟨u,e,o,W⟩:=W.load (d:=24) (x:=23) ab rfl L (O.add (k*12)) t1 t2 S ab ab (hG _ _ _);rw[T]at o W;have hc:((ei 12).map u).toArray=#[u 0,u 1,u 2,u 3,u 4,u 5,u 6,u 7,u 8,u 9,u 10,u 11]:=rfl;rw[hc]at W;obtain⟨s,U,V,q,W⟩:=W.name aa4 (d:=25) (p:=24) ab ab ab (hG _ _ _) rfl rfl rfl;have t:U 24=fl #[u 0,u 1,u 2,u 3,u 4,u 5,u 6,u 7,u 8,u 9,u 10,u 11]:=by rw[q _ ab,hG]
 obtain⟨X,Y,H2,a1,a2,a3,a4,z,W⟩:=W.span aa5 (d:=27) (p:=24) ab ab ab t (by simp;exact⟨rfl,rfl⟩) rfl rfl rfl rfl rfl;have A:=(z 24 ab).trans t;obtain⟨Z,n4,H3,b1,b2,b3,b4,B,W⟩:=W.span aa6 (d:=32) (p:=24) ab ab ab A (by simp;exact⟨rfl,rfl⟩) rfl rfl rfl rfl rfl;have C:=(B 24 ab).trans A;obtain⟨n7,n8,H4,c1,c2,c3,c4,D,W⟩:=W.span aa9 (d:=37) (p:=24) ab ab ab C (by simp;exact⟨rfl,rfl⟩) rfl rfl rfl rfl rfl;have E:=(D 24 ab).trans C;obtain⟨n9,m,H5,d1,d2,d3,d4,d5,W⟩:=W.span aaa (d:=42) (p:=24) ab ab ab E (by simp;exact⟨rfl,rfl⟩) rfl rfl rfl rfl rfl;have F:=(d5 24 ab).trans E;obtain⟨n5,H6,x1,x2,x3,W⟩:=W.num aa7 (d:=47) (p:=24) (v0:=u 5) ab ab ab F rfl rfl rfl;have I:=(x3 24 ab).trans F;obtain⟨n6,H7,y1,y2,y3,W⟩:=W.num aa8 (d:=49) (p:=24) (v0:=u 6) ab ab ab I rfl rfl rfl;have p7:=(y3 24 ab).trans I;have W:=W.fk aab (d:=51) (x:=24) (v:=u 11) ab rfl ab ab p7 rfl;obtain⟨lb,g,i,J,W⟩:=W.len (d:=52) (x:=51) ab rfl UU ab ab;rw[hG]at J;have old:∀j,j<23->H7 j=H j:=λj hj=>by
  rw[y3 _ ab,x3 _ ab,d5 _ ab,D _ ab,B _ ab,z _ ab,q _ ab,hH _ _ ab,hH _ _ ab]
 have W:=W.add1 (d:=53) (x:=20) (n:=(k:Int)) ab rfl ab ab (by grind[hH]);have W:=W.abt (d:=20) (x:=53) ab rfl ab ab;refine⟨u,e,s,λj=>match j with|1=>X|2=>Y|3=>Z|4=>n4|5=>n5|6=>n6|7=>n7|8=>n8|9=>n9|_=>m,lb,g,i,_,⟨o,V,λj h1 h2=>?_,J⟩,?_,λj hj bu=>?_,W⟩
 .grind
 .rw[hG,hG,aez ab]
 grind[hH]
structure AA(ρ:Ren)(w w':ai)(a a':ad)(k np:Nat)(u u':Nat->ac)(s:ByteArray)(st:Nat)(dl:Int):Prop where
 cell:∀j,j<3->w.cell? ((a.add (k*3)).add j)=some (u j)/\w'.cell? ((a'.add (k*3)).add j)=some (u' j)/\VR FF ρ (u j) (u' j)/\(∃c t fz,w'.heap[(a'.add (k*3)).block]?=some (dQ c t fz))
 name:u 0=fo s
 start:u 1=fi hK (st:Int)
 lt:st<np
 aeN:u 2=fi hK dl
def ap6{v':ac}{b:Option ad}{np n c k:Nat}(h:Wi f R g0 w0 r cs aen 16 K H 0 w)(F:WR Tryz.progTables.globals.size FF (d8 eN FF ZZ) ρ w w')(A:H 10=ft b n c)(q:H 15=fi hK (np:Int))(e:H 21=fi hK (k:Int))(Y:k<n)(I:k<3)(J:VR FF ρ (ft b n c) v') :
 ∃a a' u t s st dl v,b=some a/\v'=ft (some a') n c/\AR ρ a a'/\AA ρ w w' a a' k np u t s st dl/\v 21=fi hK ((k+1:Nat):Int)/\(∀j,j<23->j≠21->j≠11->v j=H j)/\Wi f R g0 w0 r cs aen 16 K v 16 w:=by
 have W:=h.JM (d:=11) (x:=10) ab rfl Xh ab ab A;obtain⟨k0,W⟩:=W.check (b:=b.isNone) ab rfl (rfl:aen[0]?=some (aD (some 11) _ none)) ab (hG _ _ _)
 cases b with
 |none=>cases k0
 |some a=>
 obtain⟨a',L,B⟩:=xL J ab;have W:=W.aco (d:=55) (x:=10) (y:=21) (k:=(k:Int)) (a:=a) (n:=n) (c:=c) ab rfl Xh aeM ab ab ab ab ab (by rw[hH _ _ ab];exact A) (by rw[hH _ _ ab];exact e);have M:a.add ((k:Int).toNat*3)=a.add (k*3):=ar;rw[M]at W;obtain⟨Z,N,t1,t2,O,P⟩:=akH.ex;obtain⟨u,t,C,W⟩:=W.load (d:=56) (x:=55) ab rfl F (B.add (k*3)) t1 t2 O ab ab (hG _ _ _);rw[P]at C W;have hc:((ei 3).map u).toArray=#[u 0,u 1,u 2]:=rfl;rw[hc]at W;obtain⟨s,Q,S,D,W⟩:=W.name aac (d:=57) (p:=56) ab ab ab (hG _ _ _) rfl rfl rfl;have E:Q 56=fl #[u 0,u 1,u 2]:=by rw[D _ ab,hG]
 obtain⟨g,T,a1,a2,a3,W⟩:=W.num aad (d:=59) (p:=56) (v0:=u 1) ab ab ab E rfl rfl rfl;have i:∀j,j<23->j≠11->T j=H j:=λj o l=>by
  rw[a3 _ ab,D _ ab,hH _ _ ab,hH _ _ ab,hH _ _ l]
 have W:=W.leq (d:=61) (a:=0) (b:=g) ab rfl ab rfl ((bH ab).trans a2);obtain⟨k1,W⟩:=W.check (b:=decide ((0:Int)<=g)) ab rfl (rfl:aen[8]?=some (aD (some 61) _ none)) ab (hG _ _ _);have W:=W.lss (d:=62) (a:=g) (b:=(np:Int)) ab rfl ab ((bH ab).trans (by rw[hH _ _ ab];exact a2)) ((bH ab).trans (by rw[hH _ _ ab,i 15 ab ab];exact q));obtain⟨k2,W⟩:=W.check (b:=decide (g<(np:Int))) ab rfl (rfl:aen[10]?=some (aD (some 62) _ none)) ab (hG _ _ _);obtain⟨dl,U,V,b2,X,W⟩:=W.num aae (d:=63) (p:=56) (v0:=u 2) ab ab ab (by rw[hH _ _ ab,hH _ _ ab,a3 _ ab];exact E) rfl rfl rfl;have m:∀j,j<23->j≠11->U j=H j:=λj o l=>by
  rw[X _ ab,hH _ _ ab,hH _ _ ab,i j o l]
 have W:=W.add1 (d:=65) (x:=21) (n:=(k:Int)) ab rfl ab ab (by rw[m 21 ab ab];exact e);have W:=W.abt (d:=21) (x:=65) ab rfl ab ab;simp only[cq,decide_eq_true_eq]at k1 k2;refine⟨a,a',u,t,s,g.toNat,dl,_,rfl,L,B,⟨C,S,by rw[a1];congr 1;omega,ab,V⟩,?_,λj o l z=>?_,W⟩
 .rw[hG,hG,aez ab]
 .rw[hH _ _ l,hH _ _ ab,m j o z]
end
def St(H:Nat->ac)(r:List ac)(k:List aF)(cs:List aT):aa:=fH ⟨29,⟨(ei 98).map H++r⟩,k,[],hO,hM,none⟩ cs
section
variable {f:aH}{R:ac->ai->Prop}{g0:aa}{w0 w w':ai}{H:Nat->ac}{r:List ac}{cs:List aT}{ρ:Ren}{K k:List aF}{ops:Array bC}{m n x y t:Nat}
abbrev Wy(f:aH)(R:ac->ai->Prop)(g0:aa)(w0:ai)(g:aa)(w:ai):Prop:=Go.bJ.Way eN cY.funcs FF ZZ f R g0 w0 g w
def al9{j:Nat}(h:j<98):(St H r k cs).frame.eval (hT j)=H j:=by
 have:=bH (n:=98) (H:=H) (rest:=r) (ops:=#[]) (is:=[]) (k:=k) (fn:=29) (cs:=cs) h;exact this
def Wi.leave(h:Wi f R g0 w0 r cs ops m K H m w):Wy f R g0 w0 (St H r K cs) w:=by
 have e:et m (m-m)=[]:=by rw[Nat.sub_self];rfl
 have a:=h.way;rw[e]at a;have e1:stepG PC true (SL 98 H r ops [] K 29 cs) w=.go (St H r K cs) w #[]:=rfl;exact a.go bV h.hc e1
def Wy.region{id:Nat}(hc:2<=cs.length)(h:Wy f R g0 w0 (St H r (il (ix id ops false)::K) cs) w)(b:ops.size=m):Wi f R g0 w0 r cs ops m K H 0 w:=by
 have e1:stepG PC true (St H r (il (ix id ops false)::K) cs) w=.go (SL 98 H r ops (ei ops.size) K 29 cs) w #[]:=rfl;have a:=h.go bV hc e1;rw[b,List.range_eq_range']at a;exact⟨hc,a⟩
def Wy.seq{a b:bi}(hc:2<=cs.length)(h:Wy f R g0 w0 (St H r (il (iB a b)::K) cs) w):Wy f R g0 w0 (St H r (il a :: il b::K) cs) w:=
 h.go bV hc (show stepG PC true (St H r (il (iB a b)::K) cs) w=.go (St H r (il a :: il b::K) cs) w #[] from rfl)
abbrev lb(n a:Nat)(test:Array bC)(t:Nat)(body:bi):bi:=iB (ix a test false) (iB (iC (hT t) ip (iN n)) body)
def Wy.loop{b:bi}(hc:2<=cs.length)(h:Wy f R g0 w0 (St H r (il (.block n (iP b))::K) cs) w):Wy f R g0 w0 (St H r (il b :: im b :: io n::K) cs) w:=by
 have a:=h.go bV hc (show stepG PC true (St H r (il (.block n (iP b))::K) cs) w=.go (St H r (il (iP b) :: io n::K) cs) w #[] from rfl);exact a.go bV hc (show stepG PC true (St H r (il (iP b) :: io n::K) cs) w=.go (St H r (il b :: im b :: io n::K) cs) w #[] from rfl)
def Wy.again{b:bi}(hc:2<=cs.length)(h:Wy f R g0 w0 (St H r (im b::K) cs) w):Wy f R g0 w0 (St H r (il b :: im b::K) cs) w:=
 h.go bV hc (show stepG PC true (St H r (im b::K) cs) w=.go (St H r (il b :: im b::K) cs) w #[] from rfl)
def Wy.skip(hc:2<=cs.length)(h:Wy f R g0 w0 (St H r (il ip::K) cs) w):Wy f R g0 w0 (St H r K cs) w:=
 h.go bV hc (show stepG PC true (St H r (il ip::K) cs) w=.go (St H r K cs) w #[] from rfl)
def Wy.cond{a b:bi}{c:Bool}(hc:2<=cs.length)(h:Wy f R g0 w0 (St H r (il (iC (hT t) a b)::K) cs) w)(d:t<98)(hb:H t=fO c):Wy f R g0 w0 (St H r (il (if c then a else b)::K) cs) w:=by
 have e:(St H r (il (iC (hT t) a b)::K) cs).frame.eval (hT t)=fO c:=(al9 d).trans hb;have e1:stepG PC true (St H r (il (iC (hT t) a b)::K) cs) w=.go (St H r (il (if c then a else b)::K) cs) w #[]:=by
  show(match(St H r (il (iC (hT t) a b)::K) cs).frame.eval (hT t) with
   |fO b'=>GStep.go (St H r (il (if b' then a else b)::K) cs) w #[]
   |_=>_)=_
  rw[e]
 exact h.go bV hc e1
def Wy.exit{a b:bi}(hc:2<=cs.length)(h:Wy f R g0 w0 (St H r (il (iN n) :: il a :: im b :: io n::K) cs) w):Wy f R g0 w0 (St H r K cs) w:=by
 have e1:stepG PC true (St H r (il (iN n) :: il a :: im b :: io n::K) cs) w=.go (St H r K cs) w #[]:=by
  have e:exitTo n (il a :: im b :: io n::K)=some K:=by simp[exitTo]
  show(exitTo n (il a :: im b :: io n::K)).elim _ _=_;rw[e];rfl
 exact h.go bV hc e1
def Wy.test{e:Nat}{body:bi}{a b:Int}(hc:2<=cs.length)(h:Wy f R g0 w0 (St H r (il (lb n e #[aD (some t) (g8 i4 3 (hT x) (hT y) 3) none] t body)::K) cs) w)(c:t<98)(g:x<98)(hy:y<98)(ex:H x=fi hK a)(ey:H y=fi hK b) :
 Wy f R g0 w0 (St (upd H t (fO (decide (a<b)))) r (il (if decide (a<b) then ip else iN n) :: il body::K) cs) w:=by
 have W:=Wy.region hc (h.seq hc) (m:=1) rfl;have W:=W.lss (d:=t) (a:=a) (b:=b) (X:=hT x) (Y:=hT y) ab rfl c ((bH g).trans ex) ((bH hy).trans ey);have W:=(W.leave).seq hc;exact W.cond hc c (hG _ _ _)
def Wy.yes{c:Nat}{body:bi}{a b:Int}(hc:2<=cs.length)(h:Wy f R g0 w0 (St H r (il (lb n c #[aD (some t) (g8 i4 3 (hT x) (hT y) 3) none] t body)::K) cs) w)(d:t<98)(e:x<98)(hy:y<98)(ex:H x=fi hK a)(ey:H y=fi hK b)(g:a<b) :
 Wy f R g0 w0 (St (upd H t (fO true)) r (il body::K) cs) w:=by
 have W:=h.test hc d e hy ex ey;rw[decide_eq_true g]at W;exact Wy.skip hc W
def Wy.no{c:Nat}{body b0:bi}{a b:Int}(hc:2<=cs.length)(h:Wy f R g0 w0 (St H r (il (lb n c #[aD (some t) (g8 i4 3 (hT x) (hT y) 3) none] t body) :: im b0 :: io n::K) cs) w)(d:t<98)(e:x<98)(hy:y<98)(ex:H x=fi hK a)(ey:H y=fi hK b)(g:¬a<b) :
 Wy f R g0 w0 (St (upd H t (fO false)) r K cs) w:=by
 have W:=h.test hc d e hy ex ey;rw[decide_eq_false g]at W;exact Wy.exit hc W
noncomputable abbrev amg:bi:=lb 0 1 amH 22 (ix 2 ahD false)
noncomputable abbrev amh:bi:=lb 1 3 amI 54 (ix 4 aen false)
def ahH(hc:2<=cs.length)(l:WR Tryz.progTables.globals.size FF (d8 eN FF ZZ) ρ w w'){a a':ad}{np c:Nat}(o:AR ρ a a')(A:np<=5):∀(q i:Nat),i+q=np->∀{H:Nat->ac},H 9=ft (some a) np c->H 15=fi hK (np:Int)->H 20=fi hK (i:Int)->
 Wy f R g0 w0 (St H r (il amg :: im amg :: io 0::K) cs) w->
 (∀k,i<=k->k<np->∃u p s n lb B C,ye ρ w w' a a' k u p s n lb B C)/\∃v,(∀j,j<22->j≠20->v j=H j)/\Wy f R g0 w0 (St v r K cs) w
 |0,i,D,H,e,b,d,h=>by
  have W:=Wy.no hc h (t:=22) (x:=20) (y:=15) ab ab ab d b ab;grind[hH]
 |q+1,i,D,H,e,b,d,h=>by
  have W:=Wy.yes hc h (t:=22) (x:=20) (y:=15) ab ab ab d b ab;have W:=Wy.region hc W (m:=32) rfl;obtain⟨u,p,s,n,J,L,M,E,N,g,hold,W⟩:=ap5 W l (a:=a) (a':=a') (np:=np) (c:=c) (k:=i) (by rw[hH _ _ ab];exact e) (by rw[hH _ _ ab];exact d) ab ab o;have W:=Wy.again hc W.leave;have z:∀j,j<22->j≠20->E j=H j:=λj O F=>by rw[hold j ab F,hH _ _ ab]
  obtain⟨P,Q,I,W⟩:=ahH hc l o A q (i+1) ab ((z 9 ab ab).trans e) ((z 15 ab ab).trans b) g W;grind
def ahJ(hc:2<=cs.length)(z:WR Tryz.progTables.globals.size FF (d8 eN FF ZZ) ρ w w'){v':ac}{b:Option ad}{np n c:Nat}(A:VR FF ρ (ft b n c) v')(D:n<=3):∀(q i:Nat),i+q=n->∀{H:Nat->ac},H 10=ft b n c->H 15=fi hK (np:Int)->H 16=fi hK (n:Int)->H 21=fi hK (i:Int)->
 Wy f R g0 w0 (St H r (il amh :: im amh :: io 1::K) cs) w->
 (∀k,i<=k->k<n->∃a a' u B s st dl,b=some a/\v'=ft (some a') n c/\AR ρ a a'/\AA ρ w w' a a' k np u B s st dl)/\∃C,(∀j,j<20->j≠11->C j=H j)/\Wy f R g0 w0 (St C r K cs) w
 |0,i,E,H,g,l,d,e,h=>by
  have W:=Wy.no hc h (t:=54) (x:=21) (y:=16) ab ab ab e d ab;grind[hH]
 |q+1,i,E,H,g,l,d,e,h=>by
  have W:=Wy.yes hc h (t:=54) (x:=21) (y:=16) ab ab ab e d ab;have W:=Wy.region hc W (m:=16) rfl;obtain⟨a,a',u,B,s,st,dl,F,L,M,N,O,o,hold,W⟩:=ap6 W z (v':=v') (b:=b) (np:=np) (n:=n) (c:=c) (k:=i) (by rw[hH _ _ ab];exact g) (by rw[hH _ _ ab];exact l) (by rw[hH _ _ ab];exact e) ab ab A;have W:=Wy.again hc W.leave;have p:∀j,j<23->j≠21->j≠11->F j=H j:=λj P I v=>by rw[hold j ab I v,hH _ _ ab]
  obtain⟨Q,S,J,W⟩:=ahJ hc z A D q (i+1) ab ((p 10 ab ab ab).trans g) ((p 15 ab ab ab).trans l) ((p 16 ab ab ab).trans d) o W;grind
def ap9(hc:2<=cs.length)(O:WR Tryz.progTables.globals.size FF (d8 eN FF ZZ) ρ w w'){v0:ac}(hv:VR FF ρ (H 0) v0)(h:Wy f R g0 w0 (St H r [il sU] cs) w) :
 ∃l p q v d e z A B c3 np o n g,H 0=fl #[fi hK l,fi hK p,ft q z A,ft v B c3,ft (some d) np o,ft e n g]/\(2<=np/\np<=5/\n<=3)/\
  ∃y0 y1 y2 y3 b F,v0=fl #[y0,y1,y2,y3,ft (some b) np o,F]/\VR FF ρ (fi hK l) y0/\VR FF ρ (fi hK p) y1/\VR FF ρ (ft q z A) y2/\VR FF ρ (ft v B c3) y3/\AR ρ d b/\VR FF ρ (ft e n g) F/\
  (∀k,k<np->∃u I s n lb P Q,ye ρ w w' d b k u I s n lb P Q)/\(∀k,k<n->∃a a' u I s st dl,e=some a/\F=ft (some a') n g/\AR ρ a a'/\AA ρ w w' a a' k np u I s st dl)/\
  ∃C,C 9=ft (some d) np o/\C 10=ft e n g/\C 15=fi hK (np:Int)/\C 16=fi hK (n:Int)/\Wy f R g0 w0 (St C r [il aeo] cs) w:=by
 have W:=Wy.region hc (h.seq hc) (m:=24) rfl;obtain⟨l,p,q,v,d,e,z,A,B,c3,np,o,n,g,H1,hd,W⟩:=amL W;rw[hd.arg]at hv;obtain⟨y,ey,hy⟩:=Y5 hv;obtain⟨S⟩:=y;have J:cU FF ρ [fi hK l,fi hK p,ft q z A,ft v B c3,ft (some d) np o,ft e n g] S:=hy
 cases J with|cons q0 T=>cases T with|cons q1 t1=>cases t1 with|cons q2 t2=>cases t2 with|cons q3 U=>cases U with|cons q4 V=>cases V with|cons q5 X=>
 cases X;have E:=hd.lo;obtain⟨b,Y,D⟩:=xL q4 (show 0<np from cB ao E.1);subst Y;have W:=Wy.loop hc (W.leave.seq hc);obtain⟨L,H2,hold,W⟩:=ahH hc O D E.2.1 np 0 ab hd.ahE hd.MC hd.i W;have W:=Wy.loop hc (W.seq hc);obtain⟨M,Z,c,W⟩:=ahJ hc O q5 E.2.2 n 0 ab ((hold 10 ab ab).trans hd.ahF) ((hold 15 ab ab).trans hd.MC) ((hold 16 ab ab).trans hd.hn) ((hold 21 ab ab).trans hd.j) W
 exact⟨l,p,q,v,d,e,z,A,B,c3,np,o,n,g,hd.arg,E,_,_,_,_,b,_,ey,q0,q1,q2,q3,D,q5,λk N=>L k (dp _) N,λk N=>M k (dp _) N,
  Z,(c 9 ab ab).trans ((hold 9 ab ab).trans hd.ahE),(c 10 ab ab).trans ((hold 10 ab ab).trans hd.ahF),(c 15 ab ab).trans ((hold 15 ab ab).trans hd.MC),(c 16 ab ab).trans ((hold 16 ab ab).trans hd.hn),W⟩
end
end Go.Proofs
namespace Go.Proofs
def j8(np s r:Nat):Nat:=(s+r) % np
def cmV(pn:Nat->Nat->Int)(np s:Nat)(dl:Int):Nat->Int×Int
 |0=>(dl,dl)
 |r+1=>(IntKind.i64.wrap (IntKind.i64.wrap ((cmV pn np s dl r).1+pn (j8 np s r) 7)+pn (j8 np s r) 9),IntKind.i64.wrap (IntKind.i64.wrap ((cmV pn np s dl r).2+pn (j8 np s r) 8)+pn (j8 np s r) 10))
def vsV(pn:Nat->Nat->Int)(np s:Nat)(dl:Int)(r:Nat):Nat->Int
 |0=>(j8 np s r:Nat)
 |1=>(cmV pn np s dl r).1
 |2=>(cmV pn np s dl r).2
 |3=>IntKind.i64.wrap ((cmV pn np s dl r).1+pn (j8 np s r) 7)
 |_=>IntKind.i64.wrap ((cmV pn np s dl r).2+pn (j8 np s r) 8)
def OnT(np G R k r:Nat):Prop:=(k<G/\r<np)\/(k=G/\r<R)
def agY(np s k r o:Nat):Prop:=k*25+j8 np s r*5<=o/\o<k*25+j8 np s r*5+5
structure dc(pn:Nat->Nat->Int)(np:Nat)(S:Nat->Nat)(dl:Nat->Int)(G R:Nat)(cs:Array ac):Prop where
 size:cs.size=75
 put:∀k r j,OnT np G R k r->j<5->cs[k*25+j8 np (S k) r*5+j]?=some (fi hK (vsV pn np (S k) (dl k) r j))
 rest:∀o,o<75->(∀k r,OnT np G R k r->¬agY np (S k) k r o)->cs[o]?=some (fi hK 0)
def ab5{np s r:Nat}(h:0<np):j8 np s r<np:=cQ _ h
theorem ala{np s r a:Nat}(h:a<r)(i:r<np):j8 np s a≠j8 np s r:=by
 unfold j8;intro e;have j:=c8 (s+r) np;have f:=c8 (s+a) np;rw[e]at f;have b:np*((s+r) / np)-np*((s+a) / np)=r-a:=ab;rw[<-c9]at b;have c:0<r-a:=ab;have g:r-a<np:=ab;rw[<-b]at c g;have:(s+r) / np-(s+a) / np=0:=by
  by_cases d:(s+r) / np-(s+a) / np=0
  .exact d
  .have:=da np (db d);omega
 rw[this]at c;omega
def ag9(np s p:Nat):Nat:=(p+np-s) % np
def abB{np s p:Nat}(h:0<np):ag9 np s p<np:=cQ _ h
def agC{np s p:Nat}(a:p<np)(hs:s<np):j8 np s (ag9 np s p)=p:=by
 unfold j8 ag9
 rcases dd p s with h|h
 .rw[dq (show p+np-s<np by omega),show s+(p+np-s)=p+np by omega,dt,dq a]
 .rw[show p+np-s=(p-s)+np by omega,dt,dq (show p-s<np by omega),show s+(p-s)=p by omega,dq a]
def abk{np s r:Nat}(h:0<np):j8 np s (r+1)=if j8 np s r+1=np then 0 else j8 np s r+1:=by
 unfold j8;have e:(s+(r+1)) % np=((s+r) % np+1) % np:=by grind[Nat.add_mod,Nat.mod_add_mod]
 have:=cQ (s+r) h;rw[e];split
 .simp_all
 .rw[dq ab]
section
variable {pn:Nat->Nat->Int}{np:Nat}{S:Nat->Nat}{dl:Nat->Int}{G R:Nat}{cs cs':Array ac}
def dc.uniq(h:dc pn np S dl G R cs)(k:dc pn np S dl G R cs'):cs=cs':=by
 apply f6;intro o
 rcases dd o 75 with a|a
 .by_cases hc:∃q r,OnT np G R q r/\agY np (S q) q r o
  .obtain⟨q,r,b,c,f⟩:=hc;have e:o=q*25+j8 np (S q) r*5+(o-(q*25+j8 np (S q) r*5)):=ab;rw[e,h.put q r _ b ab,k.put q r _ b ab]
  .have d:∀q r,OnT np G R q r->¬agY np (S q) q r o:=λq r b c=>hc ⟨q,r,b,c⟩;rw[h.rest o a d,k.rest o a d]
 .rw[f7 (by rw[h.size];exact a),f7 (by rw[k.size];exact a)]
def dc.int(h:dc pn np S dl G R cs){o:Nat}(c:o<75):∃n,cs[o]?=some (fi hK n):=by
 by_cases hc:∃q r,OnT np G R q r/\agY np (S q) q r o
 .obtain⟨q,r,a,b,d⟩:=hc;have e:o=q*25+j8 np (S q) r*5+(o-(q*25+j8 np (S q) r*5)):=ab;exact⟨_,by rw[e,h.put q r _ a ab]⟩
 .exact⟨0,h.rest o c λq r a b=>hc ⟨q,r,a,b⟩⟩
def dc.zero(a:cs.size=75)(b:∀o,o<75->cs[o]?=some (fi hK 0)):dc pn np S dl 0 0 cs:=
 ⟨a,λk r j h _=>by rcases h with h|h<;>omega,λo c _=>b o c⟩
def dc.next(h:dc pn np S dl G R cs)(g:R<np)(i:np<=5)(hs:cs'.size=75)(l:∀j,j<5->cs'[G*25+j8 np (S G) R*5+j]?=some (fi hK (vsV pn np (S G) (dl G) R j)))
 (b:∀o,(o<G*25+j8 np (S G) R*5\/G*25+j8 np (S G) R*5+5<=o)->cs'[o]?=cs[o]?):dc pn np S dl G (R+1) cs':=by
 have m:=ab5 (np:=np) (s:=S G) (r:=R) ab;refine⟨hs,λk r j a d=>?_,λo f c=>?_⟩
 .have n:=ab5 (np:=np) (s:=S k) (r:=r) ab;by_cases e:k=G/\r=R
  .grind
  .rw[b _ ?_]
   .refine h.put k r j ?_ d
    rcases a with a|a
    .exact hY a
    .exact hZ ⟨a.1,ab⟩
   .rcases a with a|⟨rfl,a⟩
    .omega
    grind[ala]
 .rw[b o ?_]
  .refine h.rest o f λk r a=>c k r ?_
   rcases a with a|a
   .exact hY a
   .exact hZ ⟨a.1,ab⟩
  .have:=c G R (hZ ⟨rfl,ab⟩);unfold agY at this;omega
def dc.done(h:dc pn np S dl G np cs):dc pn np S dl (G+1) 0 cs:=by
 have e:∀k r,OnT np (G+1) 0 k r↔OnT np G np k r:=λk r=>by
  unfold OnT;grind
 exact⟨h.size,λk r j a=>h.put k r j ((e k r).1 a),λo b c=>h.rest o b λk r a=>c k r ((e k r).2 a)⟩
def dc.at{n k p j:Nat}(h:dc pn np S dl n 0 cs)(a:k<n)(b:p<np)(hs:S k<np)(c:j<5):cs[k*25+p*5+j]?=some (fi hK (vsV pn np (S k) (dl k) (ag9 np (S k) p) j)):=by
 have:=h.put k (ag9 np (S k) p) j (hY ⟨a,abB ab⟩) c;rwa[agC b hs]at this
end
open Go.bJ Go.Conc Go.Ph
open Go.ConcN (upd upd_ne upd_same)
def amN:∃i,PC.info? 113=some i/\i.zero=some (fl dZ):=by
 have h:(PC.info? 113).map (·.zero)=some (some (fl dZ)):=ae;simp_all
def amO:PC.underlying 113=some (ii 3 111):=ae
def amP:PC.underlying 111=some (ii 5 72):=ae
def amQ:(PC.info? 111).map (·.size)=some 25:=ae
def amj:(PC.info? 72).map (·.size)=some 5:=ae
def b35(a b:Int)(w:ai):(f2 56 #[(0,fi hK a),(1,fi hK b)]).run PC w=hr (fl #[fi hK a,fi hK b]) w:=ae
def b61(p a b c d:Int)(w:ai):(f2 72 #[(0,fi hK p),(1,fl #[fi hK a,fi hK b]),(2,fl #[fi hK c,fi hK d])]).run PC w=hr (fl #[fi hK p,fi hK a,fi hK b,fi hK c,fi hK d]) w:=ae
section
variable {f:aH}{R:ac->ai->Prop}{g0:aa}{w0 w w':ai}{H:Nat->ac}{r:List ac}{cs:List aT}{ρ:Ren}{K:List aF}{ops:Array bC}{m i d x y z:Nat}
def Wi.ahK(h:Wi f R g0 w0 r cs ops m K H i w)(hi:i<m)(a:ops[i]?=some (aD (some d) (g7 113) none))(hd:d<98):Wi f R g0 w0 r cs ops m K (upd H d (fJ (some ⟨w.heap.size,0,none⟩))) (i+1) (w.alloc (dQ dZ 113)):=by
 obtain⟨b,c,e⟩:=amN;exact .next h.hc a hd ((h.at hi).go bV h.hc (jY (P:=PC) (jb a rfl rfl) rfl c e))
def Wi.qM{t l:Nat}{a:ad}{u:Nat->ac}(h:Wi f R g0 w0 r cs ops m K H i w)(hi:i<m)(o:ops[i]?=some (aD (some d) (gG t (hT x)) none))(hd:d<98)(v:x<98)(q:Sd t l)(hv:H x=fJ (some a))(hc:∀j,j<l->w.cell? (a.add j)=some (u j)) :
 Wi f R g0 w0 r cs ops m K (upd H d (fl ((ei l).map u).toArray)) (i+1) w:=by
 obtain⟨J,g,t1,t2,A,B⟩:=q.ex;subst B;have e:bL (SL 98 H r ops (i::et (i+1) (m-(i+1))) K 29 cs).frame.eval (aD (some d) (gG t (hT x)) none)=(do pure (iU (<-cl t a)):Sem bM):=ed rfl ((bH v).trans hv);have key:∀n j(b:Array ac),(∀k,k<n->w.cell? (a.add (j+k))=some (u (j+k)))->(ch a j n b).run PC w=hr (b++((ei n).map λk=>u (j+k)).toArray) w:=by
  intro n
  induction n with
  |zero=>intro j b _;simp[ch]
  |succ n C=>
   intro j b D;have p:=D 0 ab;rw[du]at p;simp only[ch,gr,ci,p,hq];rw[C (j+1) (b.push (u j)) λk L=>aS];simp[ep,hu,Nat.add_assoc,Nat.add_comm 1]
 have s:(cl t a).run PC w=hr (fl ((ei g.size).map u).toArray) w:=by
  have M:(cl t a).run PC w=((ch a 0 g.size #[]).run PC w).andThen λc w=>hr (fl c) w:=by
   simp[cl,mh t1,t2,ce,cf,A,loadCells]
  simp_all
 obtain⟨v',w',E,F⟩:=(h.at hi).val bV h.hc (jb o rfl rfl) e (hY ⟨_,_,s⟩);have I:=s.symm.trans E;cases I;exact .next h.hc o hd F
def Wi.ahP{t b len c:Nat}{a:ad}{k:Nat}(h:Wi f R g0 w0 r cs ops m K H i w)(hi:i<m)(e:ops[i]?=some (aD (some d) (gE t (hT x) (hT y)) none))(hd:d<98)(g:x<98)(hy:y<98)(j:PC.underlying t=some (ii len b))(hs:(PC.info? b).map (·.size)=some c)(hv:H x=fJ (some a))(l:H y=fi hK (k:Int))(hl:k<len) :
 Wi f R g0 w0 r cs ops m K (upd H d (fJ (some (a.add (k*c))))) (i+1) w:=by
 have:=(h.at hi).go bV h.hc (qK (P:=PC) (mn:=true) (w:=w) (i:=(k:Int)) (jb e rfl rfl) rfl ((bH g).trans hv) ((bH hy).trans l) j hs ab ab);rw[fb]at this;exact .next h.hc e hd this
def Wi.alb{b off:Nat}{cur c:Array ac}(h:Wi f R g0 w0 r cs ops m K H i w)(hi:i<m)(e:ops[i]?=some (aD none (g2 72 (hT x) (hT y)) none))(k:x<98)(hy:y<98)(hv:H x=fJ (some ⟨b,off,none⟩))(l:H y=fl c)(hb:w.heap[b]?=some (dQ cur 113))(g:c.size=5)(hl:off+5<=cur.size)(n:∀v∈c,v.oneCell'=true) :
 Wi f R g0 w0 r cs ops m K H (i+1) (w.setRow b (putRow cur off c)):=by
 have a:(fl c).cells=c:=rfl;obtain⟨es,st,_⟩:=rC (P:=PC) (mn:=true) (w:=w) (jb e rfl rfl) rfl ((bH k).trans hv) ((bH hy).trans l) hb (by rw[a,g];exact amj) (by rw[a,g];exact hl) (by rw[a];exact n);have j:=(h.at hi).go bV h.hc st;rw[UR e rfl,a]at j;exact⟨h.hc,j⟩
def Wi.asf{a b:Int}(h:Wi f R g0 w0 r cs ops m K H i w)(hi:i<m)(c:ops[i]?=some (aD (some d) (g8 i1 3 (hT x) (hT y) 3) none))(hd:d<98)(e:x<98)(hy:y<98)(hv:H x=fi hK a)(g:H y=fi hK b):Wi f R g0 w0 r cs ops m K (upd H d (fO (a==b))) (i+1) w:=
 .next h.hc c hd ((h.at hi).JL bV h.hc (jb c rfl rfl) rfl ((bH e).trans hv) ((bH hy).trans g))
def Wi.pick{v:ac}{b:Bool}(h:Wi f R g0 w0 r cs ops m K H i w)(hi:i<m)(a:ops[i]?=some (aD (some d) (.pick (hT x) (hV v) (hT y)) none))(hd:d<98)(c:x<98)(hy:y<98)(hb:H x=fO b):Wi f R g0 w0 r cs ops m K (upd H d (if b then v else H y)) (i+1) w:=by
 have e:(bL (SL 98 H r ops (i::et (i+1) (m-(i+1))) K 29 cs).frame.eval (aD (some d) (.pick (hT x) (hV v) (hT y)) none)).run PC w=hr (iU (if b then v else H y)) w:=by
  unfold bL;simp only[aD,bH c,bH hy,hb,ahC];cases b<;>rfl
 have hs:=dF (P:=PC) (mn:=true) (v:=if b then v else H y) (w':=w) (w:=w) (g:=SL 98 H r ops (i::et (i+1) (m-(i+1))) K 29 cs) (jb a rfl rfl) e;exact .next h.hc a hd ((h.at hi).go bV h.hc hs)
def Wy.ret{c:aT}{l:List aT}{v:ac}(hc:2<=(c::l).length)(h:Wy f R g0 w0 (St H r [il .ret] (c::l)) w)(hv:H 2=v):Wy f R g0 w0 (fH (c.finish v) l) w:=by
 have e:stepG PC true (St H r [il .ret] (c::l)) w=.go (fH ⟨29,⟨(ei 98).map H++r⟩,[il .ret],[],hS,hM,none⟩ (c::l)) w #[]:=rfl;have g:=h.go bV hc e;have a:nS.results=#[.tmp 2]:=rfl;have o:(⟨(ei 98).map H++r⟩:Array ac).getD 2 undef=v:=by
  have:=bH (n:=98) (H:=H) (rest:=r) (ops:=#[]) (is:=[]) (k:=[]) (fn:=29) (cs:=[]) (j:=2) ab;exact(show(⟨(ei 98).map H++r⟩:Array ac).getD 2 undef=H 2 from this).trans hv
 have hf:PC.funcs[29]?=some nS:=JO;have b:=rB (P:=PC) (mn:=true) (w:=w) (fr:=⟨29,⟨(ei 98).map H++r⟩,[il .ret],[],hS,hM,none⟩) (c:=c) (cs:=l) rfl rfl rfl hf (results_tmp a _ PC w) (events_results_tmp a _ _);rw[o]at b;exact g.go bV hc b
end
end Go.Proofs
namespace Go.Proofs
structure h_ where
 l:Int
 p:Int
 b2:Option ad
 n2:Nat
 c2:Nat
 b3:Option ad
 n3:Nat
 c3:Nat
 k4:Nat
 o4:Nat
 np:Nat
 c4:Nat
 b5:Option ad
 k5:Nat
 o5:Nat
 n:Nat
 c5:Nat
 pn:Nat->Nat->Int
 S:Nat->Nat
 dl:Nat->Int
 nm:Nat->ByteArray
 gn:Nat->ByteArray
 lb:Nat->Option ad
 ll:Nat->Nat
 lc:Nat->Nat
abbrev h_.arr(T:h_):Array ac:=#[fi hK T.l,fi hK T.p,ft T.b2 T.n2 T.c2,ft T.b3 T.n3 T.c3,ft (some ⟨T.k4,T.o4,none⟩) T.np T.c4,ft T.b5 T.n T.c5]
def h_.G8(T:h_)(i:Nat):Nat->ac
 |0=>fo (T.nm i)
 |11=>ft (T.lb i) (T.ll i) (T.lc i)
 |j=>fi hK (T.pn i j)
def h_.PM(T:h_)(k:Nat):Nat->ac
 |0=>fo (T.gn k)
 |1=>fi hK (T.S k:Int)
 |_=>fi hK (T.dl k)
structure h_.In(T:h_)(w:ai):Prop where
 lo:2<=T.np/\T.np<=5/\T.n<=3
 h4:T.k4<w.heap.size
 h5:0<T.n->T.b5=some ⟨T.k5,T.o5,none⟩/\T.k5<w.heap.size
 st:∀k,k<T.n->T.S k<T.np
 c4:∀i,i<T.np->∀j,j<12->w.cell? ⟨T.k4,T.o4+i*12+j,none⟩=some (T.G8 i j)
 c5:∀k,k<T.n->∀j,j<3->w.cell? ⟨T.k5,T.o5+k*3+j,none⟩=some (T.PM k j)
open Go.bJ Go.Conc Go.Ph
open Go.ConcN (upd upd_ne upd_same)
structure i_(w:ai)(cs:Array ac)(w1:ai):Prop where
 tb:w1.heap[w.heap.size]?=some (dQ cs 113)
 old:∀b,b<w.heap.size->w1.heap[b]?=w.heap[b]?
 size:w1.heap.size=w.heap.size+1
def i_.cell{w w1:ai}{cs:Array ac}(h:i_ w cs w1){k o:Nat}(a:k<w.heap.size):w1.cell? ⟨k,o,none⟩=w.cell? ⟨k,o,none⟩:=by simp only[eE,h.old k a]
theorem i_.set{w w1:ai}{cs:Array ac}(h:i_ w cs w1)(cs':Array ac):i_ w cs' (w1.setRow w.heap.size cs'):=
 ⟨bb _ _ _ _ _ _ h.tb,λb hb=>by rw[a9 _ _ _ _ ab];exact h.old b hb,by simp[World.setRow,h.size]⟩
structure j_(T:h_)(w:ai)(H:Nat->ac):Prop where
 h9:H 9=ft (some ⟨T.k4,T.o4,none⟩) T.np T.c4
 tI:H 10=ft T.b5 T.n T.c5
 h15:H 15=fi hK (T.np:Int)
 h16:H 16=fi hK (T.n:Int)
def j_.on{T:h_}{w:ai}{H a:Nat->ac}(h:j_ T w H)(e:∀j,j<66->a j=H j):j_ T w a:=⟨(e 9 ab).trans h.h9,(e 10 ab).trans h.tI,(e 15 ab).trans h.h15,(e 16 ab).trans h.h16⟩
section
variable {f:aH}{R:ac->ai->Prop}{g0:aa}{w0 w w1 w':ai}{H:Nat->ac}{r:List ac}{cs:List aT}{ρ:Ren}{K:List aF}{T:h_}{cur:Array ac}{G q:Nat}
structure Rd(T:h_)(w:ai)(G q:Nat)(H:Nat->ac):Prop where
 sf:j_ T w H
 h66:H 66=fJ (some ⟨w.heap.size,0,none⟩)
 h67:H 67=fi hK (G:Int)
 h71:H 71=fi hK ((j8 T.np (T.S G) q:Nat):Int)
 h72:H 72=fi hK (cmV T.pn T.np (T.S G) (T.dl G) q).1
 h73:H 73=fi hK (cmV T.pn T.np (T.S G) (T.dl G) q).2
 h74:H 74=fi hK (q:Int)
def apa(h:Wi f R g0 w0 r cs agX 26 K H 0 w1)(B:T.In w)(C:i_ w cur w1)(hd:Rd T w G q H)(N:G<T.n)(J:q<T.np)(D:dc T.pn T.np T.S T.dl G q cur) :
 ∃E F w2,Rd T w G (q+1) E/\i_ w F w2/\dc T.pn T.np T.S T.dl G (q+1) F/\Wi f R g0 w0 r cs agX 26 K E 26 w2:=by
 have L:=B.lo;have I:j8 T.np (T.S G) q<T.np:=ab5 ab;obtain⟨c1,z⟩:=br ((cmV T.pn T.np (T.S G) (T.dl G) q).1);obtain⟨e,i⟩:=br ((cmV T.pn T.np (T.S G) (T.dl G) q).2);obtain⟨p,l⟩:=br (j8 T.np (T.S G) q);have g:=hd.h71;have m:=hd.h72;have s:=hd.h73;rw[<-z]at m;rw[<-i]at s;rw[<-l]at g I;have W:=h.aco (d:=76) (x:=9) (y:=71) (k:=(p:Int)) (a:=⟨T.k4,T.o4,none⟩) (n:=T.np) (c:=T.c4) ab rfl aeH aeI ab ab ab ab ab hd.sf.h9 g;have M:(⟨T.k4,T.o4,none⟩:ad).add ((p:Int).toNat*12)=⟨T.k4,T.o4+p*12,none⟩:=by rw[eh,fb]
 rw[M]at W;have W:=W.qM (d:=77) (x:=76) (u:=T.G8 p) ab rfl ab ab akC (hG _ _ _) (λj A=>by rw[eh,C.cell B.h4];exact B.c4 p I j A);have hc:((ei 12).map (T.G8 p)).toArray=#[fo (T.nm p),fi hK (T.pn p 1),fi hK (T.pn p 2),fi hK (T.pn p 3),fi hK (T.pn p 4),fi hK (T.pn p 5),fi hK (T.pn p 6),fi hK (T.pn p 7),fi hK (T.pn p 8),fi hK (T.pn p 9),fi hK (T.pn p 10),ft (T.lb p) (T.ll p) (T.lc p)]:=rfl;rw[hc]at W;have W:=W.fs aa9 (d:=78) (x:=77) (c':=#[fi hK (T.pn p 7),fi hK (T.pn p 8)]) ab rfl ab ab (hG _ _ _) ar;have W:=W.fk aa2 (d:=79) (x:=78) (v:=fi hK (T.pn p 7)) ab rfl ab ab (hG _ _ _) rfl;have W:=W.fk aa3 (d:=80) (x:=78) (c:=#[fi hK (T.pn p 7),fi hK (T.pn p 8)]) (v:=fi hK (T.pn p 8)) ab rfl ab ab rfl rfl;have W:=W.fs aaa (d:=81) (x:=77) (c:=#[fo (T.nm p),fi hK (T.pn p 1),fi hK (T.pn p 2),fi hK (T.pn p 3),fi hK (T.pn p 4),fi hK (T.pn p 5),fi hK (T.pn p 6),fi hK (T.pn p 7),fi hK (T.pn p 8),fi hK (T.pn p 9),fi hK (T.pn p 10),ft (T.lb p) (T.ll p) (T.lc p)]) (c':=#[fi hK (T.pn p 9),fi hK (T.pn p 10)]) ab rfl ab ab rfl ar;have W:=W.fk aa2 (d:=82) (x:=81) (v:=fi hK (T.pn p 9)) ab rfl ab ab (hG _ _ _) rfl;have W:=W.fk aa3 (d:=83) (x:=81) (c:=#[fi hK (T.pn p 9),fi hK (T.pn p 10)]) (v:=fi hK (T.pn p 10)) ab rfl ab ab rfl rfl;have W:=W.add (d:=84) (x:=72) (y:=79) (m1:=c1) (n:=T.pn p 7) ab rfl ab ab ab m rfl;have W:=W.add (d:=85) (x:=73) (y:=80) (m1:=e) (n:=T.pn p 8) ab rfl ab ab ab s rfl
 have W:=W.build (d:=86) (t:=56) (ps:=#[(0,hT 72),(1,hT 73)]) (pv:=#[(0,fi hK c1),(1,fi hK e)]) ab rfl ab (by
  simp only[eu,eA,eD];rw[bH ab,bH ab]
  exact(congrArg (λa=>#[((0:Nat),a),(1,_)]) m).trans (congrArg (λb=>#[((0:Nat),fi hK c1),(1,b)]) s)) (b35 _ _ _)
 have W:=W.build (d:=87) (t:=56) (ps:=#[(0,hT 84),(1,hT 85)]) (pv:=#[(0,fi hK (IntKind.i64.wrap (c1+T.pn p 7))),(1,fi hK (IntKind.i64.wrap (e+T.pn p 8)))]) ab rfl ab (by
  simp only[eu,eA,eD];rw[bH ab,bH ab]
  rfl) (b35 _ _ _)
 have W:=W.build (d:=88) (t:=72) (ps:=#[(0,hT 71),(1,hT 86),(2,hT 87)]) (pv:=#[(0,fi hK (p:Int)),(1,fl #[fi hK c1,fi hK e]),(2,fl #[fi hK (IntKind.i64.wrap (c1+T.pn p 7)),fi hK (IntKind.i64.wrap (e+T.pn p 8))])]) ab rfl ab (by
  simp only[eu,eA,eD];rw[bH ab,bH ab,bH ab]
  exact congrArg (λa=>#[((0:Nat),a),(1,fl #[fi hK c1,fi hK e]),(2,fl #[fi hK (IntKind.i64.wrap (c1+T.pn p 7)),fi hK (IntKind.i64.wrap (e+T.pn p 8))])]) g) (b61 _ _ _ _ _ _)
 have W:=W.ahP (d:=89) (x:=66) (y:=67) (k:=G) (a:=⟨w.heap.size,0,none⟩) ab rfl ab ab ab amO amQ hd.h66 hd.h67 ab;have W:=W.ahP (d:=90) (x:=89) (y:=71) (k:=p) ab rfl ab ab ab amP amj (hG _ _ _) g ab;have hcs:=D.size
 have W:=W.alb (x:=90) (y:=88) (b:=w.heap.size) (off:=G*25+p*5) (cur:=cur) (c:=#[fi hK (p:Int),fi hK c1,fi hK e,fi hK (IntKind.i64.wrap (c1+T.pn p 7)),fi hK (IntKind.i64.wrap (e+T.pn p 8))]) ab rfl ab ab (by
  rw[hG,eh,eh,df]) rfl C.tb rfl ab (λv hv=>by
  simp only[ej,el,em,or_false]at hv
  rcases hv with rfl|rfl|rfl|rfl|rfl<;>rfl)
 have W:=W.add (d:=91) (x:=84) (y:=82) (m1:=IntKind.i64.wrap (c1+T.pn p 7)) (n:=T.pn p 9) ab rfl ab ab ab rfl rfl;have W:=W.add (d:=92) (x:=85) (y:=83) (m1:=IntKind.i64.wrap (e+T.pn p 8)) (n:=T.pn p 10) ab rfl ab ab ab rfl rfl;have W:=W.abt (d:=72) (x:=91) ab rfl ab ab;have W:=W.abt (d:=73) (x:=92) ab rfl ab ab;have W:=W.add1 (d:=93) (x:=71) (n:=(p:Int)) ab rfl ab ab g;have W:=W.asf (d:=94) (x:=93) (y:=15) (a:=IntKind.i64.wrap ((p:Int)+1)) (b:=(T.np:Int)) ab rfl ab ab ab (hG _ _ _) hd.sf.h15;have W:=W.pick (d:=95) (x:=94) (y:=93) (v:=fi hK 0) (b:=IntKind.i64.wrap ((p:Int)+1)==(T.np:Int)) ab rfl ab ab ab (hG _ _ _);have W:=W.abt (d:=71) (x:=95) ab rfl ab ab;have W:=W.add1 (d:=96) (x:=74) (n:=(q:Int)) ab rfl ab ab hd.h74;have W:=W.abt (d:=74) (x:=96) ab rfl ab ab;refine⟨_,_,_,⟨hd.sf.on λj A=>?_,?_,?_,?_,?_,?_,?_⟩,C.set _,D.next J L.2.1 ?_ (λj A=>?_) (λo O=>?_),W⟩
 .repeat rw[hH _ _ ab]
 .exact hd.h66
 .exact hd.h67
 .have e1:IntKind.i64.wrap ((p:Int)+1)=((p+1:Nat):Int):=aez ab;show(if IntKind.i64.wrap ((p:Int)+1)==(T.np:Int) then fi hK 0 else fi hK (IntKind.i64.wrap ((p:Int)+1)))=_;rw[e1,abk ab,<-l];grind
 .show fi hK (IntKind.i64.wrap (IntKind.i64.wrap (c1+T.pn p 7)+T.pn p 9))=_;rw[cmV,<-z,<-l]
 .show fi hK (IntKind.i64.wrap (IntKind.i64.wrap (e+T.pn p 8)+T.pn p 10))=_;rw[cmV,<-i,<-l]
 .rw[hG,hG,aez ab]
 .rw[vj (by show _+5<=_;omega)];exact hcs
 .rw[<-l,Mo (by show _+5<=_;omega) A];obtain rfl|rfl|rfl|rfl|rfl:j=0\/j=1\/j=2\/j=3\/j=4:=ab
  .simp only[vsV,<-l];rfl
  .simp only[vsV,<-z];rfl
  .simp only[vsV,<-i];rfl
  .simp only[vsV,<-z,<-l];rfl
  .simp only[vsV,<-i,<-l];rfl
 grind[G4]
noncomputable abbrev amk:bi:=lb 3 8 al8 75 (ix 9 agX false)
def Rd.upd{j:Nat}{v:ac}(h:Rd T w G q H)(a:75<=j):Rd T w G q (upd H j v):=
 ⟨h.sf.on λk b=>hH _ _ ab,(hH _ _ ab).trans h.h66,(hH _ _ ab).trans h.h67,(hH _ _ ab).trans h.h71,(hH _ _ ab).trans h.h72,(hH _ _ ab).trans h.h73,(hH _ _ ab).trans h.h74⟩
def agD(hc:2<=cs.length)(e:T.In w)(g:G<T.n):∀(k q:Nat),q+k=T.np->∀{H:Nat->ac}{w1:ai}{cur:Array ac},i_ w cur w1->Rd T w G q H->dc T.pn T.np T.S T.dl G q cur->
 Wy f R g0 w0 (St H r (il amk :: im amk :: io 3::K) cs) w1->∃i j w2,i_ w j w2/\Rd T w G T.np i/\dc T.pn T.np T.S T.dl G T.np j/\Wy f R g0 w0 (St i r K cs) w2
 |0,q,l,H,w1,cur,a,hd,b,h=>by
  obtain rfl:q=T.np:=ab;have W:=Wy.no hc h (t:=75) (x:=74) (y:=15) ab ab ab hd.h74 hd.sf.h15 ab;exact⟨_,cur,w1,a,hd.upd ab,b,W⟩
 |k+1,q,l,H,w1,cur,a,hd,b,h=>by
  have W:=Wy.yes hc h (t:=75) (x:=74) (y:=15) ab ab ab hd.h74 hd.sf.h15 ab;have W:=Wy.region hc W (m:=26) rfl;obtain⟨s,o,w2,c,p,d,W⟩:=apa W e a (hd.upd ab) g ab b;exact agD hc e g k (q+1) ab p c d (Wy.again hc W.leave)
structure k_(T:h_)(w:ai)(G:Nat)(H:Nat->ac):Prop where
 sf:j_ T w H
 h66:H 66=fJ (some ⟨w.heap.size,0,none⟩)
 h67:H 67=fi hK (G:Int)
noncomputable abbrev amm:bi:=lb 2 6 amJ 68 (iB (ix 7 opsL false) (iB (ac6 3 8 al8 75 (ix 9 agX false)) (ix 10 amK false)))
def agE(hc:2<=cs.length)(e:T.In w):∀(k G:Nat),G+k=T.n->∀{H:Nat->ac}{w1:ai}{cur:Array ac},i_ w cur w1->k_ T w G H->dc T.pn T.np T.S T.dl G 0 cur->
 Wy f R g0 w0 (St H r (il amm :: im amm :: io 2::K) cs) w1->∃z A w2,i_ w A w2/\z 66=fJ (some ⟨w.heap.size,0,none⟩)/\dc T.pn T.np T.S T.dl T.n 0 A/\Wy f R g0 w0 (St z r K cs) w2
 |0,G,C,H,w1,cur,g,hd,i,h=>by
  obtain rfl:G=T.n:=ab;have W:=Wy.no hc h (t:=68) (x:=67) (y:=16) ab ab ab hd.h67 hd.sf.h16 ab;exact⟨_,cur,w1,g,(hH _ _ ab).trans hd.h66,i,W⟩
 |k+1,G,C,H,w1,cur,g,hd,i,h=>by
  obtain⟨D,l⟩:=e.h5 ab;have E:=e.st G ab;have L:=e.lo.2.2;have W:=Wy.yes hc h (t:=68) (x:=67) (y:=16) ab ab ab hd.h67 hd.sf.h16 ab;have W:=Wy.region hc (W.seq hc) (m:=6) rfl;have B:=hd.sf.tI;rw[D]at B;have W:=W.aco (d:=69) (x:=10) (y:=67) (k:=(G:Int)) (a:=⟨T.k5,T.o5,none⟩) (n:=T.n) (c:=T.c5) ab rfl Xh aeM ab ab ab ab ab ((hH _ _ ab).trans B) ((hH _ _ ab).trans hd.h67);have F:(⟨T.k5,T.o5,none⟩:ad).add ((G:Int).toNat*3)=⟨T.k5,T.o5+G*3,none⟩:=by rw[eh,fb]
  rw[F]at W;have W:=W.qM (d:=70) (x:=69) (u:=T.PM G) ab rfl ab ab akH (hG _ _ _) (λj o=>by rw[eh,g.cell l];exact e.c5 G ab j o);have p:((ei 3).map (T.PM G)).toArray=#[fo (T.gn G),fi hK (T.S G:Int),fi hK (T.dl G)]:=rfl;rw[p]at W;have W:=W.fk aad (d:=71) (x:=70) (v:=fi hK (T.S G:Int)) ab rfl ab ab (hG _ _ _) rfl;have W:=W.fk aae (d:=72) (x:=70) (c:=#[fo (T.gn G),fi hK (T.S G:Int),fi hK (T.dl G)]) (v:=fi hK (T.dl G)) ab rfl ab ab rfl rfl;have W:=W.fk aae (d:=73) (x:=70) (c:=#[fo (T.gn G),fi hK (T.S G:Int),fi hK (T.dl G)]) (v:=fi hK (T.dl G)) ab rfl ab ab rfl rfl;have W:=W.move (d:=74) ab rfl ab;have W:=Wy.loop hc ((W.leave).seq hc)
  obtain⟨M,I,w2,J,b,s,W⟩:=agD hc e (show G<T.n by omega) T.np 0 ab g ⟨hd.sf.on λj o=>by repeat rw[hH _ _ ab],by repeat (rw[hH _ _ ab]);exact hd.h66,by repeat (rw[hH _ _ ab]);exact hd.h67,by
   show fi hK (T.S G:Int)=_
   rw[j8,du,dq E],rfl,rfl,rfl⟩ i W
  have W:=Wy.region hc W (m:=2) rfl;have W:=W.add1 (d:=97) (x:=67) (n:=(G:Int)) ab rfl ab ab b.h67;have W:=W.abt (d:=67) (x:=97) ab rfl ab ab;refine agE hc e k (G+1) ab J ⟨b.sf.on λj o=>by repeat rw[hH _ _ ab],by repeat (rw[hH _ _ ab]);exact b.h66,?_⟩ s.done (Wy.again hc W.leave);rw[hG,hG,aez ab]
def aga{o:Nat}(h:o<75):dZ[o]?=some (fi hK 0):=by
 unfold dZ;grind
def amR{c:aT}{l:List aT}(hc:2<=(c::l).length)(e:T.In w)(hs:j_ T w H)(h:Wy f R g0 w0 (St H r [il aeo] (c::l)) w) :
 ∃cur w2,i_ w cur w2/\dc T.pn T.np T.S T.dl T.n 0 cur/\Wy f R g0 w0 (fH (c.finish (fJ (some ⟨w.heap.size,0,none⟩))) l) w2:=by
 have W:=Wy.region hc (h.seq hc) (m:=2) rfl;have W:=W.ahK (d:=66) ab rfl ab;have W:=W.move (d:=67) ab rfl ab;have W:=Wy.loop hc ((W.leave).seq hc)
 have g:i_ w dZ (w.alloc (dQ dZ 113)):=⟨eM _ _,λb hb=>by
  show(w.heap.push _)[b]?=_
  grind,by simp[eF]⟩
 obtain⟨s,cur,w2,i,a,k,W⟩:=agE hc e T.n 0 ab g ⟨hs.on λj t=>by repeat rw[hH _ _ ab],by rw[hH _ _ ab,hG],hG _ _ _⟩ (dc.zero (by simp[dZ]) λo p=>aga p) W;have W:=Wy.region hc (W.seq hc) (m:=1) rfl;have W:=W.abt (d:=2) (x:=66) ab rfl ab ab;exact⟨cur,w2,i,k,Wy.ret hc W.leave ((hG _ _ _).trans a)⟩
end
def agF{a:Type}(d:a){p:Nat->a->Prop}{n:Nat}(h:∀i,i<n->∃x,p i x):∃f:Nat->a,∀i,i<n->p i (f i):=by
 classical
 refine⟨λi=>if hi:i<n then(h i hi).choose else d,λi hi=>?_⟩;grind
section
variable {f:aH}{R:ac->ai->Prop}{g0:aa}{w0 w w':ai}{H:Nat->ac}{r:List ac}{cs:List aT}{ρ:Ren}
def oT{n:Int}{k:IntKind}{v':ac}(h:VR FF ρ (fi k n) v'):v'=fi k n:=by cases h;rfl
def Qg{s:ByteArray}{v':ac}(h:VR FF ρ (fo s) v'):v'=fo s:=by cases h;rfl
def agG{b:Option ad}{n c:Nat}{v':ac}(h:VR FF ρ (ft b n c) v'):∃b',v'=ft b' n c/\∀x,x∈bl b' n c->∃a,ρ a x:=by
 cases h with
 |di=>exact⟨none,rfl,λx d=>by unfold bl at d;split at d<;>simp at d⟩
 |@slice a g _ _ i=>
  refine⟨some g,rfl,λx d=>?_⟩;unfold bl at d;split at d
  .simp at d
  .have e:x=g.block:=by simpa using d
   exact⟨a.block,by rw[e];exact i.1⟩
 |dK=>exact⟨some _,rfl,λx d=>by unfold bl at d;simp at d⟩
def AB{a:ad}{v:ac}(h:w.cell? a=some v):a.spot=none:=by
 unfold eE at h;split at h
 .simp_all
 .cases h
def abE{a:ad}{v:ac}(h:w.cell? a=some v):a.block<w.heap.size:=by
 unfold eE at h;grind
def Qh{a:ad}(h:a.spot=none)(n j:Nat):(a.add n).add j=⟨a.block,a.off+n+j,none⟩:=by
 obtain⟨b,o,s⟩:=a;grind[eh]
def abG{a:ad}{n:Nat}{v:ac}(h:w.cell? ((a.add n).add 0)=some v)(b:n=0):a.spot=none:=by
 subst b;have e:(a.add 0).add 0=a:=by unfold Addr.add;simp
 rw[e]at h;exact AB h
def abH{a:ad}{k:Nat}{u:Nat->ac}{s:ByteArray}{n:Nat->Int}{lb:Option ad}{b c:Nat}(hs:a.spot=none)(hc:∀j,j<12->w.cell? ((a.add (k*12)).add j)=some (u j))(e:u 0=fo s)(h:∀j,1<=j->j<=10->u j=fi hK (n j))(hl:u 11=ft lb b c){j:Nat}(g:j<12) :
 w.cell? ⟨a.block,a.off+k*12+j,none⟩=(#[fo s,fi hK (n 1),fi hK (n 2),fi hK (n 3),fi hK (n 4),fi hK (n 5),fi hK (n 6),fi hK (n 7),fi hK (n 8),fi hK (n 9),fi hK (n 10),ft lb b c]:Array ac)[j]?:=by
 have d:=hc j g;rw[Qh hs]at d;rw[d];obtain rfl|rfl|rfl|rfl|rfl|rfl|rfl|rfl|rfl|rfl|rfl|rfl:j=0\/j=1\/j=2\/j=3\/j=4\/j=5\/j=6\/j=7\/j=8\/j=9\/j=10\/j=11:=ab
 .rw[e];rfl
 .grind
 .grind
 .grind
 .grind
 .grind
 .grind
 .simp_all
 .simp_all
 .simp_all
 .simp_all
 .rw[hl];rfl
structure apc(ρ:Ren)(w w':ai)(a a':ad)(k:Nat)(x:ByteArray×(Nat->Int)×(Option ad×Nat×Nat)×Option ad):Prop where
 lone:∀j,j<12->w.cell? ⟨a.block,a.off+k*12+j,none⟩=(#[fo x.1,fi hK (x.2.1 1),fi hK (x.2.1 2),fi hK (x.2.1 3),fi hK (x.2.1 4),fi hK (x.2.1 5),fi hK (x.2.1 6),fi hK (x.2.1 7),fi hK (x.2.1 8),fi hK (x.2.1 9),fi hK (x.2.1 10),ft x.2.2.1.1 x.2.2.1.2.1 x.2.2.1.2.2]:Array ac)[j]?
 comp:∀j,j<12->w'.cell? ⟨a'.block,a'.off+k*12+j,none⟩=(#[fo x.1,fi hK (x.2.1 1),fi hK (x.2.1 2),fi hK (x.2.1 3),fi hK (x.2.1 4),fi hK (x.2.1 5),fi hK (x.2.1 6),fi hK (x.2.1 7),fi hK (x.2.1 8),fi hK (x.2.1 9),fi hK (x.2.1 10),ft x.2.2.2 x.2.2.1.2.1 x.2.2.1.2.2]:Array ac)[j]?
 lane:∀y,y∈bl x.2.2.2 x.2.2.1.2.1 x.2.2.1.2.2->∃b,ρ b y
def ye.both{a a':ad}{k:Nat}{u g:Nat->ac}{s:ByteArray}{n:Nat->Int}{lb:Option ad}{d e:Nat}(h:ye ρ w w' a a' k u g s n lb d e)(hs:a.spot=none)(i:a'.spot=none):∃x,apc ρ w w' a a' k x:=by
 have c:=(h.cell 11 ab).2.2.1;rw[h.lane]at c;obtain⟨l,m,hl⟩:=agG c;refine⟨(s,n,(lb,d,e),l),λj b=>abH hs (λj b=>(h.cell j b).1) h.name h.num h.lane b,λj b=>abH i (λj b=>(h.cell j b).2.1) ?_ (λj o p=>?_) m b,hl⟩
 .have:=(h.cell 0 ab).2.2.1;rw[h.name]at this;exact Qg this
 .have:=(h.cell j ab).2.2.1;rw[h.num j o p]at this;exact oT this
structure amS(w w':ai)(a a':ad)(k np:Nat)(x:ByteArray×Nat×Int):Prop where
 lone:∀j,j<3->w.cell? ⟨a.block,a.off+k*3+j,none⟩=(#[fo x.1,fi hK (x.2.1:Int),fi hK x.2.2]:Array ac)[j]?
 comp:∀j,j<3->w'.cell? ⟨a'.block,a'.off+k*3+j,none⟩=(#[fo x.1,fi hK (x.2.1:Int),fi hK x.2.2]:Array ac)[j]?
 lt:x.2.1<np
def AA.both{a a':ad}{k np:Nat}{u d:Nat->ac}{s:ByteArray}{st:Nat}{dl:Int}(h:AA ρ w w' a a' k np u d s st dl)(hs:a.spot=none)(e:a'.spot=none):amS w w' a a' k np (s,st,dl):=by
 have k0:=(h.cell 0 ab).2.2.1;rw[h.name]at k0;have k1:=(h.cell 1 ab).2.2.1;rw[h.start]at k1;have k2:=(h.cell 2 ab).2.2.1;rw[h.aeN]at k2;refine⟨λj c=>?_,λj c=>?_,h.lt⟩
 .have b:=(h.cell j c).1;rw[Qh hs]at b;rw[b];obtain rfl|rfl|rfl:j=0\/j=1\/j=2:=ab
  .rw[h.name];rfl
  .rw[h.start];rfl
  .rw[h.aeN];rfl
 .have b:=(h.cell j c).2.1;rw[Qh e]at b;rw[b];obtain rfl|rfl|rfl:j=0\/j=1\/j=2:=ab
  .rw[Qg k0];rfl
  .rw[oT k1];rfl
  .rw[oT k2];rfl
end
def ahQ{x:Nat->ac}{a:Array ac}(h:a=#[x 0,x 1,x 2,x 3,x 4,x 5,x 6,x 7,x 8,x 9,x 10,x 11]){j:Nat}(b:j<12):a[j]?=some (x j):=by
 subst h;obtain rfl|rfl|rfl|rfl|rfl|rfl|rfl|rfl|rfl|rfl|rfl|rfl:j=0\/j=1\/j=2\/j=3\/j=4\/j=5\/j=6\/j=7\/j=8\/j=9\/j=10\/j=11:=ab
 all_goals rfl
def amT{x:Nat->ac}{a:Array ac}(h:a=#[x 0,x 1,x 2]){j:Nat}(b:j<3):a[j]?=some (x j):=by
 grind
section
variable {f:aH}{R:ac->ai->Prop}{g0:aa}{w0 w w':ai}{H:Nat->ac}{r:List ac}{cs:List aT}{ρ:Ren}
def ape(ρ:Ren)(w':ai)(v0:ac)(T:h_):Prop:=∃c,v0=fl c/\(T.n=0->∃d e,c[5]?=some (ft d 0 e))/\
 (0<T.n->∃D gn,c=cA T.np D/\Cf T.np T.n D T.S T.dl gn w'/\D.pn=T.pn/\∀b,b∈dR T.np D->∃a,ρ a b)
def amU(hc:2<=cs.length)(hw:WR Tryz.progTables.globals.size FF (d8 eN FF ZZ) ρ w w'){v0:ac}(hv:VR FF ρ (H 0) v0)(h:Wy f R g0 w0 (St H r [il sU] cs) w) :
 ∃T v,T.In w/\j_ T w v/\ape ρ w' v0 T/\Wy f R g0 w0 (St v r [il aeo] cs) w:=by
 obtain⟨l,p,b2,b3,o,b5,n2,c2,n3,c3,g,c4,n,Q,_,y,y0,y1,y2,y3,c,y5,ev,q0,q1,q2,q3,ha4,q5,z,A,v,e9,B,C,E,W⟩:=ap9 hc hw hv h;have U:o.spot=none/\c.spot=none/\o.block<w.heap.size:=by
  obtain⟨u,u',s,nn,lb,ll,lc,t⟩:=z 0 ab;obtain⟨k1,k2,_,_⟩:=t.cell 0 ab;have e1:(o.add (0*12)).add 0=o:=by rw[dv];unfold Addr.add;simp
  rw[e1]at k1;exact⟨AB k1,abG k2 (dv _),abE k1⟩
 obtain⟨U,F,I⟩:=U;obtain⟨X,V⟩:=agF (dO,λ_=>0,(none,0,0),none) (p:=λk x=>apc ρ w w' o c k x) (n:=g) λk d=>by
  obtain⟨u,u',s,nn,lb,ll,lc,t⟩:=z k d;exact t.both U F
 obtain⟨b2',J,k2⟩:=agG q2;obtain⟨b3',K,k3⟩:=agG q3;have f0:=oT q0;have f1:=oT q1;subst J K f0 f1;have e4':c=⟨c.block,c.off,none⟩:=by rw[<-F]
 have e4:o=⟨o.block,o.off,none⟩:=by rw[<-U]
 rcases Nat.eq_zero_or_pos n with L|L
 .subst L;obtain⟨b5',e5,_⟩:=agG q5;subst e5;refine⟨{ l:=l,p:=p,b2:=b2,n2:=n2,c2:=c2,b3:=b3,n3:=n3,c3:=c3,k4:=o.block,o4:=o.off,np:=g,c4:=c4,b5:=b5,k5:=0,o5:=0,n:=0,c5:=Q,pn:=λi j=>(X i).2.1 j,S:=λ_=>0,dl:=λ_=>0,nm:=λi=>(X i).1,gn:=λ_=>dO,lb:=λi=>(X i).2.2.1.1,ll:=λi=>(X i).2.2.1.2.1,lc:=λi=>(X i).2.2.1.2.2 },v,⟨y,I,(λh=>absurd h (dx _)),(λk d=>absurd d (dk _)),(λi hi j q=>by rw[(V i hi).lone j q];exact ahQ (by rfl) q),(λk d=>absurd d (dk _))⟩,⟨by rw[e9,e4],B,C,E⟩,⟨_,ev,(λ_=>⟨_,_,rfl⟩),(λh=>absurd h (dx _))⟩,W⟩
 .obtain⟨a,m,s5,s5',Z,ey,har,hg⟩:∃a m,a.spot=none/\m.spot=none/\b5=some a/\y5=ft (some m) n Q/\AR ρ a m/\∀k,k<n->∃x,amS w w' a m k g x:=by
   obtain⟨a,m,u,u',s,st,dl,Z,ey,ha,t⟩:=A 0 L;obtain⟨k1,k2,_,_⟩:=t.cell 0 ab;have sp:=abG k1 (dv _);have M:=abG k2 (dv _);refine⟨a,m,sp,M,Z,ey,ha,λk d=>?_⟩;obtain⟨a1,a1',u,u',s,st,dl,N,O,ha1,t⟩:=A k d;rw[Z]at N;cases N;rw[ey]at O;cases O;exact⟨_,t.both sp M⟩
  obtain⟨Y,P⟩:=agF (dO,0,0) (p:=λk x=>amS w w' a m k g x) (n:=n) hg;have ea:a=⟨a.block,a.off,none⟩:=by rw[<-s5]
  have ea':m=⟨m.block,m.off,none⟩:=by rw[<-s5']
  have h5:a.block<w.heap.size:=by
   have:=(P 0 L).lone 0 ab;exact abE (a:=⟨a.block,_,none⟩) (this.trans rfl)
  refine⟨{ l:=l,p:=p,b2:=b2,n2:=n2,c2:=c2,b3:=b3,n3:=n3,c3:=c3,k4:=o.block,o4:=o.off,np:=g,c4:=c4,b5:=b5,k5:=a.block,o5:=a.off,n:=n,c5:=Q,pn:=λi j=>(X i).2.1 j,S:=λk=>(Y k).2.1,dl:=λk=>(Y k).2.2,nm:=λi=>(X i).1,gn:=λk=>(Y k).1,lb:=λi=>(X i).2.2.1.1,ll:=λi=>(X i).2.2.1.2.1,lc:=λi=>(X i).2.2.1.2.2 },v,
   ⟨y,I,λ_=>⟨by rw[Z,ea],h5⟩,λk d=>(P k d).lt,(λi hi j q=>by rw[(V i hi).lone j q];exact ahQ (by rfl) q),(λk d j q=>by rw[(P k d).lone j q];exact amT (by rfl) q)⟩,⟨by rw[e9,e4],B,C,E⟩,⟨_,ev,λh=>absurd h (Nat.ne_of_gt L),λ_=>?_⟩,W⟩
  let D:jB:={ l,p,so:=b2',sl:=n2,sc:=c2,qo:=b3',ql:=n3,qc:=c3,pb:=c.block,po:=c.off,cp:=c4,gb:=m.block,go:=m.off,ng:=n,cg:=Q,pe:=λi=>(X i).1,pn:=λi j=>(X i).2.1 j,pl:=λi=>if i<g then(X i).2.2.2 else none,pc:=λi=>if i<g then(X i).2.2.1.2.1 else 0,pd:=λi=>if i<g then(X i).2.2.1.2.2 else 0 }
  have Ht:∀b,b∈dR g D->∃x,ρ x b:=by
   intro b hb;unfold dR at hb;simp only[el,List.mem_append,List.mem_flatMap,List.mem_range]at hb
   rcases hb with rfl|rfl|(hb|hb)|⟨i,hi,hb⟩
   .exact⟨_,ha4.1⟩
   .exact⟨_,har.1⟩
   .exact k2 b hb
   .exact k3 b hb
   .have e1:D.pl i=if i<g then(X i).2.2.2 else none:=rfl
    have J:D.pc i=if i<g then(X i).2.2.1.2.1 else 0:=rfl
    have K:D.pd i=if i<g then(X i).2.2.1.2.2 else 0:=rfl
    rw[e1,J,K]at hb;by_cases h:i<g
    .rw[if_pos h,if_pos h,if_pos h]at hb;exact(V i h).lane b hb
    .rw[if_neg h,if_neg h,if_neg h]at hb;simp[bl]at hb
  refine⟨D,λk=>(Y k).1,?_,⟨λb hb=>?_,λi hi j q=>?_,λk d j q=>?_,rfl,λk d=>(P k d).lt,⟨cv ao y.1,y.2.1⟩,y.2.2⟩,rfl,Ht⟩
  .rw[ey,e4',ea'];rfl
  .obtain⟨x,hx⟩:=Ht b hb;have hl:=(hw.lt hx).2;exact⟨hl,_,Array.getElem?_eq_getElem hl⟩
  .have t:=(V i hi).comp j q;have e:pA D i=#[fo (X i).1,fi hK ((X i).2.1 1),fi hK ((X i).2.1 2),fi hK ((X i).2.1 3),fi hK ((X i).2.1 4),fi hK ((X i).2.1 5),fi hK ((X i).2.1 6),fi hK ((X i).2.1 7),fi hK ((X i).2.1 8),fi hK ((X i).2.1 9),fi hK ((X i).2.1 10),ft (X i).2.2.2 (X i).2.2.1.2.1 (X i).2.2.1.2.2]:=by
    have e1:D.pl i=(X i).2.2.2:=if_pos hi;have J:D.pc i=(X i).2.2.1.2.1:=if_pos hi;have K:D.pd i=(X i).2.2.1.2.2:=if_pos hi;unfold pA;rw[e1,J,K]
   grind
  .have t:=(P k d).comp j q;rw[Nat.mul_comm 3 k];exact t
end
end Go.Proofs
namespace Go.Proofs
open Go.Ph Go.Conc Go.bJ
def ah0{r:Nat}(b:r<2):j0 2 0 r:=by
 match r,b with
 |0,_|1,_=>exact⟨λD f=>⟨ae,ae⟩,λD O n a gn c f Z e d=>ae,λD O n a gn c f Z=>ae,λD c f=>⟨ae,ae,ae⟩,λD O n a gn c g f Z e d=>ae⟩
def ah1{r:Nat}(b:r<2):j0 2 1 r:=by
 match r,b with
 |0,_|1,_=>exact⟨λD f=>⟨ae,ae⟩,λD O n a gn c f Z e d=>ae,λD O n a gn c f Z=>ae,λD c f=>⟨ae,ae,ae⟩,λD O n a gn c g f Z e d=>ae⟩
def alh{s r:Nat}(hs:s<2)(a:r<2):j0 2 s r:=by
 match s,hs with
 |0,_=>exact ah0 a
 |1,_=>exact ah1 a
def amV{s r:Nat}(hs:s<2)(a:r<1):mg 2 s r:=by
 match s,hs,r,a with
 |0,_,0,_|1,_,0,_=>exact⟨λD O n b gn c f Z=>ae⟩
def amW{s:Nat}(hs:s<2):xM 2 s 1:=by
 match s,hs with
 |0,_|1,_=>exact⟨λD O n a gn c b f Z=>⟨ae,ae,ae,ae,ae⟩⟩
def asm{s:Nat}(hs:s<2):FE 2 s where
 e0 D O n a d:=ae
 b0 D O n:=⟨⟨ae,ae,ae,ae,ae⟩,ae⟩
 h0 D O n:=ae
 e1 D O n a d:=ae
 c1 D O n:=⟨ae,ae,ae⟩
 e2 D O n x a d:=ae
 c2 D O n x:=⟨ae,ae⟩
 e3 D O n c gn x:=by
  match s,hs with
  |0,_|1,_=>intro a d;kernel_rfl
 r0 D O n c gn x:=by
  match s,hs with
  |0,_|1,_=>show _=_;kernel_rfl
 round r b:=alh hs b
 next r b:=amV hs ab
 last r b:=by
  obtain rfl:r=1:=ab;exact amW hs
def ah2{r:Nat}(b:r<3):j0 3 0 r:=by
 match r,b with
 |0,_|1,_|2,_=>exact⟨λD f=>⟨ae,ae⟩,λD O n a gn c f Z e d=>ae,λD O n a gn c f Z=>ae,λD c f=>⟨ae,ae,ae⟩,λD O n a gn c g f Z e d=>ae⟩
def ah3{r:Nat}(b:r<3):j0 3 1 r:=by
 match r,b with
 |0,_|1,_|2,_=>exact⟨λD f=>⟨ae,ae⟩,λD O n a gn c f Z e d=>ae,λD O n a gn c f Z=>ae,λD c f=>⟨ae,ae,ae⟩,λD O n a gn c g f Z e d=>ae⟩
def ah4{r:Nat}(b:r<3):j0 3 2 r:=by
 match r,b with
 |0,_|1,_|2,_=>exact⟨λD f=>⟨ae,ae⟩,λD O n a gn c f Z e d=>ae,λD O n a gn c f Z=>ae,λD c f=>⟨ae,ae,ae⟩,λD O n a gn c g f Z e d=>ae⟩
def alm{s r:Nat}(hs:s<3)(a:r<3):j0 3 s r:=by
 match s,hs with
 |0,_=>exact ah2 a
 |1,_=>exact ah3 a
 |2,_=>exact ah4 a
def amX{s r:Nat}(hs:s<3)(a:r<2):mg 3 s r:=by
 match s,hs,r,a with
 |0,_,0,_|0,_,1,_|1,_,0,_|1,_,1,_|2,_,0,_|2,_,1,_=>exact⟨λD O n b gn c f Z=>ae⟩
def amY{s:Nat}(hs:s<3):xM 3 s 2:=by
 match s,hs with
 |0,_|1,_|2,_=>exact⟨λD O n a gn c b f Z=>⟨ae,ae,ae,ae,ae⟩⟩
def asn{s:Nat}(hs:s<3):FE 3 s where
 e0 D O n a d:=ae
 b0 D O n:=⟨⟨ae,ae,ae,ae,ae⟩,ae⟩
 h0 D O n:=ae
 e1 D O n a d:=ae
 c1 D O n:=⟨ae,ae,ae⟩
 e2 D O n x a d:=ae
 c2 D O n x:=⟨ae,ae⟩
 e3 D O n c gn x:=by
  match s,hs with
  |0,_|1,_|2,_=>intro a d;kernel_rfl
 r0 D O n c gn x:=by
  match s,hs with
  |0,_|1,_|2,_=>show _=_;kernel_rfl
 round r b:=alm hs b
 next r b:=amX hs ab
 last r b:=by
  obtain rfl:r=2:=ab;exact amY hs
def ah5{r:Nat}(b:r<4):j0 4 0 r:=by
 match r,b with
 |0,_|1,_|2,_|3,_=>exact⟨λD f=>⟨ae,ae⟩,λD O n a gn c f Z e d=>ae,λD O n a gn c f Z=>ae,λD c f=>⟨ae,ae,ae⟩,λD O n a gn c g f Z e d=>ae⟩
def ah6{r:Nat}(b:r<4):j0 4 1 r:=by
 match r,b with
 |0,_|1,_|2,_|3,_=>exact⟨λD f=>⟨ae,ae⟩,λD O n a gn c f Z e d=>ae,λD O n a gn c f Z=>ae,λD c f=>⟨ae,ae,ae⟩,λD O n a gn c g f Z e d=>ae⟩
def ah7{r:Nat}(b:r<4):j0 4 2 r:=by
 match r,b with
 |0,_|1,_|2,_|3,_=>exact⟨λD f=>⟨ae,ae⟩,λD O n a gn c f Z e d=>ae,λD O n a gn c f Z=>ae,λD c f=>⟨ae,ae,ae⟩,λD O n a gn c g f Z e d=>ae⟩
def ah8{r:Nat}(b:r<4):j0 4 3 r:=by
 match r,b with
 |0,_|1,_|2,_|3,_=>exact⟨λD f=>⟨ae,ae⟩,λD O n a gn c f Z e d=>ae,λD O n a gn c f Z=>ae,λD c f=>⟨ae,ae,ae⟩,λD O n a gn c g f Z e d=>ae⟩
def aln{s r:Nat}(hs:s<4)(a:r<4):j0 4 s r:=by
 match s,hs with
 |0,_=>exact ah5 a
 |1,_=>exact ah6 a
 |2,_=>exact ah7 a
 |3,_=>exact ah8 a
def amZ{s r:Nat}(hs:s<4)(a:r<3):mg 4 s r:=by
 match s,hs,r,a with
 |0,_,0,_|0,_,1,_|0,_,2,_|1,_,0,_|1,_,1,_|1,_,2,_|2,_,0,_|2,_,1,_|2,_,2,_|3,_,0,_|3,_,1,_|3,_,2,_=>exact⟨λD O n b gn c f Z=>ae⟩
def an0{s:Nat}(hs:s<4):xM 4 s 3:=by
 match s,hs with
 |0,_|1,_|2,_|3,_=>exact⟨λD O n a gn c b f Z=>⟨ae,ae,ae,ae,ae⟩⟩
def aso{s:Nat}(hs:s<4):FE 4 s where
 e0 D O n a d:=ae
 b0 D O n:=⟨⟨ae,ae,ae,ae,ae⟩,ae⟩
 h0 D O n:=ae
 e1 D O n a d:=ae
 c1 D O n:=⟨ae,ae,ae⟩
 e2 D O n x a d:=ae
 c2 D O n x:=⟨ae,ae⟩
 e3 D O n c gn x:=by
  match s,hs with
  |0,_|1,_|2,_|3,_=>intro a d;kernel_rfl
 r0 D O n c gn x:=by
  match s,hs with
  |0,_|1,_|2,_|3,_=>show _=_;kernel_rfl
 round r b:=aln hs b
 next r b:=amZ hs ab
 last r b:=by
  obtain rfl:r=3:=ab;exact an0 hs
def ah9{r:Nat}(b:r<5):j0 5 0 r:=by
 match r,b with
 |0,_|1,_|2,_|3,_|4,_=>exact⟨λD f=>⟨ae,ae⟩,λD O n a gn c f Z e d=>ae,λD O n a gn c f Z=>ae,λD c f=>⟨ae,ae,ae⟩,λD O n a gn c g f Z e d=>ae⟩
def aha{r:Nat}(b:r<5):j0 5 1 r:=by
 match r,b with
 |0,_|1,_|2,_|3,_|4,_=>exact⟨λD f=>⟨ae,ae⟩,λD O n a gn c f Z e d=>ae,λD O n a gn c f Z=>ae,λD c f=>⟨ae,ae,ae⟩,λD O n a gn c g f Z e d=>ae⟩
def ahb{r:Nat}(b:r<5):j0 5 2 r:=by
 match r,b with
 |0,_|1,_|2,_|3,_|4,_=>exact⟨λD f=>⟨ae,ae⟩,λD O n a gn c f Z e d=>ae,λD O n a gn c f Z=>ae,λD c f=>⟨ae,ae,ae⟩,λD O n a gn c g f Z e d=>ae⟩
def ahc{r:Nat}(b:r<5):j0 5 3 r:=by
 match r,b with
 |0,_|1,_|2,_|3,_|4,_=>exact⟨λD f=>⟨ae,ae⟩,λD O n a gn c f Z e d=>ae,λD O n a gn c f Z=>ae,λD c f=>⟨ae,ae,ae⟩,λD O n a gn c g f Z e d=>ae⟩
def ahd{r:Nat}(b:r<5):j0 5 4 r:=by
 match r,b with
 |0,_|1,_|2,_|3,_|4,_=>exact⟨λD f=>⟨ae,ae⟩,λD O n a gn c f Z e d=>ae,λD O n a gn c f Z=>ae,λD c f=>⟨ae,ae,ae⟩,λD O n a gn c g f Z e d=>ae⟩
def alp{s r:Nat}(hs:s<5)(a:r<5):j0 5 s r:=by
 match s,hs with
 |0,_=>exact ah9 a
 |1,_=>exact aha a
 |2,_=>exact ahb a
 |3,_=>exact ahc a
 |4,_=>exact ahd a
def an1{s r:Nat}(hs:s<5)(a:r<4):mg 5 s r:=by
 match s,hs,r,a with
 |0,_,0,_|0,_,1,_|0,_,2,_|0,_,3,_|1,_,0,_|1,_,1,_|1,_,2,_|1,_,3,_|2,_,0,_|2,_,1,_|2,_,2,_|2,_,3,_|3,_,0,_|3,_,1,_|3,_,2,_|3,_,3,_|4,_,0,_|4,_,1,_|4,_,2,_|4,_,3,_=>exact⟨λD O n b gn c f Z=>ae⟩
def an2{s:Nat}(hs:s<5):xM 5 s 4:=by
 match s,hs with
 |0,_|1,_|2,_|3,_|4,_=>exact⟨λD O n a gn c b f Z=>⟨ae,ae,ae,ae,ae⟩⟩
def asp{s:Nat}(hs:s<5):FE 5 s where
 e0 D O n a d:=ae
 b0 D O n:=⟨⟨ae,ae,ae,ae,ae⟩,ae⟩
 h0 D O n:=ae
 e1 D O n a d:=ae
 c1 D O n:=⟨ae,ae,ae⟩
 e2 D O n x a d:=ae
 c2 D O n x:=⟨ae,ae⟩
 e3 D O n c gn x:=by
  match s,hs with
  |0,_|1,_|2,_|3,_|4,_=>intro a d;kernel_rfl
 r0 D O n c gn x:=by
  match s,hs with
  |0,_|1,_|2,_|3,_|4,_=>show _=_;kernel_rfl
 round r b:=alp hs b
 next r b:=an1 hs ab
 last r b:=by
  obtain rfl:r=4:=ab;exact an2 hs
end Go.Proofs
