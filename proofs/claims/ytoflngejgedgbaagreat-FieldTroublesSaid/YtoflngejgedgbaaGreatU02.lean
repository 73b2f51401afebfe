/- Part of the proof of FieldTroubles. -/
import Derived.Test.YtoflngejgedgbaaGreatU01
set_option linter.all false
set_option maxRecDepth 100000
noncomputable section
open Go renaming Tables->aa,FuncId->ac,TypeId->ai,World->aF,Func->aH,Frame->aI,Goroutine->aL,Addr->aP,Value->aT,LoopState->a7,Item->a8,Event->a9,deafBehind->bd,Oper->bi,Program->bj,events_load->bq,events_store->bv,setCell_eq_setRow->bC,setRow_heap->b8,asAddr->b9,mayWake->ce,Operand->ch,setRow_other->ci,Code->cl,GoStatus->co,GStep->cq,execOp->ct,Next->cv,Trace->c8,eqGuard->c9,run_underlying->db,TypeDesc->dc,Field->dx,TypeInfo->dL,sizeOf->dO,typeInfo->dQ,loadCellsFrom->dU,run_load->d8,loadVar->d9,zeroValue->eb
open Go.bJ renaming codeOk->ec
open Go.Ph renaming Clear->ed,nobody->eg,fin->el,AtW1->em,AtW2->ep,uu->eq,xH->eu,dY->eX
open Option renaming some->e7,none->e8
open List renaming range->fb,range_succ_eq_map->fc,replicate->fm,range'->fp
open Bool renaming false->fJ,true->fO,rec->fR
open Go.World renaming cell?->f6,alloc->f7,size_alloc->f8,setCell->f9,frozen?->gc,putObj->ge,putObj_heap_other->gf,alloc_heap_new->gg,setRow->gj
open Go.Proofs.Tryz renaming progTables->gp,funcs->gt,f84->gE,func84->g7,f61->g8,func61->g9
open Go.Frame renaming enter->he,finish->hm
open Go.ConcM renaming MuAt->hq,OsLater->hr
open Go.ConcR renaming WgAt->hG,WgAt->hH,wgBlock->hJ,wgBlock->hK,mk->hM,stA->hN
open Go.Program renaming underlying->hO,mk->hT
open Go.Conc renaming QuitsD->hV,aside_setCell->hY,casT_eq->h6,run_cas_hit_entry->h7,events_cas_hit_entry->h8,sync_rw->ih,run_cas_miss_entry->ii,events_cas_miss_entry->io,run_add_entry->ip,events_add_entry->ix,semEvents->iC,semEvents_sync->iP,Past->i0,mem_of_getElem?->i1,Leavers->i2
open Go.Extern.Race renaming marked->i4
open Go.Extern.Sync renaming semrelease->i5,semacquire->i6,count->i7,none_->i9
open Go.Extern.Atomic renaming update->jk,loadT->jn,storeT->jp,casT->jt,read->jw,none_->jz
open Go.Op renaming intArith->jM,stringOp->jQ,intCmp->j1,equalIn->j2,load->j4,store->j5,alloc->j6,binOp->ka,field->kc,indexAddr->kd,build->ke,move->kg
open Go.IntKind renaming wrap->kp,i32->kq,u32->ks,u64->kt,i64->kw
open Go.Result renaming andThen->kx,evThen->kG,ok->kS,halt->kY
open Go.MemAct renaming ofEvent->k7,mark->k8,touch?->k9
open Array renaming setIfInBounds->la,getElem?_push_size->ld,ext'->li
open Go.Value renaming int->lm,agg->lp,cells->lq,string->lA,pointer->lR,slice->l1,func->l2,tuple->l3,bool->l5
open Go.Instr renaming box->mc,field->mm,build->mF,fill->mG
open Go.GStep renaming after->mS,go->m7
open ByteArray renaming empty->m8
open Go.Builtin renaming len_->m9
open Function renaming comp_def->na
open Go.ConcN renaming upd_same->nb,upd_ne->ni
open Go.Obj renaming loop->nk,cells->nl,deferred->nq
open Or renaming inl->nt,inr->nV
open Go.Loc renaming cell->ob
open Go.CallKind renaming normal->oh,deferred->ol
open Go.FrameMode renaming run->ov,returning->ow
open Go.LoopState renaming ready->o1,busy->o6,exhausted->pg
open Go.Operand renaming tmp->ph,const->pi
open Go.TypeDesc renaming slice->pk,struct->pm,array->pp
open Go.BinOp renaming add->pu,xor->pz,eql->p0,leq->p1,lss->p6
open Go.Mode renaming atomic->p8
open Go.GoStatus renaming running->p9
open Go.Item renaming code->qi,inLoop->qq,inBlock->qr
open Go.Code renaming skip->qt,region->qu,seq->qv,cond->qx,exit->qA,loop->qF
open Go.Next renaming value->qG
namespace Go.Ph
open Go.Conc Go.ConcN Go.bJ
structure LW(T:aa)(F:ac->Bool)(Z:ai->Bool)(X:Fix)(V:Vw)(Bs:Nat)(ρ:Ren)(M:Own)(wL w:aF):Prop where
 inj:ρ.bw T.globals.size
 wr:WC Bs T.globals.size F (ec T F Z) ρ wL w
 own:StO V M Bs ρ
 clear:ed X V M
 sG:∀b,V.st b->b<w.heap.size/\¬M b
section
variable {T:aa}{fB fA:Array aH}{F:ac->Bool}{Z:ai->Bool}{X:Fix}{V:Vw}{Bs:Nat}{bot:aI}{up:List aI}{ρ ρ':Ren}{M M':Own}{g g':aL}{wL w w':aF}
def iG.lw(h:iG T fB fA F Z bot up X V Bs ρ M g wL g' w):LW T F Z X V Bs ρ M wL w:=⟨h.inj,h.wr,h.own,h.clear,h.sG⟩
def LW.like(h:LW T F Z X V Bs ρ M wL w)(k:GC T fB fA F Z bot up ρ g g'):iG T fB fA F Z bot up X V Bs ρ M g wL g' w:=⟨h.inj,h.wr,k,h.own,h.clear,h.sG⟩
def LW.loop(h:LW T F Z X V Bs ρ M wL w)(u:T.globals.size=0)(v:∀b,¬ρ 0 b)(z:0<Bs){lL l':Loop}{lb:Nat}(r:wL.heap[0]?=e7 (nk lL))(hl:w'.heap[lb]?=e7 (nk l'))(A:w.heap.size<=lb)(j:∀b,M b->M' b)(d:M' lb)
 (hc:ed X V M') (hd:∀b,V.st b->¬M' b) (hs:w.heap.size<=w'.heap.size) (hb:∀b,b<w.heap.size->w'.heap[b]?=w.heap[b]?):LW T F Z X V Bs (λa b=>ρ a b\/(a=0/\b=lb)) M' wL w':=by
 have e:∀{a b},ρ a b->b<w.heap.size:=λt=>(h.wr.lt t).2;refine⟨⟨λ{a b b'}x y=>?_,λ{a B b}x y=>?_,λ{a b}_=>ab⟩,⟨h.wr.pK,da h.wr.gN hs,h.wr.base,λ{a b}c f=>?_,λ{a b}c f=>?_⟩,⟨λa b c i=>?_,λa b c i=>?_⟩,hc,λb k=>⟨bT (h.sG b k).1 hs,hd b k⟩⟩
 .rcases x with x|⟨x1,x2⟩<;>rcases y with y|⟨y1,y2⟩
  .exact h.inj.fn x y
  .grind
  .grind
  .rw[x2,y2]
 .rcases x with x|⟨x1,x2⟩<;>rcases y with y|⟨y1,y2⟩
  .exact h.inj.inj x y
  .have:=e x;omega
  .have:=e y;omega
  .rw[x1,y1]
 .rcases c with c|⟨rfl,_⟩
  .obtain⟨o,l,m,p,q⟩:=h.wr.obj c f;exact⟨o,l,m,by rw[hb b (e c)];exact p,q.mono λ_ _ x=>nt x⟩
  .omega
 .rcases c with c|⟨rfl,rfl⟩
  .obtain⟨o,l,m,p,q⟩:=h.wr.low c f;grind
  .exact⟨_,_,r,hl,.loop _ _⟩
 .rcases c with c|⟨_,rfl⟩
  .exact(h.own.st a b c i).imp id (j b)
  .exact nV d
 .rcases c with c|⟨rfl,_⟩
  .exact j b (h.own.own a b c i)
  .omega
end
end Go.Ph
namespace Go.Proofs
open Go.Ph Go.Conc Go.ConcN Go.bJ
variable {L q:Nat}{C:Ren}{J:a7}
def bl(o:Option aP)(l c:Nat):List Nat:=if l=0/\c=0 then[] else o.toList.map (·.block)
def dR(a:Nat)(D:jB):List Nat:=D.pb::D.gb::(bl D.so D.sl D.sc++bl D.qo D.ql D.qc++(fb 5).flatMap λi=>bl (D.pl i) (D.pc i) (D.pd i))
def Jz(np:Nat)(D:jB)(b:Nat):Nat:=1+(dR np D).idxOf b
def Uy(np:Nat)(D:jB)(a:aP):aP:=⟨Jz np D a.block,a.off,a.spot⟩
def lsl(np:Nat)(D:jB)(o:Option aP)(l c:Nat):Option aP:=if l=0/\c=0 then o.map λa=>⟨0,N1 a,e8⟩ else o.map (Uy np D)
def aW(np:Nat)(D:jB):jB:={ D with so:=lsl np D D.so D.sl D.sc,qo:=lsl np D D.qo D.ql D.qc,pb:=Jz np D D.pb,gb:=Jz np D D.gb,pl:=λi=>lsl np D (D.pl i) (D.pc i) (D.pd i) }
def sI(np:Nat)(D:jB):Ren:=λa b=>b∈dR np D/\a=Jz np D b
def hU(np:Nat)(D:jB)(w0:aF):Nat->Obj
 |0=>nk default
 |a+1=>match(dR np D)[a]? with
  |some b=>match w0.heap[b]? with
   |some (nl c t d)=>nl c t d
   |_=>nk default
  |none=>nk default
structure zl(X:Fix)(V:Vw)(D:jB)(np s n:Nat)(dl:Int)(gn:ByteArray)(bc bg bt:Nat)(w0:aF):Prop where
 hP:X.P=PP
 hg:(V.g==0)=fJ
 ids:WO X
 apart:∀b,V.st b->jm X b
 shun:∀b,V.st b->∀a':aP,a'.block=b->¬X.Shun (ob a')
 n3:X.n<=3
 sz:X.size=75
 low:∀b,V.st b->b<w0.heap.size
 bc:V.st bc/\w0.heap[bc]?=e7 (nl (cA np D) 78)
 bg:V.st bg/\f6 w0 ⟨bg,0,e8⟩=e7 (lm kw (n:Int))
 bt:V.st bt/\f6 w0 ⟨bt,0,e8⟩=e7 (lR (e7 ⟨X.Tb,0,e8⟩))
 blk:∀b,b∈dR np D->V.st b/\∃o,w0.heap[b]?=e7 o
 G8:∀i,i<np->∀j,j<12->f6 w0 ⟨D.pb,D.po+12*i+j,e8⟩=(pA D i)[j]?
 PM:∀j,j<3->f6 w0 ⟨D.gb,D.go+3*n+j,e8⟩=(gA s dl gn)[j]?
 hn:n<3
 Zb:n<D.ng
 hs:s<np
 MC:np<=5
 row:∀j,n*25<=j->j<n*25+25->V.row j
structure Kn(X:Fix)(V:Vw)(w0 w:aF):Prop where
 live:Live X w
 st:∀b,V.st b->w.heap[b]?=w0.heap[b]?
 size:w0.heap.size<=w.heap.size
section
variable {X:Fix}{V:Vw}{D:jB}{np s n:Nat}{dl:Int}{gn:ByteArray}{bc bg bt:Nat}{w0 w w':aF}{M:Own}{ρ:Ren}
def Kn.rl(h:Kn X V w0 w)(r:Rl X V M w w'):Kn X V w0 w':=⟨r.live h.live,λb hb=>(r.st b hb).t (h.st b hb),da h.size r.size⟩
def Kn.stay(h:Kn X V w0 w)(r:qw X V (10) ρ M w w')(l:Live X w'):Kn X V w0 w':=⟨l,λb hb=>(r.st b hb).t (h.st b hb),da h.size r.size⟩
def Kn.cell(h:Kn X V w0 w){b o:Nat}(hb:V.st b):f6 w ⟨b,o,e8⟩=f6 w0 ⟨b,o,e8⟩:=by simp only[f6,h.st b hb]
def zl.clear(k:zl X V D np s n dl gn bc bg bt w0)(a:∀b,M b->jm X b):ed X V M:=⟨k.ids,k.apart,a⟩
def ahh(o:Option aP)(l c:Nat):(bl o l c).length<=1:=by
 unfold bl;grind
def BW(h:q∈dR np D):1<=Jz np D q/\Jz np D q<10:=by
 have c:=List.idxOf_lt_length_of_mem h;have d:(dR np D).length<=9:=by
  have f:=ahh D.so D.sl D.sc;have j:=ahh D.qo D.ql D.qc;have a:∀i,(bl (D.pl i) (D.pc i) (D.pd i)).length<=1:=λi=>ahh _ _ _;have a0:=a 0;have a1:=a 1;have a2:=a 2;have a3:=a 3;have a4:=a 4;have e:(fb 5).flatMap (λi=>bl (D.pl i) (D.pc i) (D.pd i))=bl (D.pl 0) (D.pc 0) (D.pd 0)++(bl (D.pl 1) (D.pc 1) (D.pd 1)++(bl (D.pl 2) (D.pc 2) (D.pd 2)++(bl (D.pl 3) (D.pc 3) (D.pd 3)++(bl (D.pl 4) (D.pc 4) (D.pd 4)++[])))):=rfl;unfold dR;grind
 unfold Jz;omega
def BX(h:q∈dR np D):(dR np D)[(dR np D).idxOf q]?=e7 q:=by
 grind
def PN:(sI np D).bw 0:=by
 refine⟨λ{a b b'}x y=>?_,λ{a c b}x y=>x.2.t y.2.y,λ{a b}_=>ab⟩;have e:(dR np D).idxOf b=(dR np D).idxOf b':=by
  have:=x.2.y.t y.2;unfold Jz at this;omega
 have d:=BX x.1;grind
def pW(h:q∈dR np D):sI np D (Jz np D q) q:=⟨h,rfl⟩
def pX:Tryz.progTables.globals.size=0:=ae
def zl.lw0(k:zl X V D np s n dl gn bc bg bt w0)(h:Kn X V w0 w):LW gp F3 ZZ X V (10) (sI np D) eg (wL0 np (hU np D w0)) w:=by
 have m:(wL0 np (hU np D w0)).heap.size=10:=by simp[wL0]
 refine⟨by rw[pX];exact PN,⟨by rw[pX];omega,by rw[pX];omega,by rw[m];omega,λ{a b}d hb=>?_,λ{a b}d hb=>?_⟩,⟨λa b d _=>nt (k.blk b d.1).1,λa b d hb=>?_⟩,k.clear λb hb=>hb.elim,λb hb=>⟨bT (k.low b hb) h.size,λx=>x⟩⟩
 .have:=(BW d.1).2;have:=d.2;omega
 .obtain⟨i,o,hc⟩:=k.blk b d.1;have p:=BW d.1;rw[<-d.2]at p;have e:a=(dR np D).idxOf b+1:=by rw[d.2];unfold Jz;omega
  have r:(wL0 np (hU np D w0)).heap=((fb 10).map (hU np D w0)).toArray:=rfl;have j:(wL0 np (hU np D w0)).heap[a]?=e7 (hU np D w0 a):=by
   grind
  by_cases l:∃c t f,o=nl c t f
  .obtain⟨c,t,f,rfl⟩:=l;refine⟨nl c t f,nl c t f,?_,by rw[h.st b i];exact hc,.cells t f rfl⟩;rw[j,e];simp only[hU,BX d.1,hc]
  .have q:∀c t f,o≠nl c t f:=λc t f e=>l ⟨c,t,f,e⟩;refine⟨nk default,o,?_,by rw[h.st b i];exact hc,.afN _ _ q⟩;rw[j,e];simp only[hU,BX d.1,hc];grind
 .have:=(BW d.1).2;have:=d.2;omega
def BZ{o:Option aP}(h:∀b,b∈bl o q L->b∈dR np D):VR F3 (sI np D) (l1 (lsl np D o q L) q L) (l1 o q L):=by
 unfold lsl;unfold bl at h;split
 .rename_i d;obtain⟨rfl,rfl⟩:=d
  cases o with
  |none=>exact .di _ _
  |some a=>exact .dK _ _
 .rename_i d;rw[if_neg d]at h
  cases o with
  |none=>exact .di _ _
  |some a=>exact .slice _ _ ⟨pW (h _ ar),rfl,rfl⟩
def Zc(h:q∈bl D.so D.sl D.sc):q∈dR np D:=by simp[dR,h]
def Zd(h:q∈bl D.qo D.ql D.qc):q∈dR np D:=by simp[dR,h]
def mem_pl(hi:L<5)(h:q∈bl (D.pl L) (D.pc L) (D.pd L)):q∈dR np D:=by
 unfold dR;grind
def MD:VA F3 (sI np D) (cA np (aW np D)) (cA np D):=
 .cons (.int _ _) (.cons (.int _ _) (.cons (BZ λ_ h=>Zc h) (.cons (BZ λ_ h=>Zd h) (.cons (.slice _ _ ⟨pW (by simp[dR]),rfl,rfl⟩) (.cons (.slice _ _ ⟨pW (by simp[dR]),rfl,rfl⟩) .nil)))))
def Ze(hi:q<5):VA F3 (sI np D) (pA (aW np D) q) (pA D q):=
 .cons (.string _) (.cons (.int _ _) (.cons (.int _ _) (.cons (.int _ _) (.cons (.int _ _) (.cons (.int _ _) (.cons (.int _ _) (.cons (.int _ _) (.cons (.int _ _) (.cons (.int _ _) (.cons (.int _ _) (.cons (BZ λ_ h=>mem_pl hi h) .nil)))))))))))
def Zf{ρ:Ren}:VA F3 ρ (gA s dl gn) (gA s dl gn):=.cons (.string _) (.cons (.int _ _) (.cons (.int _ _) .nil))
end
def W6:PP=⟨gp,gt⟩:=rfl
abbrev LWs(X:Fix)(V:Vw)(np:Nat)(ρ:Ren)(M:Own)(wL w:aF):Prop:=LW gp F3 ZZ X V (10) ρ M wL w
abbrev LK(up:List aI)(X:Fix)(V:Vw)(np:Nat)(ρ:Ren)(M:Own)(g:aL)(wL:aF)(g':aL)(w:aF):Prop:=iG gp gt gt F3 ZZ default up X V (10) ρ M g wL g' w
def Xa:∀f,F3 f=fO->f<cn:=λf hf=>by
 simp only[F3,gD,beq_iff_eq]at hf
 rcases hf with(rfl|rfl)|rfl<;>decide
def Ar{ρ:Ren}{f:ac}(hf:F3 f=fO){a a':Array aT}(h:VA F3 ρ a a'):aQ gp F3 ZZ gt gt ρ (he PP f a oh) (he PP f a' oh):=by
 have e:=fe (T:=gp) (fB:=gt) (fA:=gt) (Z:=ZZ) (adR.same f hf) hf h;rw[<-W6]at e;exact e
def Zg:∃fn,PP.funcs[58]?=e7 fn/\fn.results=#[.tmp 4]:=⟨Tryz.f58,Tryz.func58,rfl⟩
def Zh:∃fn,PP.funcs[84]?=e7 fn/\fn.results=#[]:=⟨gE,g7,rfl⟩
section
variable {X:Fix}{V:Vw}{D:jB}{np s n:Nat}{dl:Int}{gn:ByteArray}{bc bg bt:Nat}{w0 w w':aF}{M:Own}{ρ:Ren}{Stop:Stp}{d:Nat}{up:List aI}{g g':aL}{wL:aF}{c:aI}{cs:List aI}
def JA(k:zl X V D np s n dl gn bc bg bt w0){m:Nat}{q:aL×aF}(r:q=Jp PP oU m g wL)(hg:Good np m g wL)(h:LK up X V np ρ M g wL g' w)(o:Kn X V w0 w)
 (K:∀i j l w2,LK up X V np i j q.1 q.2 l w2->Kn X V w0 w2->(∀b,M b->j b)->(∀a b,ρ a b->i a b)->(∀a b,i a b->ρ a b\/(10<=a/\w.heap.size<=b))->qw X V (10) ρ M w w2->ay X V fJ Stop j d l w2):ay X V fJ Stop M d g' w:=by
 obtain⟨m',p⟩:=Pn default m hg;rw[<-r]at p;exact ay.lone adR (k.hP.t W6) m' p h o.live λi j l w2 a b c d e f=>K i j l w2 a (o.stay f b) c d e f
def adU(h:∀a b,C a b->sI np D a b\/(10<=a/\w.heap.size<=b)):∀b,¬C 0 b:=λb x=>by
 rcases h 0 b x with y|y
 .have:=(BW y.1).1;have:=y.2;omega
 .omega
def adV:GC gp gt gt F3 ZZ default up (sI np D) (gL0 np (aW np D) n) (G (he PP 58 #[lp (cA np D),lm kw (n:Int)] oh) up):=by
 have e:=Ar (ρ:=sI np D) (f:=58) ao (a:=#[lp (cA np (aW np D)),lm kw (n:Int)]) (a':=#[lp (cA np D),lm kw (n:Int)]) (.cons (.agg MD) (.cons (.int _ _) .nil));exact⟨e,⟨[],[],rfl,rfl,.nil,λx b=>(by cases b;rfl)⟩,rfl,rfl,rfl,rfl,rfl,rfl⟩
def Zi(k:zl X V D np s n dl gn bc bg bt w0)(j:FE np s)(l:Kn X V w0 w)
 (K:∀ρ M b0 e w2,LWs X V np ρ M (A0 np (aW np D) (hU np D w0) n).2 w2->Kn X V w0 w2->ρ (10) b0->ρ (11) e->(∀a b,sI np D a b->ρ a b)->(∀b,¬ρ 0 b)->qw X V (10) (sI np D) eg w w2->
   ay X V fJ Stop M 0 (G (hm c (l2 (.func 84) #[] #[pt b0,pt e])) cs) w2) :
 ay X V fJ Stop eg 0 (G (he PP 58 #[lp (cA np D),lm kw (n:Int)] oh) (c::cs)) w:=by
 refine JA k (q:=A0 np (aW np D) (hU np D w0) n) (by delta A0;rfl) (j.e0 (aW np D) (hU np D w0) n) ((k.lw0 l).like adV) l λm o F w2 f p _ h i r=>?_;obtain⟨hb,t⟩:=j.b0 (aW np D) (hU np D w0) n;obtain⟨u,rfl,e1,v,x,y,e5⟩:=f.back hb.mode hb.defers hb.callers;have hv:=VA.getD e5 4 (.undef);rw[t]at hv;obtain⟨b0,e,z,A,B⟩:=Ux f.inj Xa ao hv;obtain⟨fn,C,E⟩:=Zg;refine .leave1 f.clear v x y (by rw[k.hP,e1,hb.fn];exact C) E ?_;rw[B];exact K m o b0 e w2 f.lw p z A h (adU i) r
end
def c3(W bc bg bm bt:Nat)(c:aT)(n:Int)(a:aT)(lb:Nat):aI:=⟨87,qJ W bc bg bm bt c n a undef undef (λ_=>undef),.inRangeFunc lb::kk,Pz W (lb-1),ov,ol,e8⟩
def ajh(W bc bg bm bt:Nat)(c:aT)(n:Int)(a:aT)(lb:Nat)(st:a7):Loop:={ state:=st,pending:=e8,fn:=87,tmps:=qJ W bc bg bm bt c n a undef undef (λ_=>undef),params:=#[9],assign:=vl,body:=lZ,defers:=lb-1 }
def Uz:∃fd,PP.funcs[84]?=e7 fd/\fd.body.isSome=fO/\fd.name≠ "runtime.NumGoroutine":=⟨gE,g7,rfl,by decide +kernel⟩
abbrev vO(b0 b1:Nat):aT:=l2 (.func 84) #[] #[pt b0,pt b1]
abbrev sJ(np:Nat)(D:jB):aT:=lp (cA np D)
abbrev xN(X:Fix)(np:Nat)(D:jB)(n bc bg bt b0 b1 lb:Nat):aI:=c3 X.Wg bc bg X.Mu bt (sJ np D) (n:Int) (vO b0 b1) lb
abbrev Ti(X:Fix)(np:Nat)(D:jB)(n bc bg bt b0 b1 lb:Nat)(st:a7):Loop:=ajh X.Wg bc bg X.Mu bt (sJ np D) (n:Int) (vO b0 b1) lb st
section
variable {X:Fix}{V:Vw}{D:jB}{np s n:Nat}{dl:Int}{gn:ByteArray}{bc bg bt:Nat}{w0 w w':aF}{M:Own}{ρ:Ren}{Stop:Stp}{d:Nat}{up:List aI}{g g':aL}{wL:aF}{c:aI}{cs:List aI}{bm b0 b1:Nat}
structure Gd(X:Fix)(np:Nat)(D:jB)(n bc bg bt b0 b1:Nat)(ρ:Ren)(M:Own)(lb:Nat)(st:a7)(w:aF):Prop where
 r0:ρ 0 lb
 ml:M lb
 md:M (lb-1)
 pos:1<=lb
 un:∀a,¬ρ a (lb-1)
 hl:w.heap[lb]?=e7 (nk (Ti X np D n bc bg bt b0 b1 lb st))
 hd:w.heap[lb-1]?=e7 (nq (e7 []))
def Gd.rl(h:Gd X np D n bc bg bt b0 b1 ρ M q J w)(r:Rl X V M w w'):Gd X np D n bc bg bt b0 b1 ρ M q J w':=
 { h with hl:=(r.own _ h.ml).t h.hl,hd:=(r.own _ h.md).t h.hd }
def bn{w:aF}{o:Obj}(h:w.heap[q]?=e7 o):q<w.heap.size:=(bR.1 h).1
def Gd.stay{j:Own}(h:Gd X np D n bc bg bt b0 b1 ρ M q J w)(r:qw X V (10) ρ M w w')(k:∀b,M b->j b)(f:∀a b,ρ a b->C a b)(i:∀a b,C a b->ρ a b\/(10<=a/\w.heap.size<=b)):Gd X np D n bc bg bt b0 b1 C j q J w':=
 ⟨f _ _ h.r0,k _ h.ml,k _ h.md,h.pos,λa x=>by
   rcases i a _ x with y|y
   .exact h.un a y
   .have:=bn h.hd;omega,(r.low _ _ h.r0 ab).t h.hl,(r.own _ h.md (bn h.hd) h.un).t h.hd⟩
def Zj(k:zl X V D np s n dl gn bc bg bt w0)(L:Kn X V w0 w)(m:LWs X V np ρ M (A0 np (aW np D) (hU np D w0) n).2 w)(Q:FE np s)(R:ρ (10) b0)(S:ρ (11) b1)(T:∀b,¬ρ 0 b)(z:∀a b,sI np D a b->ρ a b)
 (K:∀p M' lb w',LK [xN X np D n bc bg bt b0 b1 lb,ez PP] X V np p M' (gL1 np) (A0 np (aW np D) (hU np D w0) n).2 (G (he PP 84 #[l2 (.yield lb) #[] #[],pt b0,pt b1] oh) [xN X np D n bc bg bt b0 b1 lb,ez PP]) w'->Kn X V w0 w'->Gd X np D n bc bg bt b0 b1 p M' lb o1 w'->(∀a b,sI np D a b->p a b)->
   (∀o,V.row o->f6 w' ⟨X.Tb,o,e8⟩=f6 w ⟨X.Tb,o,e8⟩)->ay X V fJ Stop M' 0 (G (he PP 84 #[l2 (.yield lb) #[] #[],pt b0,pt b1] oh) [xN X np D n bc bg bt b0 b1 lb,ez PP]) w') :
 ay X V fJ Stop M 0 (G (hm ((k2 X.Wg bc bg X.Mu bt (sJ np D) (n:Int)).callers.headD default) (vO b0 b1)) [ez PP]) w:=by
 refine(k_3 X.Wg bc bg X.Mu bt (sJ np D) (n:Int) (vO b0 b1)).run k.hP k.hg ?_;rw[aiZ];obtain⟨fd,hF,hb,U⟩:=Uz;refine .own m.clear rfl L.live λi r=>?_;have zz:=L.rl r;have st:=GZ (P:=PP) (mn:=V.g==0) (w:=i) (fn:=87) (tmps:=qJ X.Wg bc bg X.Mu bt (sJ np D) (n:Int) (vO b0 b1) undef undef (λ_=>undef)) (f:=ph 8) (ps:=#[9]) (assign:=vl) (body:=lZ) (k:=kk) (defers:=rG X.Wg) (kind:=ol) (cs:=[ez PP]) (F:=84) (caps:=#[pt b0,pt b1]) (fd:=fd) rfl (Ju (n:=20) (j:=8) ab) hF hb U;rw[k.hP];have W:M.more i (f7 (f7 i (nq (e7 []))) (uw 87 (qJ X.Wg bc bg X.Mu bt (sJ np D) (n:Int) (vO b0 b1) undef undef (λ_=>undef)) #[9] vl lZ i.heap.size))=λb=>M b\/b=i.heap.size\/b=i.heap.size+1:=by
  funext x;unfold Own.more;grind[f8]
 have l:∀b,b<i.heap.size->(f7 (f7 i (nq (e7 []))) (uw 87 (qJ X.Wg bc bg X.Mu bt (sJ np D) (n:Int) (vO b0 b1) undef undef (λ_=>undef)) #[9] vl lZ i.heap.size)).heap[b]?=i.heap[b]?:=λb hb=>by
  show((i.heap.push _).push _)[b]?=_;grind
 have A:(f7 (f7 i (nq (e7 []))) (uw 87 (qJ X.Wg bc bg X.Mu bt (sJ np D) (n:Int) (vO b0 b1) undef undef (λ_=>undef)) #[9] vl lZ i.heap.size)).heap[i.heap.size]?=e7 (nq (e7 [])):=by
  show((i.heap.push _).push _)[i.heap.size]?=_;grind
 have t:(f7 (f7 i (nq (e7 []))) (uw 87 (qJ X.Wg bc bg X.Mu bt (sJ np D) (n:Int) (vO b0 b1) undef undef (λ_=>undef)) #[9] vl lZ i.heap.size)).heap[i.heap.size+1]?=e7 (nk (Ti X np D n bc bg bt b0 b1 (i.heap.size+1) o1)):=by
  have e:∀o q:Obj,((i.heap.push o).push q)[i.heap.size+1]?=e7 q:=λo q=>by
   grind
  exact e _ _
 obtain⟨⟨_,_,v1⟩,⟨_,_,B⟩,Y,N,Z⟩:=zz.live;have lM:=bn v1;have lW:=bn B;have O:=bn N;have sB:ed X V (λb=>M b\/b=i.heap.size\/b=i.heap.size+1):=k.clear λb hb=>by
  rcases hb with hb|hb|hb
  .exact m.clear.own b hb
  .exact⟨ab,ab,ab⟩
  .exact⟨ab,ab,ab⟩
 refine⟨_,_,#[],st,rfl,rfl,.refl _,aS,λb hb _=>l b hb,ar,rfl,?_⟩;rw[W];have y:LWs X V np ρ M (A0 np (aW np D) (hU np D w0) n).2 i:=by
  refine⟨m.inj,⟨m.wr.pK,da m.wr.gN r.size,m.wr.base,λ{a b}u v=>?_,λ{a b}u v=>?_⟩,m.own,m.clear,λb hb=>⟨bT (m.sG b hb).1 r.size,(m.sG b hb).2⟩⟩
  .obtain⟨o,q,C,E,H⟩:=m.wr.obj u v;exact⟨o,q,C,by rw[r.own b (m.own.own a b u v)];exact E,H⟩
  .obtain⟨o,q,C,E,H⟩:=m.wr.low u v;exact⟨o,q,C,by rw[(m.own.st a b u v).elim (r.st b) (r.own b)];exact E,H⟩
 have I:=y.loop pX T ab (lL:=default) (Q.h0 (aW np D) (hU np D w0) n) t ab (M':=λb=>M b\/b=i.heap.size\/b=i.heap.size+1) (λ_ h=>nt h) (nV (nV rfl)) sB (λb hb h=>by
  have:=(y.sG b hb)
  grind) aS l
 have lt0:∀a b,ρ a b->b<i.heap.size:=λa b h=>(y.wr.lt h).2;have J:GC gp gt gt F3 ZZ default [xN X np D n bc bg bt b0 b1 (i.heap.size+1),ez PP] (λa b=>ρ a b\/(a=0/\b=i.heap.size+1)) (gL1 np) (G (he PP 84 #[l2 (.yield (i.heap.size+1)) #[] #[],pt b0,pt b1] oh) [xN X np D n bc bg bt b0 b1 (i.heap.size+1),ez PP]):=by
  have e:=Ar (ρ:=λa b=>ρ a b\/(a=0/\b=i.heap.size+1)) (f:=84) ao (a:=#[l2 (.func (cn+0)) #[] #[],lR (e7 ⟨10,0,e8⟩),lR (e7 ⟨11,0,e8⟩)]) (a':=#[l2 (.yield (i.heap.size+1)) #[] #[],pt b0,pt b1])
   (.cons (.func (.spec (nV ⟨rfl,rfl⟩)) .nil .nil) (.cons (.ptr ⟨nt R,rfl,rfl⟩) (.cons (.ptr ⟨nt S,rfl,rfl⟩) .nil)))
  exact⟨e,⟨[],[],rfl,rfl,.nil,λx hx=>(by cases hx;rfl)⟩,rfl,rfl,rfl,rfl,rfl,rfl⟩
 refine K _ _ (i.heap.size+1) _ (I.like J) ⟨?_,λb hb=>?_,?_⟩ ⟨nV ⟨rfl,rfl⟩,nV (nV rfl),nV (nt rfl),ab,λa x=>?_,t,A⟩ (λa b h=>nt (z a b h)) (λo ho=>?_)
 .exact⟨⟨_,_,by unfold hq at v1 ⊢;rw[l _ lM];exact v1⟩,⟨_,_,by unfold hG at B ⊢;rw[l _ lW];exact B⟩,Y,by rw[l _ O];exact N,Z⟩
 .rw[l b (y.sG b hb).1];exact zz.st b hb
 .simp only[f8];have:=zz.size;omega
 .grind
 .have e:∀{w2:aF},w2.heap[X.Tb]?=i.heap[X.Tb]?->f6 w2 ⟨X.Tb,o,e8⟩=f6 i ⟨X.Tb,o,e8⟩:=λh=>by simp only[f6,h]
  rw[e (l _ O)];exact r.row o ho
end
def jC{g:aL}{op:Op}(h:(bF g).map (·.op)=e7 op):∃o,bF g=e7 o/\o.op=op:=by
 simp_all
def adX:hO PP 25=e7 (pk 51):=ae
def adY:(PP.info? 51).map (·.size)=e7 3:=ae
def ajk:hO PP 51=e7 (pm (fieldsOf 51)):=ae
def ajl:(PP.info? 49).map (·.size)=e7 12:=ae
def ajm:hO PP 49=e7 (pm (fieldsOf 49)):=ae
def pY{w:aF}{a:aP}{v:aT}(h:f6 w a=e7 v):a.block<w.heap.size:=by
 unfold f6 at h;grind
section
variable {X:Fix}{V:Vw}{D:jB}{np s n:Nat}{dl:Int}{gn:ByteArray}{bc bg bt:Nat}{w0 w w':aF}{M:Own}{ρ:Ren}{Stop:Stp}{d:Nat}{g g':aL}{wL:aF}{b0 b1 lb:Nat}{st:a7}
structure Iv(X:Fix)(V:Vw)(np:Nat)(D:jB)(n bc bg bt b0 b1:Nat)(w0:aF)(ρ:Ren)(M:Own)(lb:Nat)(st:a7)(gL:aL)(wL:aF)(g':aL)(w:aF):Prop where
 lk:LK [xN X np D n bc bg bt b0 b1 lb,ez PP] X V np ρ M gL wL g' w
 kn:Kn X V w0 w
 gd:Gd X np D n bc bg bt b0 b1 ρ M lb st w
 le:∀a b,sI np D a b->ρ a b
def sK(X:Fix)(V:Vw)(w w':aF):Prop:=∀o,V.row o->f6 w' ⟨X.Tb,o,e8⟩=f6 w ⟨X.Tb,o,e8⟩
def Iv.rl{a:aL}(h:Iv X V np D n bc bg bt b0 b1 w0 ρ M lb st a wL g' w)(r:Rl X V M w w'):Iv X V np D n bc bg bt b0 b1 w0 ρ M lb st a wL g' w':=⟨h.lk.rely r,h.kn.rl r,h.gd.rl r,h.le⟩
def Iv.fin{a:aL}{v v':aT}(h:Iv X V np D n bc bg bt b0 b1 w0 ρ M lb st a wL g' w)(hv:VR F3 ρ v v'):Iv X V np D n bc bg bt b0 b1 w0 ρ M lb st (fin a v) wL (fin g' v') w:=⟨h.lk.fin hv,h.kn,h.gd,h.le⟩
def Iv.seg{l:aL}{m:Nat}{q:aL×aF}(k:zl X V D np s n dl gn bc bg bt w0)(h:Iv X V np D n bc bg bt b0 b1 w0 ρ M lb st l wL g' w)(t:q=Jp PP oU m l wL)(hg:Good np m l wL)
 (K:∀o i j w2,Iv X V np D n bc bg bt b0 b1 w0 o i lb st q.1 q.2 j w2->sK X V w w2->ay X V fJ Stop i d j w2):ay X V fJ Stop M d g' w:=
 JA k t hg h.lk h.kn λo i j w2 a b c e f r=>K o i j w2 ⟨a,b,h.gd.stay r c e f,λx y p=>e x y (h.le x y p)⟩ r.row
def JB(k:zl X V D np s n dl gn bc bg bt w0)(hb:V.st q):(V.st q/\∀a':aP,a'.block=q->¬X.Shun (ob a'))\/M q:=nt ⟨hb,k.shun q hb⟩
def Zk(k:zl X V D np s n dl gn bc bg bt w0)(l:FE np s)(h:Iv X V np D n bc bg bt b0 b1 w0 ρ M lb st (gL1 np) (A0 np (aW np D) (hU np D w0) n).2 g' w)
 (K:∀x y f Z C w2,Iv X V np D n bc bg bt b0 b1 w0 x y lb st (gR np s (aW np D) 0 f) (wR np s (aW np D) (hU np D w0) n dl gn 0 (dl,dl) Z) C w2->sK X V w w2->ay X V fJ Stop y 0 C w2):ay X V fJ Stop M 0 g' w:=by
 refine h.seg k (q:=A1 np (aW np D) (hU np D w0) n) (by delta A1;rfl) (l.e1 _ _ _) λF U H w1 c I=>?_;obtain⟨e,z,hi⟩:=l.c1 (aW np D) (hU np D w0) n;obtain⟨o,i,e⟩:=jC e;obtain⟨A,m⟩:=c.lk.g.op i;have a:F (Jz np D D.gb) D.gb:=c.le _ _ (pW (by simp[dR]));have e1:=m 12;rw[z]at e1;have e1:=xL c.lk.inj e1 a (show 0<D.ng from by have:=k.Zb;omega);have p:=m 13;rw[hi]at p;have p:=oT p;refine .DW (g':=fin H (lR (e7 ⟨D.gb,D.go+n*3,e8⟩))) c.lk.clear c.lk.g.st' (λw=>?_) c.lk.g.st' ?_
 .have:=xH (P:=X.P) (mn:=V.g==0) (w:=w) A e e1 p (by rw[k.hP];exact adX) (by rw[k.hP];exact adY) ab (by have:=k.Zb;show(n:Int)<(D.ng:Int);omega);rw[dY,pj]at this;exact this
 have b:=c.fin (v:=lR (e7 ⟨Jz np D D.gb,D.go+n*3,e8⟩)) (v':=lR (e7 ⟨D.gb,D.go+n*3,e8⟩)) (.ptr ⟨a,rfl,rfl⟩);refine b.seg k (q:=A2 np (aW np D) (hU np D w0) n (D.go+n*3)) (by delta A2;rfl) (l.e2 _ _ _ _) λx y W w2 b J=>?_;obtain⟨e,z⟩:=l.c2 (aW np D) (hU np D w0) n (D.go+n*3);obtain⟨o,i,e⟩:=jC e;obtain⟨A,m⟩:=b.lk.g.op i;have a:x (Jz np D D.gb) D.gb:=b.le _ _ (pW (by simp[dR]));have e1:=m 14;rw[z]at e1;have e1:=PG b.lk.inj e1 a;have E:V.st D.gb:=(k.blk D.gb (by simp[dR])).1;have L:((fb 3).map λj=>(gA s dl gn).getD j undef).toArray=gA s dl gn:=rfl;refine .qM (v:=lp (gA s dl gn)) b.lk.clear b.kn.live A e e1 (λN r=>?_) (JB k E) ?_
 .have zz:=b.kn.rl r;have hc:∀j,j<3->f6 N ((⟨D.gb,D.go+n*3,e8⟩:aP).add j)=e7 ((gA s dl gn).getD j undef):=λj O=>by
   rw[dY,zz.cell E];have:=k.PM j O;grind
  have:=sH (P:=X.P) (t:=51) (by rw[k.hP];exact ajk) rfl (by rw[k.hP];exact adY) hc;rw[L]at this;exact⟨this,pY (by have:=hc 0 ab;rwa[dY]at this)⟩
 have u:=b.fin (v:=lp (gA s dl gn)) (v':=lp (gA s dl gn)) (.agg Zf);refine u.seg k (q:=A3 np s (aW np D) (hU np D w0) n dl gn (D.go+n*3)) (by delta A3;rfl) (l.e3 _ _ _ _ _ _) λB Q R w3 u S=>?_;obtain⟨f,Z,T⟩:=l.r0' (aW np D) (hU np D w0) n dl gn (D.go+n*3);rw[T]at u;exact K B Q f Z R w3 u λo i=>(S o i).t ((J o i).t (I o i))
end
end Go.Proofs
namespace Go.Proofs
open Go.Ph Go.Conc
section
variable (W:Nat)(a:Array aT)(td:List a8)
def adZ:hV PP 400 1 (fin (d4 W a td) (lm kt 0)):=mZ 400 (λw=>ae) ae ae
def ae0:hV PP 400 1 (fin (d4 W a td) (lm kt 4294967296)):=mZ 400 (λw=>ae) ae ae
def ae1:hV PP 400 1 (fin (d4 W a td) (lm kt 4294967297)):=mZ 400 (λw=>ae) ae ae
def ae2:hV PP 400 1 (fin (d4 W a td) (lm kt 8589934592)):=mZ 400 (λw=>ae) ae ae
def ae3:hV PP 400 1 (fin (d4 W a td) (lm kt 8589934593)):=mZ 400 (λw=>ae) ae ae
def ajn:hV PP 400 1 (fin (d7 W a td) (l3 #[])):=mZ 400 (λw=>ae) ae ae
end
def ajo:cw PP 105 fJ (λ_=>pure (l5 fJ)):=⟨Tryz.f105,ae,ae,ae,ae,ae,ae⟩
def ajp:cw PP 110 fJ (i4 .read):=⟨Tryz.f110,ae,ae,ae,ae,ae,ae⟩
def ajq:cw PP 120 fJ (i4 .write):=⟨Tryz.f120,ae,ae,ae,ae,ae,ae⟩
def ajr:cw PP 114 fO i5:=⟨Tryz.f114,ae,ae,ae,ae,ae,ae⟩
def ajs:cw PP 121 fO i6:=⟨Tryz.f121,ae,ae,ae,ae,ae,ae⟩
def ae4:cw PP 128 fO (jk (jM pu) kt fO):=⟨Tryz.f128,ae,ae,ae,ae,ae,ae⟩
def Zl:cw PP 129 fO (jn (.int kt)):=⟨Tryz.f129,ae,ae,ae,ae,ae,ae⟩
def ajt:cw PP 130 fO jp:=⟨Tryz.f130,ae,ae,ae,ae,ae,ae⟩
def aju:cw PP 135 fO (jt (.int kt)):=⟨Tryz.f135,ae,ae,ae,ae,ae,ae⟩
def u214:hO PP 167=e7 (.pointer 152):=ae
def u222:∃t,hO PP 175=e7 (.pointer t)/\(PP.info? t).map (λi=>decide (i.size=0))=e7 fJ:=⟨141,ae,ae⟩
def ajx:(PP.info? 152).map (λi=>decide (i.size=0))=e7 fJ:=ae
end Go.Proofs
namespace Go.Ph
open Go.Conc Go.ConcN
open Go.ConcM (MuAt muA msA OsLater muBlock)
open Go.ConcR (KK WgAt stA smA rd wr mk)
open Go.cD (Wd Th Mv Safe Head eR spin qZ)
variable {C:Wd}
def _root_.Go.cD.Wd.UA{y:Wd}(h:C.num=y.num):C=y:=by
 obtain⟨l,w,s,k⟩:=C;obtain⟨a,w',s',k'⟩:=y;simp only[Wd.num]at h;grind
section
variable {X:Fix}{V:Vw}{q:Bool}{Stop:Stp}{M:Own}{d:Nat}{g g':aL}{w w':aF}{es:Array a9}{s s':Sh}{mn:Bool}
def Au(h:ShAt X w' s')(hb:w'.heap[X.Tb]?=w.heap[X.Tb]?)(hl:Live X w):Live X w':=⟨⟨_,_,h.1⟩,⟨_,_,h.2⟩,by rw[hb];exact hl.2.2⟩
def sL(hc:ed X V M){a:aP}(j:a.block=X.Mu\/a.block=X.Wg)(v:aT)(h:ShAt X (f9 w a v) s'):Rl X V M w (f9 w a v)/\
 ∀d es,(∀e∈es,jG X V M w.heap.size e)->Dl X V fJ M d w (f9 w a v) es M (bd d es):=by
 have A:=hY w a v;have hb:∀b,b≠X.Mu->b≠X.Wg->(f9 w a v).heap[b]?=w.heap[b]?:=λb k l=>A.block b aS;have c:OsLater w.os (f9 w a v).os:=by rw[A.os];exact .refl _
 exact⟨BN hc A.tape A.output c A.size hb (Au h (hb _ hc.ids.mt.symm hc.ids.wt.symm)),λd es i=>jI hc.ids A.tape A.output c A.size hb (by rw[A.size];exact i) ar⟩
def JC(hc:ed X V M)(d:Nat)(w:aF)(es:Array a9)(a:∀e∈es,jG X V M w.heap.size e):Dl X V fJ M d w w es M (bd d es):=
 jI hc.ids rfl rfl (.refl _) rfl (λ_ _ _=>rfl) a ar
def xO(h:ShAt X w s):X.Mu<w.heap.size:=by
 have:=h.1;unfold MuAt at this;grind
def lC(h:ShAt X w s):X.Wg<w.heap.size:=by
 have:=h.2;unfold hH at this;grind
def ShAt.setMu(hi:WO X)(h:ShAt X w s)(x:Wd):ShAt X (f9 w (muA X.Mu) (lm kq ((x.num:Nat):Int))) { s with mw:=x }:=
 ⟨h.1.setSt _,((hY w (muA X.Mu) _).block X.Wg hi.mw.symm).t h.2⟩
def ShAt.setMs(hi:WO X)(h:ShAt X w s)(x:Nat):ShAt X (f9 w (msA X.Mu) (lm ks (x:Int))) { s with ms:=x }:=
 ⟨h.1.setSm _,((hY w (msA X.Mu) _).block X.Wg hi.mw.symm).t h.2⟩
variable {o:bi}{f:ac}{nr:Bool}{P:bj}
def DZ(b:az g=e7 (f,#[lR (e7 ⟨X.Mu,0,e8⟩),lm kq ((s.mw.num:Nat):Int),lm kq ((C.num:Nat):Int)]))(hb:cw P f nr (jt (.int kq)))(a:ShAt X w s) :
 stepG P mn g w=m7 (fin g (l5 fO)) (f9 w (muA X.Mu) (lm kq ((C.num:Nat):Int))) #[⟨ob (muA X.Mu),fJ,fO⟩,⟨ob (muA X.Mu),fO,fO⟩]:=
 hb.step b (by rw[h6];exact h7 a.1.cellSt (a.1.thaw 0)) (by rw[h6];exact(h8 a.1.cellSt (a.1.thaw 0) _).t rfl) (ih _)
def B5{old:Wd}(c:az g=e7 (f,#[lR (e7 ⟨X.Mu,0,e8⟩),lm kq ((old.num:Nat):Int),lm kq ((C.num:Nat):Int)]))(hb:cw P f nr (jt (.int kq)))(a:ShAt X w s)(h:s.mw≠old) :
 stepG P mn g w=m7 (fin g (l5 fJ)) w #[⟨ob (muA X.Mu),fJ,fO⟩]:=by
 have b:¬((s.mw.num:Nat):Int)=((old.num:Nat):Int):=λe=>h (Wd.UA ab);exact hb.step c (by rw[h6];exact ii a.1.cellSt (a.1.thaw 0) b) (by rw[h6];exact(io a.1.cellSt (a.1.thaw 0) b _).t rfl) (sync_r _)
def PO{n:Int}(c:az g=e7 (f,#[lR (e7 ⟨X.Mu,0,e8⟩),lm kq n]))(hb:cw P f nr (jk (jM pu) kq fO))(a:ShAt X w s)(e:kp kq (((s.mw.num:Nat):Int)+n)=((C.num:Nat):Int)) :
 stepG P mn g w=m7 (fin g (lm kq ((C.num:Nat):Int))) (f9 w (muA X.Mu) (lm kq ((C.num:Nat):Int))) #[⟨ob (muA X.Mu),fJ,fO⟩,⟨ob (muA X.Mu),fO,fO⟩]:=by
 have b:=ip (P:=P) (d:=n) a.1.cellSt (a.1.thaw 0);have h:=λes=>ix (P:=P) (d:=n) a.1.cellSt (a.1.thaw 0) es;rw[e]at b;exact hb.step c b ((h _).t rfl) (ih _)
def D5{a:Array aT}(h:az g=e7 (f,a))(c:a[0]?=e7 (lR (e7 ⟨X.Mu,1,e8⟩)))(hb:cw P f nr i6)(i:ShAt X w s) :
 if s.ms=0 then stepG P mn g w=m7 { g with status:=.blocked } w #[] else stepG P mn g w=m7 (fin g (l3 #[])) (f9 w (msA X.Mu) (lm ks ((s.ms-1:Nat):Int))) (iC (msA X.Mu)):=by
 have hc:=i.1.cellSm;have j:=i.1.thaw 1;unfold msA at hc;split
 .rename_i b;rw[b]at hc;exact hb.blocked h (by simp[i6,i7,c,hc])
 .rename_i b;have e:((s.ms:Nat):Int)-1=((s.ms-1:Nat):Int):=ab;rw[<-e];exact hb.step h (by simp[i6,i7,c,hc,b,j,msA,i9,run_store P w ⟨X.Mu,1,e8⟩ (lm ks ((s.ms:Int)-1)) p8 rfl,kx])
   (by simp[i6,i7,c,hc,b,j,msA,iC,bq,bv P w _ ⟨X.Mu,1,e8⟩ (lm ks ((s.ms:Int)-1)) p8 rfl,run_store P w ⟨X.Mu,1,e8⟩ (lm ks ((s.ms:Int)-1)) p8 rfl,kG]) (iP _)
def sr{a:Array aT}(j:az g=e7 (f,a))(b:a[0]?=e7 (lR (e7 ⟨X.Mu,1,e8⟩)))(hb:cw P f nr i5)(c:ShAt X w s)(k:s.ms<=1) :
 stepG P mn g w=m7 (fin g (l3 #[])) (f9 w (msA X.Mu) (lm ks ((s.ms+1:Nat):Int))) (iC (msA X.Mu)):=by
 have hc:=c.1.cellSm;have i:=c.1.thaw 1;unfold msA at hc;have e:kp ks (((s.ms:Nat):Int)+1)=((s.ms+1:Nat):Int):=by
  obtain h|h:s.ms=0\/s.ms=1:=ab
  .rw[h];decide
  .rw[h];decide
 rw[<-e];exact hb.step j (by simp[i5,i7,b,hc,i,msA,i9,jM,run_store P w ⟨X.Mu,1,e8⟩ (lm ks (kp ks ((s.ms:Int)+1))) p8 rfl,kx])
  (by simp[i5,i7,b,hc,i,msA,iC,jM,bq,bv P w _ ⟨X.Mu,1,e8⟩ (lm ks (kp ks ((s.ms:Int)+1))) p8 rfl,run_store P w ⟨X.Mu,1,e8⟩ (lm ks (kp ks ((s.ms:Int)+1))) p8 rfl,kG]) (iP _)
def PR(h:X.Mu<w.heap.size):∀e∈(#[⟨ob (muA X.Mu),fJ,fO⟩,⟨ob (muA X.Mu),fO,fO⟩]:Array a9),jG X V M w.heap.size e:=by
 intro e a;simp at a
 rcases a with rfl|rfl<;>exact eo (nt rfl) h
def ae5(h:X.Mu<w.heap.size):∀e∈(#[⟨ob (muA X.Mu),fJ,fO⟩]:Array a9),jG X V M w.heap.size e:=by
 intro e a;simp at a;subst a;exact eo (nt rfl) h
def JD(h:X.Mu<w.heap.size):∀e∈iC (msA X.Mu),jG X V M w.heap.size e:=by
 intro e a;simp[iC]at a
 rcases a with rfl|rfl|rfl|rfl
 .exact lX rfl
 .exact eo (nt rfl) h
 .exact eo (nt rfl) h
 .exact lX rfl
end
end Go.Ph
namespace Go.Ph
open Go.Conc Go.ConcN Go.RowKit
open Go.ConcM (MuAt muA msA OsLater muBlock)
open Go.ConcR (KK WgAt stA smA rd wr mk wgBlock)
open Go.cD (Wd)
variable {J:aP}{C:Nat}{L:a9}
section
variable {X:Fix}{V:Vw}{q:Bool}{M:Own}{d:Nat}{g:aL}{w w':aF}{es:Array a9}{s s':Sh}{mn:Bool}{f:ac}{nr:Bool}{P:bj}
def vP(v wt:Nat):Int:=(v:Int)*KK+(wt:Int)
def er(h:ShAt X w s):f6 w (stA X.Wg)=e7 (lm kt (vP s.v s.wt)):=by have:=h.2;unfold hH hJ at this;simp[f6,stA,this,vP]
def vn(h:ShAt X w s):f6 w (smA X.Wg)=e7 (lm ks (s.ws:Int)):=by have:=h.2;unfold hH hJ at this;simp[f6,smA,this]
def fM(h:ShAt X w s)(off:Nat):gc w ⟨X.Wg,off,e8⟩=fJ:=by have:=h.2;unfold hH hJ at this;simp[gc,this]
def ShAt.setWg(hi:WO X)(h:ShAt X w s)(v wt:Nat):ShAt X (f9 w (stA X.Wg) (lm kt (vP v wt))) { s with v:=v,wt:=wt }:=
 ⟨((hY w (stA X.Wg) _).block X.Mu hi.mw).t h.1,by
   have:=h.2;unfold hH hJ at this⊢;rw[stA,bC w X.Wg 0 _ _ (0,0) _ this,b8 w X.Wg _ _ _ _ this]
   simp[vP]⟩
def ShAt.setWs(hi:WO X)(h:ShAt X w s)(n:Nat):ShAt X (f9 w (smA X.Wg) (lm ks (n:Int))) { s with ws:=n }:=
 ⟨((hY w (smA X.Wg) _).block X.Mu hi.mw).t h.1,by
   have:=h.2;unfold hH hJ at this⊢;rw[smA,bC w X.Wg 1 _ _ (0,0) _ this,b8 w X.Wg _ _ _ _ this]
   simp⟩
def uz(hc:ed X V M){a:aP}(l:a.block=X.Mu\/a.block=X.Wg)(v:aT)(h:ShAt X (f9 w a v) s'):Rl X V M w (f9 w a v)/\
 ∀d es,(∀e∈es,jG X V M w.heap.size e)->(q=fO->∀j e,es[j]?=e7 e->(k7 e).touch? = e8\/((∃ad wr,e=⟨ob ad,wr,fO⟩)/\0<bd d (es.extract 0 j)))->Dl X V q M d w (f9 w a v) es M (bd d es):=by
 have A:=hY w a v;have hb:∀b,b≠X.Mu->b≠X.Wg->(f9 w a v).heap[b]?=w.heap[b]?:=λb m n=>A.block b aS;have c:OsLater w.os (f9 w a v).os:=by rw[A.os];exact .refl _
 exact⟨BN hc A.tape A.output c A.size hb (Au h (hb _ hc.ids.mt.symm hc.ids.wt.symm)),λd es i k=>jI hc.ids A.tape A.output c A.size hb (by rw[A.size];exact i) k⟩
def Xb{wr:Bool}(d:Nat)(h:(#[⟨ob J,wr,fO⟩]:Array a9)[C]?=e7 L):(k7 L).touch? = e8\/((∃J wr,L=⟨ob J,wr,fO⟩)/\0<bd (d+1) ((#[⟨ob J,wr,fO⟩]:Array a9).extract 0 C)):=by
 match C,h with
 |0,h=>exact nV ⟨⟨J,wr,by simpa using h.y⟩,by simp[bd]⟩
 |C+1,h=>simp at h
def ae6(d:Nat)(h:(#[⟨ob J,fJ,fO⟩,⟨ob J,fO,fO⟩]:Array a9)[C]?=e7 L):(k7 L).touch? = e8\/((∃J wr,L=⟨ob J,wr,fO⟩)/\0<bd (d+1) ((#[⟨ob J,fJ,fO⟩,⟨ob J,fO,fO⟩]:Array a9).extract 0 C)):=by
 match C,h with
 |0,h=>exact nV ⟨⟨J,fJ,by simpa using h.y⟩,by simp[bd]⟩
 |1,h=>exact nV ⟨⟨J,fO,by simpa using h.y⟩,by simp[bd]⟩
 |C+2,h=>simp at h
def ae7(d:Nat)(h:(iC J)[C]?=e7 L):(k7 L).touch? = e8\/((∃J wr,L=⟨ob J,wr,fO⟩)/\0<bd (d+1) ((iC J).extract 0 C)):=by
 unfold iC at h⊢
 match C,h with
 |0,h=>exact nt (by simp at h;subst h;rfl)
 |1,h=>exact nV ⟨⟨J,fJ,by simpa using h.y⟩,by simp[bd]⟩
 |2,h=>exact nV ⟨⟨J,fO,by simpa using h.y⟩,by simp[bd]⟩
 |3,h=>exact nt (by simp at h;subst h;rfl)
 |C+4,h=>simp at h
def xP{n:Int}{v wt:Nat}(c:az g=e7 (f,#[lR (e7 ⟨X.Wg,0,e8⟩),lm kt n]))(hb:cw P f nr (jk (jM pu) kt fO))(a:ShAt X w s)(e:kp kt (vP s.v s.wt+n)=vP v wt) :
 stepG P mn g w=m7 (fin g (lm kt (vP v wt))) (f9 w (stA X.Wg) (lm kt (vP v wt))) #[⟨ob (stA X.Wg),fJ,fO⟩,⟨ob (stA X.Wg),fO,fO⟩]:=by
 have b:=ip (P:=P) (d:=n) (er a) (fM a 0);have h:=λes=>ix (P:=P) (d:=n) (er a) (fM a 0) es;rw[e]at b;exact hb.step c b ((h _).t rfl) (ih _)
def oV(a:az g=e7 (f,#[lR (e7 ⟨X.Wg,0,e8⟩)]))(hb:cw P f nr (jn (.int kt)))(b:ShAt X w s) :
 stepG P mn g w=m7 (fin g (lm kt (vP s.v s.wt))) w #[⟨ob (stA X.Wg),fJ,fO⟩]:=by
 have hc:f6 w ⟨X.Wg,0,e8⟩=_:=er b;refine hb.step a ?_ ?_ (sync_r _)
 .change Sem.run P (do jw (.int kt) (<-b9 (lR (e7 ⟨X.Wg,0,e8⟩)))) w=_;simp[jw,b9,hc]
 .change Sem.events P (do jw (.int kt) (<-b9 (lR (e7 ⟨X.Wg,0,e8⟩)))) w _=_;simp[jw,b9,hc,bq,stA]
def B6{n:Int}(c:az g=e7 (f,#[lR (e7 ⟨X.Wg,0,e8⟩),lm kt n]))(hb:cw P f nr jp)(a:ShAt X w s) :
 stepG P mn g w=m7 (fin g (l3 #[])) (f9 w (stA X.Wg) (lm kt n)) #[⟨ob (stA X.Wg),fO,fO⟩]:=by
 have hc:f6 w ⟨X.Wg,0,e8⟩=_:=er a;have b:=fM a 0;refine hb.step c ?_ ?_ aS
 .change Sem.run P (do
   store (<-b9 (lR (e7 ⟨X.Wg,0,e8⟩))) (lm kt n) p8
   pure jz) w=_
  simp[b9,hc,b,run_store P w ⟨X.Wg,0,e8⟩ (lm kt n) p8 rfl,stA,kx,jz]
 .change Sem.events P (do
   store (<-b9 (lR (e7 ⟨X.Wg,0,e8⟩))) (lm kt n) p8
   pure jz) w _=_
  simp[b9,hc,b,bv P w _ ⟨X.Wg,0,e8⟩ (lm kt n) p8 rfl,stA]
def G9{o n:Int}{v wt:Nat}(b:az g=e7 (f,#[lR (e7 ⟨X.Wg,0,e8⟩),lm kt o,lm kt n]))(hb:cw P f nr (jt (.int kt)))(a:ShAt X w s)(h:n=vP v wt) :
 if vP s.v s.wt=o then stepG P mn g w=m7 (fin g (l5 fO)) (f9 w (stA X.Wg) (lm kt (vP v wt))) #[⟨ob (stA X.Wg),fJ,fO⟩,⟨ob (stA X.Wg),fO,fO⟩]
 else stepG P mn g w=m7 (fin g (l5 fJ)) w #[⟨ob (stA X.Wg),fJ,fO⟩]:=by
 subst h;split
 .rename_i e;subst e;exact hb.step b (by rw[h6];exact h7 (er a) (fM a 0)) (by rw[h6];exact(h8 (er a) (fM a 0) _).t rfl) (ih _)
 .rename_i c;exact hb.step b (by rw[h6];exact ii (er a) (fM a 0) c) (by rw[h6];exact(io (er a) (fM a 0) c _).t rfl) (sync_r _)
def He{args:Array aT}(c:az g=e7 (f,args))(b:args[0]?=e7 (lR (e7 ⟨X.Wg,1,e8⟩)))(hb:cw P f nr i6)(h:ShAt X w s) :
 if s.ws=0 then stepG P mn g w=m7 { g with status:=.blocked } w #[] else stepG P mn g w=m7 (fin g (l3 #[])) (f9 w (smA X.Wg) (lm ks ((s.ws-1:Nat):Int))) (iC (smA X.Wg)):=by
 have hc:=vn h;have i:=fM h 1;unfold smA at hc;split
 .rename_i a;rw[a]at hc;exact hb.blocked c (by simp[i6,i7,b,hc])
 .rename_i a;have e:((s.ws:Nat):Int)-1=((s.ws-1:Nat):Int):=ab;rw[<-e];exact hb.step c (by simp[i6,i7,b,hc,a,i,smA,i9,run_store P w ⟨X.Wg,1,e8⟩ (lm ks ((s.ws:Int)-1)) p8 rfl,kx])
   (by simp[i6,i7,b,hc,a,i,smA,iC,bq,bv P w _ ⟨X.Wg,1,e8⟩ (lm ks ((s.ws:Int)-1)) p8 rfl,run_store P w ⟨X.Wg,1,e8⟩ (lm ks ((s.ws:Int)-1)) p8 rfl,kG]) (iP _)
def Hf{args:Array aT}(h:az g=e7 (f,args))(a:args[0]?=e7 (lR (e7 ⟨X.Wg,1,e8⟩)))(hb:cw P f nr i5)(b:ShAt X w s)(i:s.ws=0) :
 stepG P mn g w=m7 (fin g (l3 #[])) (f9 w (smA X.Wg) (lm ks ((1:Nat):Int))) (iC (smA X.Wg)):=by
 have hc:=vn b;have c:=fM b 1;unfold smA at hc;rw[i]at hc;have e:kp ks (((0:Nat):Int)+1)=((1:Nat):Int):=ao;rw[<-e];exact hb.step h (by simp[i5,i7,a,hc,c,smA,i9,jM,run_store P w ⟨X.Wg,1,e8⟩ (lm ks (kp ks 1)) p8 rfl,kx])
  (by simp[i5,i7,a,hc,c,smA,iC,jM,bq,bv P w _ ⟨X.Wg,1,e8⟩ (lm ks (kp ks 1)) p8 rfl,run_store P w ⟨X.Wg,1,e8⟩ (lm ks (kp ks 1)) p8 rfl,kG]) (iP _)
end
end Go.Ph
namespace Go.Proofs
open Go.Ph Go.Conc Go.ConcN
open Go.ConcM (MuAt muA msA OsLater muBlock)
open Go.ConcR (KK WgAt stA smA rd wr mk)
variable {C:aL}{L R:ai}{J:aT}{O:ac}
structure Gk(X:Fix)(V:Vw)(M:Own)(F:aF->Prop)(mn:Bool):Prop where
 hP:X.P=PP
 hg:(V.g==0)=mn
 hc:ed X V M
 hF:∀w w',F w->Rl X V M w w'->F w'
 hL:∀w,F w->Live X w
 hn:X.n<=3
def sM(h:gu C=e7 (L,R,J)):∃o x,bF C=e7 o/\o.op=.convert L R x/\C.frame.eval x=J:=by
 unfold gu at h;split at h
 .rename_i o a;split at h
  .rename_i c e x b;simp only[kj,ma]at h;obtain⟨rfl,rfl,rfl⟩:=h;exact⟨o,x,a,b,rfl⟩
  .cases h
 .cases h
def vo(h:gZ C=e7 (O,e7 J)):∃args,az C=e7 (O,args)/\args[0]?=e7 J:=by
 unfold gZ at h
 cases hc:az C with
 |none=>rw[hc]at h;cases h
 |some x=>
  obtain⟨a,args⟩:=x;rw[hc]at h;simp only[il,kj,ma]at h;obtain⟨rfl,h⟩:=h;exact⟨args,rfl,h⟩
section
variable {X:Fix}{V:Vw}{M:Own}{F:aF->Prop}{Fin:aF->Prop}{Stop:Stp}{d:Nat}{g g':aL}{w:aF}{q mn:Bool}
def Gk.aB(L:Gk X V M F mn)(h:fL mn g g')(a:ay X V q Stop M d g' w):ay X V q Stop M d g w:=h.run L.hP L.hg a
def Gk.sG(L:Gk X V M F mn)(a:az g=e7 (103,#[]))(b:ay X V q Stop M (d+1) (fin g (l3 #[])) w):ay X V q Stop M d g w:=
 .Jo (m:=.disable) L.hc a (by rw[L.hP];exact adr) rfl b
def Gk.en(L:Gk X V M F mn)(a:az g=e7 (104,#[]))(b:ay X V q Stop M d (fin g (l3 #[])) w):ay X V q Stop M (d+1) g w:=
 .Jo (m:=.enable) L.hc a (by rw[L.hP];exact ads) rfl b
def Gk.idle(L:Gk X V M F mn)(a:az g=e7 (105,#[]))(b:ay X V q Stop M d (fin g (l5 fJ)) w):ay X V q Stop M d g w:=
 ay.idle L.hc (aj a).1 λc _=>⟨_,c,#[],(by rw[L.hP];exact ajo:cw X.P 105 fJ _).step (v:=l5 fJ) a ar ar ar,rfl,rfl,.refl _,rfl,ar,(aj a).2.2 _,b⟩
def Gk.low(L:Gk X V M F mn)(a:F w):X.Wg<w.heap.size:=by
 obtain⟨_,⟨_,_,k⟩,_⟩:=L.hL _ a;unfold hH at k;exact(bR.1 k).1
def Gk.conv(L:Gk X V M F mn)(a:gu g=e7 (167,169,pt X.Wg))(b:F w)(c:ay X V q Stop M d (fin g (pt X.Wg)) w):ay X V q Stop M d g w:=by
 obtain⟨o,x,e,f,h⟩:=sM a
 exact .conv L.hc e f h (by rw[L.hP];exact u214) (by rw[L.hP];exact u216) (by rw[L.hP];exact ajx) (λi r=>by
  obtain⟨_,⟨_,_,k⟩,_⟩:=L.hL _ (L.hF _ _ b r);unfold hH hK at k
  exact⟨_,by simp[f6,k];rfl⟩) c
def Gk.Xc(L:Gk X V M F mn)(a:gu g=e7 (175,169,lR (e7 ⟨X.Wg,1,e8⟩)))(b:F w)(c:ay X V q Stop M d (fin g (lR (e7 ⟨X.Wg,1,e8⟩))) w):ay X V q Stop M d g w:=by
 obtain⟨o,x,e,f,h⟩:=sM a;obtain⟨t,k1,k2⟩:=u222
 exact .conv L.hc e f h (by rw[L.hP];exact k1) (by rw[L.hP];exact u216) (by rw[L.hP];exact k2) (λi r=>by
  obtain⟨_,⟨_,_,k⟩,_⟩:=L.hL _ (L.hF _ _ b r);unfold hH hK at k
  exact⟨_,by simp[f6,k];rfl⟩) c
def PS(L:Gk X V M F mn)(h:X.Wg<w.heap.size):∀e∈(#[⟨ob (stA X.Wg),fJ,fO⟩,⟨ob (stA X.Wg),fO,fO⟩]:Array a9),jG X V M w.heap.size e:=by
 have:=L.hP;intro e a;simp at a
 rcases a with rfl|rfl<;>exact eo (nV rfl) h
def xQ(L:Gk X V M F mn)(h:X.Wg<w.heap.size)(wr:Bool):∀e∈(#[⟨ob (stA X.Wg),wr,fO⟩]:Array a9),jG X V M w.heap.size e:=by
 have:=L.hP;intro e a;simp at a;subst a;exact eo (nV rfl) h
def PT(L:Gk X V M F mn)(h:X.Wg<w.heap.size):∀e∈iC (smA X.Wg),jG X V M w.heap.size e:=by
 have:=L.hP;intro e a;simp[iC]at a
 rcases a with rfl|rfl|rfl|rfl
 .exact lX rfl
 .exact eo (nV rfl) h
 .exact eo (nV rfl) h
 .exact lX rfl
def MF(L:Gk X V M F fJ)(u:∀w,F w->Fin w)(a:Array aT)(b:List a8)(k:F w):ay X V fJ (O0 X V Fin) M 0 (dE X.Wg a b) w:=by
 have x:∀w,F w->ay X V fO (AtD4 X V) M 1 (d7 X.Wg a b) w:=λw k=>.stop λn r=>by
  obtain⟨args,c,y⟩:=vo (aiU X.Wg a b);refine⟨(aj c).1,(aj c).2.1,λ_=>by rw[L.hP];exact aiV X.Wg a b,λs f m=>?_⟩;have l:=f.setWs L.hc.ids 1;obtain⟨o,p⟩:=uz (q:=fO) L.hc (nV rfl) _ l;exact⟨_,_,_,M,1,Hf c y (by rw[L.hP];exact ajr:cw X.P 114 fO _) f m.2.2,l,p 1 _ (PT L (lC f)) (λ_ j e h=>ae7 0 h),(aj c).2.2 _,400,by rw[L.hP];exact ajn X.Wg a b⟩
 have z:∀w,F w->ay X V fO (AtD3 X V) M 1 (d6 X.Wg a b) w:=λw k=>.stop λn r=>by
  have c:=aiT X.Wg a b;refine⟨(aj c).1,(aj c).2.1,λh=>(by cases h),λs f m=>?_⟩;have l:=f.setWg L.hc.ids 0 0;have e:({ s with v:=0,wt:=0 }:Sh)={ s with wt:=0 }:=by rw[<-m.1]
  have st:=B6 (mn:=V.g==0) c (by rw[L.hP];exact ajt:cw X.P 130 fO _) f;obtain⟨o,p⟩:=uz (q:=fO) L.hc (nV rfl) _ l;rw[e]at l;exact⟨_,_,_,M,1,st,l,p 1 _ (xQ L (lC f) fO) (λ_ j e h=>Xb 0 h),(aj c).2.2 _,L.aB (d_6 X.Wg a b) (x _ (L.hF _ _ (L.hF _ _ k r) o))⟩
 have A:∀w,F w->ay X V fO (AtD2 X V) M 1 (d5 X.Wg a b) w:=λw k=>.stop λn r=>by
  have c:=aiS X.Wg a b;refine⟨(aj c).1,(aj c).2.1,λh=>(by cases h),λs f m=>?_⟩;have st:=oV (mn:=V.g==0) c (by rw[L.hP];exact Zl:cw X.P 129 fO _) f;have e:vP s.v s.wt=1:=by rw[m.1,m.2.1];rfl
  rw[e]at st;exact⟨_,n,_,M,1,st,f,jI L.hc.ids rfl rfl (.refl _) rfl (λ_ _ _=>rfl) (xQ L (lC f) fJ) (λ_ j e h=>Xb 0 h),(aj c).2.2 _,L.aB (d_5 X.Wg a b) (z _ (L.hF _ _ k r))⟩
 have B:∀w,F w->ay X V fO (AtD1 X V) M 1 (d4 X.Wg a b) w:=λw k=>.stop λn r=>by
  have c:=aiR X.Wg a b;refine⟨(aj c).1,(aj c).2.1,λh=>(by cases h),λs f m=>?_⟩;obtain⟨D,E,H,I⟩:=m;have J:=L.hn;have C:kp kt (vP s.v s.wt+18446744069414584320)=vP (s.v-1) s.wt:=by
   obtain h|h|h:s.v=1\/s.v=2\/s.v=3:=ab
   all_goals
    obtain i|i:s.wt=0\/s.wt=1:=ab
    all_goals (rw[h,i];decide)
  have l:=f.setWg L.hc.ids (s.v-1) s.wt;have st:=xP (mn:=V.g==0) c (by rw[L.hP];exact ae4:cw X.P 128 fO _) f C;obtain⟨o,p⟩:=uz (q:=fO) L.hc (nV rfl) _ l;refine⟨_,_,_,M,1,st,l,p 1 _ (PS L (lC f)) (λ_ j e h=>ae6 0 h),(aj c).2.2 _,?_⟩;by_cases hv:s.v=1/\s.wt=1
  .simp only[hv,and_self,if_true];rw[show vP (1-1) 1=1 from rfl];exact L.aB (d_4 X.Wg a b) (A _ (by rw[hv.1,hv.2]at o;exact L.hF _ _ (L.hF _ _ k r) o))
  .simp only[if_neg hv];refine⟨400,?_⟩;rw[L.hP];obtain h|h|h:s.v=1\/s.v=2\/s.v=3:=ab
   .obtain i:s.wt=0:=ab;rw[h,i];exact adZ X.Wg a b
   .obtain i|i:s.wt=0\/s.wt=1:=ab
    .rw[h,i];exact ae0 X.Wg a b
    .rw[h,i];exact ae1 X.Wg a b
   .obtain i|i:s.wt=0\/s.wt=1:=ab
    .rw[h,i];exact ae2 X.Wg a b
    .rw[h,i];exact ae3 X.Wg a b
 refine L.aB (d_E X.Wg a b) (L.conv (aiN X.Wg a b) k (L.aB (d_0 X.Wg a b) (.stop λn r=>?_)));have c:=aiO X.Wg a b;have t:=L.hF _ _ k r;refine⟨(aj c).1,rfl,u _ t,_,kM (mk':=.releaseMerge) (ad:=⟨X.Wg,0,e8⟩) c (by rw[L.hP];exact adt:cw X.P 102 fJ _) (λ_ _ h=>by cases h) rfl,(aj c).2.2 _,?_⟩;exact L.aB (d_1 X.Wg a b) (L.sG (aiP X.Wg a b) (L.aB (d_2 X.Wg a b) (L.idle (aiQ X.Wg a b) (L.aB (d_3 X.Wg a b) (B _ t)))))
end
open Go.cD (Wd Th Mv Safe Head eR spin qZ)
structure Lk(X:Fix)(V:Vw)(M:Own)(F:aF->Prop):Prop where
 hP:X.P=PP
 hg:(V.g==0)=fJ
 hc:ed X V M
 hF:∀w w',F w->Rl X V M w w'->F w'
 hL:∀w,F w->Live X w
 hn:X.n<=3
def kO(h:fj C=e7 (L,J)):∃o x,bF C=e7 o/\o.op=j4 L x/\C.frame.eval x=J:=by
 unfold fj at h;grind
def D6(h:gu C=e7 (L,R,J)):∃o x,bF C=e7 o/\o.op=.convert L R x/\C.frame.eval x=J:=by
 unfold gu at h;grind
def xR(h:gZ C=e7 (O,e7 J)):∃args,az C=e7 (O,args)/\args[0]?=e7 J:=by
 unfold gZ at h
 cases hc:az C with
 |none=>rw[hc]at h;cases h
 |some x=>
  grind
section
variable {X:Fix}{V:Vw}{M:Own}{F:aF->Prop}{Fin:aF->Prop}{Stop:Stp}{d:Nat}{g g':aL}{w:aF}{q:Bool}
def Lk.aB(L:Lk X V M F)(h:gm g g')(a:ay X V q Stop M d g' w):ay X V q Stop M d g w:=h.run L.hP L.hg a
def Lk.sG(L:Lk X V M F)(a:az g=e7 (103,#[]))(b:ay X V q Stop M (d+1) (fin g (l3 #[])) w):ay X V q Stop M d g w:=
 .Jo (m:=.disable) L.hc a (by rw[L.hP];exact adr) rfl b
def Lk.en(L:Lk X V M F)(a:az g=e7 (104,#[]))(b:ay X V q Stop M d (fin g (l3 #[])) w):ay X V q Stop M (d+1) g w:=
 .Jo (m:=.enable) L.hc a (by rw[L.hP];exact ads) rfl b
def Lk.conv(L:Lk X V M F)(a:gu g=e7 (191,169,pt X.Mu))(b:F w)(c:ay X V q Stop M d (fin g (pt X.Mu)) w):ay X V q Stop M d g w:=by
 obtain⟨o,x,e,f,h⟩:=D6 a
 exact .conv L.hc e f h (by rw[L.hP];exact u237) (by rw[L.hP];exact u216) (by rw[L.hP];exact aiM) (λi r=>by
  obtain⟨⟨_,_,k⟩,_⟩:=L.hL _ (L.hF _ _ b r)
  exact⟨_,k.cellSt⟩) c
def Lk.low(L:Lk X V M F)(a:F w):X.Mu<w.heap.size:=by
 obtain⟨⟨_,_,k⟩,_⟩:=L.hL _ a;unfold MuAt at k;grind
def Lk.acq(L:Lk X V M F)(a:az g=e7 (117,#[pt X.Mu]))(b:F w)(c:ay X V q Stop M d (fin g (l3 #[])) w):ay X V q Stop M d g w:=
 .Pe (mk':=.acquire) (ad:=⟨X.Mu,0,e8⟩) L.hc a (by rw[L.hP];exact adu) (λ_ _ h=>by cases h) rfl (λe r=>⟨uq rfl (bA) (L.low (L.hF _ _ b r)),rfl⟩) (λ_=>rfl) c
def Lk.ajy(L:Lk X V M F)(a:az g=e7 (102,#[pt X.Mu]))(b:F w)(c:ay X V q Stop M d (fin g (l3 #[])) w):ay X V q Stop M d g w:=
 .Pe (mk':=.releaseMerge) (ad:=⟨X.Mu,0,e8⟩) L.hc a (by rw[L.hP];exact adt) (λ_ _ h=>by cases h) rfl (λe r=>⟨uq rfl (bA) (L.low (L.hF _ _ b r)),rfl⟩) (λ_=>rfl) c
def Lk.nano(L:Lk X V M F)(a:az g=e7 (141,#[]))(b:∀n:Nat,ay X V q Stop M d (fin g (lm kw (n:Int))) w):ay X V q Stop M d g w:=
 .nano L.hc a (by rw[L.hP];exact aiJ) b
def Lk.ae8(L:Lk X V M F){n:Int}(a:az g=e7 (138,#[lm kw n]))(c:∀b:Bool,(b=fO->n<4)->ay X V q Stop M d (fin g (l5 b)) w):ay X V q Stop M d g w:=
 .canSpin L.hc a (by rw[L.hP];exact aiH) c
def Lk.spins(L:Lk X V M F)(a:az g=e7 (139,#[]))(b:ay X V q Stop M d (fin g (l3 #[])) w):ay X V q Stop M d g w:=
 .nothing L.hc a (by rw[L.hP];exact aiI) b
def PV(X:Fix)(c0:aI)(cs:List aI)(T:Th)(g:aL):Prop:=
 let up:=iw X.Mu c0 cs
 T.old.k<=3/\match T.pc with
 |.l0=>g=y1 X.Mu c0 cs
 |.r0=>T.aw=fJ/\T.sv=fJ/\T.it=0/\∃f a,g=S7 (A7 X.Mu f (lm kw 0) fJ fJ (lm kw 0) a) zr0.frame.todo up/\fj g=e7 (21,pt X.Mu)
 |.c1=>T.it<4/\T.aw=fJ/\T.old.l=fO/\T.old.w=fJ/\T.old.s=fJ/\∃f,∃t:Nat,g=S7 (A7 X.Mu (px 33 (l5 fO) f) (lm kw (t:Int)) T.sv fJ (lm kw (T.it:Int)) (wv T.old)) zc1.frame.todo up/\az g=e7 (131,#[pt X.Mu,wv T.old,wv { T.old with w:=fO }])
 |.r1=>T.it<4/\∃f,∃t:Nat,g=S7 (A7 X.Mu f (lm kw (t:Int)) T.sv T.aw (lm kw ((T.it+1:Nat):Int)) (wv T.old)) zr1.frame.todo up/\fj g=e7 (21,pt X.Mu)
 |.c2=>T.it<=4/\∃f,∃t:Nat,g=S7 (A7 X.Mu f (lm kw (t:Int)) T.sv T.aw (lm kw (T.it:Int)) (wv T.old)) xI.frame.todo up/\az g=e7 (131,#[pt X.Mu,wv T.old,wv T.nw])
 |.r3=>T.it<=4/\∃f,∃t:Nat,g=S7 (A7 X.Mu f (lm kw (t:Int)) T.sv T.aw (lm kw (T.it:Int)) (wv T.old)) zr3.frame.todo up/\fj g=e7 (21,pt X.Mu)
 |.s1=>∃f,∃t:Nat,∃b it a,g=S7 (A7 X.Mu f (lm kw (t:Int)) T.sv b it a) FD.frame.todo up/\gZ g=e7 (142,e7 (lR (e7 ⟨X.Mu,1,e8⟩)))
 |.r2=>∃f,∃t:Nat,∃b it a,g=S7 (A7 X.Mu f (lm kw (t:Int)) T.sv b it a) WT.frame.todo up/\fj g=e7 (21,pt X.Mu)
 |.a1=>∃f,∃st b it a,g=S7 (A7 X.Mu f st T.sv b it a) za1.frame.todo up/\az g=e7 (133,#[pt X.Mu,lm kq (if T.ex then -11 else -7)])
 |_=>False
variable {c0:aI}{cs:List aI}{k:Nat}
def MG(X:Fix)(V:Vw)(Fin:aF->Prop)(M:Own)(F:aF->Prop)(c0:aI)(cs:List aI)(r k:Nat):Prop:=∀T g w,T.r=r->PV X c0 cs T g->F w->iF X V Fin k T M 1 g w
def ae9{T T':Th}(h:T.pc≠.out)(a:Alt T T')(b:iF X V Fin k T' M d g w):eU X V Fin k T M d g w:=by
 unfold eU;grind
def MG.run{r:Nat}(A:MG X V Fin M F c0 cs r k)(L:Lk X V M F){T T':Th}(b:T.r=r)(c:T'.pc≠.out)(a:Alt T' T)(h:PV X c0 cs T g)(e:F w):ay X V fJ (eU X V Fin k T') M 1 g w:=
 .stop λf i=>ae9 c a (A T g f b h (L.hF _ _ e i))
def sO{r:Nat}(A:MG X V Fin M F c0 cs r k)(L:Lk X V M F){T:Th}(E:T.r=r)(m:T.old.k<=3)(C:T.aw=fO->T.old.w=fO)(hi:T.it<=4)(f:Nat->aT)(t:Nat)(H:F w) :
 ay X V fJ (eU X V Fin k (eR T)) M 1 (S7 (A7 X.Mu f (lm kw (t:Int)) T.sv T.aw (lm kw (T.it:Int)) (wv T.old)) CE.frame.todo (iw X.Mu c0 cs)) w:=by
 obtain⟨N,hd⟩:=ada X.Mu f (iw X.Mu c0 cs) (lm kw (t:Int)) (lm kw (T.it:Int)) (wv T.old) T.sv T.aw;obtain⟨pc,⟨l,c,s,n⟩,o,i,a,it,ex,p⟩:=T;simp only at E m C hi N hd;have I:(eR ⟨pc,⟨l,c,s,n⟩,o,i,a,it,ex,p⟩).pc≠.out:=by simp[eR]
 have go:∀g',gm (nx PP fJ (S7 (A7 X.Mu f (lm kw (t:Int)) a i (lm kw (it:Int)) (wv ⟨l,c,s,n⟩)) CE.frame.todo (iw X.Mu c0 cs))) g'->ay X V fJ (eU X V Fin k (eR ⟨pc,⟨l,c,s,n⟩,o,i,a,it,ex,p⟩)) M 1 g' w->
  ay X V fJ (eU X V Fin k (eR ⟨pc,⟨l,c,s,n⟩,o,i,a,it,ex,p⟩)) M 1 (S7 (A7 X.Mu f (lm kw (t:Int)) a i (lm kw (it:Int)) (wv ⟨l,c,s,n⟩)) CE.frame.todo (iw X.Mu c0 cs)) w:=
  λg' h Q=>YQ.run ⟨N,hd,h⟩ L.hP L.hg Q
 have u:∀j,az (S7 (A7 X.Mu j (lm kw (t:Int)) a i (lm kw (it:Int)) (wv ⟨l,c,s,n⟩)) xI.frame.todo (iw X.Mu c0 cs))=e7 (131,#[pt X.Mu,wv ⟨l,c,s,n⟩,wv (qZ { pc:=.c2,old:=⟨l,c,s,n⟩,aw:=i,sv:=a,r:=0 })])->
  ay X V fJ (eU X V Fin k (eR ⟨pc,⟨l,c,s,n⟩,o,i,a,it,ex,p⟩)) M 1 (S7 (A7 X.Mu j (lm kw (t:Int)) a i (lm kw (it:Int)) (wv ⟨l,c,s,n⟩)) xI.frame.todo (iw X.Mu c0 cs)) w:=
  λj h=>A.run L (T:=eR ⟨pc,⟨l,c,s,n⟩,o,i,a,it,ex,p⟩) E I (.refl _) ⟨m,hi,j,t,rfl,h⟩ H
 by_cases R:l=fO/\s=fJ
 .obtain⟨rfl,rfl⟩:=R;obtain⟨j,y,z⟩:=YS X.Mu f (iw X.Mu c0 cs) (lm kw (t:Int)) (lm kw (it:Int)) a i c n m;refine go _ y (L.ae8 z λb hb=>?_)
  cases b with
  |false=>
   obtain⟨D,v,x⟩:=Uh X.Mu j (iw X.Mu c0 cs) (lm kw (t:Int)) (lm kw (it:Int)) a i c n m C;exact L.aB v (u _ x)
  |true=>
   have J:it<4:=by have:=hb rfl;omega
   have alt:Alt (eR ⟨pc,⟨fO,c,fJ,n⟩,o,i,a,it,ex,p⟩) (spin ⟨pc,⟨fO,c,fJ,n⟩,o,i,a,it,ex,p⟩):=.head _ _ (.spin rfl rfl J) C;have B:∀j,az (S7 (A7 X.Mu j (lm kw (t:Int)) a i (lm kw (it:Int)) (wv ⟨fO,c,fJ,n⟩)) FC.frame.todo (iw X.Mu c0 cs))=e7 (139,#[])->(spin ⟨pc,⟨fO,c,fJ,n⟩,o,i,a,it,ex,p⟩).pc=.r1->
    ay X V fJ (eU X V Fin k (eR ⟨pc,⟨fO,c,fJ,n⟩,o,i,a,it,ex,p⟩)) M 1 (S7 (A7 X.Mu j (lm kw (t:Int)) a i (lm kw (it:Int)) (wv ⟨fO,c,fJ,n⟩)) FC.frame.todo (iw X.Mu c0 cs)) w:=by
    intro j S U;refine L.spins S ?_;obtain⟨W,O,P⟩:=adf X.Mu j (iw X.Mu c0 cs) (lm kw (t:Int)) (wv ⟨fO,c,fJ,n⟩) (it:Int) a i;have e:kp kw ((it:Int)+1)=((it+1:Nat):Int):=by
     obtain h|h|h|h:it=0\/it=1\/it=2\/it=3:=ab
     all_goals (rw[h];decide)
    rw[e]at O P;refine L.aB O (A.run L (T:=spin ⟨pc,⟨fO,c,fJ,n⟩,o,i,a,it,ex,p⟩) E I alt ⟨m,?_⟩ H);rw[U];exact⟨J,W,t,rfl,P⟩
   cases i with
   |true=>
    obtain⟨D,v,x⟩:=YT X.Mu j (iw X.Mu c0 cs) (lm kw (t:Int)) (lm kw (it:Int)) a c n m;exact L.aB v (B _ x (by simp[spin]))
   |false=>
    cases c with
    |true=>
     obtain⟨D,v,x⟩:=YU X.Mu j (iw X.Mu c0 cs) (lm kw (t:Int)) (lm kw (it:Int)) a n m;exact L.aB v (B _ x (by simp[spin]))
    |false=>
     by_cases K:n=0
     .subst K;obtain⟨D,v,x⟩:=YV X.Mu j (iw X.Mu c0 cs) (lm kw (t:Int)) (lm kw (it:Int)) a;exact L.aB v (B _ x (by simp[spin]))
     .obtain⟨D,v,x⟩:=aio X.Mu j (iw X.Mu c0 cs) (lm kw (t:Int)) (lm kw (it:Int)) a n m K;refine L.aB v (A.run L (T:=spin ⟨pc,⟨fO,fJ,fJ,n⟩,o,fJ,a,it,ex,p⟩) E I alt ⟨m,?_⟩ H);have:(spin ⟨pc,⟨fO,fJ,fJ,n⟩,o,fJ,a,it,ex,p⟩).pc=.c1:=by simp[spin,K]
      rw[this];exact⟨J,rfl,rfl,rfl,rfl,D,t,rfl,x⟩
 .cases l with
  |false=>
   cases s with
   |false=>
    obtain⟨j,y,z⟩:=Ue X.Mu f (iw X.Mu c0 cs) (lm kw (t:Int)) (lm kw (it:Int)) a i c n m C;exact go _ y (u _ z)
   |true=>
    obtain⟨j,y,z⟩:=Uf X.Mu f (iw X.Mu c0 cs) (lm kw (t:Int)) (lm kw (it:Int)) a i c n m C;exact go _ y (u _ z)
  |true=>
   cases s with
   |false=>grind
   |true=>
    obtain⟨j,y,z⟩:=Ug X.Mu f (iw X.Mu c0 cs) (lm kw (t:Int)) (lm kw (it:Int)) a i c n m C;exact go _ y (u _ z)
end
end Go.Proofs
namespace Go.Proofs
open Go.Ph Go.Conc Go.ConcN
open Go.ConcM (MuAt muA msA OsLater muBlock)
open Go.ConcR (KK WgAt stA smA rd wr mk)
open Go.cD (Wd Th Mv Head eR spin qZ)
variable {J:Wd}{L O q:Bool}{C:Nat}
def aea(m:Nat)(c0:aI)(cs:List aI):az (y1 m c0 cs)=e7 (131,#[pt m,wv {},wv { l:=fO }]):=ae
def xS(a:J.l=q)(b:J.w=L)(c:J.s=O):J=⟨q,L,O,J.k⟩:=by
 subst a b c;rfl
section
variable {X:Fix}{V:Vw}{M:Own}{F:aF->Prop}{Fin:aF->Prop}{d:Nat}{g:aL}{w:aF}{k:Nat}{T:Th}
def B7(b:g.status=p9/\g.offers=e8)(c:T.pc≠.us)(f:T.pc≠.s1)
 (H:∀s,ShAt X w s->cD.Safe T s.mw->s.mw.k<=X.n->s.ms<=1->∃T' a ms' g' w' es,Mv s.mw s.ms T T' a ms'/\stepG X.P (V.g==0) g w=m7 g' w' es/\ShAt X w' { s with mw:=a,ms:=ms' }/\
   Dl X V fJ M d w w' es M d/\g'.status=p9/\ay X V fJ (eU X V Fin k T') M d g' w'):iF X V Fin (k+1) T M d g w:=by
 unfold iF;refine⟨b.1,b.2,λe=>absurd e c,λs h i j l=>⟨λe=>absurd e.1 f,λ_=>?_⟩⟩;obtain⟨T',a,ms',g',w',es,a1,a2,a3,a4,m,o⟩:=H s h i j l;exact⟨T',a,ms',g',w',es,M,d,a1,a2,a3,a4,m,o⟩
def sP(L:Lk X V M F)(h:fj g=e7 (21,pt X.Mu))(c:(PP.funcs[g.frame.fn]?).any (·.norace)=fO)(e:T.pc≠.us)(f:T.pc≠.s1)
 (H:∀s:Sh,cD.Safe T s.mw->s.mw.k<=3->∃T',Mv s.mw s.ms T T' s.mw s.ms/\ay X V fJ (eU X V Fin k T') M d (fin g (wv s.mw)) w):iF X V Fin (k+1) T M d g w:=by
 obtain⟨o,x,a,i,j⟩:=kO h;refine B7 ⟨(aK a).1,(aK a).2.1⟩ e f λs b l m n=>?_;obtain⟨T',a1,a2⟩:=H s l (da m L.hn);exact⟨T',s.mw,s.ms,_,w,#[],a1,xG a i j (by rw[L.hP];exact u21) b.1.cellSt (by rw[L.hP];exact c),b,JC L.hc d w #[] ar,(aK a).2.2 _,a2⟩
def B8(L:Lk X V M F){old nw:Wd}(h:az g=e7 (131,#[pt X.Mu,wv old,wv nw]))(c:T.pc≠.us)(f:T.pc≠.s1)(i:F w)
 (H:∀s:Sh,cD.Safe T s.mw->s.mw.k<=3->(s.mw=old->∃T',Mv s.mw s.ms T T' nw s.ms/\∀w',F w'->ay X V fJ (eU X V Fin k T') M d (fin g (l5 fO)) w')/\
   (s.mw≠old->∃T',Mv s.mw s.ms T T' s.mw s.ms/\ay X V fJ (eU X V Fin k T') M d (fin g (l5 fJ)) w)):iF X V Fin (k+1) T M d g w:=by
 refine B7 ⟨(aj h).1,(aj h).2.1⟩ c f λs a j l q=>?_;obtain⟨m,n⟩:=H s j (da l L.hn);by_cases e:s.mw=old
 .obtain⟨T',a1,a2⟩:=m e;subst e;have b:=a.setMu L.hc.ids nw;obtain⟨o,p⟩:=sL L.hc (nt rfl) _ b;exact⟨T',nw,s.ms,_,_,_,a1,DZ h (by rw[L.hP];exact adw) a,b,p d _ (PR (xO a)),(aj h).2.2 _,a2 _ (L.hF _ _ i o)⟩
 .obtain⟨T',a1,a2⟩:=n e;exact⟨T',s.mw,s.ms,_,w,_,a1,B5 h (by rw[L.hP];exact adw) a e,a,JC L.hc d w _ (ae5 (xO a)),(aj h).2.2 _,a2⟩
def PW(L:Lk X V M F){n:Int}(h:az g=e7 (133,#[pt X.Mu,lm kq n]))(c:T.pc≠.us)(e:T.pc≠.s1)(f:F w)
 (H:∀s:Sh,cD.Safe T s.mw->s.mw.k<=3->∃T' x,kp kq (((s.mw.num:Nat):Int)+n)=((x.num:Nat):Int)/\Mv s.mw s.ms T T' x s.ms/\∀w',F w'->ay X V fJ (eU X V Fin k T') M d (fin g (wv x)) w'):iF X V Fin (k+1) T M d g w:=by
 refine B7 ⟨(aj h).1,(aj h).2.1⟩ c e λs a i j o=>?_;obtain⟨T',x,a0,a1,a2⟩:=H s i (da j L.hn);have b:=a.setMu L.hc.ids x;obtain⟨l,m⟩:=sL L.hc (nt rfl) _ b;exact⟨T',x,s.ms,_,_,_,a1,PO h (by rw[L.hP];exact aiG) a a0,b,m d _ (PR (xO a)),(aj h).2.2 _,a2 _ (L.hF _ _ f l)⟩
def Zn(L:Lk X V M F)(h:gZ g=e7 (142,e7 (lR (e7 ⟨X.Mu,1,e8⟩))))(a:T.pc=.s1)(l:F w)
 (H:∀s:Sh,cD.Safe T s.mw->s.ms≠0->∃T',Mv s.mw s.ms T T' s.mw (s.ms-1)/\∀w',F w'->ay X V fJ (eU X V Fin k T') M d (fin g (l3 #[])) w'):iF X V Fin (k+1) T M d g w:=by
 obtain⟨args,b,i⟩:=xR h;unfold iF;refine⟨(aj b).1,(aj b).2.1,λe=>(by rw[a]at e;cases e),λs c m p q=>⟨λe=>?_,λe=>?_⟩⟩
 .have:=D5 (mn:=V.g==0) b i (by rw[L.hP];exact adx:cw X.P 142 fO _) c;rwa[if_pos e.2]at this
 .have f:s.ms≠0:=λf=>e ⟨a,f⟩;obtain⟨T',a1,a2⟩:=H s m f;have st:=D5 (mn:=V.g==0) b i (by rw[L.hP];exact adx:cw X.P 142 fO _) c;rw[if_neg f]at st;have j:=c.setMs L.hc.ids (s.ms-1);obtain⟨n,o⟩:=sL L.hc (nt rfl) _ j;exact⟨T',s.mw,s.ms-1,_,_,_,M,d,a1,st,j,o d _ (JD (xO c)),(aj b).2.2 _,a2 _ (L.hF _ _ l n)⟩
variable {c0:aI}{cs:List aI}
def uA(X:Fix)(V:Vw)(Fin:aF->Prop)(M:Own)(F:aF->Prop)(c0:aI)(cs:List aI)(r:Nat):Prop:=∀k w,F w->ay X V fJ (eU X V Fin k { pc:=.u0,r:=r }) M 0 (G (hm c0 (l3 #[])) cs) w
def aeb{r:Nat}(L:Lk X V M F)(e:uA X V Fin M F c0 cs r)(f:Nat->aT)(st:aT)(a b:Bool)(it old:aT)(w:aF)(c:F w)(hc:az (S7 (A7 X.Mu f st a b it old) WU.frame.todo (iw X.Mu c0 cs))=e7 (104,#[])) :
 ay X V fJ (eU X V Fin k { pc:=.u0,r:=r }) M 1 (S7 (A7 X.Mu f st a b it old) WU.frame.todo (iw X.Mu c0 cs)) w:=by
 refine L.en hc ?_;obtain⟨h,a1,a2⟩:=ais X.Mu f (iw X.Mu c0 cs) st it old a b;refine L.aB a1 (L.conv a2 c ?_);obtain⟨i,a3,a4⟩:=ait X.Mu h (iw X.Mu c0 cs) st it old a b;exact L.aB a3 (L.acq a4 c ((l_e X.Mu c0 cs i st it old a b).run L.hP L.hg (e k w c)))
def Zo(a:Lk X V M F)(m:uA X V Fin M F c0 cs C)(A:MG X V Fin M F c0 cs C k){old nw:Wd}{it:Nat}{ex:Bool}(o:old.k<=3)(h:PV X c0 cs ⟨.l0,old,nw,q,L,it,ex,C⟩ g)(j:F w) :
 iF X V Fin (k+1) ⟨.l0,old,nw,q,L,it,ex,C⟩ M 1 g w:=by
 have b:g=y1 X.Mu c0 cs:=h.2;have hl:=aea X.Mu c0 cs;rw[<-b]at hl;refine B8 a (old:={}) (nw:={ l:=fO }) hl (bA) (bA) j λs _ _=>⟨λe=>⟨_,.lock _ rfl e,λw' c=>?_⟩,λe=>⟨_,.acJ _ rfl e,?_⟩⟩
 .rw[b];refine a.aB (l_1 X.Mu c0 cs) (a.en (aiv X.Mu c0 cs) (a.aB (l_2 X.Mu c0 cs) (a.conv (aiw X.Mu c0 cs) c (a.aB (l_3 X.Mu c0 cs) (a.acq (aix X.Mu c0 cs) c ((l_4 X.Mu c0 cs).run a.hP a.hg (m k w' c)))))))
 .rw[b];obtain⟨n,a1,a2⟩:=l_s X.Mu c0 cs;exact a.aB a1 (A.run a (T:={ pc:=.r0,r:=C }) rfl ar (.refl _) ⟨ar,rfl,rfl,rfl,n,undef,rfl,a2⟩ j)
def Zp(a:Lk X V M F)(j:uA X V Fin M F c0 cs C)(A:MG X V Fin M F c0 cs C k){old nw:Wd}{it:Nat}{ex:Bool}(l:old.k<=3)(h:PV X c0 cs ⟨.r0,old,nw,q,L,it,ex,C⟩ g)(e:F w) :
 iF X V Fin (k+1) ⟨.r0,old,nw,q,L,it,ex,C⟩ M 1 g w:=by
 replace h:=h.2;obtain⟨rfl,rfl,rfl,f,o,rfl,hl⟩:=h;refine sP a hl Js (bA) (bA) λs _ hs=>⟨_,.Ws _ _ rfl .c2,?_⟩
 obtain⟨i,a1,a2⟩:=ail X.Mu f (iw X.Mu c0 cs) (lm kw 0) (lm kw 0) o (wv s.mw) fJ fJ;exact a.aB a1 (sO A a (T:={ pc:=.r0,old:=s.mw,r:=C }) rfl hs ar ar i 0 e)
def Zq(m:Lk X V M F)(x:uA X V Fin M F c0 cs C)(A:MG X V Fin M F c0 cs C k){old nw:Wd}{it:Nat}{ex:Bool}(r:old.k<=3)(h:PV X c0 cs ⟨.c1,old,nw,q,L,it,ex,C⟩ g)(n:F w) :
 iF X V Fin (k+1) ⟨.c1,old,nw,q,L,it,ex,C⟩ M 1 g w:=by
 replace h:=h.2;obtain⟨o,rfl,y,z,B,f,t,rfl,hc⟩:=h;have j:∀c i w',F w'->az (S7 (A7 X.Mu i (lm kw (t:Int)) L c (lm kw (it:Int)) (wv old)) FC.frame.todo (iw X.Mu c0 cs))=e7 (139,#[])->
  ay X V fJ (eU X V Fin k ⟨.r1,old,nw,c,L,it,ex,C⟩) M 1 (S7 (A7 X.Mu i (lm kw (t:Int)) L c (lm kw (it:Int)) (wv old)) FC.frame.todo (iw X.Mu c0 cs)) w':=by
  intro c i w' l u;refine m.spins u ?_;obtain⟨v,p,b⟩:=adf X.Mu i (iw X.Mu c0 cs) (lm kw (t:Int)) (wv old) (it:Int) L c;have e:kp kw ((it:Int)+1)=((it+1:Nat):Int):=by
   obtain h|h|h|h:it=0\/it=1\/it=2\/it=3:=by simp only at o;omega
   all_goals (rw[h];decide)
  rw[e]at p b;exact m.aB p (A.run m (T:=⟨.r1,old,nw,c,L,it,ex,C⟩) rfl ar (.refl _) ⟨r,o,v,t,rfl,b⟩ l)
 refine B8 m hc (bA) (bA) n λs a _=>⟨λe=>⟨⟨.r1,old,nw,fO,L,it,ex,C⟩,?_,λw' l=>?_⟩,λe=>⟨_,.Wu _ rfl e,?_⟩⟩
 .have:=Mv.Wt (w:=s.mw) (ms:=s.ms) (⟨.c1,old,nw,fJ,L,it,ex,C⟩:Th) rfl e;grind
 .obtain⟨i,a1,a2⟩:=adb X.Mu f (iw X.Mu c0 cs) (lm kw (t:Int)) (lm kw (it:Int)) (wv old) L fJ;exact m.aB a1 (j _ _ _ l a2)
 .obtain⟨i,a1,a2⟩:=ade X.Mu f (iw X.Mu c0 cs) (lm kw (t:Int)) (lm kw (it:Int)) (wv old) L fJ;exact m.aB a1 (j _ _ _ n a2)
def Zr(a:Lk X V M F)(n:uA X V Fin M F c0 cs C)(A:MG X V Fin M F c0 cs C k){old nw:Wd}{it:Nat}{ex:Bool}(o:old.k<=3)(h:PV X c0 cs ⟨.r1,old,nw,q,L,it,ex,C⟩ g)(i:F w) :
 iF X V Fin (k+1) ⟨.r1,old,nw,q,L,it,ex,C⟩ M 1 g w:=by
 replace h:=h.2;obtain⟨j,f,t,rfl,hl⟩:=h;refine sP a hl Js (bA) (bA) λs l hs=>⟨_,.Wv _ _ rfl .c2,?_⟩
 obtain⟨m,a1,a2⟩:=aim X.Mu f (iw X.Mu c0 cs) (lm kw (t:Int)) (lm kw ((it+1:Nat):Int)) (wv old) (wv s.mw) L q;exact a.aB a1 (sO A a (T:=⟨.r1,s.mw,nw,q,L,it+1,ex,C⟩) rfl hs (λe=>(l.aw e).1) (by simp only at j ⊢;omega) m t i)
def Zs(o:Lk X V M F)(a:uA X V Fin M F c0 cs C)(A:MG X V Fin M F c0 cs C k){old nw:Wd}{it:Nat}{ex:Bool}(m:old.k<=3)(h:PV X c0 cs ⟨.c2,old,nw,q,L,it,ex,C⟩ g)(B:F w) :
 iF X V Fin (k+1) ⟨.c2,old,nw,q,L,it,ex,C⟩ M 1 g w:=by
 replace h:=h.2;obtain⟨D,f,t,rfl,hc⟩:=h;refine B8 o hc (bA) (bA) B λs H hs=>⟨λe=>?_,λe=>⟨_,.Ww _ rfl e,?_⟩⟩
 .by_cases u:s.mw.l=fJ/\s.mw.s=fJ
  .refine⟨_,.take _ rfl e u.1 u.2,λw' z=>?_⟩;simp only at e;rw[e]at u;obtain⟨l,i,j,n⟩:=old;obtain⟨rfl,rfl⟩:=u;obtain⟨c,a1,a2⟩:=G6 X.Mu f (iw X.Mu c0 cs) (lm kw (t:Int)) (lm kw (it:Int)) L q i n m;exact o.aB a1 (aeb o a _ _ _ _ _ _ _ z a2)
  .have v:s.mw.l=fO\/s.mw.s=fO:=by
    grind
   refine⟨_,.queue _ rfl e v,λw' z=>?_⟩;simp only at e;rw[e]at v;have b:∀c(p:Nat)x y,gZ (S7 (A7 X.Mu c (lm kw (p:Int)) L q x y) FD.frame.todo (iw X.Mu c0 cs))=e7 (142,e7 (lR (e7 ⟨X.Mu,1,e8⟩)))->
    ay X V fJ (eU X V Fin k { pc:=.s1,sv:=L,r:=C }) M 1 (S7 (A7 X.Mu c (lm kw (p:Int)) L q x y) FD.frame.todo (iw X.Mu c0 cs)) w':=
    λc p x y hs=>A.run o (T:={ pc:=.s1,sv:=L,r:=C }) rfl ar (.refl _) ⟨ar,c,p,q,x,y,rfl,hs⟩ z
   obtain⟨l,i,j,n⟩:=old
   have key:(∃c,gm (fin (S7 (A7 X.Mu f (lm kw (t:Int)) L q (lm kw (it:Int)) (wv ⟨l,i,j,n⟩)) xI.frame.todo (iw X.Mu c0 cs)) (l5 fO)) (S7 (A7 X.Mu c (lm kw (t:Int)) L q (lm kw (it:Int)) (wv ⟨l,i,j,n⟩)) Te.frame.todo (iw X.Mu c0 cs))/\
    az (S7 (A7 X.Mu c (lm kw (t:Int)) L q (lm kw (it:Int)) (wv ⟨l,i,j,n⟩)) Te.frame.todo (iw X.Mu c0 cs))=e7 (141,#[]))\/
    (∃c,gm (fin (S7 (A7 X.Mu f (lm kw (t:Int)) L q (lm kw (it:Int)) (wv ⟨l,i,j,n⟩)) xI.frame.todo (iw X.Mu c0 cs)) (l5 fO)) (S7 (A7 X.Mu c (lm kw (t:Int)) L q (lm kw (it:Int)) (wv ⟨l,i,j,n⟩)) FD.frame.todo (iw X.Mu c0 cs))/\
    gZ (S7 (A7 X.Mu c (lm kw (t:Int)) L q (lm kw (it:Int)) (wv ⟨l,i,j,n⟩)) FD.frame.todo (iw X.Mu c0 cs))=e7 (142,e7 (lR (e7 ⟨X.Mu,1,e8⟩)))):=by
    cases t with
    |zero=>
     left;cases l<;>cases j<;>simp at v
     .exact Mp X.Mu f (iw X.Mu c0 cs) (lm kw (it:Int)) L q i n m
     .exact Mt X.Mu f (iw X.Mu c0 cs) (lm kw (it:Int)) L q i n m
     .exact Mr X.Mu f (iw X.Mu c0 cs) (lm kw (it:Int)) L q i n m
    |succ t=>
     right;cases l<;>cases j<;>simp at v
     .exact Mq X.Mu f (iw X.Mu c0 cs) t (lm kw (it:Int)) L q i n m
     .exact Mw X.Mu f (iw X.Mu c0 cs) t (lm kw (it:Int)) L q i n m
     .exact Ms X.Mu f (iw X.Mu c0 cs) t (lm kw (it:Int)) L q i n m
   rcases key with⟨c,a1,a2⟩|⟨c,a1,a2⟩
   .refine o.aB a1 (o.nano a2 λp=>?_);obtain⟨E,a3,a4⟩:=aip X.Mu c (iw X.Mu c0 cs) (lm kw (t:Int)) (lm kw (it:Int)) (wv ⟨l,i,j,n⟩) (lm kw (p:Int)) L q;exact o.aB a3 (b E p _ _ a4)
   .exact o.aB a1 (b c t _ _ a2)
 .obtain⟨c,a1,a2⟩:=adg X.Mu f (iw X.Mu c0 cs) (lm kw (t:Int)) (lm kw (it:Int)) (wv old) L q;exact o.aB a1 (A.run o (T:=⟨.r3,old,nw,q,L,it,ex,C⟩) rfl ar (.refl _) ⟨m,D,c,t,rfl,a2⟩ B)
def Zt(a:Lk X V M F)(n:uA X V Fin M F c0 cs C)(A:MG X V Fin M F c0 cs C k){old nw:Wd}{it:Nat}{ex:Bool}(o:old.k<=3)(h:PV X c0 cs ⟨.r3,old,nw,q,L,it,ex,C⟩ g)(i:F w) :
 iF X V Fin (k+1) ⟨.r3,old,nw,q,L,it,ex,C⟩ M 1 g w:=by
 replace h:=h.2;obtain⟨j,f,t,rfl,hl⟩:=h;refine sP a hl Js (bA) (bA) λs l hs=>⟨_,.Wx _ _ rfl .c2,?_⟩
 obtain⟨m,a1,a2⟩:=ain X.Mu f (iw X.Mu c0 cs) (lm kw (t:Int)) (lm kw (it:Int)) (wv old) (wv s.mw) L q;exact a.aB a1 (sO A a (T:=⟨.r3,s.mw,nw,q,L,it,ex,C⟩) rfl hs (λe=>(l.aw e).1) j m t i)
def Zu(a:Lk X V M F)(v:uA X V Fin M F c0 cs C)(A:MG X V Fin M F c0 cs C k){old nw:Wd}{it:Nat}{ex:Bool}(x:old.k<=3)(h:PV X c0 cs ⟨.s1,old,nw,q,L,it,ex,C⟩ g)(p:F w) :
 iF X V Fin (k+1) ⟨.s1,old,nw,q,L,it,ex,C⟩ M 1 g w:=by
 replace h:=h.2;obtain⟨f,t,b,c,i,rfl,hs⟩:=h;refine Zn a hs rfl p λs _ m=>⟨_,.woken _ L rfl (λe=>e) m,λw' o=>?_⟩
 cases L with
 |true=>
  obtain⟨l,a1,a2⟩:=adh X.Mu f (iw X.Mu c0 cs) (lm kw (t:Int)) c i b;exact a.aB a1 (A.run a (T:={ pc:=.r2,sv:=fO,r:=C }) rfl ar (.refl _) ⟨ar,l,t,b,c,i,rfl,a2⟩ o)
 |false=>
  obtain⟨l,a1,a2⟩:=adi X.Mu f (iw X.Mu c0 cs) (lm kw (t:Int)) c i b;refine a.aB a1 (a.nano a2 λn=>?_);obtain⟨u,a3,a4⟩:=aiq X.Mu l (iw X.Mu c0 cs) c i (t:Int) (n:Int) b;exact a.aB a3 (A.run a (T:={ pc:=.r2,sv:=decide (kp kw ((n:Int)-(t:Int)) > 1000000),r:=C }) rfl ar (.r2 _ _ rfl ar) ⟨ar,u,t,b,c,i,rfl,a4⟩ o)
def Zv(a:Lk X V M F)(y:uA X V Fin M F c0 cs C)(A:MG X V Fin M F c0 cs C k){old nw:Wd}{it:Nat}{ex:Bool}(z:old.k<=3)(h:PV X c0 cs ⟨.r2,old,nw,q,L,it,ex,C⟩ g)(o:F w) :
 iF X V Fin (k+1) ⟨.r2,old,nw,q,L,it,ex,C⟩ M 1 g w:=by
 replace h:=h.2;obtain⟨f,t,i,j,p,rfl,hl⟩:=h;refine sP a hl Js (bA) (bA) λs n hs=>?_
 cases c:s.mw.s with
 |false=>
  refine⟨_,.Wz _ _ rfl c .c2,?_⟩;have e:s.mw=⟨s.mw.l,s.mw.w,fJ,s.mw.k⟩:=xS rfl rfl c;obtain⟨m,a1,a2⟩:=adj X.Mu f (iw X.Mu c0 cs) (lm kw (t:Int)) j p L i s.mw.l s.mw.w s.mw.k hs;rw[<-e]at a1;exact a.aB a1 (sO A a (T:=⟨.r2,s.mw,nw,fO,L,0,ex,C⟩) rfl hs (λ_=>n.r2n rfl c) ar m t o)
 |true=>
  obtain⟨u,v,x⟩:=n.r2 rfl c;refine⟨_,.handed _ rfl c,?_⟩;have e:s.mw=⟨fJ,fJ,fO,s.mw.k⟩:=xS u v c;obtain⟨m,a1,a2⟩:=adk X.Mu f (iw X.Mu c0 cs) (lm kw (t:Int)) j p L i s.mw.k hs x;rw[<-e]at a1 a2;exact a.aB a1 (A.run a (T:={ pc:=.a1,sv:=L,ex:=!L||s.mw.k==1,r:=C }) rfl ar (.refl _) ⟨ar,m,_,i,j,_,rfl,a2⟩ o)
def Zw(a:Lk X V M F)(e:uA X V Fin M F c0 cs C)(A:MG X V Fin M F c0 cs C k){old nw:Wd}{it:Nat}{ex:Bool}(u:old.k<=3)(h:PV X c0 cs ⟨.a1,old,nw,q,L,it,ex,C⟩ g)(i:F w) :
 iF X V Fin (k+1) ⟨.a1,old,nw,q,L,it,ex,C⟩ M 1 g w:=by
 replace h:=h.2;obtain⟨f,st,j,m,n,rfl,hc⟩:=h;refine PW a hc (bA) (bA) i λs o hs=>⟨_,_,?_,.acK _ rfl,λw' p=>?_⟩
 .obtain⟨c,r,t,v⟩:=o.a1 rfl;rw[xS c r t];obtain h|h|h:s.mw.k=1\/s.mw.k=2\/s.mw.k=3:=ab
  all_goals (rw[h];simp only;cases ex<;>rfl)
 .obtain⟨x,a1,a2⟩:=air X.Mu f (iw X.Mu c0 cs) st m n (wv { l:=fO,w:=s.mw.w,s:=s.mw.s && !ex,k:=s.mw.k-1 }) L j;exact a.aB a1 (aeb a e _ _ _ _ _ _ _ p a2)
def arr(L:Lk X V M F)(r:Nat)(a:uA X V Fin M F c0 cs r):∀k,MG X V Fin M F c0 cs r k
 |0=>λ_ _ _ _ _ _=>trivial
 |k+1=>λT g w e h c=>by
  have A:=arr L r a k;have b:=h.1;obtain⟨pc,f,i,j,l,it,ex,m⟩:=T;simp only at e b;subst e
  cases pc with
  |l0=>exact Zo L a A b h c
  |r0=>exact Zp L a A b h c
  |c1=>exact Zq L a A b h c
  |r1=>exact Zr L a A b h c
  |c2=>exact Zs L a A b h c
  |r3=>exact Zt L a A b h c
  |s1=>exact Zu L a A b h c
  |r2=>exact Zv L a A b h c
  |a1=>exact Zw L a A b h c
  |_=>exact absurd h.2 id
def MH(L:Lk X V M F)(r:Nat)(a:uA X V Fin M F c0 cs r)(k:Nat)(b:F w) :
 ay X V fJ (eU X V Fin k { pc:=.l0,r:=r }) M 0 (G (he X.P 89 #[lR (e7 ⟨X.Mu,0,e8⟩)] oh) (c0::cs)) w:=by
 rw[L.hP];exact L.aB (l_E X.Mu c0 cs) (L.sG (aiu X.Mu c0 cs) (L.aB (l_0 X.Mu c0 cs) ((arr L r a k).run L (T:={ pc:=.l0,r:=r }) rfl ar (.refl _) ⟨ar,rfl⟩ b)))
end
end Go.Proofs
namespace Go.Proofs
open Go.Ph Go.Conc Go.ConcN
open Go.ConcM (MuAt muA msA OsLater muBlock)
open Go.ConcR (KK WgAt stA smA rd wr mk)
open Go.cD (Wd Th Mv bP)
variable {C:Nat}{O q:Bool}
def aec(m:Nat)(f:Nat->aT)(o:aT)(up:List aI):ce PP (G (vk (A9 m f o) wus.frame.todo) up)=fO:=ae
def aed(m:Nat)(f:Nat->aT)(o:aT)(up:List aI):ce PP (G (vk (A9 m f o) wuh.frame.todo) up)=fO:=ae
def aee(m:Nat)(c0:aI)(cs:List aI):(PP.funcs[(x0 m c0 cs).frame.fn]?).any (·.norace)=fO:=ae
section
variable {X:Fix}{V:Vw}{M:Own}{F:aF->Prop}{Fin:aF->Prop}{d:Nat}{g:aL}{w:aF}{k:Nat}{T:Th}{c0:aI}{cs:List aI}{r:Nat}
def PX(L:Lk X V M F)(h:gZ g=e7 (144,e7 (lR (e7 ⟨X.Mu,1,e8⟩))))(i:ce X.P g=fO)(b:T.pc=.us)(j:F w)
 (H:∀s:Sh,∃T',Mv s.mw s.ms T T' s.mw (s.ms+1)/\∀w',F w'->ay X V fJ (eU X V Fin k T') M d (fin g (l3 #[])) w'):iF X V Fin (k+1) T M d g w:=by
 obtain⟨args,a,l⟩:=xR h;unfold iF;refine⟨(aj a).1,(aj a).2.1,λ_=>i,λs c p q m=>⟨λe=>(by rw[b]at e;cases e.1),λ_=>?_⟩⟩;obtain⟨T',a1,a2⟩:=H s;have st:=sr (mn:=V.g==0) a l (by rw[L.hP];exact aiK:cw X.P 144 fO _) c m;have f:=c.setMs L.hc.ids (s.ms+1);obtain⟨n,o⟩:=sL L.hc (nt rfl) _ f;exact⟨T',s.mw,s.ms+1,_,_,_,M,d,a1,st,f,o d _ (JD (xO c)),(aj a).2.2 _,a2 _ (L.hF _ _ j n)⟩
def PU(X:Fix)(c0:aI)(cs:List aI)(T:Th)(g:aL):Prop:=
 let up:=tN X.Mu c0 cs
 match T.pc with
 |.u0=>∃v,g=x4 X.Mu c0 cs v
 |.uc=>∃n,n<=3/\n≠0/\T.old=⟨fJ,fJ,fJ,n⟩/\∃f f4,g=G (vk (A9 X.Mu f (wv ⟨fJ,fJ,fJ,n⟩)) Tf.frame.todo) (mY (A4 X.Mu f4) w4::up)/\az g=e7 (131,#[pt X.Mu,wv ⟨fJ,fJ,fJ,n⟩,wv ⟨fJ,fO,fJ,n-1⟩])
 |.ux=>∃f f4 a,g=G (vk (A9 X.Mu f a) wux.frame.todo) (mY (A4 X.Mu f4) w4::up)/\fj g=e7 (21,pt X.Mu)
 |.us=>∃f f4 a,(g=G (vk (A9 X.Mu f a) wus.frame.todo) (mY (A4 X.Mu f4) w4::up)\/g=G (vk (A9 X.Mu f a) wuh.frame.todo) (mY (A4 X.Mu f4) w4::up))/\gZ g=e7 (144,e7 (lR (e7 ⟨X.Mu,1,e8⟩)))
 |_=>False
def MJ(X:Fix)(V:Vw)(Fin:aF->Prop)(M:Own)(F:aF->Prop)(c0:aI)(cs:List aI)(r k:Nat):Prop:=∀T g w,T.r=r->PU X c0 cs T g->F w->iF X V Fin k T M 1 g w
def MJ.run(A:MJ X V Fin M F c0 cs r k)(L:Lk X V M F){T:Th}(a:T.r=r)(b:T.pc≠.out)(h:PU X c0 cs T g)(c:F w):ay X V fJ (eU X V Fin k T) M 1 g w:=
 .stop λe f=>ae9 b (.refl _) (A T g e a h (L.hF _ _ c f))
def MK(X:Fix)(V:Vw)(Fin:aF->Prop)(M:Own)(F:aF->Prop)(c0:aI)(cs:List aI)(r:Nat):Prop:=∀k w,F w->ay X V fJ (eU X V Fin k (bP r)) M 0 (G (hm c0 (l3 #[])) cs) w
def UC(L:Lk X V M F)(hd:MK X V Fin M F c0 cs r)(f:Nat->aT)(w:aF)(a:F w)(hc:az (G (mY (A4 X.Mu f) Pt.frame.todo) (tN X.Mu c0 cs))=e7 (104,#[])) :
 ay X V fJ (eU X V Fin k (bP r)) M 1 (G (mY (A4 X.Mu f) Pt.frame.todo) (tN X.Mu c0 cs)) w:=
 L.en hc ((u_e X.Mu c0 cs f).run L.hP L.hg (hd k w a))
def Zx(L:Lk X V M F)(hd:MK X V Fin M F c0 cs C)(A:MJ X V Fin M F c0 cs C k){old nw:Wd}{it:Nat}{ex:Bool}(h:PU X c0 cs ⟨.u0,old,nw,O,q,it,ex,C⟩ g)(x:F w) :
 iF X V Fin (k+1) ⟨.u0,old,nw,O,q,it,ex,C⟩ M 1 g w:=by
 obtain⟨v,i⟩:=h;have hl:=aiC X.Mu c0 cs v;rw[<-i]at hl;refine PW L hl (bA) (bA) x λs y hs=>?_;have t:=y.u0 rfl;have j:kp kq (((s.mw.num:Nat):Int) + -1)=((({ s.mw with l:=fJ }:Wd).num:Nat):Int):=by
  obtain⟨z,D⟩:=s;obtain⟨l,B,a,n⟩:=z;simp only at t hs ⊢;subst t;obtain h|h|h|h:n=0\/n=1\/n=2\/n=3:=ab
  all_goals (subst h;cases B<;>cases a<;>rfl)
 cases b:s.mw.s with
 |true=>
  refine⟨_,_,j,.hand _ rfl b,λw' c=>?_⟩;obtain⟨f,f4,a1,a2⟩:=YX X.Mu c0 cs v s.mw.w s.mw.k hs;have e:({ s.mw with l:=fJ }:Wd)=⟨fJ,s.mw.w,fO,s.mw.k⟩:=xS rfl rfl b;rw[i,e];exact L.aB a1 (A.run L (T:={ pc:=.us,r:=C }) rfl ar ⟨f,f4,_,nV rfl,a2⟩ c)
 |false=>
  by_cases m:s.mw.k=0\/s.mw.w=fO
  .refine⟨_,_,j,.free _ rfl b m,λw' c=>?_⟩;obtain⟨f,a1,a2⟩:=YW X.Mu c0 cs v s.mw.w s.mw.k hs m;have e:({ s.mw with l:=fJ }:Wd)=⟨fJ,s.mw.w,fJ,s.mw.k⟩:=xS rfl rfl b;rw[i,e];exact L.aB a1 (UC L hd f w' c a2)
  .have o:s.mw.k≠0:=λh=>m (nt h);have u:s.mw.w=fJ:=aS;refine⟨_,_,j,.acL _ rfl b o u,λw' c=>?_⟩;obtain⟨f,f4,a1,a2⟩:=YY X.Mu c0 cs v s.mw.k hs o;have e:({ s.mw with l:=fJ }:Wd)=⟨fJ,fJ,fJ,s.mw.k⟩:=xS rfl u b;rw[i,e];exact L.aB a1 (A.run L (T:={ pc:=.uc,old:=⟨fJ,fJ,fJ,s.mw.k⟩,r:=C }) rfl ar ⟨s.mw.k,hs,o,rfl,f,f4,rfl,a2⟩ c)
def Zy(L:Lk X V M F)(A:MJ X V Fin M F c0 cs C k){old nw:Wd}{it:Nat}{ex:Bool}(h:PU X c0 cs ⟨.uc,old,nw,q,O,it,ex,C⟩ g)(l:F w) :
 iF X V Fin (k+1) ⟨.uc,old,nw,q,O,it,ex,C⟩ M 1 g w:=by
 obtain⟨n,o,p,e,f,f4,rfl,hc⟩:=h;simp only at e;subst e;refine B8 L hc (bA) (bA) l λs _ _=>⟨λe=>⟨{ pc:=.us,r:=C },?_,λw' m=>?_⟩,λe=>⟨_,.again _ rfl e,?_⟩⟩
 .have:=Mv.release (w:=s.mw) (ms:=s.ms) (⟨.uc,⟨fJ,fJ,fJ,n⟩,nw,q,O,it,ex,C⟩:Th) rfl e;grind
 .obtain⟨i,j,a1,a2⟩:=adp X.Mu c0 cs f f4 (wv ⟨fJ,fJ,fJ,n⟩);exact L.aB a1 (A.run L (T:={ pc:=.us,r:=C }) rfl ar ⟨i,j,_,nt rfl,a2⟩ m)
 .obtain⟨i,j,a1,a2⟩:=adq X.Mu c0 cs f f4 (wv ⟨fJ,fJ,fJ,n⟩);exact L.aB a1 (A.run L (T:={ pc:=.ux,r:=C }) rfl ar ⟨i,j,_,rfl,a2⟩ l)
def Zz(L:Lk X V M F)(hd:MK X V Fin M F c0 cs C)(A:MJ X V Fin M F c0 cs C k){old nw:Wd}{it:Nat}{ex:Bool}(h:PU X c0 cs ⟨.ux,old,nw,q,O,it,ex,C⟩ g)(n:F w) :
 iF X V Fin (k+1) ⟨.ux,old,nw,q,O,it,ex,C⟩ M 1 g w:=by
 obtain⟨f,f4,o,rfl,hl⟩:=h;refine sP L hl ady (bA) (bA) λs _ hs=>?_;by_cases b:s.mw.k=0\/s.mw.l=fO\/s.mw.w=fO\/s.mw.s=fO
 .refine⟨_,.leave _ rfl b,?_⟩;obtain⟨c,a1,a2⟩:=Uj X.Mu c0 cs f f4 o s.mw.l s.mw.w s.mw.s s.mw.k hs b;exact L.aB a1 (UC L hd c w n a2)
 .have i:s.mw.k≠0:=λh=>b (nt h);have p:s.mw.l=fJ:=aS;have a:s.mw.w=fJ:=aS;have t:s.mw.s=fJ:=aS;refine⟨_,.WA _ rfl i p a t,?_⟩;obtain⟨c,u,a1,a2⟩:=Uk X.Mu c0 cs f f4 o s.mw.k hs i;have e:s.mw=⟨fJ,fJ,fJ,s.mw.k⟩:=xS p a t;rw[<-e]at a1;refine L.aB a1 (A.run L (T:={ pc:=.uc,old:=s.mw,r:=C }) rfl ar ⟨s.mw.k,hs,i,e,c,u,?_,?_⟩ n)
  .rw[<-e]
  grind
def ZA(L:Lk X V M F)(hd:MK X V Fin M F c0 cs C){old nw:Wd}{it:Nat}{ex:Bool}(h:PU X c0 cs ⟨.us,old,nw,q,O,it,ex,C⟩ g)(j:F w) :
 iF X V Fin (k+1) ⟨.us,old,nw,q,O,it,ex,C⟩ M 1 g w:=by
 obtain⟨f,f4,o,h,hs⟩:=h
 rcases h with rfl|rfl
 .refine PX L hs (by rw[L.hP];exact aec _ _ _ _) rfl j λs=>⟨_,.post _ rfl,λw' b=>?_⟩
  obtain⟨c,a1,a2⟩:=aiE X.Mu c0 cs f f4 o;exact L.aB a1 (UC L hd c w' b a2)
 .refine PX L hs (by rw[L.hP];exact aed _ _ _ _) rfl j λs=>⟨_,.post _ rfl,λw' b=>?_⟩
  obtain⟨c,a1,a2⟩:=aiF X.Mu c0 cs f f4 o;exact L.aB a1 (UC L hd c w' b a2)
def aef(L:Lk X V M F)(r:Nat)(hd:MK X V Fin M F c0 cs r):∀k,MJ X V Fin M F c0 cs r k
 |0=>λ_ _ _ _ _ _=>trivial
 |k+1=>λT g w b h a=>by
  have A:=aef L r hd k;obtain⟨pc,c,e,f,i,it,ex,j⟩:=T;simp only at b;subst b
  cases pc with
  |u0=>exact Zx L hd A h a
  |uc=>exact Zy L A h a
  |ux=>exact Zz L hd A h a
  |us=>exact ZA L hd h a
  |_=>exact absurd h id
def D7(L:Lk X V M F)(r:Nat)(hd:MK X V Fin M F c0 cs r)(k:Nat)(a:F w) :
 ay X V fJ (eU X V Fin k { pc:=.u0,r:=r }) M 0 (G (he X.P 90 #[lR (e7 ⟨X.Mu,0,e8⟩)] oh) (c0::cs)) w:=by
 rw[L.hP];refine L.aB (u_E X.Mu c0 cs) ?_;obtain⟨o,x,c,e,f⟩:=kO (aiy X.Mu c0 cs);refine .ad2 L.hc c e f (k:=kq) (by rw[L.hP];exact u21) (by rw[L.hP];exact aee X.Mu c0 cs) (λi h=>?_) λv=>?_
 .obtain⟨⟨_,_,k⟩,_⟩:=L.hL _ (L.hF _ _ a h);exact⟨_,k.cellSt⟩
 refine L.aB (u_0 X.Mu c0 cs v) ?_;refine L.conv (aiz X.Mu c0 cs v) a ?_;refine L.aB (u_1 X.Mu c0 cs v) ?_;refine L.ajy (aiA X.Mu c0 cs v) a ?_;refine L.aB (u_2 X.Mu c0 cs v) ?_;refine L.sG (aiB X.Mu c0 cs v) ?_;refine L.aB (u_3 X.Mu c0 cs v) ?_;have b:PU X c0 cs { pc:=.u0,r:=r } (x4 X.Mu c0 cs v):=by
  unfold PU;grind
 generalize x4 X.Mu c0 cs v=g at b ⊢;exact(aef L r hd k).run L (T:={ pc:=.u0,r:=r }) rfl ar b a
end
end Go.Proofs
namespace Go.Proofs
open Go.Ph Go.Conc Go.ConcN Go.bJ
def lD:Array aT:=#[lm kw 0,lm kw 0,lm kw 0,lm kw 0,lm kw 0]
def aeg:∃i,PP.info? 73=e7 i/\i.zero=e7 (lp lD):=by
 have h:(PP.info? 73).map (·.zero)=e7 (e7 (lp lD)):=ae;simp_all
section
variable {T:aa}{fB fA:Array aH}{F:ac->Bool}{Z:ai->Bool}{X:Fix}{V:Vw}{Bs:Nat}{bot:aI}{up:List aI}{ρ:Ren}{M:Own}{g g':aL}{wL w w':aF}
def _root_.Go.Ph.iG.aeh(h:iG T fB fA F Z bot up X V Bs ρ M g wL g' w){lb:Nat}{l l':Loop}(m:ρ 0 lb)(r:0<Bs)(hs:w.heap.size<=w'.heap.size)(hb:∀a b,ρ a b->b≠lb->w'.heap[b]?=w.heap[b]?)(hl:w.heap[lb]?=e7 (nk l))(p:w'.heap[lb]?=e7 (nk l')) :
 iG T fB fA F Z bot up X V Bs ρ M g wL g' w':=by
 refine⟨h.inj,⟨h.wr.pK,da h.wr.gN hs,h.wr.base,λ{a b}c f=>?_,λ{a b}c f=>?_⟩,h.g,h.own,h.clear,λb hb=>⟨bT (h.sG b hb).1 hs,(h.sG b hb).2⟩⟩
 .obtain⟨o,q,j,i,k⟩:=h.wr.obj c f;have t:b≠lb:=λe=>by
   subst e;have:=h.inj.inj c m;omega
  grind
 .obtain⟨o,q,j,i,k⟩:=h.wr.low c f;by_cases e:b=lb
  .subst e;rw[hl]at i;cases i;cases k<;>exact⟨_,_,j,p,.loop _ _⟩
  grind
end
section
variable {X:Fix}{V:Vw}{D:jB}{np s n:Nat}{dl:Int}{gn:ByteArray}{bc bg bt:Nat}{w0 w w':aF}{M:Own}{ρ:Ren}{Stop:Stp}{d:Nat}{g g' gL:aL}{wL:aF}{b0 b1 lb b5:Nat}{st st':a7}
def Iv.alloc(k:zl X V D np s n dl gn bc bg bt w0)(h:Iv X V np D n bc bg bt b0 b1 w0 ρ M lb st gL wL g' w)(o:Obj) :
 Iv X V np D n bc bg bt b0 b1 w0 ρ (λb=>M b\/b=w.heap.size) lb st gL wL g' (f7 w o)/\∀a,¬ρ a w.heap.size:=by
 obtain⟨⟨_,_,v1⟩,⟨_,_,e⟩,j,f,l⟩:=h.kn.live;have m:=bn v1;have p:=bn e;have q:=bn f;have c:∀b,b<w.heap.size->(f7 w o).heap[b]?=w.heap[b]?:=λb hb=>by
  show(w.heap.push _)[b]?=_;grind
 have r:ed X V (λb=>M b\/b=w.heap.size):=k.clear λb hb=>by
  rcases hb with hb|hb
  .exact h.lk.clear.own b hb
  .exact⟨ab,ab,ab⟩
 have i:∀a b,ρ a b->b<w.heap.size:=λa b x=>(h.lk.wr.lt x).2;refine⟨⟨(h.lk.more (λ_ x=>nt x) r λb hb x=>?_).same (by simp[f8]) λa b x=>c b (i a b x),⟨?_,λb hb=>?_,by simp only[f8];have:=h.kn.size;omega⟩,⟨h.gd.r0,nt h.gd.ml,nt h.gd.md,h.gd.pos,h.gd.un,?_,?_⟩,h.le⟩,λa x=>?_⟩
 .have:=h.lk.sG b hb;grind
 .exact⟨⟨_,_,by unfold hq at v1 ⊢;rw[c _ m];exact v1⟩,⟨_,_,by unfold hG at e ⊢;rw[c _ p];exact e⟩,j,by rw[c _ q];exact f,l⟩
 .rw[c b (h.lk.sG b hb).1];exact h.kn.st b hb
 .rw[c _ (bn h.gd.hl)];exact h.gd.hl
 .rw[c _ (bn h.gd.hd)];exact h.gd.hd
 .have:=i a _ x;omega
def Iv.same(h:Iv X V np D n bc bg bt b0 b1 w0 ρ M lb st gL wL g' w)(hl:Live X w')(hs:w.heap.size<=w'.heap.size)(c:∀a b,ρ a b->w'.heap[b]?=w.heap[b]?)(e:∀b,V.st b->w'.heap[b]?=w.heap[b]?)(hd:w'.heap[lb-1]?=w.heap[lb-1]?) :
 Iv X V np D n bc bg bt b0 b1 w0 ρ M lb st gL wL g' w':=
 ⟨h.lk.same hs c,⟨hl,λb hb=>(e b hb).t (h.kn.st b hb),da h.kn.size hs⟩,{ h.gd with hl:=(c _ _ h.gd.r0).t h.gd.hl,hd:=hd.t h.gd.hd },h.le⟩
def Iv.PY(h:Iv X V np D n bc bg bt b0 b1 w0 ρ M lb st gL wL g' w):Iv X V np D n bc bg bt b0 b1 w0 ρ M lb st' gL wL g' (ge w lb (nk (Ti X np D n bc bg bt b0 b1 lb st'))):=by
 have k:=bn h.gd.hl;have i:=World.putObj_heap_same (w:=w) (o:=nk (Ti X np D n bc bg bt b0 b1 lb st')) k;have c:∀b,b≠lb->(ge w lb (nk (Ti X np D n bc bg bt b0 b1 lb st'))).heap[b]?=w.heap[b]?:=λb hb=>gf hb;have f:=h.lk.clear.own lb h.gd.ml;obtain⟨⟨_,_,v1⟩,⟨_,_,j⟩,l,m,p⟩:=h.kn.live;refine⟨h.lk.aeh h.gd.r0 ab ar (λa b _ hb=>c b hb) h.gd.hl i,⟨?_,λb hb=>?_,by simp;exact h.kn.size⟩,{ h.gd with hl:=i,hd:=by rw[c _ (by have:=h.gd.pos;omega)];exact h.gd.hd },h.le⟩
 .exact⟨⟨_,_,by unfold hq at v1 ⊢;rw[c _ (gr f.1)];exact v1⟩,⟨_,_,by unfold hG at j ⊢;rw[c _ (gr f.2.1)];exact j⟩,l,by rw[c _ (gr f.2.2)];exact m,p⟩
 .rw[c b λe=>(h.lk.sG b hb).2 (e▸h.gd.ml)];exact h.kn.st b hb
def _root_.Go.Ph.ay.UD{g g':aL}{b:Nat}(hc:ed X V M)(hs:g.status=p9)(hl:Live X w)(hb:M b)(i:b<w.heap.size)
 (h:∀a,Rl X V M w a->∃es,stepG X.P (V.g==0) g a=m7 g' a es/\∀e∈es,e=⟨.obj b,fJ,fJ⟩) (j:g'.status=p9) (k:∀a,Rl X V M w a->ay X V fJ Stop M d g' a):ay X V fJ Stop M d g w:=
 .own hc hs hl λa r=>by
  obtain⟨es,l,f⟩:=h a r;refine⟨_,_,es,l,rfl,rfl,.refl _,dk _,λx _ _=>rfl,λe c=>?_,j,?_⟩
  .rw[f e c,pU];exact DG hb (bT i r.size)
  .rw[pU,Am d (b:=b) λe c=>⟨fJ,f e c⟩];exact k a r
def bS(np s:Nat)(D:jB)(dl:Int):Nat->Int×Int
 |0=>(dl,dl)
 |r+1=>WZ np s D r (bS np s D dl r)
structure Rows(X:Fix)(V:Vw)(np s n:Nat)(D:jB)(dl:Int)(r:Nat)(w:aF):Prop where
 put:∀r',r'<r->∀j,j<5->f6 w ⟨X.Tb,n*25+bY np s r'*5+j,e8⟩=(cG np s D r' (bS np s D dl r'))[j]?
 rest:∀j,V.row j->(j<n*25\/n*25+np*5<=j)->f6 w ⟨X.Tb,j,e8⟩=e7 (lm kw 0)
def oW(h:0<np){r:Nat}:bY np s r<np:=Nat.mod_lt _ h
def PZ{r a:Nat}(h:a<r)(k:r<np):bY np s a≠bY np s r:=by
 unfold bY;intro e;have l:=lf (s+r) np;have i:=lf (s+a) np;rw[e]at i;have b:np*((s+r) / np)-np*((s+a) / np)=r-a:=ab;rw[<-Nat.mul_sub]at b;have c:0<r-a:=ab;have j:r-a<np:=ab;rw[<-b]at c j;have:(s+r) / np-(s+a) / np=0:=by
  by_cases f:(s+r) / np-(s+a) / np=0
  .exact f
  .have:=pa np (ky f);omega
 rw[this]at c;omega
def Rows.tb{r:Nat}(h:Rows X V np s n D dl r w)(e:w'.heap[X.Tb]?=w.heap[X.Tb]?):Rows X V np s n D dl r w':=by
 have c:∀o,f6 w' ⟨X.Tb,o,e8⟩=f6 w ⟨X.Tb,o,e8⟩:=λo=>by simp only[f6,e]
 exact⟨λa b j f=>(c _).t (h.put a b j f),λj i k=>(c _).t (h.rest j i k)⟩
def Rows.row(k:zl X V D np s n dl gn bc bg bt w0){r:Nat}(l:r<=np)(h:Rows X V np s n D dl r w)(a:sK X V w w'):Rows X V np s n D dl r w':=⟨λb e j f=>by
 rw[a _ (k.row _ ab (by
  have:=oW (s:=s) (r:=b) (show 0<np by omega);have:=k.MC
  omega))]
 exact h.put b e j f,λj c i=>(a j c).t (h.rest j c i)⟩
def Rows.next{r:Nat}(i:r<np)(h:Rows X V np s n D dl r w)(k:∀j,j<5->f6 w' ⟨X.Tb,n*25+bY np s r*5+j,e8⟩=(cG np s D r (bS np s D dl r))[j]?)
 (b:∀j,(j<n*25+bY np s r*5\/n*25+bY np s r*5+5<=j)->f6 w' ⟨X.Tb,j,e8⟩=f6 w ⟨X.Tb,j,e8⟩):Rows X V np s n D dl (r+1) w':=⟨λa l j c=>by
 by_cases e:a=r
 .subst e;exact k j c
 .have f:a<r:=ab;rw[b _ (by have:=PZ (s:=s) f i;omega)];exact h.put a f j c,λj k1 k2=>by
 rw[b j (by have:=oW (s:=s) (r:=r) (show 0<np by omega);omega)]
 exact h.rest j k1 k2⟩
end
open Go.cD (Th bP)
section
variable {X:Fix}{V:Vw}{D:jB}{np s n:Nat}{dl:Int}{gn:ByteArray}{bc bg bt:Nat}{w0 w w':aF}{M:Own}{ρ:Ren}{Fin:aF->Prop}{g g' gL:aL}{wL:aF}{b0 b1 lb b5 r m:Nat}{st st':a7}
def JE{Stop:Stp}(k:zl X V D np s n dl gn bc bg bt w0)(u:FE np s)(x:r<np){f Z}{c:Int×Int}(h:Iv X V np D n bc bg bt b0 b1 w0 ρ M lb st (gR np s (aW np D) r f) (wR np s (aW np D) (hU np D w0) n dl gn r c Z) g' w)
 (K:∀y i f Z l w2,Iv X V np D n bc bg bt b0 b1 w0 y i lb st (gY np s (aW np D) r c f) (wY np s (aW np D) (hU np D w0) n dl gn r (l9 np s (aW np D) r c) Z) l w2->sK X V w w2->ay X V fJ Stop i 0 l w2):ay X V fJ Stop M 0 g' w:=by
 have b:=u.round r x;obtain⟨d,z⟩:=b.c3 (aW np D) f;obtain⟨o,A,d⟩:=jC d;obtain⟨B,C⟩:=h.lk.g.op A;have e:ρ (Jz np D D.pb) D.pb:=h.le _ _ (pW (by simp[dR]));have e1:=C 34;rw[z]at e1;have e1:=PG h.lk.inj e1 e;have p:V.st D.pb:=(k.blk D.pb (by simp[dR])).1;have a:bY np s r<np:=oW ab;have E:((fb 12).map λj=>(pA D (bY np s r)).getD j undef).toArray=pA D (bY np s r):=rfl;refine .qM (v:=lp (pA D (bY np s r))) h.lk.clear h.kn.live B d e1 (λF q=>?_) (JB k p) ?_
 .have zz:=h.kn.rl q;have hc:∀j,j<12->f6 F ((⟨D.pb,D.po+12*bY np s r,e8⟩:aP).add j)=e7 ((pA D (bY np s r)).getD j undef):=λj H=>by
   rw[dY,zz.cell p,k.G8 _ a j H];grind
  have:=sH (P:=X.P) (t:=49) (by rw[k.hP];exact ajm) rfl (by rw[k.hP];exact ajl) hc;rw[E]at this;exact⟨this,pY (by have:=hc 0 ab;rwa[dY]at this)⟩
 have I:=h.fin (v:=lp (pA (aW np D) (bY np s r))) (v':=lp (pA D (bY np s r))) (.agg (cU.mono h.le (Ze (bT a k.MC))));refine I.seg k (q:=Yd np s (aW np D) (gR np s (aW np D) r f) (wR np s (aW np D) (hU np D w0) n dl gn r c Z) r) (by delta Yd;rfl) (b.e4 _ _ _ _ _ _ _ _) λJ L N w3 O Q=>?_;obtain⟨R,S,T⟩:=b.y' (aW np D) (hU np D w0) n dl gn c f Z;grind
def GC.base{up:List aI}(h:GC gp gt gt F3 ZZ default up ρ g g')(hc:g.callers=[default]):g'=G g'.frame up:=by
 obtain⟨i,⟨l,j,k,a,e,o⟩,p,b,q,c,t,d⟩:=h;obtain⟨f,cs',st',Bl,Bm⟩:=g';simp only at b c d a;subst b c d a;have hl:l=[]:=by
  simp_all
 subst hl;cases e;rfl
def UE(W bc bg a bt:Nat)(c:aT)(n:Int)(b v:aT):la (qJ W bc bg a bt c n b undef undef (λ_=>undef)) 9 v=qJ W bc bg a bt c n b v undef (λ_=>undef):=by
 unfold qJ;rw[Jv];refine Ap λi hi=>?_;unfold px;by_cases e:i=9
 .subst e;rfl
 .rw[if_neg e];unfold Ul;grind
def yields{Stop:Stp}(k:zl X V D np s n dl gn bc bg bt w0)(p:FE np s)(t:r<np){f}{c:Int×Int}{a:aF}(h:Iv X V np D n bc bg bt b0 b1 w0 ρ M lb st (gY np s (aW np D) r c f) a g' w)
 (K:∀w2,Iv X V np D n bc bg bt b0 b1 w0 ρ M lb st (gY np s (aW np D) r c f) a g' w2->sK X V w w2->g'=G g'.frame [xN X np D n bc bg bt b0 b1 lb,ez PP]->
   ay X V fJ Stop M 0 (rd0 X.Wg bc bg X.Mu bt (sJ np D) n (vO b0 b1) (lp (cG np s D r c)) lb (g'.frame::[xN X np D n bc bg bt b0 b1 lb,ez PP]) (λ_=>undef)) w2):ay X V fJ Stop M 0 g' w:=by
 have u:=p.round r t;obtain⟨e,v,y⟩:=u.c4 (aW np D) c f;obtain⟨o,z,e⟩:=jC e;obtain⟨A,i⟩:=h.lk.g.op z;have e1:=i 44;rw[v]at e1;have e1:=PI h.lk.inj Xa e1 h.gd.r0;have d:=i 45;rw[y]at d;obtain⟨j,d,B⟩:=Y5 d;have C:j=cG np s D r c:=by
  apply Array.toList_inj.1;have:cU F3 ρ ([((bY np s r:Nat):Int),c.1,c.2,(l9 np s D r c).1,(l9 np s D r c).2].map (lm kw)) j.toList:=B;rw[Uw this];rfl
 subst C;have hg:=GC.base h.lk.g rfl;refine .UD (b:=lb) h.lk.clear h.lk.g.st' h.kn.live h.gd.ml (bn h.gd.hl) (g':=rd0 X.Wg bc bg X.Mu bt (sJ np D) n (vO b0 b1) (lp (cG np s D r c)) lb (g'.frame::[xN X np D n bc bg bt b0 b1 lb,ez PP]) (λ_=>undef)) (λl q=>?_) rfl (λl q=>K l (h.rl q) q.row hg);have:=G3 (P:=X.P) (mn:=V.g==0) A e e1 (h.gd.rl q).hl rfl;obtain⟨es,E,F⟩:=this;refine⟨es,?_,F⟩;rw[E];have H:g'.callers=[xN X np D n bc bg bt b0 b1 lb,ez PP]:=congrArg Goroutine.callers hg;have I:((#[9]:Array Tmp).zip ((#[ph 45]:Array ch).map g'.frame.eval)).foldl (λtmps(x:Tmp×aT)=>la tmps x.1 x.2) (qJ X.Wg bc bg X.Mu bt (sJ np D) n (vO b0 b1) undef undef (λ_=>undef))=qJ X.Wg bc bg X.Mu bt (sJ np D) n (vO b0 b1) (lp (cG np s D r c)) undef (λ_=>undef):=by
  have J:(#[9]:Array Tmp).zip ((#[ph 45]:Array ch).map g'.frame.eval)=#[(9,g'.frame.eval (ph 45))]:=ar;rw[J,d];simp only[eS,fo,ly,List.foldl_toArray',cB,List.foldl_nil];exact UE _ _ _ _ _ _ _ _ _
 rw[H];unfold rd0;rw[<-I];rfl
end
def rH{cur vs:Array aT}(h:cur.size=vs.size):putRow cur 0 vs=vs:=by
 unfold putRow;grind
section
variable {X:Fix}{V:Vw}{D:jB}{np s n:Nat}{dl:Int}{gn:ByteArray}{bc bg bt:Nat}{w0 w w':aF}{M:Own}{ρ:Ren}{Fin:aF->Prop}{g gy gL:aL}{wL:aF}{b0 b1 lb b5 r m:Nat}{st:a7}
structure Hd(X:Fix)(V:Vw)(np s:Nat)(D:jB)(n:Nat)(dl:Int)(bc bg bt b0 b1:Nat)(w0:aF)(ρ:Ren)(M:Own)(lb b5 r rows:Nat)(st:a7)(gL:aL)(wL:aF)(gy:aL)(w:aF):Prop where
 iv:Iv X V np D n bc bg bt b0 b1 w0 ρ M lb st gL wL gy w
 m5:M b5
 un:∀a,¬ρ a b5
 h5:w.heap[b5]?=e7 (nl (cG np s D r (bS np s D dl r)) 73)
 rows:Rows X V np s n D dl rows w
def Hd.rl(k:zl X V D np s n dl gn bc bg bt w0){rows:Nat}(a:rows<=np)(h:Hd X V np s D n dl bc bg bt b0 b1 w0 ρ M lb b5 r rows st gL wL gy w)(q:Rl X V M w w'):Hd X V np s D n dl bc bg bt b0 b1 w0 ρ M lb b5 r rows st gL wL gy w':=
 ⟨h.iv.rl q,h.m5,h.un,(q.own _ h.m5).t h.h5,h.rows.row k a q.row⟩
def Hd.PY{rows:Nat}{st':a7}(h:Hd X V np s D n dl bc bg bt b0 b1 w0 ρ M lb b5 r rows st gL wL gy w):Hd X V np s D n dl bc bg bt b0 b1 w0 ρ M lb b5 r rows st' gL wL gy (ge w lb (nk (Ti X np D n bc bg bt b0 b1 lb st'))):=by
 have a:=h.iv.lk.clear.own lb h.iv.gd.ml;refine⟨h.iv.PY,h.m5,h.un,?_,h.rows.tb (gf (gr a.2.2))⟩
 .have b:b5≠lb:=λe=>h.un 0 (by rw[e];exact h.iv.gd.r0);rw[gf b];exact h.h5
def Hd.lk(k:zl X V D np s n dl gn bc bg bt w0){rows:Nat}(a:rows<=np)(hc:ed X V M):Lk X V M (Hd X V np s D n dl bc bg bt b0 b1 w0 ρ M lb b5 r rows st gL wL gy):=
 ⟨k.hP,k.hg,hc,λ_ _ h q=>h.rl k a q,λ_ h=>h.iv.kn.live,k.n3⟩
def D9(c:Int×Int):∀v∈cG np s D r c,v.oneCell'=fO:=by
 intro v hv;simp only[cG,ko,dp,eW,or_false]at hv
 rcases hv with rfl|rfl|rfl|rfl|rfl<;>rfl
def Hh(k:zl X V D np s n dl gn bc bg bt w0)(p:r<np)(hc:ed X V M)(hg:gy=G gy.frame [xN X np D n bc bg bt b0 b1 lb,ez PP])
 (K:∀w2 c,Hd X V np s D n dl bc bg bt b0 b1 w0 ρ M lb b5 r (r+1) o1 gL wL gy w2->ay X V fJ (eU X V Fin c (bP m)) M 0 (el gy (l5 fO)) w2) (f:Nat->aT) :
 uA X V Fin M (Hd X V np s D n dl bc bg bt b0 b1 w0 ρ M lb b5 r r o6 gL wL gy) (c0 X.Wg bc bg X.Mu bt (sJ np D) n (vO b0 b1) (lp (cG np s D r (bS np s D dl r))) lb b5 (gy.frame::[xN X np D n bc bg bt b0 b1 lb,ez PP]) f) (gy.frame::[xN X np D n bc bg bt b0 b1 lb,ez PP]) m:=by
 intro c w o;have t:bY np s r<np:=oW ab;have C:=k.MC;refine(q_4 ..).run k.hP k.hg ?_;rw[aj4];have R:R4 X V M (Hd X V np s D n dl bc bg bt b0 b1 w0 ρ M lb b5 r r o6 gL wL gy) (Hd X V np s D n dl bc bg bt b0 b1 w0 ρ M lb b5 r (r+1) o6 gL wL gy) bg bt b5 n (bY np s r) (cG np s D r (bS np s D dl r)):=by
  refine⟨k.hP,k.hg,hc,λ_ _ h q=>h.rl k ab q,λ_ h=>h.iv.kn.live,k.shun,⟨k.bt.1,λw h=>(h.iv.kn.cell k.bt.1).t k.bt.2⟩,⟨k.bg.1,λw h=>(h.iv.kn.cell k.bg.1).t k.bg.2⟩,⟨o.m5,λw h=>⟨_,h.h5⟩⟩,⟨rfl,rfl,D9 _⟩,k.hn,ab,k.sz,λj E=>k.row _ ab ab,λw w' h hl H hb v y=>?_⟩;have l:∀{b},jm X b->w'.heap[b]?=w.heap[b]?:=λh=>hb _ h.2.2;refine⟨h.iv.same hl ab (λa b x=>l (h.iv.lk.apart x)) (λb x=>l (k.apart b x)) (l (hc.own _ h.iv.gd.md)),h.m5,h.un,(l (hc.own _ h.m5)).t h.h5,h.rows.next p v y⟩
 refine Ut R (base:=Ul X.Wg bc bg X.Mu bt (sJ np D) n (vO b0 b1) (lp (cG np s D r (bS np s D dl r))) (pt b5) (px 10 (l3 #[]) f)) rfl rfl rfl o λF w2 hF z=>?_;have A:zj 20 F=qJ X.Wg bc bg X.Mu bt (sJ np D) n (vO b0 b1) (lp (cG np s D r (bS np s D dl r))) (pt b5) F:=Ap λi hi=>by
  rcases Nat.lt_or_ge i 10 with h|h
  .rw[hF i ab];obtain rfl|rfl|rfl|rfl|rfl|rfl|rfl|rfl|rfl|rfl:i=0\/i=1\/i=2\/i=3\/i=4\/i=5\/i=6\/i=7\/i=8\/i=9:=ab
   all_goals rfl
  .unfold Ul;split<;>first|omega|rfl
 unfold Ur;rw[A];refine(q_5 ..).run k.hP k.hg ?_;rw[aj9];have u:=D7 (Fin:=Fin) (k:=c) (c0:=c1 X.Wg bc bg X.Mu bt (sJ np D) n (vO b0 b1) (lp (cG np s D r (bS np s D dl r))) lb b5 (gy.frame::[xN X np D n bc bg bt b0 b1 lb,ez PP]) F) (cs:=gy.frame::[xN X np D n bc bg bt b0 b1 lb,ez PP]) (Hd.lk (r:=r) k (show r+1<=np by omega) hc) m (λc w3 d=>?_) z
 .rw[k.hP]at u;exact u
 refine(q_6 ..).run k.hP k.hg ?_;rw[aja];refine .rec (b:=lb) (o':=nk (Ti X np D n bc bg bt b0 b1 lb o1)) hc rfl d.iv.kn.live d.iv.gd.ml (bn d.iv.gd.hl) (g':=G (hm gy.frame (l5 fO)) [xN X np D n bc bg bt b0 b1 lb,ez PP]) (λB q=>zH (d.iv.gd.rl q).hl) rfl λB q=>?_;have e:G (hm gy.frame (l5 fO)) [xN X np D n bc bg bt b0 b1 lb,ez PP]=el gy (l5 fO):=by rw[hg];rfl
 rw[e];exact K _ c (d.rl k ab q).PY
def P3(k:zl X V D np s n dl gn bc bg bt w0)(H:r<np)(h:Iv X V np D n bc bg bt b0 b1 w0 ρ M lb o1 gL wL gy w)(I:Rows X V np s n D dl r w)(hg:gy=G gy.frame [xN X np D n bc bg bt b0 b1 lb,ez PP])(i:Nat)
 (K:∀A w2 i,Iv X V np D n bc bg bt b0 b1 w0 ρ A lb o1 gL wL gy w2->Rows X V np s n D dl (r+1) w2->ay X V fJ (eU X V Fin i (bP m)) A 0 (el gy (l5 fO)) w2) :
 ay X V fJ (eU X V Fin i { pc:=.l0,r:=m }) M 0 (rd0 X.Wg bc bg X.Mu bt (sJ np D) n (vO b0 b1) (lp (cG np s D r (bS np s D dl r))) lb (gy.frame::[xN X np D n bc bg bt b0 b1 lb,ez PP]) (λ_=>undef)) w:=by
 refine(q_0 ..).run k.hP k.hg ?_;obtain⟨o,j,p⟩:=jC (aj0 X.Wg bc bg X.Mu bt (sJ np D) n (vO b0 b1) (lp (cG np s D r (bS np s D dl r))) lb (gy.frame::[xN X np D n bc bg bt b0 b1 lb,ez PP]) (λ_=>undef));obtain⟨J,hi,L⟩:=aeg;refine .new h.lk.clear (aK j).1 h.kn.live (o':=λ_=>nl lD 73) (G':=λb=>el (q0 X.Wg bc bg X.Mu bt (sJ np D) n (vO b0 b1) (lp (cG np s D r (bS np s D dl r))) lb (gy.frame::[xN X np D n bc bg bt b0 b1 lb,ez PP]) (λ_=>undef)) (pt b)) (λc q=>?_) (λb=>(aK j).2.2 _) λc q=>?_
 .have:=jY (P:=X.P) (mn:=V.g==0) (w:=c) j p (by rw[k.hP];exact hi) L;exact this
 have v:=h.rl q;obtain⟨y,B⟩:=v.alloc k (nl lD 73);have N:=I.row k ab q.row;have C:(f7 c (nl lD 73)).heap[c.heap.size]?=e7 (nl lD 73):=gg _ _;have O:Rows X V np s n D dl r (f7 c (nl lD 73)):=by
  have Y:X.Tb<c.heap.size:=by
   obtain⟨_,_,E,z,_⟩:=v.kn.live;exact bn z
  refine N.tb ?_;show(c.heap.push _)[X.Tb]?=_;grind
 refine(q_1 ..).run k.hP k.hg ?_;obtain⟨p,Q,hy⟩:=aj1 X.Wg bc bg X.Mu bt (sJ np D) n (vO b0 b1) (lp (cG np s D r (bS np s D dl r))) lb c.heap.size (gy.frame::[xN X np D n bc bg bt b0 b1 lb,ez PP]) (λ_=>undef);obtain⟨o,j,p⟩:=jC p;refine .DS (b:=c.heap.size) (cur:=lD) (ty:=73) y.lk.clear y.kn.live (nV rfl) j p Q hy C (by rw[k.hP,Un];rfl) (by show 0+5<=5;omega) (D9 _) λw2 q2=>?_;rw[show(lp (cG np s D r (bS np s D dl r))).cells=cG np s D r (bS np s D dl r) from rfl,rH (show lD.size=(cG np s D r (bS np s D dl r)).size from rfl)];have t:=y.rl q2;have R:w2.heap[c.heap.size]?=e7 (nl lD 73):=(q2.own _ (nV rfl)).t C;have u:jm X c.heap.size:=t.lk.clear.own _ (nV rfl);have f:∀b,b≠c.heap.size->(gj w2 c.heap.size (cG np s D r (bS np s D dl r))).heap[b]?=w2.heap[b]?:=λb hb=>ci _ _ _ _ hb;have S:Live X (gj w2 c.heap.size (cG np s D r (bS np s D dl r))):=by
  obtain⟨⟨_,_,v1⟩,⟨_,_,F⟩,E,z,T⟩:=t.kn.live;exact⟨⟨_,_,by unfold hq at v1 ⊢;rw[f _ (gr u.1)];exact v1⟩,⟨_,_,by unfold hG at F ⊢;rw[f _ (gr u.2.1)];exact F⟩,E,by rw[f _ (gr u.2.2)];exact z,T⟩
 have U:lb-1<c.heap.size:=bn v.gd.hd;have d:Hd X V np s D n dl bc bg bt b0 b1 w0 ρ (λb=>M b\/b=c.heap.size) lb c.heap.size r r o1 gL wL gy (gj w2 c.heap.size (cG np s D r (bS np s D dl r))):=by
  refine⟨t.same S ar (λa b x=>f b λe=>B a (e▸x)) (λb hb=>f b λe=>(t.lk.sG b hb).2 (nV e)) (f _ ab),nV rfl,B,b8 _ _ _ _ _ _ R,(O.row k ab q2.row).tb (f X.Tb (gr u.2.2))⟩
 refine(q_2 ..).run k.hP k.hg ?_;rw[aj2];refine .rec (b:=lb) (o':=nk (Ti X np D n bc bg bt b0 b1 lb o6)) d.iv.lk.clear rfl d.iv.kn.live d.iv.gd.ml (bn d.iv.gd.hl) (g':=G ⟨87,qJ X.Wg bc bg X.Mu bt (sJ np D) n (vO b0 b1) (lp (cG np s D r (bS np s D dl r))) (pt c.heap.size) (λ_=>undef),[qi lZ],[],ov,oh,e7 lb⟩ (gy.frame::[xN X np D n bc bg bt b0 b1 lb,ez PP])) (λw3 q3=>G5 (d.iv.gd.rl q3).hl rfl rfl) rfl λw3 q3=>?_;have W:=(d.rl k ab q3).PY (st':=o6);refine(q_3 ..).run k.hP k.hg ?_;rw[aj3];have l:=MH (Fin:=Fin) (k:=i) (Hd.lk (r:=r) k (show r<=np by omega) d.iv.lk.clear) m (Hh (m:=m) k H d.iv.lk.clear hg (λw2 i h=>K _ w2 i h.iv h.rows) (λ_=>undef)) W;rw[k.hP]at l;exact l
theorem P4(k:zl X V D np s n dl gn bc bg bt w0)(t:∀w,Rows X V np s n D dl np w->Fin w)(h:Iv X V np D n bc bg bt b0 b1 w0 ρ M lb o1 gL wL g w)(u:Rows X V np s n D dl np w)(f:Y9 84 gL)(v:Nat) :
 ay X V fJ (eU X V Fin v (bP 1)) M 0 g w:=by
 refine ay.mono (Stop:=O0 X V Fin) ?_ λM d g w h=>by
  show(if(bP 1).pc=.out then O0 X V Fin M d g w else _);rw[if_pos (show(bP 1).pc=.out from rfl)];exact h
 obtain⟨x,rfl,e1,y,z,A,_⟩:=h.lk.back f.mode f.defers f.callers;obtain⟨fn,B,C⟩:=Zh;refine .leave0 h.lk.clear y z A (by rw[k.hP,e1,f.fn];exact B) C ?_;have E:=h.kn.live;have c:=h.gd.ml;have e:=h.gd.md;have O:=h.gd.pos;have hc:=h.lk.clear;refine .rec (b:=lb) (o':=nk (Ti X np D n bc bg bt b0 b1 lb pg)) hc rfl E c (bn h.gd.hl) (g':=G ⟨87,qJ X.Wg bc bg X.Mu bt (sJ np D) n (vO b0 b1) undef undef (λ_=>undef),kk,Pz X.Wg (lb-1),ov,ol,e8⟩ [ez PP]) (λo q=>BT (h.gd.rl q).hl rfl rfl) rfl λo q=>?_;have H:=hc.own lb c;have i:=(h.rl q).PY (st':=pg);have I:Rows X V np s n D dl np (ge o lb (nk (Ti X np D n bc bg bt b0 b1 lb pg))):=(u.row k (dk _) q.row).tb (gf (gr H.2.2));refine(e_1 ..).run k.hP k.hg ?_;rw[ajb];refine .rec (b:=lb-1) (o':=nq e8) hc rfl i.kn.live e (bn i.gd.hd) (g':=G ⟨87,qJ X.Wg bc bg X.Mu bt (sJ np D) n (vO b0 b1) undef undef (λ_=>undef),[],rG X.Wg,ow,ol,e8⟩ [ez PP]) (λP q2=>step_take (i.gd.rl q2).hd) rfl λw2 q2=>?_;obtain⟨x1,x2⟩:=e_2 X.Wg bc bg X.Mu bt (sJ np D) n (vO b0 b1);refine .quiet (mn:=fJ) k.hg 1 (by rw[k.hP];exact x1) ?_;rw[k.hP,x2,ajc];have j:=hc.own _ e;have l:∀b,b≠lb-1->(ge w2 (lb-1) (nq e8)).heap[b]?=w2.heap[b]?:=λb hb=>gf hb;have J:=i.rl q2;refine MF (F:=λw=>Live X w/\Rows X V np s n D dl np w) ⟨k.hP,k.hg,hc,λw w' a q=>⟨q.live a.1,a.2.row k (dk _) q.row⟩,λw a=>a.1,k.n3⟩ (λw a=>t w a.2) _ [] ⟨?_,(I.row k (dk _) q2.row).tb (l X.Tb (gr j.2.2))⟩
 obtain⟨⟨_,_,v1⟩,⟨_,_,p⟩,K,L,N⟩:=J.kn.live;exact⟨⟨_,_,by unfold hq at v1 ⊢;rw[l _ (gr j.1)];exact v1⟩,⟨_,_,by unfold hG at p ⊢;rw[l _ (gr j.2.1)];exact p⟩,K,by rw[l _ (gr j.2.2)];exact L,N⟩
def MN(k:zl X V D np s n dl gn bc bg bt w0)(b:FE np s)(P:∀w,Rows X V np s n D dl np w->Fin w):∀(m r:Nat),r+(m+1)=np->∀{ρ M f Z g w},Iv X V np D n bc bg bt b0 b1 w0 ρ M lb o1 (gR np s (aW np D) r f) (wR np s (aW np D) (hU np D w0) n dl gn r (bS np s D dl r) Z) g w->Rows X V np s n D dl r w->
 ∀c,ay X V fJ (eU X V Fin c { pc:=.l0,r:=m+1 }) M 0 g w:=by
 intro m
 induction m with
 |zero=>
  intro r E ρ M f Z g w h j c;have a:r<np:=ab;refine JE k b a h λF H d i I w2 l o=>?_;refine yields k b a l λw3 p t hg=>?_;refine P3 k a p ((j.row k ab o).row k ab t) hg c λJ w4 c u x=>?_;have y:=b.round r a;have z:=u.fin (v:=l5 fO) (v':=l5 fO) (.bool fO);refine z.seg k (q:=Nx (gY np s (aW np D) r (bS np s D dl r) d) (wY np s (aW np D) (hU np D w0) n dl gn r (l9 np s (aW np D) r (bS np s D dl r)) i)) (by delta Nx;rfl) (y.e5 _ _ _ _ _ _ _ _ _) λA K L w6 B C=>?_;have Q:=(b.last r ab).back (aW np D) (hU np D w0) n dl gn (bS np s D dl r) (l9 np s (aW np D) r (bS np s D dl r)) d i;have R:=x.row k ab C;grind[P4]
 |succ m N=>
  intro r E ρ M f Z g w h j c;have a:r<np:=ab;refine JE k b a h λF H d i I w2 l o=>?_;refine yields k b a l λw3 p t hg=>?_;refine P3 k a p ((j.row k ab o).row k ab t) hg c λJ w4 c u x=>?_;have y:=b.round r a;have z:=u.fin (v:=l5 fO) (v':=l5 fO) (.bool fO);refine z.seg k (q:=Nx (gY np s (aW np D) r (bS np s D dl r) d) (wY np s (aW np D) (hU np D w0) n dl gn r (l9 np s (aW np D) r (bS np s D dl r)) i)) (by delta Nx;rfl) (y.e5 _ _ _ _ _ _ _ _ _) λA K L w6 B C=>?_;obtain⟨S,T,O⟩:=(b.next r ab).next' (aW np D) (hU np D w0) n dl gn (bS np s D dl r) d i;rw[O]at B;have e:bP (m+1+1)={ pc:=.l0,r:=m+1 }:=by
   unfold bP;grind
  rw[e];exact N (r+1) ab B (x.row k ab C) c
end
def aei:(PP.info? 78).map (·.size)=e7 6:=ae
def aej:hO PP 78=e7 (pm (fieldsOf 78)):=ae
def ajA(W bc bg a bt:Nat)(c:aT)(n:Int):wu PP fJ DT 400 (el (k1 W bc bg a bt c) (lm kw n))=k2 W bc bg a bt c n:=by delta k2;rfl
section
variable {X:Fix}{V:Vw}{D:jB}{np s n:Nat}{dl:Int}{gn:ByteArray}{bc bg bt:Nat}{w0 w:aF}{Fin:aF->Prop}
def Hl(k:zl X V D np s n dl gn bc bg bt w0)(c:FE np s)(MC:1<=np)(C:∀w,Rows X V np s n D dl np w->Fin w)(a:Kn X V w0 w)(e:∀j,V.row j->(j<n*25\/n*25+np*5<=j)->f6 w ⟨X.Tb,j,e8⟩=e7 (lm kw 0))(A:Nat) :
 ay X V fJ (eU X V Fin A { pc:=.l0,r:=np }) eg 0 (uy X.Wg bc bg X.Mu bt) w:=by
 have hc:ed X V eg:=k.clear λb hb=>hb.elim;refine(k_E X.Wg bc bg X.Mu bt).run k.hP k.hg ?_;obtain⟨o,x,g,i,l⟩:=kO (aiW X.Wg bc bg X.Mu bt);have hcell:∀w,Kn X V w0 w->∀j,j<6->f6 w ((⟨bc,0,e8⟩:aP).add j)=e7 ((cA np D).getD j undef):=λw a j hj=>by
  rw[dY,ei,a.cell k.bc.1,cell_of_row _ _ _ _ _ _ k.bc.2];obtain rfl|rfl|rfl|rfl|rfl|rfl:j=0\/j=1\/j=2\/j=3\/j=4\/j=5:=ab
  all_goals rfl
 have E:((fb 6).map λj=>(cA np D).getD j undef).toArray=cA np D:=rfl;refine .qM (v:=sJ np D) hc a.live g i l (λB q=>?_) (JB k k.bc.1) ?_
 .have h:=hcell B (a.rl q);have:=sH (P:=X.P) (t:=78) (by rw[k.hP];exact aej) rfl (by rw[k.hP];exact aei) h;rw[E]at this;exact⟨this,pY (by have:=h 0 ab;rwa[dY]at this)⟩
 refine(k_0 X.Wg bc bg X.Mu bt (sJ np D)).run k.hP k.hg ?_;obtain⟨o,x,g,i,l⟩:=kO (aiX X.Wg bc bg X.Mu bt (sJ np D));refine .qM (v:=lm kw (n:Int)) hc a.live g i l (λB q=>?_) (JB k k.bg.1) ?_
 .have h:=((a.rl q).cell k.bg.1).t k.bg.2;exact⟨l8 (by rw[k.hP];exact ty3) rfl h,pY h⟩
 obtain⟨x1,x2⟩:=k_1 X.Wg bc bg X.Mu bt (sJ np D) n;refine .oO (S:=DT) k.hg 400 (by rw[k.hP];exact x1) ?_;rw[k.hP,x2,ajA,aiY];refine Zi k c a λaJ M1 b0 F w1 H zz I J p K L=>?_;refine Zj k zz H c I J K p λM N lb w2 u O Q R y=>?_;have z:Iv X V np D n bc bg bt b0 F w0 M N lb o1 (gL1 np) (A0 np (aW np D) (hU np D w0) n).2 _ w2:=⟨u,O,Q,R⟩
 refine Zk k c z λT M3 f Z g3 w3 U W=>?_;have Y:Rows X V np s n D dl 0 w3:=⟨λr' gl=>absurd gl (eI _),λj d u=>(W j d).t ((y j d).t ((L.row j d).t (e j d u)))⟩
 obtain⟨m,rfl⟩:∃m,np=m+1:=⟨np-1,ab⟩
 exact MN k c C m 0 ab U Y A
end
end Go.Proofs
namespace Go.Proofs
open Go.Ph Go.Conc
variable {q:Nat}
structure Ea(k d d':Nat)(g:aL)(c0:aI)(cs:List aI):Prop where
 q:ff PP fO lY 400 g
 d0:∀d,xD PP fO lY 400 d g=d
 q1:uo PP fO k (T2 fO g)
 d1:YL PP fO k d (T2 fO g)=d'
 e:adv PP fO k (T2 fO g)=G (hm c0 (l3 #[])) cs
def Ea.run{X:Fix}{V:Vw}{q:Bool}{Stop:Stp}{M:Own}{k d d':Nat}{g:aL}{w:aF}{c0:aI}{cs:List aI}(h:Ea k d d' g c0 cs)(a:X.P=PP)(hg:(V.g==0)=fO)(b:ay X V q Stop M d' (G (hm c0 (l3 #[])) cs) w):ay X V q Stop M d g w:=by
 refine .oO (S:=lY) hg 400 (by rw[a];exact h.q) ?_;refine .quiet hg k (by rw[a];exact h.q1) ?_;have e:=h.e;have d1:=h.d1;unfold T2 at e d1;rw[a,h.d0,d1,e];exact b
def JG(v:Nat):aT:=lm kt ((v:Int)*4294967296)
section
variable (W:Nat)(c0:aI)(cs:List aI)
def aE:aL:=G (he PP 86 #[pt W,lm kw 1] oh) (c0::cs)
def a0:aL:=T2 fO (aE W c0 cs)
def a1:aL:=T2 fO (fin (a0 W c0 cs) (l3 #[]))
def a2:aL:=T2 fO (fin (a1 W c0 cs) (l5 fJ))
def a3:aL:=T2 fO (fin (a2 W c0 cs) (JG 1))
def a4:aL:=T2 fO (fin (a3 W c0 cs) (lR (e7 ⟨W,1,e8⟩)))
def a_E  : fL fO (aE W c0 cs) (a0 W c0 cs):=bU (by delta a0;rfl)
def ajB  : az (a0 W c0 cs)=e7 (103,#[]):=ae
def a_0  : fL fO (fin (a0 W c0 cs) (l3 #[])) (a1 W c0 cs):=bU (by delta a1;rfl)
def ajC  : az (a1 W c0 cs)=e7 (105,#[]):=ae
def a_1  : fL fO (fin (a1 W c0 cs) (l5 fJ)) (a2 W c0 cs):=bU (by delta a2;rfl)
def ajD  : az (a2 W c0 cs)=e7 (128,#[pt W,lm kt 4294967296]):=ae
def a_2  : fL fO (fin (a2 W c0 cs) (JG 1)) (a3 W c0 cs):=bU (by delta a3;rfl)
def ajE  : gu (a3 W c0 cs)=e7 (175,169,lR (e7 ⟨W,1,e8⟩)):=ae
def a_3  : fL fO (fin (a3 W c0 cs) (lR (e7 ⟨W,1,e8⟩))) (a4 W c0 cs):=bU (by delta a4;rfl)
def ajF  : az (a4 W c0 cs)=e7 (110,#[lR (e7 ⟨W,1,e8⟩)]):=ae
def a_4:Ea 2 1 0 (fin (a4 W c0 cs) (l3 #[])) c0 cs:=⟨⟨λw=>ae,ae⟩,λd=>ae,⟨λw=>ae,ae⟩,ae,ae⟩
def ajG:Ea 2 1 0 (fin (a2 W c0 cs) (JG 2)) c0 cs:=⟨⟨λw=>ae,ae⟩,λd=>ae,⟨λw=>ae,ae⟩,ae,ae⟩
def ajH:Ea 2 1 0 (fin (a2 W c0 cs) (JG 3)) c0 cs:=⟨⟨λw=>ae,ae⟩,λd=>ae,⟨λw=>ae,ae⟩,ae,ae⟩
end
def F41(W:Nat)(f:Nat->aT):Nat->aT
 |0=>lR (e7 ⟨W,0,e8⟩)
 |i=>f i
def A41(W:Nat)(f:Nat->aT):Array aT:=zj 84 (F41 W f)
def aem(a:Array aT)(b:List a8):aI:={ fn:=91,tmps:=a,todo:=b,defers:=[],mode:=ov,kind:=oh,roundOf:=e8 }
def ZC{a:Array aT}(hs:a.size=84)(b:a[0]! = lR (e7 ⟨q,0,e8⟩)):a=A41 q (λi=>a[i]!):=
 Jr hs λi _=>by
  unfold F41;grind
section
variable (W:Nat)(c0:aI)(cs:List aI)
def wE:aL:=G (he PP 91 #[pt W] oh) (c0::cs)
def w0:aL:=T2 fO (wE W c0 cs)
def w1s:aL:=T2 fO (fin (w0 W default []) (l3 #[]))
def w1(f:Nat->aT):aL:=G (w1s W).frame (aem (A41 W f) (w1s 0).callers.head!.todo::c0::cs)
variable (f:Nat->aT)(v:Nat)
def w2:aL:=T2 fO (fin (w1 W c0 cs f) (JG v))
def w3a:aL:=T2 fO (fin (w2 W c0 cs f v) (l5 fO))
def w3b:aL:=T2 fO (fin (w3a W c0 cs f v) (lR (e7 ⟨W,1,e8⟩)))
def w3:aL:=T2 fO (fin (w3b W c0 cs f v) (l3 #[]))
def gw4:aL:=T2 fO (fin (w3 W c0 cs f v) (l3 #[]))
def w5:aL:=T2 fO (fin (gw4 W c0 cs f v) (JG 0))
def w6:aL:=T2 fO (fin (w5 W c0 cs f v) (l3 #[]))
def w7:aL:=T2 fO (fin (w6 W c0 cs f v) (pt W))
def v5:aL:=T2 fO (fin (w1 W c0 cs f) (JG 0))
def v6:aL:=T2 fO (fin (v5 W c0 cs f) (l3 #[]))
def v7:aL:=T2 fO (fin (v6 W c0 cs f) (pt W))
def Xd{g:aL}(a:ff PP fO lY 400 g:=by exact⟨λ_=>ae,ae⟩)(hd:∀d,xD PP fO lY 400 d g=d:=by intro _;kernel_rfl)(b:T2 fO g=G (w1s W).frame (aem (T2 fO g).callers.head!.tmps (w1s 0).callers.head!.todo::c0::cs):=by kernel_rfl)(hs:(T2 fO g).callers.head!.tmps.size=84:=by kernel_rfl)
 (c:(T2 fO g).callers.head!.tmps[0]! = lR (e7 ⟨W,0,e8⟩):=by kernel_rfl):∃f',fL fO g (w1 W c0 cs f'):=by
 have e:=ZC hs c;exact⟨_,a,hd,by unfold w1;rw[<-e];exact b⟩
def w_E  : fL fO (wE W c0 cs) (w0 W c0 cs):=bU (by delta w0;rfl)
def ajI  : az (w0 W c0 cs)=e7 (103,#[]):=ae
def w_0:∃f',fL fO (fin (w0 W c0 cs) (l3 #[])) (w1 W c0 cs f'):=Xd W c0 cs
def ajJ  : az (w1 W c0 cs f)=e7 (129,#[pt W]):=ae
def v_1  : fL fO (fin (w1 W c0 cs f) (JG 0)) (v5 W c0 cs f):=bU (by delta v5;rfl)
def ajK  : az (v5 W c0 cs f)=e7 (104,#[]):=ae
def v_5  : fL fO (fin (v5 W c0 cs f) (l3 #[])) (v6 W c0 cs f):=bU (by delta v6;rfl)
def ajL  : gu (v6 W c0 cs f)=e7 (167,169,pt W):=ae
def v_6  : fL fO (fin (v6 W c0 cs f) (pt W)) (v7 W c0 cs f):=bU (by delta v7;rfl)
def ajM  : az (v7 W c0 cs f)=e7 (117,#[pt W]):=ae
def v_7:Ea 1 0 0 (fin (v7 W c0 cs f) (l3 #[])) c0 cs:=⟨⟨λw=>ae,ae⟩,λd=>ae,⟨λw=>ae,ae⟩,ae,ae⟩
def w_1(a:1<=v)(b:v<=3):fL fO (fin (w1 W c0 cs f) (JG v)) (w2 W c0 cs f v):=by
 (obtain rfl|rfl|rfl:v=1\/v=2\/v=3:=ab)<;>exact bU (by delta w2;rfl)
def ajN(a:1<=v)(b:v<=3):az (w2 W c0 cs f v)=e7 (135,#[pt W,JG v,lm kt ((v:Int)*4294967296+1)]):=by
 (obtain rfl|rfl|rfl:v=1\/v=2\/v=3:=ab)<;>kernel_rfl
def w_2(a:1<=v)(b:v<=3):fL fO (fin (w2 W c0 cs f v) (l5 fO)) (w3a W c0 cs f v):=by
 (obtain rfl|rfl|rfl:v=1\/v=2\/v=3:=ab)<;>exact bU (by delta w3a;rfl)
def aep(a:1<=v)(b:v<=3):gu (w3a W c0 cs f v)=e7 (175,169,lR (e7 ⟨W,1,e8⟩)):=by
 (obtain rfl|rfl|rfl:v=1\/v=2\/v=3:=ab)<;>kernel_rfl
def ajO(a:1<=v)(b:v<=3):∃f',fL fO (fin (w2 W c0 cs f v) (l5 fJ)) (w1 W c0 cs f'):=by
 (obtain rfl|rfl|rfl:v=1\/v=2\/v=3:=ab)<;>exact Xd W c0 cs
def ajP(a:1<=v)(b:v<=3):fL fO (fin (w3a W c0 cs f v) (lR (e7 ⟨W,1,e8⟩))) (w3b W c0 cs f v):=by
 (obtain rfl|rfl|rfl:v=1\/v=2\/v=3:=ab)<;>exact bU (by delta w3b;rfl)
def aeq(a:1<=v)(b:v<=3):az (w3b W c0 cs f v)=e7 (120,#[lR (e7 ⟨W,1,e8⟩)]):=by
 (obtain rfl|rfl|rfl:v=1\/v=2\/v=3:=ab)<;>kernel_rfl
def ajQ(a:1<=v)(b:v<=3):fL fO (fin (w3b W c0 cs f v) (l3 #[])) (w3 W c0 cs f v):=by
 (obtain rfl|rfl|rfl:v=1\/v=2\/v=3:=ab)<;>exact bU (by delta w3;rfl)
def ajR(a:1<=v)(b:v<=3):gZ (w3 W c0 cs f v)=e7 (121,e7 (lR (e7 ⟨W,1,e8⟩))):=by
 (obtain rfl|rfl|rfl:v=1\/v=2\/v=3:=ab)<;>kernel_rfl
def w_3(a:1<=v)(b:v<=3):fL fO (fin (w3 W c0 cs f v) (l3 #[])) (gw4 W c0 cs f v):=by
 (obtain rfl|rfl|rfl:v=1\/v=2\/v=3:=ab)<;>exact bU (by delta gw4;rfl)
def ajS(a:1<=v)(b:v<=3):az (gw4 W c0 cs f v)=e7 (129,#[pt W]):=by
 (obtain rfl|rfl|rfl:v=1\/v=2\/v=3:=ab)<;>kernel_rfl
def w_4(a:1<=v)(b:v<=3):fL fO (fin (gw4 W c0 cs f v) (JG 0)) (w5 W c0 cs f v):=by
 (obtain rfl|rfl|rfl:v=1\/v=2\/v=3:=ab)<;>exact bU (by delta w5;rfl)
def ajT(a:1<=v)(b:v<=3):az (w5 W c0 cs f v)=e7 (104,#[]):=by
 (obtain rfl|rfl|rfl:v=1\/v=2\/v=3:=ab)<;>kernel_rfl
def w_5(a:1<=v)(b:v<=3):fL fO (fin (w5 W c0 cs f v) (l3 #[])) (w6 W c0 cs f v):=by
 (obtain rfl|rfl|rfl:v=1\/v=2\/v=3:=ab)<;>exact bU (by delta w6;rfl)
def ajU(a:1<=v)(b:v<=3):gu (w6 W c0 cs f v)=e7 (167,169,pt W):=by
 (obtain rfl|rfl|rfl:v=1\/v=2\/v=3:=ab)<;>kernel_rfl
def w_6(a:1<=v)(b:v<=3):fL fO (fin (w6 W c0 cs f v) (pt W)) (w7 W c0 cs f v):=by
 (obtain rfl|rfl|rfl:v=1\/v=2\/v=3:=ab)<;>exact bU (by delta w7;rfl)
def ajV(a:1<=v)(b:v<=3):az (w7 W c0 cs f v)=e7 (117,#[pt W]):=by
 (obtain rfl|rfl|rfl:v=1\/v=2\/v=3:=ab)<;>kernel_rfl
def w_7(a:1<=v)(b:v<=3):Ea 1 0 0 (fin (w7 W c0 cs f v) (l3 #[])) c0 cs:=by
 (obtain rfl|rfl|rfl:v=1\/v=2\/v=3:=ab)<;>exact⟨⟨λw=>ae,ae⟩,λd=>ae,⟨λw=>ae,ae⟩,ae,ae⟩
end
open Go.ConcN
open Go.ConcM (MuAt muA msA OsLater muBlock)
open Go.ConcR (KK WgAt stA smA rd wr mk)
def sR(v:Nat):lm kt (vP v 0)=JG v:=by simp[vP,JG,KK]
def UH(v:Nat):vP v 0=(v:Int)*4294967296:=by simp[vP,KK]
section
variable {X:Fix}{V:Vw}{M:Own}{F:aF->Prop}{Stop:Stp}{d:Nat}{g g':aL}{w:aF}
variable {c np:Nat}{row:Nat->Nat->Prop}{Fin:Nat->aF->Prop}{Post:Own->aL->aF->Prop}{c0:aI}{cs:List aI}
def Gk.said(L:Gk X V M F fO){f:ac}{mk':aP->Mark}{m wr':Bool}(i:az g=e7 (f,#[lR (e7 ⟨X.Wg,1,e8⟩)]))(hb:cw PP f m (i4 mk'))(j:∀a g,mk' a≠.extern g)
 (n:∀a,(k8 (mk' a)).touch? = e7 ⟨ob a,wr',.said⟩) (hl:∀a B,a.block<B->(k8 (mk' a)).low B) (o:∀a b,mk' a≠.release b) (hd:∀d a,bd d #[hM (mk' a)]=d) (p:F w) (q:ay X V fJ Stop M d (fin g (l3 #[])) w):ay X V fJ Stop M d g w:=
 .step (aj i).1 λs r=>by
  have t:=L.hF _ _ p r;refine⟨_,s,#[hM (mk' ⟨X.Wg,1,e8⟩)],M,_,kM (ad:=⟨X.Wg,1,e8⟩) i (by rw[L.hP];exact hb) j rfl,jI L.hc.ids rfl rfl (.refl _) rfl (λ_ _ _=>rfl) (λe k=>?_) ar,⟨rfl,rfl⟩,(aj i).2.2 _,?_⟩
  .simp only[ko,jX]at k;subst k;refine⟨λx l=>?_,λh=>o _ _ (Loc.mark.inj h),hl _ _ (L.low t)⟩;rw[show k7 (hM (mk' ⟨X.Wg,1,e8⟩))=.mark (mk' ⟨X.Wg,1,e8⟩) from rfl,n]at l;cases l;have:V.g=0:=by simpa using L.hg
   exact⟨rfl,nt ⟨⟨_,rfl,nV rfl⟩,by rw[if_pos this];simp⟩⟩
  .rw[hd];exact q.rely r
def P6(L:Gk X V M F fO)(r:Nat)(b:∀w,F w->ay X V fJ (AtGo X c np row Fin (X.n-(r+1)) (Ta X c np row Fin Post r) V) M 0 (G (hm c0 (l3 #[])) cs) w)(k:F w) :
 ay X V fJ (Ta X c np row Fin Post (r+1) V) M 0 (aE X.Wg c0 cs) w:=by
 refine L.aB (a_E X.Wg c0 cs) (L.sG (ajB X.Wg c0 cs) (L.aB (a_0 X.Wg c0 cs) (L.idle (ajC X.Wg c0 cs) (L.aB (a_1 X.Wg c0 cs) (.stop λx l=>?_)))));have e:=ajD X.Wg c0 cs;have m:=L.hF _ _ k l;refine⟨(aj e).1,(aj e).2.1,λh=>(by cases h),λs i o=>?_⟩;obtain⟨y,f,z⟩:=o;have A:=L.hn;have p:kp kt (vP s.v s.wt+4294967296)=vP (s.v+1) s.wt:=by
  obtain h|h|h:s.v=0\/s.v=1\/s.v=2:=ab
  all_goals (rw[h,f];decide)
 have j:=i.setWg L.hc.ids (s.v+1) s.wt;have st:=xP (mn:=V.g==0) e (by rw[L.hP];exact ae4:cw X.P 128 fO _) i p;obtain⟨t,u⟩:=uz (q:=fJ) L.hc (nV rfl) _ j;refine⟨_,_,_,M,1,st,j,u 1 _ (PS L (lC i)) ar,(aj e).2.2 _,?_⟩;have a:=L.hF _ _ m t;obtain h|h:s.v=0\/1<=s.v:=ab
 .rw[h,f]at a ⊢;rw[sR]at a ⊢;refine L.aB (a_2 X.Wg c0 cs) (L.Xc (ajE X.Wg c0 cs) a (L.aB (a_3 X.Wg c0 cs) ?_));exact L.said (wr':=fJ) (ajF X.Wg c0 cs) ajp (λ_ _ h=>by cases h) (λ_=>rfl) (λ_ _ h=>h) (λ_ _ h=>by cases h) (λ_ _=>rfl) a ((a_4 X.Wg c0 cs).run L.hP L.hg (b _ a))
 .obtain h|h:s.v=1\/s.v=2:=ab
  .rw[h,f]at a ⊢;rw[sR]at a ⊢;exact(ajG X.Wg c0 cs).run L.hP L.hg (b _ a)
  .rw[h,f]at a ⊢;rw[sR]at a ⊢;exact(ajH X.Wg c0 cs).run L.hP L.hg (b _ a)
def aer(L:Gk X V M F fO)(h:gZ g=e7 (121,e7 (lR (e7 ⟨X.Wg,1,e8⟩))))(i:F w)(H:∀w',F w'->ay X V fJ (Ph.AtW4 X Post V) M 1 (fin g (l3 #[])) w'):Ph.AtW3 X Post V M 1 g w:=by
 obtain⟨args,a,j⟩:=vo h;refine⟨(aj a).1,(aj a).2.1,λs b n=>?_⟩;have st:=He (mn:=V.g==0) a j (by rw[L.hP];exact ajs:cw X.P 121 fO _) b;refine⟨λe=>?_,λe=>?_⟩
 .grind
 .have k:¬s.ws=0:=e;rw[if_neg k]at st;have f:=b.setWs L.hc.ids (s.ws-1);obtain⟨l,m⟩:=uz (q:=fJ) L.hc (nV rfl) _ f;exact⟨_,_,_,M,1,st,f,m 1 _ (PT L (lC b)) ar,(aj a).2.2 _,H _ (L.hF _ _ i l)⟩
theorem MO{g:aL}{w:aF}{d:Nat}:em X Post V 0 M d g w:=by unfold em;exact True.intro
theorem MQ{g:aL}{w:aF}{d:Nat}:ep X Post V 0 q M d g w:=by unfold ep;exact True.intro
def MR(L:Gk X V M F fO)(A:∀w,F w->ay X V fJ (Yy Post) M 0 (G (hm c0 (l3 #[])) cs) w)(j:F w) :
 ay X V fJ (Ta X c np row Fin Post 0 V) M 0 (wE X.Wg c0 cs) w:=by
 have u:∀g w,F w->az g=e7 (117,#[pt X.Wg])->Ea 1 0 0 (fin g (l3 #[])) c0 cs->ay X V fJ (O1 X Post V) M 0 g w:=by
  intro g w j i B;refine .stop λn m=>⟨(aj i).1,rfl,_,kM (mk':=.acquire) (ad:=⟨X.Wg,0,e8⟩) i (by rw[L.hP];exact adu:cw X.P 117 fJ _) (λ_ _ h=>by cases h) rfl,(aj i).2.2 _,?_⟩
  exact B.run L.hP L.hg (A _ (L.hF _ _ j m))
 have C:∀f v w,1<=v->v<=3->F w->ay X V fJ (AtW4 X Post V) M 1 (gw4 X.Wg c0 cs f v) w:=by
  intro f v w a b j;refine .stop λn m=>?_;have i:=ajS X.Wg c0 cs f v a b;refine⟨(aj i).1,(aj i).2.1,λh=>(by cases h),λs l o=>?_⟩;have x:=L.hF _ _ j m;have st:=oV (mn:=V.g==0) i (by rw[L.hP];exact Zl:cw X.P 129 fO _) l;have e:lm kt (vP s.v s.wt)=JG 0:=by rw[o.1,o.2.1,sR]
  rw[e]at st
  exact⟨_,n,_,M,1,st,l,jI L.hc.ids rfl rfl (.refl _) rfl (λ_ _ _=>rfl) (xQ L (lC l) fJ) ar,(aj i).2.2 _,
   L.aB (w_4 X.Wg c0 cs f v a b) (L.en (ajT X.Wg c0 cs f v a b) (L.aB (w_5 X.Wg c0 cs f v a b) (L.conv (ajU X.Wg c0 cs f v a b) x (L.aB (w_6 X.Wg c0 cs f v a b) (u _ _ x (ajV X.Wg c0 cs f v a b) (w_7 X.Wg c0 cs f v a b))))))⟩
 have D:∀f v w,1<=v->v<=3->F w->ay X V fJ (AtW3 X Post V) M 1 (w3 X.Wg c0 cs f v) w:=by
  intro f v w a b j;exact .stop λn m=>aer L (ajR X.Wg c0 cs f v a b) (L.hF _ _ j m) λw' E=>L.aB (w_3 X.Wg c0 cs f v a b) (C _ _ _ a b E)
 have p:∀k,(∀f w,F w->AtW1 X Post V k M 1 (w1 X.Wg c0 cs f) w)/\∀f v w,1<=v->v<=3->F w->AtW2 X Post V k v M 1 (w2 X.Wg c0 cs f v) w:=by
  intro k
  induction k with
  |zero=>grind[MO,MQ]
  |succ k y=>
   refine⟨λf w j=>?_,λf v w a b j=>?_⟩
   .have i:=ajJ X.Wg c0 cs f;unfold em;refine⟨(aj i).1,(aj i).2.1,λh=>(by cases h),λs l o=>?_⟩;obtain⟨H,r,I⟩:=o;have J:=L.hn;have st:=oV (mn:=V.g==0) i (by rw[L.hP];exact Zl:cw X.P 129 fO _) l;rw[r,sR]at st;refine⟨_,w,_,M,1,st,l,jI L.hc.ids rfl rfl (.refl _) rfl (λ_ _ _=>rfl) (xQ L (lC l) fJ) ar,(aj i).2.2 _,?_⟩;by_cases hv:s.v=0
    .simp only[if_pos hv];rw[hv];exact L.aB (v_1 X.Wg c0 cs f) (L.en (ajK X.Wg c0 cs f) (L.aB (v_5 X.Wg c0 cs f) (L.conv (ajL X.Wg c0 cs f) j (L.aB (v_6 X.Wg c0 cs f) (u _ _ j (ajM X.Wg c0 cs f) (v_7 X.Wg c0 cs f))))))
    .simp only[if_neg hv];exact L.aB (w_1 X.Wg c0 cs f s.v ab ab) (.stop λn m=>y.2 f s.v n ab ab (L.hF _ _ j m))
   .have i:=ajN X.Wg c0 cs f v a b;unfold ep;refine⟨(aj i).1,(aj i).2.1,λh=>(by cases h),λs l o=>?_⟩;obtain⟨H,r,I⟩:=o;have J:=L.hn;have st:=G9 (v:=v) (wt:=1) (mn:=V.g==0) i (by rw[L.hP];exact aju:cw X.P 135 fO _) l (by simp[vP,KK]);have e:(vP s.v s.wt=(v:Int)*4294967296)↔s.v=v:=by rw[r,UH];omega
    by_cases hv:s.v=v
    .rw[if_pos (e.2 hv)]at st;have z:=l.setWg L.hc.ids v 1;obtain⟨K,N⟩:=uz (q:=fJ) L.hc (nV rfl) _ z;have O:({ s with v:=v,wt:=1 }:Sh)={ s with wt:=1 }:=by rw[<-hv]
     rw[O]at z;have t:=L.hF _ _ j K;refine⟨_,_,_,M,1,st,?_,N 1 _ (PS L (lC l)) ar,(aj i).2.2 _,?_⟩
     .grind
     .simp only[if_pos hv];refine L.aB (w_2 X.Wg c0 cs f v a b) (L.Xc (aep X.Wg c0 cs f v a b) t (L.aB (ajP X.Wg c0 cs f v a b) ?_));exact L.said (wr':=fO) (aeq X.Wg c0 cs f v a b) ajq (λ_ _ h=>by cases h) (λ_=>rfl) (λ_ _ h=>h) (λ_ _ h=>by cases h) (λ_ _=>rfl) t (L.aB (ajQ X.Wg c0 cs f v a b) (D _ _ _ a b t))
    .rw[if_neg (λh=>hv (e.1 h))]at st;refine⟨_,w,_,M,1,st,?_,jI L.hc.ids rfl rfl (.refl _) rfl (λ_ _ _=>rfl) (xQ L (lC l) fJ) ar,(aj i).2.2 _,?_⟩
     .grind
     .simp only[if_neg hv];obtain⟨Q,hf⟩:=ajO X.Wg c0 cs f v a b;exact L.aB hf (.stop λn m=>y.1 Q n (L.hF _ _ j m))
 obtain⟨f,hf⟩:=w_0 X.Wg c0 cs;refine L.aB (w_E X.Wg c0 cs) (L.sG (ajI X.Wg c0 cs) (L.aB hf (.stop λn m k=>?_)));exact(p k).1 f n (L.hF _ _ j m)
end
end Go.Proofs
namespace Go.Proofs
open Go.Ph Go.Conc
def eL(g:aL):Bool:=match g.frame.mode with
 |ov=>match g.frame.todo with
  |[qi _]=>g.frame.fn==86||g.frame.fn==91
  |.inRegion _ (_::_)::_=>match bF g with
   |some o=>match o.op with
    |j4 .. | j5 .. | j6 .. | .box .. | .go ..=>fO
    |_=>fJ
   |none=>fJ
  |_=>fJ
 |ow=>fO
 |_=>fJ
abbrev T6(g:aL):aL:=wu PP fO eL 400 g
structure jq(g g':aL):Prop where
 q:ff PP fO eL 400 g
 d:∀d,xD PP fO eL 400 d g=d
 e:T6 g=g'
def dm{g g':aL}(e:T6 g=g')(a:ff PP fO eL 400 g:=by exact⟨λ_=>ae,ae⟩)(hd:∀d,xD PP fO eL 400 d g=d:=by intro _;kernel_rfl):jq g g':=⟨a,hd,e⟩
def jq.run{X:Fix}{V:Vw}{q:Bool}{Stop:Stp}{M:Own}{d:Nat}{g g':aL}{w:aF}(h:jq g g')(a:X.P=PP)(hg:(V.g==0)=fO)(b:ay X V q Stop M d g' w):ay X V q Stop M d g w:=by
 refine .oO (S:=eL) hg 400 (by rw[a];exact h.q) ?_;have e:wu PP fO eL 400 g=g':=h.e;rw[a,h.d,e];exact b
def dZ:Array aT:=Array.replicate 75 (lm kw 0)
structure CA where
 arr:Array aT
 f:Nat->aT
 rest:List aT
noncomputable def Ho:cl:=(Tryz.f61.body).getD qt
def fE(ca:CA):aI:=⟨61,⟨lp ca.arr::ca.f 1::ca.f 2::ca.f 3::ca.f 4::ca.f 5::ca.f 6::ca.f 7::ca.f 8::ca.f 9::ca.f 10::ca.f 11::ca.f 12::ca.f 13::ca.f 14::ca.f 15::ca.f 16::ca.f 17::ca.f 18::ca.f 19::ca.f 20::ca.rest⟩,[qi Ho],[],ov,oh,e8⟩
section
variable (ca:CA)(bc Tb bt Mu Wg:Nat)(sa:Option aP)(cg:Nat)(cs:List aI)
def m0:aL:=T6 (G (fE ca) cs)
def m_0:jq (G (fE ca) cs) (m0 ca cs):=dm (by delta m0;rfl)
def ajX:(bF (m0 ca cs)).map (·.op)=e7 (.box 78 (ph 0))/\(m0 ca cs).frame.eval (ph 0)=lp ca.arr:=⟨ae,ae⟩
def m1:aL:=T6 (fin (m0 ca cs) (pt bc))
def m_1:jq (fin (m0 ca cs) (pt bc)) (m1 ca bc cs):=dm (by delta m1;rfl)
def ajY:(bF (m1 ca bc cs)).map (·.op)=e7 (.box 138 (ph 7))/\(m1 ca bc cs).frame.eval (ph 7)=lp dZ:=⟨ae,ae⟩
def m2:aL:=T6 (fin (m1 ca bc cs) (pt Tb))
def m_2:jq (fin (m1 ca bc cs) (pt Tb)) (m2 ca bc Tb cs):=dm (by delta m2;rfl)
def ajZ:(bF (m2 ca bc Tb cs)).map (·.op)=e7 (j6 111):=ae
def m3:aL:=T6 (fin (m2 ca bc Tb cs) (pt bt))
def m_3:jq (fin (m2 ca bc Tb cs) (pt bt)) (m3 ca bc Tb bt cs):=dm (by delta m3;rfl)
def ak0:(bF (m3 ca bc Tb bt cs)).map (·.op)=e7 (j5 111 (ph 3) (ph 8))/\(m3 ca bc Tb bt cs).frame.eval (ph 3)=pt bt/\(m3 ca bc Tb bt cs).frame.eval (ph 8)=pt Tb:=⟨ae,ae,ae⟩
def m4:aL:=T6 (fin (m3 ca bc Tb bt cs) undef)
def m_4:jq (fin (m3 ca bc Tb bt cs) undef) (m4 ca bc Tb bt cs):=dm (by delta m4;rfl)
def ak1:(bF (m4 ca bc Tb bt cs)).map (·.op)=e7 (j6 145):=ae
def m5:aL:=T6 (fin (m4 ca bc Tb bt cs) (pt Mu))
def m_5:jq (fin (m4 ca bc Tb bt cs) (pt Mu)) (m5 ca bc Tb bt Mu cs):=dm (by delta m5;rfl)
def ak2:(bF (m5 ca bc Tb bt Mu cs)).map (·.op)=e7 (j6 152):=ae
def m6:aL:=T6 (fin (m5 ca bc Tb bt Mu cs) (pt Wg))
def m_6:jq (fin (m5 ca bc Tb bt Mu cs) (pt Wg)) (m6 ca bc Tb bt Mu Wg cs):=dm (by delta m6;rfl)
def aes:(bF (m6 ca bc Tb bt Mu Wg cs)).map (·.op)=e7 (j4 25 (ph 10))/\(m6 ca bc Tb bt Mu Wg cs).frame.eval (ph 10)=lR (e7 ⟨bc,5,e8⟩)/\(m6 ca bc Tb bt Mu Wg cs).status=p9:=⟨ae,ae,ae⟩
end
def tdA:List a8:=(T6 (fin (m6 ⟨#[],λ_=>undef,[]⟩ 0 0 0 0 0 []) (l1 e8 2 0))).frame.todo
section
variable (ng i:Nat)(ca:CA)(bc Tb bt Mu Wg bg:Nat)(sa:Option aP)(cg:Nat)(cs:List aI)(f:Nat->aT)
def a_:aL:=G ⟨61,⟨lp ca.arr :: lR (e7 ⟨bc,0,e8⟩) :: lR e8 :: lR (e7 ⟨bt,0,e8⟩) :: lR (e7 ⟨Mu,0,e8⟩) :: lR (e7 ⟨Wg,0,e8⟩)::f 6::f 7::f 8::f 9::f 10::f 11 :: lm kw (ng:Int) :: lm kw (i:Int)::f 14 :: lm kw (i:Int)::f 16::f 17::f 18::f 19::f 20::ca.rest⟩,tdA,[],ov,oh,e8⟩ cs
def b_:aL:=T6 (fin (a_ ng i ca bc bt Mu Wg cs f) (pt bg))
def c_:aL:=T6 (fin (b_ ng i ca bc bt Mu Wg bg cs f) undef)
def frA:aI:=(c_ ng i ca bc bt Mu Wg bg cs f).callers.headD default
def d_:aL:=T6 (G (hm (frA ng i ca bc bt Mu Wg bg cs f) (l3 #[])) cs)
def e_:aL:=T6 (fin (d_ ng i ca bc bt Mu Wg bg cs f) undef)
def frW:aI:=(e_ ng i ca bc bt Mu Wg bg cs f).callers.headD default
def f_:aL:=T6 (G (hm (frW ng i ca bc bt Mu Wg bg cs f) (l3 #[])) cs)
def g_:aL:=T6 (fin (f_ ng i ca bc bt Mu Wg bg cs f) (pt Tb))
def sW0:aL:=T6 (fin (m6 ca bc Tb bt Mu Wg cs) (l1 sa 0 cg))
def aod:aI:=(sW0 ca bc Tb bt Mu Wg sa cg cs).callers.headD default
def sL0:aL:=T6 (G (hm (aod ca bc Tb bt Mu Wg sa cg cs) (l3 #[])) cs)
def sR0:aL:=T6 (fin (sL0 ca bc Tb bt Mu Wg sa cg cs) (pt Tb))
end
def anR(g:aL):Nat->aT:=λk=>g.frame.tmps[k]!
structure aoe(ng i:Nat):Prop where
 oA:∀ca bc bt Mu Wg cs f,(bF (a_ ng i ca bc bt Mu Wg cs f)).map (·.op)=e7 (j6 3)
 hB:∀ca bc bt Mu Wg bg cs f,jq (fin (a_ ng i ca bc bt Mu Wg cs f) (pt bg)) (b_ ng i ca bc bt Mu Wg bg cs f)
 oB:∀ca bc bt Mu Wg bg cs f,(bF (b_ ng i ca bc bt Mu Wg bg cs f)).map (·.op)=e7 (j5 3 (ph 6) (ph 15))/\(b_ ng i ca bc bt Mu Wg bg cs f).frame.eval (ph 6)=pt bg/\(b_ ng i ca bc bt Mu Wg bg cs f).frame.eval (ph 15)=lm kw (i:Int)
 hC:∀ca bc bt Mu Wg bg cs f,jq (fin (b_ ng i ca bc bt Mu Wg bg cs f) undef) (aE Wg (frA ng i ca bc bt Mu Wg bg cs f) cs)
 hD:∀ca bc bt Mu Wg bg cs f,jq (G (hm (frA ng i ca bc bt Mu Wg bg cs f) (l3 #[])) cs) (d_ ng i ca bc bt Mu Wg bg cs f)
 goD:∀ca bc bt Mu Wg bg cs f w,stepG PP fO (d_ ng i ca bc bt Mu Wg bg cs f) w=.spawn (fin (d_ ng i ca bc bt Mu Wg bg cs f) undef) (uy Wg bc bg Mu bt) w #[]
 rD:∀ca bc bt Mu Wg bg cs f,(d_ ng i ca bc bt Mu Wg bg cs f).status=p9/\(fin (d_ ng i ca bc bt Mu Wg bg cs f) undef).status=p9
structure aqS(ng i:Nat):Prop where
 hE:∀ca bc bt Mu Wg bg cs f,jq (fin (d_ ng i ca bc bt Mu Wg bg cs f) undef) (a_ ng (i+1) ca bc bt Mu Wg cs (anR (T6 (fin (d_ ng i ca bc bt Mu Wg bg cs f) undef))))
structure aof(ng:Nat):Prop where
 h:∀ca bc Tb bt Mu Wg sa cg cs,jq (fin (m6 ca bc Tb bt Mu Wg cs) (l1 sa ng cg)) (a_ ng 0 ca bc bt Mu Wg cs (anR (T6 (fin (m6 ca bc Tb bt Mu Wg cs) (l1 sa ng cg)))))
structure aog(g:aL)(cs:List aI)(Tb:Nat):Prop where
 self:g=G g.frame cs
 mode:g.frame.mode=ow
 kind:g.frame.kind=oh
 defers:g.frame.defers=[]
 fn:g.frame.fn=61
 res:g.frame.tmps.getD 2 undef=pt Tb
structure auO(ng i:Nat):Prop where
 hW:∀ca bc bt Mu Wg bg cs f,jq (fin (d_ ng i ca bc bt Mu Wg bg cs f) undef) (wE Wg (frW ng i ca bc bt Mu Wg bg cs f) cs)
 hL:∀ca bc bt Mu Wg bg cs f,jq (G (hm (frW ng i ca bc bt Mu Wg bg cs f) (l3 #[])) cs) (f_ ng i ca bc bt Mu Wg bg cs f)
 oL:∀ca bc bt Mu Wg bg cs f,(bF (f_ ng i ca bc bt Mu Wg bg cs f)).map (·.op)=e7 (j4 111 (ph 3))/\(f_ ng i ca bc bt Mu Wg bg cs f).frame.eval (ph 3)=pt bt
 hR:∀ca bc Tb bt Mu Wg bg cs f,jq (fin (f_ ng i ca bc bt Mu Wg bg cs f) (pt Tb)) (g_ ng i ca bc Tb bt Mu Wg bg cs f)
 eR:∀ca bc Tb bt Mu Wg bg cs f,aog (g_ ng i ca bc Tb bt Mu Wg bg cs f) cs Tb
structure aqT:Prop where
 hW:∀ca bc Tb bt Mu Wg sa cg cs,jq (fin (m6 ca bc Tb bt Mu Wg cs) (l1 sa 0 cg)) (wE Wg (aod ca bc Tb bt Mu Wg sa cg cs) cs)
 hL:∀ca bc Tb bt Mu Wg sa cg cs,jq (G (hm (aod ca bc Tb bt Mu Wg sa cg cs) (l3 #[])) cs) (sL0 ca bc Tb bt Mu Wg sa cg cs)
 oL:∀ca bc Tb bt Mu Wg sa cg cs,(bF (sL0 ca bc Tb bt Mu Wg sa cg cs)).map (·.op)=e7 (j4 111 (ph 3))/\(sL0 ca bc Tb bt Mu Wg sa cg cs).frame.eval (ph 3)=pt bt
 hR:∀ca bc Tb bt Mu Wg sa cg cs,jq (fin (sL0 ca bc Tb bt Mu Wg sa cg cs) (pt Tb)) (sR0 ca bc Tb bt Mu Wg sa cg cs)
 eR:∀ca bc Tb bt Mu Wg sa cg cs,aog (sR0 ca bc Tb bt Mu Wg sa cg cs) cs Tb
def anb(ng i:Nat)(h:i<ng)(a:ng<=3):aoe ng i:=by
 match ng,i,h,a with
 |1,0,_,_|2,0,_,_|2,1,_,_|3,0,_,_|3,1,_,_|3,2,_,_=>
  exact⟨λca bc bt Mu Wg cs f=>ae,λca bc bt Mu Wg bg cs f=>dm (by delta b_;rfl),λca bc bt Mu Wg bg cs f=>⟨ae,ae,ae⟩,λca bc bt Mu Wg bg cs f=>dm ae,λca bc bt Mu Wg bg cs f=>dm (by delta d_;rfl),λca bc bt Mu Wg bg cs f w=>ae,λca bc bt Mu Wg bg cs f=>⟨ae,ae⟩⟩
def aoh(ng i:Nat)(h:i+1<ng)(a:ng<=3):aqS ng i:=by
 match ng,i,h,a with
 |2,0,_,_|3,0,_,_|3,1,_,_=>exact⟨λca bc bt Mu Wg bg cs f=>dm ae⟩
def anc(ng:Nat)(h:0<ng)(a:ng<=3):aof ng:=by
 match ng,h,a with
 |1,_,_|2,_,_|3,_,_=>exact⟨λca bc Tb bt Mu Wg sa cg cs=>dm ae⟩
def aqU(ng:Nat)(a:ng<=2):auO (ng+1) ng:=by
 match ng,a with
 |0,_|1,_|2,_=>
  exact⟨λca bc bt Mu Wg bg cs f=>dm ae,λca bc bt Mu Wg bg cs f=>dm (by delta f_;rfl),λca bc bt Mu Wg bg cs f=>⟨ae,ae⟩,λca bc Tb bt Mu Wg bg cs f=>dm (by delta g_;rfl),λca bc Tb bt Mu Wg bg cs f=>⟨ae,ae,ae,ae,ae,ae⟩⟩
def aqX:aqT:=
 ⟨λca bc Tb bt Mu Wg sa cg cs=>dm ae,λca bc Tb bt Mu Wg sa cg cs=>dm (by delta sL0;rfl),λca bc Tb bt Mu Wg sa cg cs=>⟨ae,ae⟩,λca bc Tb bt Mu Wg sa cg cs=>dm (by delta sR0;rfl),λca bc Tb bt Mu Wg sa cg cs=>⟨ae,ae,ae,ae,ae,ae⟩⟩
open Go.ConcN Go.bJ
open Go.cD (Th bP)
def akl:∃i,PP.info? 3=e7 i/\i.zero=e7 (lm kw 0):=by
 have h:(PP.info? 3).map (·.zero)=e7 (e7 (lm kw 0)):=ae;simp_all
def sz3:(PP.info? 3).map (·.size)=e7 1:=ae
structure Cf(np ng:Nat)(D:jB)(S:Nat->Nat)(dl:Nat->Int)(gn:Nat->ByteArray)(w0:aF):Prop where
 blk:∀b,b∈dR np D->b<w0.heap.size/\∃o,w0.heap[b]?=e7 o
 G8:∀i,i<np->∀j,j<12->f6 w0 ⟨D.pb,D.po+12*i+j,e8⟩=(pA D i)[j]?
 PM:∀k,k<ng->∀j,j<3->f6 w0 ⟨D.gb,D.go+3*k+j,e8⟩=(gA (S k) (dl k) (gn k))[j]?
 Zb:D.ng=ng
 hs:∀k,k<ng->S k<np
 MC:1<=np/\np<=5
 hn:ng<=3
section
variable {X:Fix}{V:Vw}{M:Own}{D:jB}{np ng:Nat}{S:Nat->Nat}{dl:Nat->Int}{gn:Nat->ByteArray}{bc bt:Nat}{w0 w w':aF}
structure Mk(X:Fix)(np:Nat)(D:jB)(bc bt:Nat)(w0 w:aF):Prop where
 live:Live X w
 blk:∀b,b∈dR np D->w.heap[b]?=w0.heap[b]?
 bc:w.heap[bc]?=e7 (nl (cA np D) 78)
 bt:w.heap[bt]?=e7 (nl #[lR (e7 ⟨X.Tb,0,e8⟩)] 111)
structure Mv(X:Fix)(V:Vw)(M:Own)(np:Nat)(D:jB)(bc bt:Nat)(w:aF):Prop where
 hg:V.g=0
 clear:ed X V M
 shun:∀b,V.st b\/M b->∀a':aP,a'.block=b->¬X.Shun (ob a')
 low:∀b,V.st b\/M b->b<w.heap.size
 has:∀b,(b∈dR np D\/b=bc\/b=bt)->V.st b\/M b
def Mv.keep(h:Mv X V M np D bc bt w)(r:Rl X V M w w'){b:Nat}(hb:V.st b\/M b):w'.heap[b]?=w.heap[b]?:=hb.elim (r.st b) (r.own b)
def Mk.rl(h:Mk X np D bc bt w0 w)(v:Mv X V M np D bc bt w)(r:Rl X V M w w'):Mk X np D bc bt w0 w':=
 ⟨r.live h.live,λb hb=>(v.keep r (v.has b (nt hb))).t (h.blk b hb),(v.keep r (v.has bc (nV (nt rfl)))).t h.bc,(v.keep r (v.has bt (nV (nV rfl)))).t h.bt⟩
def Mv.rl(v:Mv X V M np D bc bt w)(r:Rl X V M w w'):Mv X V M np D bc bt w':={ v with low:=λb hb=>bT (v.low b hb) r.size }
variable {c:Nat}{row:Nat->Nat->Prop}{Post:Own->aL->aF->Prop}
def JH(X:Fix)(np:Nat)(D:jB)(S:Nat->Nat)(dl:Nat->Int)(row:Nat->Nat->Prop)(k:Nat)(w:aF):Prop:=k<3->Rows X ⟨0,λ_=>False,row k⟩ np (S k) k D (dl k) np w
def aev(h:X.P=PP)(l:X.size=75)(p:X.n<=3)(r:0<c)(a:Cf np ng D S dl gn w0){k:Nat}(e:k<ng)(q:∀j,k*25<=j->j<k*25+25->row k j){d:Nat}(v:Mv X V M np D bc bt w)(m:Mk X np D bc bt w0 w)(f:V.st d\/M d)(hg:w.heap[d]?=e7 (nl #[lm kw (k:Int)] 3)) :
 zl X (rj c row k V M) D np (S k) k (dl k) (gn k) bc d bt w:=by
 have cell:∀{b:Nat}{o:Nat},b∈dR np D->f6 w ⟨b,o,e8⟩=f6 w0 ⟨b,o,e8⟩:=λhb=>by simp only[f6,m.blk _ hb]
 refine⟨h,by show(c+k==0)=fJ;simp;omega,v.clear.ids,λb hb=>hb.elim (v.clear.st b) (v.clear.own b),λb hb=>v.shun b hb,p,l,λb hb=>v.low b hb,⟨v.has bc (nV (nt rfl)),m.bc⟩,⟨f,by simp only[f6,hg];rfl⟩,⟨v.has bt (nV (nV rfl)),by simp only[f6,m.bt];rfl⟩,
  λb hb=>⟨v.has b (nt hb),by rw[m.blk b hb];exact(a.blk b hb).2⟩,λi hi j g=>(cell (by simp[dR])).t (a.G8 i hi j g),λj g=>(cell (by simp[dR])).t (a.PM k e j g),by have:=a.hn;omega,by rw[a.Zb];exact e,a.hs k e,a.MC.2,q⟩
def Aw(f:X.P=PP)(fW:X.size=75)(U:X.n<=3)(Xe:0<c)(W:Cf np ng D S dl gn w0)(hX:X.n=ng){k r:Nat}(hk:k+(r+1)=ng)(sg:FE np (S k))(BU:∀j,k*25<=j->j<k*25+25->row k j)
 {gA:aL} {u p:Nat->aL} {fA:Nat->aI} {cs:List aI} (oA:(bF gA).map (·.op)=e7 (j6 3)) (hB:∀d,jq (el gA (pt d)) (u d)) (oB:∀d,(bF (u d)).map (·.op)=e7 (j5 3 (ph 6) (ph 15))/\(u d).frame.eval (ph 6)=pt d/\(u d).frame.eval (ph 15)=lm kw (k:Int))
 (hC:∀d,jq (el (u d) undef) (aE X.Wg (fA d) cs)) (hD:∀d,jq (G (hm (fA d) (l3 #[])) cs) (p d)) (C:∀d w,stepG PP fO (p d) w=.spawn (el (p d) undef) (uy X.Wg bc d X.Mu bt) w #[]) (Y:∀d,(p d).status=p9/\(el (p d) undef).status=p9)
 (v:Mv X V M np D bc bt w) (m:Mk X np D bc bt w0 w) (qU:∀b,w0.heap.size<=b->∀a':aP,a'.block=b->¬X.Shun (ob a')) (FA:w0.heap.size<=w.heap.size)
 (K:∀d w1,Mv X (V.more λb=>M b\/b=d) eg np D bc bt w1->Mk X np D bc bt w0 w1->w0.heap.size<=w1.heap.size->ay X (V.more λb=>M b\/b=d) fJ (Ta X c np row (JH X np D S dl row) Post r (V.more λb=>M b\/b=d)) eg 0 (el (p d) undef) w1) :
 ay X V fJ (Ta X c np row (JH X np D S dl row) Post (r+1) V) M 0 gA w:=by
 have x:(V.g==0)=fO:=by rw[v.hg];rfl
 obtain⟨o,y,z⟩:=jC oA;obtain⟨i3,hi,hz⟩:=akl;refine .new v.clear (aK y).1 m.live (o':=λ_=>nl #[lm kw 0] 3) (G':=λb=>el gA (pt b)) (λa q=>?_) (λb=>(aK y).2.2 _) λa q=>?_
 .have:=jY (P:=X.P) (mn:=V.g==0) (w:=a) y z (by rw[f];exact hi) hz;exact this
 have m1:=m.rl v q;have v1:=v.rl q;obtain⟨⟨_,_,s⟩,⟨_,_,t⟩,E,H,I⟩:=m1.live;have lM:=bn s;have lW:=bn t;have lT:=bn H;have e:∀(o:Obj)(b:Nat),b<a.heap.size->(f7 a o).heap[b]?=a.heap[b]?:=λo b hb=>by
  show(a.heap.push _)[b]?=_;grind
 have A:(f7 a (nl #[lm kw 0] 3)).heap[a.heap.size]?=e7 (nl #[lm kw 0] 3):=gg _ _;have J:Mv X V (λb=>M b\/b=a.heap.size) np D bc bt (f7 a (nl #[lm kw 0] 3)):=by
  refine⟨v1.hg,⟨v1.clear.ids,v1.clear.st,λb hb=>?_⟩,λb hb=>?_,λb hb=>?_,λb hb=>(v1.has b hb).imp id nt⟩
  .rcases hb with hb|rfl
   .exact v1.clear.own b hb
   .exact⟨ab,ab,ab⟩
  .rcases hb with hb|hb|rfl
   .exact v1.shun b (nt hb)
   .exact v1.shun b (nV hb)
   .exact qU _ (da FA q.size)
  .simp only[f8]
   rcases hb with hb|hb|rfl
   .have:=v1.low b (nt hb);omega
   .have:=v1.low b (nV hb);omega
   .omega
 have m2:Mk X np D bc bt w0 (f7 a (nl #[lm kw 0] 3)):=by
  refine⟨⟨⟨_,_,by unfold hq at s ⊢;rw[e _ _ lM];exact s⟩,⟨_,_,by unfold hG at t ⊢;rw[e _ _ lW];exact t⟩,E,by rw[e _ _ lT];exact H,I⟩,λb hb=>?_,?_,?_⟩
  .rw[e _ _ (v1.low b (v1.has b (nt hb)))];exact m1.blk b hb
  .rw[e _ _ (v1.low bc (v1.has bc (nV (nt rfl))))];exact m1.bc
  .rw[e _ _ (v1.low bt (v1.has bt (nV (nV rfl))))];exact m1.bt
 refine(hB a.heap.size).run f x ?_;obtain⟨z,hx,hy⟩:=oB a.heap.size;obtain⟨o,y,z⟩:=jC z;have L:=v1.low
 refine .DS (b:=a.heap.size) (cur:=#[lm kw 0]) (ty:=3) J.clear m2.live (nV rfl) y z hx hy A (by rw[f,sz3];rfl) (by show 0+1<=1;omega) (λc hc=>by
  have:c=lm kw (k:Int):=by simpa[lq]using hc
  subst this;rfl) λw2 q2=>?_
 rw[show(lm kw (k:Int)).cells=#[lm kw (k:Int)] from rfl,rH (show(#[lm kw 0]:Array aT).size=(#[lm kw (k:Int)]:Array aT).size from rfl)];have m3:=m2.rl J q2;have N:=J.rl q2;have eP:w2.heap[a.heap.size]?=e7 (nl #[lm kw 0] 3):=(q2.own _ (nV rfl)).t A;have Z:jm X a.heap.size:=N.clear.own _ (nV rfl);have B:∀b,b≠a.heap.size->(gj w2 a.heap.size #[lm kw (k:Int)]).heap[b]?=w2.heap[b]?:=λb hb=>ci _ _ _ _ hb;have m4:Mk X np D bc bt w0 (gj w2 a.heap.size #[lm kw (k:Int)]):=by
  obtain⟨⟨_,_,s⟩,⟨_,_,t⟩,E,H,I⟩:=m3.live;refine⟨⟨⟨_,_,by unfold hq at s ⊢;rw[B _ (gr Z.1)];exact s⟩,⟨_,_,by unfold hG at t ⊢;rw[B _ (gr Z.2.1)];exact t⟩,E,aS,I⟩,λb hb=>?_,?_,?_⟩
  .rw[B _ (by have:=L b (v1.has b (nt hb));omega)];exact m3.blk b hb
  .rw[B _ (by have:=L bc (v1.has bc (nV (nt rfl)));omega)];exact m3.bc
  .rw[B _ (by have:=L bt (v1.has bt (nV (nV rfl)));omega)];exact m3.bt
 have v4:Mv X V (λb=>M b\/b=a.heap.size) np D bc bt (gj w2 a.heap.size #[lm kw (k:Int)]):={ N with low:=λb hb=>by simpa using N.low b hb }
 have g4:(gj w2 a.heap.size #[lm kw (k:Int)]).heap[a.heap.size]?=e7 (nl #[lm kw (k:Int)] 3):=b8 _ _ _ _ _ _ eP;refine(hC a.heap.size).run f x ?_;have O:w0.heap.size<=w2.heap.size:=by
  have:=q.size;grind
 refine P6 (F:=λw=>Mk X np D bc bt w0 w/\Mv X V (λb=>M b\/b=a.heap.size) np D bc bt w/\w.heap[a.heap.size]?=e7 (nl #[lm kw (k:Int)] 3)/\w0.heap.size<=w.heap.size)
  ⟨f,x,v4.clear,λw w' h q=>⟨h.1.rl h.2.1 q,h.2.1.rl q,(q.own _ (nV rfl)).t h.2.2.1,da h.2.2.2 q.size⟩,λw h=>h.1.live,U⟩ r (λw5 h5=>?_) ⟨m4,v4,g4,by simpa using O⟩
 refine(hD a.heap.size).run f x (.stop λw6 q6=>?_);obtain⟨Q,i,R,T⟩:=h5;have m6:=Q.rl i q6;have v6:=i.rl q6;have g6:w6.heap[a.heap.size]?=e7 (nl #[lm kw (k:Int)] 3):=(q6.own _ (nV rfl)).t R;have ek:X.n-(r+1)=k:=ab;rw[ek];refine⟨(Y _).1,rfl,_,_,by rw[f,x];exact C _ _,(Y _).2,rfl,λl kf=>?_,?_⟩
 .have GH:=aev (c:=c) (row:=row) f fW U Xe W (show k<ng by omega) BU v6 m6 (nV (nV rfl)) g6;refine Hl GH sg W.MC.1 (λw h _=>⟨h.put,h.rest⟩) ⟨m6.live,λ_ _=>rfl,dk _⟩ (λj hj _=>l j hj) kf
 .refine K _ _ ⟨i.hg,⟨v6.clear.ids,λb hb=>hb.elim (v6.clear.st b) (v6.clear.own b),λb hb=>hb.elim⟩,λb hb=>hb.elim (λhb=>v6.shun b hb) (λhb=>hb.elim),λb hb=>hb.elim (λhb=>v6.low b hb) (λhb=>hb.elim),λb hb=>nt (v6.has b hb)⟩ m6 (da T q6.size)
end
end Go.Proofs
namespace Go.Proofs
open Go.Ph Go.Conc Go.ConcN Go.bJ
def aew:∃fn,PP.funcs[61]?=e7 fn/\fn.results=#[.tmp 2]:=⟨g8,g9,rfl⟩
section
variable {jf:Nat->aT}{jr:List aT}{X:Fix}{V:Vw}{M:Own}{D:jB}{np ng:Nat}{S:Nat->Nat}{dl:Nat->Int}{gn:Nat->ByteArray}{bc bt:Nat}{w0 w:aF}{c:Nat}{row:Nat->Nat->Prop}{c':aI}{l':List aI}
def P8(X:Fix)(c':aI)(l':List aI):Own->aL->aF->Prop:=λ_ g _=>g=G (hm c' (lR (e7 ⟨X.Tb,0,e8⟩))) l'
def ane(a:X.P=PP)(p:X.n<=3){g d gR:aL}{k:aI}(v:Mv X V eg np D bc bt w)(m:Mk X np D bc bt w0 w)
 (r:jq g (wE X.Wg k (c'::l'))) (s:jq (G (hm k (l3 #[])) (c'::l')) d) (oL:(bF d).map (·.op)=e7 (j4 111 (ph 3))/\d.frame.eval (ph 3)=pt bt)
 (t:jq (el d (pt X.Tb)) gR) (eR:aog gR (c'::l') X.Tb):ay X V fJ (Ta X c np row (JH X np D S dl row) (P8 X c' l') 0 V) eg 0 g w:=by
 have e:(V.g==0)=fO:=by rw[v.hg];rfl
 refine r.run a e ?_;refine MR (F:=λw=>Mk X np D bc bt w0 w/\Mv X V eg np D bc bt w) ⟨a,e,v.clear,λw w' h q=>⟨h.1.rl h.2 q,h.2.rl q⟩,λw h=>h.1.live,p⟩ (λw3 u=>?_) ⟨m,v⟩;obtain⟨m3,b⟩:=u;refine s.run a e ?_;obtain⟨f,x⟩:=oL;obtain⟨o,y,f⟩:=jC f;refine .qM (v:=lR (e7 ⟨X.Tb,0,e8⟩)) b.clear m3.live y f x (λl q=>?_) ((b.has bt (nV (nV rfl))).imp (λh=>⟨h,b.shun bt (nt h)⟩) id) ?_
 .have m4:=m3.rl b q;have h:f6 l ⟨bt,0,e8⟩=e7 (lR (e7 ⟨X.Tb,0,e8⟩)):=by simp only[f6,m4.bt];rfl
  exact⟨l8 (by rw[a];exact WW) rfl h,pY h⟩
 refine t.run a e ?_;rw[eR.self];obtain⟨fn,i,j⟩:=aew;refine .leave1 b.clear eR.mode eR.kind eR.defers (by rw[a,eR.fn];exact i) j ?_;rw[eR.res];exact .stop λl _=>⟨rfl,rfl,rfl⟩
theorem aco(h:X.P=PP)(p:X.size=75)(l:X.n<=3)(q:0<c)(s:Cf np ng D S dl gn w0)(t:X.n=ng)(u:∀k,k<ng->FE np (S k))(x:∀k,k<ng->∀j,k*25<=j->j<k*25+25->row k j)
 (y:∀b,w0.heap.size<=b->∀a':aP,a'.block=b->¬X.Shun (ob a')):∀(r k:Nat),k+(r+1)=ng->∀{V:Vw}{M:Own}{w:aF}{f:Nat->aT},Mv X V M np D bc bt w->Mk X np D bc bt w0 w->w0.heap.size<=w.heap.size->
 ay X V fJ (Ta X c np row (JH X np D S dl row) (P8 X c' l') (r+1) V) M 0 (a_ ng k (CA.mk (cA np D) jf jr) bc bt X.Mu X.Wg (c'::l') f) w
 |r,k,i,V,M,w,f,v,m,A=>by
  have z:ng<=3:=ab;have a:=anb ng k ab z;refine Aw (r:=r) (k:=k) h p l q s t i (u k ab) (x k ab) (a.oA ..) (λd=>a.hB (CA.mk (cA np D) jf jr) bc bt X.Mu X.Wg d (c'::l') f) (λd=>a.oB ..) (λd=>a.hC ..) (λd=>a.hD (CA.mk (cA np D) jf jr) bc bt X.Mu X.Wg d (c'::l') f) (λd w=>a.goD ..) (λd=>a.rD ..) v m y A λe w1 v1 m1 B=>?_;have o:((V.more λb=>M b\/b=e).g==0)=fO:=by rw[v1.hg];rfl
  match r,i with
  |0,i=>
   obtain rfl:ng=k+1:=ab;have me:=aqU k ab;exact ane h l v1 m1 (me.hW ..) (me.hL (CA.mk (cA np D) jf jr) bc bt X.Mu X.Wg e (c'::l') f) (me.oL ..) (me.hR ..) (me.eR ..)
  |r+1,i=>
   refine((aoh ng k ab z).hE (CA.mk (cA np D) jf jr) bc bt X.Mu X.Wg e (c'::l') f).run h o ?_;exact aco h p l q s t u x y r (k+1) ab v1 m1 B
def aik(f:0<ng)(i:X.P=PP)(y:X.size=75)(d:X.n=ng)(z:0<c)(a:Cf np ng D S dl gn w0)(l:∀k,k<ng->FE np (S k))(p:∀k,k<ng->∀j,k*25<=j->j<k*25+25->row k j)
 (v:Mv X V M np D bc bt w) (m:Mk X np D bc bt w0 w) (A:∀b,w0.heap.size<=b->∀a':aP,a'.block=b->¬X.Shun (ob a')) (B:w0.heap.size<=w.heap.size) :
 ay X V fJ (Ta X c np row (JH X np D S dl row) (P8 X c' l') ng V) M 0 (m6 (CA.mk (cA np D) jf jr) bc X.Tb bt X.Mu X.Wg (c'::l')) w:=by
 have C:X.n<=3:=by rw[d];exact a.hn
 have r:(V.g==0)=fO:=by rw[v.hg];rfl
 obtain⟨e,s,_⟩:=aes (CA.mk (cA np D) jf jr) bc X.Tb bt X.Mu X.Wg (c'::l');obtain⟨o,t,e⟩:=jC e;have u:=a.Zb;refine .qM (v:=l1 (e7 ⟨D.gb,D.go,e8⟩) ng D.cg) v.clear m.live t e s (λx q=>?_) ((v.has bc (nV (nt rfl))).imp (λh=>⟨h,v.shun bc (nt h)⟩) id) ?_
 .have m1:=m.rl v q;have h:f6 x ⟨bc,5,e8⟩=e7 (l1 (e7 ⟨D.gb,D.go,e8⟩) ng D.cg):=by
   simp only[f6,m1.bc];rw[<-u];rfl
  exact⟨l8 (by rw[i];exact adX) rfl h,pY h⟩
 match ng,f,d,a,l,p with
 |g+1,f,d,a,l,p=>
  refine((anc (g+1) ab a.hn).h (CA.mk (cA np D) jf jr) bc X.Tb bt X.Mu X.Wg (e7 ⟨D.gb,D.go,e8⟩) D.cg (c'::l')).run i r ?_;grind[aco]
def alW{Fin:Nat->aF->Prop}{arr:Array aT}{a:Option aP}{b:Nat}(d:X.P=PP)(y:X.n<=3)(hg:V.g=0)(k:ed X V M)(u:M bc)(f:M bt)(hl:Live X w)(z:w.heap[bc]?=e7 (nl arr 78))(A:w.heap[bt]?=e7 (nl #[lR (e7 ⟨X.Tb,0,e8⟩)] 111))(B:arr[5]?=e7 (l1 a 0 b)) :
 ay X V fJ (Ta X c np row Fin (P8 X c' l') 0 V) M 0 (m6 (CA.mk arr jf jr) bc X.Tb bt X.Mu X.Wg (c'::l')) w:=by
 have l:(V.g==0)=fO:=by rw[hg];rfl
 obtain⟨i,p,_⟩:=aes (CA.mk arr jf jr) bc X.Tb bt X.Mu X.Wg (c'::l');obtain⟨o,r,i⟩:=jC i;refine .qM (v:=l1 a 0 b) k hl r i p (λm q=>?_) (nV u) ?_
 .have h:f6 m ⟨bc,5,e8⟩=e7 (l1 a 0 b):=by
   have e:=(q.own bc u).t z;simp only[f6,e];simpa using B
  exact⟨l8 (by rw[d];exact adX) rfl h,pY h⟩
 have j:=aqX;refine(j.hW (CA.mk arr jf jr) bc X.Tb bt X.Mu X.Wg a b (c'::l')).run d l ?_;refine MR (F:=λw=>Live X w/\w.heap[bt]?=e7 (nl #[lR (e7 ⟨X.Tb,0,e8⟩)] 111)) ⟨d,l,k,λw w' h q=>⟨q.live h.1,(q.own bt f).t h.2⟩,λw h=>h.1,y⟩ (λw3 x=>?_) ⟨hl,A⟩;refine(j.hL (CA.mk arr jf jr) bc X.Tb bt X.Mu X.Wg a b (c'::l')).run d l ?_;obtain⟨i,p⟩:=j.oL (CA.mk arr jf jr) bc X.Tb bt X.Mu X.Wg a b (c'::l');obtain⟨o,r,i⟩:=jC i;refine .qM (v:=lR (e7 ⟨X.Tb,0,e8⟩)) k x.1 r i p (λm q=>?_) (nV f) ?_
 .have h:f6 m ⟨bt,0,e8⟩=e7 (lR (e7 ⟨X.Tb,0,e8⟩)):=by
   have e:=(q.own bt f).t x.2;simp only[f6,e];rfl
  exact⟨l8 (by rw[d];exact WW) rfl h,pY h⟩
 refine(j.hR (CA.mk arr jf jr) bc X.Tb bt X.Mu X.Wg a b (c'::l')).run d l ?_;have eR:=j.eR (CA.mk arr jf jr) bc X.Tb bt X.Mu X.Wg a b (c'::l');rw[eR.self];obtain⟨fn,s,t⟩:=aew;refine .leave1 k eR.mode eR.kind eR.defers (by rw[d,eR.fn];exact s) t ?_;rw[eR.res];exact .stop λm _=>⟨rfl,rfl,rfl⟩
end
section
variable (P:bj)(S:aL->Bool)
def nM(w:aF):Nat->aL->List (co×cq)
 |0,_=>[]
 |n+1,g=>@fR (λ_=>List (co×cq)) ((g.status,stepG P fO g w)::nM w n (nx P fO g)) [] (S g)
def nN(w:aF):Nat->aL->List (co×cq)
 |0,_=>[]
 |n+1,g=>@fR (λ_=>List (co×cq)) ((p9,m7 (nx P fO g) w #[])::nN w n (nx P fO g)) [] (S g)
end
section
variable {Shun:Loc->Prop}{Q:Nat->aL->aF->Prop}
def jF.quiet{P:bj}{S:aL->Bool}{K:aF->Prop}(f:∀w d,K w->K (w.at d)):∀(n:Nat){B:Nat}{g:aL},(∀w,nM P S w n g=nN P S w n g)->(∀w,K w->jF P Shun Q B (wu P fO S n g) w)->∀w,K w->jF P Shun Q B g w
 |0,_,_,_,a,w,b=>a w b
 |n+1,B,g,h,a,w,b=>by
  cases c:S g with
  |true=>simpa only[wu,c]using a w b
  |false=>
   simp only[wu,c]at a;have e:∀w,g.status=p9/\stepG P fO g w=m7 (nx P fO g) w #[]/\nM P S w n (nx P fO g)=nN P S w n (nx P fO g):=λw=>by
    have:=h w;simp only[nM,nN,c,List.cons.injEq,ma]at this;grind
   refine .one B (e w).1 (dk _) λd=>⟨_,_,#[],(e (w.at d)).2.1,ar,?_⟩
   exact jF.quiet f n (λw=>(e w).2.2) a _ (f w d b)
def xU{P:bj}{mn:Bool}{w:aF}{g:aL}{o:bi}{t:ai}{x:ch}{v:aT}(a:bF g=e7 o)(b:o.op=.box t x)(c:g.frame.eval x=v) :
 stepG P mn g w=m7 (el g (lR (e7 ⟨w.heap.size,0,e8⟩))) (f7 w (nl v.cells t)) #[]:=by
 have e1:ct g.frame.eval o=(do pure (qG (<-mc t v)):Sem cv):=by
  unfold ct;simp only[b,c]
 have d:(mc t v).run P w=kS (lR (e7 ⟨w.heap.size,0,e8⟩)) (f7 w (nl v.cells t)):=by
  simp[mc,newVar,newRow]
 have e:(mc t v).events P w #[]=#[]:=by
  simp[mc,newVar,newRow]
 rw[dF (v:=lR (e7 ⟨w.heap.size,0,e8⟩)) (w':=f7 w (nl v.cells t)) a (by rw[e1];simp[d]),e1];simp[e,seen_none]
structure Ee(w:aF)(h:Array Obj)(w':aF):Prop where
 tape:w'.tape=w.tape
 os:w'.os=w.os
 output:w'.output=w.output
 heap:w'.heap=h
def Ee.at{w w':aF}{h:Array Obj}(k:Ee w h w')(d:Nat):Ee w h (w'.at d):=⟨k.tape,k.os,k.output,k.heap⟩
def Ee.alloc{w w':aF}{h:Array Obj}(k:Ee w h w')(o:Obj):Ee w (h.push o) (f7 w' o):=⟨k.tape,k.os,k.output,by show w'.heap.push o=_;rw[k.heap]⟩
def JI:aT:=lR e8
def ZJ:∃i,PP.info? 111=e7 i/\i.zero=e7 JI:=by
 have h:(PP.info? 111).map (·.zero)=e7 (e7 JI):=ae;simp_all
def kP:Array aT:=#[lm kq 0,lm ks 0]
def ZK:∃i,PP.info? 145=e7 i/\i.zero=e7 (lp kP):=by
 have h:(PP.info? 145).map (·.zero)=e7 (e7 (lp kP)):=ae;simp_all
def nc:Array aT:=#[lm kt 0,lm ks 0]
def ZL:∃i,PP.info? 152=e7 i/\i.zero=e7 (lp nc):=by
 have h:(PP.info? 152).map (·.zero)=e7 (e7 (lp nc)):=ae;simp_all
def aex:(PP.info? 111).map (·.size)=e7 1:=ae
variable (ca:CA)(bc Tb bt Mu Wg:Nat)(cs:List aI)
def z_0:∀w,nM PP eL w 400 (G (fE ca) cs)=nN PP eL w 400 (G (fE ca) cs):=λw=>ae
def z_1:∀w,nM PP eL w 400 (el (m0 ca cs) (pt bc))=nN PP eL w 400 (el (m0 ca cs) (pt bc)):=λw=>ae
def z_2:∀w,nM PP eL w 400 (el (m1 ca bc cs) (pt Tb))=nN PP eL w 400 (el (m1 ca bc cs) (pt Tb)):=λw=>ae
def z_3:∀w,nM PP eL w 400 (el (m2 ca bc Tb cs) (pt bt))=nN PP eL w 400 (el (m2 ca bc Tb cs) (pt bt)):=λw=>ae
def z_4:∀w,nM PP eL w 400 (el (m3 ca bc Tb bt cs) undef)=nN PP eL w 400 (el (m3 ca bc Tb bt cs) undef):=λw=>ae
def z_5:∀w,nM PP eL w 400 (el (m4 ca bc Tb bt cs) (pt Mu))=nN PP eL w 400 (el (m4 ca bc Tb bt cs) (pt Mu)):=λw=>ae
def z_6:∀w,nM PP eL w 400 (el (m5 ca bc Tb bt Mu cs) (pt Wg))=nN PP eL w 400 (el (m5 ca bc Tb bt Mu cs) (pt Wg)):=λw=>ae
def jF.aB{Shun:Loc->Prop}{Q:Nat->aL->aF->Prop}{K:aF->Prop}(a:∀w d,K w->K (w.at d)){B:Nat}{g g':aL}(b:jq g g')(h:∀w,nM PP eL w 400 g=nN PP eL w 400 g)(c:∀w,K w->jF PP Shun Q B g' w):∀w,K w->jF PP Shun Q B g w:=
 jF.quiet a 400 h (by rw[show wu PP fO eL 400 g=g' from b.e];exact c)
def oX(h:Array Obj)(ca:Array aT):Array Obj:=((((h.push (nl ca 78)).push (nl dZ 138)).push (nl #[lR (e7 ⟨h.size+1,0,e8⟩)] 111)).push (nl kP 145)).push (nl nc 152)
def ZN{w:aF}(L:∀b,w.heap.size<=b->∀o,¬Shun (ob ⟨b,o,e8⟩))(u:∀w',Ee w (oX w.heap ca.arr) w'->Q (w.heap.size+3) (m6 ca w.heap.size (w.heap.size+1) (w.heap.size+2) (w.heap.size+3) (w.heap.size+4) cs) w') :
 jF PP Shun Q w.heap.size (G (fE ca) cs) w:=by
 have M:=w.heap.size;refine jF.aB (K:=Ee w w.heap) (λ_ d h=>h.at d) (m_0 ca cs) (z_0 ca cs) (λw1 n=>?_) w ⟨rfl,rfl,rfl,rfl⟩;obtain⟨a,k⟩:=ajX ca cs;obtain⟨o,f,a⟩:=jC a;refine .one (g:=m0 ca cs) w.heap.size (aK f).1 (dk _) λd=>⟨_,_,#[],xU f a k,ar,?_⟩
 have k1:=(n.at d).alloc (nl ca.arr 78);have v:(w1.at d).heap.size=w.heap.size:=by rw[(n.at d).heap]
 rw[v];refine jF.aB (K:=Ee w (w.heap.push (nl ca.arr 78))) (λ_ d h=>h.at d) (m_1 ca w.heap.size cs) (z_1 ca w.heap.size cs) (λw2 p=>?_) _ k1;obtain⟨a,k⟩:=ajY ca w.heap.size cs;obtain⟨o,f,a⟩:=jC a;refine .one (g:=m1 ca w.heap.size cs) w.heap.size (aK f).1 (dk _) λd=>⟨_,_,#[],xU f a k,ar,?_⟩
 have k2:=(p.at d).alloc (nl dZ 138);have y:(w2.at d).heap.size=w.heap.size+1:=by rw[(p.at d).heap];simp
 rw[y];refine jF.aB (K:=Ee w ((w.heap.push (nl ca.arr 78)).push (nl dZ 138))) (λ_ d h=>h.at d) (m_2 ca w.heap.size (w.heap.size+1) cs) (z_2 ca w.heap.size (w.heap.size+1) cs) (λw3 q=>?_) _ k2;obtain⟨o,f,a⟩:=jC (ajZ ca w.heap.size (w.heap.size+1) cs);obtain⟨i,hi,l⟩:=ZJ;refine .one (g:=m2 ca w.heap.size (w.heap.size+1) cs) w.heap.size (aK f).1 (dk _) λd=>⟨_,_,#[],jY f a hi l,ar,?_⟩
 have k3:=(q.at d).alloc (nl #[lR e8] 111);have z:(w3.at d).heap.size=w.heap.size+2:=by rw[(q.at d).heap];simp
 rw[z];refine jF.aB (K:=Ee w (((w.heap.push (nl ca.arr 78)).push (nl dZ 138)).push (nl #[lR e8] 111))) (λ_ d h=>h.at d) (m_3 ca w.heap.size (w.heap.size+1) (w.heap.size+2) cs) (z_3 ca w.heap.size (w.heap.size+1) (w.heap.size+2) cs) (λw4 m=>?_) _ k3;obtain⟨a,k,hy⟩:=ak0 ca w.heap.size (w.heap.size+1) (w.heap.size+2) cs;obtain⟨o,f,a⟩:=jC a;refine .one (g:=m3 ca w.heap.size (w.heap.size+1) (w.heap.size+2) cs) (w.heap.size+3) (aK f).1 ab λd=>?_;have r:((w.heap.push (nl ca.arr 78)).push (nl dZ 138)).size=w.heap.size+2:=ar;have hb:(w4.at d).heap[w.heap.size+2]?=e7 (nl #[lR e8] 111 (0,0)):=by rw[(m.at d).heap,<-r,ld]
 obtain⟨es,st,A⟩:=rC (P:=PP) (mn:=fO) f a k hy hb (by rw[aex];rfl) (by show 0+1<=1;omega) (λc hc=>by
  have:c=lR (e7 ⟨w.heap.size+1,0,e8⟩):=by simpa[lq]using hc
  subst this;rfl)
 refine⟨_,_,es,st,λe B=>?_,?_⟩
 .obtain⟨j,N,rfl⟩:=A e B;refine⟨λx O hs=>?_,ar,ar,?_⟩
  .have e1:(k7 ⟨ob ⟨w.heap.size+2,0+j,e8⟩,fO,fJ⟩).touch? = e7 ⟨ob ⟨w.heap.size+2,0+j,e8⟩,fO,.plain⟩:=rfl;grind
  .show w.heap.size+2<w.heap.size+3;omega
 have C:Ee w (((w.heap.push (nl ca.arr 78)).push (nl dZ 138)).push (nl #[lR (e7 ⟨w.heap.size+1,0,e8⟩)] 111)) (gj (w4.at d) (w.heap.size+2) (putRow #[lR e8] 0 (pt (w.heap.size+1)).cells)):=by
  refine⟨m.tape,m.os,m.output,?_⟩;rw[rH (show(#[lR e8]:Array aT).size=(pt (w.heap.size+1)).cells.size from rfl)];apply eV;intro b;have R:=(m.at d).heap;by_cases D:b=w.heap.size+2
  .subst D;rw[b8 _ _ _ _ _ _ hb,<-r,ld];rfl
  grind[ci,Nat.lt_or_ge,Array.getElem?_push_lt,Array.getElem?_eq_none]
 refine jF.aB (K:=Ee w (((w.heap.push (nl ca.arr 78)).push (nl dZ 138)).push (nl #[lR (e7 ⟨w.heap.size+1,0,e8⟩)] 111))) (λ_ d h=>h.at d) (m_4 ca w.heap.size (w.heap.size+1) (w.heap.size+2) cs) (z_4 ca w.heap.size (w.heap.size+1) (w.heap.size+2) cs) (λw5 s=>?_) _ C;obtain⟨o,f,a⟩:=jC (ak1 ca w.heap.size (w.heap.size+1) (w.heap.size+2) cs);obtain⟨i,hi,l⟩:=ZK;refine .one (g:=m4 ca w.heap.size (w.heap.size+1) (w.heap.size+2) cs) (w.heap.size+3) (aK f).1 (dk _) λd=>⟨_,_,#[],jY f a hi l,ar,?_⟩
 have E:=(s.at d).alloc (nl kP 145);have F:(w5.at d).heap.size=w.heap.size+3:=by rw[(s.at d).heap];simp
 rw[F];refine jF.aB (K:=Ee w ((((w.heap.push (nl ca.arr 78)).push (nl dZ 138)).push (nl #[lR (e7 ⟨w.heap.size+1,0,e8⟩)] 111)).push (nl kP 145))) (λ_ d h=>h.at d) (m_5 ca w.heap.size (w.heap.size+1) (w.heap.size+2) (w.heap.size+3) cs) (z_5 ca w.heap.size (w.heap.size+1) (w.heap.size+2) (w.heap.size+3) cs) (λw6 t=>?_) _ E;obtain⟨o,f,a⟩:=jC (ak2 ca w.heap.size (w.heap.size+1) (w.heap.size+2) (w.heap.size+3) cs);obtain⟨i,hi,l⟩:=ZL;refine .one (g:=m5 ca w.heap.size (w.heap.size+1) (w.heap.size+2) (w.heap.size+3) cs) (w.heap.size+3) (aK f).1 (dk _) λd=>⟨_,_,#[],jY f a hi l,ar,?_⟩
 have H:=(t.at d).alloc (nl nc 152);have I:(w6.at d).heap.size=w.heap.size+4:=by rw[(t.at d).heap];simp
 rw[I];refine jF.aB (K:=Ee w (oX w.heap ca.arr)) (λ_ d h=>h.at d) (m_6 ca w.heap.size (w.heap.size+1) (w.heap.size+2) (w.heap.size+3) (w.heap.size+4) cs) (z_6 ca w.heap.size (w.heap.size+1) (w.heap.size+2) (w.heap.size+3) (w.heap.size+4) cs) (λw7 J=>.done (u w7 J)) _ H
end
end Go.Proofs
namespace Go.Ph
open Go.Conc Go.ConcN
def TI.ZO{Shun Sh:Loc->Prop}{c:Nat}{t:c8}{B:Nat}(h:i0 Shun B t)(n:∀l,Sh l->l.isMemory=fO/\¬l.low B)(Own Rd:Nat->Loc->Prop)(hg:∀op∈t,c<=op.g->op.act.touch? = e8):TI Shun Sh Own Rd c 0 t:=by
 have o:∀(i:Nat)(op:MemOp)(x:Touch),t[i]?=e7 op->op.act.touch? = e7 x->¬Sh x.loc:=by
  intro i op x hi b hs;obtain⟨d,hl⟩:=n _ hs;refine hl ?_;have:=h.seen op (i1 hi);generalize op.act=act at b this
  cases act with
  |access e=>cases e.sync<;>(simp[k9]at b;subst b;exact this)
  |mark m=>cases m<;>simp[k9]at b<;>(subst b;exact this)
  |_=>simp[k9]at b
 refine⟨h.clean,λi a f _ d=>(h.known i a f d).imp id (·.2),λi op x hi b hs=>absurd hs (o i op x hi b),λk _ _=>ab,λk _ _=>ab,λl d _ hs _ i a f e=>?_,λl d _ hs _ i a f e _=>?_,
  λi op a hi _ _ f d=>h.known i a (by rw[touchAt_of hi];exact f) d,λi g hi p _ hc=>h.over i g hi p hc,λi op a hi j f=>?_,λi op hi j=>hg op (i1 hi) j⟩
 .rcases h.known i a f (by rw[e];exact d) with k|⟨k,_⟩
  .exact k
  .exact absurd (e▸k) hs
 .rcases h.known i a f (by rw[e];exact d) with k|⟨k,_⟩
  .exact k
  .exact absurd (e▸k) hs
 grind
end Go.Ph
namespace Go.Proofs
open Go.Ph Go.Conc Go.ConcN Go.bJ
variable {q:Nat}{C:Loc->Prop}{O:jB}{J:Nat->Nat}{L:Nat->Int}{R:aI}{M:List aI}{Y:aF}
section
variable {h:Array Obj}{ca:Array aT}
def xV:(oX h ca).size=h.size+5:=by simp[oX]
def Ay(hb:q<h.size):(oX h ca)[q]?=h[q]?:=by
 unfold oX;grind
def oY(k:Nat):(oX h ca)[h.size+k]?=(#[nl ca 78,nl dZ 138,nl #[lR (e7 ⟨h.size+1,0,e8⟩)] 111,nl kP 145,nl nc 152]:Array Obj)[k]?:=by
 have e:oX h ca=h ++ #[nl ca 78,nl dZ 138,nl #[lR (e7 ⟨h.size+1,0,e8⟩)] 111,nl kP 145,nl nc 152]:=by
  apply li;simp[oX]
 grind
end
def zL(Shun:Loc->Prop)(n0 n:Nat):Fix:={ P:=PP,tM:=145,tW:=152,tT:=138,Mu:=n0+3,Wg:=n0+4,Tb:=n0+1,size:=75,n:=n,Shun }
def Ef(k o:Nat):Prop:=k<3/\k*25<=o/\o<k*25+25
def xW(Shun:Loc->Prop)(n0 n c np:Nat)(D:jB)(S:Nat->Nat)(dl:Nat->Int)(c':aI)(l':List aI)(w₀:aF):CB:=
 { zL Shun n0 n with c,np,row:=Ef,Fin:=JH (zL Shun n0 n) np D S dl Ef,Post:=P8 (zL Shun n0 n) c' l',sE:=n0,w₀ }
def mp0(n:Nat):MP:=if n=0 then .w1 else .add
def ahj(n:Nat):(n=0/\mp0 n=.w1)\/(0<n/\mp0 n=.add):=by
 unfold mp0;grind
def ZP(n0 n np:Nat)(st:Nat->Prop)(tr:Tree)(q:Nat->Nat):Gh where
 j:=0
 th:=λ_=>{ pc:=.l0,r:=np }
 wp:=λ_=>.mu
 mp:=mp0 n
 V:=λ_=>⟨0,st,λ_=>False⟩
 M:=λ_ b=>b=n0\/b=n0+2
 tr:=λ_=>tr
 q:=q
 fu:=λ_=>1000
 s:=⟨{},0,0,0,0⟩
def akp(n np:Nat)(b:1<=np):cD.Inv n ⟨λ_=>{ pc:=.l0,r:=np },{},0⟩:=by
 have z:∀(f:cD.Th->Nat),f { pc:=.l0,r:=np }=0->sumTo n (λi=>f ((λ_=>({ pc:=.l0,r:=np }:cD.Th)) i))=0:=by
  intro f hf;show sumTo n (λ_=>f { pc:=.l0,r:=np })=0;rw[hf]
  induction n with
  |zero=>rfl
  |succ n a=>simp[sumTo,a]
 have c:=z cD.fh rfl;have d:=z cD.fq rfl;have e:=z cD.fk rfl;have g:=z cD.fa rfl;have j:=z cD.fr rfl;have k:=z cD.fw rfl;refine⟨λi _=>⟨?_,?_,?_,?_,?_,?_,?_,?_,?_,?_,?_⟩,?_,?_,?_,?_,?_⟩
 all_goals grind
def aey{Shun:Loc->Prop}{n0 n c np:Nat}{st:Nat->Prop}{D:jB}{S:Nat->Nat}{dl:Nat->Int}{c':aI}{l':List aI}{w₀:aF}{tr:Tree}{q:Nat->Nat}(a:n<=3):vK (xW Shun n0 n c np D S dl c' l' w₀) (ZP n0 n np st tr q)<=170:=by
 show wM n 0 0 (mp0 n)+0<=170
 rcases ahj n with⟨_,h⟩|⟨_,h⟩<;>rw[h]<;>simp only[wM]<;>omega
def UO{n c np:Nat}(f:1<=np/\np<=5):nG (xW C q n c np O J L R M Y):=by
 intro k w w' h hf a;have b:=hf a;refine⟨λd g j i=>?_,λj e l=>?_⟩
 .refine(h _ ⟨a,ab,?_⟩).t (b.put d g j i);have:=oW (s:=J k) f.1 (r:=d);omega
 .exact(h j e).t (b.rest j e l)
def JK{Shun:Loc->Prop}{n0 n c np:Nat}{D:jB}{S:Nat->Nat}{dl:Nat->Int}{c':aI}{l':List aI}{w₀:aF}:Jn (xW Shun n0 n c np D S dl c' l' w₀):=by
 intro k k' o b h a;obtain⟨_,d,e⟩:=h;obtain⟨_,f,g⟩:=a;grind
def Qa{n c np:Nat}:GL (xW C q n c np O J L R M Y):=λ_ _ _ _ h=>h
def MS(h:q<75):dZ[q]?=e7 (lm kw 0):=by
 unfold dZ;grind
section
variable {jf:Nat->aT}{jr:List aT}{Shun:Loc->Prop}{np:Nat}{D:jB}{S:Nat->Nat}{dl:Nat->Int}{gn:Nat->ByteArray}{c':aI}{l':List aI}
def UP{n:Nat}{arr:Array aT}{st:Nat->Prop}{gs:Array aL}{w w1:aF}{t:c8}{q:Nat->Nat}(K:n<=3)(L:1<=np)(F:∀b,st b->b<w.heap.size)
 (N:∀l,Shun l->l.low w.heap.size/\l.isMemory=fO)
 (p:Ee w (oX w.heap arr) w1) (O:gs[0]?=e7 (m6 (CA.mk arr jf jr) w.heap.size (w.heap.size+1) (w.heap.size+2) (w.heap.size+3) (w.heap.size+4) (c'::l')))
 (H:ay (zL Shun w.heap.size n) ⟨0,st,λ_=>False⟩ fJ (Ta (zL Shun w.heap.size n) gs.size np Ef (JH (zL Shun w.heap.size n) np D S dl Ef) (P8 (zL Shun w.heap.size n) c' l') n ⟨0,st,λ_=>False⟩) (λb=>b=w.heap.size\/b=w.heap.size+2) 0 (m6 (CA.mk arr jf jr) w.heap.size (w.heap.size+1) (w.heap.size+2) (w.heap.size+3) (w.heap.size+4) (c'::l')) w1)
 (I:i2 PP t gs q) (x:i0 Shun (w.heap.size+3) t) (P:∀op∈t,gs.size<=op.g->op.act.touch? = e8) :
 ∃tr,MI (xW Shun w.heap.size n gs.size np D S dl c' l' w1) (ZP w.heap.size n np st tr q) gs w1 t:=by
 have Q:0<gs.size:=(bR.1 O).1;have Y:w1.heap.size=w.heap.size+5:=by rw[p.heap,xV]
 have hold:∀b,b<w.heap.size->w1.heap[b]?=w.heap[b]?:=λb hb=>by rw[p.heap,Ay hb]
 have Z:w1.heap[w.heap.size]?=e7 (nl arr 78):=by rw[p.heap];exact oY 0
 have r:w1.heap[w.heap.size+1]?=e7 (nl dZ 138):=by rw[p.heap];exact oY 1
 have R:w1.heap[w.heap.size+2]?=e7 (nl #[lR (e7 ⟨w.heap.size+1,0,e8⟩)] 111):=by rw[p.heap];exact oY 2
 have z:w1.heap[w.heap.size+3]?=e7 (nl kP 145):=by rw[p.heap];exact oY 3
 have A:w1.heap[w.heap.size+4]?=e7 (nl nc 152):=by rw[p.heap];exact oY 4
 have T:ShAt (zL Shun w.heap.size n) w1 ⟨{},0,0,0,0⟩:=⟨z,A⟩
 have B:ay (zL Shun w.heap.size n) ⟨0,st,λ_=>False⟩ fJ (stM (xW Shun w.heap.size n gs.size np D S dl c' l' w1) 0 1000 ⟨0,st,λ_=>False⟩ (mp0 n)) (λb=>b=w.heap.size\/b=w.heap.size+2) 0 (m6 (CA.mk arr jf jr) w.heap.size (w.heap.size+1) (w.heap.size+2) (w.heap.size+3) (w.heap.size+4) (c'::l')) w1:=by
  rcases ahj n with⟨h,e⟩|⟨_,e⟩
  .rw[e];subst h;exact H.mono λM d g w h=>h 1000
  .rw[e];exact H
 have s:=ahj n;obtain⟨tr,C⟩:=B;obtain⟨_,_,U⟩:=aes (CA.mk arr jf jr) w.heap.size (w.heap.size+1) (w.heap.size+2) (w.heap.size+3) (w.heap.size+4) (c'::l');refine⟨tr,?_⟩;have z0:∀a,a<=(ZP w.heap.size n np st tr q).j->a=0:=λa f=>Nat.le_zero.1 f;constructor
 case cpos=>exact Q
 case size=>rfl
 case sit=>
  intro a f g hg;obtain rfl:=z0 a f;have:g=m6 (CA.mk arr jf jr) w.heap.size (w.heap.size+1) (w.heap.size+2) (w.heap.size+3) (w.heap.size+4) (c'::l'):=by
   have I1:gs[0]?=e7 g:=hg;grind
  subst this;refine .run (λh=>h) U ?_;have hd:Deaf t (gid (xW Shun w.heap.size n gs.size np D S dl c' l' w1) 0)=0:=x.hears;rw[hd];exact C
 case old=>exact λi g m _ J=>I.old i g m J
 case above=>exact I.above
 case sh=>exact T
 case tb=>exact⟨dZ,r,by show dZ.size=75;simp[dZ]⟩
 case mun=>exact akp n np L
 case fresh=>exact λ_ _ _=>rfl
 case out=>grind
 case wi=>
  refine⟨?_,λh=>?_,λh h'=>?_,eF _,λ_=>⟨rfl,rfl,rfl,rfl⟩,λh=>?_,λh=>?_,λv h=>?_⟩
  .show 0=0+(if mp0 n=.go then 1 else 0)
   grind
  .show 0<n
   rcases s with⟨_,e⟩|⟨m,e⟩
   .rcases h with h|h
    .have h:mp0 n=.add:=h;rw[e]at h;cases h
    .have h:mp0 n=.go:=h;rw[e]at h;cases h
   .exact m
  .show 0=n
   rcases s with⟨m,e⟩|⟨_,e⟩
   .exact m.y
   .exact absurd e h
  .have h:mp0 n=.w3:=h;grind
  .have h:mp0 n=.w4\/mp0 n=.aq\/mp0 n=.an:=h;grind
  .have h:mp0 n=.w2 v:=h;grind
 case fuel=>grind
 case fuel0=>
  have:=aey (Shun:=Shun) (n0:=w.heap.size) (n:=n) (c:=gs.size) (np:=np) (st:=st) (D:=D) (S:=S) (dl:=dl) (c':=c') (l':=l') (w₀:=w1) (tr:=tr) (q:=q) K;show _+1<=1000;omega
 case oi=>
  constructor
  case ap=>
   intro a f b hb
   rcases hb with hb|hb
   .have y:b=w.heap.size\/b=w.heap.size+2:=hb;exact⟨ab,by show b≠w.heap.size+3;omega,by show b≠w.heap.size+4;omega,by show b≠w.heap.size+1;omega⟩
   .have:=F b hb;exact⟨ab,by show b≠w.heap.size+3;omega,by show b≠w.heap.size+4;omega,by show b≠w.heap.size+1;omega⟩
  case dj=>grind
  case self=>
   intro a f b hb hs;have y:b=w.heap.size\/b=w.heap.size+2:=hb;have:=F b hs;omega
  case rows=>grind
  case base=>
   intro a f b hb;have y:b=w.heap.size\/b=w.heap.size+2:=hb;show w.heap.size<=b;omega
  case num=>intro a f;obtain rfl:=z0 a f;rfl
  case ids=>
   show w.heap.size+3≠w.heap.size+4/\w.heap.size+3≠w.heap.size+1/\w.heap.size+4≠w.heap.size+1/\w.heap.size<=w.heap.size+3/\w.heap.size<=w.heap.size+4/\w.heap.size<=w.heap.size+1/\w.heap.size+3<w1.heap.size/\w.heap.size+4<w1.heap.size/\w.heap.size+1<w1.heap.size;omega
  case main=>rfl
  grind
 case shun=>exact N
 case tri=>
  refine TI.ZO x (λl hl=>?_) _ _ P;obtain⟨a,rfl,f⟩:=hl;refine⟨rfl,λV=>?_⟩;have m:a.block<w.heap.size+3:=V;have y:a.block=w.heap.size+3\/a.block=w.heap.size+4:=f;omega
 case rel=>grind
 case norel=>
  intro i hi;obtain⟨op,E,W⟩:∃op,t[i]?=e7 op/\op.act=.mark (.release (hN (w.heap.size+4))):=by
   unfold Trace.act? at hi
   cases u:t[i]? with
   |none=>rw[u]at hi;cases hi
   |some op=>rw[u]at hi;exact⟨op,rfl,mj hi⟩
  have:=x.seen op (i1 E);rw[W]at this;have m:w.heap.size+4<w.heap.size+3:=this;omega
 case low=>exact λop E=>MemAct.low_mono ab (x.seen op E)
 case fin=>grind
 case acq=>
  intro h;have h:mp0 n=.an:=h;grind
 case tape=>rfl
 case output=>rfl
 case os=>exact .refl _
 case kept=>exact λ_ _=>rfl
 case rowok=>exact JK (Shun:=Shun) (n0:=w.heap.size) (n:=n) (c:=gs.size) (np:=np) (D:=D) (S:=S) (dl:=dl) (c':=c') (l':=l') (w₀:=w1)
 case un=>
  intro k _ o X;obtain⟨m,y,J⟩:=X;show f6 w1 ⟨w.heap.size+1,o,e8⟩=_;simp only[f6,r];exact MS ab
structure UQ(n np:Nat)(D:jB)(S:Nat->Nat)(dl:Nat->Int)(w w1:aF):Prop where
 tape:w1.tape=w.tape
 output:w1.output=w.output
 os:hr w.os w1.os
 kept:∀b,b<w.heap.size->w1.heap[b]?=w.heap[b]?
 size:w.heap.size+5<=w1.heap.size
 tb:∃cs:Array aT,w1.heap[w.heap.size+1]?=e7 (nl cs 138)/\cs.size=75
 rows:∀k,k<n->Rows (zL (λ_=>False) w.heap.size n) ⟨0,λ_=>False,Ef k⟩ np (S k) k D (dl k) np w1
 rest:∀o,n*25<=o->o<75->f6 w1 ⟨w.heap.size+1,o,e8⟩=e7 (lm kw 0)
def agC{n:Nat}{arr:Array aT}{st:Nat->Prop}{gs:Array aL}{w:aF}{sl:Option (Nat×Nat)}{t:c8}{q:Nat->Nat}(I:n<=3)(A:1<=np/\np<=5)(J:∀b,st b->b<w.heap.size)
 (C:∀l,Shun l->l.low w.heap.size/\l.isMemory=fO)
 (K:∀c w1,0<c->Ee w (oX w.heap arr) w1->ay (zL Shun w.heap.size n) ⟨0,st,λ_=>False⟩ fJ (Ta (zL Shun w.heap.size n) c np Ef (JH (zL Shun w.heap.size n) np D S dl Ef) (P8 (zL Shun w.heap.size n) c' l') n ⟨0,st,λ_=>False⟩) (λb=>b=w.heap.size\/b=w.heap.size+2) 0 (m6 (CA.mk arr jf jr) w.heap.size (w.heap.size+1) (w.heap.size+2) (w.heap.size+3) (w.heap.size+4) (c'::l')) w1)
 (L:gs[0]?=e7 (G (fE (CA.mk arr jf jr)) (c'::l')))
 (M:i2 PP t gs q) (O:i0 Shun w.heap.size t) (P:∀op∈t,gs.size<=op.g->op.act.touch? = e8) :
 ∃(N:Nat)(a:Array aL)(w1:aF)(p:Option (Nat×Nat))(t1:c8)(q1:Nat->Nat),runNT PP N (crowd gs w sl) t=(.next (crowd a w1 p),t1)/\gs.size<=a.size/\
  a[0]?=e7 (G (hm c' (lR (e7 ⟨w.heap.size+1,0,e8⟩))) l')/\i2 PP t1 a q1/\i0 (λl=>Shun l\/OZ (zL Shun w.heap.size n) l) w1.heap.size t1/\(∀op∈t1,a.size<=op.g->op.act.touch? = e8)/\
  UQ n np D S dl w w1:=by
 have hs:=ZN (Shun:=Shun) (ca:=CA.mk arr jf jr) (cs:=c'::l') (w:=w) (Q:=λB g w'=>B=w.heap.size+3/\g=m6 (CA.mk arr jf jr) w.heap.size (w.heap.size+1) (w.heap.size+2) (w.heap.size+3) (w.heap.size+4) (c'::l')/\Ee w (oX w.heap arr) w')
  (λb hb o R=>by
    have T:b<w.heap.size:=(C _ R).1
    omega) (λw' h=>⟨rfl,rfl,h⟩)
 obtain⟨N,B1,a,g1,w1,p,t1,q1,U,r2,r,V,E,W,X,Y,d⟩:=hs.run gs sl t q L M O P;rw[X]at E;rw[Y]at r;have Z:0<a.size:=(bR.1 r).1;obtain⟨tr,m⟩:=UP (c':=c') (l':=l') I A.1 J C d r (K a.size w1 Z d) V E W;obtain⟨N2,f,w2,s,t2,F,k1,m2,there⟩:=MI.runs (UO A) JK Qa _ _ a w1 p t1 rfl m;have u:=nL.T8 m2 there;have v:=nL.GA m2 there;have x:=nL.fin m2 there;have H:F.j=n:=m2.wi.late (by rw[there.1];simp) (by rw[there.1];simp);have aqV:f.size=a.size+n:=by rw[m2.size,H];rfl
 have aqW:w1.heap.size=w.heap.size+5:=by rw[d.heap,xV]
 obtain⟨_,g,hg,_,_,Eb⟩:=there;have ZQ:g=G (hm c' (lR (e7 ⟨w.heap.size+1,0,e8⟩))) l':=Eb;rw[ZQ]at hg;obtain⟨cs,y,hcs⟩:=m2.tb;have z:cs.size=75:=hcs;refine⟨N+N2,f,w2,s,t2,F.q,Go.ConcX.runNT_trans U k1,ab,hg,u,v,λop aB ve=>?_,?_⟩
 .obtain⟨i,hi⟩:=Array.mem_iff_getElem?.1 aB;refine m2.tri.LY i op hi ?_;rw[H];show a.size+n<=op.g;omega
 .have YM:hr w.os w2.os:=by
   have:=m2.os;have e:(xW Shun w.heap.size n a.size np D S dl c' l' w1).w₀.os=w.os:=d.os;rwa[e]at this
  have hmu:w.heap.size+4<w2.heap.size:=m2.oi.ids.2.2.2.2.2.2.2.1;refine⟨m2.tape.t d.tape,m2.output.t d.output,YM,λb hb=>(m2.kept b hb).t ?_,ab,⟨cs,y,z⟩,λk hk=>?_,λo T h2=>?_⟩
  .show w1.heap[b]?=_;rw[d.heap,Ay hb]
  .have:=x k hk ab;exact⟨this.put,this.rest⟩
  .exact m2.un (o / 25) ab o ⟨ab,ab,ab⟩
def MU{n:Nat}{gs:Array aL}{w:aF}{sl:Option (Nat×Nat)}{t:c8}{q:Nat->Nat}(v:0<n)(d:Cf np n D S dl gn w)(x:∀k,k<n->FE np (S k))
 (f:∀l,Shun l->l.low w.heap.size/\l.isMemory=fO) (h:∀b∈dR np D,∀a':aP,a'.block=b->¬Shun (ob a'))
 (y:gs[0]?=e7 (G (fE (CA.mk (cA np D) jf jr)) (c'::l')))
 (z:i2 PP t gs q) (A:i0 Shun w.heap.size t) (B:∀op∈t,gs.size<=op.g->op.act.touch? = e8) :
 ∃(N:Nat)(e:Array aL)(w1:aF)(C:Option (Nat×Nat))(t1:c8)(q1:Nat->Nat),runNT PP N (crowd gs w sl) t=(.next (crowd e w1 C),t1)/\gs.size<=e.size/\
  e[0]?=e7 (G (hm c' (lR (e7 ⟨w.heap.size+1,0,e8⟩))) l')/\i2 PP t1 e q1/\i0 (λl=>Shun l\/OZ (zL Shun w.heap.size n) l) w1.heap.size t1/\(∀op∈t1,e.size<=op.g->op.act.touch? = e8)/\
  UQ n np D S dl w w1:=by
 have i:∀b,b∈dR np D->b<w.heap.size:=λb hb=>(d.blk b hb).1;refine agC (arr:=cA np D) (st:=(·∈dR np D)) d.hn d.MC i f (λc w1 hc a=>?_) y z A B;have H:w1.heap.size=w.heap.size+5:=by rw[a.heap,xV]
 have hold:∀b,b<w.heap.size->w1.heap[b]?=w.heap[b]?:=λb hb=>by rw[a.heap,Ay hb]
 have E:w1.heap[w.heap.size]?=e7 (nl (cA np D) 78):=by rw[a.heap];exact oY 0
 have m:w1.heap[w.heap.size+1]?=e7 (nl dZ 138):=by rw[a.heap];exact oY 1
 have o:w1.heap[w.heap.size+2]?=e7 (nl #[lR (e7 ⟨w.heap.size+1,0,e8⟩)] 111):=by rw[a.heap];exact oY 2
 have p:w1.heap[w.heap.size+3]?=e7 (nl kP 145):=by rw[a.heap];exact oY 3
 have r:w1.heap[w.heap.size+4]?=e7 (nl nc 152):=by rw[a.heap];exact oY 4
 have u:ShAt (zL Shun w.heap.size n) w1 ⟨{},0,0,0,0⟩:=⟨p,r⟩
 have I:=d.hn;exact aik (jf:=jf) (jr:=jr) (X:=zL Shun w.heap.size n) (V:=⟨0,(·∈dR np D),λ_=>False⟩) (M:=λb=>b=w.heap.size\/b=w.heap.size+2) (bc:=w.heap.size) (bt:=w.heap.size+2) (c:=c) (row:=Ef) (c':=c') (l':=l') (w:=w1) v rfl rfl rfl hc d x
  (λk J j s F=>⟨ab,s,F⟩)
  ⟨rfl,⟨⟨by show w.heap.size+3≠w.heap.size+4;omega,by show w.heap.size+3≠w.heap.size+1;omega,by show w.heap.size+4≠w.heap.size+1;omega⟩,
    λb hb=>by
     have:=i b hb;exact⟨by show b≠w.heap.size+3;omega,by show b≠w.heap.size+4;omega,by show b≠w.heap.size+1;omega⟩,
    λb hb=>by
     have:b=w.heap.size\/b=w.heap.size+2:=hb
     exact⟨by show b≠w.heap.size+3;omega,by show b≠w.heap.size+4;omega,by show b≠w.heap.size+1;omega⟩⟩,
    λb hb a' ha' hs=>by
     rcases hb with hb|hb
     .exact h b hb a' ha' hs
     .have s:a'.block<w.heap.size:=(f _ hs).1;grind,
    λb hb=>by
     grind,
    λb hb=>by
     grind⟩
  ⟨⟨⟨_,_,u.1⟩,⟨_,_,u.2⟩,dZ,m,by show dZ.size=75;simp[dZ]⟩,λb hb=>hold b (i b hb),E,o⟩
  (λb hb a' ha' hs=>by
    have s:a'.block<w.heap.size:=(f _ hs).1
    omega) ab
def agD{arr:Array aT}{k:Option aP}{m:Nat}{gs:Array aL}{w:aF}{sl:Option (Nat×Nat)}{t:c8}{q:Nat->Nat}(o:arr[5]?=e7 (l1 k 0 m))
 (p:∀l,Shun l->l.low w.heap.size/\l.isMemory=fO)
 (r:gs[0]?=e7 (G (fE (CA.mk arr jf jr)) (c'::l')))
 (s:i2 PP t gs q) (u:i0 Shun w.heap.size t) (v:∀op∈t,gs.size<=op.g->op.act.touch? = e8) :
 ∃(N:Nat)(a:Array aL)(w1:aF)(x:Option (Nat×Nat))(t1:c8)(q1:Nat->Nat),runNT PP N (crowd gs w sl) t=(.next (crowd a w1 x),t1)/\gs.size<=a.size/\
  a[0]?=e7 (G (hm c' (lR (e7 ⟨w.heap.size+1,0,e8⟩))) l')/\i2 PP t1 a q1/\i0 (λl=>Shun l\/OZ (zL Shun w.heap.size 0) l) w1.heap.size t1/\(∀op∈t1,a.size<=op.g->op.act.touch? = e8)/\
  UQ 0 1 Y7 (λ_=>0) (λ_=>0) w w1:=by
 refine agC (np:=1) (n:=0) (arr:=arr) (st:=λ_=>False) ab ⟨ab,ab⟩ (λb hb=>hb.elim) p (λc w1 hc d=>?_) r s u v;have y:w1.heap[w.heap.size]?=e7 (nl arr 78):=by rw[d.heap];exact oY 0
 have e:w1.heap[w.heap.size+1]?=e7 (nl dZ 138):=by rw[d.heap];exact oY 1
 have f:w1.heap[w.heap.size+2]?=e7 (nl #[lR (e7 ⟨w.heap.size+1,0,e8⟩)] 111):=by rw[d.heap];exact oY 2
 have h:w1.heap[w.heap.size+3]?=e7 (nl kP 145):=by rw[d.heap];exact oY 3
 have i:w1.heap[w.heap.size+4]?=e7 (nl nc 152):=by rw[d.heap];exact oY 4
 have j:ShAt (zL Shun w.heap.size 0) w1 ⟨{},0,0,0,0⟩:=⟨h,i⟩
 exact alW (X:=zL Shun w.heap.size 0) rfl (by show 0<=3;omega) rfl
  ⟨⟨by show w.heap.size+3≠w.heap.size+4;omega,by show w.heap.size+3≠w.heap.size+1;omega,by show w.heap.size+4≠w.heap.size+1;omega⟩,λb hb=>hb.elim,
    λb hb=>by
     have:b=w.heap.size\/b=w.heap.size+2:=hb
     exact⟨by show b≠w.heap.size+3;omega,by show b≠w.heap.size+4;omega,by show b≠w.heap.size+1;omega⟩⟩
  (nt rfl) (nV rfl) ⟨⟨_,_,j.1⟩,⟨_,_,j.2⟩,dZ,e,by show dZ.size=75;simp[dZ]⟩ y f o
end
end Go.Proofs
namespace Go.bJ
open Go.Conc Go.Ph
variable {J:Type}{C:ai}{L:bj}{q:Nat}{M:dc}
section
variable {T:aa}{fB:Array aH}{F:ac->Bool}{Z:ai->Bool}{f:ac}{R:aT->aF->Prop}{g0 g:aL}{w0 w:aF}
structure Way(T:aa)(fB:Array aH)(F:ac->Bool)(Z:ai->Bool)(f:ac)(R:aT->aF->Prop)(g0:aL)(w0:aF)(g:aL)(w:aF):Prop where
 term:Term ⟨T,fB⟩ (lQ ⟨T,fB⟩ f R) g w
 inv:iE T fB F Z g w
 chain:∃n,cy ⟨T,fB⟩ n g0 w0 g w
def Way.next(fit:Fits T fB fB F (λ_:ac=>fJ) Z)(h:Way T fB F Z f R g0 w0 g w)(hc:2<=g.callers.length):∃b w1 es,stepG (hT T fB) fO g w=m7 b w1 es/\Way T fB F Z f R g0 w0 b w1:=by
 obtain⟨c,hi,n,d⟩:=h
 cases c with
 |done i=>
  have:=i.1;grind
 |step j k hs l=>
  obtain⟨es,e⟩:=hs w.tape w.drawn;have a:stepG (hT T fB) fO g w=m7 (j w.tape w.drawn) (k w.tape w.drawn) es:=e;refine⟨_,_,es,a,l _ _,hi.step fit (λm=>?_) a,n+1,.succ d a⟩;have:=m.2.2;grind
def Qb:Halt->Prop
 |.stuck _=>True
 |.unsupported (.initOrder _)=>False
 |.unsupported _=>True
 |_=>False
def Eg{P:bj}{mn:Bool}{o:bi}{h:Halt}{w':aF}(a:bF g=e7 o)(b:(ct g.frame.eval o).run P w=kY h w')(hb:Qb h):∃e w1 es,stepG P mn g w=.ended e w1 es:=by
 rw[lV a];obtain⟨fn,tmps,ops,i,c,k,defers,kind,d,cs,rfl,j,l,m,n⟩:=gF a
 cases h with
 |stuck s=>exact⟨_,_,_,by simp only[stepG.apply,if_true,Sem.runT_fst,b,mS];rfl⟩
 |unsupported u=>
  cases u with
  |initOrder _=>exact hb.elim
  |_=>exact⟨_,_,_,by simp only[stepG.apply,if_true,Sem.runT_fst,b,mS];rfl⟩
 |_=>exact hb.elim
def Way.val(fit:Fits T fB fB F (λ_:ac=>fJ) Z){o:bi}{s:Sem aT}(h:Way T fB F Z f R g0 w0 g w)(hc:2<=g.callers.length)(c:bF g=e7 o)(e:ct g.frame.eval o=(do pure (qG (<-s)):Sem cv))(hs:(∃v w',s.run (hT T fB) w=kS v w')\/∃a w',s.run (hT T fB) w=kY a w'/\Qb a) :
 ∃v w',s.run (hT T fB) w=kS v w'/\Way T fB F Z f R g0 w0 (fin g v) w':=by
 obtain⟨i,w1,es,e1,j⟩:=h.next fit hc
 rcases hs with⟨v,w',hv⟩|⟨a,w',d,hb⟩
 .have b:(ct g.frame.eval o).run (hT T fB) w=kS (qG v) w':=by rw[e];simp[hv]
  have:=dF (P:=hT T fB) (mn:=fO) (v:=v) (w':=w') c b;grind
 .have b:(ct g.frame.eval o).run (hT T fB) w=kY a w':=by rw[e];simp[d]
  obtain⟨x,w2,l,k⟩:=Eg (P:=hT T fB) (mn:=fO) (w:=w) c b hb;rw[k]at e1;cases e1
end
section
variable {T:aa}{fB:Array aH}{F:ac->Bool}{Z:ai->Bool}{f:ac}{R:aT->aF->Prop}{g0 g:aL}{w0 w:aF}{ty t:ai}{x y:ch}{o:bi}
def sS:Result J->Prop
 |kY a _=>Qb a
 |kS _ _=>False
def sS.ex{r:Result J}(h:sS r):∃a w',r=kY a w'/\Qb a:=by
 cases r with
 |halt a w=>exact⟨a,w,rfl,h⟩
 |ok a w=>exact h.elim
def Way.go(fit:Fits T fB fB F (λ_:ac=>fJ) Z)(h:Way T fB F Z f R g0 w0 g w)(hc:2<=g.callers.length){a:aL}{w1:aF}{es:Array a9}(e:stepG (hT T fB) fO g w=m7 a w1 es):Way T fB F Z f R g0 w0 a w1:=by
 obtain⟨b,w2,c,d,i⟩:=h.next fit hc;grind
def oZ{ev:ch->aT}{op:BinOp}{u:ai}(a:o.op=ka op ty x y u):ct ev o=(do pure (qG (<-(do c9 op ty x y (ev x) (ev y);binOp op ty (ev x) (ev y)))):Sem cv):=by
 unfold ct;simp only[a]
def Way.int(fit:Fits T fB fB F (λ_:ac=>fJ) Z)(h:Way T fB F Z f R g0 w0 g w)(hc:2<=g.callers.length){u:ai}(c:bF g=e7 o)(j:o.op=ka pz ty x y u)(hy:g.frame.eval y=lm kw 0) :
 ∃n v,g.frame.eval x=lm kw n/\Way T fB F Z f R g0 w0 (fin g v) w:=by
 have e:=oZ (ev:=g.frame.eval) j;rw[hy]at e;have key:(∃n v,g.frame.eval x=lm kw n/\((do c9 pz ty x y (g.frame.eval x) (lm kw 0);binOp pz ty (g.frame.eval x) (lm kw 0)):Sem aT).run (hT T fB) w=kS v w)\/
  sS (((do c9 pz ty x y (g.frame.eval x) (lm kw 0);binOp pz ty (g.frame.eval x) (lm kw 0)):Sem aT).run (hT T fB) w):=by
  cases g.frame.eval x with
  |int k n=>
   by_cases d:k=kw
   .subst d;exact nt ⟨n,_,rfl,by simp[c9,binOp,Op.intBits];rfl⟩
   .exact nV (by simp[c9,binOp,d,sS,Qb])
  |_=>exact nV (by simp[c9,binOp,sS,Qb])
 rcases key with⟨n,v,q,l⟩|i
 .obtain⟨v',w',b,m⟩:=h.val fit hc c e (nt ⟨_,_,l⟩);grind
 .obtain⟨v',w',b,m⟩:=h.val fit hc c e (nV i.ex);obtain⟨a,r,p,_⟩:=i.ex;rw[p]at b;cases b
def Way.str(fit:Fits T fB fB F (λ_:ac=>fJ) Z)(h:Way T fB F Z f R g0 w0 g w)(hc:2<=g.callers.length)(c:bF g=e7 o)(j:o.op=ka pu ty x y C)(hy:g.frame.eval y=lA m8) :
 ∃n v,g.frame.eval x=lA n/\Way T fB F Z f R g0 w0 (fin g v) w:=by
 have e:=oZ (ev:=g.frame.eval) j;rw[hy]at e;have key:(∃n v,g.frame.eval x=lA n/\((do c9 pu ty x y (g.frame.eval x) (lA m8);binOp pu ty (g.frame.eval x) (lA m8)):Sem aT).run (hT T fB) w=kS v w)\/
  sS (((do c9 pu ty x y (g.frame.eval x) (lA m8);binOp pu ty (g.frame.eval x) (lA m8)):Sem aT).run (hT T fB) w):=by
  cases g.frame.eval x with
  |string n=>
   by_cases d:((n.size+ByteArray.empty.size:Nat):Int) > IntKind.i64.max
   .exact nV (by simp only[c9,binOp,jQ,if_pos d];exact trivial)
   .exact nt ⟨n,_,rfl,by simp only[c9,binOp,jQ,if_neg d];rfl⟩
  |_=>exact nV (by simp[c9,binOp,sS,Qb])
 rcases key with⟨n,v,p,k⟩|i
 .obtain⟨v',w',b,l⟩:=h.val fit hc c e (nt ⟨_,_,k⟩);grind
 .obtain⟨v',w',b,l⟩:=h.val fit hc c e (nV i.ex);obtain⟨a,q,m,_⟩:=i.ex;rw[m]at b;cases b
def Way.len(fit:Fits T fB fB F (λ_:ac=>fJ) Z)(h:Way T fB F Z f R g0 w0 g w)(hc:2<=g.callers.length){l:ai}(i:bF g=e7 o)(m:o.op=.call { callee:=.builtin .len,args:=#[x],argTypes:=#[t] })(j:hO (hT T fB) t=e7 (pk l)) :
 ∃b n c,g.frame.eval x=l1 b n c/\Way T fB F Z f R g0 w0 (fin g (lm kw (n:Int))) w:=by
 have e:ct g.frame.eval o=(do pure (qG (<-m9 #[t] o.type #[g.frame.eval x])):Sem cv):=by
  unfold ct;simp[m,resolve,invoke,builtin]
 have key:(∃b n c,g.frame.eval x=l1 b n c/\(m9 #[t] o.type #[g.frame.eval x]).run (hT T fB) w=kS (lm kw (n:Int)) w)\/sS ((m9 #[t] o.type #[g.frame.eval x]).run (hT T fB) w):=by
  cases g.frame.eval x with
  |slice b n c=>exact nt ⟨b,n,c,rfl,by simp[m9,db j,goInt]⟩
  |_=>exact nV (by simp[m9,db j,sS,Qb])
 rcases key with⟨b,n,c,s,p⟩|k
 .obtain⟨v',w',d,q⟩:=h.val fit hc i e (nt ⟨_,_,p⟩);grind
 .obtain⟨v',w',d,q⟩:=h.val fit hc i e (nV k.ex);obtain⟨a,u,r,_⟩:=k.ex;rw[r]at d;cases d
def Way.JL(fit:Fits T fB fB F (λ_:ac=>fJ) Z)(h:Way T fB F Z f R g0 w0 g w)(hc:2<=g.callers.length){m n:Int}(a:bF g=e7 o)(b:o.op=ka p0 ty x y C)(c:g.frame.eval x=lm kw m)(hy:g.frame.eval y=lm kw n) :
 Way T fB F Z f R g0 w0 (fin g (l5 (m==n))) w:=by
 have e:=oZ (ev:=g.frame.eval) b;rw[c,hy]at e;have d:((do c9 p0 ty x y (lm kw m) (lm kw n);binOp p0 ty (lm kw m) (lm kw n)):Sem aT).run (hT T fB) w=kS (l5 (m==n)) w:=by simp[c9,binOp,j1]
 obtain⟨v',w',i,j⟩:=h.val fit hc a e (nt ⟨_,_,d⟩);grind
def MV(d:Nat){b:Option aP}{c:Nat}(e:hO L t=e7 (pk C)):(j2 (d+1) t (l1 b q c) (l1 e8 0 0)).run L w=kS b.isNone w:=by
 cases b<;>simp[j2,db e]
def Way.JM(fit:Fits T fB fB F (λ_:ac=>fJ) Z)(h:Way T fB F Z f R g0 w0 g w)(hc:2<=g.callers.length){u a:ai}{b:Option aP}{n c:Nat}(d:bF g=e7 o)(i:o.op=ka p0 t x y u)(j:hO (hT T fB) t=e7 (pk a))(k:g.frame.eval x=l1 b n c)(hy:g.frame.eval y=l1 e8 0 0) :
 Way T fB F Z f R g0 w0 (fin g (l5 b.isNone)) w:=by
 have e:=oZ (ev:=g.frame.eval) i;rw[k,hy]at e;have l:((do c9 p0 t x y (l1 b n c) (l1 e8 0 0);binOp p0 t (l1 b n c) (l1 e8 0 0)):Sem aT).run (hT T fB) w=kS (l5 b.isNone) w:=by
  have m:(Op.equal t (l1 b n c) (l1 e8 0 0)).run (hT T fB) w=kS b.isNone w:=MV 9999 j;simp[c9,binOp,m]
 obtain⟨v',w',p,q⟩:=h.val fit hc d e (nt ⟨_,_,l⟩);grind
def Way.add(fit:Fits T fB fB F (λ_:ac=>fJ) Z)(h:Way T fB F Z f R g0 w0 g w)(hc:2<=g.callers.length){u:ai}{m n:Int}(a:bF g=e7 o)(b:o.op=ka pu ty x y u)(c:g.frame.eval x=lm kw m)(hy:g.frame.eval y=lm kw n) :
 Way T fB F Z f R g0 w0 (fin g (lm kw (kp kw (m+n)))) w:=by
 have e:=oZ (ev:=g.frame.eval) b;rw[c,hy]at e;have d:((do c9 pu ty x y (lm kw m) (lm kw n);binOp pu ty (lm kw m) (lm kw n)):Sem aT).run (hT T fB) w=kS (lm kw (kp kw (m+n))) w:=by simp[c9,binOp,jM]
 obtain⟨v',w',i,j⟩:=h.val fit hc a e (nt ⟨_,_,d⟩);grind
end
section
variable {T:aa}{fB:Array aH}{F:ac->Bool}{Z:ai->Bool}{f:ac}{R:aT->aF->Prop}{g0 g:aL}{w0 w w':aF}{ty t:ai}{x y:ch}{o:bi}{ρ:Ren}
def qy:dc->Bool
 |pm _ | pp _ _=>fO
 |_=>fJ
def mh(h:hO L t=e7 M)(w:aF):(isAgg t).run L w=kS (qy M) w:=by
 unfold isAgg;rw[iB,db h w];cases M<;>simp[qy]
def xX{ev:ch->aT}{i:Nat}(a:o.op=kc ty x i):ct ev o=(do pure (qG (<-mm ty (ev x) i)):Sem cv):=by
 unfold ct;simp only[a]
def Way.field(fit:Fits T fB fB F (λ_:ac=>fJ) Z)(h:Way T fB F Z f R g0 w0 g w)(hc:2<=g.callers.length){i:Nat}{fs:Array dx}{fd:dx}{d:dc}(k:bF g=e7 o)(m:o.op=kc ty x i)(c:hO (hT T fB) ty=e7 (pm fs))(hf:fs[i]?=e7 fd)(hd:hO (hT T fB) fd.type=e7 d)(b:qy d=fJ) :
 ∃cs v,g.frame.eval x=lp cs/\cs[fd.offset]?=e7 v/\Way T fB F Z f R g0 w0 (fin g v) w:=by
 have e:=xX (ev:=g.frame.eval) m;have key:(∃cs v,g.frame.eval x=lp cs/\cs[fd.offset]?=e7 v/\(mm ty (g.frame.eval x) i).run (hT T fB) w=kS v w)\/sS ((mm ty (g.frame.eval x) i).run (hT T fB) w):=by
  cases g.frame.eval x with
  |agg cs=>
   cases hv:cs[fd.offset]? with
   |some v=>exact nt ⟨cs,v,rfl,hv,by simp[mm,db c,hf,asAgg,part,mh hd,b,hv]⟩
   |none=>exact nV (by simp[mm,db c,hf,asAgg,part,mh hd,b,hv,sS,Qb])
  |_=>exact nV (by simp[mm,db c,hf,asAgg,sS,Qb])
 rcases key with⟨cs,v,q,hv,n⟩|l
 .obtain⟨v',w',j,p⟩:=h.val fit hc k e (nt ⟨_,_,n⟩);grind
 .obtain⟨v',w',j,p⟩:=h.val fit hc k e (nV l.ex);obtain⟨a,r,b,_⟩:=l.ex;rw[b]at j;cases j
def Way.Hu(fit:Fits T fB fB F (λ_:ac=>fJ) Z)(h:Way T fB F Z f R g0 w0 g w)(hc:2<=g.callers.length){fs:Array dx}{fd:dx}{a:dL}{cs:Array aT}(b:bF g=e7 o)(c:o.op=kc ty x q)(j:g.frame.eval x=lp cs)(k:hO (hT T fB) ty=e7 (pm fs))(hf:fs[q]?=e7 fd)(hd:hO (hT T fB) fd.type=e7 M)(l:qy M=fO)(hi:(hT T fB).info? fd.type=e7 a) :
 Way T fB F Z f R g0 w0 (fin g (lp (cs.extract fd.offset (fd.offset+a.size)))) w:=by
 have e:=xX (ev:=g.frame.eval) c;have m:(mm ty (g.frame.eval x) q).run (hT T fB) w=kS (lp (cs.extract fd.offset (fd.offset+a.size))) w:=by
  rw[j];simp[mm,db k,hf,asAgg,part,mh hd,l,dO,dQ,hi]
 obtain⟨v',w',n,p⟩:=h.val fit hc b e (nt ⟨_,_,m⟩);grind
def Az{a a':aP}(h:WR T.globals.size F (ec T F Z) ρ w w')(k:AR ρ a a'):∀(n i:Nat)(b:Array aT),
 (∃u d:Nat->aT,(∀j,j<n->f6 w (a.add (i+j))=e7 (u j)/\f6 w' (a'.add (i+j))=e7 (d j)/\VR F ρ (u j) (d j)/\(∃c t l,w'.heap[a'.block]?=e7 (nl c t l)))/\
   (dU a i n b).run (hT T fB) w=kS (b++((fb n).map u).toArray) w)\/sS ((dU a i n b).run (hT T fB) w)
 |0,i,b=>nt ⟨λ_=>undef,λ_=>undef,λj m=>absurd m (eI _),by simp[dU]⟩
 |n+1,i,b=>by
  have hb:(a.add i).block=a.block:=by unfold Addr.add;split<;>rfl
  have z:(a'.add i).block=a'.block:=by unfold Addr.add;split<;>rfl
  rcases lF (T:=T) (fB:=fB) h (k.add i) with⟨e,s,p⟩|⟨v,v',c,A,t,l,e,p,B,C,D,E,H⟩
  .right;simp[dU,e,p,sS,Qb]
  .rcases Az h k n (i+1) (b.push v) with⟨u,d,I,q⟩|r
   .left;refine⟨λj=>if j=0 then v else u (j-1),λj=>if j=0 then v' else d (j-1),λj m=>?_,?_⟩
    .grind
    .simp only[dU,iB,d8,e,kx];rw[q];simp[fc,na]
   .right;simp only[dU,iB,d8,e,kx];exact r
def Way.load(fit:Fits T fB fB F (λ_:ac=>fJ) Z)(h:Way T fB F Z f R g0 w0 g w)(hc:2<=g.callers.length){d:dc}{i:dL}{a a':aP}(p:bF g=e7 o)(r:o.op=j4 ty x)(s:g.frame.eval x=lR (e7 a))(m:WR T.globals.size F (ec T F Z) ρ w w')(v:AR ρ a a')(z:hO (hT T fB) ty=e7 d)(hd:qy d=fO)(hi:(hT T fB).info? ty=e7 i) :
 ∃u n:Nat->aT,(∀j,j<i.size->f6 w (a.add j)=e7 (u j)/\f6 w' (a'.add j)=e7 (n j)/\VR F ρ (u j) (n j)/\(∃c t A,w'.heap[a'.block]?=e7 (nl c t A)))/\Way T fB F Z f R g0 w0 (fin g (lp ((fb i.size).map u).toArray)) w:=by
 have e:ct g.frame.eval o=(do pure (qG (<-d9 ty a)):Sem cv):=eq r s;have B:(d9 ty a).run (hT T fB) w=((dU a 0 i.size #[]).run (hT T fB) w).andThen λc w=>kS (lp c) w:=by
  simp[d9,mh z,hd,dO,dQ,hi,loadCells]
 rcases Az (T:=T) (fB:=fB) m v i.size 0 #[]with⟨u,n,E,H⟩|C
 .have k:(d9 ty a).run (hT T fB) w=kS (lp ((fb i.size).map u).toArray) w:=by
   simp_all
  obtain⟨v',w',l,m⟩:=h.val fit hc p e (nt ⟨_,_,k⟩);rw[k]at l;cases l;exact⟨u,n,λj I=>aS,m⟩
 .obtain⟨b,q,hb,D⟩:=C.ex;have k:(d9 ty a).run (hT T fB) w=kY b q:=by rw[B,hb];rfl
  obtain⟨v',w',l,m⟩:=h.val fit hc p e (nV ⟨b,q,k,D⟩);rw[k]at l;cases l
end
open Go.ConcN (upd upd_ne upd_same)
def SL(n:Nat)(F:Nat->aT)(rest:List aT)(ops:Array bi)(is:List Nat)(k:List a8)(fn:ac)(cs:List aI):aL:=fH ⟨fn,⟨(fb n).map F++rest⟩,.inRegion ops is::k,[],ov,oh,e8⟩ cs
section
variable {n:Nat}{H:Nat->aT}{rest:List aT}{ops:Array bi}{i:Nat}{is:List Nat}{k:List a8}{fn:ac}{cs:List aI}{o:bi}
def bH{j:Nat}(h:j<n):(SL n H rest ops is k fn cs).frame.eval (ph j)=H j:=by
 show(⟨(fb n).map H++rest⟩:Array aT).getD j undef=H j;rw[bM];grind
def alX(v:aT):(SL n H rest ops is k fn cs).frame.eval (pi v)=v:=rfl
def jb(h:ops[i]?=e7 o)(hg:o.guard=e8)(hd:pS o.op=fO):bF (SL n H rest ops (i::is) k fn cs)=e7 o:=by
 unfold bF SL;simp[fH,h,Region.wanted,hg,hd]
def ZS(hd:q<n)(v:aT):la (⟨(fb n).map H++rest⟩:Array aT) q v=⟨(fb n).map (upd H q v)++rest⟩:=by
 apply li;rw[Array.toList_setIfInBounds];show((fb n).map H++rest).set q v=_;rw[List.set_append_left _ _ (by simpa using hd)];congr 1;apply List.ext_getElem
 .simp
 .intro j a b;simp only[List.getElem_set,List.getElem_map,qg];by_cases e:q=j
  .subst e;simp[nb]
  .rw[if_neg e,ni _ _ (gr e)]
def ZT(h:ops[i]?=e7 o)(hd:o.dst=e7 q)(a:q<n)(v:aT):fin (SL n H rest ops (i::is) k fn cs) v=SL n (upd H q v) rest ops is k fn cs:=by
 unfold SL fin hm;simp only[fH,h,mb,hd,ZS a]
def UR(h:ops[i]?=e7 o)(hd:o.dst=e8)(v:aT):fin (SL n H rest ops (i::is) k fn cs) v=SL n H rest ops is k fn cs:=by
 unfold SL fin hm;grind
section
variable {T:aa}{fB:Array aH}{F:ac->Bool}{Z:ai->Bool}{f:ac}{R:aT->aF->Prop}{g0:aL}{w0 w:aF}
def Way.check(fit:Fits T fB fB F (λ_:ac=>fJ) Z){j d:Nat}{b bad:Bool}{l:bi}{x:aT}(h:Way T fB F Z f R g0 w0 (SL n H rest ops (i::is) k fn cs) w)(hc:2<=cs.length)(a:ops[i]?=e7 o)(hg:o.guard=e7 (j,bad))(m:o.op=kc 3 (pi x) 0)(c:o.dst=e8)(g:∃k,hO (hT T fB) 3=e7 (.int k))
 (u:ops[j]?=e7 l) (r:l.dst=e7 d) (hd:d<n) (hb:H d=l5 b):b = !bad/\Way T fB F Z f R g0 w0 (SL n H rest ops is k fn cs) w:=by
 obtain⟨v,g⟩:=g;have hy:yielded ops (⟨(fb n).map H++rest⟩:Array aT) j=e7 b:=by
  have:(⟨(fb n).map H++rest⟩:Array aT)[d]?=e7 (l5 b):=by
   grind
  have e:((ops[j]?).bind (·.dst)).bind ((⟨(fb n).map H++rest⟩:Array aT)[·]?)=e7 (l5 b):=by
   grind
  unfold yielded;rw[e]
 obtain⟨y,w1,es,e,p⟩:=h.next fit hc;by_cases q:b=bad
 case neg=>
  have e1:stepG (hT T fB) fO (SL n H rest ops (i::is) k fn cs) w=m7 (fin (SL n H rest ops (i::is) k fn cs) undef) w #[]:=by
   unfold SL fH;simp[stepG,stepG.exec,a,Region.wanted,hg,hy,fin,q]
  rw[e1]at e;cases e;rw[UR a c]at p;exact⟨by cases b<;>cases bad<;>simp_all,p⟩
 case pos=>
  have s:bF (SL n H rest ops (i::is) k fn cs)=e7 o:=by
   unfold bF SL;simp[fH,a,Region.wanted,hg,hy,pS,m,q]
  obtain⟨x1,w2,z,t⟩:=Eg (P:=hT T fB) (mn:=fO) (w:=w) (h:=.stuck "Field: struct type expected") (w':=w) s (by
   unfold ct
   simp[m,mm,db g]) trivial
  rw[t]at e;cases e
end
end
end Go.bJ
namespace Go.Proofs
open Go.bJ Go.Conc Go.Ph
open Go.ConcN
def Qc:∀(n:Nat)(L:List aT),n<=L.length->∃(f:Nat->aT)(r:List aT),L=(fb n).map f++r
 |0,L,_=>⟨λ_=>undef,L,ar⟩
 |n+1,[],h=>by simp at h
 |n+1,x::L,h=>by
  obtain⟨f,r,e⟩:=Qc n L (by simpa using h);refine⟨λi=>if i=0 then x else f (i-1),r,?_⟩;rw[e,fc];simp[na]
def US{a:Array aT}{ca:Array aT}(h:a[0]?=e7 (lp ca)):∃f r,he PP 61 a oh=fE ⟨ca,f,r⟩:=by
 obtain⟨l⟩:=a
 cases l with
 |nil=>simp at h
 |cons x L=>
  have b:x=lp ca:=by simpa using h
  subst b;obtain⟨g,r,e⟩:=Qc 20 (L++fm (21-(L.length+1)) undef) (by simp;omega);refine⟨λi=>g (i-1),r,?_⟩;have c:Tryz.f61.ntmps=21:=ae;have e1:he PP 61 ⟨lp ca::L⟩ oh=⟨61,⟨lp ca::(L++fm (21-(L.length+1)) undef)⟩,[qi Ho],[],ov,oh,e8⟩:=by
   have hf:PP.funcs[61]?=e7 g8:=g9;have hb:((e7 g8).bind (·.body)).getD (.refuse "unsupported: a function without a Go body is entered")=Ho:=ae;unfold he;simp_all
  rw[e1,e];rfl
end Go.Proofs
namespace Go.Proofs
open Go.bJ Go.Conc Go.Ph
variable {J:aT}{C:Nat}{M:aP}{Y:Array aT}{L:Nat->aT}{O:ByteArray}{q:Option aP}
def Eh:cY.funcs.size<=cn:=of_decide_eq_true ae
def aeA:Jg gp cY.funcs FF NN ZZ 163=fO:=ae
def JN:Fits gp cY.funcs gt FF XX ZZ:=by
 refine BJ Jh (n:=163) (λf hf=>of_decide_eq_true (pB.1 hf).1) (λf a=>?_) (λf a=>?_) acG Eh
 .have b:61≠f:=λe=>by subst e;cases a
  show(la gt 61 nS)[f]?=_;grind
 .obtain rfl:f=61:=by simpa[XX]using a
  have hl:61<Tryz.funcs.size:=(bR.1 g9).1;refine⟨⟨nS,?_,rfl,by decide +kernel⟩,g8,g9,rfl,by decide +kernel⟩;show(la gt 61 nS)[61]?=_;grind
def bV:Fits gp cY.funcs cY.funcs FF NN ZZ:=
 BJ Jh (n:=163) (λf hf=>of_decide_eq_true (pB.1 hf).1) (λf _=>rfl) (λf a=>by cases a) aeA Eh
def JO:cY.funcs[61]?=e7 nS:=by
 have hl:61<Tryz.funcs.size:=(bR.1 g9).1;show(la gt 61 nS)[61]?=_;grind
def ZU(a:Array aT):∃H r,(∀v,a[0]?=e7 v->H 0=v)/\(a=#[]->H 0=undef)/\he cY 61 a oh=⟨61,⟨(fb 98).map H++r⟩,[qi sU],[],ov,oh,e8⟩:=by
 obtain⟨L⟩:=a;obtain⟨H,r,e⟩:=Qc 98 (L++fm (98-L.length) undef) (by simp;omega);have b:(L++fm (98-L.length) undef)[0]?=e7 (H 0):=by
  grind
 refine⟨H,r,λv hv=>?_,λc=>?_,?_⟩
 .cases L with
  |nil=>simp at hv
  |cons x L=>
   grind
 .grind
 .have hf:cY.funcs[61]?=e7 nS:=JO;unfold he;simp only[hf,il,du,mb];have d:nS.ntmps=98:=rfl;have f:nS.body=e7 sU:=rfl;simp_all
open Go.ConcN (upd upd_ne upd_same)
noncomputable abbrev PC:bj:=⟨gp,cY.funcs⟩
section
variable {f:ac}{R:aT->aF->Prop}{g0:aL}{w0 w w':aF}{H:Nat->aT}{r:List aT}{cs:List aI}{i d x y:Nat}{ρ:Ren}{ops:Array bi}{m:Nat}{K:List a8}
structure Wi(f:ac)(R:aT->aF->Prop)(g0:aL)(w0:aF)(r:List aT)(cs:List aI)(ops:Array bi)(m:Nat)(K:List a8)(H:Nat->aT)(i:Nat)(w:aF):Prop where
 hc:2<=cs.length
 way:Go.bJ.Way gp cY.funcs FF ZZ f R g0 w0 (SL 98 H r ops (fp i (m-i)) K 61 cs) w
def rng(h:i<m):fp i (m-i)=i::fp (i+1) (m-(i+1)):=by
 rw[show m-i=(m-(i+1))+1 by omega,List.range'_succ]
def Wi.at(h:Wi f R g0 w0 r cs ops m K H i w)(hi:i<m):Go.bJ.Way gp cY.funcs FF ZZ f R g0 w0 (SL 98 H r ops (i::fp (i+1) (m-(i+1))) K 61 cs) w:=by
 rw[<-rng hi];exact h.way
def Wi.next{op:Op}{w1:aF}(hc:2<=cs.length)(a:ops[i]?=e7 (aD (e7 d) op e8))(hd:d<98)(h:Go.bJ.Way gp cY.funcs FF ZZ f R g0 w0 (fin (SL 98 H r ops (i::fp (i+1) (m-(i+1))) K 61 cs) J) w1):Wi f R g0 w0 r cs ops m K (upd H d J) (i+1) w1:=by
 rw[ZT a rfl hd]at h;exact⟨hc,h⟩
def Wi.int(h:Wi f R g0 w0 r cs ops m K H i w)(hi:i<m)(a:ops[i]?=e7 (aD (e7 d) (ka pz 3 (ph x) (pi (lm kw 0)) 3) e8))(hd:d<98)(c:x<98):∃n v,H x=lm kw n/\Wi f R g0 w0 r cs ops m K (upd H d v) (i+1) w:=by
 obtain⟨n,v,b,e⟩:=(h.at hi).int bV h.hc (jb a rfl rfl) rfl rfl;rw[bH c]at b;exact⟨n,v,b,.next h.hc a hd e⟩
def Wi.str(h:Wi f R g0 w0 r cs ops m K H i w)(hi:i<m)(a:ops[i]?=e7 (aD (e7 d) (ka pu 9 (ph x) (pi (lA m8)) 9) e8))(hd:d<98)(c:x<98):∃n v,H x=lA n/\Wi f R g0 w0 r cs ops m K (upd H d v) (i+1) w:=by
 obtain⟨n,v,b,e⟩:=(h.at hi).str bV h.hc (jb a rfl rfl) rfl rfl;rw[bH c]at b;exact⟨n,v,b,.next h.hc a hd e⟩
def Wi.len{t g:ai}(h:Wi f R g0 w0 r cs ops m K H i w)(hi:i<m)(a:ops[i]?=e7 (aD (e7 d) (.call { callee:=.builtin .len,args:=#[ph x],argTypes:=#[t] }) e8))(j:hO PC t=e7 (pk g))(hd:d<98)(k:x<98):∃b n c,H x=l1 b n c/\Wi f R g0 w0 r cs ops m K (upd H d (lm kw (n:Int))) (i+1) w:=by
 obtain⟨b,n,c,e,l⟩:=(h.at hi).len bV h.hc (jb a rfl rfl) rfl j;rw[bH k]at e;exact⟨b,n,c,e,.next h.hc a hd l⟩
def Wi.JM{t e:ai}{b:Option aP}{n c:Nat}(h:Wi f R g0 w0 r cs ops m K H i w)(hi:i<m)(a:ops[i]?=e7 (aD (e7 d) (ka p0 t (ph x) (pi (l1 e8 0 0)) t) e8))(g:hO PC t=e7 (pk e))(hd:d<98)(j:x<98)(hv:H x=l1 b n c):Wi f R g0 w0 r cs ops m K (upd H d (l5 b.isNone)) (i+1) w:=
 .next h.hc a hd ((h.at hi).JM bV h.hc (jb a rfl rfl) rfl g ((bH j).t hv) rfl)
def Wi.add{m1 n:Int}(h:Wi f R g0 w0 r cs ops m K H i w)(hi:i<m)(a:ops[i]?=e7 (aD (e7 d) (ka pu 3 (ph x) (ph y) 3) e8))(hd:d<98)(b:x<98)(hy:y<98)(hv:H x=lm kw m1)(c:H y=lm kw n):Wi f R g0 w0 r cs ops m K (upd H d (lm kw (kp kw (m1+n)))) (i+1) w:=
 .next h.hc a hd ((h.at hi).add bV h.hc (jb a rfl rfl) rfl ((bH b).t hv) ((bH hy).t c))
def Wi.field{t:ai}{j:Nat}{fs:Array dx}{fd:dx}{a:dc}(h:Wi f R g0 w0 r cs ops m K H i w)(hi:i<m)(b:ops[i]?=e7 (aD (e7 d) (kc t (ph x) j) e8))(g:hO PC t=e7 (pm fs))(hf:fs[j]?=e7 fd)(k:hO PC fd.type=e7 a)(l:qy a=fJ)(hd:d<98)(n:x<98) :
 ∃c v,H x=lp c/\c[fd.offset]?=e7 v/\Wi f R g0 w0 r cs ops m K (upd H d v) (i+1) w:=by
 obtain⟨c,v,e,o,p⟩:=(h.at hi).field bV h.hc (jb b rfl rfl) rfl g hf k l;rw[bH n]at e;exact⟨c,v,e,o,.next h.hc b hd p⟩
def Wi.Hu{t:ai}{j:Nat}{fs:Array dx}{fd:dx}{b:dc}{a:dL}{c:Array aT}(h:Wi f R g0 w0 r cs ops m K H i w)(hi:i<m)(e:ops[i]?=e7 (aD (e7 d) (kc t (ph x) j) e8))(g:hO PC t=e7 (pm fs))(hf:fs[j]?=e7 fd)(k:hO PC fd.type=e7 b)(l:qy b=fO)(n:PC.info? fd.type=e7 a)(hd:d<98)(o:x<98)(hv:H x=lp c) :
 Wi f R g0 w0 r cs ops m K (upd H d (lp (c.extract fd.offset (fd.offset+a.size)))) (i+1) w:=
 .next h.hc e hd ((h.at hi).Hu bV h.hc (jb e rfl rfl) rfl ((bH o).t hv) g hf k l n)
def Wi.load{t:ai}{k:dc}{b:dL}{a a':aP}(h:Wi f R g0 w0 r cs ops m K H i w)(hi:i<m)(l:ops[i]?=e7 (aD (e7 d) (j4 t (ph x)) e8))(n:WR Tryz.progTables.globals.size FF (ec gp FF ZZ) ρ w w')(o:AR ρ a a')(p:hO PC t=e7 k)(g:qy k=fO)(q:PC.info? t=e7 b)(hd:d<98)(s:x<98)(hv:H x=lR (e7 a)) :
 ∃u e:Nat->aT,(∀j,j<b.size->f6 w (a.add j)=e7 (u j)/\f6 w' (a'.add j)=e7 (e j)/\VR FF ρ (u j) (e j)/\(∃c t v,w'.heap[a'.block]?=e7 (nl c t v)))/\Wi f R g0 w0 r cs ops m K (upd H d (lp ((fb b.size).map u).toArray)) (i+1) w:=by
 obtain⟨u,e,z,A⟩:=(h.at hi).load bV h.hc (jb l rfl rfl) rfl ((bH s).t hv) n o p g q;exact⟨u,e,z,.next h.hc l hd A⟩
def Wi.index{t b:ai}{n c:Nat}{k:Int}(h:Wi f R g0 w0 r cs ops m K H i w)(hi:i<m)(g:ops[i]?=e7 (aD (e7 d) (kd t (ph x) (pi (lm kw k))) e8))(j:hO PC t=e7 (pk b))(hs:(PC.info? b).map (·.size)=e7 C)(l:0<=k)(o:k<n)(hd:d<98)(p:x<98)(hv:H x=l1 (e7 M) n c) :
 Wi f R g0 w0 r cs ops m K (upd H d (lR (e7 (M.add (k.toNat*C))))) (i+1) w:=
 .next h.hc g hd ((h.at hi).go bV h.hc (eu (jb g rfl rfl) rfl ((bH p).t hv) rfl j hs l o))
def Wi.check{j dj:Nat}{b bad:Bool}{op:Op}(h:Wi f R g0 w0 r cs ops m K H i w)(hi:i<m)(a:ops[i]?=e7 (aD e8 (kc 3 (pi (lm kw 0)) 0) (e7 (j,bad))))(c:ops[j]?=e7 (aD (e7 dj) op e8))(hd:dj<98)(hb:H dj=l5 b):b = !bad/\Wi f R g0 w0 r cs ops m K H (i+1) w:=by
 have e:∃k,hO PC 3=e7 (.int k):=⟨_,ty3⟩
 obtain⟨g,l⟩:=Go.bJ.Way.check bV (h.at hi) h.hc a rfl rfl rfl e c rfl hd hb;exact⟨g,h.hc,l⟩
def run_build{t:ai}{fs:Array dx}{z:aT}{a:Array (Nat×Nat)}(parts:Array (Nat×aT))(b:(eb t).run PC w=kS z w)(e:hO PC t=e7 (pm fs))(g:(fs.mapM λf=>(do pure (f.offset,<-dO f.type):Sem (Nat×Nat))).run PC w=kS a w) :
 (mF t parts).run PC w=match mG (a[·]?) z.cells parts.toList with|some c=>kS (lp c) w|none=>kY (.stuck "build: no such field, or a part of the wrong size") w:=by
 unfold mF;simp only[iB,b,kx,db e,g];generalize mG _ z.cells parts.toList=q;cases q<;>simp
def xY{o:bi}{ev:ch->aT}{t:ai}{ps:Array (Nat×ch)}(a:o.op=ke t ps):ct ev o=(do pure (qG (<-mF t (ps.map fun(i,x)=>(i,ev x)))):Sem cv):=by
 unfold ct;simp only[a]
def Wi.build{t:ai}{ps:Array (Nat×ch)}{pv:Array (Nat×aT)}{v:aT}(h:Wi f R g0 w0 r cs ops m K H i w)(hi:i<m)(a:ops[i]?=e7 (aD (e7 d) (ke t ps) e8))(hd:d<98)(b:ps.map (fun(j,x)=>(j,(SL 98 H r ops (i::fp (i+1) (m-(i+1))) K 61 cs).frame.eval x))=pv)(c:(mF t pv).run PC w=kS v w):Wi f R g0 w0 r cs ops m K (upd H d v) (i+1) w:=by
 have e:=xY (o:=aD (e7 d) (ke t ps) e8) (ev:=(SL 98 H r ops (i::fp (i+1) (m-(i+1))) K 61 cs).frame.eval) (t:=t) (ps:=ps) rfl;rw[b]at e;have hs:=dF (P:=PC) (mn:=fO) (v:=v) (w':=w) (w:=w) (g:=SL 98 H r ops (i::fp (i+1) (m-(i+1))) K 61 cs) (jb a rfl rfl) (by rw[e];simp[c]);exact .next h.hc a hd ((h.at hi).go bV h.hc hs)
def Qe{t:ai}{i:dL}(hi:PC.info? t=e7 i)(a:i.zero=e7 J)(w:aF):(eb t).run PC w=kS J w:=by
 simp[eb,dQ,hi,a]
def ZX{t:ai}(h:(PC.info? t).map (·.zero)=e7 (e7 J))(w:aF):(eb t).run PC w=kS J w:=by
 cases hi:PC.info? t with
 |none=>rw[hi]at h;cases h
 |some i=>
  rw[hi]at h;exact Qe hi (mj h) w
def Ei:aT:=lp #[lm kw 0,lm kw 0,l1 e8 0 0,l1 e8 0 0,l1 e8 0 0,l1 e8 0 0]
def akt(w:aF):(eb 78).run PC w=kS Ei w:=ZX ae w
def aku(w:aF):((fieldsOf 78).mapM λf=>(do pure (f.offset,<-dO f.type):Sem (Nat×Nat))).run PC w=kS #[(0,6)] w:=ae
def u121:hO PC 78=e7 (pm (fieldsOf 78)):=ae
def Wi.six(h:Wi f R g0 w0 r cs ops m K H i w)(hi:i<m)(g:ops[i]?=e7 (aD (e7 d) (ke 78 #[(0,ph x)]) e8))(hd:d<98)(n:x<98):(H x).cells.size=6/\∃v,Wi f R g0 w0 r cs ops m K (upd H d v) (i+1) w:=by
 have e:=xY (o:=aD (e7 d) (ke 78 #[(0,ph x)]) e8) (ev:=(SL 98 H r ops (i::fp (i+1) (m-(i+1))) K 61 cs).frame.eval) (t:=78) (ps:=#[(0,ph x)]) rfl;have p:(#[(0,ph x)]:Array (Nat×ch)).map (fun(j,x)=>(j,(SL 98 H r ops (i::fp (i+1) (m-(i+1))) K 61 cs).frame.eval x))=#[(0,H x)]:=by simp[bH n]
 rw[p]at e;have b:=run_build (w:=w) #[(0,H x)] (akt w) u121 (aku w);by_cases hs:(H x).cells.size=6
 .have a:∃c,mG (#[(0,6)][·]?) Ei.cells (#[(0,H x)]:Array (Nat×aT)).toList=e7 c:=by
   cases q:mG (#[(0,6)][·]?) Ei.cells (#[(0,H x)]:Array (Nat×aT)).toList with
   |some c=>exact⟨c,rfl⟩
   |none=>
    have s:Ei.cells.size=6:=rfl;simp[mG,hs,s]at q
  obtain⟨c,a⟩:=a;rw[a]at b;obtain⟨v,w1,k,l⟩:=(h.at hi).val bV h.hc (jb g rfl rfl) e (nt ⟨_,_,b⟩);have u:kS (lp c) w=kS v w1:=b.y.t k;cases u;exact⟨hs,_,.next h.hc g hd l⟩
 .have a:mG (#[(0,6)][·]?) Ei.cells (#[(0,H x)]:Array (Nat×aT)).toList=e8:=by
   simp only[mG];simp[hs]
  rw[a]at b;obtain⟨v,w1,k,l⟩:=(h.at hi).val bV h.hc (jb g rfl rfl) e (nV ⟨_,_,b,trivial⟩);grind
def Wi.move{v:aT}(h:Wi f R g0 w0 r cs ops m K H i w)(hi:i<m)(a:ops[i]?=e7 (aD (e7 d) (kg (pi v)) e8))(hd:d<98):Wi f R g0 w0 r cs ops m K (upd H d v) (i+1) w:=by
 have e:ct (SL 98 H r ops (i::fp (i+1) (m-(i+1))) K 61 cs).frame.eval (aD (e7 d) (kg (pi v)) e8)=(pure (qG v):Sem cv):=rfl;have hs:=dF (P:=PC) (mn:=fO) (v:=v) (w':=w) (w:=w) (g:=SL 98 H r ops (i::fp (i+1) (m-(i+1))) K 61 cs) (jb a rfl rfl) (by rw[e];rfl);exact .next h.hc a hd ((h.at hi).go bV h.hc hs)
def Wi.leq{a b:Int}{X Y:ch}(h:Wi f R g0 w0 r cs ops m K H i w)(hi:i<m)(c:ops[i]?=e7 (aD (e7 d) (ka p1 3 X Y 3) e8))(hd:d<98)(j:(SL 98 H r ops (i::fp (i+1) (m-(i+1))) K 61 cs).frame.eval X=lm kw a)(hy:(SL 98 H r ops (i::fp (i+1) (m-(i+1))) K 61 cs).frame.eval Y=lm kw b):Wi f R g0 w0 r cs ops m K (upd H d (l5 (decide (a<=b)))) (i+1) w:=by
 have e:=oZ (o:=aD (e7 d) (ka p1 3 X Y 3) e8) (ev:=(SL 98 H r ops (i::fp (i+1) (m-(i+1))) K 61 cs).frame.eval) (op:=p1) (ty:=3) (x:=X) (y:=Y) (u:=3) rfl;rw[j,hy]at e;have g:((do c9 p1 3 X Y (lm kw a) (lm kw b);binOp p1 3 (lm kw a) (lm kw b)):Sem aT).run PC w=kS (l5 (decide (a<=b))) w:=by simp[c9,binOp,j1]
 obtain⟨v',w',k,l⟩:=(h.at hi).val bV h.hc (jb c rfl rfl) e (nt ⟨_,_,g⟩);have n:=g.y.t k;cases n;exact .next h.hc c hd l
def Wi.lss{a b:Int}{X Y:ch}(h:Wi f R g0 w0 r cs ops m K H i w)(hi:i<m)(c:ops[i]?=e7 (aD (e7 d) (ka p6 3 X Y 3) e8))(hd:d<98)(j:(SL 98 H r ops (i::fp (i+1) (m-(i+1))) K 61 cs).frame.eval X=lm kw a)(hy:(SL 98 H r ops (i::fp (i+1) (m-(i+1))) K 61 cs).frame.eval Y=lm kw b):Wi f R g0 w0 r cs ops m K (upd H d (l5 (decide (a<b)))) (i+1) w:=by
 have e:=oZ (o:=aD (e7 d) (ka p6 3 X Y 3) e8) (ev:=(SL 98 H r ops (i::fp (i+1) (m-(i+1))) K 61 cs).frame.eval) (op:=p6) (ty:=3) (x:=X) (y:=Y) (u:=3) rfl;rw[j,hy]at e;have g:((do c9 p6 3 X Y (lm kw a) (lm kw b);binOp p6 3 (lm kw a) (lm kw b)):Sem aT).run PC w=kS (l5 (decide (a<b))) w:=by simp[c9,binOp,j1]
 obtain⟨v',w',k,l⟩:=(h.at hi).val bV h.hc (jb c rfl rfl) e (nt ⟨_,_,g⟩);have n:=g.y.t k;cases n;exact .next h.hc c hd l
def Wi.add1{n:Int}(h:Wi f R g0 w0 r cs ops m K H i w)(hi:i<m)(a:ops[i]?=e7 (aD (e7 d) (ka pu 3 (ph x) (pi (lm kw 1)) 3) e8))(hd:d<98)(b:x<98)(hv:H x=lm kw n):Wi f R g0 w0 r cs ops m K (upd H d (lm kw (kp kw (n+1)))) (i+1) w:=
 .next h.hc a hd ((h.at hi).add bV h.hc (jb a rfl rfl) rfl ((bH b).t hv) rfl)
def Wi.abY(h:Wi f R g0 w0 r cs ops m K H i w)(hi:i<m)(a:ops[i]?=e7 (aD (e7 d) (kg (ph x)) e8))(hd:d<98)(b:x<98):Wi f R g0 w0 r cs ops m K (upd H d (H x)) (i+1) w:=by
 have e:ct (SL 98 H r ops (i::fp (i+1) (m-(i+1))) K 61 cs).frame.eval (aD (e7 d) (kg (ph x)) e8)=(pure (qG (H x)):Sem cv):=by
  show(pure (qG ((SL 98 H r ops (i::fp (i+1) (m-(i+1))) K 61 cs).frame.eval (ph x))):Sem cv)=_;rw[bH b]
 have hs:=dF (P:=PC) (mn:=fO) (v:=H x) (w':=w) (w:=w) (g:=SL 98 H r ops (i::fp (i+1) (m-(i+1))) K 61 cs) (jb a rfl rfl) (by rw[e];rfl);exact .next h.hc a hd ((h.at hi).go bV h.hc hs)
def Wi.afO{t b:ai}{e:Nat}{a:aP}{n c:Nat}{k:Int}(h:Wi f R g0 w0 r cs ops m K H i w)(hi:i<m)(g:ops[i]?=e7 (aD (e7 d) (kd t (ph x) (ph y)) e8))(j:hO PC t=e7 (pk b))(hs:(PC.info? b).map (·.size)=e7 e)(l:0<=k)(o:k<n)(hd:d<98)(p:x<98)(hy:y<98)(hv:H x=l1 (e7 a) n c)(q:H y=lm kw k) :
 Wi f R g0 w0 r cs ops m K (upd H d (lR (e7 (a.add (k.toNat*e))))) (i+1) w:=
 .next h.hc g hd ((h.at hi).go bV h.hc (eu (jb g rfl rfl) rfl ((bH p).t hv) ((bH hy).t q) j hs l o))
end
section
variable {f:ac}{R:aT->aF->Prop}{g0:aL}{w0 w w':aF}{H:Nat->aT}{r:List aT}{cs:List aI}{i d x y p:Nat}{ρ:Ren}{ops:Array bi}{m:Nat}{K:List a8}
def xL{c:Nat}(h:VR FF ρ (l1 (e7 M) C c) J)(e:0<C):∃a',J=l1 (e7 a') C c/\AR ρ M a':=by
 cases h with
 |dK=>grind
 |slice _ _ b=>exact⟨_,rfl,b⟩
def Wi.ZY{t:ai}{fs:Array dx}{fd:dx}{a:dc}(h:Wi f R g0 w0 r cs ops m K H i w)(hi:i<m)(b:ops[i]?=e7 (aD (e7 d) (kc t (ph x) C) e8))(hd:d<98)(e:x<98)(hv:H x=lp Y)(g:hO PC t=e7 (pm fs))(hf:fs[C]?=e7 fd)(k:hO PC fd.type=e7 a)(l:qy a=fJ)(hc:Y[fd.offset]?=e7 J) :
 Wi f R g0 w0 r cs ops m K (upd H d J) (i+1) w:=by
 obtain⟨n,v',o,q,s⟩:=h.field hi b g hf k l hd e;grind
def Wi.Z4{t:ai}{fs:Array dx}{fd:dx}{b:dc}{a:dL}{c':Array aT}(h:Wi f R g0 w0 r cs ops m K H i w)(hi:i<m)(e:ops[i]?=e7 (aD (e7 d) (kc t (ph x) C) e8))(hd:d<98)(g:x<98)(hv:H x=lp Y)(k:hO PC t=e7 (pm fs))(hf:fs[C]?=e7 fd)(l:hO PC fd.type=e7 b)(n:qy b=fO)(o:PC.info? fd.type=e7 a)(hc:Y.extract fd.offset (fd.offset+a.size)=c') :
 Wi f R g0 w0 r cs ops m K (upd H d (lp c')) (i+1) w:=by
 have:=h.Hu hi e k hf l n o hd g hv;rwa[hc]at this
def Z5(h:J.cells.size=6):∃x0 x1 x2 x3 x4 a,J=lp #[x0,x1,x2,x3,x4,a]:=by
 cases J with
 |agg c=>
  obtain⟨l⟩:=c;have hl:l.length=6:=h
  match l,hl with
  |[x0,x1,x2,x3,x4,a],_=>grind
 |_=>exact absurd h (by simp[lq])
structure Fd(t j off:Nat)(ag:Bool)(sz:Nat):Prop where
 ex:∃fs fd de inf,hO PC t=e7 (pm fs)/\fs[j]?=e7 fd/\hO PC fd.type=e7 de/\qy de=ag/\PC.info? fd.type=e7 inf/\fd.offset=off/\inf.size=sz
def fdq(t j:Nat):Option (Nat×Bool×Nat):=match PC.underlying t with
 |some (pm fs)=>match fs[j]? with
  |some fd=>match PC.underlying fd.type,PC.info? fd.type with
   |some b,e7 a=>e7 (fd.offset,qy b,a.size)
   |_,_=>e8
  |none=>e8
 |_=>e8
def gH{j off b:Nat}{c:Bool}(h:fdq C j=e7 (off,c,b)):Fd C j off c b:=by
 unfold fdq at h;split at h
 .rename_i fs e1;split at h
  .rename_i fd e;split at h
   .rename_i g a k l;simp only[kj,ma]at h;exact⟨fs,fd,g,a,e1,e,k,h.2.1,l,h.1,h.2.2⟩
   .cases h
  .cases h
 .cases h
def Wi.fk{t j off a:Nat}{c:Array aT}{v:aT}(h:Wi f R g0 w0 r cs ops m K H i w)(q:Fd t j off fJ a)(hi:i<m)(b:ops[i]?=e7 (aD (e7 d) (kc t (ph x) j) e8))(hd:d<98)(e:x<98)(hv:H x=lp c)(hc:c[off]?=e7 v):Wi f R g0 w0 r cs ops m K (upd H d v) (i+1) w:=by
 obtain⟨fs,fd,s,g,e1,k,l,n,e5,o,u⟩:=q.ex;exact h.ZY hi b hd e hv e1 k l n (by rw[o];exact hc)
def Wi.fs{t j off a:Nat}{c c':Array aT}(h:Wi f R g0 w0 r cs ops m K H i w)(q:Fd t j off fO a)(hi:i<m)(b:ops[i]?=e7 (aD (e7 d) (kc t (ph x) j) e8))(hd:d<98)(e:x<98)(hv:H x=lp c)(hc:c.extract off (off+a)=c'):Wi f R g0 w0 r cs ops m K (upd H d (lp c')) (i+1) w:=by
 obtain⟨fs,fd,u,g,e1,k,l,n,e5,o,s⟩:=q.ex;exact h.Z4 hi b hd e hv e1 k l n e5 (by rw[o,s];exact hc)
def aeE:Fd 78 0 0 fO 6:=gH ae
def Z6:Fd 27 0 0 fJ 1:=gH ae
def Z7:Fd 27 1 1 fJ 1:=gH ae
def Z8:Fd 27 2 2 fJ 1:=gH ae
def Z9:Fd 27 3 3 fJ 1:=gH ae
def aa0:Fd 27 4 4 fJ 1:=gH ae
def aa1:Fd 27 5 5 fJ 1:=gH ae
structure Sd(t sz:Nat):Prop where
 ex:∃de inf,hO PC t=e7 de/\qy de=fO/\PC.info? t=e7 inf/\inf.size=sz
def JP{g:Nat}(h:((hO PC C).map qy,(PC.info? C).map (·.size))=(e7 fO,e7 g)):Sd C g:=by
 simp only[ma]at h;obtain⟨a,b⟩:=h
 cases e1:hO PC C with
 |none=>rw[e1]at a;cases a
 |some j=>
  cases c:PC.info? C with
  |none=>rw[c]at b;cases b
  |some e=>
   rw[e1]at a;rw[c]at b;exact⟨j,e,e1,mj a,c,mj b⟩
def akw:hO PC 22=e7 (pk 30):=ae
def akx:hO PC 23=e7 (pk 93):=ae
def aeH:hO PC 24=e7 (pk 49):=ae
def UU:hO PC 28=e7 (pk 3):=ae
def Xh:hO PC 25=e7 (pk 51):=ae
def aeI:(PC.info? 49).map (·.size)=e7 12:=ae
def aeM:(PC.info? 51).map (·.size)=e7 3:=ae
def aa2:Fd 30 0 0 fJ 1:=gH ae
def aa3:Fd 30 1 1 fJ 1:=gH ae
def aa4:Fd 49 0 0 fJ 1:=gH ae
def aa5:Fd 49 1 1 fO 2:=gH ae
def aa6:Fd 49 2 3 fO 2:=gH ae
def aa7:Fd 49 3 5 fJ 1:=gH ae
def aa8:Fd 49 4 6 fJ 1:=gH ae
def aa9:Fd 49 5 7 fO 2:=gH ae
def aaa:Fd 49 6 9 fO 2:=gH ae
def aab:Fd 49 7 11 fJ 1:=gH ae
def aac:Fd 51 0 0 fJ 1:=gH ae
def aad:Fd 51 1 1 fJ 1:=gH ae
def aae:Fd 51 2 2 fJ 1:=gH ae
def akC:Sd 49 12:=JP ae
def akH:Sd 51 3:=JP ae
def Wi.span{t k off:Nat}{c:Array aT}{v0 v1:aT}(h:Wi f R g0 w0 r cs ops m K H i w)(q:Fd t k off fO 2)(hi:i+5<m)(hd:d+4<98)(u:p<d)(hv:H p=lp c)(hc:c.extract off (off+2)=#[v0,v1])
 (e:ops[i]?=e7 (aD (e7 d) (kc t (ph p) k) e8))
 (g:ops[i+1]?=e7 (aD (e7 (d+1)) (kc 30 (ph d) 0) e8))
 (l:ops[i+2]?=e7 (aD (e7 (d+2)) (ka pz 3 (ph (d+1)) (pi (lm kw 0)) 3) e8))
 (n:ops[i+3]?=e7 (aD (e7 (d+3)) (kc 30 (ph d) 1) e8))
 (o:ops[i+4]?=e7 (aD (e7 (d+4)) (ka pz 3 (ph (d+3)) (pi (lm kw 0)) 3) e8)) :
 ∃n0 b a,v0=lm kw n0/\v1=lm kw b/\a (d+1)=lm kw n0/\a (d+3)=lm kw b/\(∀j,j<d->a j=H j)/\Wi f R g0 w0 r cs ops m K a (i+5) w:=by
 have W:=h.fs q ab e ab ab hv hc;have W:=W.fk aa2 (v:=v0) ab g ab ab (nb _ _ _) rfl;obtain⟨n0,u0,s,W⟩:=W.int ab l ab ab;rw[nb]at s;have W:=W.fk aa3 (v:=v1) (c:=#[v0,v1]) ab n ab ab (by rw[ni _ _ ab,ni _ _ ab,nb]) rfl;obtain⟨b,u1,e1,W⟩:=W.int ab o ab ab;grind[nb,ni]
def Wi.num{t k off b:Nat}{c:Array aT}{v0:aT}(h:Wi f R g0 w0 r cs ops m K H i w)(q:Fd t k off fJ b)(hi:i+2<m)(hd:d+1<98)(l:p<d)(hv:H p=lp c)(hc:c[off]?=e7 v0)
 (e:ops[i]?=e7 (aD (e7 d) (kc t (ph p) k) e8))
 (g:ops[i+1]?=e7 (aD (e7 (d+1)) (ka pz 3 (ph d) (pi (lm kw 0)) 3) e8)) :
 ∃n0 a,v0=lm kw n0/\a d=lm kw n0/\(∀j,j<d->a j=H j)/\Wi f R g0 w0 r cs ops m K a (i+2) w:=by
 have W:=h.fk q (v:=v0) ab e ab ab hv hc;obtain⟨n0,u0,n,W⟩:=W.int ab g ab ab;grind[nb,ni]
def Wi.name{t k off b:Nat}{c:Array aT}{v0:aT}(h:Wi f R g0 w0 r cs ops m K H i w)(q:Fd t k off fJ b)(hi:i+2<m)(hd:d+1<98)(l:p<d)(hv:H p=lp c)(hc:c[off]?=e7 v0)
 (e:ops[i]?=e7 (aD (e7 d) (kc t (ph p) k) e8))
 (g:ops[i+1]?=e7 (aD (e7 (d+1)) (ka pu 9 (ph d) (pi (lA m8)) 9) e8)) :
 ∃s a,v0=lA s/\(∀j,j<d->a j=H j)/\Wi f R g0 w0 r cs ops m K a (i+2) w:=by
 have W:=h.fk q (v:=v0) ab e ab ab hv hc;obtain⟨n,u0,o,W⟩:=W.str ab g ab ab;grind[nb,ni]
end
section
variable {f:ac}{R:aT->aF->Prop}{g0:aL}{w0 w w':aF}{H:Nat->aT}{r:List aT}{cs:List aI}{ρ:Ren}{K:List a8}
structure Hd0(H:Nat->aT)(l p:Int)(b2 b3:Option aP)(b4:aP)(b5:Option aP)(n2 c2 n3 c3 np c4 n c5:Nat)(H':Nat->aT):Prop where
 arg:H 0=lp #[lm kw l,lm kw p,l1 b2 n2 c2,l1 b3 n3 c3,l1 (e7 b4) np c4,l1 b5 n c5]
 am2:H' 9=l1 (e7 b4) np c4
 am3:H' 10=l1 b5 n c5
 MC:H' 15=lm kw (np:Int)
 hn:H' 16=lm kw (n:Int)
 i:H' 20=lm kw 0
 j:H' 21=lm kw 0
 lo:2<=np/\np<=5/\n<=3
def aon(h:Wi f R g0 w0 r cs agE 24 K H 0 w):∃l p j k g m o q s c3 np i n t D,Hd0 H l p j k g m o q s c3 np i n t D/\Wi f R g0 w0 r cs agE 24 K D 24 w:=by
 obtain⟨hs,v,W⟩:=h.six (d:=3) (x:=0) ab rfl ab ab;obtain⟨x0,x1,x2,x3,x4,y,e⟩:=Z5 hs;have W:=W.fs aeE (d:=4) (x:=0) (c:=#[x0,x1,x2,x3,x4,y]) (c':=#[x0,x1,x2,x3,x4,y]) ab rfl ab ab e ar;have W:=W.fk Z6 (d:=5) (x:=4) (v:=x0) ab rfl ab ab rfl rfl;have W:=W.fk Z7 (d:=6) (x:=4) (v:=x1) ab rfl ab ab rfl rfl;have W:=W.fk Z8 (d:=7) (x:=4) (v:=x2) ab rfl ab ab rfl rfl;have W:=W.fk Z9 (d:=8) (x:=4) (v:=x3) ab rfl ab ab rfl rfl;have W:=W.fk aa0 (d:=9) (x:=4) (v:=x4) ab rfl ab ab rfl rfl;have W:=W.fk aa1 (d:=10) (x:=4) (v:=y) ab rfl ab ab rfl rfl;obtain⟨l,v,A,W⟩:=W.int (d:=11) (x:=5) ab rfl ab ab;have A:x0=lm kw l:=A;obtain⟨p,u,e1,W⟩:=W.int (d:=12) (x:=6) ab rfl ab ab;have e1:x1=lm kw p:=e1;obtain⟨j,o,q,B,W⟩:=W.len (d:=13) (x:=7) ab rfl akw ab ab;have B:x2=l1 j o q:=B;obtain⟨k,s,c3,C,W⟩:=W.len (d:=14) (x:=8) ab rfl akx ab ab;have C:x3=l1 k s c3:=C;obtain⟨g,np,i,z,W⟩:=W.len (d:=15) (x:=9) ab rfl aeH ab ab;have z:x4=l1 g np i:=z;obtain⟨m,n,t,e5,W⟩:=W.len (d:=16) (x:=10) ab rfl Xh ab ab;have e5:y=l1 m n t:=e5;have W:=W.leq (d:=17) (a:=2) (b:=(np:Int)) ab rfl ab rfl (bH ab);obtain⟨k1,W⟩:=W.check (b:=decide ((2:Int)<=np)) ab rfl (rfl:agE[14]?=e7 (aD (e7 17) _ e8)) ab (nb _ _ _);have W:=W.leq (d:=18) (a:=(np:Int)) (b:=5) ab rfl ab (bH ab) rfl;obtain⟨k2,W⟩:=W.check (b:=decide ((np:Int)<=5)) ab rfl (rfl:agE[16]?=e7 (aD (e7 18) _ e8)) ab (nb _ _ _);have W:=W.leq (d:=19) (a:=(n:Int)) (b:=3) ab rfl ab (bH ab) rfl;obtain⟨k3,W⟩:=W.check (b:=decide ((n:Int)<=3)) ab rfl (rfl:agE[18]?=e7 (aD (e7 19) _ e8)) ab (nb _ _ _);have W:=W.JM (d:=3) (x:=9) ab rfl aeH ab ab (show _=Value.slice g np i from z);obtain⟨E,W⟩:=W.check (b:=g.isNone) ab rfl (rfl:agE[20]?=e7 (aD (e7 3) _ e8)) ab (nb _ _ _);have W:=W.move (d:=20) ab rfl ab;have W:=W.move (d:=21) ab rfl ab
 cases g with
 |none=>cases E
 |some a4=>
 subst A e1 B C z e5;simp only[gG,decide_eq_true_eq]at k1 k2 k3;exact⟨l,p,j,k,a4,m,o,q,s,c3,np,i,n,t,_,⟨e,rfl,rfl,rfl,rfl,rfl,rfl,ab⟩,W⟩
structure ye(ρ:Ren)(w w':aF)(a a':aP)(k:Nat)(u u':Nat->aT)(s:ByteArray)(n:Nat->Int)(lb:Option aP)(ll lc:Nat):Prop where
 cell:∀j,j<12->f6 w ((a.add (k*12)).add j)=e7 (u j)/\f6 w' ((a'.add (k*12)).add j)=e7 (u' j)/\VR FF ρ (u j) (u' j)/\(∃c t fz,w'.heap[(a'.add (k*12)).block]?=e7 (nl c t fz))
 name:u 0=lA s
 num:∀j,1<=j->j<=10->u j=lm kw (n j)
 lane:u 11=l1 lb ll lc
def agH(h:C<100):kp kw ((C:Int)+1)=((C+1:Nat):Int):=by
 have e:((C:Int)+1) % 2 ^ 64=(C:Int)+1:=ab;unfold kp;simp only[IntKind.signed,IntKind.bits,e];grind
def ar4{a a':aP}{np c k:Nat}(h:Wi f R g0 w0 r cs am0 32 K H 0 w)(L:WR Tryz.progTables.globals.size FF (ec gp FF ZZ) ρ w w')(M:H 9=l1 (e7 a) np c)(b:H 20=lm kw (k:Int))(hk:k<np)(N:k<5)(O:AR ρ a a') :
 ∃u e s n lb g i l,ye ρ w w' a a' k u e s n lb g i/\l 20=lm kw ((k+1:Nat):Int)/\(∀j,j<23->j≠20->l j=H j)/\Wi f R g0 w0 r cs am0 32 K l 32 w:=by
 have W:=h.afO (d:=23) (x:=9) (y:=20) (k:=(k:Int)) ab rfl aeH aeI ab ab ab ab ab M b;have P:a.add ((k:Int).toNat*12)=a.add (k*12):=ar;rw[P]at W;obtain⟨de,Q,t1,t2,S,T⟩:=akC.ex;obtain⟨u,e,o,W⟩:=W.load (d:=24) (x:=23) ab rfl L (O.add (k*12)) t1 t2 S ab ab (nb _ _ _);rw[T]at o W;have hc:((fb 12).map u).toArray=#[u 0,u 1,u 2,u 3,u 4,u 5,u 6,u 7,u 8,u 9,u 10,u 11]:=rfl;rw[hc]at W;obtain⟨s,U,V,q,W⟩:=W.name aa4 (d:=25) (p:=24) ab ab ab (nb _ _ _) rfl rfl rfl;have t:U 24=lp #[u 0,u 1,u 2,u 3,u 4,u 5,u 6,u 7,u 8,u 9,u 10,u 11]:=by rw[q _ ab,nb]
 obtain⟨X,Y,H2,a1,a2,a3,a4,z,W⟩:=W.span aa5 (d:=27) (p:=24) ab ab ab t (by simp;exact⟨rfl,rfl⟩) rfl rfl rfl rfl rfl;have A:=(z 24 ab).t t;obtain⟨Z,n4,H3,b1,b2,b3,b4,B,W⟩:=W.span aa6 (d:=32) (p:=24) ab ab ab A (by simp;exact⟨rfl,rfl⟩) rfl rfl rfl rfl rfl;have C:=(B 24 ab).t A;obtain⟨n7,n8,H4,c1,c2,c3,c4,D,W⟩:=W.span aa9 (d:=37) (p:=24) ab ab ab C (by simp;exact⟨rfl,rfl⟩) rfl rfl rfl rfl rfl;have E:=(D 24 ab).t C;obtain⟨n9,m,H5,d1,d2,d3,d4,d5,W⟩:=W.span aaa (d:=42) (p:=24) ab ab ab E (by simp;exact⟨rfl,rfl⟩) rfl rfl rfl rfl rfl;have F:=(d5 24 ab).t E;obtain⟨n5,H6,x1,x2,x3,W⟩:=W.num aa7 (d:=47) (p:=24) (v0:=u 5) ab ab ab F rfl rfl rfl;have I:=(x3 24 ab).t F;obtain⟨n6,H7,y1,y2,y3,W⟩:=W.num aa8 (d:=49) (p:=24) (v0:=u 6) ab ab ab I rfl rfl rfl;have p7:=(y3 24 ab).t I;have W:=W.fk aab (d:=51) (x:=24) (v:=u 11) ab rfl ab ab p7 rfl;obtain⟨lb,g,i,J,W⟩:=W.len (d:=52) (x:=51) ab rfl UU ab ab;rw[nb]at J;have old:∀j,j<23->H7 j=H j:=λj hj=>by
  rw[y3 _ ab,x3 _ ab,d5 _ ab,D _ ab,B _ ab,z _ ab,q _ ab,ni _ _ ab,ni _ _ ab]
 have W:=W.add1 (d:=53) (x:=20) (n:=(k:Int)) ab rfl ab ab (by grind[ni]);have W:=W.abY (d:=20) (x:=53) ab rfl ab ab;refine⟨u,e,s,λj=>match j with|1=>X|2=>Y|3=>Z|4=>n4|5=>n5|6=>n6|7=>n7|8=>n8|9=>n9|_=>m,lb,g,i,_,⟨o,V,λj h1 h2=>?_,J⟩,?_,λj hj bu=>?_,W⟩
 .grind
 .rw[nb,nb,agH ab]
 grind[ni]
structure AA(ρ:Ren)(w w':aF)(a a':aP)(k np:Nat)(u u':Nat->aT)(s:ByteArray)(st:Nat)(dl:Int):Prop where
 cell:∀j,j<3->f6 w ((a.add (k*3)).add j)=e7 (u j)/\f6 w' ((a'.add (k*3)).add j)=e7 (u' j)/\VR FF ρ (u j) (u' j)/\(∃c t fz,w'.heap[(a'.add (k*3)).block]?=e7 (nl c t fz))
 name:u 0=lA s
 start:u 1=lm kw (st:Int)
 lt:st<np
 aeN:u 2=lm kw dl
def ar5{v':aT}{b:Option aP}{np n c k:Nat}(h:Wi f R g0 w0 r cs agF 16 K H 0 w)(F:WR Tryz.progTables.globals.size FF (ec gp FF ZZ) ρ w w')(A:H 10=l1 b n c)(q:H 15=lm kw (np:Int))(e:H 21=lm kw (k:Int))(Y:k<n)(I:k<3)(J:VR FF ρ (l1 b n c) v') :
 ∃a a' u t s st dl v,b=e7 a/\v'=l1 (e7 a') n c/\AR ρ a a'/\AA ρ w w' a a' k np u t s st dl/\v 21=lm kw ((k+1:Nat):Int)/\(∀j,j<23->j≠21->j≠11->v j=H j)/\Wi f R g0 w0 r cs agF 16 K v 16 w:=by
 have W:=h.JM (d:=11) (x:=10) ab rfl Xh ab ab A;obtain⟨k0,W⟩:=W.check (b:=b.isNone) ab rfl (rfl:agF[0]?=e7 (aD (e7 11) _ e8)) ab (nb _ _ _)
 cases b with
 |none=>cases k0
 |some a=>
 obtain⟨a',L,B⟩:=xL J ab;have W:=W.afO (d:=55) (x:=10) (y:=21) (k:=(k:Int)) (a:=a) (n:=n) (c:=c) ab rfl Xh aeM ab ab ab ab ab (by rw[ni _ _ ab];exact A) (by rw[ni _ _ ab];exact e);have M:a.add ((k:Int).toNat*3)=a.add (k*3):=ar;rw[M]at W;obtain⟨Z,N,t1,t2,O,P⟩:=akH.ex;obtain⟨u,t,C,W⟩:=W.load (d:=56) (x:=55) ab rfl F (B.add (k*3)) t1 t2 O ab ab (nb _ _ _);rw[P]at C W;have hc:((fb 3).map u).toArray=#[u 0,u 1,u 2]:=rfl;rw[hc]at W;obtain⟨s,Q,S,D,W⟩:=W.name aac (d:=57) (p:=56) ab ab ab (nb _ _ _) rfl rfl rfl;have E:Q 56=lp #[u 0,u 1,u 2]:=by rw[D _ ab,nb]
 obtain⟨g,T,a1,a2,a3,W⟩:=W.num aad (d:=59) (p:=56) (v0:=u 1) ab ab ab E rfl rfl rfl;have i:∀j,j<23->j≠11->T j=H j:=λj o l=>by
  rw[a3 _ ab,D _ ab,ni _ _ ab,ni _ _ ab,ni _ _ l]
 have W:=W.leq (d:=61) (a:=0) (b:=g) ab rfl ab rfl ((bH ab).t a2);obtain⟨k1,W⟩:=W.check (b:=decide ((0:Int)<=g)) ab rfl (rfl:agF[8]?=e7 (aD (e7 61) _ e8)) ab (nb _ _ _);have W:=W.lss (d:=62) (a:=g) (b:=(np:Int)) ab rfl ab ((bH ab).t (by rw[ni _ _ ab];exact a2)) ((bH ab).t (by rw[ni _ _ ab,i 15 ab ab];exact q));obtain⟨k2,W⟩:=W.check (b:=decide (g<(np:Int))) ab rfl (rfl:agF[10]?=e7 (aD (e7 62) _ e8)) ab (nb _ _ _);obtain⟨dl,U,V,b2,X,W⟩:=W.num aae (d:=63) (p:=56) (v0:=u 2) ab ab ab (by rw[ni _ _ ab,ni _ _ ab,a3 _ ab];exact E) rfl rfl rfl;have m:∀j,j<23->j≠11->U j=H j:=λj o l=>by
  rw[X _ ab,ni _ _ ab,ni _ _ ab,i j o l]
 have W:=W.add1 (d:=65) (x:=21) (n:=(k:Int)) ab rfl ab ab (by rw[m 21 ab ab];exact e);have W:=W.abY (d:=21) (x:=65) ab rfl ab ab;simp only[gG,decide_eq_true_eq]at k1 k2;refine⟨a,a',u,t,s,g.toNat,dl,_,rfl,L,B,⟨C,S,by rw[a1];congr 1;omega,ab,V⟩,?_,λj o l z=>?_,W⟩
 .rw[nb,nb,agH ab]
 .rw[ni _ _ l,ni _ _ ab,m j o z]
end
def St(H:Nat->aT)(r:List aT)(k:List a8)(cs:List aI):aL:=fH ⟨61,⟨(fb 98).map H++r⟩,k,[],ov,oh,e8⟩ cs
section
variable {f:ac}{R:aT->aF->Prop}{g0:aL}{w0 w w':aF}{H:Nat->aT}{r:List aT}{cs:List aI}{ρ:Ren}{K k:List a8}{ops:Array bi}{m n x y t:Nat}
abbrev Wy(f:ac)(R:aT->aF->Prop)(g0:aL)(w0:aF)(g:aL)(w:aF):Prop:=Go.bJ.Way gp cY.funcs FF ZZ f R g0 w0 g w
def ang(h:C<98):(St H r k cs).frame.eval (ph C)=H C:=by
 have:=bH (n:=98) (H:=H) (rest:=r) (ops:=#[]) (is:=[]) (k:=k) (fn:=61) (cs:=cs) h;exact this
def Wi.leave(h:Wi f R g0 w0 r cs ops m K H m w):Wy f R g0 w0 (St H r K cs) w:=by
 have e:fp m (m-m)=[]:=by rw[eM];rfl
 have a:=h.way;rw[e]at a;have e1:stepG PC fO (SL 98 H r ops [] K 61 cs) w=m7 (St H r K cs) w #[]:=rfl;exact a.go bV h.hc e1
def Wy.region{id:Nat}(hc:2<=cs.length)(h:Wy f R g0 w0 (St H r (qi (qu id ops fJ)::K) cs) w)(b:ops.size=m):Wi f R g0 w0 r cs ops m K H 0 w:=by
 have e1:stepG PC fO (St H r (qi (qu id ops fJ)::K) cs) w=m7 (SL 98 H r ops (fb ops.size) K 61 cs) w #[]:=rfl;have a:=h.go bV hc e1;rw[b,List.range_eq_range']at a;exact⟨hc,a⟩
def Wy.seq{a b:cl}(hc:2<=cs.length)(h:Wy f R g0 w0 (St H r (qi (qv a b)::K) cs) w):Wy f R g0 w0 (St H r (qi a :: qi b::K) cs) w:=
 h.go bV hc (show stepG PC fO (St H r (qi (qv a b)::K) cs) w=m7 (St H r (qi a :: qi b::K) cs) w #[] from rfl)
abbrev lb(n a:Nat)(test:Array bi)(t:Nat)(body:cl):cl:=qv (qu a test fJ) (qv (qx (ph t) qt (qA n)) body)
def Wy.loop{b:cl}(hc:2<=cs.length)(h:Wy f R g0 w0 (St H r (qi (.block n (qF b))::K) cs) w):Wy f R g0 w0 (St H r (qi b :: qq b :: qr n::K) cs) w:=by
 have a:=h.go bV hc (show stepG PC fO (St H r (qi (.block n (qF b))::K) cs) w=m7 (St H r (qi (qF b) :: qr n::K) cs) w #[] from rfl);exact a.go bV hc (show stepG PC fO (St H r (qi (qF b) :: qr n::K) cs) w=m7 (St H r (qi b :: qq b :: qr n::K) cs) w #[] from rfl)
def Wy.again{b:cl}(hc:2<=cs.length)(h:Wy f R g0 w0 (St H r (qq b::K) cs) w):Wy f R g0 w0 (St H r (qi b :: qq b::K) cs) w:=
 h.go bV hc (show stepG PC fO (St H r (qq b::K) cs) w=m7 (St H r (qi b :: qq b::K) cs) w #[] from rfl)
def Wy.skip(hc:2<=cs.length)(h:Wy f R g0 w0 (St H r (qi qt::K) cs) w):Wy f R g0 w0 (St H r K cs) w:=
 h.go bV hc (show stepG PC fO (St H r (qi qt::K) cs) w=m7 (St H r K cs) w #[] from rfl)
def Wy.cond{a b:cl}{c:Bool}(hc:2<=cs.length)(h:Wy f R g0 w0 (St H r (qi (qx (ph t) a b)::K) cs) w)(d:t<98)(hb:H t=l5 c):Wy f R g0 w0 (St H r (qi (if c then a else b)::K) cs) w:=by
 have e:(St H r (qi (qx (ph t) a b)::K) cs).frame.eval (ph t)=l5 c:=(ang d).t hb;have e1:stepG PC fO (St H r (qi (qx (ph t) a b)::K) cs) w=m7 (St H r (qi (if c then a else b)::K) cs) w #[]:=by
  show(match(St H r (qi (qx (ph t) a b)::K) cs).frame.eval (ph t) with
   |l5 b'=>GStep.go (St H r (qi (if b' then a else b)::K) cs) w #[]
   |_=>_)=_
  rw[e]
 exact h.go bV hc e1
def Wy.exit{a b:cl}(hc:2<=cs.length)(h:Wy f R g0 w0 (St H r (qi (qA n) :: qi a :: qq b :: qr n::K) cs) w):Wy f R g0 w0 (St H r K cs) w:=by
 have e1:stepG PC fO (St H r (qi (qA n) :: qi a :: qq b :: qr n::K) cs) w=m7 (St H r K cs) w #[]:=by
  have e:exitTo n (qi a :: qq b :: qr n::K)=e7 K:=by simp[exitTo]
  show(exitTo n (qi a :: qq b :: qr n::K)).elim _ _=_;rw[e];rfl
 exact h.go bV hc e1
def Wy.test{body:cl}{a b:Int}(hc:2<=cs.length)(h:Wy f R g0 w0 (St H r (qi (lb n C #[aD (e7 t) (ka p6 3 (ph x) (ph y) 3) e8] t body)::K) cs) w)(c:t<98)(g:x<98)(hy:y<98)(ex:H x=lm kw a)(ey:H y=lm kw b) :
 Wy f R g0 w0 (St (upd H t (l5 (decide (a<b)))) r (qi (if decide (a<b) then qt else qA n) :: qi body::K) cs) w:=by
 have W:=Wy.region hc (h.seq hc) (m:=1) rfl;have W:=W.lss (d:=t) (a:=a) (b:=b) (X:=ph x) (Y:=ph y) ab rfl c ((bH g).t ex) ((bH hy).t ey);have W:=(W.leave).seq hc;exact W.cond hc c (nb _ _ _)
def Wy.yes{c:Nat}{body:cl}{a b:Int}(hc:2<=cs.length)(h:Wy f R g0 w0 (St H r (qi (lb n c #[aD (e7 t) (ka p6 3 (ph x) (ph y) 3) e8] t body)::K) cs) w)(d:t<98)(e:x<98)(hy:y<98)(ex:H x=lm kw a)(ey:H y=lm kw b)(g:a<b) :
 Wy f R g0 w0 (St (upd H t (l5 fO)) r (qi body::K) cs) w:=by
 have W:=h.test hc d e hy ex ey;rw[decide_eq_true g]at W;exact Wy.skip hc W
def Wy.no{c:Nat}{body b0:cl}{a b:Int}(hc:2<=cs.length)(h:Wy f R g0 w0 (St H r (qi (lb n c #[aD (e7 t) (ka p6 3 (ph x) (ph y) 3) e8] t body) :: qq b0 :: qr n::K) cs) w)(d:t<98)(e:x<98)(hy:y<98)(ex:H x=lm kw a)(ey:H y=lm kw b)(g:¬a<b) :
 Wy f R g0 w0 (St (upd H t (l5 fJ)) r K cs) w:=by
 have W:=h.test hc d e hy ex ey;rw[decide_eq_false g]at W;exact Wy.exit hc W
abbrev anT:cl:=lb 0 1 aoj 22 (qu 2 am0 fJ)
abbrev anU:cl:=lb 1 3 aok 54 (qu 4 agF fJ)
def am5(hc:2<=cs.length)(l:WR Tryz.progTables.globals.size FF (ec gp FF ZZ) ρ w w'){a a':aP}{np c:Nat}(o:AR ρ a a')(A:np<=5):∀(q i:Nat),i+q=np->∀{H:Nat->aT},H 9=l1 (e7 a) np c->H 15=lm kw (np:Int)->H 20=lm kw (i:Int)->
 Wy f R g0 w0 (St H r (qi anT :: qq anT :: qr 0::K) cs) w->
 (∀k,i<=k->k<np->∃u p s n lb B C,ye ρ w w' a a' k u p s n lb B C)/\∃v,(∀j,j<22->j≠20->v j=H j)/\Wy f R g0 w0 (St v r K cs) w
 |0,i,D,H,e,b,d,h=>by
  have W:=Wy.no hc h (t:=22) (x:=20) (y:=15) ab ab ab d b ab;grind[ni]
 |q+1,i,D,H,e,b,d,h=>by
  have W:=Wy.yes hc h (t:=22) (x:=20) (y:=15) ab ab ab d b ab;have W:=Wy.region hc W (m:=32) rfl;obtain⟨u,p,s,n,J,L,M,E,N,g,hold,W⟩:=ar4 W l (a:=a) (a':=a') (np:=np) (c:=c) (k:=i) (by rw[ni _ _ ab];exact e) (by rw[ni _ _ ab];exact d) ab ab o;have W:=Wy.again hc W.leave;have z:∀j,j<22->j≠20->E j=H j:=λj O F=>by rw[hold j ab F,ni _ _ ab]
  obtain⟨P,Q,I,W⟩:=am5 hc l o A q (i+1) ab ((z 9 ab ab).t e) ((z 15 ab ab).t b) g W;grind
def am8(hc:2<=cs.length)(z:WR Tryz.progTables.globals.size FF (ec gp FF ZZ) ρ w w'){v':aT}{b:Option aP}{np n c:Nat}(A:VR FF ρ (l1 b n c) v')(D:n<=3):∀(q i:Nat),i+q=n->∀{H:Nat->aT},H 10=l1 b n c->H 15=lm kw (np:Int)->H 16=lm kw (n:Int)->H 21=lm kw (i:Int)->
 Wy f R g0 w0 (St H r (qi anU :: qq anU :: qr 1::K) cs) w->
 (∀k,i<=k->k<n->∃a a' u B s st dl,b=e7 a/\v'=l1 (e7 a') n c/\AR ρ a a'/\AA ρ w w' a a' k np u B s st dl)/\∃C,(∀j,j<20->j≠11->C j=H j)/\Wy f R g0 w0 (St C r K cs) w
 |0,i,E,H,g,l,d,e,h=>by
  have W:=Wy.no hc h (t:=54) (x:=21) (y:=16) ab ab ab e d ab;grind[ni]
 |q+1,i,E,H,g,l,d,e,h=>by
  have W:=Wy.yes hc h (t:=54) (x:=21) (y:=16) ab ab ab e d ab;have W:=Wy.region hc W (m:=16) rfl;obtain⟨a,a',u,B,s,st,dl,F,L,M,N,O,o,hold,W⟩:=ar5 W z (v':=v') (b:=b) (np:=np) (n:=n) (c:=c) (k:=i) (by rw[ni _ _ ab];exact g) (by rw[ni _ _ ab];exact l) (by rw[ni _ _ ab];exact e) ab ab A;have W:=Wy.again hc W.leave;have p:∀j,j<23->j≠21->j≠11->F j=H j:=λj P I v=>by rw[hold j ab I v,ni _ _ ab]
  obtain⟨Q,S,J,W⟩:=am8 hc z A D q (i+1) ab ((p 10 ab ab ab).t g) ((p 15 ab ab ab).t l) ((p 16 ab ab ab).t d) o W;grind
def ar8(hc:2<=cs.length)(O:WR Tryz.progTables.globals.size FF (ec gp FF ZZ) ρ w w')(hv:VR FF ρ (H 0) J)(h:Wy f R g0 w0 (St H r [qi sU] cs) w) :
 ∃l p q v d e z A B c3 np o n g,H 0=lp #[lm kw l,lm kw p,l1 q z A,l1 v B c3,l1 (e7 d) np o,l1 e n g]/\(2<=np/\np<=5/\n<=3)/\
  ∃y0 y1 y2 y3 b F,J=lp #[y0,y1,y2,y3,l1 (e7 b) np o,F]/\VR FF ρ (lm kw l) y0/\VR FF ρ (lm kw p) y1/\VR FF ρ (l1 q z A) y2/\VR FF ρ (l1 v B c3) y3/\AR ρ d b/\VR FF ρ (l1 e n g) F/\
  (∀k,k<np->∃u I s n lb P Q,ye ρ w w' d b k u I s n lb P Q)/\(∀k,k<n->∃a a' u I s st dl,e=e7 a/\F=l1 (e7 a') n g/\AR ρ a a'/\AA ρ w w' a a' k np u I s st dl)/\
  ∃C,C 9=l1 (e7 d) np o/\C 10=l1 e n g/\C 15=lm kw (np:Int)/\C 16=lm kw (n:Int)/\Wy f R g0 w0 (St C r [qi agG] cs) w:=by
 have W:=Wy.region hc (h.seq hc) (m:=24) rfl;obtain⟨l,p,q,v,d,e,z,A,B,c3,np,o,n,g,H1,hd,W⟩:=aon W;rw[hd.arg]at hv;obtain⟨y,ey,hy⟩:=Y5 hv;obtain⟨S⟩:=y;have v0:cU FF ρ [lm kw l,lm kw p,l1 q z A,l1 v B c3,l1 (e7 d) np o,l1 e n g] S:=hy
 cases v0 with|cons q0 T=>cases T with|cons q1 t1=>cases t1 with|cons q2 t2=>cases t2 with|cons q3 U=>cases U with|cons q4 V=>cases V with|cons q5 X=>
 cases X;have E:=hd.lo;obtain⟨b,Y,D⟩:=xL q4 (show 0<np from bT ao E.1);subst Y;have W:=Wy.loop hc (W.leave.seq hc);obtain⟨L,H2,hold,W⟩:=am5 hc O D E.2.1 np 0 ab hd.am2 hd.MC hd.i W;have W:=Wy.loop hc (W.seq hc);obtain⟨M,Z,c,W⟩:=am8 hc O q5 E.2.2 n 0 ab ((hold 10 ab ab).t hd.am3) ((hold 15 ab ab).t hd.MC) ((hold 16 ab ab).t hd.hn) ((hold 21 ab ab).t hd.j) W
 exact⟨l,p,q,v,d,e,z,A,B,c3,np,o,n,g,hd.arg,E,_,_,_,_,b,_,ey,q0,q1,q2,q3,D,q5,λk N=>L k (eF _) N,λk N=>M k (eF _) N,
  Z,(c 9 ab ab).t ((hold 9 ab ab).t hd.am2),(c 10 ab ab).t ((hold 10 ab ab).t hd.am3),(c 15 ab ab).t ((hold 15 ab ab).t hd.MC),(c 16 ab ab).t ((hold 16 ab ab).t hd.hn),W⟩
end
def aop:∃i,PC.info? 138=e7 i/\i.zero=e7 (lp dZ):=by
 have h:(PC.info? 138).map (·.zero)=e7 (e7 (lp dZ)):=ae;simp_all
def aoq:hO PC 138=e7 (pp 3 121):=ae
def aor:hO PC 121=e7 (pp 5 73):=ae
def aos:(PC.info? 121).map (·.size)=e7 25:=ae
def anW:(PC.info? 73).map (·.size)=e7 5:=ae
def b35(a b:Int)(w:aF):(mF 30 #[(0,lm kw a),(1,lm kw b)]).run PC w=kS (lp #[lm kw a,lm kw b]) w:=ae
def b61(p a b c d:Int)(w:aF):(mF 73 #[(0,lm kw p),(1,lp #[lm kw a,lm kw b]),(2,lp #[lm kw c,lm kw d])]).run PC w=kS (lp #[lm kw p,lm kw a,lm kw b,lm kw c,lm kw d]) w:=ae
section
variable {f:ac}{R:aT->aF->Prop}{g0:aL}{w0 w w':aF}{H:Nat->aT}{r:List aT}{cs:List aI}{ρ:Ren}{K:List a8}{ops:Array bi}{m i d x y z:Nat}
def Wi.am9(h:Wi f R g0 w0 r cs ops m K H i w)(hi:i<m)(a:ops[i]?=e7 (aD (e7 d) (j6 138) e8))(hd:d<98):Wi f R g0 w0 r cs ops m K (upd H d (lR (e7 ⟨w.heap.size,0,e8⟩))) (i+1) (f7 w (nl dZ 138)):=by
 obtain⟨b,c,e⟩:=aop;exact .next h.hc a hd ((h.at hi).go bV h.hc (jY (P:=PC) (jb a rfl rfl) rfl c e))
def Wi.qM{t l:Nat}{a:aP}{u:Nat->aT}(h:Wi f R g0 w0 r cs ops m K H i w)(hi:i<m)(o:ops[i]?=e7 (aD (e7 d) (j4 t (ph x)) e8))(hd:d<98)(v:x<98)(q:Sd t l)(hv:H x=lR (e7 a))(hc:∀j,j<l->f6 w (a.add j)=e7 (u j)) :
 Wi f R g0 w0 r cs ops m K (upd H d (lp ((fb l).map u).toArray)) (i+1) w:=by
 obtain⟨J,g,t1,t2,A,B⟩:=q.ex;subst B;have e:ct (SL 98 H r ops (i::fp (i+1) (m-(i+1))) K 61 cs).frame.eval (aD (e7 d) (j4 t (ph x)) e8)=(do pure (qG (<-d9 t a)):Sem cv):=eq rfl ((bH v).t hv);have key:∀n j(b:Array aT),(∀k,k<n->f6 w (a.add (j+k))=e7 (u (j+k)))->(dU a j n b).run PC w=kS (b++((fb n).map λk=>u (j+k)).toArray) w:=by
  intro n
  induction n with
  |zero=>intro j b _;simp[dU]
  |succ n C=>
   intro j b D;have p:=D 0 ab;rw[eQ]at p;simp only[dU,iB,d8,p,kx];rw[C (j+1) (b.push (u j)) λk L=>aS];simp[fc,na,Nat.add_assoc,Nat.add_comm 1]
 have s:(d9 t a).run PC w=kS (lp ((fb g.size).map u).toArray) w:=by
  have M:(d9 t a).run PC w=((dU a 0 g.size #[]).run PC w).andThen λc w=>kS (lp c) w:=by
   simp[d9,mh t1,t2,dO,dQ,A,loadCells]
  simp_all
 obtain⟨v',w',E,F⟩:=(h.at hi).val bV h.hc (jb o rfl rfl) e (nt ⟨_,_,s⟩);have I:=s.y.t E;cases I;exact .next h.hc o hd F
def Wi.ama{t b len c:Nat}{a:aP}{k:Nat}(h:Wi f R g0 w0 r cs ops m K H i w)(hi:i<m)(e:ops[i]?=e7 (aD (e7 d) (kd t (ph x) (ph y)) e8))(hd:d<98)(g:x<98)(hy:y<98)(j:hO PC t=e7 (pp len b))(hs:(PC.info? b).map (·.size)=e7 c)(hv:H x=lR (e7 a))(l:H y=lm kw (k:Int))(hl:k<len) :
 Wi f R g0 w0 r cs ops m K (upd H d (lR (e7 (a.add (k*c))))) (i+1) w:=by
 have:=(h.at hi).go bV h.hc (qK (P:=PC) (mn:=fO) (w:=w) (i:=(k:Int)) (jb e rfl rfl) rfl ((bH g).t hv) ((bH hy).t l) j hs ab ab);rw[pj]at this;exact .next h.hc e hd this
def Wi.ani{b off:Nat}{cur c:Array aT}(h:Wi f R g0 w0 r cs ops m K H i w)(hi:i<m)(e:ops[i]?=e7 (aD e8 (j5 73 (ph x) (ph y)) e8))(k:x<98)(hy:y<98)(hv:H x=lR (e7 ⟨b,off,e8⟩))(l:H y=lp c)(hb:w.heap[b]?=e7 (nl cur 138))(g:c.size=5)(hl:off+5<=cur.size)(n:∀v∈c,v.oneCell'=fO) :
 Wi f R g0 w0 r cs ops m K H (i+1) (gj w b (putRow cur off c)):=by
 have a:(lp c).cells=c:=rfl;obtain⟨es,st,_⟩:=rC (P:=PC) (mn:=fO) (w:=w) (jb e rfl rfl) rfl ((bH k).t hv) ((bH hy).t l) hb (by rw[a,g];exact anW) (by rw[a,g];exact hl) (by rw[a];exact n);have j:=(h.at hi).go bV h.hc st;rw[UR e rfl,a]at j;exact⟨h.hc,j⟩
def Wi.auY{a b:Int}(h:Wi f R g0 w0 r cs ops m K H i w)(hi:i<m)(c:ops[i]?=e7 (aD (e7 d) (ka p0 3 (ph x) (ph y) 3) e8))(hd:d<98)(e:x<98)(hy:y<98)(hv:H x=lm kw a)(g:H y=lm kw b):Wi f R g0 w0 r cs ops m K (upd H d (l5 (a==b))) (i+1) w:=
 .next h.hc c hd ((h.at hi).JL bV h.hc (jb c rfl rfl) rfl ((bH e).t hv) ((bH hy).t g))
def Wi.pick{v:aT}{b:Bool}(h:Wi f R g0 w0 r cs ops m K H i w)(hi:i<m)(a:ops[i]?=e7 (aD (e7 d) (.pick (ph x) (pi v) (ph y)) e8))(hd:d<98)(c:x<98)(hy:y<98)(hb:H x=l5 b):Wi f R g0 w0 r cs ops m K (upd H d (if b then v else H y)) (i+1) w:=by
 have e:(ct (SL 98 H r ops (i::fp (i+1) (m-(i+1))) K 61 cs).frame.eval (aD (e7 d) (.pick (ph x) (pi v) (ph y)) e8)).run PC w=kS (qG (if b then v else H y)) w:=by
  unfold ct;simp only[aD,bH c,bH hy,hb,alX];cases b<;>rfl
 have hs:=dF (P:=PC) (mn:=fO) (v:=if b then v else H y) (w':=w) (w:=w) (g:=SL 98 H r ops (i::fp (i+1) (m-(i+1))) K 61 cs) (jb a rfl rfl) e;exact .next h.hc a hd ((h.at hi).go bV h.hc hs)
def Wy.ret{c:aI}{l:List aI}{v:aT}(hc:2<=(c::l).length)(h:Wy f R g0 w0 (St H r [qi .ret] (c::l)) w)(hv:H 2=v):Wy f R g0 w0 (fH (hm c v) l) w:=by
 have e:stepG PC fO (St H r [qi .ret] (c::l)) w=m7 (fH ⟨61,⟨(fb 98).map H++r⟩,[qi .ret],[],ow,oh,e8⟩ (c::l)) w #[]:=rfl;have g:=h.go bV hc e;have a:nS.results=#[.tmp 2]:=rfl;have o:(⟨(fb 98).map H++r⟩:Array aT).getD 2 undef=v:=by
  have:=bH (n:=98) (H:=H) (rest:=r) (ops:=#[]) (is:=[]) (k:=[]) (fn:=61) (cs:=[]) (j:=2) ab;exact(show(⟨(fb 98).map H++r⟩:Array aT).getD 2 undef=H 2 from this).t hv
 have hf:PC.funcs[61]?=e7 nS:=JO;have b:=rB (P:=PC) (mn:=fO) (w:=w) (fr:=⟨61,⟨(fb 98).map H++r⟩,[qi .ret],[],ow,oh,e8⟩) (c:=c) (cs:=l) rfl rfl rfl hf (results_tmp a _ PC w) (events_results_tmp a _ _);rw[o]at b;exact g.go bV hc b
end
structure i_(w:aF)(cs:Array aT)(w1:aF):Prop where
 tb:w1.heap[w.heap.size]?=e7 (nl cs 138)
 old:∀b,b<w.heap.size->w1.heap[b]?=w.heap[b]?
 size:w1.heap.size=w.heap.size+1
def i_.cell{w w1:aF}{cs:Array aT}(h:i_ w cs w1){k o:Nat}(a:k<w.heap.size):f6 w1 ⟨k,o,e8⟩=f6 w ⟨k,o,e8⟩:=by simp only[f6,h.old k a]
theorem i_.set{w w1:aF}{cs:Array aT}(h:i_ w cs w1)(cs':Array aT):i_ w cs' (gj w1 w.heap.size cs'):=
 ⟨b8 _ _ _ _ _ _ h.tb,λb hb=>by rw[ci _ _ _ _ ab];exact h.old b hb,by simp[gj,h.size]⟩
structure j_(T:h_)(w:aF)(H:Nat->aT):Prop where
 h9:H 9=l1 (e7 ⟨T.k4,T.o4,e8⟩) T.np T.c4
 tI:H 10=l1 T.b5 T.n T.c5
 h15:H 15=lm kw (T.np:Int)
 h16:H 16=lm kw (T.n:Int)
def j_.on{T:h_}{w:aF}{a:Nat->aT}(h:j_ T w L)(e:∀j,j<66->a j=L j):j_ T w a:=⟨(e 9 ab).t h.h9,(e 10 ab).t h.tI,(e 15 ab).t h.h15,(e 16 ab).t h.h16⟩
section
variable {f:ac}{R:aT->aF->Prop}{g0:aL}{w0 w w1 w':aF}{H:Nat->aT}{r:List aT}{cs:List aI}{ρ:Ren}{K:List a8}{T:h_}{cur:Array aT}{G q:Nat}
structure Rd(T:h_)(w:aF)(G q:Nat)(H:Nat->aT):Prop where
 sf:j_ T w H
 h66:H 66=lR (e7 ⟨w.heap.size,0,e8⟩)
 h67:H 67=lm kw (G:Int)
 h71:H 71=lm kw ((G0 T.np (T.S G) q:Nat):Int)
 h72:H 72=lm kw (cmV T.pn T.np (T.S G) (T.dl G) q).1
 h73:H 73=lm kw (cmV T.pn T.np (T.S G) (T.dl G) q).2
 h74:H 74=lm kw (q:Int)
def ar9(h:Wi f R g0 w0 r cs aiD 26 K H 0 w1)(B:T.In w)(C:i_ w cur w1)(hd:Rd T w G q H)(N:G<T.n)(J:q<T.np)(D:s7 T.pn T.np T.S T.dl G q cur) :
 ∃E F w2,Rd T w G (q+1) E/\i_ w F w2/\s7 T.pn T.np T.S T.dl G (q+1) F/\Wi f R g0 w0 r cs aiD 26 K E 26 w2:=by
 have L:=B.lo;have I:G0 T.np (T.S G) q<T.np:=abq ab;obtain⟨c1,z⟩:=bs ((cmV T.pn T.np (T.S G) (T.dl G) q).1);obtain⟨e,i⟩:=bs ((cmV T.pn T.np (T.S G) (T.dl G) q).2);obtain⟨p,l⟩:=bs (G0 T.np (T.S G) q);have g:=hd.h71;have m:=hd.h72;have s:=hd.h73;rw[<-z]at m;rw[<-i]at s;rw[<-l]at g I;have W:=h.afO (d:=76) (x:=9) (y:=71) (k:=(p:Int)) (a:=⟨T.k4,T.o4,e8⟩) (n:=T.np) (c:=T.c4) ab rfl aeH aeI ab ab ab ab ab hd.sf.h9 g;have M:(⟨T.k4,T.o4,e8⟩:aP).add ((p:Int).toNat*12)=⟨T.k4,T.o4+p*12,e8⟩:=by rw[eX,pj]
 rw[M]at W;have W:=W.qM (d:=77) (x:=76) (u:=T.G8 p) ab rfl ab ab akC (nb _ _ _) (λj A=>by rw[eX,C.cell B.h4];exact B.c4 p I j A);have hc:((fb 12).map (T.G8 p)).toArray=#[lA (T.nm p),lm kw (T.pn p 1),lm kw (T.pn p 2),lm kw (T.pn p 3),lm kw (T.pn p 4),lm kw (T.pn p 5),lm kw (T.pn p 6),lm kw (T.pn p 7),lm kw (T.pn p 8),lm kw (T.pn p 9),lm kw (T.pn p 10),l1 (T.lb p) (T.ll p) (T.lc p)]:=rfl;rw[hc]at W;have W:=W.fs aa9 (d:=78) (x:=77) (c':=#[lm kw (T.pn p 7),lm kw (T.pn p 8)]) ab rfl ab ab (nb _ _ _) ar;have W:=W.fk aa2 (d:=79) (x:=78) (v:=lm kw (T.pn p 7)) ab rfl ab ab (nb _ _ _) rfl;have W:=W.fk aa3 (d:=80) (x:=78) (c:=#[lm kw (T.pn p 7),lm kw (T.pn p 8)]) (v:=lm kw (T.pn p 8)) ab rfl ab ab rfl rfl;have W:=W.fs aaa (d:=81) (x:=77) (c:=#[lA (T.nm p),lm kw (T.pn p 1),lm kw (T.pn p 2),lm kw (T.pn p 3),lm kw (T.pn p 4),lm kw (T.pn p 5),lm kw (T.pn p 6),lm kw (T.pn p 7),lm kw (T.pn p 8),lm kw (T.pn p 9),lm kw (T.pn p 10),l1 (T.lb p) (T.ll p) (T.lc p)]) (c':=#[lm kw (T.pn p 9),lm kw (T.pn p 10)]) ab rfl ab ab rfl ar;have W:=W.fk aa2 (d:=82) (x:=81) (v:=lm kw (T.pn p 9)) ab rfl ab ab (nb _ _ _) rfl;have W:=W.fk aa3 (d:=83) (x:=81) (c:=#[lm kw (T.pn p 9),lm kw (T.pn p 10)]) (v:=lm kw (T.pn p 10)) ab rfl ab ab rfl rfl;have W:=W.add (d:=84) (x:=72) (y:=79) (m1:=c1) (n:=T.pn p 7) ab rfl ab ab ab m rfl;have W:=W.add (d:=85) (x:=73) (y:=80) (m1:=e) (n:=T.pn p 8) ab rfl ab ab ab s rfl
 have W:=W.build (d:=86) (t:=30) (ps:=#[(0,ph 72),(1,ph 73)]) (pv:=#[(0,lm kw c1),(1,lm kw e)]) ab rfl ab (by
  simp only[kv,hZ,kh];rw[bH ab,bH ab]
  exact(congrArg (λa=>#[((0:Nat),a),(1,_)]) m).t (congrArg (λb=>#[((0:Nat),lm kw c1),(1,b)]) s)) (b35 _ _ _)
 have W:=W.build (d:=87) (t:=30) (ps:=#[(0,ph 84),(1,ph 85)]) (pv:=#[(0,lm kw (kp kw (c1+T.pn p 7))),(1,lm kw (kp kw (e+T.pn p 8)))]) ab rfl ab (by
  simp only[kv,hZ,kh];rw[bH ab,bH ab]
  rfl) (b35 _ _ _)
 have W:=W.build (d:=88) (t:=73) (ps:=#[(0,ph 71),(1,ph 86),(2,ph 87)]) (pv:=#[(0,lm kw (p:Int)),(1,lp #[lm kw c1,lm kw e]),(2,lp #[lm kw (kp kw (c1+T.pn p 7)),lm kw (kp kw (e+T.pn p 8))])]) ab rfl ab (by
  simp only[kv,hZ,kh];rw[bH ab,bH ab,bH ab]
  exact congrArg (λa=>#[((0:Nat),a),(1,lp #[lm kw c1,lm kw e]),(2,lp #[lm kw (kp kw (c1+T.pn p 7)),lm kw (kp kw (e+T.pn p 8))])]) g) (b61 _ _ _ _ _ _)
 have W:=W.ama (d:=89) (x:=66) (y:=67) (k:=G) (a:=⟨w.heap.size,0,e8⟩) ab rfl ab ab ab aoq aos hd.h66 hd.h67 ab;have W:=W.ama (d:=90) (x:=89) (y:=71) (k:=p) ab rfl ab ab ab aor anW (nb _ _ _) g ab;have hcs:=D.size
 have W:=W.ani (x:=90) (y:=88) (b:=w.heap.size) (off:=G*25+p*5) (cur:=cur) (c:=#[lm kw (p:Int),lm kw c1,lm kw e,lm kw (kp kw (c1+T.pn p 7)),lm kw (kp kw (e+T.pn p 8))]) ab rfl ab ab (by
  rw[nb,eX,eX,ei]) rfl C.tb rfl ab (λv hv=>by
  simp only[ko,dp,eW,or_false]at hv
  rcases hv with rfl|rfl|rfl|rfl|rfl<;>rfl)
 have W:=W.add (d:=91) (x:=84) (y:=82) (m1:=kp kw (c1+T.pn p 7)) (n:=T.pn p 9) ab rfl ab ab ab rfl rfl;have W:=W.add (d:=92) (x:=85) (y:=83) (m1:=kp kw (e+T.pn p 8)) (n:=T.pn p 10) ab rfl ab ab ab rfl rfl;have W:=W.abY (d:=72) (x:=91) ab rfl ab ab;have W:=W.abY (d:=73) (x:=92) ab rfl ab ab;have W:=W.add1 (d:=93) (x:=71) (n:=(p:Int)) ab rfl ab ab g;have W:=W.auY (d:=94) (x:=93) (y:=15) (a:=kp kw ((p:Int)+1)) (b:=(T.np:Int)) ab rfl ab ab ab (nb _ _ _) hd.sf.h15;have W:=W.pick (d:=95) (x:=94) (y:=93) (v:=lm kw 0) (b:=kp kw ((p:Int)+1)==(T.np:Int)) ab rfl ab ab ab (nb _ _ _);have W:=W.abY (d:=71) (x:=95) ab rfl ab ab;have W:=W.add1 (d:=96) (x:=74) (n:=(q:Int)) ab rfl ab ab hd.h74;have W:=W.abY (d:=74) (x:=96) ab rfl ab ab;refine⟨_,_,_,⟨hd.sf.on λj A=>?_,?_,?_,?_,?_,?_,?_⟩,C.set _,D.next J L.2.1 ?_ (λj A=>?_) (λo O=>?_),W⟩
 .repeat rw[ni _ _ ab]
 .exact hd.h66
 .exact hd.h67
 .have e1:kp kw ((p:Int)+1)=((p+1:Nat):Int):=agH ab;show(if IntKind.i64.wrap ((p:Int)+1)==(T.np:Int) then lm kw 0 else lm kw (kp kw ((p:Int)+1)))=_;rw[e1,abQ ab,<-l];grind
 .show lm kw (kp kw (kp kw (c1+T.pn p 7)+T.pn p 9))=_;rw[cmV,<-z,<-l]
 .show lm kw (kp kw (kp kw (e+T.pn p 8)+T.pn p 10))=_;rw[cmV,<-i,<-l]
 .rw[nb,nb,agH ab]
 .rw[vj (by show _+5<=_;omega)];exact hcs
 .rw[<-l,Mo (by show _+5<=_;omega) A];obtain rfl|rfl|rfl|rfl|rfl:j=0\/j=1\/j=2\/j=3\/j=4:=ab
  .simp only[vsV,<-l];rfl
  .simp only[vsV,<-z];rfl
  .simp only[vsV,<-i];rfl
  .simp only[vsV,<-z,<-l];rfl
  .simp only[vsV,<-i,<-l];rfl
 grind[G4]
abbrev anX:cl:=lb 3 8 anf 75 (qu 9 aiD fJ)
def Rd.upd{j:Nat}{v:aT}(h:Rd T w G q H)(a:75<=j):Rd T w G q (upd H j v):=
 ⟨h.sf.on λk b=>ni _ _ ab,(ni _ _ ab).t h.h66,(ni _ _ ab).t h.h67,(ni _ _ ab).t h.h71,(ni _ _ ab).t h.h72,(ni _ _ ab).t h.h73,(ni _ _ ab).t h.h74⟩
def ahG(hc:2<=cs.length)(e:T.In w)(g:G<T.n):∀(k q:Nat),q+k=T.np->∀{H:Nat->aT}{w1:aF}{cur:Array aT},i_ w cur w1->Rd T w G q H->s7 T.pn T.np T.S T.dl G q cur->
 Wy f R g0 w0 (St H r (qi anX :: qq anX :: qr 3::K) cs) w1->∃i j w2,i_ w j w2/\Rd T w G T.np i/\s7 T.pn T.np T.S T.dl G T.np j/\Wy f R g0 w0 (St i r K cs) w2
 |0,q,l,H,w1,cur,a,hd,b,h=>by
  obtain rfl:q=T.np:=ab;have W:=Wy.no hc h (t:=75) (x:=74) (y:=15) ab ab ab hd.h74 hd.sf.h15 ab;exact⟨_,cur,w1,a,hd.upd ab,b,W⟩
 |k+1,q,l,H,w1,cur,a,hd,b,h=>by
  have W:=Wy.yes hc h (t:=75) (x:=74) (y:=15) ab ab ab hd.h74 hd.sf.h15 ab;have W:=Wy.region hc W (m:=26) rfl;obtain⟨s,o,w2,c,p,d,W⟩:=ar9 W e a (hd.upd ab) g ab b;exact ahG hc e g k (q+1) ab p c d (Wy.again hc W.leave)
structure k_(T:h_)(w:aF)(G:Nat)(H:Nat->aT):Prop where
 sf:j_ T w H
 h66:H 66=lR (e7 ⟨w.heap.size,0,e8⟩)
 h67:H 67=lm kw (G:Int)
abbrev anZ:cl:=lb 2 6 aol 68 (qv (qu 7 opsL fJ) (qv (afw 3 8 anf 75 (qu 9 aiD fJ)) (qu 10 aom fJ)))
def ahH(hc:2<=cs.length)(e:T.In w):∀(k G:Nat),G+k=T.n->∀{H:Nat->aT}{w1:aF}{cur:Array aT},i_ w cur w1->k_ T w G H->s7 T.pn T.np T.S T.dl G 0 cur->
 Wy f R g0 w0 (St H r (qi anZ :: qq anZ :: qr 2::K) cs) w1->∃z A w2,i_ w A w2/\z 66=lR (e7 ⟨w.heap.size,0,e8⟩)/\s7 T.pn T.np T.S T.dl T.n 0 A/\Wy f R g0 w0 (St z r K cs) w2
 |0,G,C,H,w1,cur,g,hd,i,h=>by
  obtain rfl:G=T.n:=ab;have W:=Wy.no hc h (t:=68) (x:=67) (y:=16) ab ab ab hd.h67 hd.sf.h16 ab;exact⟨_,cur,w1,g,(ni _ _ ab).t hd.h66,i,W⟩
 |k+1,G,C,H,w1,cur,g,hd,i,h=>by
  obtain⟨e5,l⟩:=e.h5 ab;have D:=e.st G ab;have J:=e.lo.2.2;have W:=Wy.yes hc h (t:=68) (x:=67) (y:=16) ab ab ab hd.h67 hd.sf.h16 ab;have W:=Wy.region hc (W.seq hc) (m:=6) rfl;have B:=hd.sf.tI;rw[e5]at B;have W:=W.afO (d:=69) (x:=10) (y:=67) (k:=(G:Int)) (a:=⟨T.k5,T.o5,e8⟩) (n:=T.n) (c:=T.c5) ab rfl Xh aeM ab ab ab ab ab ((ni _ _ ab).t B) ((ni _ _ ab).t hd.h67);have E:(⟨T.k5,T.o5,e8⟩:aP).add ((G:Int).toNat*3)=⟨T.k5,T.o5+G*3,e8⟩:=by rw[eX,pj]
  rw[E]at W;have W:=W.qM (d:=70) (x:=69) (u:=T.PM G) ab rfl ab ab akH (nb _ _ _) (λj o=>by rw[eX,g.cell l];exact e.c5 G ab j o);have p:((fb 3).map (T.PM G)).toArray=#[lA (T.gn G),lm kw (T.S G:Int),lm kw (T.dl G)]:=rfl;rw[p]at W;have W:=W.fk aad (d:=71) (x:=70) (v:=lm kw (T.S G:Int)) ab rfl ab ab (nb _ _ _) rfl;have W:=W.fk aae (d:=72) (x:=70) (c:=#[lA (T.gn G),lm kw (T.S G:Int),lm kw (T.dl G)]) (v:=lm kw (T.dl G)) ab rfl ab ab rfl rfl;have W:=W.fk aae (d:=73) (x:=70) (c:=#[lA (T.gn G),lm kw (T.S G:Int),lm kw (T.dl G)]) (v:=lm kw (T.dl G)) ab rfl ab ab rfl rfl;have W:=W.move (d:=74) ab rfl ab;have W:=Wy.loop hc ((W.leave).seq hc)
  obtain⟨L,F,w2,I,b,s,W⟩:=ahG hc e (show G<T.n by omega) T.np 0 ab g ⟨hd.sf.on λj o=>by repeat rw[ni _ _ ab],by repeat (rw[ni _ _ ab]);exact hd.h66,by repeat (rw[ni _ _ ab]);exact hd.h67,by
   show lm kw (T.S G:Int)=_
   rw[G0,eQ,km D],rfl,rfl,rfl⟩ i W
  have W:=Wy.region hc W (m:=2) rfl;have W:=W.add1 (d:=97) (x:=67) (n:=(G:Int)) ab rfl ab ab b.h67;have W:=W.abY (d:=67) (x:=97) ab rfl ab ab;refine ahH hc e k (G+1) ab I ⟨b.sf.on λj o=>by repeat rw[ni _ _ ab],by repeat (rw[ni _ _ ab]);exact b.h66,?_⟩ s.done (Wy.again hc W.leave);rw[nb,nb,agH ab]
def ahl(h:C<75):dZ[C]?=e7 (lm kw 0):=by
 unfold dZ;grind
def aot{c:aI}{l:List aI}(hc:2<=(c::l).length)(e:T.In w)(hs:j_ T w H)(h:Wy f R g0 w0 (St H r [qi agG] (c::l)) w) :
 ∃cur w2,i_ w cur w2/\s7 T.pn T.np T.S T.dl T.n 0 cur/\Wy f R g0 w0 (fH (hm c (lR (e7 ⟨w.heap.size,0,e8⟩))) l) w2:=by
 have W:=Wy.region hc (h.seq hc) (m:=2) rfl;have W:=W.am9 (d:=66) ab rfl ab;have W:=W.move (d:=67) ab rfl ab;have W:=Wy.loop hc ((W.leave).seq hc)
 have g:i_ w dZ (f7 w (nl dZ 138)):=⟨gg _ _,λb hb=>by
  show(w.heap.push _)[b]?=_
  grind,by simp[f8]⟩
 obtain⟨s,cur,w2,i,a,k,W⟩:=ahH hc e T.n 0 ab g ⟨hs.on λj t=>by repeat rw[ni _ _ ab],by rw[ni _ _ ab,nb],nb _ _ _⟩ (s7.zero (by simp[dZ]) λo p=>ahl p) W;have W:=Wy.region hc (W.seq hc) (m:=1) rfl;have W:=W.abY (d:=2) (x:=66) ab rfl ab ab;exact⟨cur,w2,i,k,Wy.ret hc W.leave ((nb _ _ _).t a)⟩
end
def ahI{a:Type}(d:a){p:Nat->a->Prop}{n:Nat}(h:∀i,i<n->∃x,p i x):∃f:Nat->a,∀i,i<n->p i (f i):=by
 classical
 refine⟨λi=>if hi:i<n then(h i hi).choose else d,λi hi=>?_⟩;grind
section
variable {f:ac}{R:aT->aF->Prop}{g0:aL}{w0 w w':aF}{H:Nat->aT}{r:List aT}{cs:List aI}{ρ:Ren}
def oT{n:Int}{k:IntKind}(h:VR FF ρ (lm k n) J):J=lm k n:=by cases h;rfl
def Qg(h:VR FF ρ (lA O) J):J=lA O:=by cases h;rfl
def ahJ{c:Nat}(h:VR FF ρ (l1 q C c) J):∃b',J=l1 b' C c/\∀x,x∈bl b' C c->∃a,ρ a x:=by
 cases h with
 |di=>exact⟨e8,rfl,λx d=>by unfold bl at d;split at d<;>simp at d⟩
 |@slice a g _ _ i=>
  refine⟨e7 g,rfl,λx d=>?_⟩;unfold bl at d;split at d
  .simp at d
  .have e:x=g.block:=by simpa using d
   exact⟨a.block,by rw[e];exact i.1⟩
 |dK=>exact⟨e7 _,rfl,λx d=>by unfold bl at d;simp at d⟩
def AB(h:f6 w M=e7 J):M.spot=e8:=by
 unfold f6 at h;split at h
 .simp_all
 .cases h
def acp{a:aP}{v:aT}(h:f6 w a=e7 v):a.block<w.heap.size:=by
 unfold f6 at h;grind
def Qh(h:M.spot=e8)(n j:Nat):(M.add n).add j=⟨M.block,M.off+n+j,e8⟩:=by
 obtain⟨b,o,s⟩:=M;grind[eX]
def acr(h:f6 w ((M.add C).add 0)=e7 J)(b:C=0):M.spot=e8:=by
 subst b;have e:(M.add 0).add 0=M:=by unfold Addr.add;simp
 rw[e]at h;exact AB h
def acu{n:Nat->Int}{b c:Nat}(hs:M.spot=e8)(hc:∀j,j<12->f6 w ((M.add (C*12)).add j)=e7 (L j))(e:L 0=lA O)(h:∀j,1<=j->j<=10->L j=lm kw (n j))(hl:L 11=l1 q b c){j:Nat}(g:j<12) :
 f6 w ⟨M.block,M.off+C*12+j,e8⟩=(#[lA O,lm kw (n 1),lm kw (n 2),lm kw (n 3),lm kw (n 4),lm kw (n 5),lm kw (n 6),lm kw (n 7),lm kw (n 8),lm kw (n 9),lm kw (n 10),l1 q b c]:Array aT)[j]?:=by
 have d:=hc j g;rw[Qh hs]at d;rw[d];obtain rfl|rfl|rfl|rfl|rfl|rfl|rfl|rfl|rfl|rfl|rfl|rfl:j=0\/j=1\/j=2\/j=3\/j=4\/j=5\/j=6\/j=7\/j=8\/j=9\/j=10\/j=11:=ab
 .rw[e];rfl
 .grind
 .grind
 .grind
 .grind
 .grind
 .grind
 .simp_all
 .simp_all
 .simp_all
 .simp_all
 .rw[hl];rfl
structure arb(ρ:Ren)(w w':aF)(a a':aP)(k:Nat)(x:ByteArray×(Nat->Int)×(Option aP×Nat×Nat)×Option aP):Prop where
 lone:∀j,j<12->f6 w ⟨a.block,a.off+k*12+j,e8⟩=(#[lA x.1,lm kw (x.2.1 1),lm kw (x.2.1 2),lm kw (x.2.1 3),lm kw (x.2.1 4),lm kw (x.2.1 5),lm kw (x.2.1 6),lm kw (x.2.1 7),lm kw (x.2.1 8),lm kw (x.2.1 9),lm kw (x.2.1 10),l1 x.2.2.1.1 x.2.2.1.2.1 x.2.2.1.2.2]:Array aT)[j]?
 comp:∀j,j<12->f6 w' ⟨a'.block,a'.off+k*12+j,e8⟩=(#[lA x.1,lm kw (x.2.1 1),lm kw (x.2.1 2),lm kw (x.2.1 3),lm kw (x.2.1 4),lm kw (x.2.1 5),lm kw (x.2.1 6),lm kw (x.2.1 7),lm kw (x.2.1 8),lm kw (x.2.1 9),lm kw (x.2.1 10),l1 x.2.2.2 x.2.2.1.2.1 x.2.2.1.2.2]:Array aT)[j]?
 lane:∀y,y∈bl x.2.2.2 x.2.2.1.2.1 x.2.2.1.2.2->∃b,ρ b y
def ye.both{a':aP}{g:Nat->aT}{n:Nat->Int}{d e:Nat}(h:ye ρ w w' M a' C L g O n q d e)(hs:M.spot=e8)(i:a'.spot=e8):∃x,arb ρ w w' M a' C x:=by
 have c:=(h.cell 11 ab).2.2.1;rw[h.lane]at c;obtain⟨l,m,hl⟩:=ahJ c;refine⟨(O,n,(q,d,e),l),λj b=>acu hs (λj b=>(h.cell j b).1) h.name h.num h.lane b,λj b=>acu i (λj b=>(h.cell j b).2.1) ?_ (λj o p=>?_) m b,hl⟩
 .have:=(h.cell 0 ab).2.2.1;rw[h.name]at this;exact Qg this
 .have:=(h.cell j ab).2.2.1;rw[h.num j o p]at this;exact oT this
structure aow(w w':aF)(a a':aP)(k np:Nat)(x:ByteArray×Nat×Int):Prop where
 lone:∀j,j<3->f6 w ⟨a.block,a.off+k*3+j,e8⟩=(#[lA x.1,lm kw (x.2.1:Int),lm kw x.2.2]:Array aT)[j]?
 comp:∀j,j<3->f6 w' ⟨a'.block,a'.off+k*3+j,e8⟩=(#[lA x.1,lm kw (x.2.1:Int),lm kw x.2.2]:Array aT)[j]?
 lt:x.2.1<np
def AA.both{a':aP}{np:Nat}{d:Nat->aT}{st:Nat}{dl:Int}(h:AA ρ w w' M a' C np L d O st dl)(hs:M.spot=e8)(e:a'.spot=e8):aow w w' M a' C np (O,st,dl):=by
 have k0:=(h.cell 0 ab).2.2.1;rw[h.name]at k0;have k1:=(h.cell 1 ab).2.2.1;rw[h.start]at k1;have k2:=(h.cell 2 ab).2.2.1;rw[h.aeN]at k2;refine⟨λj c=>?_,λj c=>?_,h.lt⟩
 .have b:=(h.cell j c).1;rw[Qh hs]at b;rw[b];obtain rfl|rfl|rfl:j=0\/j=1\/j=2:=ab
  .rw[h.name];rfl
  .rw[h.start];rfl
  .rw[h.aeN];rfl
 .have b:=(h.cell j c).2.1;rw[Qh e]at b;rw[b];obtain rfl|rfl|rfl:j=0\/j=1\/j=2:=ab
  .rw[Qg k0];rfl
  .rw[oT k1];rfl
  .rw[oT k2];rfl
end
def amb(h:Y=#[L 0,L 1,L 2,L 3,L 4,L 5,L 6,L 7,L 8,L 9,L 10,L 11])(b:C<12):Y[C]?=e7 (L C):=by
 subst h;obtain rfl|rfl|rfl|rfl|rfl|rfl|rfl|rfl|rfl|rfl|rfl|rfl:C=0\/C=1\/C=2\/C=3\/C=4\/C=5\/C=6\/C=7\/C=8\/C=9\/C=10\/C=11:=ab
 all_goals rfl
def aox(h:Y=#[L 0,L 1,L 2])(b:C<3):Y[C]?=e7 (L C):=by
 grind
section
variable {f:ac}{R:aT->aF->Prop}{g0:aL}{w0 w w':aF}{H:Nat->aT}{r:List aT}{cs:List aI}{ρ:Ren}
def arc(ρ:Ren)(w':aF)(v0:aT)(T:h_):Prop:=∃c,v0=lp c/\(T.n=0->∃d e,c[5]?=e7 (l1 d 0 e))/\
 (0<T.n->∃D gn,c=cA T.np D/\Cf T.np T.n D T.S T.dl gn w'/\D.pn=T.pn/\∀b,b∈dR T.np D->∃a,ρ a b)
def aoy(hc:2<=cs.length)(hw:WR Tryz.progTables.globals.size FF (ec gp FF ZZ) ρ w w')(hv:VR FF ρ (H 0) J)(h:Wy f R g0 w0 (St H r [qi sU] cs) w) :
 ∃T v,T.In w/\j_ T w v/\arc ρ w' J T/\Wy f R g0 w0 (St v r [qi agG] cs) w:=by
 obtain⟨l,p,b2,b3,o,b5,n2,c2,n3,c3,g,c4,n,Q,_,y,y0,y1,y2,y3,c,y5,ev,q0,q1,q2,q3,ha4,q5,z,A,v,e9,B,C,E,W⟩:=ar8 hc hw hv h;have U:o.spot=e8/\c.spot=e8/\o.block<w.heap.size:=by
  obtain⟨u,u',s,nn,lb,ll,lc,t⟩:=z 0 ab;obtain⟨k1,k2,_,_⟩:=t.cell 0 ab;have e1:(o.add (0*12)).add 0=o:=by rw[jD];unfold Addr.add;simp
  rw[e1]at k1;exact⟨AB k1,acr k2 (jD _),acp k1⟩
 obtain⟨U,F,I⟩:=U;obtain⟨X,V⟩:=ahI (m8,λ_=>0,(e8,0,0),e8) (p:=λk x=>arb ρ w w' o c k x) (n:=g) λk d=>by
  obtain⟨u,u',s,nn,lb,ll,lc,t⟩:=z k d;exact t.both U F
 obtain⟨b2',v0,k2⟩:=ahJ q2;obtain⟨b3',K,k3⟩:=ahJ q3;have f0:=oT q0;have f1:=oT q1;subst v0 K f0 f1;have e4':c=⟨c.block,c.off,e8⟩:=by rw[<-F]
 have e4:o=⟨o.block,o.off,e8⟩:=by rw[<-U]
 rcases cd n with L|L
 .subst L;obtain⟨b5',e5,_⟩:=ahJ q5;subst e5;refine⟨{ l:=l,p:=p,b2:=b2,n2:=n2,c2:=c2,b3:=b3,n3:=n3,c3:=c3,k4:=o.block,o4:=o.off,np:=g,c4:=c4,b5:=b5,k5:=0,o5:=0,n:=0,c5:=Q,pn:=λi j=>(X i).2.1 j,S:=λ_=>0,dl:=λ_=>0,nm:=λi=>(X i).1,gn:=λ_=>m8,lb:=λi=>(X i).2.2.1.1,ll:=λi=>(X i).2.2.1.2.1,lc:=λi=>(X i).2.2.1.2.2 },v,⟨y,I,(λh=>absurd h (dt _)),(λk d=>absurd d (eI _)),(λi hi j q=>by rw[(V i hi).lone j q];exact amb (by rfl) q),(λk d=>absurd d (eI _))⟩,⟨by rw[e9,e4],B,C,E⟩,⟨_,ev,(λ_=>⟨_,_,rfl⟩),(λh=>absurd h (dt _))⟩,W⟩
 .obtain⟨a,m,s5,s5',Z,ey,har,hg⟩:∃a m,a.spot=e8/\m.spot=e8/\b5=e7 a/\y5=l1 (e7 m) n Q/\AR ρ a m/\∀k,k<n->∃x,aow w w' a m k g x:=by
   obtain⟨a,m,u,u',s,st,dl,Z,ey,ha,t⟩:=A 0 L;obtain⟨k1,k2,_,_⟩:=t.cell 0 ab;have sp:=acr k1 (jD _);have M:=acr k2 (jD _);refine⟨a,m,sp,M,Z,ey,ha,λk d=>?_⟩;obtain⟨a1,a1',u,u',s,st,dl,N,O,ha1,t⟩:=A k d;rw[Z]at N;cases N;rw[ey]at O;cases O;exact⟨_,t.both sp M⟩
  obtain⟨Y,P⟩:=ahI (m8,0,0) (p:=λk x=>aow w w' a m k g x) (n:=n) hg;have ea:a=⟨a.block,a.off,e8⟩:=by rw[<-s5]
  have ea':m=⟨m.block,m.off,e8⟩:=by rw[<-s5']
  have h5:a.block<w.heap.size:=by
   have:=(P 0 L).lone 0 ab;exact acp (a:=⟨a.block,_,e8⟩) (this.t rfl)
  refine⟨{ l:=l,p:=p,b2:=b2,n2:=n2,c2:=c2,b3:=b3,n3:=n3,c3:=c3,k4:=o.block,o4:=o.off,np:=g,c4:=c4,b5:=b5,k5:=a.block,o5:=a.off,n:=n,c5:=Q,pn:=λi j=>(X i).2.1 j,S:=λk=>(Y k).2.1,dl:=λk=>(Y k).2.2,nm:=λi=>(X i).1,gn:=λk=>(Y k).1,lb:=λi=>(X i).2.2.1.1,ll:=λi=>(X i).2.2.1.2.1,lc:=λi=>(X i).2.2.1.2.2 },v,
   ⟨y,I,λ_=>⟨by rw[Z,ea],h5⟩,λk d=>(P k d).lt,(λi hi j q=>by rw[(V i hi).lone j q];exact amb (by rfl) q),(λk d j q=>by rw[(P k d).lone j q];exact aox (by rfl) q)⟩,⟨by rw[e9,e4],B,C,E⟩,⟨_,ev,λh=>absurd h (Nat.ne_of_gt L),λ_=>?_⟩,W⟩
  let D:jB:={ l,p,so:=b2',sl:=n2,sc:=c2,qo:=b3',ql:=n3,qc:=c3,pb:=c.block,po:=c.off,cp:=c4,gb:=m.block,go:=m.off,ng:=n,cg:=Q,pe:=λi=>(X i).1,pn:=λi j=>(X i).2.1 j,pl:=λi=>if i<g then(X i).2.2.2 else e8,pc:=λi=>if i<g then(X i).2.2.1.2.1 else 0,pd:=λi=>if i<g then(X i).2.2.1.2.2 else 0 }
  have Ht:∀b,b∈dR g D->∃x,ρ x b:=by
   intro b hb;unfold dR at hb;simp only[dp,lx,mf,dv]at hb
   rcases hb with rfl|rfl|(hb|hb)|⟨i,hi,hb⟩
   .exact⟨_,ha4.1⟩
   .exact⟨_,har.1⟩
   .exact k2 b hb
   .exact k3 b hb
   .have e1:D.pl i=if i<g then(X i).2.2.2 else e8:=rfl
    have v0:D.pc i=if i<g then(X i).2.2.1.2.1 else 0:=rfl
    have K:D.pd i=if i<g then(X i).2.2.1.2.2 else 0:=rfl
    rw[e1,v0,K]at hb;by_cases h:i<g
    .rw[if_pos h,if_pos h,if_pos h]at hb;exact(V i h).lane b hb
    .rw[if_neg h,if_neg h,if_neg h]at hb;simp[bl]at hb
  refine⟨D,λk=>(Y k).1,?_,⟨λb hb=>?_,λi hi j q=>?_,λk d j q=>?_,rfl,λk d=>(P k d).lt,⟨da ao y.1,y.2.1⟩,y.2.2⟩,rfl,Ht⟩
  .rw[ey,e4',ea'];rfl
  .obtain⟨x,hx⟩:=Ht b hb;have hl:=(hw.lt hx).2;exact⟨hl,_,Array.getElem?_eq_getElem hl⟩
  .have t:=(V i hi).comp j q;have e:pA D i=#[lA (X i).1,lm kw ((X i).2.1 1),lm kw ((X i).2.1 2),lm kw ((X i).2.1 3),lm kw ((X i).2.1 4),lm kw ((X i).2.1 5),lm kw ((X i).2.1 6),lm kw ((X i).2.1 7),lm kw ((X i).2.1 8),lm kw ((X i).2.1 9),lm kw ((X i).2.1 10),l1 (X i).2.2.2 (X i).2.2.1.2.1 (X i).2.2.1.2.2]:=by
    have e1:D.pl i=(X i).2.2.2:=if_pos hi;have v0:D.pc i=(X i).2.2.1.2.1:=if_pos hi;have K:D.pd i=(X i).2.2.1.2.2:=if_pos hi;unfold pA;rw[e1,v0,K]
   grind
  .have t:=(P k d).comp j q;rw[Nat.mul_comm 3 k];exact t
end
end Go.Proofs
namespace Go.Proofs
open Go.Ph Go.Conc Go.bJ
variable {J R:Nat}{O:jB}{q:Nat->Nat}{C:Nat->Int}{L Y:aF}{M:Array aT}
def ajd(b:R<2):j0 2 0 R:=by
 match R,b with
 |0,_|1,_=>exact⟨λD f=>⟨ae,ae⟩,λD O n a gn c f Z e d=>ae,λD O n a gn c f Z=>ae,λD c f=>⟨ae,ae,ae⟩,λD O n a gn c g f Z e d=>ae⟩
def ajf(b:R<2):j0 2 1 R:=by
 match R,b with
 |0,_|1,_=>exact⟨λD f=>⟨ae,ae⟩,λD O n a gn c f Z e d=>ae,λD O n a gn c f Z=>ae,λD c f=>⟨ae,ae,ae⟩,λD O n a gn c g f Z e d=>ae⟩
def anl(hs:R<2)(a:J<2):j0 2 R J:=by
 match R,hs with
 |0,_=>exact ajd a
 |1,_=>exact ajf a
def aoz(hs:R<2)(a:J<1):mg 2 R J:=by
 match R,hs,J,a with
 |0,_,0,_|1,_,0,_=>exact⟨λD O n b gn c f Z=>ae⟩
def aoA(hs:R<2):xM 2 R 1:=by
 match R,hs with
 |0,_|1,_=>exact⟨λD O n a gn c b f Z=>⟨ae,ae,ae,ae,ae⟩⟩
def av4(hs:R<2):FE 2 R where
 e0 D O n a d:=ae
 b0 D O n:=⟨⟨ae,ae,ae,ae,ae⟩,ae⟩
 h0 D O n:=ae
 e1 D O n a d:=ae
 c1 D O n:=⟨ae,ae,ae⟩
 e2 D O n x a d:=ae
 c2 D O n x:=⟨ae,ae⟩
 e3 D O n c gn x:=by
  match R,hs with
  |0,_|1,_=>intro a d;kernel_rfl
 r0 D O n c gn x:=by
  match R,hs with
  |0,_|1,_=>show _=_;kernel_rfl
 round r b:=anl hs b
 next r b:=aoz hs ab
 last r b:=by
  obtain rfl:r=1:=ab;exact aoA hs
def ajg(b:R<3):j0 3 0 R:=by
 match R,b with
 |0,_|1,_|2,_=>exact⟨λD f=>⟨ae,ae⟩,λD O n a gn c f Z e d=>ae,λD O n a gn c f Z=>ae,λD c f=>⟨ae,ae,ae⟩,λD O n a gn c g f Z e d=>ae⟩
def ajv(b:R<3):j0 3 1 R:=by
 match R,b with
 |0,_|1,_|2,_=>exact⟨λD f=>⟨ae,ae⟩,λD O n a gn c f Z e d=>ae,λD O n a gn c f Z=>ae,λD c f=>⟨ae,ae,ae⟩,λD O n a gn c g f Z e d=>ae⟩
def ajw(b:R<3):j0 3 2 R:=by
 match R,b with
 |0,_|1,_|2,_=>exact⟨λD f=>⟨ae,ae⟩,λD O n a gn c f Z e d=>ae,λD O n a gn c f Z=>ae,λD c f=>⟨ae,ae,ae⟩,λD O n a gn c g f Z e d=>ae⟩
def anm(hs:R<3)(a:J<3):j0 3 R J:=by
 match R,hs with
 |0,_=>exact ajg a
 |1,_=>exact ajv a
 |2,_=>exact ajw a
def aoB(hs:R<3)(a:J<2):mg 3 R J:=by
 match R,hs,J,a with
 |0,_,0,_|0,_,1,_|1,_,0,_|1,_,1,_|2,_,0,_|2,_,1,_=>exact⟨λD O n b gn c f Z=>ae⟩
def aoC(hs:R<3):xM 3 R 2:=by
 match R,hs with
 |0,_|1,_|2,_=>exact⟨λD O n a gn c b f Z=>⟨ae,ae,ae,ae,ae⟩⟩
def av5(hs:R<3):FE 3 R where
 e0 D O n a d:=ae
 b0 D O n:=⟨⟨ae,ae,ae,ae,ae⟩,ae⟩
 h0 D O n:=ae
 e1 D O n a d:=ae
 c1 D O n:=⟨ae,ae,ae⟩
 e2 D O n x a d:=ae
 c2 D O n x:=⟨ae,ae⟩
 e3 D O n c gn x:=by
  match R,hs with
  |0,_|1,_|2,_=>intro a d;kernel_rfl
 r0 D O n c gn x:=by
  match R,hs with
  |0,_|1,_|2,_=>show _=_;kernel_rfl
 round r b:=anm hs b
 next r b:=aoB hs ab
 last r b:=by
  obtain rfl:r=2:=ab;exact aoC hs
def ajz(b:R<4):j0 4 0 R:=by
 match R,b with
 |0,_|1,_|2,_|3,_=>exact⟨λD f=>⟨ae,ae⟩,λD O n a gn c f Z e d=>ae,λD O n a gn c f Z=>ae,λD c f=>⟨ae,ae,ae⟩,λD O n a gn c g f Z e d=>ae⟩
def ajW(b:R<4):j0 4 1 R:=by
 match R,b with
 |0,_|1,_|2,_|3,_=>exact⟨λD f=>⟨ae,ae⟩,λD O n a gn c f Z e d=>ae,λD O n a gn c f Z=>ae,λD c f=>⟨ae,ae,ae⟩,λD O n a gn c g f Z e d=>ae⟩
def akj(b:R<4):j0 4 2 R:=by
 match R,b with
 |0,_|1,_|2,_|3,_=>exact⟨λD f=>⟨ae,ae⟩,λD O n a gn c f Z e d=>ae,λD O n a gn c f Z=>ae,λD c f=>⟨ae,ae,ae⟩,λD O n a gn c g f Z e d=>ae⟩
def akk(b:R<4):j0 4 3 R:=by
 match R,b with
 |0,_|1,_|2,_|3,_=>exact⟨λD f=>⟨ae,ae⟩,λD O n a gn c f Z e d=>ae,λD O n a gn c f Z=>ae,λD c f=>⟨ae,ae,ae⟩,λD O n a gn c g f Z e d=>ae⟩
def ann(hs:R<4)(a:J<4):j0 4 R J:=by
 match R,hs with
 |0,_=>exact ajz a
 |1,_=>exact ajW a
 |2,_=>exact akj a
 |3,_=>exact akk a
def aoD(hs:R<4)(a:J<3):mg 4 R J:=by
 match R,hs,J,a with
 |0,_,0,_|0,_,1,_|0,_,2,_|1,_,0,_|1,_,1,_|1,_,2,_|2,_,0,_|2,_,1,_|2,_,2,_|3,_,0,_|3,_,1,_|3,_,2,_=>exact⟨λD O n b gn c f Z=>ae⟩
def aoE(hs:R<4):xM 4 R 3:=by
 match R,hs with
 |0,_|1,_|2,_|3,_=>exact⟨λD O n a gn c b f Z=>⟨ae,ae,ae,ae,ae⟩⟩
def av6(hs:R<4):FE 4 R where
 e0 D O n a d:=ae
 b0 D O n:=⟨⟨ae,ae,ae,ae,ae⟩,ae⟩
 h0 D O n:=ae
 e1 D O n a d:=ae
 c1 D O n:=⟨ae,ae,ae⟩
 e2 D O n x a d:=ae
 c2 D O n x:=⟨ae,ae⟩
 e3 D O n c gn x:=by
  match R,hs with
  |0,_|1,_|2,_|3,_=>intro a d;kernel_rfl
 r0 D O n c gn x:=by
  match R,hs with
  |0,_|1,_|2,_|3,_=>show _=_;kernel_rfl
 round r b:=ann hs b
 next r b:=aoD hs ab
 last r b:=by
  obtain rfl:r=3:=ab;exact aoE hs
def akn(b:R<5):j0 5 0 R:=by
 match R,b with
 |0,_|1,_|2,_|3,_|4,_=>exact⟨λD f=>⟨ae,ae⟩,λD O n a gn c f Z e d=>ae,λD O n a gn c f Z=>ae,λD c f=>⟨ae,ae,ae⟩,λD O n a gn c g f Z e d=>ae⟩
def ako(b:R<5):j0 5 1 R:=by
 match R,b with
 |0,_|1,_|2,_|3,_|4,_=>exact⟨λD f=>⟨ae,ae⟩,λD O n a gn c f Z e d=>ae,λD O n a gn c f Z=>ae,λD c f=>⟨ae,ae,ae⟩,λD O n a gn c g f Z e d=>ae⟩
def akq(b:R<5):j0 5 2 R:=by
 match R,b with
 |0,_|1,_|2,_|3,_|4,_=>exact⟨λD f=>⟨ae,ae⟩,λD O n a gn c f Z e d=>ae,λD O n a gn c f Z=>ae,λD c f=>⟨ae,ae,ae⟩,λD O n a gn c g f Z e d=>ae⟩
def akv(b:R<5):j0 5 3 R:=by
 match R,b with
 |0,_|1,_|2,_|3,_|4,_=>exact⟨λD f=>⟨ae,ae⟩,λD O n a gn c f Z e d=>ae,λD O n a gn c f Z=>ae,λD c f=>⟨ae,ae,ae⟩,λD O n a gn c g f Z e d=>ae⟩
def akS(b:R<5):j0 5 4 R:=by
 match R,b with
 |0,_|1,_|2,_|3,_|4,_=>exact⟨λD f=>⟨ae,ae⟩,λD O n a gn c f Z e d=>ae,λD O n a gn c f Z=>ae,λD c f=>⟨ae,ae,ae⟩,λD O n a gn c g f Z e d=>ae⟩
def ano(hs:R<5)(a:J<5):j0 5 R J:=by
 match R,hs with
 |0,_=>exact akn a
 |1,_=>exact ako a
 |2,_=>exact akq a
 |3,_=>exact akv a
 |4,_=>exact akS a
def aoF(hs:R<5)(a:J<4):mg 5 R J:=by
 match R,hs,J,a with
 |0,_,0,_|0,_,1,_|0,_,2,_|0,_,3,_|1,_,0,_|1,_,1,_|1,_,2,_|1,_,3,_|2,_,0,_|2,_,1,_|2,_,2,_|2,_,3,_|3,_,0,_|3,_,1,_|3,_,2,_|3,_,3,_|4,_,0,_|4,_,1,_|4,_,2,_|4,_,3,_=>exact⟨λD O n b gn c f Z=>ae⟩
def aoG(hs:R<5):xM 5 R 4:=by
 match R,hs with
 |0,_|1,_|2,_|3,_|4,_=>exact⟨λD O n a gn c b f Z=>⟨ae,ae,ae,ae,ae⟩⟩
def av7(hs:R<5):FE 5 R where
 e0 D O n a d:=ae
 b0 D O n:=⟨⟨ae,ae,ae,ae,ae⟩,ae⟩
 h0 D O n:=ae
 e1 D O n a d:=ae
 c1 D O n:=⟨ae,ae,ae⟩
 e2 D O n x a d:=ae
 c2 D O n x:=⟨ae,ae⟩
 e3 D O n c gn x:=by
  match R,hs with
  |0,_|1,_|2,_|3,_|4,_=>intro a d;kernel_rfl
 r0 D O n c gn x:=by
  match R,hs with
  |0,_|1,_|2,_|3,_|4,_=>show _=_;kernel_rfl
 round r b:=ano hs b
 next r b:=aoF hs ab
 last r b:=by
  obtain rfl:r=4:=ab;exact aoG hs
def aoH(a:2<=R)(b:R<=5)(hs:J<R):FE R J:=by
 obtain rfl|rfl|rfl|rfl:R=2\/R=3\/R=4\/R=5:=ab
 .exact av4 hs
 .exact av5 hs
 .exact av6 hs
 .exact av7 hs
def agI(np s:Nat)(D:jB)(dl:Int):∀r,bS np s D dl r=cmV D.pn np s dl r
 |0=>rfl
 |r+1=>by
  rw[bS,agI np s D dl r,cmV];rfl
def aoI(np s:Nat)(D:jB)(dl:Int)(r j:Nat)(a:j<5):(cG np s D r (bS np s D dl r))[j]?=e7 (lm kw (vsV D.pn np s dl r j)):=by
 rw[agI];obtain rfl|rfl|rfl|rfl|rfl:j=0\/j=1\/j=2\/j=3\/j=4:=ab
 all_goals rfl
def akV(h:UQ R J O q C L Y)(l:R<=3)(m:1<=J)(d:∀k,k<R->q k<J):∃cs:Array aT,Y.heap[L.heap.size+1]?=e7 (nl cs 138)/\s7 O.pn J q C R 0 cs:=by
 obtain⟨cs,hb,hcs⟩:=h.tb;have cell:∀o,f6 Y ⟨L.heap.size+1,o,e8⟩=cs[o]?:=λo=>by
  simp only[f6,hb];rfl
 refine⟨cs,hb,hcs,λk r j a b=>?_,λo e f=>?_⟩
 .obtain⟨a,g⟩:k<R/\r<J:=by rcases a with h|h<;>omega
  have:=(h.rows k a).put r g j b;rw[<-cell,<-aoI J (q k) O (C k) r j b];exact this
 .rw[<-cell]
  rcases Nat.lt_or_ge o (R*25) with c|c
  .have a:o / 25<R:=ab;by_cases i:o % 25 / 5<J
   .exfalso;refine f (o / 25) (abe J (q (o / 25)) (o % 25 / 5)) (nt ⟨a,aav ab⟩) ?_;unfold aiL;rw[ahF i (d _ a)];omega
   .exact(h.rows _ a).rest o ⟨ab,ab,ab⟩ (nV ab)
  .exact h.rest o c e
def amc(h:UQ 0 1 O q C L Y)(b:Nat->Nat->Int)(np:Nat)(c:Nat->Nat)(a:Nat->Int):∃cs:Array aT,Y.heap[L.heap.size+1]?=e7 (nl cs 138)/\s7 b np c a 0 0 cs:=by
 obtain⟨cs,hb,hcs⟩:=h.tb;have cell:∀o,f6 Y ⟨L.heap.size+1,o,e8⟩=cs[o]?:=λo=>by
  simp only[f6,hb];rfl
 exact⟨cs,hb,s7.zero hcs λo d=>by rw[<-cell];exact h.rest o ab d⟩
def MX{ρ:Ren}{l:List aT}(h:∀v∈l,∃n,v=lm kw n):cU FF ρ l l:=by
 induction l with
 |nil=>exact .nil
 |cons v l a=>
  obtain⟨n,e⟩:=h v ar;subst e;exact .cons (.int _ _) (a λu b=>h u (by simp[b]))
def amd{a:Nat->Nat->Int}{G:Nat}(h:s7 a J q C G R M):∀v∈M.toList,∃n,v=lm kw n:=by
 intro v hv;obtain⟨o,b⟩:=List.mem_iff_getElem?.1 hv;have hl:=(cQ.1 b).1;obtain⟨n,e⟩:=h.int (o:=o) (by have:=h.size;simpa[this]using hl);grind
def MY{P:bj}{g a:aL}(h:cy P R g L a Y)(b:g.callers.length≠a.callers.length):∃m,R=m+1:=by
 cases R with
 |zero=>cases h;exact absurd rfl b
 |succ m=>exact⟨m,rfl⟩
def MZ(h:undef=lp M):False:=by cases h
def U2(f:ac)(R:aT->aF->Prop):BD gp cY.funcs gt FF XX ZZ (lQ PC f R):=by
 intro x u ρ a I c V l W w w' gs X t q j hI C ha hc sB ht hi B E lS;obtain rfl:x=61:=by simpa[XX]using u
 obtain⟨H,r,e0,eN,eE⟩:=ZU a;have Y:he (⟨gp,cY.funcs⟩:bj) 61 a oh=⟨61,⟨(fb 98).map H++r⟩,[qi sU],[],ov,oh,e8⟩:=eE;have hcs:2<=(c::(l++[aX PC])).length:=ar;have Z:Wy f R (fH (he PC 61 a oh) (c::l++[aX PC])) w (fH (he PC 61 a oh) (c::l++[aX PC])) w:=⟨ht,hi,0,.zero _ _⟩
 have akX:Wy f R (fH (he PC 61 a oh) (c::l++[aX PC])) w (St H r [qi sU] (c::(l++[aX PC]))) w:=by
  have:St H r [qi sU] (c::(l++[aX PC]))=fH (he PC 61 a oh) (c::l++[aX PC]):=by
   unfold St;rw[<-Y];rfl
  rw[this];exact Z
 have akZ:∃P:aT,VR FF ρ (H 0) P/\(∀y,P=lp y->I[0]?=e7 P):=by
  rcases VA.get? ha 0 with⟨g1,g2⟩|⟨v,v',g1,g2,hv⟩
  .have ea:a=#[]:=by
    grind
   rw[eN ea];exact⟨undef,.undef,λy hy=>(MZ hy).elim⟩
  grind
 obtain⟨P,hv0,zE⟩:=akZ;obtain⟨T,H',Q,hS,⟨K,U,hz,hp⟩,akY⟩:=aoy hcs C hv0 akX;obtain⟨cur,w2,p,L,way⟩:=aot hcs Q hS akY;have J:∀{a b},ρ a b->a<w.heap.size/\b<w'.heap.size:=λh=>C.lt h;have Xf:∀l,j l->l.low w'.heap.size/\l.isMemory=fO:=λl hl=>by
  refine⟨?_,E.mem l hl⟩
  cases l with
  |cell a=>exact(E.cell a hl).1
  |obj b=>exact(E.obj b hl).1
  |_=>trivial
 have Cu:=Q.lo;obtain⟨n,np,D,S,dl,N,z,w1,M,t1,q1,k1,k2,k3,k4,k5,k6,s,cs,htb,arf⟩:∃(n np:Nat)(D:jB)(S:Nat->Nat)(dl:Nat->Int)(N:Nat)(z:Array aL)(w1:aF)(M:Option (Nat×Nat))(t1:c8)(q1:Nat->Nat),runNT PP N (crowd gs w' X) t=(.next (crowd z w1 M),t1)/\gs.size<=z.size/\
  z[0]?=e7 (G (hm V (lR (e7 ⟨w'.heap.size+1,0,e8⟩))) W)/\i2 PP t1 z q1/\i0 (λl=>j l\/OZ (zL j w'.heap.size n) l) w1.heap.size t1/\(∀op∈t1,z.size<=op.g->op.act.touch? = e8)/\UQ n np D S dl w' w1/\
  ∃cs:Array aT,w1.heap[w'.heap.size+1]?=e7 (nl cs 138)/\s7 T.pn T.np T.S T.dl T.n 0 cs:=by
  rcases cd T.n with A|A
  .obtain⟨sa,cg,h5⟩:=hz A;obtain⟨jf,jr,eA⟩:=US (ca:=K) (by rw[<-U];exact zE _ U);have F:gs[0]?=e7 (G (fE (CA.mk K jf jr)) (V::W)):=by
    have:=B.main;rw[<-eA];exact this
   obtain⟨N,z,w1,M,t1,q1,k1,k2,k3,k4,k5,k6,s⟩:=agD (sl:=X) h5 Xf F B.old B.GA B.num;have av8:∃cs:Array aT,w1.heap[w'.heap.size+1]?=e7 (nl cs 138)/\s7 T.pn T.np T.S T.dl T.n 0 cs:=by
    rw[A];exact amc s T.pn T.np T.S T.dl
   grind
  .obtain⟨D,gn,eD,cf,epn,Ht⟩:=hp A;subst eD;obtain⟨jf,jr,eA⟩:=US (ca:=cA T.np D) (by rw[<-U];exact zE _ U);have hSb:∀b∈dR T.np D,∀I:aP,I.block=b->¬j (ob I):=λb hb I e hs=>by
    obtain⟨r,d⟩:=Ht b hb;exact(E.cell I hs).2 r (by rw[e];exact d)
   have F:gs[0]?=e7 (G (fE (CA.mk (cA T.np D) jf jr)) (V::W)):=by
    have:=B.main;rw[<-eA];exact this
   obtain⟨N,z,w1,M,t1,q1,k1,k2,k3,k4,k5,k6,s⟩:=MU (sl:=X) A cf (λk hk=>aoH Cu.1 Cu.2.1 (Q.st k hk)) Xf hSb F B.old B.GA B.num;have av8:=akV s Cu.2.2 ab Q.st;grind
 obtain rfl:cs=cur:=arf.uniq L;have U3:∀b,¬ρ w.heap.size b:=λb h=>absurd (J h).1 (dt _);have JY:∀n,w'.heap.size<=n->∀a,¬ρ a n:=λn A a h=>by have:=(J h).2;omega
 have fW:=s.size;obtain⟨n,A⟩:=way.chain;obtain⟨m,rfl⟩:=MY A ar
 refine⟨N,ρ.ext w.heap.size (w'.heap.size+1),lR (e7 ⟨w.heap.size,0,e8⟩),lR (e7 ⟨w'.heap.size+1,0,e8⟩),w2,w1,z,M,t1,q1,_,k1,⟨k3,k4,k5,k6⟩,⟨λx u=>?_,λb hb=>?_,λx u=>?_⟩,.ptr ⟨Ren.IW _ _ _,rfl,rfl⟩,hI.ext U3 (JY _ ab) C.pK (by have:=C.gN;omega),⟨?_,by have:=C.gN;omega,λ{r r'}d=>?_⟩,
  ⟨Ren.kW _ _ _,λa b h=>?_,λa b h i hh=>⟨?_,by unfold f6;rw[s.kept b (J h).2]⟩⟩,⟨s.tape,s.os,s.output,ab,λb hb _=>s.kept b hb⟩,⟨m,w.tape,w.drawn,A⟩,way.inv,?_⟩
 .rcases u with u|⟨y,hy,hb⟩
  .obtain⟨h1,O⟩:=E.cell x u;refine⟨ab,λr d=>?_⟩
   rcases d with d|⟨_,e⟩
   .exact O r d
   .omega
  .cases hy;have jH:x.block=w'.heap.size+3\/x.block=w'.heap.size+4:=hb;refine⟨ab,λr d=>?_⟩
   rcases d with d|⟨_,e⟩
   .grind
   .omega
 .rcases hb with hb|⟨y,hy,_⟩
  .obtain⟨h1,O⟩:=E.obj b hb;refine⟨ab,λr d=>?_⟩
   rcases d with d|⟨_,e⟩
   .exact O r d
   .omega
  .cases hy
 .rcases u with u|⟨y,hy,_⟩
  .exact E.mem x u
  .subst hy;rfl
 .have:=C.pK;rw[p.size];omega
 .rcases d with d|⟨rfl,rfl⟩
  .obtain⟨o,o',h1,O,h3⟩:=C.obj d;refine⟨o,o',?_,?_,h3.mono (Ren.kW _ _ _)⟩
   .rw[p.old _ (J d).1];exact h1
   .rw[s.kept _ (J d).2];exact O
  .exact⟨_,_,p.tb,htb,.cells _ _ (MX (amd L))⟩
 .rcases h with h|⟨rfl,rfl⟩
  .exact nt h
  grind
 .obtain⟨v,hv,hu⟩:=hh;exact⟨v,(p.cell (J h).1).y.t hv,hu⟩
 .rw[p.size];omega
end Go.Proofs
