/- FieldAllowed: for every course, sets and draws the function FieldAllowed of the given program returns true, and what its arguments read reads behind the call as before. Conditions: those of the given row: calm tape, company of leaving goroutines, outside nothing kept but the passing of time; whatever the world holds besides; every order of the regions that draw one, every schedule. -/
import Derived.Test.YtbjbbfdekalacaaGreatX08
import Derived.Test.YtbjbbfdekalacaaGreatRows
set_option linter.all false
open Go.Proofs.Tryz renaming prog->aa,underlying34->ac,underlying28->ad,f3->ag,underlying5->ai,underlying29->aF,func3->aH,checked->aI
open Go renaming World->aJ,TypeId->aL,Value->aP,MemPlace->aT
open Go.IntKind renaming min->a7,max->a8,signed->a9,bits->bb,u8->bd,u16->bi,i64->bj
open Go.Value renaming okWide->bm,int->bq,slice->bu
open Go.ChangeShapes renaming trodAll_cons->bv,open_int->bC,shut_int->bL
namespace Go.Proofs.YtbjbbfdekalacaaGreat
open Go.ChangeShapes Go.WideShapes Go.ChangeAt Go.RowKit Go.Conc Go.ConcM Go.bJ
def Tryz.own:ownKnob Tryz.prog.godebug=none:=ae
def Tryz.laidOut:laidOutB aa=true:=ae
def SV:Tryz.prog.globals.size<(begin aa (λ_ _=>0) default).world.heap.size:=of_decide_eq_true ae
def Fw{W:aJ}(h:W.ShapedOpen aa):Tryz.progTables.globals.size<=W.heap.size:=by
 obtain⟨_,a⟩:=h;obtain⟨o,_,e,_⟩:=a _ (Nat.le_refl _) SV;exact Nat.le_of_lt (bE e)
set_option maxRecDepth 100000 in
def agp{f:FuncId}(h:45≠f):cY.funcs[f]?=Tryz.funcs[f]?:=by
 show(Tryz.funcs.setIfInBounds 45 nS)[f]?=_;rw[Array.getElem?_setIfInBounds_ne h]
section
variable {H:Type}{enc:aL×aP->H}{P:Program}{w:aJ}{base:Nat}{spare:Nat->Bool}{held:Bool}
def s7{t:aL}{v:aP}{d:DataW H}{p:List aT}{ts:List aL}{vs:List aP}{ds:List (DataW H)}{ps:List aT}(h:DataW.Trod enc P w base spare held t v d p)(a:DataW.TrodAll enc P w base spare held ts vs ds ps) :
 DataW.TrodAll enc P w base spare held (t::ts) (v::vs) (d::ds) (p++ps):=⟨p,ps,h,a,rfl⟩
end
def wf8{n:Int}(h:(Lit.int bd n).wf=true):0<=n/\n<=255:=by
 simp[Lit.wf,a7,a8,a9,bb]at h;omega
def aob{n:Int}(h:(Lit.int bi n).wf=true):0<=n/\n<=65535:=by
 simp[Lit.wf,a7,a8,a9,bb]at h;omega
end Go.Proofs.YtbjbbfdekalacaaGreat
namespace Go.Proofs
open Go.bJ Go.Deep Go.RowKit
set_option maxRecDepth 100000
section
variable {H:Type}{enc:aL×aP->H}{W:aJ}
def ahj:Tryz.prog.cellsOf 34=2:=ae
def afL(n:Int):rep FF W (bq bj n)=bq bj n:=(oy FF W _).int _ _ rfl
def aez{cs:List aP}(h:Td enc W 34 cs):pF cs 0/\pF cs 1:=⟨kC (h.field ac (i:=0) rfl),kC (h.field ac (i:=1) rfl)⟩
def aeB{u:aP}(h:Td enc W 28 [u]):∃ps,∀w:aJ,w.heap=(cV FF W).heap->abg w (rep FF W u) ps:=by
 obtain⟨b,n,c,k,o,e,q,r,al⟩:=kD ad ahj ao h;obtain⟨a,g⟩:∃a:Nat->Int×Int,∀j,j<n->∀w:aJ,w.heap=(cV FF W).heap->w.cell? ⟨k,o+j*2,none⟩=some (bq bj (a j).1)/\w.cell? ⟨k,o+j*2+1,none⟩=some (bq bj (a j).2):=choose_lt (p:=λj(m:Int×Int)=>∀w:aJ,w.heap=(cV FF W).heap->w.cell? ⟨k,o+j*2,none⟩=some (bq bj m.1)/\w.cell? ⟨k,o+j*2+1,none⟩=some (bq bj m.2)) λj d=>by
  obtain⟨cs,s,l⟩:=al j d;obtain⟨⟨x,t⟩,⟨y,hy⟩⟩:=aez s;exact⟨(x,y),λw f=>⟨by have:=l 0 _ ao t w f;rw[afL]at this;exact this,by have:=l 1 _ ao hy w f;rw[afL]at this;exact this⟩⟩
 refine⟨(List.range n).map a,λw f=>⟨b,c,by rw[e];simp,λv=>?_⟩⟩;have i:0<n:=by simpa using v
 refine⟨k,o,q i,by rw[f];exact r,λj d=>?_⟩;have d:j<n:=by simpa using d
 have:=g j d w f;have e:((List.range n).map a).getD j (0,0)=a j:=by simp[List.getD_eq_getElem?_getD,d]
 rw[e];exact this
end
end Go.Proofs
namespace Go.Proofs.YtbjbbfdekalacaaGreat
open Go.ChangeShapes Go.WideShapes Go.ChangeAt Go.RowKit Go.Conc Go.ConcM Go.bJ
section
variable {H:Type}{enc:aL×aP->H}
set_option maxRecDepth 100000 in
def aoq{W:aJ}(hG:Tryz.progTables.globals.size<=W.heap.size)(lS:Calm W.tape){args:Array aP}{ds gs:List (DataW H)}{before:List aT}
 (hval:∀(j:Nat)t v,Tryz.f3.params[j]?=some t->args[j]?=some v->bm aa W .any W.heap.size t v)
 (hW:DataW.Whole enc aa Tryz.f3.params.toList Rows.fieldAllowedSpec.vars false W args.toList ds gs before) :
 ∃M last o w' t',runNT aa (M+1) (solo (G (Frame.enter aa 3 args .normal) []) W) #[]=(.ended o w',t')/\runN aa M (solo (G (Frame.enter aa 3 args .normal) []) W)=.next last/\step aa last=.ended o w'/\
  Go.Conc.Good aa (λv W'=>Rows.fieldAllowedSpec.post enc aa ag false true false false W args v { W' with os:=W.os }/\OsLater W.os W'.os) last o w' t':=by
 have hW':=hW;obtain⟨p,q,hA0,hV,rfl,_,_⟩:=hW;have hA:DataW.TrodAll enc aa W 0 (λ_=>true) true Tryz.f3.params.toList args.toList ds p:=hA0;rw[Tryz.params3]at hA hval;obtain⟨v0,r0,d0,e0,p0,q0,MW,rfl,rfl,h0,hA0⟩:=bv hA;obtain⟨v1,r1,d1,e1,p1,q1,GM,rfl,rfl,h1,hA1⟩:=bv hA0;subst GM;obtain⟨v2,r2,d2,e2,p2,q2,Tk,rfl,rfl,h2,hA2⟩:=bv hA1;subst Tk;obtain⟨v3,r3,d3,e3,p3,q3,Q8,rfl,rfl,h3,hA3⟩:=bv hA2;subst Q8;obtain⟨v4,r4,d4,e4,p4,q4,hr4,rfl,rfl,h4,hA4⟩:=bv hA3;subst hr4;obtain⟨v5,r5,d5,e5,p5,q5,hr5,rfl,rfl,h5,hA5⟩:=bv hA4;subst hr5;obtain⟨v6,r6,d6,e6,p6,q6,hr6,rfl,rfl,h6,hA6⟩:=bv hA5;subst hr6;obtain⟨rfl,rfl,rfl⟩:=trodAll_nil hA6;obtain rfl:args=#[v0,v1,v2,v3,v4,v5,v6]:=by cases args;simp_all
 obtain⟨rfl,rfl⟩:=trodVars_none hV;obtain⟨n2,rfl,rfl,rfl,b2⟩:=bC ai (hval 2 5 v2 rfl rfl) h2;obtain⟨n3,rfl,rfl,rfl,b3⟩:=bC ai (hval 3 5 v3 rfl rfl) h3;obtain⟨n4,rfl,rfl,rfl,b4⟩:=bC ai (hval 4 5 v4 rfl rfl) h4;obtain⟨n5,rfl,rfl,rfl,b5⟩:=bC aF (hval 5 29 v5 rfl rfl) h5;obtain⟨n6,rfl,rfl,rfl,b6⟩:=bC aF (hval 6 29 v6 rfl rfl) h6;obtain⟨cs,rfl,_⟩:∃cs,v0=.agg cs/\_:=by
  have:=hval 0 27 v0 rfl rfl;unfold bm at this;rw[Tryz.underlying27]at this;exact this
 have WB:=h0;have acY:∀x∈p0,x.block<W.heap.size:=λx hx=>hW'.lt x (by simp[hx]);obtain⟨fuel,hf⟩:=h0;obtain⟨C,hC,hM⟩:=EJ (enc:=enc) (W:=W) (cs:=cs.toList) ⟨fuel,_,hf⟩;have am5:v1.cells.toList=[v1]:=by
  have h:Cell.okWide aa W .any W.heap.size 28 v1:=hval 1 28 v1 rfl rfl;cases v1<;>first|rfl|(exfalso;revert h;simp[Cell.okWide,Cell.ok,ad];done)
 have zz:=h1;have asx:∀x∈p1,x.block<W.heap.size:=λx hx=>hW'.lt x (by simp[hx]);obtain⟨aor,lR⟩:=h1;rw[am5]at lR;obtain⟨ps,hU⟩:=aeB (enc:=enc) (W:=W) (u:=v1) ⟨aor,_,lR⟩;have hva:VA FF (ox W) #[.agg C.val,rep FF W v1,bq bd n2,bq bd n3,bq bd n4,bq bi n5,bq bi n6] #[.agg cs,v1,bq bd n2,bq bd n3,bq bd n4,bq bi n5,bq bi n6]:=by
  refine .cons (.agg ?_) (.cons (oy FF W v1).vr (.cons (.int _ _) (.cons (.int _ _) (.cons (.int _ _) (.cons (.int _ _) (.cons (.int _ _) .nil))))));rw[hC];exact Je _
 obtain⟨M,last,o,w',t',e1,e2,e3,v,e,⟨rfl,agq,YM⟩,g1,g2,g3,g4⟩:=U6 (f:=3) (fn:=ag) (tr:=14) ao rfl ae ((agp ao).trans aH) aH Tryz.results3 hG lS hva
  (λw hw=>acz IV C ps _ n2 n3 n4 n5 n6 w (hM w hw) (wf8 b2) (wf8 b3) (wf8 b4) (aob b5) (aob b6) (hU w hw))
 refine⟨M,last,o,w',t',e1,e2,e3,_,e,⟨?_,YM⟩,g1,g2,g3,g4⟩;exact⟨_,_,_,[],_,[],hW',trodAll_mk1 (shut_bool Tryz.underlying4 _),s7 (Below.trod Tryz.laidOut ae (of_decide_eq_true ae) WB agq acY) (s7 (Below.trod Tryz.laidOut ae (of_decide_eq_true ae) zz agq asx) (s7 (bL ai b2) (s7 (bL ai b3) (s7 (bL ai b4) (s7 (bL aF b5) (s7 (bL aF b6) (trodAll_mk0))))))),rfl,agq.frame _,bs⟩
set_option maxRecDepth 100000 in
def aam(os:Os)(started:os.Started)(F:Stop.Interp) :
 ReturnsInLeavingWide Rows.fieldAllowedRow.assume aI os 3 .any (Rows.fieldAllowedSpec.pre6 enc aa ag Rows.fieldAllowedRow.domain false) ((OpenSpec.ofChange Rows.fieldAllowedSpec).postWith enc aa ag F (outsideKept [.timePasses]) false true false):=by
 refine returnsInLeavingWide_of_good (C:=aI) Tryz.own started
  (ChangeSpec.witness6c (enc:=enc) (C:=aI) ⟨#[],#[.agg #[bq bj 0,bq bj 0,bu none 0 0,bu none 0 0,bu none 0 0,bu none 0 0],bu none 0 0,bq bd 0,bq bd 0,bq bd 0,bq bi 0,bq bi 0],[]⟩ 8 ae ae ae ae) ?_
 intro w tape i _ nV _ Ag Nw abb;obtain⟨_,_,_,dL,amt,_,_,_,_,hval⟩:=Ag;obtain rfl:dL=ag:=Option.some.inj (amt.symm.trans aH);obtain⟨⟨ds,gs,before,hw,_⟩,_⟩:=Nw;have qu:=DataW.Whole.of_heap (w':=w.forCall tape i) (by rfl) hw;have hG:=Fw nV;have lS:Calm (w.forCall tape i).tape:=abb.2.1 rfl;obtain⟨M,last,o,w2,t2,h1,h2,h3,v,e,hp,r1,r2,r3,r4⟩:=aoq hG lS (λj t v ht hv=>hval j t v ht hv) qu;exact⟨M,last,o,w2,t2,h1,h2,h3,v,e,postWith_blind (postWith_of_post hp.1 hp.2),r1,r2,r3,r4⟩
end
theorem fieldAllowed_holds:Rows.FieldAllowedSaid:=
 OpenClaim.holds_of_wide_leaving_time 3 ag rfl rfl rfl rfl rfl rfl rfl ⟨rfl,rfl,rfl,rfl,rfl⟩ rfl rfl rfl rfl rfl ae aH ae
  (of_decide_eq_true ae) (by unfold Func.isWrapper;first|(rw[if_pos (by decide +kernel)];kernel_rfl)|(rw[if_neg (by decide +kernel)];exact⟨rfl,rfl⟩))
  (λa started H enc _ F=>aam a started F)
end Go.Proofs.YtbjbbfdekalacaaGreat
