/- FieldAnyOrder: for every course, turn, point and minute the given function FieldAnyOrder returns true and leaves what its arguments read. Conditions: the given row's: calm tape, leaving company, only time passes outside; any order of drawn regions, any schedule. -/
import Derived.Test.YtnflmiiljmmciaaGreatV08
import Derived.Test.YtnflmiiljmmciaaGreatRows
set_option linter.all false
open Go.Proofs.Tryz renaming prog->aa,f3->ac,underlying5->ad,underlying28->ag,func3->ai,checked->aF
open Go.IntKind renaming min->aH,max->aI,signed->aJ,bits->aL
open Go.Value renaming okWide->aP,int->aT,slice->a7
namespace Go.Proofs.YtnflmiiljmmciaaGreat
open Go.ChangeShapes Go.WideShapes Go.ChangeAt Go.RowKit Go.Conc Go.ConcM Go.bJ
def Tryz.own:ownKnob Tryz.prog.godebug=none:=ae
def Tryz.laidOut:laidOutB aa=true:=ae
def SV:Tryz.prog.globals.size<(begin aa (λ_ _=>0) default).world.heap.size:=of_decide_eq_true ae
def Fw{W:World}(h:W.ShapedOpen aa):Tryz.progTables.globals.size<=W.heap.size:=by
 obtain⟨_,a⟩:=h;obtain⟨o,_,e,_⟩:=a _ (Nat.le_refl _) SV;exact Nat.le_of_lt (bE e)
set_option maxRecDepth 100000 in
def agp{f:FuncId}(h:29≠f):cY.funcs[f]?=Tryz.funcs[f]?:=by
 show(Tryz.funcs.setIfInBounds 29 nS)[f]?=_;grind
section
variable {H:Type}{enc:TypeId×Value->H}{P:Program}{w:World}{base:Nat}{spare:Nat->Bool}{held:Bool}
def EC{t:TypeId}{v:Value}{d:DataW H}{p:List MemPlace}{ts:List TypeId}{vs:List Value}{ds:List (DataW H)}{ps:List MemPlace}(h:DataW.Trod enc P w base spare held t v d p)(a:DataW.TrodAll enc P w base spare held ts vs ds ps) :
 DataW.TrodAll enc P w base spare held (t::ts) (v::vs) (d::ds) (p++ps):=⟨p,ps,h,a,rfl⟩
end
def wf8{n:Int}(h:(Lit.int .u8 n).wf=true):0<=n/\n<=255:=by
 simp[Lit.wf,aH,aI,aJ,aL]at h;omega
def au0{n:Int}(h:(Lit.int .u16 n).wf=true):0<=n/\n<=65535:=by
 simp[Lit.wf,aH,aI,aJ,aL]at h;omega
section
variable {H:Type}{enc:TypeId×Value->H}
set_option maxRecDepth 100000 in
def apX{W:World}(hG:Tryz.progTables.globals.size<=W.heap.size)(lS:Calm W.tape){args:Array Value}{ds gs:List (DataW H)}{before:List MemPlace}
 (hval:∀(j:Nat)t v,Tryz.f3.params[j]?=some t->args[j]?=some v->aP aa W .any W.heap.size t v)
 (hW:DataW.Whole enc aa Tryz.f3.params.toList Rows.fieldAnyOrderSpec.vars false W args.toList ds gs before) :
 ∃M last o w' t',runNT aa (M+1) (solo (G (Frame.enter aa 3 args .normal) []) W) #[]=(.ended o w',t')/\runN aa M (solo (G (Frame.enter aa 3 args .normal) []) W)=.next last/\step aa last=.ended o w'/\
  Go.Conc.Good aa (λv W'=>Rows.fieldAnyOrderSpec.post enc aa ac false true false false W args v { W' with os:=W.os }/\OsLater W.os W'.os) last o w' t':=by
 have hW':=hW;obtain⟨p,q,hA0,hV,rfl,_,_⟩:=hW;have hA:DataW.TrodAll enc aa W 0 (λ_=>true) true Tryz.f3.params.toList args.toList ds p:=hA0;rw[Tryz.params3]at hA hval;obtain⟨v0,r0,d0,e0,p0,q0,MW,rfl,rfl,h0,hA0⟩:=trodAll_cons hA;obtain⟨v1,r1,d1,e1,p1,q1,GM,rfl,rfl,h1,hA1⟩:=trodAll_cons hA0;subst GM;obtain⟨v2,r2,d2,e2,p2,q2,Tk,rfl,rfl,h2,hA2⟩:=trodAll_cons hA1;subst Tk;obtain⟨v3,r3,d3,e3,p3,q3,Q8,rfl,rfl,h3,hA3⟩:=trodAll_cons hA2;subst Q8;obtain⟨rfl,rfl,rfl⟩:=trodAll_nil hA3;obtain rfl:args=#[v0,v1,v2,v3]:=by cases args;simp_all
 obtain⟨rfl,rfl⟩:=trodVars_none hV;obtain⟨n1,rfl,rfl,rfl,b1⟩:=open_int ad (hval 1 5 v1 rfl rfl) h1;obtain⟨n2,rfl,rfl,rfl,b2⟩:=open_int ad (hval 2 5 v2 rfl rfl) h2;obtain⟨n3,rfl,rfl,rfl,b3⟩:=open_int ag (hval 3 28 v3 rfl rfl) h3;obtain⟨cs,rfl,_⟩:∃cs,v0=.agg cs/\_:=by
  have:=hval 0 27 v0 rfl rfl;unfold aP at this;rw[Tryz.underlying27]at this;exact this
 have WB:=h0;have acY:∀x∈p0,x.block<W.heap.size:=λx hx=>hW'.lt x (by simp[hx]);obtain⟨fuel,hf⟩:=h0;obtain⟨C,hC,hM⟩:=EJ (enc:=enc) (W:=W) (cs:=cs.toList) ⟨fuel,_,hf⟩;have hva:VA FF (ox W) #[.agg C.val,aT .u8 n1,aT .u8 n2,aT .u16 n3] #[.agg cs,aT .u8 n1,aT .u8 n2,aT .u16 n3]:=by
  refine .cons (.agg ?_) (.cons (.int _ _) (.cons (.int _ _) (.cons (.int _ _) .nil)));rw[hC];exact Je _
 obtain⟨M,last,o,w',t',e1,e2,e3,v,e,⟨rfl,agq,YM⟩,g1,g2,g3,g4⟩:=U6 (f:=3) (fn:=ac) (tr:=8) ao rfl ae ((agp ao).trans ai) ai Tryz.results3 hG lS hva
  (λw hw=>ad9 IV C n1 n2 n3 w (hM w hw) (wf8 b1) (wf8 b2) (au0 b3))
 refine⟨M,last,o,w',t',e1,e2,e3,_,e,⟨?_,YM⟩,g1,g2,g3,g4⟩;exact⟨_,_,_,[],_,[],hW',trodAll_mk1 (shut_bool Tryz.underlying4 _),EC (Below.trod Tryz.laidOut ae (of_decide_eq_true ae) WB agq acY) (EC (shut_int ad b1) (EC (shut_int ad b2) (EC (shut_int ag b3) (trodAll_mk0)))),rfl,agq.frame _,bs⟩
set_option maxRecDepth 100000 in
def N5(os:Os)(started:os.Started)(F:Stop.Interp) :
 ReturnsInLeavingWide Rows.fieldAnyOrderRow.assume aF os 3 .any (Rows.fieldAnyOrderSpec.pre6 enc aa ac Rows.fieldAnyOrderRow.domain false) ((OpenSpec.ofChange Rows.fieldAnyOrderSpec).postWith enc aa ac F (outsideKept [.timePasses]) false true false):=by
 refine returnsInLeavingWide_of_good (C:=aF) Tryz.own started
  (ChangeSpec.witness6c (enc:=enc) (C:=aF) ⟨#[],#[.agg #[aT .i64 0,aT .i64 0,a7 none 0 0,a7 none 0 0,a7 none 0 0,a7 none 0 0],aT .u8 0,aT .u8 0,aT .u16 0],[]⟩ 8 ae ae ae ae) ?_
 intro w tape i _ nV _ Ag Nw abb;obtain⟨_,_,_,dL,amt,_,_,_,_,hval⟩:=Ag;obtain rfl:dL=ac:=Option.some.inj (amt.symm.trans ai);obtain⟨⟨ds,gs,before,hw,_⟩,_⟩:=Nw;have qu:=DataW.Whole.of_heap (w':=w.forCall tape i) (by rfl) hw;have hG:=Fw nV;have lS:Calm (w.forCall tape i).tape:=abb.2.1 rfl;obtain⟨M,last,o,w2,t2,h1,h2,h3,v,e,hp,r1,r2,r3,r4⟩:=apX hG lS (λj t v ht hv=>hval j t v ht hv) qu;exact⟨M,last,o,w2,t2,h1,h2,h3,v,e,postWith_blind (postWith_of_post hp.1 hp.2),r1,r2,r3,r4⟩
end
theorem fieldAnyOrder_holds:Rows.FieldAnyOrderSaid:=
 OpenClaim.holds_of_wide_leaving_time 3 ac rfl rfl rfl rfl rfl rfl rfl ⟨rfl,rfl,rfl,rfl,rfl⟩ rfl rfl rfl rfl rfl ae ai ae
  (of_decide_eq_true ae) (by unfold Func.isWrapper;first|(rw[if_pos (by decide +kernel)];kernel_rfl)|(rw[if_neg (by decide +kernel)];exact⟨rfl,rfl⟩))
  (λa started H enc _ F=>N5 a started F)
end Go.Proofs.YtnflmiiljmmciaaGreat
