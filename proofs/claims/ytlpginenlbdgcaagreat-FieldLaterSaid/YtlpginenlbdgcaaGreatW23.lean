/- FieldLater: for every course, group and number of minutes the function FieldLater of the given program returns true, and what its arguments read reads behind the call as before. Conditions: those of the given row: calm tape, company of leaving goroutines, outside nothing kept but the passing of time; whatever the world holds besides; every order of the regions that draw one, every schedule. -/
import Derived.Test.YtlpginenlbdgcaaGreatW19
import Derived.Test.YtlpginenlbdgcaaGreatW22
set_option linter.all false
open Go.Proofs.Tryz renaming prog->aa,f4->ab,underlying5->ac,func4->ad,checked->ae
namespace Go.Proofs.YtlpginenlbdgcaaGreat
open Go.ChangeShapes Go.WideShapes Go.ChangeAt Go.RowKit Go.Conc Go.ConcM Go.bJ
section
variable {H:Type}{enc:TypeId×Value->H}
set_option maxRecDepth 100000 in
def asF{W:World}(hG:Tryz.progTables.globals.size<=W.heap.size)(lS:Calm W.tape){args:Array Value}{ds gs:List (DataW H)}{before:List MemPlace}
 (hval:∀(j:Nat)t v,Tryz.f4.params[j]?=some t->args[j]?=some v->Value.okWide aa W .any W.heap.size t v)
 (hW:DataW.Whole enc aa Tryz.f4.params.toList Rows.fieldLaterSpec.vars false W args.toList ds gs before) :
 ∃M last o w' t',runNT aa (M+1) (solo (G (Frame.enter aa 4 args .normal) []) W) #[]=(.ended o w',t')/\runN aa M (solo (G (Frame.enter aa 4 args .normal) []) W)=.next last/\step aa last=.ended o w'/\
  Go.Conc.Good aa (λv W'=>Rows.fieldLaterSpec.post enc aa ab false true false false W args v { W' with os:=W.os }/\OsLater W.os W'.os) last o w' t':=by
 have hW':=hW;obtain⟨p,q,hA0,hV,rfl,_,_⟩:=hW;have hA:DataW.TrodAll enc aa W 0 (λ_=>true) true Tryz.f4.params.toList args.toList ds p:=hA0;rw[Tryz.params4]at hA hval;obtain⟨v0,r0,d0,e0,p0,q0,MW,rfl,rfl,h0,hA0⟩:=trodAll_cons hA;obtain⟨v1,r1,d1,e1,p1,q1,GM,rfl,rfl,h1,hA1⟩:=trodAll_cons hA0;subst GM;obtain⟨v2,r2,d2,e2,p2,q2,Tk,rfl,rfl,h2,hA2⟩:=trodAll_cons hA1;subst Tk;obtain⟨rfl,rfl,rfl⟩:=trodAll_nil hA2;obtain rfl:args=#[v0,v1,v2]:=by cases args;simp_all
 obtain⟨rfl,rfl⟩:=trodVars_none hV;obtain⟨n1,rfl,rfl,rfl,b1⟩:=open_int ac (hval 1 5 v1 rfl rfl) h1;obtain⟨n2,rfl,rfl,rfl,b2⟩:=open_int ac (hval 2 5 v2 rfl rfl) h2;obtain⟨cs,rfl,_⟩:∃cs,v0=.agg cs/\_:=by
  have:=hval 0 27 v0 rfl rfl;unfold Value.okWide at this;rw[Tryz.underlying27]at this;exact this
 have WB:=h0;have acY:∀x∈p0,x.block<W.heap.size:=λx hx=>hW'.lt x (by simp[hx]);obtain⟨fuel,hf⟩:=h0;obtain⟨C,hC,hM⟩:=EJ (enc:=enc) (W:=W) (cs:=cs.toList) ⟨fuel,_,hf⟩;have hva:VA FF (ox W) #[.agg C.val,.int .u8 n1,.int .u8 n2] #[.agg cs,.int .u8 n1,.int .u8 n2]:=by
  refine .cons (.agg ?_) (.cons (.int _ _) (.cons (.int _ _) .nil));rw[hC];exact Je _
 obtain⟨M,last,o,w',t',e1,e2,e3,v,e,⟨rfl,agq,YM⟩,g1,g2,g3,g4⟩:=U6 (f:=4) (fn:=ab) (tr:=6) (by decide) rfl (by kernel_rfl) ((agp (by decide)).trans ad) ad Tryz.results4 hG lS hva
  (λw hw=>agN IV C n1 n2 w (hM w hw) (wf8 b1) (wf8 b2))
 refine⟨M,last,o,w',t',e1,e2,e3,_,e,⟨?_,YM⟩,g1,g2,g3,g4⟩;exact⟨_,_,_,[],_,[],hW',trodAll_mk1 (shut_bool Tryz.underlying4 _),G0 (Below.trod Tryz.laidOut (by kernel_rfl) (of_decide_eq_true (by kernel_rfl)) WB agq acY) (G0 (shut_int ac b1) (G0 (shut_int ac b2) (trodAll_mk0))),rfl,agq.frame _,λh=>by cases h⟩
set_option maxRecDepth 100000 in
def abr(os:Os)(started:os.Started)(F:Stop.Interp) :
 ReturnsInLeavingWide Rows.fieldLaterRow.assume ae os 4 .any (Rows.fieldLaterSpec.pre6 enc aa ab Rows.fieldLaterRow.domain false) ((OpenSpec.ofChange Rows.fieldLaterSpec).postWith enc aa ab F (outsideKept [.timePasses]) false true false):=by
 refine returnsInLeavingWide_of_good (C:=ae) Tryz.own started
  (ChangeSpec.witness6c (enc:=enc) (C:=ae) ⟨#[],#[.agg #[.int .i64 0,.int .i64 0,.slice none 0 0,.slice none 0 0,.slice none 0 0,.slice none 0 0],.int .u8 0,.int .u8 0],[]⟩ 8 (by kernel_rfl) (by kernel_rfl) (by kernel_rfl) (by kernel_rfl)) ?_
 intro w tape i _ nV _ Ag Nw abb;obtain⟨_,_,_,dL,amt,_,_,_,_,hval⟩:=Ag;obtain rfl:dL=ab:=Option.some.inj (amt.symm.trans ad);obtain⟨⟨ds,gs,before,hw,_⟩,_⟩:=Nw;have qu:=DataW.Whole.of_heap (w':=w.forCall tape i) (by rfl) hw;have hG:=Fw nV;have lS:Calm (w.forCall tape i).tape:=abb.2.1 rfl;obtain⟨M,last,o,w2,t2,h1,h2,h3,v,e,hp,r1,r2,r3,r4⟩:=asF hG lS (λj t v ht hv=>hval j t v ht hv) qu;exact⟨M,last,o,w2,t2,h1,h2,h3,v,e,postWith_blind (postWith_of_post hp.1 hp.2),r1,r2,r3,r4⟩
end
theorem fieldLater_holds:Rows.FieldLaterSaid:=
 OpenClaim.holds_of_wide_leaving_time 4 ab rfl rfl rfl rfl rfl rfl rfl ⟨rfl,rfl,rfl,rfl,rfl⟩ rfl rfl rfl rfl rfl (by kernel_rfl) ad (by kernel_rfl)
  (of_decide_eq_true (by kernel_rfl)) (by unfold Func.isWrapper;first|(rw[if_pos (by decide +kernel)];kernel_rfl)|(rw[if_neg (by decide +kernel)];exact⟨rfl,rfl⟩))
  (λa started H enc _ F=>abr a started F)
end Go.Proofs.YtlpginenlbdgcaaGreat
