/- FieldFlat: for every slant, rise, other rise, course, peg and real numbers the function FieldFlat of the given program returns true, and what its arguments read reads behind the call as before. Conditions: those of the given row: calm tape, company of leaving goroutines, outside nothing kept but the passing of time; whatever the world holds besides; every order of the regions that draw one, every schedule. -/
import Derived.Test.YtmkjeaacgibnoaaGreatY36
import Derived.Test.YtmkjeaacgibnoaaGreatY37
set_option linter.all false
open Go.Proofs.Tryz renaming prog->aa,f7->ab,underlying5->ac,underlying49->ad,func7->ae,checked->ag
open Go.ChangeShapes renaming trodAll_cons->ai,open_int->ao,shut_int->ap
namespace Go.Proofs.YtmkjeaacgibnoaaGreat
open Go.ChangeShapes Go.WideShapes Go.ChangeAt Go.RowKit Go.Conc Go.ConcM Go.bJ
section
variable {H:Type}{enc:TypeId×Value->H}
set_option maxRecDepth 100000 in
def anH{W:World}(hG:Tryz.progTables.globals.size<=W.heap.size)(lS:Calm W.tape){args:Array Value}{ds gs:List (DataW H)}{before:List MemPlace}
 (hval:∀(j:Nat)t v,Tryz.f7.params[j]?=some t->args[j]?=some v->Value.okWide aa W .any W.heap.size t v)
 (hW:DataW.Whole enc aa Tryz.f7.params.toList Rows.fieldFlatSpec.vars false W args.toList ds gs before) :
 ∃M last o w' t',runNT aa (M+1) (solo (G (Frame.enter aa 7 args .normal) []) W) #[]=(.ended o w',t')/\runN aa M (solo (G (Frame.enter aa 7 args .normal) []) W)=.next last/\step aa last=.ended o w'/\
  Go.Conc.Good aa (λv W'=>Rows.fieldFlatSpec.post enc aa ab false true false false W args v { W' with os:=W.os }/\OsLater W.os W'.os) last o w' t':=by
 have hW':=hW;obtain⟨p,q,hA0,hV,rfl,_,_⟩:=hW;have hA:DataW.TrodAll enc aa W 0 (λ_=>true) true Tryz.f7.params.toList args.toList ds p:=hA0;rw[Tryz.params7]at hA hval;obtain⟨v0,r0,d0,e0,p0,q0,MW,rfl,rfl,h0,hA0⟩:=ai hA;obtain⟨v1,r1,d1,e1,p1,q1,GM,rfl,rfl,h1,hA1⟩:=ai hA0;subst GM;obtain⟨v2,r2,d2,e2,p2,q2,Tk,rfl,rfl,h2,hA2⟩:=ai hA1;subst Tk;obtain⟨v3,r3,d3,e3,p3,q3,Q8,rfl,rfl,h3,hA3⟩:=ai hA2;subst Q8;obtain⟨v4,r4,d4,e4,p4,q4,hr4,rfl,rfl,h4,hA4⟩:=ai hA3;subst hr4;obtain⟨v5,r5,d5,e5,p5,q5,hr5,rfl,rfl,h5,hA5⟩:=ai hA4;subst hr5;obtain⟨v6,r6,d6,e6,p6,q6,hr6,rfl,rfl,h6,hA6⟩:=ai hA5;subst hr6;obtain⟨rfl,rfl,rfl⟩:=trodAll_nil hA6;obtain rfl:args=#[v0,v1,v2,v3,v4,v5,v6]:=by cases args;simp_all
 obtain⟨rfl,rfl⟩:=trodVars_none hV;obtain⟨n0,rfl,rfl,rfl,b0⟩:=ao ac (hval 0 5 v0 rfl rfl) h0;obtain⟨n1,rfl,rfl,rfl,b1⟩:=ao ac (hval 1 5 v1 rfl rfl) h1;obtain⟨n2,rfl,rfl,rfl,b2⟩:=ao ac (hval 2 5 v2 rfl rfl) h2;obtain⟨n4,rfl,rfl,rfl,b4⟩:=ao ac (hval 4 5 v4 rfl rfl) h4;obtain⟨n5,rfl,rfl,rfl,b5⟩:=ao ad (hval 5 49 v5 rfl rfl) h5;obtain⟨n6,rfl,rfl,rfl,b6⟩:=ao ad (hval 6 49 v6 rfl rfl) h6;obtain⟨cs,rfl,_⟩:∃cs,v3=.agg cs/\_:=by
  have:=hval 3 27 v3 rfl rfl;unfold Value.okWide at this;rw[Tryz.underlying27]at this;exact this
 have hk:=h3;have aH:∀x∈p3,x.block<W.heap.size:=λx hx=>hW'.lt x (by simp[hx]);obtain⟨fuel,hf⟩:=h3;obtain⟨C,hC,hM⟩:=EJ (enc:=enc) (W:=W) (cs:=cs.toList) ⟨fuel,_,hf⟩;have hva:VA FF (ox W) #[.int .u8 n0,.int .u8 n1,.int .u8 n2,.agg C.val,.int .u8 n4,.int .u16 n5,.int .u16 n6] #[.int .u8 n0,.int .u8 n1,.int .u8 n2,.agg cs,.int .u8 n4,.int .u16 n5,.int .u16 n6]:=by
  refine .cons (.int _ _) (.cons (.int _ _) (.cons (.int _ _) (.cons (.agg ?_) (.cons (.int _ _) (.cons (.int _ _) (.cons (.int _ _) .nil))))));rw[hC];exact Je _
 obtain⟨M,last,o,w',t',e1,e2,e3,v,e,⟨rfl,agq,YM⟩,g1,g2,g3,g4⟩:=U6 (f:=7) (fn:=ab) (tr:=14) (by decide) rfl (by kernel_rfl) ((agp (by decide)).trans ae) ae Tryz.results7 hG lS hva
  (λw hw=>abC IV C n0 n1 n2 n4 n5 n6 w (hM w hw) (wf8 b0) (wf8 b1) (wf8 b2) (wf8 b4) (ahm b5) (ahm b6))
 refine⟨M,last,o,w',t',e1,e2,e3,_,e,⟨?_,YM⟩,g1,g2,g3,g4⟩;exact⟨_,_,_,[],_,[],hW',trodAll_mk1 (shut_bool Tryz.underlying4 _),dc (ap ac b0) (dc (ap ac b1) (dc (ap ac b2) (dc (Below.trod Tryz.laidOut (by kernel_rfl) (of_decide_eq_true (by kernel_rfl)) hk agq aH) (dc (ap ac b4) (dc (ap ad b5) (dc (ap ad b6) (trodAll_mk0))))))),rfl,agq.frame _,λh=>by cases h⟩
set_option maxRecDepth 100000 in
def aay(os:Os)(started:os.Started)(F:Stop.Interp) :
 ReturnsInLeavingWide Rows.fieldFlatRow.assume ag os 7 .any (Rows.fieldFlatSpec.pre6 enc aa ab Rows.fieldFlatRow.domain false) ((OpenSpec.ofChange Rows.fieldFlatSpec).postWith enc aa ab F (outsideKept [.timePasses]) false true false):=by
 refine returnsInLeavingWide_of_good (C:=ag) Tryz.own started
  (ChangeSpec.witness6c (enc:=enc) (C:=ag) ⟨#[],#[.int .u8 0,.int .u8 0,.int .u8 0,.agg #[.int .i64 0,.int .i64 0,.slice none 0 0,.slice none 0 0,.slice none 0 0,.slice none 0 0],.int .u8 0,.int .u16 0,.int .u16 0],[]⟩ 8 (by kernel_rfl) (by kernel_rfl) (by kernel_rfl) (by kernel_rfl)) ?_
 intro w tape i _ nV _ Ag Nw abb;obtain⟨_,_,_,dL,amt,_,_,_,_,hval⟩:=Ag;obtain rfl:dL=ab:=Option.some.inj (amt.symm.trans ae);obtain⟨⟨ds,gs,before,hw,_⟩,_⟩:=Nw;have qu:=DataW.Whole.of_heap (w':=w.forCall tape i) (by rfl) hw;have hG:=Fw nV;have lS:Calm (w.forCall tape i).tape:=abb.2.1 rfl;obtain⟨M,last,o,w2,t2,h1,h2,h3,v,e,hp,r1,r2,r3,r4⟩:=anH hG lS (λj t v ht hv=>hval j t v ht hv) qu;exact⟨M,last,o,w2,t2,h1,h2,h3,v,e,postWith_blind (postWith_of_post hp.1 hp.2),r1,r2,r3,r4⟩
end
theorem fieldFlat_holds:Rows.FieldFlatSaid:=
 OpenClaim.holds_of_wide_leaving_time 7 ab rfl rfl rfl rfl rfl rfl rfl ⟨rfl,rfl,rfl,rfl,rfl⟩ rfl rfl rfl rfl rfl (by kernel_rfl) ae (by kernel_rfl)
  (of_decide_eq_true (by kernel_rfl)) (by unfold Func.isWrapper;first|(rw[if_pos (by decide +kernel)];kernel_rfl)|(rw[if_neg (by decide +kernel)];exact⟨rfl,rfl⟩))
  (λa started H enc _ F=>aay a started F)
end Go.Proofs.YtmkjeaacgibnoaaGreat
