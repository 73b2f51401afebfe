/- Part of the proof of FieldFlat and FieldMarshals. -/
import Derived.Test.YtmkjeaacgibnoaaGreatY08
set_option linter.all false
open Go renaming doReturn->aa,unwind->ab,yielded->ac
open Go.Program renaming mk->ad
open Go.bJ renaming codeOk->ae
open Go.stepG renaming oper->ag,apply->ai,exec->ao
open Bool renaming false_eq_true->ap,and_eq_true->aq
open ByteArray renaming empty->ar
namespace Go.bJ
section
variable {T:Tables}{fB fA:Array Func}{F:FuncId->Bool}{Z:TypeId->Bool}{bot:Frame}{up:List Frame}{Bs:Nat}{mn:Bool}{ρ σ:Ren}{w w':World}
def jJ(a:GV T F Z Bs ρ w w'){fr fr':Frame}{cs cs':List Frame}(b:aQ T F Z fB fA ρ fr fr')(hcs:cj T F Z fB fA ρ cs cs')(hb:dn (fr::cs)) :
 dG T fB fA F Z bot up Bs ρ w w' (.go { frame:=fr,callers:=cs++[bot],status:=.running,dying:=none } w) (.go { frame:=fr',callers:=cs'++up,status:=.running,dying:=none } w'):=
 .inl ⟨ρ,_,_,_,rfl,a.refl,.nil,b,⟨cs,cs',rfl,rfl,hcs,hb⟩,rfl,rfl,rfl,rfl,rfl,rfl⟩
def qI(b:GV T F Z Bs ρ w w'){fr fr':Frame}{cs cs':List Frame}(a:aQ T F Z fB fA ρ fr fr')(hcs:cj T F Z fB fA ρ cs cs')(hb:dn (fr::cs))(c:cs≠[]){v v':Value}(hv:VR F ρ v v') :
 dG T fB fA F Z bot up Bs ρ w w' (aa (ad T fB) true fr (cs++[bot]) none v w) (aa (ad T fA) mn fr' (cs'++up) none v' w'):=by
 cases hcs with
 |nil=>exact absurd rfl c
 |@cons f d l e h t=>
  show(dG T fB fA F Z bot up Bs) ρ w w' (aa (ad T fB) true fr (f::(l++[bot])) none v w) (aa (ad T fA) mn fr' (d::(e++up)) none v' w');simp only[aa,a.kind,a.bX];exact jJ b (h.finish hv) t (hb.pop.top (bZ _ _))
def oQ(fit:zG T fB fA F Z){j k:Type}{RA:Ren->j->k->Prop}(l:GV T F Z Bs ρ w w'){s:Sem j}{s':Sem k}(hs:av T fB fA F (ae T F Z) RA ρ s s'){f:Result j->GStep}{f':Result k->GStep}(fn x:FuncId)(y:x=fn)(hF:F fn=true)
 (z:∀(b:Ren)(a:j)(a':k)(w1 c:World)(new:Array Event),cI Bs T.globals.size F (ae T F Z) ρ w w' b w1 c new->RA b a a'->dG T fB fA F Z bot up Bs b w1 c (f (.ok a w1)) (f' (.ok a' c)))
 (A:∀(b:Ren)(v v':Value)(w1 c:World)(new:Array Event),cI Bs T.globals.size F (ae T F Z) ρ w w' b w1 c new->VR F b v v'->dG T fB fA F Z bot up Bs b w1 c (f (.halt (.panic v) w1)) (f' (.halt (.panic v') c)))
 (g:∀m w1,∃o w2 es,f (.halt (.stuck m) w1)=.ended o w2 es) (B:∀u w1,dw u=true->∃o w2 es,f (.halt (.unsupported u) w1)=.ended o w2 es) :
 dG T fB fA F Z bot up Bs ρ w w' (GStep.after (seen (ad T fB) fn (s.runT (ad T fB) w #[]).2) (f (s.runT (ad T fB) w #[]).1)) (GStep.after (seen (ad T fA) x (s'.runT (ad T fA) w' #[]).2) (f' (s'.runT (ad T fA) w' #[]).1)):=by
 subst y;have d:=av.GU #[] #[] hs l.inj l.wr l.tape l.drawn;generalize s.runT (ad T fB) w #[]=C at d;obtain⟨r,es⟩:=C
 rcases d with d|d
 rotate_left
 ·exact dG.Pj (DK (P:=ad T fB) (fit.nr _ hF) d)
 cases r with
 |ok a w1=>
  obtain⟨b,a',c,i,new,n,e1,g,p,q⟩:=d;subst n;rw[e1];exact dG.comp g (z b a a' w1 c new g q) (λe t=>by simpa using Conc.mem_seen t) (rz fit hF (by simpa using p))
 |halt h w1=>
  cases h with
  |panic v=>
   obtain⟨b,v',c,i,new,n,e1,g,p,q⟩:=d;subst n;rw[e1];exact dG.comp g (A b v v' w1 c new g q) (λe t=>by simpa using Conc.mem_seen t) (rz fit hF (by simpa using p))
  |stuck m=>
   obtain⟨o,w2,D,e⟩:=g m w1;simp only;rw[e];trivial
  |unsupported u=>
   obtain⟨o,w2,D,e⟩:=B u w1 d;simp only;rw[e];trivial
  |_=>exact d.elim
def GX(fit:zG T fB fA F Z)(d:GV T F Z Bs ρ w w'){fr fr':Frame}{cs cs':List Frame}(b:aQ T F Z fB fA ρ fr fr')(hcs:cj T F Z fB fA ρ cs cs')(hb:dn (fr::cs))(j:Option Code)(h:∀c,j=some c->ae T F Z c=true) :
 dG T fB fA F Z bot up Bs ρ w w' (mR (ad T fB) true fr (cs++[bot]) none w j) (mR (ad T fA) mn fr' (cs'++up) none w' j):=by
 rcases jP b.roundOf with⟨e1,e⟩|⟨l,k,e1,e,hl⟩
 ·rw[iW e1,iW e]
  cases sn j with
  |false=>trivial
  |true=>exact jJ d (b.returning e1) hcs (hb.top rfl)
 ·rw[iX e1,iX e];have i:cs≠[]:=by
   rintro rfl;have:=hb fr rfl;rw[e1]at this;cases this
  exact oQ fit d (oq d.inj hl j h) (f:=λr=>match r with | .ok v w=>aa (ad T fB) true fr (cs++[bot]) none v w | .halt _ w=>.ended (.stuck "range over a function: no such loop" (fr.pos (ad T fB))) w)
   (f':=λr=>match r with | .ok v w=>aa (ad T fA) mn fr' (cs'++up) none v w | .halt _ w=>.ended (.stuck "range over a function: no such loop" (fr'.pos (ad T fA))) w) fr.fn fr'.fn b.fn b.mI
   (λm a n w1 o new g hv=>qI g.wd (b.mono g.le) (hcs.mono g.le) hb i hv) (λ_ _ _ _ _ _ _ _=>trivial) (λ_ _=>⟨_,_,_,rfl⟩) (λ_ _ _=>⟨_,_,_,rfl⟩)
def Ml(fit:zG T fB fA F Z)(d:GV T F Z Bs ρ w w'){fr fr':Frame}{cs cs':List Frame}(a:aQ T F Z fB fA ρ fr fr')(hcs:cj T F Z fB fA ρ cs cs')(hb:dn (fr::cs)){ops:Array Oper}{i:Nat}{rest:List Nat}{k:List Item}
 (f:fr.todo=.inRegion ops (i::rest)::k) (g:(ops.toList.all λo=>jh T F Z o.op)=true) :
 dG T fB fA F Z bot up Bs ρ w w' (ag (ad T fB) true fr (cs++[bot]) none w) (ag (ad T fA) true fr' (cs'++up) none w'):=by
 unfold ag;rw[a.oper?];have e:fr.oper? = ops[i]?:=by unfold Frame.oper?;rw[f]
 rw[e]
 cases h:ops[i]? with
 |none=>trivial
 |some o=>
  have ok:=Bo g h;simp only;have main:dG T fB fA F Z bot up Bs ρ w w' (ai (ad T fB) true fr (cs++[bot]) none (execOp fr.eval o) w) (ai (ad T fA) true fr' (cs'++up) none (execOp fr'.eval o) w'):=
   rA (bot:=bot) (up:=up) fit d a hcs hb (ug fit.zero fit.fns d.inj (dD a.tmps) o ok (acm fit.noU ok))
  have b:=a.roundOf;generalize e1:fr.roundOf=r at b;generalize l:fr'.roundOf=m at b
  cases b with
  |none=>exact main
  |some hl=>
   cases j:o.op with
   |defer c=>rw[j]at ok;cases ok
   |_=>exact main
def DL(fit:zG T fB fA F Z)(e:GV T F Z Bs ρ w w'){fr fr':Frame}{cs cs':List Frame}(p:aQ T F Z fB fA ρ fr fr')(hcs:cj T F Z fB fA ρ cs cs')(hb:dn (fr::cs))(E:fr.mode≠.run)(g:fr.defers=[]->cs≠[]) :
 dG T fB fA F Z bot up Bs ρ w w' (ab (ad T fB) true fr (cs++[bot]) none w) (ab (ad T fA) mn fr' (cs'++up) none w'):=by
 have hd:=p.defers;obtain⟨fn,tmps,todo,defers,mode,kind,i⟩:=fr;obtain⟨b,j,q,X,L,k,m⟩:=fr';have M:=p;obtain⟨H,u,n,x,o,N,y,I,J,K,z⟩:=p;simp only at H u n x o N y I J K z E g hd;subst H
 cases hd with
 |@cons r Y ds A O t=>
  unfold ab;simp only;exact oQ fit e (jj e.inj O)
   (f:=λr=>match r with
     |.ok calls w=>.go { frame:={ fn:=b,tmps,todo,defers:=calls++ds,mode,kind,roundOf:=i },callers:=cs++[bot],status:=.running,dying:=none } w
     |.halt _ w=>.ended (.stuck "the deferred calls of a range-over-func loop have been taken" _) w)
   (f':=λr=>match r with
     |.ok calls w=>.go { frame:={ fn:=b,tmps:=j,todo:=q,defers:=calls++A,mode:=L,kind:=k,roundOf:=m },callers:=cs'++up,status:=.running,dying:=none } w
     |.halt _ w=>.ended (.stuck "the deferred calls of a range-over-func loop have been taken" _) w) b b rfl n
   (λP a Q w1 R new d S=>by
     obtain⟨rfl,rfl⟩:=S
     exact jJ d.wd ⟨rfl,u,n,cU.mono d.le x,o.mono d.le,t.mono d.le,y.mono d.le,I,J,K.mono d.le,z⟩ (hcs.mono d.le) (hb.top rfl))
   (λ_ _ _ _ _ _ _ _=>trivial) (λ_ _=>⟨_,_,_,rfl⟩) (λ_ _ _=>⟨_,_,_,rfl⟩)
 |nil=>
  have g:=g rfl
  cases y with
  |run=>exact absurd rfl E
  |@panicking c B hc=>
   cases hcs with
   |nil=>exact absurd rfl g
   |@cons f C l D h t=>
    show(dG T fB fA F Z bot up Bs) ρ w w' (ab (ad T fB) true _ (f::(l++[bot])) none w) (ab (ad T fA) mn _ (C::(D++up)) none w');have e1:ab (ad T fB) true { fn:=b,tmps:=tmps,todo:=todo,defers:=[],mode:=.panicking c,kind:=kind,roundOf:=i } (f::(l++[bot])) none w=.go { frame:=f.raise c,callers:=l++[bot],status:=.running,dying:=none } w:=by
     unfold ab;simp only[iR o (ad T fB) b tmps [] (.panicking c) kind i,ap,if_false]
    have U:ab (ad T fA) mn { fn:=b,tmps:=j,todo:=q,defers:=[],mode:=.panicking B,kind:=k,roundOf:=m } (C::(D++up)) none w'=.go { frame:=C.raise B,callers:=D++up,status:=.running,dying:=none } w':=by
     unfold ab;simp only[ot o (ad T fA) b j [] (.panicking B) k m,ap,if_false]
    rw[e1,U];exact jJ e (h.raise hc) t (hb.pop.top (eC _ _))
  |returning=>
   obtain⟨fx,c,V,W,g3,g4⟩:=(u (z rfl)).ex;unfold ab;simp only[V,W]
   exact oQ fit e (mP e.inj fx x) (f:=λr=>match r with
    |.ok v w=>aa (ad T fB) true { fn:=b,tmps,todo,defers:=[],mode:=.returning,kind,roundOf:=i } (cs++[bot]) none v w
    |.halt (.stuck s) w=>.ended (.stuck s _) w
    |.halt _ w=>.ended (.stuck "return: the result variables cannot be read" _) w)
    (f':=λr=>match r with
     |.ok v w=>aa (ad T fA) mn { fn:=b,tmps:=j,todo:=q,defers:=[],mode:=.returning,kind:=k,roundOf:=m } (cs'++up) none v w
     |.halt (.stuck s) w=>.ended (.stuck s _) w
     |.halt _ w=>.ended (.stuck "return: the result variables cannot be read" _) w) b b rfl n
    (λP a Q w1 R new d hv=>qI d.wd (M.mono d.le) (hcs.mono d.le) hb g hv) (λ_ _ _ _ _ _ _ _=>trivial) (λ_ _=>⟨_,_,_,rfl⟩) (λ_ _ _=>⟨_,_,_,rfl⟩)
def vM(c:GV T F Z Bs ρ w w')(q:Question):∃n f w1 d,(choose q).run (ad T fB) w=.ok n w1/\(choose q).run (ad T fA) w'=.ok n d/\cI Bs T.globals.size F (ae T F Z) ρ w w' f w1 d #[]:=by
 have e:∀(P:Program)(w:World),(choose q).run P w=if q.forced then .ok 0 w else .ok (q.cut (w.tape w.drawn q)) { w with drawn:=w.drawn+1 }:=λP w=>rfl
 rw[e,e,c.tape,c.drawn]
 cases q.forced with
 |true=>exact⟨0,ρ,w,w',rfl,rfl,c.refl⟩
 |false=>
  have hb:=c.refl;refine⟨_,ρ,_,_,rfl,rfl,?_⟩;exact⟨hb.le,hb.inj,⟨c.wr.pK,c.wr.gN,c.wr.base,c.wr.obj,c.wr.low⟩,rfl,rfl,rfl,rfl,rfl,Nat.le_refl _,Nat.le_refl _,λ_ _ _=>rfl,λ_ a b=>absurd b (Nat.not_lt.2 a),λ_ _ h=>.inl h,by simp,hb.keep⟩
def dG.Oy{a:Ren}{w1 b:World}{s s':GStep}(c:cI Bs T.globals.size F (ae T F Z) ρ w w' a w1 b #[])(h:dG T fB fA F Z bot up Bs a w1 b s s'):dG T fB fA F Z bot up Bs ρ w w' s s':=by
 cases s with
 |go m w2 n=>
  exact h.imp (fun⟨d,f,g,i,e,k,j,l⟩=>⟨d,f,g,i,e,by simpa using c.trans k,j,l⟩) id
 |_=>trivial
def Mm(fit:zG T fB fA F Z)(p:GV T F Z Bs ρ w w'){fr fr':Frame}{cs cs':List Frame}(g:aQ T F Z fB fA ρ fr fr')(hcs:cj T F Z fB fA ρ cs cs')(hb:dn (fr::cs)) :
 dG T fB fA F Z bot up Bs ρ w w' (ao (ad T fB) true true fr (cs++[bot]) none w) (ao (ad T fA) mn true fr' (cs'++up) none w'):=by
 obtain⟨fn,tmps,todo,defers,mode,kind,x⟩:=fr;obtain⟨q,u,S,y,z,A,B⟩:=fr';have U:cN T F Z ρ todo S:=g.todo;have to:∀{N O:List Item},cN T F Z ρ N O->dG T fB fA F Z bot up Bs ρ w w' (.go { frame:=⟨fn,tmps,N,defers,mode,kind,x⟩,callers:=cs++[bot],status:=.running,dying:=none } w) (.go { frame:=⟨q,u,O,y,z,A,B⟩,callers:=cs'++up,status:=.running,dying:=none } w'):=
  λh=>jJ p (g.lO h) hcs (hb.top rfl)
 have lv:=λj V=>GX (bot:=bot) (up:=up) (mn:=mn) fit p g hcs hb j V;unfold ao
 cases U with
 |nil=>exact lv none (λc e=>by cases e)
 |@cons i i' k k' h t=>
  cases h with
  |inBlock id=>exact to t
  |inLoop c hc=>exact to (.cons (.code c hc) (.cons (.inLoop c hc) t))
  |inScope c hc=>exact to t
  |inRangeFunc hl=>trivial
  |beginRound=>
   refine rA fit p g hcs hb (vX p.inj ?_)
   rcases jP g.roundOf with⟨C,D⟩|⟨l,E,C,D,hl⟩
   ·simp only at C D;subst C D;exact ak
   ·simp only at C D;subst C D;exact lg p.inj hl
  |@endRangeFunc l E hl=>
   exact oQ fit p (qW p.inj hl)
    (f:=λr=>match r with
      |.ok jump w=>.go { frame:=⟨fn,tmps,(jump.map Item.code).toList++k,defers,mode,kind,x⟩,callers:=cs++[bot],status:=.running,dying:=none } w
      |.halt (.panic v) w=>.go { frame:=Frame.raise ⟨fn,tmps,.endRangeFunc l::k,defers,mode,kind,x⟩ [{ v,recovered:=false }],callers:=cs++[bot],status:=.running,dying:=none } w
      |.halt _ w=>.ended (.stuck "range over a function: no such loop" _) w)
    (f':=λr=>match r with
      |.ok jump w=>.go { frame:=⟨q,u,(jump.map Item.code).toList++k',y,z,A,B⟩,callers:=cs'++up,status:=.running,dying:=none } w
      |.halt (.panic v) w=>.go { frame:=Frame.raise ⟨q,u,.endRangeFunc E::k',y,z,A,B⟩ [{ v,recovered:=false }],callers:=cs'++up,status:=.running,dying:=none } w
      |.halt _ w=>.ended (.stuck "range over a function: no such loop" _) w) fn q g.fn g.mI
    (λH a P w1 J new o K=>by
      obtain⟨rfl,W⟩:=K;refine jJ o.wd ((g.mono o.le).lO (cN.append ?_ (t.mono o.le))) (hcs.mono o.le) (hb.top rfl)
      cases a with
      |none=>exact .nil
      |some c=>exact .cons (.code c (W c rfl)) .nil)
    (λH v v' w1 J new o hv=>jJ o.wd ((g.mono o.le).raise (.cons hv .nil)) (hcs.mono o.le) (hb.top (eC _ _)))
    (λ_ _=>⟨_,_,_,rfl⟩) (λ_ _ _=>⟨_,_,_,rfl⟩)
  |inRegion ops todo X=>
   cases todo with
   |nil=>exact to t
   |cons i Q=>
    simp only;rw[show ac ops u=ac ops tmps from funext λj=>(oo ops g.tmps j).symm]
    cases((ops[i]?).map (Region.wanted · (ac ops tmps))).getD false with
    |true=>exact Ml fit p g hcs hb rfl X
    |false=>exact jJ p (g.finish .undef) hcs (hb.top (bZ _ _))
  |code c hc=>
   cases c with
   |ret=>exact lv (some .ret) (λc e=>by cases e;rfl)
   |skip=>exact to t
   |label _=>exact to t
   |seq a b=>
    simp only[ae,aq]at hc;exact to (.cons (.code a hc.1) (.cons (.code b hc.2) t))
   |cond c a b=>
    simp only[ae,aq]at hc;have hv:=dD g.tmps c hc.1.1;simp only;generalize Frame.eval _ c=v at hv ⊢;generalize Frame.eval _ c=v' at hv ⊢
    cases hv with
    |bool b'=>
     cases b' with
     |true=>exact to (.cons (.code a hc.1.2) t)
     |false=>exact to (.cons (.code b hc.2) t)
    |_=>trivial
   |block id b=>exact to (.cons (.code b hc) (.cons (.inBlock id) t))
   |loop b=>exact to (.cons (.code b hc) (.cons (.inLoop b hc) t))
   |scope b=>exact to (.cons (.code b hc) (.cons (.inScope b hc) t))
   |exit id=>
    simp only
    rcases xo id t with⟨x1,x2⟩|⟨m,m',x1,x2,L⟩
    ·rw[x1,x2];exact lv (some (.exit id)) (λc e=>by cases e;rfl)
    ·rw[x1,x2];exact to L
   |goto id=>
    simp only
    rcases xq id t with⟨x1,x2⟩|⟨m,m',x1,x2,L⟩
    ·rw[x1,x2];exact lv (some (.goto id)) (λc e=>by cases e;rfl)
    ·rw[x1,x2];exact to L
   |refuse Y=>cases hc
   |rangeFunc f params assign body=>
    simp only[ae,aq]at hc;simp only;have I:=g.fn;simp only at I;subst I;have hs:=mO (T:=T) (fB:=fB) (fA:=fA) (Z:=Z) p.inj q g.mI g.tmps params assign body hc.1.2 hc.2 g.roundOf;exact oQ fit p hs
     (f:=λr=>match r with
       |.ok (l,mark) w=>
        let fr:Frame:=⟨q,tmps,.inRangeFunc l::k,mark++defers,mode,kind,x⟩
        let call:Call:={ callee:=.value f,args:=#[.const (.func (.yield l) #[] #[])],argTypes:=#[] }
        ai (ad T fB) true fr (cs++[bot]) none (do let d<-resolve fr.eval call 0;invoke d.target d.args) w
       |.halt _ w=>.ended (.stuck "range over a function: no such loop" _) w)
     (f':=λr=>match r with
       |.ok (l,mark) w=>
        let fr:Frame:=⟨q,u,.inRangeFunc l::k',mark++y,z,A,B⟩
        let call:Call:={ callee:=.value f,args:=#[.const (.func (.yield l) #[] #[])],argTypes:=#[] }
        ai (ad T fA) true fr (cs'++up) none (do let d<-resolve fr.eval call 0;invoke d.target d.args) w
       |.halt _ w=>.ended (.stuck "range over a function: no such loop" _) w) q q rfl g.mI
     (λH a P w1 J new o K=>by
       obtain⟨l,mark⟩:=a;obtain⟨E,OA⟩:=P;obtain⟨hl,M⟩:=K;have s:=g.mono o.le;have R:aQ T F Z fB fA H ⟨q,tmps,.inRangeFunc l::k,mark++defers,mode,kind,x⟩ ⟨q,u,.inRangeFunc E::k',OA++y,z,A,B⟩:=
        ⟨s.fn,s.same,s.mI,s.tmps,.cons (.inRangeFunc hl) (t.mono o.le),fS.append M s.defers,s.mode,s.kind,s.bX,s.roundOf,s.ret⟩
       exact rA fit o.wd R (hcs.mono o.le) (hb.top rfl) (jE fit.zero fit.fns o.inj (dD R.tmps f hc.1.1) (by
        have hv:cU F H [.func (.yield l) #[] #[]] [.func (.yield E) #[] #[]]:=.cons (.func (.yield hl) .nil .nil) .nil
        simpa[Frame.eval]using hv)))
     (λ_ _ _ _ _ _ _ _=>trivial) (λ_ _=>⟨_,_,_,rfl⟩) (λ_ _ _=>⟨_,_,_,rfl⟩)
   |region id ops draw=>
    simp only
    cases draw with
    |false=>exact to (.cons (.inRegion ops _ hc) t)
    |true=>
     simp only[Bool.not_true,ap,if_false];obtain⟨n,H,w1,J,c1,c2,o⟩:=vM (fB:=fB) (fA:=fA) p (.order fn id);have I:=g.fn;simp only at I;subst I;rw[c1,c2];exact dG.Oy o (jJ o.wd ((g.mono o.le).lO (.cons (.inRegion ops _ hc) (t.mono o.le))) (hcs.mono o.le) (hb.top rfl))
def Mn(fit:zG T fB fA F Z)(f:GV T F Z Bs ρ w w'){g g':Goroutine}(hg:GC T fB fA F Z bot up ρ g g')
 (i:g.frame.mode≠.run->g.frame.defers=[]->g.callers≠[bot]):dG T fB fA F Z bot up Bs ρ w w' (stepG (ad T fB) true g w) (stepG (ad T fA) mn g' w'):=by
 obtain⟨b,⟨l,r,hl,j,hcs,hb⟩,st,a,k,m,of,n⟩:=hg;obtain⟨fr,cs,status,dying,offers⟩:=g;obtain⟨c,cs',s,t,u⟩:=g';simp only at st a k m of n hl j hcs b hb i;subst st a k m of n hl j;have d:=Mm (bot:=bot) (up:=up) (mn:=mn) fit f b hcs hb;have o:=λh=>DL (bot:=bot) (up:=up) (mn:=mn) fit f b hcs hb h (λhd e=>by subst e;exact i h hd rfl);obtain⟨fn,tmps,todo,defers,mode,kind,v⟩:=fr;obtain⟨x,y,z,A,p,B,C⟩:=c;have q:qE F ρ mode p:=b.mode;unfold stepG
 cases q with
 |run=>exact d
 |returning=>exact o (by simp)
 |panicking _=>exact o (by simp)
end
end Go.bJ
namespace Go.Proofs
set_option maxRecDepth 100000
def aD(dst:Option Nat)(op:Op)(guard:Option (Nat×Bool)):Oper:={ dst,op,type:=0,pos:= "b",after:=#[],guard }
noncomputable def aS:Array Oper:=#[
 aD (some 3) (.build 121 #[(0,.tmp 0)]) (none),
 aD (some 4) (.field 121 (.tmp 0) 0) (none),
 aD (some 5) (.field 27 (.tmp 4) 0) (none),
 aD (some 6) (.field 27 (.tmp 4) 1) (none),
 aD (some 7) (.field 27 (.tmp 4) 2) (none),
 aD (some 8) (.field 27 (.tmp 4) 3) (none),
 aD (some 9) (.field 27 (.tmp 4) 4) (none),
 aD (some 10) (.field 27 (.tmp 4) 5) (none),
 aD (some 11) (.binOp .xor 3 (.tmp 5) (.const (.int .i64 0)) 3) (none),
 aD (some 12) (.binOp .xor 3 (.tmp 6) (.const (.int .i64 0)) 3) (none),
 aD (some 13) (.call { callee:=.builtin .len,args:=#[.tmp 7],argTypes:=#[22] }) (none),
 aD (some 14) (.binOp .eql 3 (.tmp 13) (.const (.int .i64 2)) 3) (none),
 aD (none) (.field 3 (.const (.int .i64 0)) 0) (some (11,false)),
 aD (some 15) (.binOp .eql 22 (.tmp 7) (.const (.slice none 0 0)) 22) (none),
 aD (none) (.field 3 (.const (.int .i64 0)) 0) (some (13,true)),
 aD (some 16) (.indexAddr 22 (.tmp 7) (.const (.int .i64 0))) (none),
 aD (some 17) (.load 35 (.tmp 16)) (none),
 aD (some 18) (.call { callee:=.builtin .len,args:=#[.tmp 8],argTypes:=#[23] }) (none),
 aD (some 19) (.binOp .eql 3 (.tmp 18) (.const (.int .i64 4)) 3) (none),
 aD (none) (.field 3 (.const (.int .i64 0)) 0) (some (18,false)),
 aD (some 20) (.binOp .eql 23 (.tmp 8) (.const (.slice none 0 0)) 23) (none),
 aD (none) (.field 3 (.const (.int .i64 0)) 0) (some (20,true)),
 aD (some 21) (.indexAddr 23 (.tmp 8) (.const (.int .i64 0))) (none),
 aD (some 22) (.load 79 (.tmp 21)) (none),
 aD (some 23) (.call { callee:=.builtin .len,args:=#[.tmp 9],argTypes:=#[24] }) (none),
 aD (some 24) (.binOp .eql 3 (.tmp 23) (.const (.int .i64 3)) 3) (none),
 aD (none) (.field 3 (.const (.int .i64 0)) 0) (some (25,false)),
 aD (some 25) (.binOp .eql 24 (.tmp 9) (.const (.slice none 0 0)) 24) (none),
 aD (none) (.field 3 (.const (.int .i64 0)) 0) (some (27,true)),
 aD (some 26) (.indexAddr 24 (.tmp 9) (.const (.int .i64 0))) (none),
 aD (some 27) (.load 73 (.tmp 26)) (none),
 aD (some 28) (.field 73 (.tmp 27) 0) (none),
 aD (some 29) (.binOp .add 9 (.tmp 28) (.const (.string ar)) 9) (none),
 aD (some 30) (.field 73 (.tmp 27) 1) (none),
 aD (some 31) (.field 35 (.tmp 30) 0) (none),
 aD (some 32) (.binOp .xor 3 (.tmp 31) (.const (.int .i64 0)) 3) (none),
 aD (some 33) (.field 35 (.tmp 30) 1) (none),
 aD (some 34) (.binOp .xor 3 (.tmp 33) (.const (.int .i64 0)) 3) (none),
 aD (some 35) (.field 73 (.tmp 27) 2) (none),
 aD (some 36) (.field 35 (.tmp 35) 0) (none),
 aD (some 37) (.binOp .xor 3 (.tmp 36) (.const (.int .i64 0)) 3) (none),
 aD (some 38) (.field 35 (.tmp 35) 1) (none),
 aD (some 39) (.binOp .xor 3 (.tmp 38) (.const (.int .i64 0)) 3) (none),
 aD (some 40) (.field 73 (.tmp 27) 5) (none),
 aD (some 41) (.field 35 (.tmp 40) 0) (none),
 aD (some 42) (.binOp .xor 3 (.tmp 41) (.const (.int .i64 0)) 3) (none),
 aD (some 43) (.field 35 (.tmp 40) 1) (none),
 aD (some 44) (.binOp .xor 3 (.tmp 43) (.const (.int .i64 0)) 3) (none),
 aD (some 45) (.field 73 (.tmp 27) 6) (none),
 aD (some 46) (.field 35 (.tmp 45) 0) (none),
 aD (some 47) (.binOp .xor 3 (.tmp 46) (.const (.int .i64 0)) 3) (none),
 aD (some 48) (.field 35 (.tmp 45) 1) (none),
 aD (some 49) (.binOp .xor 3 (.tmp 48) (.const (.int .i64 0)) 3) (none),
 aD (some 50) (.field 73 (.tmp 27) 3) (none),
 aD (some 51) (.binOp .xor 3 (.tmp 50) (.const (.int .i64 0)) 3) (none),
 aD (some 52) (.field 73 (.tmp 27) 4) (none),
 aD (some 53) (.binOp .xor 3 (.tmp 52) (.const (.int .i64 0)) 3) (none),
 aD (some 54) (.field 73 (.tmp 27) 7) (none),
 aD (some 55) (.call { callee:=.builtin .len,args:=#[.tmp 54],argTypes:=#[42] }) (none),
 aD (some 56) (.binOp .eql 3 (.tmp 55) (.const (.int .i64 1)) 3) (none),
 aD (none) (.field 3 (.const (.int .i64 0)) 0) (some (59,false)),
 aD (some 57) (.binOp .eql 42 (.tmp 54) (.const (.slice none 0 0)) 42) (none),
 aD (none) (.field 3 (.const (.int .i64 0)) 0) (some (61,true)),
 aD (some 58) (.indexAddr 42 (.tmp 54) (.const (.int .i64 0))) (none),
 aD (some 59) (.load 3 (.tmp 58)) (none),
 aD (some 60) (.indexAddr 24 (.tmp 9) (.const (.int .i64 1))) (none),
 aD (some 61) (.load 73 (.tmp 60)) (none),
 aD (some 62) (.field 73 (.tmp 61) 0) (none),
 aD (some 63) (.binOp .add 9 (.tmp 62) (.const (.string ar)) 9) (none),
 aD (some 64) (.field 73 (.tmp 61) 1) (none),
 aD (some 65) (.field 35 (.tmp 64) 0) (none),
 aD (some 66) (.binOp .xor 3 (.tmp 65) (.const (.int .i64 0)) 3) (none),
 aD (some 67) (.field 35 (.tmp 64) 1) (none),
 aD (some 68) (.binOp .xor 3 (.tmp 67) (.const (.int .i64 0)) 3) (none),
 aD (some 69) (.field 73 (.tmp 61) 2) (none),
 aD (some 70) (.field 35 (.tmp 69) 0) (none),
 aD (some 71) (.binOp .xor 3 (.tmp 70) (.const (.int .i64 0)) 3) (none),
 aD (some 72) (.field 35 (.tmp 69) 1) (none),
 aD (some 73) (.binOp .xor 3 (.tmp 72) (.const (.int .i64 0)) 3) (none),
 aD (some 74) (.field 73 (.tmp 61) 5) (none),
 aD (some 75) (.field 35 (.tmp 74) 0) (none),
 aD (some 76) (.binOp .xor 3 (.tmp 75) (.const (.int .i64 0)) 3) (none),
 aD (some 77) (.field 35 (.tmp 74) 1) (none),
 aD (some 78) (.binOp .xor 3 (.tmp 77) (.const (.int .i64 0)) 3) (none),
 aD (some 79) (.field 73 (.tmp 61) 6) (none),
 aD (some 80) (.field 35 (.tmp 79) 0) (none),
 aD (some 81) (.binOp .xor 3 (.tmp 80) (.const (.int .i64 0)) 3) (none),
 aD (some 82) (.field 35 (.tmp 79) 1) (none),
 aD (some 83) (.binOp .xor 3 (.tmp 82) (.const (.int .i64 0)) 3) (none),
 aD (some 84) (.field 73 (.tmp 61) 3) (none),
 aD (some 85) (.binOp .xor 3 (.tmp 84) (.const (.int .i64 0)) 3) (none),
 aD (some 86) (.field 73 (.tmp 61) 4) (none),
 aD (some 87) (.binOp .xor 3 (.tmp 86) (.const (.int .i64 0)) 3) (none),
 aD (some 88) (.field 73 (.tmp 61) 7) (none),
 aD (some 89) (.call { callee:=.builtin .len,args:=#[.tmp 88],argTypes:=#[42] }) (none),
 aD (some 90) (.binOp .eql 3 (.tmp 89) (.const (.int .i64 1)) 3) (none),
 aD (none) (.field 3 (.const (.int .i64 0)) 0) (some (95,false)),
 aD (some 91) (.binOp .eql 42 (.tmp 88) (.const (.slice none 0 0)) 42) (none),
 aD (none) (.field 3 (.const (.int .i64 0)) 0) (some (97,true)),
 aD (some 92) (.indexAddr 42 (.tmp 88) (.const (.int .i64 0))) (none),
 aD (some 93) (.load 3 (.tmp 92)) (none),
 aD (some 94) (.indexAddr 24 (.tmp 9) (.const (.int .i64 2))) (none),
 aD (some 95) (.load 73 (.tmp 94)) (none),
 aD (some 96) (.field 73 (.tmp 95) 0) (none),
 aD (some 97) (.binOp .add 9 (.tmp 96) (.const (.string ar)) 9) (none),
 aD (some 98) (.field 73 (.tmp 95) 1) (none),
 aD (some 99) (.field 35 (.tmp 98) 0) (none),
 aD (some 100) (.binOp .xor 3 (.tmp 99) (.const (.int .i64 0)) 3) (none),
 aD (some 101) (.field 35 (.tmp 98) 1) (none),
 aD (some 102) (.binOp .xor 3 (.tmp 101) (.const (.int .i64 0)) 3) (none),
 aD (some 103) (.field 73 (.tmp 95) 2) (none),
 aD (some 104) (.field 35 (.tmp 103) 0) (none),
 aD (some 105) (.binOp .xor 3 (.tmp 104) (.const (.int .i64 0)) 3) (none),
 aD (some 106) (.field 35 (.tmp 103) 1) (none),
 aD (some 107) (.binOp .xor 3 (.tmp 106) (.const (.int .i64 0)) 3) (none),
 aD (some 108) (.field 73 (.tmp 95) 5) (none),
 aD (some 109) (.field 35 (.tmp 108) 0) (none),
 aD (some 110) (.binOp .xor 3 (.tmp 109) (.const (.int .i64 0)) 3) (none),
 aD (some 111) (.field 35 (.tmp 108) 1) (none),
 aD (some 112) (.binOp .xor 3 (.tmp 111) (.const (.int .i64 0)) 3) (none),
 aD (some 113) (.field 73 (.tmp 95) 6) (none),
 aD (some 114) (.field 35 (.tmp 113) 0) (none),
 aD (some 115) (.binOp .xor 3 (.tmp 114) (.const (.int .i64 0)) 3) (none),
 aD (some 116) (.field 35 (.tmp 113) 1) (none),
 aD (some 117) (.binOp .xor 3 (.tmp 116) (.const (.int .i64 0)) 3) (none),
 aD (some 118) (.field 73 (.tmp 95) 3) (none),
 aD (some 119) (.binOp .xor 3 (.tmp 118) (.const (.int .i64 0)) 3) (none),
 aD (some 120) (.field 73 (.tmp 95) 4) (none),
 aD (some 121) (.binOp .xor 3 (.tmp 120) (.const (.int .i64 0)) 3) (none),
 aD (some 122) (.field 73 (.tmp 95) 7) (none),
 aD (some 123) (.call { callee:=.builtin .len,args:=#[.tmp 122],argTypes:=#[42] }) (none),
 aD (some 124) (.binOp .eql 42 (.tmp 122) (.const (.slice none 0 0)) 42) (none),
 aD (none) (.field 3 (.const (.int .i64 0)) 0) (some (131,false)),
 aD (some 125) (.call { callee:=.builtin .len,args:=#[.tmp 10],argTypes:=#[25] }) (none),
 aD (some 126) (.binOp .eql 3 (.tmp 125) (.const (.int .i64 2)) 3) (none),
 aD (none) (.field 3 (.const (.int .i64 0)) 0) (some (134,false)),
 aD (some 127) (.binOp .eql 25 (.tmp 10) (.const (.slice none 0 0)) 25) (none),
 aD (none) (.field 3 (.const (.int .i64 0)) 0) (some (136,true)),
 aD (some 128) (.indexAddr 25 (.tmp 10) (.const (.int .i64 0))) (none),
 aD (some 129) (.load 67 (.tmp 128)) (none),
 aD (some 130) (.field 67 (.tmp 129) 0) (none),
 aD (some 131) (.binOp .add 9 (.tmp 130) (.const (.string ar)) 9) (none),
 aD (some 132) (.field 67 (.tmp 129) 1) (none),
 aD (some 133) (.binOp .xor 3 (.tmp 132) (.const (.int .i64 0)) 3) (none),
 aD (some 134) (.binOp .eql 3 (.tmp 132) (.const (.int .i64 0)) 3) (none),
 aD (none) (.field 3 (.const (.int .i64 0)) 0) (some (144,false)),
 aD (some 135) (.field 67 (.tmp 129) 2) (none),
 aD (some 136) (.binOp .xor 3 (.tmp 135) (.const (.int .i64 0)) 3) (none),
 aD (some 137) (.indexAddr 25 (.tmp 10) (.const (.int .i64 1))) (none),
 aD (some 138) (.load 67 (.tmp 137)) (none),
 aD (some 139) (.field 67 (.tmp 138) 0) (none),
 aD (some 140) (.binOp .add 9 (.tmp 139) (.const (.string ar)) 9) (none),
 aD (some 141) (.field 67 (.tmp 138) 1) (none),
 aD (some 142) (.binOp .xor 3 (.tmp 141) (.const (.int .i64 0)) 3) (none),
 aD (some 143) (.binOp .eql 3 (.tmp 141) (.const (.int .i64 1)) 3) (none),
 aD (none) (.field 3 (.const (.int .i64 0)) 0) (some (154,false)),
 aD (some 144) (.field 67 (.tmp 138) 2) (none),
 aD (some 145) (.binOp .xor 3 (.tmp 144) (.const (.int .i64 0)) 3) (none),
 aD (some 146) (.binOp .add 3 (.tmp 135) (.tmp 41) 3) (none),
 aD (some 147) (.binOp .add 3 (.tmp 135) (.tmp 43) 3) (none),
 aD (some 148) (.build 35 #[(0,.tmp 135),(1,.tmp 135)]) (none),
 aD (some 149) (.build 35 #[(0,.tmp 146),(1,.tmp 147)]) (none),
 aD (some 150) (.move (.const (.int .i64 0))) (none),
 aD (some 151) (.build 61 #[(0,.tmp 150),(1,.tmp 148),(2,.tmp 149)]) (none),
 aD (some 152) (.binOp .add 3 (.tmp 146) (.tmp 46) 3) (none),
 aD (some 153) (.binOp .add 3 (.tmp 147) (.tmp 48) 3) (none),
 aD (some 154) (.binOp .add 3 (.tmp 152) (.tmp 75) 3) (none),
 aD (some 155) (.binOp .add 3 (.tmp 153) (.tmp 77) 3) (none),
 aD (some 156) (.build 35 #[(0,.tmp 152),(1,.tmp 153)]) (none),
 aD (some 157) (.build 35 #[(0,.tmp 154),(1,.tmp 155)]) (none),
 aD (some 158) (.move (.const (.int .i64 1))) (none),
 aD (some 159) (.build 61 #[(0,.tmp 158),(1,.tmp 156),(2,.tmp 157)]) (none),
 aD (some 160) (.binOp .add 3 (.tmp 154) (.tmp 80) 3) (none),
 aD (some 161) (.binOp .add 3 (.tmp 155) (.tmp 82) 3) (none),
 aD (some 162) (.binOp .add 3 (.tmp 160) (.tmp 109) 3) (none),
 aD (some 163) (.binOp .add 3 (.tmp 161) (.tmp 111) 3) (none),
 aD (some 164) (.build 35 #[(0,.tmp 160),(1,.tmp 161)]) (none),
 aD (some 165) (.build 35 #[(0,.tmp 162),(1,.tmp 163)]) (none),
 aD (some 166) (.move (.const (.int .i64 2))) (none),
 aD (some 167) (.build 61 #[(0,.tmp 166),(1,.tmp 164),(2,.tmp 165)]) (none),
 aD (some 168) (.build 181 #[(0,.tmp 151),(1,.tmp 159),(2,.tmp 167)]) (none),
 aD (some 169) (.binOp .add 3 (.tmp 144) (.tmp 75) 3) (none),
 aD (some 170) (.binOp .add 3 (.tmp 144) (.tmp 77) 3) (none),
 aD (some 171) (.build 35 #[(0,.tmp 144),(1,.tmp 144)]) (none),
 aD (some 172) (.build 35 #[(0,.tmp 169),(1,.tmp 170)]) (none),
 aD (some 173) (.move (.const (.int .i64 1))) (none),
 aD (some 174) (.build 61 #[(0,.tmp 173),(1,.tmp 171),(2,.tmp 172)]) (none),
 aD (some 175) (.binOp .add 3 (.tmp 169) (.tmp 80) 3) (none),
 aD (some 176) (.binOp .add 3 (.tmp 170) (.tmp 82) 3) (none),
 aD (some 177) (.binOp .add 3 (.tmp 175) (.tmp 109) 3) (none),
 aD (some 178) (.binOp .add 3 (.tmp 176) (.tmp 111) 3) (none),
 aD (some 179) (.build 35 #[(0,.tmp 175),(1,.tmp 176)]) (none),
 aD (some 180) (.build 35 #[(0,.tmp 177),(1,.tmp 178)]) (none),
 aD (some 181) (.move (.const (.int .i64 2))) (none),
 aD (some 182) (.build 61 #[(0,.tmp 181),(1,.tmp 179),(2,.tmp 180)]) (none),
 aD (some 183) (.binOp .add 3 (.tmp 177) (.tmp 114) 3) (none),
 aD (some 184) (.binOp .add 3 (.tmp 178) (.tmp 116) 3) (none),
 aD (some 185) (.binOp .add 3 (.tmp 183) (.tmp 41) 3) (none),
 aD (some 186) (.binOp .add 3 (.tmp 184) (.tmp 43) 3) (none),
 aD (some 187) (.build 35 #[(0,.tmp 183),(1,.tmp 184)]) (none),
 aD (some 188) (.build 35 #[(0,.tmp 185),(1,.tmp 186)]) (none),
 aD (some 189) (.move (.const (.int .i64 0))) (none),
 aD (some 190) (.build 61 #[(0,.tmp 189),(1,.tmp 187),(2,.tmp 188)]) (none),
 aD (some 191) (.build 181 #[(1,.tmp 174),(2,.tmp 182),(0,.tmp 190)]) (none),
 aD (some 192) (.build 183 #[(0,.tmp 168),(1,.tmp 191)]) (none),
 aD (some 2) (.box 183 (.tmp 192)) (none)]
noncomputable def sU:Code:=.seq (.region 0 aS false) .ret
noncomputable def nS:Func:={ Tryz.f98 with ntmps:=193,body:=some sU }
noncomputable def cY:Program:={ toTables:=Tryz.progTables,funcs:=Tryz.funcs.setIfInBounds 98 nS }
end Go.Proofs
