/- Part of the proof of FieldLevels: see X45. -/
import Derived.Test.YtmkjeaacgibnoaaGreatX00
import Derived.Laws.Sem
import GoSem.Core.Layout
import GoSem.Dispatch
set_option linter.all false
open Go renaming FuncId->aa,Result->ab,Tables->ac,Program->ad,TypeId->ae,Unsupported->ag,unsupported->ai,program->ao,askRoom->ap,typeInfo->aq,underlying->ar,zeroValue->aw,loadCellsFrom->aB,storeVar->aF,runtimePanic->aH,boundsPanic->aI,byteOfCell->aL,cellOfByte->aT,cellAtBytes->a5
open Go.bJ.Ren renaming le_refl->a6,le_trans->a7
open Nat renaming le_refl->a8,le_trans->a9
open Array renaming append_assoc->ba,getElem?_setIfInBounds_ne->bb,getElem?_push_lt->bc,getElem?_eq_getElem->bd,foldl_toList->bg,toList_zipIdx->bi,mapM_eq_mapM_toList->bj
open Go.Sem renaming store->bl,runT->bm,run->bo,getObj->bp,setObj->bq
open Go.World renaming noCell->br,cell?->bs,farLoad->bt,shape?->bv,freeze->bx
open Go.Program renaming mk->bA,eqGuardType->bC,alikeButTags->bL,stoodInAs->bM,stoodInHeld->bR,packedAs->bT,packed->bX,holdsPacked->b1
open Go.Instr renaming sureAddr->b2,alloc->b3,box->b4,loadAt->b5,storeAt->b6,fill->b7
namespace Go.bJ
def Ls(ρ:Ren)(e:Event):Prop:=
 match e.loc with
 |.cell a=>e.sync=false/\∃r,ρ r a.block
 |.obj b=>e.sync=false/\∃r,ρ r b
 |.mark m=>lE m
 |.output=>False
 |.goroutines=>False
def Ls.mono{ρ a:Ren}(h:ρ.le a){e:Event}(x:Ls ρ e):Ls a e:=by
 obtain⟨l,w,s⟩:=e;cases l<;>simp only[Ls]at x ⊢
 ·exact⟨x.1,x.2.imp λ_ y=>h y⟩
 ·exact⟨x.1,x.2.imp λ_ y=>h y⟩
 ·exact x
def nX(w:World)(a i:Nat):Prop:=∃v,w.cell? ⟨a,i,none⟩=some v/\(v=.tuple #[]\/∃c,v=.agg c)
structure cE(G:Nat)(F:aa->Bool)(K:Code->Bool)(ρ:Ren)(w w':World)(aJ:Ren)(w1 aP:World)(new:Array Event):Prop where
 le:ρ.le aJ
 inj:aJ.bw G
 wr:WR G F K aJ w1 aP
 tape:w1.tape=aP.tape
 drawn:w1.drawn=aP.drawn
 wH:aP.tape=w'.tape
 XV:aP.os=w'.os
 mK:aP.output=w'.output
 size:w.heap.size<=w1.heap.size
 fV:w'.heap.size<=aP.heap.size
 frame:∀b,b<w'.heap.size->(∀a,¬ρ a b)->aP.heap[b]?=w'.heap[b]?
 N7:∀b,w'.heap.size<=b->b<aP.heap.size->∃a,aJ a b
 only:∀a b,aJ a b->ρ a b\/(w.heap.size<=a/\w'.heap.size<=b)
 ev:∀e∈new,Ls aJ e
 hol:∀a b,ρ a b->∀i,nX w1 a i->nX w a i/\aP.cell? ⟨b,i,none⟩=w'.cell? ⟨b,i,none⟩
section
variable {G:Nat}{F:aa->Bool}{K:Code->Bool}
def cE.refl{ρ:Ren}{w w':World}(a:ρ.bw G)(b:WR G F K ρ w w')(c:w.tape=w'.tape)(hd:w.drawn=w'.drawn):cE G F K ρ w w' ρ w w' #[]:=
 ⟨a6 _,a,b,c,hd,rfl,rfl,rfl,a8 _,a8 _,λ_ _ _=>rfl,λ_ d e=>absurd e (Nat.not_lt.2 d),λ_ _ h=>.inl h,by simp,λ_ _ _ _ h=>⟨h,rfl⟩⟩
def cE.trans{ρ d f:Ren}{w w' w1 c w2 g:World}{e1 j:Array Event}(h:cE G F K ρ w w' d w1 c e1)(k:cE G F K d w1 c f w2 g j):cE G F K ρ w w' f w2 g (e1++j):=by
 refine⟨a7 h.le k.le,k.inj,k.wr,k.tape,k.drawn,k.wH.trans h.wH,k.XV.trans h.XV,k.mK.trans h.mK,a9 h.size k.size,a9 h.fV k.fV,λb hb l=>?_,λb m n=>?_,λa b x=>?_,λe o=>?_,λa b x i p=>?_⟩
 ·rw[k.frame b (Nat.lt_of_lt_of_le hb h.fV) (λa x=>?_),h.frame b hb l]
  rcases h.only a b x with y|⟨_,y⟩
  ·exact l a y
  ·omega
 ·rcases Nat.lt_or_ge b c.heap.size with hl|hg
  ·exact(h.N7 b m hl).imp λ_ x=>k.le x
  ·exact k.N7 b hg n
 ·rcases k.only a b x with y|⟨y1,y2⟩
  ·exact h.only a b y
  ·exact .inr ⟨a9 h.size y1,a9 h.fV y2⟩
 ·rcases Array.mem_append.1 o with x|x
  ·exact(h.ev e x).mono k.le
  ·exact k.ev e x
 ·obtain⟨y,e⟩:=k.hol a b (h.le x) i p;obtain⟨z,q⟩:=h.hol a b x i y;exact⟨z,e.trans q⟩
end
section
variable (G:Nat)(F:aa->Bool)(K:Code->Bool)
def mL{d e:Type}(RA:Ren->d->e->Prop)(ρ:Ren)(w w':World)(f:Array Event)(g:ab e×Array Event):ab d->Prop
 |.ok a w1=>∃b h c new,g=(.ok h c,f++new)/\cE G F K ρ w w' b w1 c new/\RA b a h
 |.halt (.panic v) w1=>∃b v' c new,g=(.halt (.panic v') c,f++new)/\cE G F K ρ w w' b w1 c new/\VR F b v v'
 |.halt (.stuck _) _=>True
 |.halt (.unsupported u) _=>dw u=true
 |.halt _ _=>False
def qp{f g:Type}(RA:Ren->f->g->Prop)(ρ:Ren)(w w':World)(h:Array Event)(i:ab g×Array Event):ab f->Prop
 |.ok a w1=>∃b j c new e d,i=(.ok j c,h++new)/\cE G F K ρ w w' b (w1.re e d) c new/\RA b a j
 |.halt (.panic v) w1=>∃b v' c new e d,i=(.halt (.panic v') c,h++new)/\cE G F K ρ w w' b (w1.re e d) c new/\VR F b v v'
 |.halt (.stuck _) _=>True
 |.halt (.unsupported u) _=>dw u=true
 |.halt _ _=>False
end
section
variable {T:ac}{fB fA:Array Func}{G:Nat}{F:aa->Bool}{K:Code->Bool}
def mL.step{f g:Type}{RA:Ren->f->g->Prop}{ρ i:Ren}{w w' w1 j:World}{l new:Array Event}{m:ab g×Array Event}{r:ab f}
 (hs:cE G F K ρ w w' i w1 j new) (h:mL G F K RA i w1 j (l++new) m r):mL G F K RA ρ w w' l m r:=by
 match r,h with
 |.ok a w2,⟨b,n,c,d,e,k,o⟩=>exact⟨b,n,c,new++d,by rw[e,ba],hs.trans k,o⟩
 |.halt (.panic v) w2,⟨b,v',c,d,e,k,hv⟩=>exact⟨b,v',c,new++d,by rw[e,ba],hs.trans k,hv⟩
 |.halt .blocked _,h=>exact h
 |.halt .waiting _,h=>exact h
 |.halt (.exit _) _,h=>exact h
 |.halt (.fatal _) _,h=>exact h
 |.halt (.throw _) _,h=>exact h
 |.halt .goexit _,h=>exact h
 |.halt (.unsupported _) _,h=>exact h
 |.halt (.stuck _) _,_=>trivial
def mL.zu{f g:Type}{RA:Ren->f->g->Prop}{ρ:Ren}{w w':World}{i:Array Event}{j:ab g×Array Event}{r:ab f}(h:mL G F K RA ρ w w' i j r):qp G F K RA ρ w w' i j r:=by
 match r,h with
 |.ok a w2,⟨b,l,c,d,e,k,m⟩=>exact⟨b,l,c,d,w2.tape,w2.drawn,e,k,m⟩
 |.halt (.panic v) w2,⟨b,v',c,d,e,k,hv⟩=>exact⟨b,v',c,d,w2.tape,w2.drawn,e,k,hv⟩
 |.halt .blocked _,h=>exact h
 |.halt .waiting _,h=>exact h
 |.halt (.exit _) _,h=>exact h
 |.halt (.fatal _) _,h=>exact h
 |.halt (.throw _) _,h=>exact h
 |.halt .goexit _,h=>exact h
 |.halt (.unsupported _) _,h=>exact h
 |.halt (.stuck _) _,_=>trivial
def qp.step{i j:Type}{RA:Ren->i->j->Prop}{ρ l:Ren}{w w' w1 m:World}{n new:Array Event}{o:ab j×Array Event}{r:ab i}
 (hs:cE G F K ρ w w' l w1 m new) (h:qp G F K RA l w1 m (n++new) o r):qp G F K RA ρ w w' n o r:=by
 match r,h with
 |.ok a w2,⟨b,p,c,f,g,d,e,k,q⟩=>exact⟨b,p,c,new++f,g,d,by rw[e,ba],hs.trans k,q⟩
 |.halt (.panic v) w2,⟨b,v',c,f,g,d,e,k,hv⟩=>exact⟨b,v',c,new++f,g,d,by rw[e,ba],hs.trans k,hv⟩
 |.halt .blocked _,h=>exact h
 |.halt .waiting _,h=>exact h
 |.halt (.exit _) _,h=>exact h
 |.halt (.fatal _) _,h=>exact h
 |.halt (.throw _) _,h=>exact h
 |.halt .goexit _,h=>exact h
 |.halt (.unsupported _) _,h=>exact h
 |.halt (.stuck _) _,_=>trivial
def run_store{P:ad}{b:Type}(a:Addr)(v:Value)(k:Sem b)(w:World)(d:∀c,v≠.agg c)(e:∀c,v≠.tuple c) :
 (bl .plain a v k).run P w=match w.cell? a with
  |some _=>if w.frozen? a then .halt (.unsupported (.unsafePointer "a write to bytes that a string shares")) w else k.run P (w.setCell a v)
  |none=>match w.farStore P a v false with
   |.ok (w,_)=>k.run P w
   |.error h=>.halt h w:=by
 cases v<;>first|rfl|exact absurd rfl (d _)|exact absurd rfl (e _)
def qR{P:ad}{b:Type}(a:Addr)(v:Value)(k:Sem b)(w:World)(es:Array Event)(d:∀c,v≠.agg c)(e:∀c,v≠.tuple c) :
 (bl .plain a v k).runT P w es=match w.cell? a with
  |some _=>if w.frozen? a then(.halt (.unsupported (.unsafePointer "a write to bytes that a string shares")) w,es) else k.runT P (w.setCell a v) (es.push ⟨.cell a,true,false⟩)
  |none=>match w.farStore P a v false with
   |.ok (w,f)=>k.runT P w (es++f.toArray.map (⟨.cell ·,true,false⟩))
   |.error h=>(.halt h w,es):=by
 cases v<;>first|rfl|exact absurd rfl (d _)|exact absurd rfl (e _)
def mM{ρ:Ren}{w:World}{a:Addr}{o o':Obj}(h:w.heap[a.block]?=some o)(b:OR F K ρ o o')(s:String):w.noCell a s=.stuck s:=by
 unfold br;rw[h];cases b<;>rfl
def lF{ρ:Ren}{w w':World}(i:WR G F K ρ w w'){a a':Addr}(e:AR ρ a a') :
 (w.cell? a=none/\∃s:String,∀m,w.farLoad ⟨T,fB⟩ a m=.error (.stuck s))\/∃v v' c c' t d,w.cell? a=some v/\w'.cell? a'=some v'/\VR F ρ v v'/\a.spot=none/\w.heap[a.block]?=some (.cells c t d)/\w'.heap[a'.block]?=some (.cells c' t d)/\VA F ρ c c':=by
 obtain⟨o,l,b,g,j⟩:=i.obj e.1
 cases j with
 |@cells c c' t d hc=>
  by_cases hs:a.spot=none
  ·rcases VA.get? hc a.off with⟨f,h⟩|⟨v,v',f,h,hv⟩
   ·left;refine⟨by simp[bs,b,hs,f],"load: no such cell",λm=>?_⟩;simp only[bt,b,br]
   ·right;refine⟨v,v',c,c',t,d,by simp[bs,b,hs,f],?_,hv,hs,b,g,hc⟩;have k:a'.spot=none:=by rw[<-e.2.2];exact hs
    simp[bs,g,k,<-e.2.1,h]
  ·left;refine⟨by simp[bs,b,Option.isSome_iff_ne_none.2 hs],"load: no such cell",λm=>?_⟩;simp only[bt,b,br]
 |_=>
  left;refine⟨by simp[bs,b],"load: no such cell",λm=>?_⟩;simp only[bt,b,br]
def FP{ρ:Ren}{w w':World}(b:ρ.bw G)(c:WR G F K ρ w w')(d:w.tape=w'.tape)(hd:w.drawn=w'.drawn){e:Event}(f:Ls ρ e):cE G F K ρ w w' ρ w w' #[e]:=
 { cE.refl b c d hd with ev:=λx a=>by simp at a;rw[a];exact f }
def wI{ρ:Ren}{w w':World}(c:WR G F K ρ w w'){a a':Addr}(b:AR ρ a a'):w.frozen? a=w'.frozen? a':=by
 obtain⟨o,g,d,e,f⟩:=c.obj b.1;cases f<;>simp[World.frozen?,d,e,b.2.1]
def Lu{ρ:Ren}{w w':World}(d:WR G F K ρ w w'){r a:Nat}(e:ρ r a):w.shape? r=w'.shape? a:=by
 obtain⟨o,g,b,c,f⟩:=d.obj e
 cases f with
 |cells t h hc=>simp[bv,b,c,VA.size hc]
 |_=>simp[bv,b,c]
def wJ(w:World)(r a i:Nat)(o:Obj):({ w with heap:=w.heap.setIfInBounds r o }:World).cell? ⟨a,i,none⟩=if r=a/\r<w.heap.size then(match o with | .cells c _ _=>c[i]? | _=>none) else w.cell? ⟨a,i,none⟩:=by
 unfold bs;by_cases e:r=a
 ·subst e;by_cases h:r<w.heap.size
  ·simp[h];cases o<;>rfl
  ·simp[h,Array.setIfInBounds]
 ·simp[e,bb e]
def tQ(w:World)(o:Obj)(a i:Nat)(h:a<w.heap.size):({ w with heap:=w.heap.push o }:World).cell? ⟨a,i,none⟩=w.cell? ⟨a,i,none⟩:=by
 unfold bs;simp only[bc h,<-bd h]
def Hol(w w':World)(r d:Nat)(o o':Obj):Prop:=∀c t e,o=.cells c t e->∃b f a,o'=.cells b f a/\∀i,(∃v,c[i]?=some v/\(v=.tuple #[]\/∃c,v=.agg c))->nX w r i/\b[i]?=w'.cell? ⟨d,i,none⟩
def vW.hol{w w':World}{r a:Nat}{o o':Obj}(h:vW o):Hol w w' r a o o':=λc t b e=>absurd e (h c t b)
def lG{ρ:Ren}{w w':World}(j:ρ.bw G)(k:WR G F K ρ w w')(l:w.tape=w'.tape)(hd:w.drawn=w'.drawn){r f:Nat}(g:ρ r f){o o':Obj}(m:OR F K ρ o o'){new:Array Event}(n:∀e∈new,Ls ρ e)(p:Hol w w' r f o o') :
 cE G F K ρ w w' ρ { w with heap:=w.heap.setIfInBounds r o } { w' with heap:=w'.heap.setIfInBounds f o' } new:=
 ⟨a6 _,j,k.put j g m,l,hd,rfl,rfl,rfl,by simp,by simp,λb _ q=>by
   have:f≠b:=λe=>q r (e▸g);simp[bb this],
   λb E s=>by simp at s;omega,λ_ _ h=>.inl h,n,λa b x i d=>by
    unfold nX at d;rw[wJ]at d;by_cases e:r=a
    ·subst e;obtain rfl:=j.fn g x;obtain⟨u,v⟩:=k.lt g;rw[if_pos ⟨rfl,u⟩]at d
     cases o with
     |cells c t z=>
      obtain⟨H,I,A,rfl,hc⟩:=p c t z rfl;obtain⟨B,C⟩:=hc i d;refine⟨B,?_⟩;rw[wJ,if_pos ⟨rfl,v⟩];exact C
     |_=>obtain⟨_,d,_⟩:=d;cases d
    ·rw[if_neg λh=>e h.1]at d;have D:f≠b:=λy=>e (j.inj g (y▸x));refine⟨d,?_⟩
     rw[wJ,if_neg λh=>D h.1]⟩
def CQ{ρ:Ren}{w w':World}(e:ρ.bw G)(c:WR G F K ρ w w')(f:w.tape=w'.tape)(hd:w.drawn=w'.drawn){o o':Obj}(g:OR F K ρ o o') :
 cE G F K ρ w w' (ρ.ext w.heap.size w'.heap.size) { w with heap:=w.heap.push o } { w' with heap:=w'.heap.push o' } #[]:=
 ⟨Ren.kW _ _ _,e.ext c.fresh.1 c.fresh.2 c.pK c.gN,c.push (g.mono (Ren.kW _ _ _)),f,hd,rfl,rfl,rfl,by simp,by simp,λb hb _=>by
   show(w'.heap.push o')[b]?=_;rw[bc hb,<-bd hb],
   λb m j=>⟨w.heap.size,.inr ⟨rfl,by simp at j;omega⟩⟩,λa b h=>by
    rcases h with h|⟨rfl,rfl⟩
    ·exact .inl h
    ·exact .inr ⟨a8 _,a8 _⟩,by simp,λa b x i d=>by
    obtain⟨k,l⟩:=c.lt x;unfold nX at d;rw[tQ _ _ _ _ k]at d
    exact⟨d,tQ _ _ _ _ l⟩⟩
def CR{w w':World}{a a':Addr}{c c':Array Value}{t d:ae}{f fz':Nat×Nat}(g:w.heap[a.block]?=some (.cells c t f))(h:w'.heap[a'.block]?=some (.cells c' d fz'))(v v':Value)(j:∀c,v≠.agg c)(k:∀c,v≠.tuple c) :
 Hol w w' a.block a'.block (.cells (c.setIfInBounds a.off v) t f) (.cells (c'.setIfInBounds a.off v') d fz'):=by
 rintro _ _ _ e;cases e;refine⟨_,_,_,rfl,λi hi=>?_⟩;by_cases e:a.off=i
 ·subst e;rw[Array.getElem?_setIfInBounds_self]at hi;obtain⟨u,hi,b⟩:=hi
  split at hi
  ·injection hi with hi
   subst hi
   rcases b with b|⟨_,b⟩
   ·exact absurd b (k _)
   ·exact absurd b (j _)
  ·cases hi
 ·rw[bb e]at hi ⊢;refine⟨?_,?_⟩
  ·obtain⟨u,hi,b⟩:=hi;refine⟨u,?_,b⟩;show(match w.heap[a.block]? with|some (.cells c _ _)=>_|_=>none)=_;rw[g];exact hi
  ·show _=(match w'.heap[a'.block]? with|some (.cells c _ _)=>_|_=>none)
   rw[h];rfl
def IY{w w':World}{a a':Addr}{c c':Array Value}{t b:ae}{d fz':Nat×Nat}(f:w.heap[a.block]?=some (.cells c t d))(g:w'.heap[a'.block]?=some (.cells c' b fz'))(u h:Nat×Nat) :
 Hol w w' a.block a'.block (.cells c t u) (.cells c' b h):=by
 rintro _ _ _ e;cases e;refine⟨_,_,_,rfl,λi hi=>⟨?_,?_⟩⟩
 ·obtain⟨u,hi,j⟩:=hi;refine⟨u,?_,j⟩;show(match w.heap[a.block]? with|some (.cells c _ _)=>_|_=>none)=_;rw[f];exact hi
 ·show _=(match w'.heap[a'.block]? with|some (.cells c _ _)=>_|_=>none)
  rw[g];rfl
def bW.Tu{a b:Type}{RA:Ren->a->b->Prop}{ρ:Ren}{w w':World}{f:Array Event}{g:ab b×Array Event}{s:Sem a}(h:bW T fB s):mL G F K RA ρ w w' f g (s.run ⟨T,fB⟩ w):=by
 obtain⟨x,c,e⟩:=h.run w;have d:=e w.tape w.drawn;rw[show w.re w.tape w.drawn=w from rfl]at d;rw[d]
 cases x with
 |stuck _=>trivial
 |unsupported u=>exact c
 |_=>exact c.elim
def av.run{R S:Type}{RA:Ren->R->S->Prop}{s:Sem R}:∀{ρ:Ren}{s':Sem S}{w w':World}(d:Array Event),av T fB fA F K RA ρ s s'->ρ.bw T.globals.size->WR T.globals.size F K ρ w w'->w.tape=w'.tape->w.drawn=w'.drawn->
 mL T.globals.size F K RA ρ w w' d (s'.runT ⟨T,fA⟩ w' d) (s.run ⟨T,fB⟩ w):=by
 induction s with
 |pure a=>
  rintro ρ s' w w' d⟨z,rfl,h⟩g b f hd;exact⟨ρ,z,w',#[],by simp[bm],cE.refl g b f hd,h⟩
 |halt h=>
  intro ρ s' w w' d hs g b f hd;cases h<;>first|exact hs|trivial|(obtain⟨v',rfl,hv⟩:=hs;exact⟨ρ,v',w',#[],by simp[bm],cE.refl g b f hd,hv⟩)
 |load m a k j=>
  rintro ρ s' w w' d⟨m',z,k',rfl,rfl,rfl,x,l⟩g b f hd
  rcases lF (T:=T) (fB:=fB) b x with⟨E,s,J⟩|⟨v,v',c,U,t,y,E,J,hv,_⟩
  ·simp only[bo,E,J];trivial
  ·simp only[bo,E,bm,J];show mL T.globals.size F K RA ρ w w' d ((k' v').runT ⟨T,fA⟩ w' (d.push ⟨.cell z,false,false⟩)) _;exact mL.step (FP g b f hd (e:=⟨.cell z,false,false⟩) ⟨rfl,_,x.1⟩) (by simpa using j v (d.push _) (l v v' hv) g b f hd)
 |store m a v k j=>
  rintro ρ s' w w' d⟨m',z,v',k',rfl,rfl,rfl,x,hv,l⟩g b f hd;have key:(∀c,v≠.agg c)->(∀c,v≠.tuple c)->(∀c,v'≠.agg c)->(∀c,v'≠.tuple c)->
   mL T.globals.size F K RA ρ w w' d ((bl .plain z v' k').runT ⟨T,fA⟩ w' d) ((bl .plain a v k).run ⟨T,fB⟩ w):=by
   intro O L Q n4;rw[run_store _ _ _ _ O L,qR _ _ _ _ _ Q n4]
   rcases lF (T:=T) (fB:=fB) b x with⟨E,_⟩|⟨u,u',c,U,t,y,E,J,hu,hs,V,W,hc⟩
   ·rw[E];obtain⟨o,A,B,H,C⟩:=b.obj x.1;have hf:w.farStore ⟨T,fB⟩ a v false=.error (w.noCell a "store: no such cell"):=by
     cases C<;>simp[World.farStore,B]
    simp only[hf,mM B C];trivial
   ·have fR:z.spot=none:=by rw[<-x.2.2];exact hs
    rw[E,J];simp only[<-wI b x]
    split
    ·show dw (.unsafePointer _)=true;rfl
    ·rw[jR w a _ V hs,jR w' z _ W fR,<-x.2.1];have X:=lG g b f hd x.1 (.cells t y (VA.set hc a.off hv)) (new:=#[⟨.cell z,true,false⟩]) (λe M=>by simp at M;subst M;exact⟨rfl,_,x.1⟩) (CR V W v v' O L);exact mL.step X (by simpa using j (d.push ⟨.cell z,true,false⟩) l g X.wr f hd)
  cases hv<;>first|trivial|exact key (by simp) (by simp) (by simp) (by simp)
 |new o k j=>
  rintro ρ s' w w' d⟨A,k',rfl,C,l⟩g b f hd;simp only[bo,bm];have hs:=CQ g b f hd C;exact mL.step hs (by simpa using j w.heap.size d (l _ _ b.fresh.1 b.fresh.2 b.pK b.gN) hs.inj hs.wr f hd)
 |shape r k j=>
  rintro ρ s' w w' d(⟨D,k',rfl,I,l⟩|h)g b f hd
  ·simp only[bo,bm,<-Lu b I];exact j _ d (l _) g b f hd
  ·exact bW.Tu (s:=.shape r k) h
 |freeze a n k j=>
  rintro ρ s' w w' d⟨z,k',rfl,x,l⟩g b f hd;simp only[bo,bm];by_cases P:n=0
  ·subst P;have e1:w.freeze a 0=w:=by simp[bx]
   have N:w'.freeze z 0=w':=by simp[bx]
   rw[e1,N];exact j d l g b f hd
  obtain⟨o,A,B,H,C⟩:=b.obj x.1;have idle:∀{w:World}{a:Addr}{o:Obj},w.heap[a.block]?=some o->(∀c t y,o≠.cells c t y)->w.freeze a n=w:=by
   intro w a o h bu;unfold bx;rw[if_neg P];obtain⟨heap,_,_,_,_⟩:=w;congr 1;apply Array.ext_getElem?;intro i;rw[Array.getElem?_modify]
   split
   ·rename_i e;subst e;show Option.map _ heap[a.block]?=heap[a.block]?;have h':heap[a.block]?=some o:=h;rw[h'];cases o<;>first|rfl|exact absurd rfl (bu _ _ _)
   ·rfl
  cases C with
  |@cells c U t y hc=>
   obtain⟨Y,hi⟩:=y;rw[iz w a n P B,iz w' z n P H,<-x.2.1];have hs:=lG g b f hd x.1 (.cells t (if Y==hi then(a.off,a.off+n) else(min Y a.off,max hi (a.off+n))) hc) (new:=#[]) (by simp) (IY B H _ _);exact mL.step hs (by simpa using j d l g hs.wr f hd)
  |_=>
   rw[idle B (by simp),idle H (by simp)];exact j d l g b f hd
 |frozen a k j=>
  rintro ρ s' w w' d(⟨z,k',rfl,x,l⟩|h)g b f hd
  ·simp only[bo,bm,<-wI b x];exact j _ d (l _) g b f hd
  ·exact bW.Tu (s:=.frozen a k) h
 |getObj r k j=>
  rintro ρ s' w w' d⟨D,k',rfl,I,l⟩g b f hd;obtain⟨o,A,B,H,C⟩:=b.obj I;have key:(∀c t y,o≠.cells c t y)->(∀c t y,A≠.cells c t y)->A.isChan=false->
   mL T.globals.size F K RA ρ w w' d ((bp D k').runT ⟨T,fA⟩ w' d) ((bp r k).run ⟨T,fB⟩ w):=by
   intro O L Q;have e1:(bp r k).run ⟨T,fB⟩ w=(k o).run ⟨T,fB⟩ w:=by
    simp only[bo,B]
   have N:(bp D k').runT ⟨T,fA⟩ w' d=(k' A).runT ⟨T,fA⟩ w' (d.push ⟨.obj D,false,false⟩):=by
    simp only[bm,H];cases A<;>first|rfl|exact absurd rfl (L _ _ _)|(simp only[Q])
   rw[e1,N];exact mL.step (FP g b f hd (e:=⟨.obj D,false,false⟩) ⟨rfl,_,I⟩) (by simpa using j o (d.push _) (l o A C) g b f hd)
  cases C with
  |cells t y hc=>simp only[bo,B];trivial
  |_=>exact key (by simp) (by simp) rfl
 |setObj r o k j=>
  rintro ρ s' w w' d⟨D,A,k',rfl,I,⟨C,N8⟩,l⟩g b f hd;obtain⟨p,p',B,H,hp⟩:=b.obj I;have uQ:A.isChan=false:=by cases C<;>rfl
  have key:(∀c t y,p≠.cells c t y)->(∀c t y,p'≠.cells c t y)->
   mL T.globals.size F K RA ρ w w' d ((bq D A k').runT ⟨T,fA⟩ w' d) ((bq r o k).run ⟨T,fB⟩ w):=by
   intro O L;have e1:(bq r o k).run ⟨T,fB⟩ w=k.run ⟨T,fB⟩ { w with heap:=w.heap.setIfInBounds r o }:=by
    simp only[bo,B]
   have N:(bq D A k').runT ⟨T,fA⟩ w' d=k'.runT ⟨T,fA⟩ { w' with heap:=w'.heap.setIfInBounds D A } (d.push ⟨.obj D,true,false⟩):=by
    simp only[bm,H,uQ]
   rw[e1,N];have hs:=lG g b f hd I C (new:=#[⟨.obj D,true,false⟩]) (λe M=>by simp at M;subst M;exact⟨rfl,_,I⟩) N8.hol;exact mL.step hs (by simpa using j (d.push _) l g hs.wr f hd)
  cases hp with
  |cells t y hc=>simp only[bo,B];trivial
  |_=>exact key (by simp) (by simp)
 |choose q k j=>
  rintro ρ s' w w' d⟨k',rfl,l⟩g b f hd;simp only[bo,bm]
  split
  ·exact j _ d (l _) g b f hd
  ·rw[<-f,<-hd];have Z:WR T.globals.size F K ρ { w with drawn:=w.drawn+1 } { w' with drawn:=w.drawn+1 }:=⟨b.pK,b.gN,b.obj⟩
   have hs:cE T.globals.size F K ρ w w' ρ { w with drawn:=w.drawn+1 } { w' with drawn:=w.drawn+1 } #[]:=
    ⟨a6 _,g,Z,f,rfl,rfl,rfl,rfl,a8 _,a8 _,λ_ _ _=>rfl,λ_ E J=>absurd J (Nat.not_lt.2 E),λ_ _ h=>.inl h,by simp,λ_ _ _ _ h=>⟨h,rfl⟩⟩
   have:=j (q.cut (w.tape w.drawn q)) d (l _) g Z f rfl;exact mL.step hs (by simpa[f]using this)
 |sys c k j=>intro ρ s' w w' d h;exact h.elim
 |program k j=>
  rintro ρ s' w w' d(⟨k',rfl,l⟩|CS)g b f hd
  ·simp only[bo,bm];exact j _ d l g b f hd
  ·exact bW.Tu (s:=.program k) CS
 |mark m k j=>
  rintro ρ s' w w' d(⟨k',rfl,hm,l⟩|h)g b f hd
  ·simp only[bo,bm];exact mL.step (FP g b f hd (e:=⟨.mark m,false,true⟩) hm) (by simpa using j (d.push _) l g b f hd)
  ·exact bW.Tu (s:=.mark m k) h
end
section
variable {T:ac}{fB fA:Array Func}{F:aa->Bool}{K:Code->Bool}{ρ σ:Ren}
abbrev RV(F:aa->Bool):Ren->Value->Value->Prop:=λρ v v'=>VR F ρ v v'
abbrev fF{b:Type}:Ren->b->b->Prop:=λ_ a c=>a=c
abbrev RVA(F:aa->Bool):Ren->Array Value->Array Value->Prop:=λρ a b=>VA F ρ a b
abbrev RA_:Ren->Addr->Addr->Prop:=λρ a b=>AR ρ a b
def ah{b c:Type}{R:Ren->b->c->Prop}{a:b}{a':c}(h:R ρ a a'):av T fB fA F K R ρ (pure a) (pure a'):=⟨a',rfl,h⟩
def af{b c d e:Type}{RA:Ren->b->c->Prop}{g:Ren->d->e->Prop}{s:Sem b}{s':Sem c}{f:b->Sem d}{f':c->Sem e}(i:ρ.bw T.globals.size)(h:av T fB fA F K RA ρ s s')
 (hf:∀σ:Ren,ρ.le σ->σ.bw T.globals.size->∀a a',RA σ a a'->av T fB fA F K g σ (f a) (f' a')):av T fB fA F K g ρ (s >>= f) (s' >>= f'):=av.bind i h hf
def ak{a b:Type}{R:Ren->a->b->Prop}{m:String}{s':Sem b}:av T fB fA F K R ρ (stuck m:Sem a) s':=trivial
def aA{a b:Type}{R:Ren->a->b->Prop}{u:ag}{s':Sem b}(c:dw u=true:=by rfl):av T fB fA F K R ρ (ai u:Sem a) s':=c
def bz{a b c:Type}{R:Ren->b->c->Prop}{m:String}{f:a->Sem b}{s':Sem c}:av T fB fA F K R ρ ((stuck m:Sem a) >>= f) s':=trivial
def aM{a b c:Type}{R:Ren->b->c->Prop}{u:ag}{f:a->Sem b}{s':Sem c}(d:dw u=true:=by rfl):av T fB fA F K R ρ ((ai u:Sem a) >>= f) s':=d
def IZ{a a':Addr}(h:AR ρ a a'):av T fB fA F K (RV F) ρ (load a) (load a'):=⟨_,_,_,rfl,rfl,rfl,h,λ_ v' hv=>⟨v',rfl,hv⟩⟩
def N9{a a':Addr}(h:AR ρ a a'){v v':Value}(hv:VR F ρ v v'):av T fB fA F K fF ρ (store a v) (store a' v'):=⟨_,_,_,_,rfl,rfl,rfl,h,hv,(),rfl,rfl⟩
def jO{o o':Obj}(h:OR F K ρ o o'):av T fB fA F K (λσ r a=>σ r a) ρ (newObj o) (newObj o'):=⟨_,_,rfl,h,λ_ a _ _ _ _=>⟨a,rfl,Ren.IW _ _ _⟩⟩
def jS{r a:Nat}(h:ρ r a):av T fB fA F K fF ρ (shape r) (shape a):=.inl ⟨_,_,rfl,h,λx=>⟨x,rfl,rfl⟩⟩
def pL{a a':Addr}(h:AR ρ a a'):av T fB fA F K fF ρ (frozen a) (frozen a'):=.inl ⟨_,_,rfl,h,λx=>⟨x,rfl,rfl⟩⟩
def dA{r a:Nat}(h:ρ r a):av T fB fA F K (λσ o o'=>OR F K σ o o') ρ (getObj r) (getObj a):=⟨_,_,rfl,h,λ_ o' b=>⟨o',rfl,b⟩⟩
def dV{r a:Nat}(h:ρ r a){o o':Obj}(b:OR F K ρ o o')(c:vW o:=by intro _ _ _ h;cases h):av T fB fA F K fF ρ (setObj r o) (setObj a o'):=⟨_,_,_,rfl,h,⟨b,c⟩,(),rfl,rfl⟩
def lH(q:Question):av T fB fA F K fF ρ (choose q) (choose q):=⟨_,rfl,λn=>⟨n,rfl,rfl⟩⟩
def bI{a b:Type}{R:Ren->a->b->Prop}{f:ad->Sem a}{f':ad->Sem b}(h:av T fB fA F K R ρ (f ⟨T,fB⟩) (f' ⟨T,fA⟩)):av T fB fA F K R ρ (ao >>= f) (ao >>= f'):=.inl ⟨_,rfl,h⟩
def Lv:av T fB fA F K fF ρ (mark .noRoom) (mark .noRoom):=.inl ⟨_,rfl,rfl,(),rfl,rfl⟩
def FQ(n:Nat):av T fB fA F K fF ρ (ap n) (ap n):=by
 unfold ap
 split
 ·exact Lv
 ·exact ah rfl
def aN{a b:Type}{R:Ren->a->b->Prop}{c:Prop}[Decidable c]{s t:Sem a}{s' d:Sem b}(e:c->av T fB fA F K R ρ s s')(f:¬c->av T fB fA F K R ρ t d):av T fB fA F K R ρ (if c then s else t) (if c then s' else d):=by
 split
 ·exact e ‹_›
 ·exact f ‹_›
def rT{a b:Type}{R:Ren->a->b->Prop}{v v':Value}(h:VR F ρ v v'):av T fB fA F K R ρ (goPanic v:Sem a) (goPanic v':Sem b):=⟨v',rfl,h⟩
def ee(t:ae):av T fB fA F K fF ρ (aq t) (aq t):=by
 unfold aq;refine bI ?_;show(av T fB fA F K) fF ρ (match T.info? t with|some i=>pure i|none=>stuck "no such type") (match T.info? t with|some i=>pure i|none=>stuck "no such type")
 cases T.info? t with
 |none=>exact ak
 |some i=>exact ah rfl
def bk(t:ae):av T fB fA F K fF ρ (ar t) (ar t):=by
 unfold ar;refine bI ?_;show(av T fB fA F K) fF ρ (match(bA T fB).underlying t with|some i=>pure i|none=>stuck "no such type") (match(bA T fB).underlying t with|some i=>pure i|none=>stuck "no such type")
 cases(bA T fB).underlying t with
 |none=>exact ak
 |some i=>exact ah rfl
def bN(b:ρ.bw T.globals.size)(t:ae):av T fB fA F K fF ρ (sizeOf t) (sizeOf t):=af b (ee t) λ_ _ _ a c h=>ah (by rw[h])
def CU(b:ρ.bw T.globals.size)(t:ae):av T fB fA F K fF ρ (isAgg t) (isAgg t):=by
 refine af b (bk t) λσ _ _ a c h=>?_;subst h
 split<;>exact ah rfl
def dM(T:ac)(F:aa->Bool)(Z:ae->Bool):Prop:=(∀t i v,Z t=true->T.info? t=some i->i.zero=some v->VR F (λ_ _=>False) v v)/\∀i,T.info? 0=some i->i.methods.find? (·.name == "")=none
def VR.closed{v:Value}(h:VR F (λ_ _=>False) v v)(ρ:Ren):VR F ρ v v:=h.mono λ_ _ x=>x.elim
def gO{Z:ae->Bool}(b:dM T F Z)(c:ρ.bw T.globals.size){t:ae}(d:Z t=true):av T fB fA F K (λσ v v'=>VR F σ v v'/\v=v') ρ (aw t) (aw t):=by
 unfold aw aq;show(av T fB fA F K) _ ρ ((ao >>= λp=>_) >>= _) _;refine af (RA:=λσ(i a:TypeInfo)=>i=a/\T.info? t=some i) c ?_ λσ _ _ i a h=>?_
 ·refine bI ?_;show(av T fB fA F K) _ ρ (match T.info? t with|some i=>pure i|none=>stuck "no such type") (match T.info? t with|some i=>pure i|none=>stuck "no such type")
  cases e:T.info? t with
  |none=>exact ak
  |some i=>exact ah ⟨rfl,rfl⟩
 ·obtain⟨rfl,hi⟩:=h
  cases hv:i.zero with
  |none=>simp only;exact aA
  |some v=>simp only;exact ah ⟨VR.closed (b.1 t i v d hi hv) σ,rfl⟩
def tR(f:ρ.bw T.globals.size){a a':Addr}(h:AR ρ a a')(n:Nat):∀(i:Nat){b d:Array Value},VA F ρ b d->av T fB fA F K (RVA F) ρ (aB a i n b) (aB a' i n d):=by
 induction n generalizing ρ with
 |zero=>intro i b d e;exact ah e
 |succ n g=>
  intro i b d e;exact af f (IZ (h.add i)) λσ c j v v' hv=>g j (h.mono c) (i+1) (VA.push (VA.mono c e) hv)
def rU(b:ρ.bw T.globals.size){a a':Addr}(h:AR ρ a a')(n:Nat):av T fB fA F K (RVA F) ρ (loadCells a n) (loadCells a' n):=tR b h n 0 VA.nil
def qD(d:ρ.bw T.globals.size){a a':Addr}(h:AR ρ a a'){vs c:List Value}(hv:cU F ρ vs c):∀i:Nat,av T fB fA F K fF ρ (storeCells a vs i) (storeCells a' c i):=by
 induction vs generalizing ρ c with
 |nil=>intro i;cases hv;exact ah rfl
 |cons v vs e=>
  intro i
  cases hv with
  |cons f g=>exact af d (N9 (h.add i) f) λσ b j _ _ _=>e j (h.mono b) (cU.mono b g) (i+1)
def wN(e:ρ.bw T.globals.size)(t:ae){a a':Addr}(h:AR ρ a a'):av T fB fA F K (RV F) ρ (loadVar t a) (loadVar t a'):=by
 refine af e (CU e t) λσ d f b b' hb=>?_;subst hb;refine aN (λ_=>?_) λ_=>IZ (h.mono d);refine af f (bN f t) λk i g n n' j=>?_;subst j;exact af g (rU g ((h.mono d).mono i) n) λ_ _ _ c l hc=>ah (VR.agg hc)
def CV(c:ρ.bw T.globals.size)(t:ae){a a':Addr}(h:AR ρ a a'){v v':Value}(hv:VR F ρ v v'):av T fB fA F K fF ρ (aF t a v) (aF t a' v'):=by
 unfold aF;refine af c (bN c t) λσ b d n n' e=>?_;subst e;have hs:=VA.size hv.cells;rw[hs]
 split
 ·exact bz
 ·exact qD d (h.mono b) (cU.mono b hv.cells) 0
def tS(a:ρ.bw T.globals.size)(t:ae){c c':Array Value}(h:VA F ρ c c'):av T fB fA F K RA_ ρ (newRow t c) (newRow t c'):=
 af a (jO (.cells t (0,0) h)) λ_ _ _ _ _ b=>ah ⟨b,rfl,rfl⟩
def zZ(a:ρ.bw T.globals.size)(t:ae){v v':Value}(h:VR F ρ v v'):av T fB fA F K RA_ ρ (newVar t v) (newVar t v'):=tS a t h.cells
def kI(f:ρ.bw T.globals.size)(t:ae){c c':Array Value}(h:VA F ρ c c')(off:Nat):av T fB fA F K (RV F) ρ (part t c off) (part t c' off):=by
 refine af f (CU f t) λσ a g b b' hb=>?_;subst hb;refine aN (λ_=>?_) λ_=>?_
 ·refine af g (bN g t) λk i l n n' j=>?_;subst j;exact ah (VR.agg (VA.extract (VA.mono i (VA.mono a h)) _ _))
 ·rcases VA.get? (VA.mono a h) off with⟨d,e⟩|⟨v,v',d,e,hv⟩
  ·rw[d,e];exact ak
  ·rw[d,e];exact ah hv
def jT{v v':Value}(h:VR F ρ v v'):av T fB fA F K fF ρ (asIntOf v) (asIntOf v'):=by
 cases h<;>first|exact ah rfl|exact ak|exact aA
def Oa(b:ρ.bw T.globals.size){v v':Value}(h:VR F ρ v v'):av T fB fA F K fF ρ (asInt v) (asInt v'):=af b (jT h) λ_ _ _ a c e=>ah (by rw[e])
def tU{v v':Value}(h:VR F ρ v v'):av T fB fA F K fF ρ (asBool v) (asBool v'):=by
 cases h<;>first|exact ah rfl|exact ak
def Ob{v v':Value}(h:VR F ρ v v'):av T fB fA F K (RVA F) ρ (asAgg v) (asAgg v'):=by
 cases h<;>first|(rename_i h;exact ah h)|exact ak
def cX{a b:Type}{R:Ren->a->b->Prop}(m:String):av T fB fA F K R ρ (aH (.error m):Sem a) (aH (.error m):Sem b):=by
 unfold aH;exact bI (rT (.iface _ (.string _)))
def zv{a b:Type}{R:Ren->a->b->Prop}(m:String):av T fB fA F K R ρ (aH (.plain m):Sem a) (aH (.plain m):Sem b):=by
 unfold aH;exact bI (rT (.iface _ (.string _)))
def nY{a b:Type}{R:Ren->a->b->Prop}:av T fB fA F K R ρ (aH .nilDeref:Sem a) (aH .nilDeref:Sem b):=by
 unfold aH;exact bI (rT (.iface _ (.string _)))
def nZ{a b:Type}{R:Ren->a->b->Prop}(x y:Int)(s:Bool)(c:BoundsCode):av T fB fA F K R ρ (aH (.bounds x y s c):Sem a) (aH (.bounds x y s c):Sem b):=by
 unfold aH;exact bI (rT (.iface _ (.agg (.cons (.int _ _) (.cons (.int _ _) (.cons (.bool _) (.cons (.int _ _) .nil)))))))
def dW(d:ρ.bw T.globals.size){a b:Type}{R:Ren->a->b->Prop}(k:IntKind)(x y:Int)(c:BoundsCode):av T fB fA F K R ρ (aI k x y c:Sem a) (aI k x y c:Sem b):=by
 unfold aI;refine aN (λ_=>?_) λ_=>nZ _ _ _ _;exact⟨_,rfl,λn=>nZ _ _ _ _⟩
def z7{v v':Value}(h:VR F ρ v v'):av T fB fA F K RA_ ρ (asAddr v) (asAddr v'):=by
 cases h<;>first|exact nY|exact ak|(rename_i h;exact ah h)
def iV{v v':Value}(h:VR F ρ v v'):av T fB fA F K RA_ ρ (b2 v) (b2 v'):=by
 cases h<;>first|exact ak|(rename_i h;exact ah h)
def Oc{Z:ae->Bool}(c:dM T F Z)(a:ρ.bw T.globals.size){t:ae}(d:Z t=true):av T fB fA F K (RV F) ρ (b3 t true (.tuple #[])) (b3 t true (.tuple #[])):=by
 unfold b3;refine af a (gO c a d) λσ _ b z f h=>?_;exact af b (zZ b t h.1) λ_ _ _ _ _ e=>ah (.ptr e)
def XY(a:ρ.bw T.globals.size)(t:ae){v v':Value}(h:VR F ρ v v'):av T fB fA F K (RV F) ρ (b4 t v) (b4 t v'):=
 af a (zZ a t h) λ_ _ _ _ _ b=>ah (.ptr b)
def Lx(a:ρ.bw T.globals.size)(t:ae){v v':Value}(h:VR F ρ v v'):av T fB fA F K (RV F) ρ (b5 t v) (b5 t v'):=
 af a (iV h) λ_ _ b _ _ c=>wN b t c
def FR(c:ρ.bw T.globals.size)(t:ae){v v' x b:Value}(h:VR F ρ v v')(d:VR F ρ x b):av T fB fA F K fF ρ (b6 t v x) (b6 t v' b):=
 af c (iV h) λ_ a e _ _ f=>CV e t f (d.mono a)
inductive kX(F:aa->Bool)(ρ:Ren):List (Nat×Value)->List (Nat×Value)->Prop
 |nil:kX F ρ [] []
 |cons (i:Nat) {v v':Value} {l l':List (Nat×Value)} (h:VR F ρ v v') (t:kX F ρ l l'):kX F ρ ((i,v)::l) ((i,v')::l')
def kX.mono{l l':List (Nat×Value)}(h:ρ.le σ)(x:kX F ρ l l'):kX F σ l l':=by
 induction x with
 |nil=>exact .nil
 |cons i a _ b=>exact .cons i (a.mono h) b
def Od(off:Nat):∀{l l':List Value}{cs cs':Array Value}(j:Nat),cU F ρ l l'->VA F ρ cs cs'->
 VA F ρ ((l.zipIdx j).foldl (λcs(c,j)=>cs.setIfInBounds (off+j) c) cs) ((l'.zipIdx j).foldl (λcs(c,j)=>cs.setIfInBounds (off+j) c) cs'):=by
 intro l
 induction l with
 |nil=>intro l' cs cs' j h hc;cases h;exact hc
 |cons v l a=>
  intro l' cs cs' j h hc
  cases h with
  |cons b d=>simpa using a (j+1) d (VA.set hc (off+j) b)
def wO(place:Nat->Option (Nat×Nat)):∀{l l':List (Nat×Value)}{cs cs':Array Value},kX F ρ l l'->VA F ρ cs cs'->
 (b7 place cs l=none/\b7 place cs' l'=none)\/∃r a,b7 place cs l=some r/\b7 place cs' l'=some a/\VA F ρ r a:=by
 intro l
 induction l with
 |nil=>intro l' cs cs' h hc;cases h;exact .inr ⟨_,_,rfl,rfl,hc⟩
 |cons p l b=>
  intro l' cs cs' h hc
  cases h with
  |@cons i v v' _ l' hv t=>
   simp only[b7]
   cases e:place i with
   |none=>exact .inl ⟨rfl,rfl⟩
   |some c=>
    obtain⟨off,size⟩:=c;simp only;rw[<-VA.size hv.cells,<-VA.size hc]
    split
    ·exact .inl ⟨rfl,rfl⟩
    ·refine b t ?_;have d:=Od (F:=F) (ρ:=ρ) off 0 hv.cells hc;rw[<-bg,<-bg,bi,bi];exact d
def FU{d i:Type}(e:ρ.bw T.globals.size){f f':d->Sem i}:∀(l:List d),(∀x∈l,∀σ:Ren,ρ.le σ->σ.bw T.globals.size->av T fB fA F K fF σ (f x) (f' x))->av T fB fA F K fF ρ (l.mapM f) (l.mapM f'):=by
 intro l
 induction l generalizing ρ with
 |nil=>intro _;simp only[List.mapM_nil];exact ah rfl
 |cons x l j=>
  intro h;simp only[List.mapM_cons];refine af e (h x (by simp) ρ (a6 _) e) λσ c g a p k=>?_;refine af g (j g λy hy m n o=>h y (by simp[hy]) m (a7 c n) o) λ_ _ _ b b' hb=>?_;exact ah (by rw[k,hb])
def CW{c d:Type}(g:ρ.bw T.globals.size){f f':c->Sem d}(l:Array c)(h:∀x∈l.toList,∀σ:Ren,ρ.le σ->σ.bw T.globals.size->av T fB fA F K fF σ (f x) (f' x)):av T fB fA F K fF ρ (l.mapM f) (l.mapM f'):=by
 rw[bj,bj];have:∀(s b:Sem (List d)),av T fB fA F K fF ρ s b->av T fB fA F K fF ρ (Functor.map List.toArray s) (Functor.map List.toArray b):=λs b h=>by
  rw[map_eq_pure_bind,map_eq_pure_bind];exact af g h λ_ _ _ a i e=>ah (by rw[e])
 exact this _ _ (FU g l.toList h)
end
section
variable (T:ac)(f g:Array Func)
def lI(d:Nat):aL ⟨T,f⟩ d=aL ⟨T,g⟩ d:=by
 induction d with
 |zero=>rfl
 |succ d a=>funext t off;simp only[aL,a];rfl
def tV(d:Nat):aT ⟨T,f⟩ d=aT ⟨T,g⟩ d:=by
 induction d with
 |zero=>rfl
 |succ d a=>funext t off;simp only[aT,a];rfl
def rV(d:Nat):a5 ⟨T,f⟩ d=a5 ⟨T,g⟩ d:=by
 funext e count off bytes;unfold a5;simp only[lI T f g,tV T f g];rfl
def kJ(d:Nat):bC ⟨T,f⟩ d=bC ⟨T,g⟩ d:=by
 induction d with
 |zero=>rfl
 |succ d a=>funext t;simp only[bC,a];rfl
def uR(d:Nat):bL ⟨T,f⟩ d=bL ⟨T,g⟩ d:=by
 induction d with
 |zero=>rfl
 |succ d a=>funext t u;simp only[bL,a]
def vD(t:ae):bM ⟨T,f⟩ t=bM ⟨T,g⟩ t:=by
 simp only[bM,uR T f g];try rfl
def rW(t:ae):bR ⟨T,f⟩ t=bR ⟨T,g⟩ t:=by
 simp only[bR,vD T f g];try rfl
def wP(t:ae):bT ⟨T,f⟩ t=bT ⟨T,g⟩ t:=by
 simp only[bT,uR T f g];try rfl
def Bb(t:ae):bX ⟨T,f⟩ t=bX ⟨T,g⟩ t:=by
 simp only[bX,wP T f g]
def rX(d:Nat):b1 ⟨T,f⟩ d=b1 ⟨T,g⟩ d:=by
 induction d with
 |zero=>rfl
 |succ d a=>funext t;simp only[b1,a,Bb T f g];rfl
end
end Go.bJ
