/- Part of the proof of FieldFlat and FieldMarshals. -/
import Derived.Test.YtmkjeaacgibnoaaGreatY21
set_option linter.all false
open Go renaming FuncId->aa,Goroutine->ab,TypeId->ac,TypeDesc->ad,loadVar->ae
open List renaming range'->ai,range->ao,map_toArray->ap,map_cons->aq,map_nil->ar
open Go.bJ renaming codeOk->aw,Way->aB
open Go.Proofs.Tryz renaming progTables->aF
open Go.ConcN renaming upd_same->aH,upd_ne->aI
open ByteArray renaming empty->aJ
open Go.Instr renaming build->aL
namespace Go.Proofs
open Go.bJ Go.Conc Go.Ph
open Go.ConcN (upd upd_ne upd_same)
set_option maxRecDepth 100000
section
variable {f:aa}{R:Value->World->Prop}{g0:ab}{w0 w w':World}{H:Nat->Value}{r:List Value}{cs:List Frame}{i d x y:Nat}{ρ:Ren}
def Wi.move{v:Value}(h:Wi f R g0 w0 r cs H i w)(hi:i<206)(a:aS[i]?=some (aD (some d) (.move (.const v)) none))(hd:d<193):Wi f R g0 w0 r cs (upd H d v) (i+1) w:=by
 have e:execOp (SL 193 H r aS (i::ai (i+1) (206-(i+1))) [.code .ret] 98 cs).frame.eval (aD (some d) (.move (.const v)) none)=(pure (.value v):Sem Next):=rfl;have hs:=dF (P:=PC) (mn:=true) (v:=v) (w':=w) (w:=w) (g:=SL 193 H r aS (i::ai (i+1) (206-(i+1))) [.code .ret] 98 cs) (jb a rfl rfl) (by rw[e];rfl);exact .next h.hc a hd ((h.at hi).go bV h.hc hs)
def Wi.aeD{t:ac}{p:ad}{a a':Addr}(h:Wi f R g0 w0 r cs H i w)(hi:i<206)(j:aS[i]?=some (aD (some d) (.load t (.tmp x)) none))(g:WR Tryz.progTables.globals.size FF (aw aF FF ZZ) ρ w w')(z:AR ρ a a')(A:PC.underlying t=some p)(k:qy p=false)(hd:d<193)(B:x<193)(hv:H x=.pointer (some a)) :
 ∃v,(∃c t l,w'.heap[a'.block]?=some (.cells c t l))/\Wi f R g0 w0 r cs (upd H d v) (i+1) w:=by
 have e:execOp (SL 193 H r aS (i::ai (i+1) (206-(i+1))) [.code .ret] 98 cs).frame.eval (aD (some d) (.load t (.tmp x)) none)=(do pure (.value (<-ae t a)):Sem Next):=Go.Ph.uu rfl ((bH B).trans hv);have q:(ae t a).run PC w=(Go.load a).run PC w:=by
  simp[ae,mh A,k]
 rcases lF (T:=aF) (fB:=cY.funcs) g z with⟨m,s,u⟩|⟨v,v',c,C,D,l,m,u,F,I,J,E,K⟩
 ·have b:(ae t a).run PC w=.halt (.stuck s) w:=by rw[q];simp[m,u]
  obtain⟨v,w1,n,g⟩:=(h.at hi).val bV h.hc (jb j rfl rfl) e (.inr ⟨_,_,b,trivial⟩);have o:(Result.halt (Halt.stuck s) w:Result Value)=Result.ok v w1:=b.symm.trans n;cases o
 ·have b:(ae t a).run PC w=.ok v w:=by rw[q];simp[m]
  obtain⟨v1,w1,n,g⟩:=(h.at hi).val bV h.hc (jb j rfl rfl) e (.inl ⟨_,_,b⟩);have o:Result.ok v w=Result.ok v1 w1:=b.symm.trans n;cases o;exact⟨v,⟨C,D,l,E⟩,.next h.hc j hd g⟩
def Wi.box{t:ac}{v:Value}(h:Wi f R g0 w0 r cs H i w)(hi:i<206)(a:aS[i]?=some (aD (some d) (.box t (.tmp x)) none))(hd:d<193)(b:x<193)(hv:H x=v):Wi f R g0 w0 r cs (upd H d (.pointer (some ⟨w.heap.size,0,none⟩))) (i+1) (w.alloc (.cells v.cells t)):=
 .next h.hc a hd ((h.at hi).go bV h.hc (xU (jb a rfl rfl) rfl ((bH b).trans hv)))
def Wi.ret{c:Frame}{l:List Frame}{v:Value}(h:Wi f R g0 w0 r (c::l) H 206 w)(hv:H 2=v):aB aF cY.funcs FF ZZ f R g0 w0 (fH (c.finish v) l) w:=by
 have e1:stepG PC true (SL 193 H r aS [] [.code .ret] 98 (c::l)) w=.go (fH ⟨98,⟨(ao 193).map H++r⟩,[.code .ret],[],.run,.normal,none⟩ (c::l)) w #[]:=rfl;have e:stepG PC true (fH ⟨98,⟨(ao 193).map H++r⟩,[.code .ret],[],.run,.normal,none⟩ (c::l)) w=.go (fH ⟨98,⟨(ao 193).map H++r⟩,[.code .ret],[],.returning,.normal,none⟩ (c::l)) w #[]:=rfl;have g:=(show aB aF cY.funcs FF ZZ f R g0 w0 (SL 193 H r aS [] [.code .ret] 98 (c::l)) w from h.way)
 have m:=(g.go bV h.hc e1).go bV h.hc e;have a:nS.results=#[.tmp 2]:=rfl;have o:(⟨(ao 193).map H++r⟩:Array Value).getD 2 undef=v:=by
  have:=bH (n:=193) (H:=H) (rest:=r) (ops:=aS) (is:=[]) (k:=[]) (fn:=98) (cs:=[]) (j:=2) (by omega);exact(show(⟨(ao 193).map H++r⟩:Array Value).getD 2 undef=H 2 from this).trans hv
 have hf:PC.funcs[98]?=some nS:=JO;have b:=rB (P:=PC) (mn:=true) (w:=w) (fr:=⟨98,⟨(ao 193).map H++r⟩,[.code .ret],[],.returning,.normal,none⟩) (c:=c) (cs:=l) rfl rfl rfl hf (results_tmp a _ PC w) (events_results_tmp a _ _);rw[o]at b;exact m.go bV h.hc b
def Wi.ZY{t:ac}{j:Nat}{fs:Array Field}{fd:Field}{a:ad}{c:Array Value}{v:Value}(h:Wi f R g0 w0 r cs H i w)(hi:i<206)(g:aS[i]?=some (aD (some d) (.field t (.tmp x) j) none))(hd:d<193)(k:x<193)(hv:H x=.agg c)(l:PC.underlying t=some (.struct fs))(hf:fs[j]?=some fd)(m:PC.underlying fd.type=some a)(n:qy a=false)(hc:c[fd.offset]?=some v) :
 Wi f R g0 w0 r cs (upd H d v) (i+1) w:=by
 obtain⟨p,v',b,e,o⟩:=h.field hi g l hf m n hd k;rw[hv]at b;cases b;rw[hc]at e;cases e;exact o
def Wi.Z4{t:ac}{j:Nat}{fs:Array Field}{fd:Field}{b:ad}{a:TypeInfo}{c c':Array Value}(h:Wi f R g0 w0 r cs H i w)(hi:i<206)(e:aS[i]?=some (aD (some d) (.field t (.tmp x) j) none))(hd:d<193)(g:x<193)(hv:H x=.agg c)(k:PC.underlying t=some (.struct fs))(hf:fs[j]?=some fd)(l:PC.underlying fd.type=some b)(m:qy b=true)(n:PC.info? fd.type=some a)(hc:c.extract fd.offset (fd.offset+a.size)=c') :
 Wi f R g0 w0 r cs (upd H d (.agg c')) (i+1) w:=by
 have:=h.Hu hi e k hf l m n hd g hv;rwa[hc]at this
def Z5{v:Value}(h:v.cells.size=6):∃x0 x1 x2 x3 x4 a,v=.agg #[x0,x1,x2,x3,x4,a]:=by
 cases v with
 |agg c=>
  obtain⟨l⟩:=c;have hl:l.length=6:=h
  match l,hl with
  |[x0,x1,x2,x3,x4,a],_=>exact⟨x0,x1,x2,x3,x4,a,rfl⟩
 |_=>exact absurd h (by simp[Value.cells])
structure Fd(t j off:Nat)(ag:Bool)(sz:Nat):Prop where
 ex:∃fs fd de inf,PC.underlying t=some (.struct fs)/\fs[j]?=some fd/\PC.underlying fd.type=some de/\qy de=ag/\PC.info? fd.type=some inf/\fd.offset=off/\inf.size=sz
noncomputable def fdq(t j:Nat):Option (Nat×Bool×Nat):=match PC.underlying t with
 |some (.struct fs)=>match fs[j]? with
  |some fd=>match PC.underlying fd.type,PC.info? fd.type with
   |some b,some a=>some (fd.offset,qy b,a.size)
   |_,_=>none
  |none=>none
 |_=>none
def gH{t j off b:Nat}{c:Bool}(h:fdq t j=some (off,c,b)):Fd t j off c b:=by
 unfold fdq at h
 split at h
 ·rename_i fs e1
  split at h
  ·rename_i fd e
   split at h
   ·rename_i g a k l;simp only[Option.some.injEq,Prod.mk.injEq]at h;exact⟨fs,fd,g,a,e1,e,k,h.2.1,l,h.1,h.2.2⟩
   ·cases h
  ·cases h
 ·cases h
def Wi.fk{t j off a:Nat}{c:Array Value}{v:Value}(h:Wi f R g0 w0 r cs H i w)(q:Fd t j off false a)(hi:i<206)(b:aS[i]?=some (aD (some d) (.field t (.tmp x) j) none))(hd:d<193)(e:x<193)(hv:H x=.agg c)(hc:c[off]?=some v):Wi f R g0 w0 r cs (upd H d v) (i+1) w:=by
 obtain⟨fs,fd,o,g,e1,k,l,m,p,n,s⟩:=q.ex;exact h.ZY hi b hd e hv e1 k l m (by rw[n];exact hc)
def Wi.fs{t j off a:Nat}{c c':Array Value}(h:Wi f R g0 w0 r cs H i w)(q:Fd t j off true a)(hi:i<206)(b:aS[i]?=some (aD (some d) (.field t (.tmp x) j) none))(hd:d<193)(e:x<193)(hv:H x=.agg c)(hc:c.extract off (off+a)=c'):Wi f R g0 w0 r cs (upd H d (.agg c')) (i+1) w:=by
 obtain⟨fs,fd,s,g,e1,k,l,m,n,o,p⟩:=q.ex;exact h.Z4 hi b hd e hv e1 k l m n (by rw[o,p];exact hc)
def aeE:Fd 121 0 0 true 6:=gH (by kernel_rfl)
def Z6:Fd 27 0 0 false 1:=gH (by kernel_rfl)
def Z7:Fd 27 1 1 false 1:=gH (by kernel_rfl)
def Z8:Fd 27 2 2 false 1:=gH (by kernel_rfl)
def Z9:Fd 27 3 3 false 1:=gH (by kernel_rfl)
def aa0:Fd 27 4 4 false 1:=gH (by kernel_rfl)
def aa1:Fd 27 5 5 false 1:=gH (by kernel_rfl)
def aeF(h:Wi f R g0 w0 r cs H 0 w):∃x0 x1 x2 x3 x4 a v,H 0=.agg #[x0,x1,x2,x3,x4,a]/\Wi f R g0 w0 r cs (upd (upd (upd (upd (upd (upd (upd (upd H 3 v) 4 (.agg #[x0,x1,x2,x3,x4,a])) 5 x0) 6 x1) 7 x2) 8 x3) 9 x4) 10 a) 8 w:=by
 obtain⟨hs,v,W⟩:=h.six (d:=3) (x:=0) (by omega) rfl (by omega) (by omega);obtain⟨x0,x1,x2,x3,x4,a,e⟩:=Z5 hs;have W:=W.fs aeE (d:=4) (x:=0) (c:=#[x0,x1,x2,x3,x4,a]) (c':=#[x0,x1,x2,x3,x4,a]) (by omega) rfl (by omega) (by omega) e (by simp);have W:=W.fk Z6 (d:=5) (x:=4) (v:=x0) (by omega) rfl (by omega) (by omega) rfl rfl;have W:=W.fk Z7 (d:=6) (x:=4) (v:=x1) (by omega) rfl (by omega) (by omega) rfl rfl;have W:=W.fk Z8 (d:=7) (x:=4) (v:=x2) (by omega) rfl (by omega) (by omega) rfl rfl;have W:=W.fk Z9 (d:=8) (x:=4) (v:=x3) (by omega) rfl (by omega) (by omega) rfl rfl;have W:=W.fk aa0 (d:=9) (x:=4) (v:=x4) (by omega) rfl (by omega) (by omega) rfl rfl;have W:=W.fk aa1 (d:=10) (x:=4) (v:=a) (by omega) rfl (by omega) (by omega) rfl rfl;exact⟨x0,x1,x2,x3,x4,a,v,e,W⟩
def xL{v':Value}{a:Addr}{n c:Nat}(h:VR FF ρ (.slice (some a) n c) v')(b:0<n):∃a',v'=.slice (some a') n c/\AR ρ a a':=by
 cases h with
 |dK=>exact absurd b (Nat.lt_irrefl _)
 |slice _ _ e=>exact⟨_,rfl,e⟩
def Wi.sized{t u:ac}{n:Nat}{v':Value}(h:Wi f R g0 w0 r cs H i w)(hi:i+5<206)(hd:d+3<193)(E:x<d)(l:PC.underlying t=some (.slice u))(o:VR FF ρ (H x) v')
 (v:aS[i]?=some (aD (some d) (.call { callee:=.builtin .len,args:=#[.tmp x],argTypes:=#[t] }) none))
 (p:aS[i+1]?=some (aD (some (d+1)) (.binOp .eql 3 (.tmp d) (.const (.int .i64 (n:Int))) 3) none))
 (z:aS[i+2]?=some (aD none (.field 3 (.const (.int .i64 0)) 0) (some (i+1,false))))
 (q:aS[i+3]?=some (aD (some (d+2)) (.binOp .eql t (.tmp x) (.const (.slice none 0 0)) t) none))
 (A:aS[i+4]?=some (aD none (.field 3 (.const (.int .i64 0)) 0) (some (i+3,true)))) (g:0<n:=by omega) :
 ∃a a' c s,H x=.slice (some a) n c/\v'=.slice (some a') n c/\AR ρ a a'/\(∀j,j<d->s j=H j)/\Wi f R g0 w0 r cs s (i+5) w:=by
 obtain⟨b,m,c,hv,W⟩:=h.len (by omega) v l (by omega) (by omega);have W:=W.JL (m:=m) (by omega) p (by omega) (by omega) (aH _ _ _);obtain⟨B,W⟩:=W.check (b:=((m:Int)==(n:Int))) (by omega) z p (by omega) (aH _ _ _);have C:m=n:=by
  have:(m:Int)=(n:Int):=by simpa using B
  exact Int.ofNat.inj this
 subst C;have k:upd (upd H d (.int .i64 (m:Int))) (d+1) (.bool ((m:Int)==(m:Int))) x=.slice b m c:=by
  rw[aI _ _ (by omega),aI _ _ (by omega)];exact hv
 have W:=W.JM (by omega) q l (by omega) (by omega) k;obtain⟨hb,W⟩:=W.check (b:=b.isNone) (by omega) A q (by omega) (aH _ _ _)
 cases b with
 |none=>cases hb
 |some a=>
  rw[hv]at o;obtain⟨a',e,D⟩:=xL o g;exact⟨a,a',c,_,hv,e,D,λj F=>by rw[aI _ _ (by omega),aI _ _ (by omega),aI _ _ (by omega)],W⟩
def Wi.full{t b:ac}{n l:Nat}{v':Value}{m:ad}{g:TypeInfo}(h:Wi f R g0 w0 r cs H i w)(z:WR Tryz.progTables.globals.size FF (aw aF FF ZZ) ρ w w')(hi:i+6<206)(hd:d+4<193)(o:x<d)(p:PC.underlying t=some (.slice b))(hs:(PC.info? b).map (·.size)=some l)(S:0<n)(A:VR FF ρ (H x) v')
 (B:PC.underlying b=some m) (k:qy m=true) (C:PC.info? b=some g) (D:0<g.size)
 (E:aS[i]?=some (aD (some d) (.call { callee:=.builtin .len,args:=#[.tmp x],argTypes:=#[t] }) none))
 (F:aS[i+1]?=some (aD (some (d+1)) (.binOp .eql 3 (.tmp d) (.const (.int .i64 (n:Int))) 3) none))
 (I:aS[i+2]?=some (aD none (.field 3 (.const (.int .i64 0)) 0) (some (i+1,false))))
 (J:aS[i+3]?=some (aD (some (d+2)) (.binOp .eql t (.tmp x) (.const (.slice none 0 0)) t) none))
 (K:aS[i+4]?=some (aD none (.field 3 (.const (.int .i64 0)) 0) (some (i+3,true))))
 (L:aS[i+5]?=some (aD (some (d+3)) (.indexAddr t (.tmp x) (.const (.int .i64 0))) none))
 (M:aS[i+6]?=some (aD (some (d+4)) (.load b (.tmp (d+3))) none)) :
 ∃a a' c q,H x=.slice (some a) n c/\v'=.slice (some a') n c/\AR ρ a a'/\(∃c t N,w'.heap[a'.block]?=some (.cells c t N))/\(∀j,j<d->q j=H j)/\Wi f R g0 w0 r cs q (i+7) w:=by
 obtain⟨a,a',c,T,hv,e,s,v,W⟩:=h.sized (ρ:=ρ) (n:=n) (by omega) (by omega) o p A E F I J K;have W:=W.index (by omega) L p hs (by omega) (by omega) (by omega) (by omega) ((v x o).trans hv);have O:a.add ((0:Int).toNat*l)=a:=by simp[Addr.add]
 rw[O]at W;obtain⟨u,U,P,W⟩:=W.load (by omega) M z s B k C (by omega) (by omega) (aH _ _ _);refine⟨a,a',c,_,hv,e,s,(P 0 D).2.2.2,λj Q=>?_,W⟩;rw[aI _ _ (by omega),aI _ _ (by omega)];exact v j Q
end
def akw:PC.underlying 22=some (.slice 35):=by kernel_rfl
def akx:PC.underlying 23=some (.slice 79):=by kernel_rfl
def aky:(PC.info? 35).map (·.size)=some 2:=by kernel_rfl
def akz:(PC.info? 79).map (·.size)=some 3:=by kernel_rfl
structure Sd(t sz:Nat):Prop where
 ex:∃de inf,PC.underlying t=some de/\qy de=true/\PC.info? t=some inf/\inf.size=sz
def JP{t e:Nat}(h:((PC.underlying t).map qy,(PC.info? t).map (·.size))=(some true,some e)):Sd t e:=by
 simp only[Prod.mk.injEq]at h;obtain⟨a,b⟩:=h
 cases e1:PC.underlying t with
 |none=>rw[e1]at a;cases a
 |some g=>
  cases c:PC.info? t with
  |none=>rw[c]at b;cases b
  |some d=>
   rw[e1]at a;rw[c]at b;exact⟨g,d,e1,Option.some.inj a,c,Option.some.inj b⟩
def akA:Sd 35 2:=JP (by kernel_rfl)
def akB:Sd 79 3:=JP (by kernel_rfl)
section
variable {f:aa}{R:Value->World->Prop}{g0:ab}{w0 w w':World}{H:Nat->Value}{r:List Value}{cs:List Frame}{ρ:Ren}
def aeG(h:Wi f R g0 w0 r cs H 8 w)(o:WR Tryz.progTables.globals.size FF (aw aF FF ZZ) ρ w w'){v2 v3:Value}(q:VR FF ρ (H 7) v2)(s:VR FF ρ (H 8) v3) :
 ∃n0 e a a' c b b' d p,H 5=.int .i64 n0/\H 6=.int .i64 e/\(H 7=.slice (some a) 2 c/\v2=.slice (some a') 2 c/\AR ρ a a'/\∃c t g,w'.heap[a'.block]?=some (.cells c t g))/\(H 8=.slice (some b) 4 d/\v3=.slice (some b') 4 d/\AR ρ b b'/\∃c t g,w'.heap[b'.block]?=some (.cells c t g))/\(∀j,j<11->p j=H j)/\Wi f R g0 w0 r cs p 24 w:=by
 obtain⟨n0,v,y,W⟩:=h.int (d:=11) (x:=5) (by omega) rfl (by omega) (by omega);obtain⟨e,u,e1,W⟩:=W.int (d:=12) (x:=6) (by omega) rfl (by omega) (by omega);obtain⟨z,i,t1,t2,k,A⟩:=akA.ex;obtain⟨a,a',c,B,C,D,E,f4,l,W⟩:=W.full (d:=13) (x:=7) (n:=2) (v':=v2) o (by omega) (by omega) (by omega) akw aky (by omega) q t1 t2 k (by omega) rfl rfl rfl rfl rfl rfl rfl;obtain⟨z,i,t1,t2,k,A⟩:=akB.ex;have m:VR FF ρ (B 8) v3:=by rw[l 8 (by omega)];exact s
 obtain⟨b,b',d,F,k1,k2,k3,I,J,W⟩:=W.full (d:=18) (x:=8) (n:=4) (v':=v3) o (by omega) (by omega) (by omega) akx akz (by omega) m t1 t2 k (by omega) rfl rfl rfl rfl rfl rfl rfl;refine⟨n0,e,a,a',c,b,b',d,F,y,e1,⟨C,D,E,f4⟩,⟨by rw[<-k1,l 8 (by omega)];rfl,k2,k3,I⟩,λj K=>?_,W⟩;rw[J j (by omega),l j (by omega),aI _ _ (by omega),aI _ _ (by omega)]
end
def aa2:Fd 35 0 0 false 1:=gH (by kernel_rfl)
def aa3:Fd 35 1 1 false 1:=gH (by kernel_rfl)
section
variable {f:aa}{R:Value->World->Prop}{g0:ab}{w0 w w':World}{H:Nat->Value}{r:List Value}{cs:List Frame}{i d x p:Nat}{ρ:Ren}
def Wi.span{t k off:Nat}{c:Array Value}{v0 v1:Value}(h:Wi f R g0 w0 r cs H i w)(q:Fd t k off true 2)(hi:i+5<206)(hd:d+4<193)(s:p<d)(hv:H p=.agg c)(hc:c.extract off (off+2)=#[v0,v1])
 (g:aS[i]?=some (aD (some d) (.field t (.tmp p) k) none))
 (l:aS[i+1]?=some (aD (some (d+1)) (.field 35 (.tmp d) 0) none))
 (m:aS[i+2]?=some (aD (some (d+2)) (.binOp .xor 3 (.tmp (d+1)) (.const (.int .i64 0)) 3) none))
 (n:aS[i+3]?=some (aD (some (d+3)) (.field 35 (.tmp d) 1) none))
 (o:aS[i+4]?=some (aD (some (d+4)) (.binOp .xor 3 (.tmp (d+3)) (.const (.int .i64 0)) 3) none)) :
 ∃n0 a b,v0=.int .i64 n0/\v1=.int .i64 a/\b (d+1)=.int .i64 n0/\b (d+3)=.int .i64 a/\(∀j,j<d->b j=H j)/\Wi f R g0 w0 r cs b (i+5) w:=by
 have W:=h.fs q (by omega) g (by omega) (by omega) hv hc;have W:=W.fk aa2 (v:=v0) (by omega) l (by omega) (by omega) (aH _ _ _) rfl;obtain⟨n0,u0,e,W⟩:=W.int (by omega) m (by omega) (by omega);rw[aH]at e;have W:=W.fk aa3 (v:=v1) (c:=#[v0,v1]) (by omega) n (by omega) (by omega) (by rw[aI _ _ (by omega),aI _ _ (by omega),aH]) rfl;obtain⟨a,u1,e1,W⟩:=W.int (by omega) o (by omega) (by omega);rw[aH]at e1;refine⟨n0,a,_,e,e1,?_,?_,λj u=>?_,W⟩
 ·rw[aI _ _ (by omega),aI _ _ (by omega),aI _ _ (by omega),aH,e]
 ·rw[aI _ _ (by omega),aH,e1]
 ·rw[aI _ _ (by omega),aI _ _ (by omega),aI _ _ (by omega),aI _ _ (by omega),aI _ _ (by omega)]
def Wi.num{t k off e:Nat}{c:Array Value}{v0:Value}(h:Wi f R g0 w0 r cs H i w)(q:Fd t k off false e)(hi:i+2<206)(hd:d+1<193)(m:p<d)(hv:H p=.agg c)(hc:c[off]?=some v0)
 (g:aS[i]?=some (aD (some d) (.field t (.tmp p) k) none))
 (l:aS[i+1]?=some (aD (some (d+1)) (.binOp .xor 3 (.tmp d) (.const (.int .i64 0)) 3) none)) :
 ∃n0 a,v0=.int .i64 n0/\a d=.int .i64 n0/\(∀j,j<d->a j=H j)/\Wi f R g0 w0 r cs a (i+2) w:=by
 have W:=h.fk q (v:=v0) (by omega) g (by omega) (by omega) hv hc;obtain⟨n0,u0,b,W⟩:=W.int (by omega) l (by omega) (by omega);rw[aH]at b;refine⟨n0,_,b,?_,λj n=>?_,W⟩
 ·rw[aI _ _ (by omega),aH,b]
 ·rw[aI _ _ (by omega),aI _ _ (by omega)]
def Wi.name{t k off e:Nat}{c:Array Value}{v0:Value}(h:Wi f R g0 w0 r cs H i w)(q:Fd t k off false e)(hi:i+2<206)(hd:d+1<193)(n:p<d)(hv:H p=.agg c)(hc:c[off]?=some v0)
 (g:aS[i]?=some (aD (some d) (.field t (.tmp p) k) none))
 (l:aS[i+1]?=some (aD (some (d+1)) (.binOp .add 9 (.tmp d) (.const (.string aJ)) 9) none)) :
 ∃s a,v0=.string s/\(∀j,j<d->a j=H j)/\Wi f R g0 w0 r cs a (i+2) w:=by
 have W:=h.fk q (v:=v0) (by omega) g (by omega) (by omega) hv hc;obtain⟨m,u0,b,W⟩:=W.str (by omega) l (by omega) (by omega);rw[aH]at b;refine⟨m,_,b,λj o=>?_,W⟩;rw[aI _ _ (by omega),aI _ _ (by omega)]
end
def Hv{i n:Nat}{a:Array Oper}(h:aS.extract i (i+n)=a){j:Nat}{o:Oper}(b:a[j]?=some o):aS[i+j]?=some o:=by
 subst h;rw[Array.getElem?_extract]at b
 split at b
 ·exact b
 ·cases b
def aa4:Fd 73 0 0 false 1:=gH (by kernel_rfl)
def aa5:Fd 73 1 1 true 2:=gH (by kernel_rfl)
def aa6:Fd 73 2 3 true 2:=gH (by kernel_rfl)
def aa7:Fd 73 3 5 false 1:=gH (by kernel_rfl)
def aa8:Fd 73 4 6 false 1:=gH (by kernel_rfl)
def aa9:Fd 73 5 7 true 2:=gH (by kernel_rfl)
def aaa:Fd 73 6 9 true 2:=gH (by kernel_rfl)
def aab:Fd 73 7 11 false 1:=gH (by kernel_rfl)
def akC:Sd 73 12:=JP (by kernel_rfl)
def aeH:PC.underlying 24=some (.slice 73):=by kernel_rfl
def aeI:(PC.info? 73).map (·.size)=some 12:=by kernel_rfl
def xZ(d:Nat)(k:Int):Array Oper:=#[
 aD (some d) (.indexAddr 24 (.tmp 9) (.const (.int .i64 k))) none,
 aD (some (d+1)) (.load 73 (.tmp d)) none,
 aD (some (d+2)) (.field 73 (.tmp (d+1)) 0) none,
 aD (some (d+3)) (.binOp .add 9 (.tmp (d+2)) (.const (.string aJ)) 9) none,
 aD (some (d+4)) (.field 73 (.tmp (d+1)) 1) none,
 aD (some (d+5)) (.field 35 (.tmp (d+4)) 0) none,
 aD (some (d+6)) (.binOp .xor 3 (.tmp (d+5)) (.const (.int .i64 0)) 3) none,
 aD (some (d+7)) (.field 35 (.tmp (d+4)) 1) none,
 aD (some (d+8)) (.binOp .xor 3 (.tmp (d+7)) (.const (.int .i64 0)) 3) none,
 aD (some (d+9)) (.field 73 (.tmp (d+1)) 2) none,
 aD (some (d+10)) (.field 35 (.tmp (d+9)) 0) none,
 aD (some (d+11)) (.binOp .xor 3 (.tmp (d+10)) (.const (.int .i64 0)) 3) none,
 aD (some (d+12)) (.field 35 (.tmp (d+9)) 1) none,
 aD (some (d+13)) (.binOp .xor 3 (.tmp (d+12)) (.const (.int .i64 0)) 3) none,
 aD (some (d+14)) (.field 73 (.tmp (d+1)) 5) none,
 aD (some (d+15)) (.field 35 (.tmp (d+14)) 0) none,
 aD (some (d+16)) (.binOp .xor 3 (.tmp (d+15)) (.const (.int .i64 0)) 3) none,
 aD (some (d+17)) (.field 35 (.tmp (d+14)) 1) none,
 aD (some (d+18)) (.binOp .xor 3 (.tmp (d+17)) (.const (.int .i64 0)) 3) none,
 aD (some (d+19)) (.field 73 (.tmp (d+1)) 6) none,
 aD (some (d+20)) (.field 35 (.tmp (d+19)) 0) none,
 aD (some (d+21)) (.binOp .xor 3 (.tmp (d+20)) (.const (.int .i64 0)) 3) none,
 aD (some (d+22)) (.field 35 (.tmp (d+19)) 1) none,
 aD (some (d+23)) (.binOp .xor 3 (.tmp (d+22)) (.const (.int .i64 0)) 3) none,
 aD (some (d+24)) (.field 73 (.tmp (d+1)) 3) none,
 aD (some (d+25)) (.binOp .xor 3 (.tmp (d+24)) (.const (.int .i64 0)) 3) none,
 aD (some (d+26)) (.field 73 (.tmp (d+1)) 4) none,
 aD (some (d+27)) (.binOp .xor 3 (.tmp (d+26)) (.const (.int .i64 0)) 3) none,
 aD (some (d+28)) (.field 73 (.tmp (d+1)) 7) none]
def akD:aS.extract 29 (29+29)=xZ 26 0:=rfl
section
variable {f:aa}{R:Value->World->Prop}{g0:ab}{w0 w w':World}{H:Nat->Value}{r:List Value}{cs:List Frame}{i d:Nat}{ρ:Ren}
def Wi.G8(h:Wi f R g0 w0 r cs H i w)(J:WR Tryz.progTables.globals.size FF (aw aF FF ZZ) ρ w w'){k:Nat}(hk:k<3)(hi:i+29<206)(hd:d+28<193)(h9:9<d){a a':Addr}{c:Nat}(hv:H 9=.slice (some a) 3 c)(K:AR ρ a a')(L:aS.extract i (i+29)=xZ d k) :
 ∃(u g:Nat->Value)(s:ByteArray)(n:Nat->Int)(b:Nat->Value),(∀j,j<12->w.cell? ((a.add (k*12)).add j)=some (u j)/\w'.cell? ((a'.add (k*12)).add j)=some (g j)/\VR FF ρ (u j) (g j)/\(∃c t M,w'.heap[(a'.add (k*12)).block]?=some (.cells c t M)))/\
  u 0=.string s/\(∀j,1<=j->j<=10->u j=.int .i64 (n j))/\b (d+15)=.int .i64 (n 7)/\b (d+17)=.int .i64 (n 8)/\b (d+20)=.int .i64 (n 9)/\b (d+22)=.int .i64 (n 10)/\b (d+28)=u 11/\(∀j,j<d->b j=H j)/\Wi f R g0 w0 r cs b (i+29) w:=by
 have o:=fun(j:Nat)(x:Oper)(e:(xZ d k)[j]?=some x)=>Hv L e;have W:=h.index (by omega) (o 0 _ rfl) aeH aeI (by omega) (by omega) (by omega) (by omega) hv;have N:a.add ((k:Int).toNat*12)=a.add (k*12):=by simp
 rw[N]at W;obtain⟨de,O,t1,t2,P,Q⟩:=akC.ex;obtain⟨u,g,m,W⟩:=W.load (by omega) (o 1 _ rfl) J (K.add (k*12)) t1 t2 P (by omega) (by omega) (aH _ _ _);rw[Q]at m W;have hc:((ao 12).map u).toArray=#[u 0,u 1,u 2,u 3,u 4,u 5,u 6,u 7,u 8,u 9,u 10,u 11]:=rfl;rw[hc]at W;obtain⟨s,S,T,q,W⟩:=W.name aa4 (p:=d+1) (by omega) (by omega) (by omega) (aH _ _ _) rfl (o 2 _ rfl) (o 3 _ rfl);have y:S (d+1)=.agg #[u 0,u 1,u 2,u 3,u 4,u 5,u 6,u 7,u 8,u 9,u 10,u 11]:=by rw[q _ (by omega),aH]
 obtain⟨U,V,H2,a1,a2,a3,a4,z,W⟩:=W.span aa5 (p:=d+1) (by omega) (by omega) (by omega) y (by simp;exact⟨rfl,rfl⟩) (o 4 _ rfl) (o 5 _ rfl) (o 6 _ rfl) (o 7 _ rfl) (o 8 _ rfl);have A:=(z (d+1) (by omega)).trans y;obtain⟨X,Y,H3,Z,b2,b3,b4,B,W⟩:=W.span aa6 (p:=d+1) (by omega) (by omega) (by omega) A (by simp;exact⟨rfl,rfl⟩) (o 9 _ rfl) (o 10 _ rfl) (o 11 _ rfl) (o 12 _ rfl) (o 13 _ rfl);have C:=(B (d+1) (by omega)).trans A;obtain⟨n7,n8,H4,c1,c2,c3,c4,D,W⟩:=W.span aa9 (p:=d+1) (by omega) (by omega) (by omega) C (by simp;exact⟨rfl,rfl⟩) (o 14 _ rfl) (o 15 _ rfl) (o 16 _ rfl) (o 17 _ rfl) (o 18 _ rfl);have E:=(D (d+1) (by omega)).trans C;obtain⟨n9,l,H5,d1,d2,d3,d4,d5,W⟩:=W.span aaa (p:=d+1) (by omega) (by omega) (by omega) E (by simp;exact⟨rfl,rfl⟩) (o 19 _ rfl) (o 20 _ rfl) (o 21 _ rfl) (o 22 _ rfl) (o 23 _ rfl);have F:=(d5 (d+1) (by omega)).trans E;obtain⟨n5,H6,x1,x2,x3,W⟩:=W.num aa7 (p:=d+1) (v0:=u 5) (by omega) (by omega) (by omega) F rfl (o 24 _ rfl) (o 25 _ rfl);have I:=(x3 (d+1) (by omega)).trans F;obtain⟨n6,H7,y1,y2,y3,W⟩:=W.num aa8 (p:=d+1) (v0:=u 6) (by omega) (by omega) (by omega) I rfl (o 26 _ rfl) (o 27 _ rfl);have p7:=(y3 (d+1) (by omega)).trans I;have W:=W.fk aab (v:=u 11) (by omega) (o 28 _ rfl) (by omega) (by omega) p7 rfl;refine⟨u,g,s,λj=>match j with|1=>U|2=>V|3=>X|4=>Y|5=>n5|6=>n6|7=>n7|8=>n8|9=>n9|_=>l,_,m,T,λj h1 h2=>?_,?_,?_,?_,?_,aH _ _ _,λj hj=>?_,W⟩
 ·obtain rfl|rfl|rfl|rfl|rfl|rfl|rfl|rfl|rfl|rfl:j=1\/j=2\/j=3\/j=4\/j=5\/j=6\/j=7\/j=8\/j=9\/j=10:=by omega
  ·exact a1
  ·exact a2
  ·exact Z
  ·exact b2
  ·exact x1
  ·exact y1
  ·exact c1
  ·exact c2
  ·exact d1
  ·exact d2
 ·rw[aI _ _ (by omega),y3 _ (by omega),x3 _ (by omega),d5 _ (by omega)];exact c3
 ·rw[aI _ _ (by omega),y3 _ (by omega),x3 _ (by omega),d5 _ (by omega)];exact c4
 ·rw[aI _ _ (by omega),y3 _ (by omega),x3 _ (by omega)];exact d3
 ·rw[aI _ _ (by omega),y3 _ (by omega),x3 _ (by omega)];exact d4
 ·rw[aI _ _ (by omega),y3 _ (by omega),x3 _ (by omega),d5 _ (by omega),D _ (by omega),B _ (by omega),z _ (by omega),q _ (by omega),aI _ _ (by omega),aI _ _ (by omega)]
end
def UU:PC.underlying 42=some (.slice 3):=by kernel_rfl
def akE:(PC.info? 3).map (·.size)=some 1:=by kernel_rfl
section
variable {f:aa}{R:Value->World->Prop}{g0:ab}{w0 w w':World}{H:Nat->Value}{r:List Value}{cs:List Frame}{i d x:Nat}{ρ:Ren}
def Wi.Xg{v':Value}(h:Wi f R g0 w0 r cs H i w)(m:WR Tryz.progTables.globals.size FF (aw aF FF ZZ) ρ w w')(hi:i+6<206)(hd:d+4<193)(b:x<d)(o:VR FF ρ (H x) v')
 (p:aS[i]?=some (aD (some d) (.call { callee:=.builtin .len,args:=#[.tmp x],argTypes:=#[42] }) none))
 (q:aS[i+1]?=some (aD (some (d+1)) (.binOp .eql 3 (.tmp d) (.const (.int .i64 ((1:Nat):Int))) 3) none))
 (s:aS[i+2]?=some (aD none (.field 3 (.const (.int .i64 0)) 0) (some (i+1,false))))
 (u:aS[i+3]?=some (aD (some (d+2)) (.binOp .eql 42 (.tmp x) (.const (.slice none 0 0)) 42) none))
 (y:aS[i+4]?=some (aD none (.field 3 (.const (.int .i64 0)) 0) (some (i+3,true))))
 (z:aS[i+5]?=some (aD (some (d+3)) (.indexAddr 42 (.tmp x) (.const (.int .i64 0))) none))
 (A:aS[i+6]?=some (aD (some (d+4)) (.load 3 (.tmp (d+3))) none)) :
 ∃a a' c g,H x=.slice (some a) 1 c/\v'=.slice (some a') 1 c/\AR ρ a a'/\(∃c t B,w'.heap[a'.block]?=some (.cells c t B))/\(∀j,j<d->g j=H j)/\Wi f R g0 w0 r cs g (i+7) w:=by
 obtain⟨a,a',c,F,hv,e,k,l,W⟩:=h.sized (ρ:=ρ) (n:=1) (by omega) (by omega) b UU o p q s u y;have W:=W.index (by omega) z UU akE (by omega) (by omega) (by omega) (by omega) ((l x b).trans hv);have C:a.add ((0:Int).toNat*1)=a:=by simp[Addr.add]
 rw[C]at W;obtain⟨v,D,W⟩:=W.aeD (by omega) A m k ty3 rfl (by omega) (by omega) (aH _ _ _);refine⟨a,a',c,_,hv,e,k,D,λj E=>?_,W⟩;rw[aI _ _ (by omega),aI _ _ (by omega)];exact l j E
def Wi.aeJ(h:Wi f R g0 w0 r cs H i w)(hi:i+3<206)(hd:d+1<193)(m:x<d)
 (k:aS[i]?=some (aD (some d) (.call { callee:=.builtin .len,args:=#[.tmp x],argTypes:=#[42] }) none))
 (e:aS[i+1]?=some (aD (some (d+1)) (.binOp .eql 42 (.tmp x) (.const (.slice none 0 0)) 42) none))
 (l:aS[i+2]?=some (aD none (.field 3 (.const (.int .i64 0)) 0) (some (i+1,false)))) :
 ∃n c g,H x=.slice none n c/\(∀j,j<d->g j=H j)/\Wi f R g0 w0 r cs g (i+3) w:=by
 obtain⟨b,n,c,hv,W⟩:=h.len (by omega) k UU (by omega) (by omega);have W:=W.JM (by omega) e UU (by omega) (by omega) ((aI _ _ (by omega)).trans hv);obtain⟨hb,W⟩:=W.check (b:=b.isNone) (by omega) l e (by omega) (aH _ _ _)
 cases b with
 |some a=>cases hb
 |none=>exact⟨n,c,_,hv,λj o=>by rw[aI _ _ (by omega),aI _ _ (by omega)],W⟩
end
section
variable {f:aa}{R:Value->World->Prop}{g0:ab}{w0 w w':World}{H:Nat->Value}{r:List Value}{cs:List Frame}{ρ:Ren}
structure ye(ρ:Ren)(w w':World)(a a':Addr)(k:Nat)(u u':Nat->Value)(s:ByteArray)(n:Nat->Int):Prop where
 cell:∀j,j<12->w.cell? ((a.add (k*12)).add j)=some (u j)/\w'.cell? ((a'.add (k*12)).add j)=some (u' j)/\VR FF ρ (u j) (u' j)/\(∃c t fz,w'.heap[(a'.add (k*12)).block]?=some (.cells c t fz))
 name:u 0=.string s
 num:∀j,1<=j->j<=10->u j=.int .i64 (n j)
def aeK(h:Wi f R g0 w0 r cs H 24 w)(l:WR Tryz.progTables.globals.size FF (aw aF FF ZZ) ρ w w'){m:Value}(y:VR FF ρ (H 9) m) :
 ∃(a a':Addr)(c:Nat)(e:Nat->Value),H 9=.slice (some a) 3 c/\m=.slice (some a') 3 c/\AR ρ a a'/\(∀j,j<23->e j=H j)/\Wi f R g0 w0 r cs e 65 w/\
  ∃u g s n,ye ρ w w' a a' 0 u g s n/\e 41=.int .i64 (n 7)/\e 43=.int .i64 (n 8)/\e 46=.int .i64 (n 9)/\e 48=.int .i64 (n 10)/\∃b b' c,u 11=.slice (some b) 1 c/\g 11=.slice (some b') 1 c/\AR ρ b b'/\∃c t z,w'.heap[b'.block]?=some (.cells c t z):=by
 obtain⟨a,a',c,P,e1,A,o,p,W⟩:=h.sized (d:=23) (x:=9) (n:=3) (by omega) (by omega) (by omega) aeH y rfl rfl rfl rfl rfl;obtain⟨u,g,s,n,Q,q,hs,B,C,D,E,F,v,I,W⟩:=W.G8 l (k:=0) (d:=26) (by omega) (by omega) (by omega) (by omega) ((p 9 (by omega)).trans e1) o akD;obtain⟨b,b',J,K,L,M,N,O,i,W⟩:=W.Xg (d:=55) (x:=54) (v':=g 11) l (by omega) (by omega) (by omega) (by rw[v];exact(q 11 (by omega)).2.2.1) rfl rfl rfl rfl rfl rfl rfl;refine⟨a,a',c,K,e1,A,o,λj S=>?_,W,u,g,s,n,⟨q,hs,B⟩,?_,?_,?_,?_,b,b',J,v.symm.trans L,M,N,O⟩
 ·rw[i j (by omega),I j (by omega),p j (by omega)]
 ·rw[i 41 (by omega)];exact C
 ·rw[i 43 (by omega)];exact D
 ·rw[i 46 (by omega)];exact E
 ·rw[i 48 (by omega)];exact F
end
def akF:aS.extract 65 (65+29)=xZ 60 1:=rfl
def akG:aS.extract 101 (101+29)=xZ 94 2:=rfl
section
variable {f:aa}{R:Value->World->Prop}{g0:ab}{w0 w w':World}{H:Nat->Value}{r:List Value}{cs:List Frame}{ρ:Ren}
def aeL(h:Wi f R g0 w0 r cs H 65 w)(p:WR Tryz.progTables.globals.size FF (aw aF FF ZZ) ρ w w'){a a':Addr}{c:Nat}(hv:H 9=.slice (some a) 3 c)(y:AR ρ a a') :
 ∃e:Nat->Value,(∀j,j<60->e j=H j)/\Wi f R g0 w0 r cs e 133 w/\
  (∃u i s n,ye ρ w w' a a' 1 u i s n/\e 75=.int .i64 (n 7)/\e 77=.int .i64 (n 8)/\e 80=.int .i64 (n 9)/\e 82=.int .i64 (n 10)/\∃b b' c,u 11=.slice (some b) 1 c/\i 11=.slice (some b') 1 c/\AR ρ b b'/\∃c t C,w'.heap[b'.block]?=some (.cells c t C))/\
  (∃u i s n,ye ρ w w' a a' 2 u i s n/\e 109=.int .i64 (n 7)/\e 111=.int .i64 (n 8)/\e 114=.int .i64 (n 9)/\e 116=.int .i64 (n 10)/\∃m c,u 11=.slice none m c):=by
 obtain⟨u,i,s,n,Z,z,hs,D,E,F,I,J,A,B,W⟩:=h.G8 p (k:=1) (d:=60) (by omega) (by omega) (by omega) (by omega) hv y akF;obtain⟨b,b',K,H3,L,M,N,O,l,W⟩:=W.Xg (d:=89) (x:=88) (v':=i 11) p (by omega) (by omega) (by omega) (by rw[A];exact(z 11 (by omega)).2.2.1) rfl rfl rfl rfl rfl rfl rfl;obtain⟨x,P,Q,m,H4,S,xs,T,U,V,X,q,v,o,W⟩:=W.G8 p (k:=2) (d:=94) (by omega) (by omega) (by omega) (by omega) (by rw[l 9 (by omega),B 9 (by omega)];exact hv) y akG;obtain⟨m0,c3,Y,z1,g,W⟩:=W.aeJ (d:=123) (x:=122) (by omega) (by omega) (by omega) rfl rfl rfl;refine⟨Y,λj hj=>?_,W,⟨u,i,s,n,⟨z,hs,D⟩,?_,?_,?_,?_,b,b',K,A.symm.trans L,M,N,O⟩,⟨x,P,Q,m,⟨S,xs,T⟩,?_,?_,?_,?_,m0,c3,v.symm.trans z1⟩⟩
 ·rw[g j (by omega),o j (by omega),l j (by omega),B j (by omega)]
 ·rw[g 75 (by omega),o 75 (by omega),l 75 (by omega)];exact E
 ·rw[g 77 (by omega),o 77 (by omega),l 77 (by omega)];exact F
 ·rw[g 80 (by omega),o 80 (by omega),l 80 (by omega)];exact I
 ·rw[g 82 (by omega),o 82 (by omega),l 82 (by omega)];exact J
 ·rw[g 109 (by omega)];exact U
 ·rw[g 111 (by omega)];exact V
 ·rw[g 114 (by omega)];exact X
 ·rw[g 116 (by omega)];exact q
end
def aac:Fd 67 0 0 false 1:=gH (by kernel_rfl)
def aad:Fd 67 1 1 false 1:=gH (by kernel_rfl)
def aae:Fd 67 2 2 false 1:=gH (by kernel_rfl)
def akH:Sd 67 3:=JP (by kernel_rfl)
def Xh:PC.underlying 25=some (.slice 67):=by kernel_rfl
def aeM:(PC.info? 67).map (·.size)=some 3:=by kernel_rfl
def B9(i d:Nat)(k:Int):Array Oper:=#[
 aD (some d) (.indexAddr 25 (.tmp 10) (.const (.int .i64 k))) none,
 aD (some (d+1)) (.load 67 (.tmp d)) none,
 aD (some (d+2)) (.field 67 (.tmp (d+1)) 0) none,
 aD (some (d+3)) (.binOp .add 9 (.tmp (d+2)) (.const (.string aJ)) 9) none,
 aD (some (d+4)) (.field 67 (.tmp (d+1)) 1) none,
 aD (some (d+5)) (.binOp .xor 3 (.tmp (d+4)) (.const (.int .i64 0)) 3) none,
 aD (some (d+6)) (.binOp .eql 3 (.tmp (d+4)) (.const (.int .i64 k)) 3) none,
 aD none (.field 3 (.const (.int .i64 0)) 0) (some (i+6,false)),
 aD (some (d+7)) (.field 67 (.tmp (d+1)) 2) none,
 aD (some (d+8)) (.binOp .xor 3 (.tmp (d+7)) (.const (.int .i64 0)) 3) none]
def akI:aS.extract 138 (138+10)=B9 138 128 0:=rfl
def akJ:aS.extract 148 (148+10)=B9 148 137 1:=rfl
section
variable {f:aa}{R:Value->World->Prop}{g0:ab}{w0 w w':World}{H:Nat->Value}{r:List Value}{cs:List Frame}{i d:Nat}{ρ:Ren}
def Wi.PM(h:Wi f R g0 w0 r cs H i w)(z:WR Tryz.progTables.globals.size FF (aw aF FF ZZ) ρ w w'){k:Nat}(S:k<2)(hi:i+10<206)(hd:d+8<193)(T:10<d){a a':Addr}{c:Nat}(hv:H 10=.slice (some a) 2 c)(A:AR ρ a a')(B:aS.extract i (i+10)=B9 i d k) :
 ∃(u g:Nat->Value)(s:ByteArray)(dl:Int)(l:Nat->Value),(∀j,j<3->w.cell? ((a.add (k*3)).add j)=some (u j)/\w'.cell? ((a'.add (k*3)).add j)=some (g j)/\VR FF ρ (u j) (g j)/\(∃c t C,w'.heap[(a'.add (k*3)).block]?=some (.cells c t C)))/\
  u 0=.string s/\u 1=.int .i64 (k:Int)/\u 2=.int .i64 dl/\l (d+7)=.int .i64 dl/\(∀j,j<d->l j=H j)/\Wi f R g0 w0 r cs l (i+10) w:=by
 have o:=fun(j:Nat)(x:Oper)(e:(B9 i d k)[j]?=some x)=>Hv B e;have W:=h.index (by omega) (o 0 _ rfl) Xh aeM (by omega) (by omega) (by omega) (by omega) hv;have D:a.add ((k:Int).toNat*3)=a.add (k*3):=by simp
 rw[D]at W;obtain⟨U,E,t1,t2,F,I⟩:=akH.ex;obtain⟨u,g,q,W⟩:=W.load (by omega) (o 1 _ rfl) z (A.add (k*3)) t1 t2 F (by omega) (by omega) (aH _ _ _);rw[I]at q W;have hc:((ao 3).map u).toArray=#[u 0,u 1,u 2]:=rfl;rw[hc]at W;obtain⟨s,J,K,v,W⟩:=W.name aac (p:=d+1) (by omega) (by omega) (by omega) (aH _ _ _) rfl (o 2 _ rfl) (o 3 _ rfl);have y:J (d+1)=.agg #[u 0,u 1,u 2]:=by rw[v _ (by omega),aH]
 obtain⟨n,V,a1,a2,a3,W⟩:=W.num aad (p:=d+1) (v0:=u 1) (by omega) (by omega) (by omega) y rfl (o 4 _ rfl) (o 5 _ rfl);have W:=W.JL (m:=n) (by omega) (o 6 _ rfl) (by omega) (by omega) a2;obtain⟨L,W⟩:=W.check (b:=(n==(k:Int))) (by omega) (o 7 _ rfl) (o 6 _ rfl) (by omega) (aH _ _ _);have M:n=(k:Int):=by simpa using L
 obtain⟨dl,N,O,P,Q,W⟩:=W.num aae (p:=d+1) (v0:=u 2) (by omega) (by omega) (by omega) (by rw[aI _ _ (by omega),a3 _ (by omega)];exact y) rfl (o 8 _ rfl) (o 9 _ rfl);refine⟨u,g,s,dl,N,q,K,by rw[a1,M],O,P,λj X=>?_,W⟩;rw[Q j (by omega),aI _ _ (by omega),a3 j (by omega),v j (by omega),aI _ _ (by omega),aI _ _ (by omega)]
end
end Go.Proofs
namespace Go.Proofs
open Go.bJ Go.Conc Go.Ph
set_option maxRecDepth 100000
section
variable {f:aa}{R:Value->World->Prop}{g0:ab}{w0 w w':World}{H:Nat->Value}{r:List Value}{cs:List Frame}{ρ:Ren}
structure AA(ρ:Ren)(w w':World)(a a':Addr)(k:Nat)(u u':Nat->Value)(s:ByteArray)(dl:Int):Prop where
 cell:∀j,j<3->w.cell? ((a.add (k*3)).add j)=some (u j)/\w'.cell? ((a'.add (k*3)).add j)=some (u' j)/\VR FF ρ (u j) (u' j)/\(∃c t fz,w'.heap[(a'.add (k*3)).block]?=some (.cells c t fz))
 name:u 0=.string s
 start:u 1=.int .i64 (k:Int)
 aeN:u 2=.int .i64 dl
def aeO(h:Wi f R g0 w0 r cs H 133 w)(p:WR Tryz.progTables.globals.size FF (aw aF FF ZZ) ρ w w'){v5:Value}(v:VR FF ρ (H 10) v5) :
 ∃(a a':Addr)(c:Nat)(e:Nat->Value),H 10=.slice (some a) 2 c/\v5=.slice (some a') 2 c/\AR ρ a a'/\(∀j,j<125->e j=H j)/\Wi f R g0 w0 r cs e 158 w/\
  (∃u b s dl,AA ρ w w' a a' 0 u b s dl/\e 135=.int .i64 dl)/\(∃u b s dl,AA ρ w w' a a' 1 u b s dl/\e 144=.int .i64 dl):=by
 obtain⟨a,a',c,I,e1,y,g,i,W⟩:=h.sized (d:=125) (x:=10) (n:=2) (by omega) (by omega) (by omega) Xh v rfl rfl rfl rfl rfl;obtain⟨u,b,s,dl,J,z,hs,A,l,k1,q,W⟩:=W.PM p (k:=0) (d:=128) (by omega) (by omega) (by omega) (by omega) ((i 10 (by omega)).trans e1) g akI;obtain⟨x,B,C,m,D,E,xs,F,o,q1,t,W⟩:=W.PM p (k:=1) (d:=137) (by omega) (by omega) (by omega) (by omega) (by rw[q 10 (by omega)];exact(i 10 (by omega)).trans e1) g akJ;refine⟨a,a',c,D,e1,y,g,λj K=>?_,W,⟨u,b,s,dl,⟨z,hs,A,l⟩,?_⟩,⟨x,B,C,m,⟨E,xs,F,o⟩,q1⟩⟩
 ·rw[t j (by omega),q j (by omega),i j (by omega)]
 ·rw[t 135 (by omega)];exact k1
end
open Go.ConcN (upd upd_ne upd_same)
def b35(a b:Int)(w:World):(aL 35 #[(0,.int .i64 a),(1,.int .i64 b)]).run PC w=.ok (.agg #[.int .i64 a,.int .i64 b]) w:=by kernel_rfl
def b61(p a b c d:Int)(w:World):(aL 61 #[(0,.int .i64 p),(1,.agg #[.int .i64 a,.int .i64 b]),(2,.agg #[.int .i64 c,.int .i64 d])]).run PC w=.ok (.agg #[.int .i64 p,.int .i64 a,.int .i64 b,.int .i64 c,.int .i64 d]) w:=by kernel_rfl
def Z0:Value:=.int .i64 0
def aeQ(x0 x1 x2 x3 x4 y0 y1 y2 y3 y4 z0 z1 a b c:Value)(w:World):(aL 181 #[(0,.agg #[x0,x1,x2,x3,x4]),(1,.agg #[y0,y1,y2,y3,y4]),(2,.agg #[z0,z1,a,b,c])]).run PC w=.ok (.agg #[x0,x1,x2,x3,x4,y0,y1,y2,y3,y4,z0,z1,a,b,c,Z0,Z0,Z0,Z0,Z0,Z0,Z0,Z0,Z0,Z0]) w:=by kernel_rfl
def aeR(x0 x1 x2 x3 x4 y0 y1 y2 y3 y4 z0 z1 a b c:Value)(w:World):(aL 181 #[(1,.agg #[x0,x1,x2,x3,x4]),(2,.agg #[y0,y1,y2,y3,y4]),(0,.agg #[z0,z1,a,b,c])]).run PC w=.ok (.agg #[z0,z1,a,b,c,x0,x1,x2,x3,x4,y0,y1,y2,y3,y4,Z0,Z0,Z0,Z0,Z0,Z0,Z0,Z0,Z0,Z0]) w:=by kernel_rfl
def aeS(u0 u1 u2 u3 u4 u5 u6 u7 u8 u9 u10 u11 u12 u13 u14 v0 v1 v2 v3 c v5 v6 v7 e g a b h j k:Value)(w:World):(aL 183 #[(0,.agg #[u0,u1,u2,u3,u4,u5,u6,u7,u8,u9,u10,u11,u12,u13,u14,Z0,Z0,Z0,Z0,Z0,Z0,Z0,Z0,Z0,Z0]),(1,.agg #[v0,v1,v2,v3,c,v5,v6,v7,e,g,a,b,h,j,k,Z0,Z0,Z0,Z0,Z0,Z0,Z0,Z0,Z0,Z0])]).run PC w=.ok (.agg #[u0,u1,u2,u3,u4,u5,u6,u7,u8,u9,u10,u11,u12,u13,u14,Z0,Z0,Z0,Z0,Z0,Z0,Z0,Z0,Z0,Z0,v0,v1,v2,v3,c,v5,v6,v7,e,g,a,b,h,j,k,Z0,Z0,Z0,Z0,Z0,Z0,Z0,Z0,Z0,Z0,Z0,Z0,Z0,Z0,Z0,Z0,Z0,Z0,Z0,Z0,Z0,Z0,Z0,Z0,Z0,Z0,Z0,Z0,Z0,Z0,Z0,Z0,Z0,Z0,Z0]) w:=by kernel_rfl
def o7(d x y p q:Nat)(a:Int):Array Oper:=#[
 aD (some d) (.binOp .add 3 (.tmp x) (.tmp p) 3) none,
 aD (some (d+1)) (.binOp .add 3 (.tmp y) (.tmp q) 3) none,
 aD (some (d+2)) (.build 35 #[(0,.tmp x),(1,.tmp y)]) none,
 aD (some (d+3)) (.build 35 #[(0,.tmp d),(1,.tmp (d+1))]) none,
 aD (some (d+4)) (.move (.const (.int .i64 a))) none,
 aD (some (d+5)) (.build 61 #[(0,.tmp (d+4)),(1,.tmp (d+2)),(2,.tmp (d+3))]) none]
section
variable {f:aa}{R:Value->World->Prop}{g0:ab}{w0 w w':World}{H:Nat->Value}{r:List Value}{cs:List Frame}{i d x y p q:Nat}
def Wi.vis(h:Wi f R g0 w0 r cs H i w)(hi:i+6<206)(hd:d+5<193)(v:x<d)(hy:y<d)(z:p<d)(A:q<d){k b c m n:Int}(e1:H x=.int .i64 b)(l:H y=.int .i64 c)(s:H p=.int .i64 m)(t:H q=.int .i64 n)(u:aS.extract i (i+6)=o7 d x y p q k) :
 ∃g,g d=.int .i64 (IntKind.i64.wrap (b+m))/\g (d+1)=.int .i64 (IntKind.i64.wrap (c+n))/\g (d+5)=.agg #[.int .i64 k,.int .i64 b,.int .i64 c,.int .i64 (IntKind.i64.wrap (b+m)),.int .i64 (IntKind.i64.wrap (c+n))]/\(∀j,j<d->g j=H j)/\Wi f R g0 w0 r cs g (i+6) w:=by
 have o:=fun(j:Nat)(a:Oper)(e:(o7 d x y p q k)[j]?=some a)=>Hv u e;have W:=h.add (by omega) (o 0 _ rfl) (by omega) (by omega) (by omega) e1 s;have W:=W.add (by omega) (o 1 _ rfl) (by omega) (by omega) (by omega) (by rw[aI _ _ (by omega)];exact l) (by rw[aI _ _ (by omega)];exact t)
 have W:=W.build (pv:=#[(0,.int .i64 b),(1,.int .i64 c)]) (by omega) (o 2 _ rfl) (by omega) (by
  simp only[ap,aq,ar]
  rw[bH (by omega),bH (by omega),aI _ _ (by omega),aI _ _ (by omega),aI _ _ (by omega),aI _ _ (by omega),e1,l]) (b35 _ _ _)
 have W:=W.build (pv:=#[(0,.int .i64 (IntKind.i64.wrap (b+m))),(1,.int .i64 (IntKind.i64.wrap (c+n)))]) (by omega) (o 3 _ rfl) (by omega) (by
  simp only[ap,aq,ar]
  rw[bH (by omega),bH (by omega),aI _ _ (by omega),aI _ _ (by omega),aH,aI _ _ (by omega),aH]) (b35 _ _ _)
 have W:=W.move (by omega) (o 4 _ rfl) (by omega)
 have W:=W.build (pv:=#[(0,.int .i64 k),(1,.agg #[.int .i64 b,.int .i64 c]),(2,.agg #[.int .i64 (IntKind.i64.wrap (b+m)),.int .i64 (IntKind.i64.wrap (c+n))])]) (by omega) (o 5 _ rfl) (by omega) (by
  simp only[ap,aq,ar]
  rw[bH (by omega),bH (by omega),bH (by omega),aH,aI _ _ (by omega),aI _ _ (by omega),aH,aI _ _ (by omega),aH]) (b61 _ _ _ _ _ _)
 refine⟨_,?_,?_,aH _ _ _,λj B=>?_,W⟩
 ·rw[aI _ _ (by omega),aI _ _ (by omega),aI _ _ (by omega),aI _ _ (by omega),aI _ _ (by omega),aH]
 ·rw[aI _ _ (by omega),aI _ _ (by omega),aI _ _ (by omega),aI _ _ (by omega),aH]
 ·rw[aI _ _ (by omega),aI _ _ (by omega),aI _ _ (by omega),aI _ _ (by omega),aI _ _ (by omega),aI _ _ (by omega)]
def Wi.UY(h:Wi f R g0 w0 r cs H i w)(hi:i+2<206)(hd:d+1<193)(s:x<d)(hy:y<d)(t:p<d)(u:q<d){b c m n:Int}(e1:H x=.int .i64 b)(e:H y=.int .i64 c)(g:H p=.int .i64 m)(k:H q=.int .i64 n)
 (l:aS[i]?=some (aD (some d) (.binOp .add 3 (.tmp x) (.tmp p) 3) none)) (o:aS[i+1]?=some (aD (some (d+1)) (.binOp .add 3 (.tmp y) (.tmp q) 3) none)) :
 ∃a,a d=.int .i64 (IntKind.i64.wrap (b+m))/\a (d+1)=.int .i64 (IntKind.i64.wrap (c+n))/\(∀j,j<d->a j=H j)/\Wi f R g0 w0 r cs a (i+2) w:=by
 have W:=h.add (by omega) l (by omega) (by omega) (by omega) e1 g;have W:=W.add (by omega) o (by omega) (by omega) (by omega) (by rw[aI _ _ (by omega)];exact e) (by rw[aI _ _ (by omega)];exact k);refine⟨_,?_,aH _ _ _,λj v=>?_,W⟩
 ·rw[aI _ _ (by omega),aH]
 ·rw[aI _ _ (by omega),aI _ _ (by omega)]
def Wi.akK{z:Nat}{x0 x1 x2 x3 x4 y0 y1 y2 y3 y4 z0 z1 a b c:Value}(h:Wi f R g0 w0 r cs H i w)(hi:i+1<206)(hd:d<193)(m:x<d)(hy:y<d)(n:z<d)(e1:H x=.agg #[x0,x1,x2,x3,x4])(g:H y=.agg #[y0,y1,y2,y3,y4])(k:H z=.agg #[z0,z1,a,b,c])
 (l:aS[i]?=some (aD (some d) (.build 181 #[(0,.tmp x),(1,.tmp y),(2,.tmp z)]) none)) :
 ∃e,e d=.agg #[x0,x1,x2,x3,x4,y0,y1,y2,y3,y4,z0,z1,a,b,c,Z0,Z0,Z0,Z0,Z0,Z0,Z0,Z0,Z0,Z0]/\(∀j,j<d->e j=H j)/\Wi f R g0 w0 r cs e (i+1) w:=by
 have W:=h.build (d:=d) (pv:=#[(0,.agg #[x0,x1,x2,x3,x4]),(1,.agg #[y0,y1,y2,y3,y4]),(2,.agg #[z0,z1,a,b,c])]) (by omega) l (by omega) (by
  simp only[ap,aq,ar]
  rw[bH (by omega),bH (by omega),bH (by omega),e1,g,k]) (aeQ _ _ _ _ _ _ _ _ _ _ _ _ _ _ _ _)
 exact⟨_,aH _ _ _,λj o=>aI _ _ (by omega),W⟩
def Wi.akL{z:Nat}{x0 x1 x2 x3 x4 y0 y1 y2 y3 y4 z0 z1 a b c:Value}(h:Wi f R g0 w0 r cs H i w)(hi:i+1<206)(hd:d<193)(m:x<d)(hy:y<d)(n:z<d)(e1:H x=.agg #[x0,x1,x2,x3,x4])(g:H y=.agg #[y0,y1,y2,y3,y4])(k:H z=.agg #[z0,z1,a,b,c])
 (l:aS[i]?=some (aD (some d) (.build 181 #[(1,.tmp x),(2,.tmp y),(0,.tmp z)]) none)) :
 ∃e,e d=.agg #[z0,z1,a,b,c,x0,x1,x2,x3,x4,y0,y1,y2,y3,y4,Z0,Z0,Z0,Z0,Z0,Z0,Z0,Z0,Z0,Z0]/\(∀j,j<d->e j=H j)/\Wi f R g0 w0 r cs e (i+1) w:=by
 have W:=h.build (d:=d) (pv:=#[(1,.agg #[x0,x1,x2,x3,x4]),(2,.agg #[y0,y1,y2,y3,y4]),(0,.agg #[z0,z1,a,b,c])]) (by omega) l (by omega) (by
  simp only[ap,aq,ar]
  rw[bH (by omega),bH (by omega),bH (by omega),e1,g,k]) (aeR _ _ _ _ _ _ _ _ _ _ _ _ _ _ _ _)
 exact⟨_,aH _ _ _,λj o=>aI _ _ (by omega),W⟩
def Wi.tab{u0 u1 u2 u3 u4 u5 u6 u7 u8 u9 u10 u11 u12 u13 u14 v0 v1 v2 v3 c v5 v6 v7 e g a b k l m:Value}(h:Wi f R g0 w0 r cs H i w)(hi:i+1<206)(hd:d<193)(t:x<d)(hy:y<d)(e1:H x=.agg #[u0,u1,u2,u3,u4,u5,u6,u7,u8,u9,u10,u11,u12,u13,u14,Z0,Z0,Z0,Z0,Z0,Z0,Z0,Z0,Z0,Z0])(o:H y=.agg #[v0,v1,v2,v3,c,v5,v6,v7,e,g,a,b,k,l,m,Z0,Z0,Z0,Z0,Z0,Z0,Z0,Z0,Z0,Z0])
 (s:aS[i]?=some (aD (some d) (.build 183 #[(0,.tmp x),(1,.tmp y)]) none)) :
 ∃n,n d=.agg #[u0,u1,u2,u3,u4,u5,u6,u7,u8,u9,u10,u11,u12,u13,u14,Z0,Z0,Z0,Z0,Z0,Z0,Z0,Z0,Z0,Z0,v0,v1,v2,v3,c,v5,v6,v7,e,g,a,b,k,l,m,Z0,Z0,Z0,Z0,Z0,Z0,Z0,Z0,Z0,Z0,Z0,Z0,Z0,Z0,Z0,Z0,Z0,Z0,Z0,Z0,Z0,Z0,Z0,Z0,Z0,Z0,Z0,Z0,Z0,Z0,Z0,Z0,Z0,Z0,Z0]/\(∀j,j<d->n j=H j)/\Wi f R g0 w0 r cs n (i+1) w:=by
 have W:=h.build (d:=d) (pv:=#[(0,.agg #[u0,u1,u2,u3,u4,u5,u6,u7,u8,u9,u10,u11,u12,u13,u14,Z0,Z0,Z0,Z0,Z0,Z0,Z0,Z0,Z0,Z0]),(1,.agg #[v0,v1,v2,v3,c,v5,v6,v7,e,g,a,b,k,l,m,Z0,Z0,Z0,Z0,Z0,Z0,Z0,Z0,Z0,Z0])]) (by omega) s (by omega) (by
  simp only[ap,aq,ar]
  rw[bH (by omega),bH (by omega),e1,o]) (aeS _ _ _ _ _ _ _ _ _ _ _ _ _ _ _ _ _ _ _ _ _ _ _ _ _ _ _ _ _ _ _)
 exact⟨_,aH _ _ _,λj u=>aI _ _ (by omega),W⟩
end
end Go.Proofs
