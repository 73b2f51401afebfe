/- Part of the proof of FieldDelays. -/
import Derived.Test.YtlilmeaaoeemdaaGreatU04
import Derived.BigQuiet
import Derived.Carry
import Derived.Deep.QuietTactic
import Derived.Laws.RangeAny
import Derived.Lib.Hide
import Derived.Maps.OwnOps
import Derived.OwnWalk
import Derived.WalkKit
import Derived.WalkLawsBesides
import Derived.WalkSpells
set_option linter.all false
open Go renaming Program->aa,TypeId->ab,underlying->ac,sizeOf->ad,typeInfo->ae,zeroValue->ag,callFunc->ai,MapEntry->ao,wpList->ap,wpList_plain->aq,bodyPost_ret->ar,results->aw
open Go.Sem renaming run->aB
open Array renaming getElem?_setIfInBounds_ne->aF
open Go.Proofs.Tryz renaming prog->aH,func15->aI,func29->aJ,func64->aL,func36->aP,func41->aS,func42->aT,func56->a5,func57->a6,func58->a7,func59->a8,func60->a9,func37->ba,func38->bb,func40->bc,func35->bd,func43->bg,func63->bi,func45->bj,func34->bm,func78->bo,func79->bp,func80->br,func81->bs,func62->bt,func110->bv,func86->bw,func87->bx,ntmps57->bA,ntmps81->bC,ntmps58->bL,ntmps60->bM,ntmps59->bR,ntmps35->bT,results35->bX,ntmps15->b1,ntmps62->b8,ntmps38->b9,ntmps40->ca
open Go.RowKit.Below renaming refl->cb,heap_alloc->cc,trans->cd
open Nat renaming le_refl->ce,zero_le->cf,not_lt_zero->cg,le_succ_of_le->ch,lt_trans->ci,lt_of_lt_of_le->cl,add_zero->cm,le_succ->co
open List renaming range->cp,all_eq_false->ct,all_eq_true->cv,map_cons->cB,range_succ->cC,map_append->cQ
open Go.Lib renaming hid->da
open Go.Instr renaming checkKey->db,findKey->dd,sameNow->de,findNow->df,findAsking->di,lookup->dj,mapUpdate->dk,index->dl
open Go.MapKept renaming run_getObj_map->dp
open Go.World renaming cell?_of_block->dq,cell?->dt
open Go.Value renaming bool->du,int->dv
open Int renaming mul_nonneg->dy,mul_add->dz,le_total->dC,neg_mul_neg->dK,mul_le_mul->dL
namespace Go
def nO(P:aa)(n:ab)(w:World):aB P (ac n) w=match P.underlying n with|some i=>.ok i w|none=>.halt (.stuck "no such type") w:=by
 cases h:P.underlying n<;>simp[ac,h]
section
variable {P Q:aa}
def yf(h:P.toTables=Q.toTables)(n:ab):P.info? n=Q.info? n:=by
 show Tables.info? P.toTables n=Tables.info? Q.toTables n;rw[h]
def Cb(h:P.toTables=Q.toTables)(n:ab):P.underlying n=Q.underlying n:=by
 simp only[Program.underlying,yf h]
def yg(h:P.toTables=Q.toTables)(n:ab)(w:World):aB P (ac n) w=aB Q (ac n) w:=by
 rw[nO,nO,Cb h]
def Hw(h:P.toTables=Q.toTables)(n:ab)(w:World):aB P (ad n) w=aB Q (ad n) w:=by
 have e:=yf h n
 cases a:Q.info? n with
 |none=>rw[a]at e;simp[ad,ae,a,e]
 |some i=>rw[a]at e;simp[ad,ae,a,e]
def Na(h:P.toTables=Q.toTables)(n:ab)(w:World):aB P (isAgg n) w=aB Q (isAgg n) w:=by
 have e:=Cb h n
 cases a:Q.underlying n with
 |none=>rw[a]at e;simp[isAgg,ac,a,e]
 |some d=>rw[a]at e;cases d<;>simp[isAgg,ac,a,e]
def QZ(h:P.toTables=Q.toTables)(n:ab)(w:World):aB P (ag n) w=aB Q (ag n) w:=by
 have e:=yf h n
 cases a:Q.info? n with
 |none=>rw[a]at e;simp[ag,ae,a,e]
 |some i=>
  rw[a]at e;cases b:i.zero<;>simp[ag,ae,a,e,b]
end
end Go
namespace Go.Proofs
open Go.RowKit
set_option maxRecDepth 100000
noncomputable def PL:aa:=⟨Tryz.progTables,cY.funcs⟩
def mo:PL.toTables=Tryz.prog.toTables:=rfl
def fx{n:Nat}{f:Func}(h:51≠n)(hf:Tryz.prog.funcs[n]?=some f):PL.funcs[n]?=some f:=by
 show(Tryz.funcs.setIfInBounds 51 nS)[n]?=_;rw[aF h];exact hf
@[simp] def PL.tables:PL.toTables=Tryz.prog.toTables:=rfl
@[simp] def PL.tY(n:ab):PL.underlying n=Tryz.prog.underlying n:=Cb mo n
@[simp] def PL.abF(n:ab)(w:World):aB PL (ad n) w=aB aH (ad n) w:=Hw mo n w
@[simp] def PL.runUnderlying(n:ab)(w:World):aB PL (ac n) w=aB aH (ac n) w:=yg mo n w
@[simp] def PL.afe(n:ab)(w:World):aB PL (isAgg n) w=aB aH (isAgg n) w:=Na mo n w
@[simp] def PL.U4(n:ab)(w:World):aB PL (ag n) w=aB aH (ag n) w:=QZ mo n w
end Go.Proofs
namespace Go
def JZ{P:aa}{n:FuncId}{fn:Func}(h:P.funcs[n]?=some fn)(a:(fn.name == "runtime.NumGoroutine")=false)(hb:fn.body.isNone=false)(args:Array Value)(w:World):aB P (ai n args) w=.ok (.enter n args) w:=by
 have b:fn.name≠ "runtime.NumGoroutine":=by simpa using a
 have c:fn.body≠none:=λe=>by rw[e]at hb;cases hb
 simp[ai,h,b,c]
end Go
namespace Go.Proofs
set_option maxRecDepth 100000
abbrev ax(n:FuncId):Prop:=∀(args:Array Value)(w:World),aB PL (ai n args) w=.ok (.enter n args) w
def pc{n:FuncId}{fn:Func}(h:Tryz.prog.funcs[n]?=some fn)(a:51≠n:=by decide)(b:(fn.name == "runtime.NumGoroutine")=false:=by decide +kernel)(hb:fn.body.isNone=false:=by rfl):ax n:=
 JZ (fx a h) b hb
def Cc:PL.funcs[51]?=some nS:=by
 have hl:51<Tryz.funcs.size:=(Array.getElem?_eq_some_iff.1 Tryz.func51).1;show(Tryz.funcs.setIfInBounds 51 nS)[51]?=_;rw[Array.getElem?_setIfInBounds_self_of_lt hl]
@[simp] def PL.call98(args:Array Value)(w:World):aB PL (ai 51 args) w=.ok (.enter 51 args) w:=JZ Cc (by decide +kernel) rfl args w
@[simp] def PL.call18:ax 12:=pc Tryz.func12
@[simp] def PL.call19:ax 5:=pc Tryz.func5
@[simp] def PL.call20:ax 15:=pc aI
@[simp] def PL.call22:ax 29:=pc aJ
@[simp] def PL.call23:ax 13:=pc Tryz.func13
@[simp] def PL.call24:ax 16:=pc Tryz.func16
@[simp] def PL.call26:ax 17:=pc Tryz.func17
@[simp] def PL.call28:ax 22:=pc Tryz.func22
@[simp] def PL.call30:ax 28:=pc Tryz.func28
@[simp] def PL.call31:ax 23:=pc Tryz.func23
@[simp] def PL.call33:ax 4:=pc Tryz.func4
@[simp] def PL.call34:ax 18:=pc Tryz.func18
@[simp] def PL.call36:ax 20:=pc Tryz.func20
@[simp] def PL.call37:ax 21:=pc Tryz.func21
@[simp] def PL.call38:ax 24:=pc Tryz.func24
@[simp] def PL.call39:ax 8:=pc Tryz.func8
@[simp] def PL.call45:ax 64:=pc aL
@[simp] def PL.call48:ax 11:=pc Tryz.func11
@[simp] def PL.call49:ax 9:=pc Tryz.func9
@[simp] def PL.call52:ax 6:=pc Tryz.func6
@[simp] def PL.call53:ax 7:=pc Tryz.func7
@[simp] def PL.call54:ax 10:=pc Tryz.func10
@[simp] def PL.call56:ax 26:=pc Tryz.func26
@[simp] def PL.call58:ax 25:=pc Tryz.func25
@[simp] def PL.call59:ax 19:=pc Tryz.func19
@[simp] def PL.call65:ax 27:=pc Tryz.func27
@[simp] def PL.call74:ax 36:=pc aP
@[simp] def PL.call77:ax 14:=pc Tryz.func14
@[simp] def PL.call78:ax 41:=pc aS
@[simp] def PL.call79:ax 42:=pc aT
@[simp] def PL.call81:ax 56:=pc a5
@[simp] def PL.call82:ax 57:=pc a6
@[simp] def PL.call83:ax 58:=pc a7
@[simp] def PL.call84:ax 59:=pc a8
@[simp] def PL.call85:ax 60:=pc a9
@[simp] def PL.call86:ax 37:=pc ba
@[simp] def PL.call87:ax 38:=pc bb
@[simp] def PL.call88:ax 39:=pc Tryz.func39
@[simp] def PL.call89:ax 40:=pc bc
@[simp] def PL.call90:ax 35:=pc bd
@[simp] def PL.call91:ax 43:=pc bg
@[simp] def PL.call92:ax 44:=pc Tryz.func44
@[simp] def PL.call94:ax 63:=pc bi
@[simp] def PL.call96:ax 45:=pc bj
@[simp] def PL.call97:ax 50:=pc Tryz.func50
@[simp] def PL.call99:ax 52:=pc Tryz.func52
@[simp] def PL.call101:ax 33:=pc Tryz.func33
@[simp] def PL.call105:ax 55:=pc Tryz.func55
@[simp] def PL.call108:ax 46:=pc Tryz.func46
@[simp] def PL.call109:ax 47:=pc Tryz.func47
@[simp] def PL.call110:ax 48:=pc Tryz.func48
@[simp] def PL.call111:ax 53:=pc Tryz.func53
@[simp] def PL.call112:ax 34:=pc bm
@[simp] def PL.call113:ax 31:=pc Tryz.func31
@[simp] def PL.call114:ax 32:=pc Tryz.func32
@[simp] def PL.call115:ax 30:=pc Tryz.func30
@[simp] def PL.call118:ax 49:=pc Tryz.func49
@[simp] def PL.call127:ax 78:=pc bo
@[simp] def PL.call128:ax 61:=pc Tryz.func61
@[simp] def PL.call131:ax 79:=pc bp
@[simp] def PL.call132:ax 80:=pc br
@[simp] def PL.call133:ax 81:=pc bs
@[simp] def PL.call134:ax 62:=pc bt
@[simp] def PL.call142:ax 77:=pc Tryz.func77
@[simp] def PL.call143:ax 66:=pc Tryz.func66
@[simp] def PL.call145:ax 68:=pc Tryz.func68
@[simp] def PL.call146:ax 75:=pc Tryz.func75
@[simp] def PL.call151:ax 82:=pc Tryz.func82
@[simp] def PL.call152:ax 83:=pc Tryz.func83
@[simp] def PL.call153:ax 84:=pc Tryz.func84
@[simp] def PL.call154:ax 85:=pc Tryz.func85
@[simp] def PL.call157:ax 110:=pc bv
@[simp] def PL.call158:ax 86:=pc bw
@[simp] def PL.call159:ax 87:=pc bx
@[simp] def PL.call180:ax 109:=pc Tryz.func109
@[simp] def PL.call181:ax 108:=pc Tryz.func108
@[simp] def PL.call191:ax 120:=pc Tryz.func120
@[simp] def PL.call199:ax 128:=pc Tryz.func128
open Go.RowKit
set_option maxHeartbeats 400000
def aO(v:Value)(w:World)(e:Ending)(w':World):Prop:=e=.returned v/\Below w.heap.size w w'
def bO(n a b:Int):Bool:=decide (a<=n)&&decide (n<=b)
def bG(n a b:Int)(w:World) :
 Calls PL 41 #[.int .i64 n,.int .i64 a,.int .i64 b] w λe w'=>e=.returned (.bool (bO n a b))/\w'=w:=by
 go_enter (fx (by decide) aS),Tryz.ntmps41
 go_wp2
 all_goals (go_ret;simp[bO];try omega)
def o8(n:Int)(w:World):Calls PL 34 #[.int .i64 n] w λe w'=>e=.returned (.bool (bO n 0 12))/\w'=w:=by
 go_enter (fx (by decide) bm),Tryz.ntmps34
 go_wp2_with (go_at_call 41;refine(bG _ _ _ _).mono ?_;rintro e w'⟨rfl,rfl⟩)
 go_ret
 exact⟨rfl,rfl⟩
def eK(a b low c:Int):Bool:=decide (low<=a)&&decide (a<=b)&&decide (b<=c)
def nh(a b low c:Int)(w:World) :
 Calls PL 78 #[.agg #[.int .i64 a,.int .i64 b],.int .i64 low,.int .i64 c] w (aO (.bool (eK a b low c)) w):=by
 go_enter (fx (by decide) bo),Tryz.ntmps78
 go_wp2
 all_goals (go_ret;refine⟨?_,(cb _ _).alloc (ce _) _⟩;simp[eK];try omega)
def Ej(a b:Bool):Int:=if b then(if a then 0 else 2) else 1
def U5(a b:Bool)(w:World):Calls PL 45 #[.bool a,.bool b] w λe w'=>e=.returned (.int .i64 (Ej a b))/\w'=w:=by
 cases a<;>cases b
 all_goals
  go_enter (fx (by decide) bj),Tryz.ntmps45
  go_wp2
  go_ret
  exact⟨rfl,rfl⟩
def fN{n a b:Int}(h:bO n a b=true)(w:World):Calls PL 41 #[.int .i64 n,.int .i64 a,.int .i64 b] w λe w'=>e=.returned (.bool true)/\w'=w:=by
 have:=bG n a b w;rwa[h]at this
def pZ{n a b:Int}(h:bO n a b=false)(w:World):Calls PL 41 #[.int .i64 n,.int .i64 a,.int .i64 b] w λe w'=>e=.returned (.bool false)/\w'=w:=by
 have:=bG n a b w;rwa[h]at this
def Ek{a b low c:Int}(h:eK a b low c=true)(w:World):Calls PL 78 #[.agg #[.int .i64 a,.int .i64 b],.int .i64 low,.int .i64 c] w (aO (.bool true) w):=by
 have:=nh a b low c w;rwa[h]at this
def El{a b low c:Int}(h:eK a b low c=false)(w:World):Calls PL 78 #[.agg #[.int .i64 a,.int .i64 b],.int .i64 low,.int .i64 c] w (aO (.bool false) w):=by
 have:=nh a b low c w;rwa[h]at this
def aV{b:Bool}(h:¬b=true):b=false:=by simpa using h
def pq(n:Nat)(x:Nat->Int×Int):Int:=if bO n 1 3 then(if(cp n).all λi=>eK (x i).1 (x i).2 0 90 then 0 else 1) else 2
def Nb(l p:Int)(b:Option Addr)(k o n c:Nat)(x:Nat->Int×Int)(z A v5:Value)(w:World)(E:n<=20)(s:k<w.heap.size)(hs:0<n->b=some ⟨k,o,none⟩)
 (t:∀i,i<n->w.cell? ⟨k,o+i*2,none⟩=some (.int .i64 (x i).1)) (u:∀i,i<n->w.cell? ⟨k,o+i*2+1,none⟩=some (.int .i64 (x i).2)) :
 Calls PL 57 #[.agg #[.int .i64 l,.int .i64 p,.slice b n c,z,A,v5]] w (aO (.int .i64 (pq n x)) w):=by
 have B:=da t;have C:=da u;clear t u;by_cases hb:bO (↑n) 1 3=true
 ·have D:0<n:=by simp[bO]at hb;omega
  obtain rfl:=hs D;have d:=da hb;clear hb hs
  go_enter (fx (by decide) a6),bA
  go_wp2_with (go_at_call 41;refine(fN d.out _).mono ?_;rintro e w'⟨rfl,rfl⟩)
  go_loopw [15] (λi wr=>∃m:Nat,m<=n/\i=.int .i64 m/\(∀j,j<m->eK (x j).1 (x j).2 0 90=true)/\Below w.heap.size w wr) (λi _=>n-(intOf i).toNat)
  case atStart=>exact⟨0,cf _,rfl,λj f=>absurd f (cg _),(cb _ _).alloc (ce _) _⟩
  case round=>
   obtain⟨m,F,rfl,v,a⟩:=hrel;have y:=da v;clear v;by_cases q:m<n
   ·have c0:=(a.cell (p:=⟨k,o+m*2,none⟩) s).trans (B.out m q);have c1:=(a.cell (p:=⟨k,o+m*2+1,none⟩) s).trans (C.out m q);by_cases hi:eK (x m).1 (x m).2 0 90=true
    ·have g:=da hi;clear hi
     go_wp2_with (go_at_call 78;refine(Ek g.out _).mono ?_;rintro e w1⟨rfl,r⟩)
     go_roundw
     case rel=>exact⟨m+1,q,by go_num,λj f=>by
      rcases Nat.lt_succ_iff_lt_or_eq.1 f with h|h
      ·exact y.out j h
      ·rw[h];exact g.out,(a.alloc a.size _).trans (r.mono (by simpa using ch a.size))⟩
     case measure=>simp[intOf];omega
    ·have g:=da (aV hi);clear hi
     go_wp2_with (go_at_call 78;refine(El g.out _).mono ?_;rintro e w1⟨rfl,r⟩)
     go_ret
     refine⟨?_,?_⟩
     ·have:((cp n).all λi=>eK (x i).1 (x i).2 0 90)=false:=by
       rw[ct];exact⟨m,List.mem_range.2 q,by simp[g.out]⟩
      simp[pq,d.out,this]
     ·exact(a.alloc a.size _).trans (r.mono (by simpa using ch a.size))
   ·go_wp2
    go_ret
    refine⟨?_,a⟩;have:((cp n).all λi=>eK (x i).1 (x i).2 0 90)=true:=by
     rw[cv];intro j f;exact y.out j (by have:=List.mem_range.1 f;omega)
    simp[pq,d.out,this]
 ·have d:=da (aV hb);clear hb
  go_enter (fx (by decide) a6),bA
  go_wp2_with (go_at_call 41;refine(pZ d.out _).mono ?_;rintro e w'⟨rfl,rfl⟩)
  go_ret
  exact⟨by simp[pq,d.out],(cb _ _).alloc (ce _) _⟩
end Go.Proofs
namespace Go
open Instr Go.RowKit
section
variable {P:aa}{w:World}
structure KeyLaw(P:aa)(tk:ab){α:Type}(enc:α->Value):Prop where
 check:∀b x w,(db b 10000 tk (enc x)).run P w=.ok () w
 find:∀(es:List ao)(ks:List α)(x:α)(w:World),es.map (·.key)=ks.map enc->∃r,(dd tk (enc x) es).run P w=.ok r w/\(x∈ks->∃i,∃e∈es,r=some (i,e.val))/\(x∉ks->r=none)
def vq{f:Type}{enc:f->Value}{d:TypeDesc}(h:∀x y,de d (enc x) (enc y)=some true/\x=y\/de d (enc x) (enc y)=some false/\x≠y)(x:f) :
 ∀(es:List ao)(a:List f)(i:Nat),es.map (·.key)=a.map enc->∃r,df d (enc x) es i=some r/\(x∈a->∃j,∃e∈es,r=some (j,e.val))/\(x∉a->r=none):=by
 intro es
 induction es with
 |nil=>
  intro a i b
  cases a with
  |nil=>exact⟨none,rfl,λh=>absurd h (by simp),λ_=>rfl⟩
  |cons _ _=>simp at b
 |cons e es l=>
  intro a i b
  cases a with
  |nil=>simp at b
  |cons y a=>
   simp only[cB,List.cons.injEq]at b
   rcases h x y with⟨g,rfl⟩|⟨g,m⟩
   ·exact⟨some (i,e.val),by simp[df,b.1,g],λ_=>⟨i,e,by simp,rfl⟩,λk=>absurd (by simp) k⟩
   ·obtain⟨r,n,o,p⟩:=l a (i+1) b.2;refine⟨r,by simp[df,b.1,g,n],λc=>?_,λk=>p λc=>k (by simp[c])⟩
    rcases List.mem_cons.1 c with q|c
    ·exact absurd q m
    ·obtain⟨j,s,t,u⟩:=o c;exact⟨j,s,by simp[t],u⟩
def yj{d:Type}{enc:d->Value}{tk:ab}[DecidableEq d](h:∀x y(w:World),(Op.equal tk (enc x) (enc y)).run P w=.ok (decide (x=y)) w)(x:d) :
 ∀(es:List ao)(a:List d)(i:Nat)(w:World),es.map (·.key)=a.map enc->∃r,(di tk (enc x) es i).run P w=.ok r w/\(x∈a->∃j,∃e∈es,r=some (j,e.val))/\(x∉a->r=none):=by
 intro es
 induction es with
 |nil=>
  intro a i w b
  cases a with
  |nil=>exact⟨none,rfl,λh=>absurd h (by simp),λ_=>rfl⟩
  |cons _ _=>simp at b
 |cons e es k=>
  intro a i w b
  cases a with
  |nil=>simp at b
  |cons y a=>
   simp only[cB,List.cons.injEq]at b;by_cases f:x=y
   ·subst f;exact⟨some (i,e.val),by simp[di,b.1,h],λ_=>⟨i,e,by simp,rfl⟩,λg=>absurd (by simp) g⟩
   ·obtain⟨r,l,m,n⟩:=k a (i+1) w b.2;refine⟨r,by simp[di,b.1,h,f,l],λc=>?_,λg=>n λc=>g (by simp[c])⟩
    rcases List.mem_cons.1 c with o|c
    ·exact absurd o f
    ·obtain⟨j,p,q,s⟩:=m c;exact⟨j,p,by simp[q],s⟩
def Hx{tk:ab}{k:IntKind}(a:P.underlying tk=some (.int k)):KeyLaw P tk (λn:Int=>.int k n) where
 check b x w:=by
  show(db b (9999+1) tk _).run P w=_;generalize 9999=n;simp[db,ac,a]
 find es c x w e:=by
  obtain⟨r,f,g,i⟩:=vq (enc:=λn:Int=>.int k n) (d:=.int k) (λx y=>by
   by_cases h:x=y
   ·exact .inl ⟨by simp[de,h],h⟩
   ·exact .inr ⟨by simp[de,h],h⟩) x es c 0 e
  exact⟨r,by simp[dd,ac,a,f],g,i⟩
def bytes_beq(x y:ByteArray):(x==y)=decide (x=y):=by
 obtain⟨a⟩:=x;obtain⟨b⟩:=y;show(a==b)=_;by_cases h:a=b
 ·simp[h]
 ·have:¬(ByteArray.mk a=ByteArray.mk b):=λe=>h (by cases e;rfl);simp[h,this]
instance:LawfulBEq ByteArray where
 rfl:=by intro a;rw[bytes_beq];simp
 eq_of_beq:=by intro a b h;rw[bytes_beq]at h;simpa using h
def zP{tk:ab}(a:P.underlying tk=some .string):KeyLaw P tk (λs:ByteArray=>.string s) where
 check b x w:=by
  show(db b (9999+1) tk _).run P w=_;generalize 9999=n;simp[db,ac,a]
 find es c x w e:=by
  obtain⟨r,f,g,i⟩:=vq (enc:=λn:ByteArray=>.string n) (d:=.string) (λx y=>by
   by_cases h:x=y
   ·exact .inl ⟨by simp[de,bytes_beq,h],h⟩
   ·exact .inr ⟨by simp[de,bytes_beq,h],h⟩) x es c 0 e
  exact⟨r,by simp[dd,ac,a,f],g,i⟩
def aU(w:World){a:Type}(enc:a->Value)(b:Nat)(l:List a):Prop:=∃es clock,w.heap[b]?=some (.map es clock)/\es.toList.map (·.key)=l.map enc/\∀e∈es.toList,e.val=.bool true
def aU.of_heap{a:Type}{enc:a->Value}{b:Nat}{l:List a}{w w':World}(h:aU w enc b l)(e:w'.heap[b]?=w.heap[b]?):aU w' enc b l:=by
 obtain⟨es,c,d,f⟩:=h;exact⟨es,c,e.trans d,f⟩
def aU.lookup{a:Type}{enc:a->Value}{b:Nat}{l:List a}{t tk g:ab}[DecidableEq a](h:aU w enc b l)(K:KeyLaw P tk enc)(j:P.underlying t=some (.map tk g))(m:(ag g).run P w=.ok (.bool false) w)(x:a) :
 (dj t (.map (some b)) (enc x) false).run P w=.ok (.bool (decide (x∈l))) w:=by
 obtain⟨es,c,k,n,o⟩:=h;obtain⟨r,f,p,q⟩:=K.find es.toList l x w n;by_cases d:x∈l
 ·obtain⟨i,e,s,rfl⟩:=p d;simp[dj,ac,j,dp k,K.check,f,d,o e s]
 ·rw[q d]at f;simp[dj,ac,j,dp k,K.check,f,d,m]
structure gv(w w':World)(b:Nat):Prop where
 os:w'.os=w.os
 tape:w'.tape=w.tape
 output:w'.output=w.output
 size:w'.heap.size=w.heap.size
 block:∀c,c≠b->w'.heap[c]?=w.heap[c]?
def gv.below{w w':World}{b B:Nat}(h:gv w w' b)(a:B<=b):Below B w w':=⟨h.os,h.tape,h.output,by rw[h.size];exact ce _,λk c=>h.block k (by omega)⟩
def gv.cell{w w':World}{b:Nat}(h:gv w w' b){a:Addr}(c:a.block≠b):w'.cell? a=w.cell? a:=dq (w:=w) (h.block a.block c)
def aU.put{d:Type}{enc:d->Value}{b:Nat}{l:List d}{t tk j:ab}(h:aU w enc b l)(K:KeyLaw P tk enc)(m:P.underlying t=some (.map tk j)){x:d}(n:x∉l) :
 ∃w',(dk t (.map (some b)) (enc x) (.bool true)).run P w=.ok () w'/\aU w' enc b (l++[x])/\gv w w' b:=by
 obtain⟨es,c,f,g,o⟩:=h;obtain⟨r,i,s,p⟩:=K.find es.toList l x w g;rw[p n]at i;have hb:b<w.heap.size:=(Array.getElem?_eq_some_iff.1 f).1;refine⟨{ w with heap:=w.heap.setIfInBounds b (.map (es.push { key:=enc x,val:=.bool true,born:=c }) (c+1)) },?_,⟨es.push { key:=enc x,val:=.bool true,born:=c },c+1,by simp[hb],by simp[g],λe a=>?_⟩,rfl,rfl,rfl,by simp,λk q=>?_⟩
 ·simp[dk,ac,m,dp f,K.check,i,MapKept.run_setObj_map _ f]
 ·simp only[Array.toList_push,List.mem_append,List.mem_singleton]at a
  rcases a with a|rfl
  ·exact o e a
  ·rfl
 ·show(w.heap.setIfInBounds b _)[k]?=_;rw[aF (Ne.symm q)]
def aU.made{a:Type}{enc:a->Value}(w:World):aU (w.alloc (.map #[] 0)) enc w.heap.size ([]:List a):=⟨#[],0,by show(w.heap.push _)[w.heap.size]?=_;simp,rfl,λe b=>by simp at b⟩
def aR{P:aa}(w:World){ops:Array Oper}{rest:List Oper}{o:Oper}{a:Act}{Q:Exit->Act->World->Prop}{c:Type}[DecidableEq c]{enc:c->Value}
 (hg:o.guard=none) (m x:Operand) (t tk d:ab) (g:o.op=Op.lookup t m x false) (K:KeyLaw P tk enc) (i:P.underlying t=some (.map tk d)) (j:(ag d).run P w=.ok (.bool false) w)
 (b:Nat) (l:List c) (k:a.eval m=.map (some b)) (h:aU w enc b l) (y:c) (n:a.eval x=enc y) (v:Bool) (hv:v=true↔y∈l) (p:ap P ops Q rest (a.put o.dst (.bool v)) w):ap P ops Q (o::rest) a w:=by
 refine aq hg λq hK'=>?_;have f:=h.lookup K i j y;have e:decide (y∈l)=v:=by
  cases v with
  |true=>simpa using hv
  |false=>simpa using hv
 rw[e]at f;unfold Oper.wp;simp[execOp,g,k,n,f,Result.andThen];exact hK' _ _ p
def dH{P:aa}(w:World){ops:Array Oper}{rest:List Oper}{o:Oper}{a:Act}{Q:Exit->Act->World->Prop}{c:Type}{enc:c->Value}
 (hg:o.guard=none) (m x v:Operand) (t tk d:ab) (e:o.op=Op.mapUpdate t m x v) (K:KeyLaw P tk enc) (f:P.underlying t=some (.map tk d))
 (b:Nat) (l:List c) (g:a.eval m=.map (some b)) (h:aU w enc b l) (y:c) (i:a.eval x=enc y) (hv:a.eval v=.bool true) (j:y∉l)
 (k:∀w',aU w' enc b (l++[y])->gv w w' b->ap P ops Q rest (a.put o.dst undef) w'):ap P ops Q (o::rest) a w:=by
 refine aq hg λr hK'=>?_;obtain⟨w',n,p,q⟩:=h.put K f j;unfold Oper.wp;simp[execOp,e,g,i,hv,n,Result.andThen];exact hK' _ _ (k w' p q)
end
end Go
namespace Go.Proofs
open Go.Instr
set_option maxRecDepth 100000
def aaj:PL.underlying 3=some (.int .i64):=by rw[PL.tY];exact Tryz.underlying3
def al1:PL.underlying 9=some .string:=by rw[PL.tY];exact Tryz.underlying9
def qz:KeyLaw PL 3 (λn:Int=>.int .i64 n):=Hx aaj
def aak:KeyLaw PL 9 (λs:ByteArray=>.string s):=zP al1
def jc(p:Int×Int):Value:=.agg #[.int .i64 p.1,.int .i64 p.2]
def mq(w:World):(ag 4).run PL w=.ok (.bool false) w:=by rw[PL.U4];exact Tryz.zeroValue4 w
def ju:PL.underlying 106=some (.map 3 4):=by rw[PL.tY];exact Tryz.underlying106
def Hy:PL.underlying 148=some (.map 9 4):=by rw[PL.tY];exact Tryz.underlying148
def Hz:PL.underlying 143=some (.map 145 4):=by rw[PL.tY];exact Tryz.underlying143
def Q0:PL.stoodInHeld 145=false:=by kernel_rfl
def Nc:(PL.fieldsOf 145).toList=[{ name:= "low",type:=3,offset:=0,embedded:=false,tag:= "",pkgPath:= "nock/field",byteOffset:=0 },{ name:= "high",type:=3,offset:=1,embedded:=false,tag:= "",pkgPath:= "nock/field",byteOffset:=8 }]:=by kernel_rfl
def Q1:PL.underlying 145=some (.struct (PL.fieldsOf 145)):=by kernel_rfl
def afg(x y:Int×Int)(w:World):(Op.equal 145 (jc x) (jc y)).run PL w=.ok (decide (x=y)) w:=by
 obtain⟨a,b⟩:=x;obtain⟨c,d⟩:=y;have e:=run_equalIn_struct (P:=PL) w 9999 145 #[.int .i64 a,.int .i64 b] #[.int .i64 c,.int .i64 d] Q1 Q0;show(Op.equalIn (9999+1) 145 _ _).run PL w=_;rw[show jc (a,b)=.agg #[.int .i64 a,.int .i64 b] from rfl,show jc (c,d)=.agg #[.int .i64 c,.int .i64 d] from rfl,e,Nc];have f:∀(m n:Int)(w:World),(Op.equalIn 9999 3 (.int .i64 m) (.int .i64 n)).run PL w=.ok (m==n) w:=λm n w=>run_equalIn_int w 9998 3 .i64 .i64 m n aaj;generalize 9999=N at f;by_cases g:a=c<;>by_cases h:b=d<;>simp[Op.eqFields,part,f,g,h]
def Q4(b:Bool)(x:Int×Int)(w:World):(db b 10000 145 (jc x)).run PL w=.ok () w:=by
 obtain⟨a,c⟩:=x;show(db b (9999+1) 145 (.agg #[.int .i64 a,.int .i64 c])).run PL w=_;have d:∀(m:Int)(w:World),(db b 9999 3 (.int .i64 m)).run PL w=.ok () w:=λm w=>by
  show(db b (9998+1) 3 _).run PL w=_;generalize 9998=n;simp[db]
 generalize 9999=n at d;simp[db,part,d]
def HH:KeyLaw PL 145 jc where
 check:=Q4
 find es a x w b:=by
  cases es with
  |nil=>
   cases a with
   |nil=>exact⟨none,by simp[dd,df],λh=>absurd h (by simp),λ_=>rfl⟩
   |cons _ _=>simp at b
  |cons e es=>
   cases a with
   |nil=>simp at b
   |cons y a=>
    obtain⟨r,c,d,f⟩:=yj (P:=PL) (tk:=145) (enc:=jc) afg x (e::es) (y::a) 0 w b;have g:df (TypeDesc.struct (PL.fieldsOf 145)) (jc x) (e::es) 0=none:=by
     simp[df,de]
    have i:(ac 145).run PL w=.ok (.struct (PL.fieldsOf 145)) w:=run_underlying Q1 w;refine⟨r,?_,d,f⟩;unfold dd;rw[Sem.run_bind,i];simp only[Result.andThen_ok,g];exact c
end Go.Proofs
namespace Go.Proofs
open Go.RowKit
set_option maxRecDepth 100000
set_option maxHeartbeats 400000
def jd(l p:Int):Int:=if bO l 1 999&&bO p 1 6 then 0 else 1
def Em(l p:Int)(a b c v5:Value)(w:World) :
 Calls PL 56 #[.agg #[.int .i64 l,.int .i64 p,a,b,c,v5]] w (aO (.int .i64 (jd l p)) w):=by
 go_enter (fx (by decide) a5),Tryz.ntmps56
 go_wp2_with (go_at_call 41;refine(bG _ _ _ _).mono ?_;rintro e w'⟨rfl,rfl⟩)
 all_goals
  go_ret
  refine⟨?_,(cb _ _).alloc (ce _) _⟩
  simp_all [jd]
def kQ(l p n:Int)(a b c v5:Value)(w:World)(d:1<=p)(f:p<=6) :
 Calls PL 79 #[.agg #[.int .i64 l,.int .i64 p,a,b,c,v5],.int .i64 n] w (aO (.bool (bO n 0 (p-1))) w):=by
 go_enter (fx (by decide) bp),Tryz.ntmps79
 go_wp2_with (go_at_call 41;refine(bG _ _ _ _).mono ?_;rintro e w'⟨rfl,rfl⟩)
 go_ret
 exact⟨rfl,(cb _ _).alloc (ce _) _⟩
def eB(a b:Int):Int×Int:=(min a b,max a b)
def yl(a b c:Int)(w:World):Calls PL 80 #[.agg #[.int .i64 a,.int .i64 b,.int .i64 c]] w (aO (jc (eB a b)) w):=by
 go_enter (fx (by decide) br),Tryz.ntmps80
 go_wp2
 all_goals
  refine ar (v:=jc (eB a b)) ?_ rfl ⟨rfl,((cb _ _).alloc (ce _) _).alloc (by simp) _⟩;have e:eB a b=(min a b,max a b):=rfl;simp[aw,Tryz.results80,go_sem,jc,e];omega
def jv(s:ByteArray)(k:Nat):Nat:=if h:k<s.size then(s[k]'h).toNat else 0
def wA(c:Int)(k:Nat):Bool:=bO c 97 122||(!decide (k=0)&&bO c 48 57)
def ku(s:ByteArray):Bool:=((cp s.size).all λi=>wA (jv s i) i)&&bO s.size 1 12
def U7(w:World)(s:ByteArray)(k:Nat)(h:k<s.size):∃c k':Nat,c<=2147483647/\k<k'/\wA c k=wA (jv s k) k/\(wA c k=true->k'=k+1)/\
 ∀ty,(Instr.next (.pointer (some ⟨w.heap.size,0,none⟩)) true ty).run PL (w.iter s k)=.ok (.tuple #[.bool true,.int .i64 k,.int .i32 c]) (w.iter s k'):=by
 have a:jv s k=(s[k]'h).toNat:=by simp[jv,h]
 by_cases d:(s[k]'h).toNat<128
 ·exact⟨_,k+1,by omega,by omega,by rw[a],λ_=>rfl,λty=>run_next_ascii w s k ty h d⟩
 ·have hd:=decode_high s k h (by omega);have g:∀n:Nat,128<=n->wA n k=false:=λn i=>by
   simp only[wA,bO];have e:¬((n:Int)<=122):=by omega
   have f:¬((n:Int)<=57):=by omega
   simp[e,f]
  refine⟨(Utf8.decode s k).1,k+(Utf8.decode s k).2,decode_le s k,by omega,?_,λb=>?_,λty=>run_next_any w s k ty h⟩
  ·rw[g _ hd.1,a,g _ (by omega)]
  ·rw[g _ hd.1]at b;cases b
def qd{s:ByteArray}{k:Nat}(a:k<s.size)(h:wA (jv s k) k=false):ku s=false:=by
 have:((cp s.size).all λi=>wA (jv s i) i)=false:=by
  rw[ct];exact⟨k,List.mem_range.2 a,by rw[h];simp⟩
 simp[ku,this]
def ym(s:ByteArray)(w:World)(hs:s.size<=100):Calls PL 110 #[.string s] w (aO (.bool (ku s)) w):=by
 go_enter (fx (by decide) bv),Tryz.ntmps110
 go_wp2
 go_loopw [2] (λv wr=>∃k:Nat,k<=s.size/\v=.bool false/\wr=w.iter s k/\∀j,j<k->wA (jv s j) j=true) (λ_ wr=>s.size-wr.iterPos w.heap.size)
 case atStart=>exact⟨0,cf _,rfl,rfl,λj a=>absurd a (cg _)⟩
 case round=>
  obtain⟨k,r,rfl,rfl,o⟩:=hrel;have l:=da o;clear o;by_cases b:k<s.size
  ·obtain⟨c,k',hc,t,p,d,m⟩:=U7 w s k b;have f:=da p;have q:=da d;clear p d
   go_wp2_with (go_at_call 41;refine(bG _ _ _ _).mono ?_;rintro e w'⟨rfl,rfl⟩)
   ·have hb:bO (↑c) 97 122=true:=by assumption
    have hg:wA (↑c) k=true:=by simp[wA,hb]
    have zz:=q.out hg;clear m;subst zz
    exact⟨⟨k+1,b,rfl,rfl,λj a=>by
     rcases Nat.lt_succ_iff_lt_or_eq.1 a with h|h
     ·exact l.out j h
     ·rw[h,<-f.out];exact hg⟩,by simp;omega⟩
   ·have hb:¬bO (↑c) 97 122=true:=by assumption
    have g:k=0:=by assumption
    have hg:wA (↑c) k=false:=by simp[wA,hb,g]
    go_ret
    refine⟨?_,(cb _ _).alloc (ce _) _⟩;rw[qd b (by rw[<-f.out];exact hg)];rfl
   ·have hb:¬bO (↑c) 97 122=true:=by assumption
    have g:¬k=0:=by assumption
    have n:((k:Int)==0)=true\/(!bO (↑c) 48 57)=true:=by assumption
    have hg:wA (↑c) k=false:=by
     rcases n with h|h
     ·simp at h;omega
     ·simp at h;simp[wA,hb,h]
    go_ret
    refine⟨?_,(cb _ _).alloc (ce _) _⟩;rw[qd b (by rw[<-f.out];exact hg)];rfl
   ·have g:¬k=0:=by assumption
    have hand:((k:Int)==0)=false/\(!bO (↑c) 48 57)=false:=by assumption
    have hg:wA (↑c) k=true:=by
     have:=hand.2;simp at this;simp[wA,this,g]
    have zz:=q.out hg;clear m;subst zz
    exact⟨⟨k+1,b,rfl,rfl,λj a=>by
     rcases Nat.lt_succ_iff_lt_or_eq.1 a with h|h
     ·exact l.out j h
     ·rw[h,<-f.out];exact hg⟩,by simp;omega⟩
  ·have m:=λty=>run_next_end (P:=PL) w s k ty b;obtain rfl:k=s.size:=by omega
   go_wp2_with (go_at_call 41;refine(bG _ _ _ _).mono ?_;rintro e w'⟨rfl,rfl⟩)
   go_ret
   refine⟨?_,(cb _ _).alloc (ce _) _⟩;have:((cp s.size).all λi=>wA (jv s i) i)=true:=by
    rw[cv];intro j a;exact l.out j (List.mem_range.1 a)
   simp[ku,this]
abbrev yo:ByteArray->Value:=λs=>.string s
abbrev ag5:Int->Value:=λn=>.int .i64 n
structure nP(b:Nat)(w w':World):Prop where
 os:w'.os=w.os
 tape:w'.tape=w.tape
 output:w'.output=w.output
 size:w.heap.size<=w'.heap.size
 block:∀c,c<w.heap.size->c≠b->w'.heap[c]?=w.heap[c]?
def nP.below{b B:Nat}{w w':World}(h:nP b w w')(a:B<=b)(hs:B<=w.heap.size):Below B w w':=⟨h.os,h.tape,h.output,h.size,λk c=>h.block k (by omega) (by omega)⟩
def nP.En{b:Nat}{w w':World}(h:Below w.heap.size w w'):nP b w w':=⟨h.os,h.tape,h.output,h.size,λc hc _=>h.block c hc⟩
def nP.then{b:Nat}{w w1 w2:World}(h:Below w.heap.size w w1)(k:gv w1 w2 b):nP b w w2:=⟨k.os.trans h.os,k.tape.trans h.tape,k.output.trans h.output,by rw[k.size];exact h.size,λc hc hb=>(k.block c hb).trans (h.block c hc)⟩
def nP.cell{b:Nat}{w w':World}(h:nP b w w'){a:Addr}(c:a.block<w.heap.size)(hb:a.block≠b):w'.cell? a=w.cell? a:=dq (w:=w) (h.block a.block c hb)
def nP.Xm{b c:Nat}{w w':World}(h:nP b w w'){a:Type}{enc:a->Value}{l:List a}(k:aU w enc c l)(hc:c≠b):aU w' enc c l:=by
 obtain⟨es,q,d,e⟩:=k;exact⟨es,q,(h.block c (Array.getElem?_eq_some_iff.1 d).1 hc).trans d,e⟩
def aG{c:Nat}{w w':World}(h:Below w.heap.size w w'){a:Type}{enc:a->Value}{l:List a}(k:aU w enc c l):aU w' enc c l:=by
 obtain⟨es,q,b,d⟩:=k;exact⟨es,q,(h.block c (Array.getElem?_eq_some_iff.1 b).1).trans b,d⟩
def aU.lt{c:Nat}{w:World}{a:Type}{enc:a->Value}{l:List a}(k:aU w enc c l):c<w.heap.size:=by
 obtain⟨es,q,b,d⟩:=k;exact(Array.getElem?_eq_some_iff.1 b).1
def iH(s:ByteArray)(l:List ByteArray):Int:=if ku s then(if s∈l then 5 else 0) else 4
def U8(b:Nat)(s:ByteArray)(l:List ByteArray)(w:World)(e:Ending)(w':World):Prop:=
 e=.returned (.int .i64 (iH s l))/\nP b w w'/\aU w' yo b (if iH s l=0 then l++[s] else l)
def Eo{s:ByteArray}(h:ku s=true)(w:World)(hs:s.size<=100):Calls PL 110 #[.string s] w (aO (.bool true) w):=by
 have:=ym s w hs;rwa[h]at this
def Q5{s:ByteArray}(h:ku s=false)(w:World)(hs:s.size<=100):Calls PL 110 #[.string s] w (aO (.bool false) w):=by
 have:=ym s w hs;rwa[h]at this
def wB(b:Nat)(s:ByteArray)(l:List ByteArray)(w:World)(h:aU w yo b l)(hs:s.size<=100):Calls PL 81 #[.map (some b),.string s] w (U8 b s l w):=by
 by_cases f:ku s=true
 ·have c:=da f;clear f;by_cases g:s∈l
  ·have d:=da g;clear g
   go_enter (fx (by decide) bs),bC
   go_wp2_with (first|(go_at_call 110;refine(Eo c.out _ hs).mono ?_;rintro e w1⟨rfl,a⟩)|(at_lookup;refine aR (enc:=yo) _ rfl _ _ 148 9 4 rfl aak Hy (mq _) b l rfl (aG a h) s rfl true (by simpa using d.out) ?_))
   go_ret
   have e:iH s l=5:=by simp[iH,c.out,d.out]
   exact⟨by rw[e];rfl,.En a,by rw[e];exact aG a h⟩
  ·have d:=da g;clear g
   go_enter (fx (by decide) bs),bC
   go_wp2_with (first|(go_at_call 110;refine(Eo c.out _ hs).mono ?_;rintro e w1⟨rfl,a⟩)|(at_lookup;refine aR (enc:=yo) _ rfl _ _ 148 9 4 rfl aak Hy (mq _) b l rfl (aG a h) s rfl false (by simpa using d.out) ?_)|(at_mapUpdate;refine dH (enc:=yo) _ rfl _ _ _ 148 9 4 rfl aak Hy b l rfl (aG a h) s rfl rfl d.out ?_;intro w2 i j))
   go_ret
   have e:iH s l=0:=by simp[iH,c.out,d.out]
   exact⟨by rw[e];rfl,.then a j,by rw[e];exact i⟩
 ·have c:=da (aV f);clear f
  go_enter (fx (by decide) bs),bC
  go_wp2_with (go_at_call 110;refine(Q5 c.out _ hs).mono ?_;rintro e w1⟨rfl,a⟩)
  go_ret
  have e:iH s l=4:=by simp[iH,c.out]
  exact⟨by rw[e];rfl,.En a,by rw[e];exact aG a h⟩
set_option maxHeartbeats 1000000
def cW{W w1:World}(hb:Below W.heap.size W w1):(∀b o,b<W.heap.size->w1.cell? ⟨b,o,none⟩=W.cell? ⟨b,o,none⟩)/\(∀b o,b<W.heap.size->w1.frozen? ⟨b,o,none⟩=W.frozen? ⟨b,o,none⟩):=
 ⟨λb o h=>hb.cell (p:=⟨b,o,none⟩) h,λb o h=>hb.frozen (p:=⟨b,o,none⟩) h⟩
def au(w:World)(o:Obj):(w.alloc o).heap[w.heap.size]?=some o:=by
 show(w.heap.push _)[w.heap.size]?=_;simp
def bf{w:World}{k:Nat}{x0 x1 x2 x3 x4 a:Value}{t:ab}(h:w.heap[k]?=some (.cells #[x0,x1,x2,x3,x4,a] t)) :
 w.cell? ⟨k,0,none⟩=some x0/\w.cell? ⟨k,1,none⟩=some x1/\w.cell? ⟨k,2,none⟩=some x2/\w.cell? ⟨k,3,none⟩=some x3/\w.cell? ⟨k,4,none⟩=some x4/\w.cell? ⟨k,5,none⟩=some a:=by
 simp[dt,h]
def ia:Nat->(Nat->Int)->Int
 |0,_=>0
 |n+1,f=>if ia n f=0 then f n else ia n f
def cz{n:Nat}{f:Nat->Int}(h:∀j,j<n->f j=0):ia n f=0:=by
 induction n with
 |zero=>rfl
 |succ n a=>simp only[ia];rw[a λj b=>h j (by omega),if_pos rfl,h n (by omega)]
def eG{n m:Nat}{f:Nat->Int}(h:∀j,j<m->f j=0)(b:m<n)(hf:f m≠0):ia n f=f m:=by
 induction n with
 |zero=>omega
 |succ n a=>
  simp only[ia];by_cases e:m=n
  ·subst e;rw[cz h,if_pos rfl]
  ·rw[a (by omega),if_neg hf]
def fQ(p:Int)(x:Nat->Int×Int×Int)(i:Nat):Int:=
 if bO (x i).1 0 (p-1)&&bO (x i).2.1 0 (p-1) then
  (if(x i).1=(x i).2.1 then 8 else if bO (x i).2.2 1 999 then(if eB (x i).1 (x i).2.1∈(cp i).map (λj=>eB (x j).1 (x j).2.1) then 5 else 0) else 1)
 else 6
def kz(p:Int)(n:Nat)(x:Nat->Int×Int×Int):Int:=if 9<n then 2 else ia n (fQ p x)
def Below.on{w W w1:World}(h:Below w.heap.size w W)(k:Below W.heap.size W w1):Below w.heap.size w w1:=h.trans (k.mono h.size)
def dh{p:Int}{n m:Nat}{x:Nat->Int×Int×Int}{v:Int}(hb:¬9<n)(a:∀j,j<m->fQ p x j=0)(b:m<n)(hf:fQ p x m=v)(hv:v≠0):kz p n x=v:=by
 rw[kz,if_neg hb,eG a b (by rw[hf];exact hv),hf]
def aC{k:IntKind}{a b:Int}(h:b=a):Ending.returned (.int k a)=.returned (.int k b):=by rw[h]
def Nf(l p:Int)(b:Option Addr)(k o n c:Nat)(x:Nat->Int×Int×Int)(A B v5:Value)(w:World)(Z:n<=20)(H:1<=p)(I:p<=6)(C:k<w.heap.size)(hs:0<n->b=some ⟨k,o,none⟩)
 (J:∀i,i<n->w.cell? ⟨k,o+i*3,none⟩=some (.int .i64 (x i).1)) (K:∀i,i<n->w.cell? ⟨k,o+i*3+1,none⟩=some (.int .i64 (x i).2.1)) (L:∀i,i<n->w.cell? ⟨k,o+i*3+2,none⟩=some (.int .i64 (x i).2.2)) :
 Calls PL 58 #[.agg #[.int .i64 l,.int .i64 p,A,.slice b n c,B,v5]] w (aO (.int .i64 (kz p n x)) w):=by
 have R:=da J;have S:=da K;have T:=da L;have U:=da hs;clear J K L hs;by_cases hb:9<n
 ·go_enter (fx (by decide) a7),bL
  go_wp2
  go_ret
  exact⟨by simp[kz,hb],(cb _ _).alloc (ce _) _⟩
 ·have V:=@run_makeMap PL
  go_enter (fx (by decide) a7),bL
  go_wp2
  go_loopw [16] (λi wr=>∃m:Nat,m<=n/\i=.int .i64 m/\(∀j,j<m->fQ p x j=0)/\aU wr jc (w.heap.size+1) ((cp m).map (λj=>eB (x j).1 (x j).2.1))/\wr.heap[w.heap.size]?=some (.cells #[.int .i64 l,.int .i64 p,A,.slice b n c,B,v5] 78)/\Below w.heap.size w wr) (λi _=>n-(intOf i).toNat)
  case atStart=>
   refine⟨0,cf _,rfl,λj D=>absurd D (cg _),?_,?_,?_⟩
   ·have:=aU.made (enc:=jc) (w.alloc (.cells #[.int .i64 l,.int .i64 p,A,.slice b n c,B,v5] 78));simpa using this
   ·rw[cc _ _ _ (by simp),au]
   ·exact((cb _ _).alloc (ce _) _).alloc (by simp) _
  case round=>
   obtain⟨m,hm,rfl,M,N,O,u⟩:=hrel;have r:=da M;have P:=da O;clear M O;by_cases d:m<n
   ·obtain rfl:=U.out (by omega);have c0:=(u.cell (p:=⟨k,o+m*3,none⟩) C).trans (R.out m d);have c1:=(u.cell (p:=⟨k,o+m*3+1,none⟩) C).trans (S.out m d);have c2:=(u.cell (p:=⟨k,o+m*3+2,none⟩) C).trans (T.out m d);have W:=aU.lt N;have y:w.heap.size<wr.heap.size:=by omega
    obtain⟨d0,d1,d2,d3,d4,d5⟩:=bf P.out;have g:aU (wr.alloc (.cells #[.int .i64 (x m).1,.int .i64 (x m).2.1,.int .i64 (x m).2.2] 92)) jc (w.heap.size+1) ((cp m).map (λj=>eB (x j).1 (x j).2.1)):=aU.of_heap N (cc _ _ _ W);have q:Below w.heap.size w (wr.alloc (.cells #[.int .i64 (x m).1,.int .i64 (x m).2.1,.int .i64 (x m).2.2] 92)):=u.alloc u.size _;have f:wr.heap.size<(wr.alloc (.cells #[.int .i64 (x m).1,.int .i64 (x m).2.1,.int .i64 (x m).2.2] 92)).heap.size:=by simp
    have s:=da ((cc wr (.cells #[.int .i64 (x m).1,.int .i64 (x m).2.1,.int .i64 (x m).2.2] 92) _ y).trans P.out);by_cases z:eB (x m).1 (x m).2.1∈(cp m).map (λj=>eB (x j).1 (x j).2.1)
    ·have t:=da z;clear z
     go_wp2_with (first|(go_at_call 79;refine(kQ _ _ _ _ _ _ _ _ H I).mono ?_;rintro e w1⟨rfl,a⟩;obtain⟨E,F⟩:=cW a;have g:=aG a g;have q:=Below.on q a;have s:=da ((a.block _ (ci y f)).trans s.out);have f:=cl f a.size)|(go_at_call 41;refine(bG _ _ _ _).mono ?_;rintro e w'⟨rfl,rfl⟩)|(go_at_call 80;refine(yl _ _ _ _).mono ?_;rintro e w1⟨rfl,a⟩;obtain⟨E,F⟩:=cW a;have g:=aG a g;have q:=Below.on q a;have s:=da ((a.block _ (ci y f)).trans s.out);have f:=cl f a.size)|(at_lookup;refine aR (enc:=jc) _ rfl _ _ 143 145 4 rfl HH Hz (mq _) (w.heap.size+1) _ rfl g (eB (x m).1 (x m).2.1) rfl true (by simpa using t.out) ?_))
     all_goals go_ret
     all_goals refine⟨?_,q⟩
     all_goals first
      |exact aC (dh (v:=6) hb r.out d (by simp_all [fQ]) (by decide))
      |exact aC (dh (v:=8) hb r.out d (by simp_all [fQ]) (by decide))
      |exact aC (dh (v:=1) hb r.out d (by simp_all [fQ]) (by decide))
      |exact aC (dh (v:=5) hb r.out d (by have:=t.out;simp_all [fQ]) (by decide))
    ·have t:=da z;clear z
     go_wp2_with (first|(go_at_call 79;refine(kQ _ _ _ _ _ _ _ _ H I).mono ?_;rintro e w1⟨rfl,a⟩;obtain⟨E,F⟩:=cW a;have g:=aG a g;have q:=Below.on q a;have s:=da ((a.block _ (ci y f)).trans s.out);have f:=cl f a.size)|(go_at_call 41;refine(bG _ _ _ _).mono ?_;rintro e w'⟨rfl,rfl⟩)|(go_at_call 80;refine(yl _ _ _ _).mono ?_;rintro e w1⟨rfl,a⟩;obtain⟨E,F⟩:=cW a;have g:=aG a g;have q:=Below.on q a;have s:=da ((a.block _ (ci y f)).trans s.out);have f:=cl f a.size)|(at_lookup;refine aR (enc:=jc) _ rfl _ _ 143 145 4 rfl HH Hz (mq _) (w.heap.size+1) _ rfl g (eB (x m).1 (x m).2.1) rfl false (by simpa using t.out) ?_)|(at_mapUpdate;refine dH (enc:=jc) _ rfl _ _ _ 143 145 4 rfl HH Hz (w.heap.size+1) _ rfl g (eB (x m).1 (x m).2.1) rfl rfl t.out ?_;intro w2 X Q))
     case roundEnd=>
      have Y:fQ p x m=0:=by have:=t.out;simp_all [fQ]
      refine⟨⟨m+1,d,by go_num,λj D=>?_,?_,(Q.block _ (by omega)).trans s.out,cd q (Q.below (by omega))⟩,by simp[intOf];omega⟩
      ·rcases Nat.lt_succ_iff_lt_or_eq.1 D with h|h
       ·exact r.out j h
       ·rw[h];exact Y
      ·rw[cC,cQ];exact X
     all_goals go_ret
     all_goals refine⟨?_,q⟩
     all_goals first
      |exact aC (dh (v:=6) hb r.out d (by simp_all [fQ]) (by decide))
      |exact aC (dh (v:=8) hb r.out d (by simp_all [fQ]) (by decide))
      |exact aC (dh (v:=1) hb r.out d (by simp_all [fQ]) (by decide))
      |exact aC (dh (v:=5) hb r.out d (by have:=t.out;simp_all [fQ]) (by decide))
   ·obtain rfl:m=n:=by omega
    go_wp2
    go_ret
    exact⟨by simp[kz,hb,cz r.out],u⟩
def J2{b:Nat}{W w1:World}(h:nP b W w1):(∀c o,c<W.heap.size->c≠b->w1.cell? ⟨c,o,none⟩=W.cell? ⟨c,o,none⟩)/\(∀c(o:Nat),c<W.heap.size->c≠b->w1.frozen? ⟨c,o,none⟩=W.frozen? ⟨c,o,none⟩):=
 ⟨λc o d e=>h.cell (a:=⟨c,o,none⟩) d e,λc o d e=>World.frozen?_of_block (w:=W) (h.block c d e)⟩
def iI(np:Nat)(x:Nat->ByteArray×Int×Int)(i:Nat):Int:=
 if iH (x i).1 ((cp i).map λj=>(x j).1)=0 then
  (if bO (x i).2.1 0 (np-1) then(if(x i).2.1∈(cp i).map (λj=>(x j).2.1) then 10 else if bO (x i).2.2 0 12 then 0 else 1) else 6)
 else iH (x i).1 ((cp i).map λj=>(x j).1)
def pE(np n:Nat)(x:Nat->ByteArray×Int×Int):Int:=if 3<n then 2 else ia n (iI np x)
def ic{np n m:Nat}{x:Nat->ByteArray×Int×Int}{v:Int}(hb:¬3<n)(a:∀j,j<m->iI np x j=0)(b:m<n)(hf:iI np x m=v)(hv:v≠0):pE np n x=v:=by
 rw[pE,if_neg hb,eG a b (by rw[hf];exact hv),hf]
def HQ(l p:Int)(b z:Option Addr)(k o n c np A:Nat)(x:Nat->ByteArray×Int×Int)(B C:Value)(w:World)(hn:n<=20)(MC:np<=20)(E:k<w.heap.size)(hs:0<n->b=some ⟨k,o,none⟩)(J:∀i,i<n->(x i).1.size<=100)
 (K:∀i,i<n->w.cell? ⟨k,o+i*3,none⟩=some (.string (x i).1)) (L:∀i,i<n->w.cell? ⟨k,o+i*3+1,none⟩=some (.int .i64 (x i).2.1)) (M:∀i,i<n->w.cell? ⟨k,o+i*3+2,none⟩=some (.int .i64 (x i).2.2)) :
 Calls PL 60 #[.agg #[.int .i64 l,.int .i64 p,B,C,.slice z np A,.slice b n c]] w (aO (.int .i64 (pE np n x)) w):=by
 have S:=da K;have T:=da L;have U:=da M;have V:=da hs;have W:=da J;clear K L M hs J;by_cases hb:3<n
 ·go_enter (fx (by decide) a9),bM
  go_wp2
  go_ret
  exact⟨by simp[pE,hb],(cb _ _).alloc (ce _) _⟩
 ·have X:=@run_makeMap PL
  go_enter (fx (by decide) a9),bM
  go_wp2
  go_loopw [19] (λi wr=>∃m:Nat,m<=n/\i=.int .i64 m/\(∀j,j<m->iI np x j=0)/\aU wr yo (w.heap.size+1) ((cp m).map (λj=>(x j).1))/\aU wr ag5 (w.heap.size+2) ((cp m).map (λj=>(x j).2.1))/\wr.heap[w.heap.size]?=some (.cells #[.int .i64 l,.int .i64 p,B,C,.slice z np A,.slice b n c] 78)/\Below w.heap.size w wr) (λi _=>n-(intOf i).toNat)
  case atStart=>
   refine⟨0,cf _,rfl,λj F=>absurd F (cg _),?_,?_,?_,?_⟩
   ·have:=aU.made (enc:=yo) (w.alloc (.cells #[.int .i64 l,.int .i64 p,B,C,.slice z np A,.slice b n c] 78));exact aU.of_heap (by simpa using this) (cc _ _ _ (by simp))
   ·have:=aU.made (enc:=ag5) ((w.alloc (.cells #[.int .i64 l,.int .i64 p,B,C,.slice z np A,.slice b n c] 78)).alloc (.map #[] 0));simpa using this
   ·rw[cc _ _ _ (by simp;omega),cc _ _ _ (by simp),au]
   ·exact(((cb _ _).alloc (ce _) _).alloc (by simp) _).alloc (by simp;omega) _
  case round=>
   obtain⟨m,hm,rfl,N,Y,O,P,s⟩:=hrel;have g:=da N;have Q:=da P;clear N P;by_cases a:m<n
   ·obtain rfl:=V.out (by omega);have c0:=(s.cell (p:=⟨k,o+m*3,none⟩) E).trans (S.out m a);have c1:=(s.cell (p:=⟨k,o+m*3+1,none⟩) E).trans (T.out m a);have c2:=(s.cell (p:=⟨k,o+m*3+2,none⟩) E).trans (U.out m a);have Z:=aU.lt O;have H:w.heap.size<wr.heap.size:=by omega
    have bu:wr.heap.size≠w.heap.size+1:=by omega
    obtain⟨d0,d1,d2,d3,d4,d5⟩:=bf Q.out;have t:aU (wr.alloc (.cells #[.string (x m).1,.int .i64 (x m).2.1,.int .i64 (x m).2.2] 87)) yo (w.heap.size+1) ((cp m).map (λj=>(x j).1)):=aU.of_heap Y (cc _ _ _ (by omega));have r:aU (wr.alloc (.cells #[.string (x m).1,.int .i64 (x m).2.1,.int .i64 (x m).2.2] 87)) ag5 (w.heap.size+2) ((cp m).map (λj=>(x j).2.1)):=aU.of_heap O (cc _ _ _ Z);have q:Below w.heap.size w (wr.alloc (.cells #[.string (x m).1,.int .i64 (x m).2.1,.int .i64 (x m).2.2] 87)):=s.alloc s.size _;have u:wr.heap.size<(wr.alloc (.cells #[.string (x m).1,.int .i64 (x m).2.1,.int .i64 (x m).2.2] 87)).heap.size:=by simp
    have y:=da ((cc wr (.cells #[.string (x m).1,.int .i64 (x m).2.1,.int .i64 (x m).2.2] 87) _ H).trans Q.out);have R:=W.out m a;by_cases D:(x m).2.1∈(cp m).map (λj=>(x j).2.1)
    ·have d:=da D;clear D
     go_wp2_with (first|(go_at_call 81;refine(wB (w.heap.size+1) _ _ _ t R).mono ?_;rintro e w1⟨rfl,f,t⟩;obtain⟨lp,lR⟩:=J2 f;have r:=f.Xm r (by omega);have q:=cd q (f.below (by omega) q.size);have y:=da ((f.block _ (ci H u) (by omega)).trans y.out);have u:=cl u f.size)|(go_at_call 41;refine(bG _ _ _ _).mono ?_;rintro e w'⟨rfl,rfl⟩)|(go_at_call 34;refine(o8 _ _).mono ?_;rintro e w'⟨rfl,rfl⟩)|(at_lookup;refine aR (enc:=ag5) _ rfl _ _ 106 3 4 rfl qz ju (mq _) (w.heap.size+2) _ rfl r (x m).2.1 rfl true (by simpa using d.out) ?_))
     all_goals go_ret
     all_goals refine⟨?_,q⟩
     all_goals first
      |exact aC (ic (v:=iH (x m).1 ((cp m).map λj=>(x j).1)) hb g.out a (by have:=d.out;simp_all [iI]) (by simp_all))
      |exact aC (ic (v:=6) hb g.out a (by have:=d.out;simp_all [iI]) (by decide))
      |exact aC (ic (v:=10) hb g.out a (by have:=d.out;simp_all [iI]) (by decide))
      |exact aC (ic (v:=1) hb g.out a (by have:=d.out;simp_all [iI]) (by decide))
    ·have d:=da D;clear D
     go_wp2_with (first|(go_at_call 81;refine(wB (w.heap.size+1) _ _ _ t R).mono ?_;rintro e w1⟨rfl,f,t⟩;obtain⟨lp,lR⟩:=J2 f;have r:=f.Xm r (by omega);have q:=cd q (f.below (by omega) q.size);have y:=da ((f.block _ (ci H u) (by omega)).trans y.out);have u:=cl u f.size)|(go_at_call 41;refine(bG _ _ _ _).mono ?_;rintro e w'⟨rfl,rfl⟩)|(go_at_call 34;refine(o8 _ _).mono ?_;rintro e w'⟨rfl,rfl⟩)|(at_lookup;refine aR (enc:=ag5) _ rfl _ _ 106 3 4 rfl qz ju (mq _) (w.heap.size+2) _ rfl r (x m).2.1 rfl false (by simpa using d.out) ?_)|(at_mapUpdate;refine dH (enc:=ag5) _ rfl _ _ _ 106 3 4 rfl qz ju (w.heap.size+2) _ rfl r (x m).2.1 rfl rfl d.out ?_;intro w2 yp I))
     case roundEnd=>
      have e1:iH (x m).1 ((cp m).map λj=>(x j).1)=0:=by simp_all
      have e0:iI np x m=0:=by have:=d.out;simp_all [iI]
      rw[if_pos e1]at t;refine⟨⟨m+1,a,by go_num,λj F=>?_,?_,?_,(I.block _ (by omega)).trans y.out,cd q (I.below (by omega))⟩,by simp[intOf];omega⟩
      ·rcases Nat.lt_succ_iff_lt_or_eq.1 F with h|h
       ·exact g.out j h
       ·rw[h];exact e0
      ·rw[cC,cQ];exact aU.of_heap t (I.block _ (by omega))
      ·rw[cC,cQ];exact yp
     all_goals go_ret
     all_goals refine⟨?_,q⟩
     all_goals first
      |exact aC (ic (v:=iH (x m).1 ((cp m).map λj=>(x j).1)) hb g.out a (by have:=d.out;simp_all [iI]) (by simp_all))
      |exact aC (ic (v:=6) hb g.out a (by have:=d.out;simp_all [iI]) (by decide))
      |exact aC (ic (v:=10) hb g.out a (by have:=d.out;simp_all [iI]) (by decide))
      |exact aC (ic (v:=1) hb g.out a (by have:=d.out;simp_all [iI]) (by decide))
   ·obtain rfl:m=n:=by omega
    go_wp2
    go_ret
    exact⟨by simp[pE,hb,cz g.out],s⟩
set_option maxHeartbeats 4000000
structure iJ where
 name:ByteArray
 n:Nat->Int
 lb:Option Addr
 ln:Nat
 lc:Nat
 lk:Nat
 lo:Nat
 lane:Nat->Int
def fy(a:Nat)(lane:Nat->Int)(j:Nat):Int:=if bO (lane j) 0 (a-1) then(if 0<j/\lane j<=lane (j-1) then 7 else 0) else 6
def gM(p:Int)(a b:Nat)(x:Nat->iJ)(i:Nat):Int:=
 if iH (x i).name ((cp i).map λj=>(x j).name)=0 then
  (if eK ((x i).n 1) ((x i).n 2) 1 90&&eK ((x i).n 3) ((x i).n 4) (-90) 90 then
    (if(x i).n 1<(x i).n 4\/(x i).n 1 < -(x i).n 3 then 10 else
      if bO ((x i).n 5) 0 (a-1)&&bO ((x i).n 6) 0 (p-1) then
       (if eK ((x i).n 7) ((x i).n 8) 1 60&&eK ((x i).n 9) ((x i).n 10) 0 60 then ia (x i).ln (fy b (x i).lane) else 1)
      else 6)
  else 1)
 else iH (x i).name ((cp i).map λj=>(x j).name)
def kA(p:Int)(a b n:Nat)(x:Nat->iJ):Int:=if bO n 2 5 then ia n (gM p a b x) else 2
def dI{p:Int}{a b n m:Nat}{x:Nat->iJ}{v:Int}(hb:bO n 2 5=true)(c:∀j,j<m->gM p a b x j=0)(d:m<n)(hf:gM p a b x m=v)(hv:v≠0):kA p a b n x=v:=by
 rw[kA,if_pos hb,eG c d (by rw[hf];exact hv),hf]
def afi{w:World}{k:Nat}{x0 x1 x2 x3 x4 b c d e f g a:Value}{t:ab}(h:w.heap[k]?=some (.cells #[x0,x1,x2,x3,x4,b,c,d,e,f,g,a] t)):w.cell? ⟨k,11,none⟩=some a:=by
 simp[dt,h]
def Q7(l p:Int)(Z bq b:Option Addr)(M r n cs cq c k o:Nat)(x:Nat->iJ)(v5:Value)(w:World)(hn:n<=20)(Vb:M<=20)(Hr:r<=20)(J0:1<=p)(tL:p<=6)(F:k<w.heap.size)(hs:0<n->b=some ⟨k,o,none⟩)
 (uB:∀i,i<n->(x i).name.size<=100/\(x i).ln<=20) (h0:∀i,i<n->w.cell? ⟨k,o+i*12,none⟩=some (.string (x i).name)) (z:∀i,i<n->∀j,1<=j->j<=10->w.cell? ⟨k,o+i*12+j,none⟩=some (.int .i64 ((x i).n j)))
 (P:∀i,i<n->w.cell? ⟨k,o+i*12+11,none⟩=some (.slice (x i).lb (x i).ln (x i).lc)) (hl:∀i,i<n->0<(x i).ln->(x i).lb=some ⟨(x i).lk,(x i).lo,none⟩/\(x i).lk<w.heap.size)
 (Q:∀i,i<n->∀j,j<(x i).ln->w.cell? ⟨(x i).lk,(x i).lo+j,none⟩=some (.int .i64 ((x i).lane j))) :
 Calls PL 59 #[.agg #[.int .i64 l,.int .i64 p,.slice Z M cs,.slice bq r cq,.slice b n c,v5]] w (aO (.int .i64 (kA p M r n x)) w):=by
 have H0:=da h0;have I:=da z;have H11:=da P;have HL:=da hl;have HLC:=da Q;have HS:=da hs;have HN:=da uB;clear h0 z P hl Q hs uB;by_cases hb:bO (↑n) 2 5=true
 ·have y:=da hb;clear hb;have hmm:=@run_makeMap PL
  go_enter (fx (by decide) a8),bR
  go_wp2_with (go_at_call 41;refine(fN y.out _).mono ?_;rintro e w'⟨rfl,rfl⟩)
  go_loopw [20] (λi wr=>∃m:Nat,m<=n/\i=.int .i64 m/\(∀j,j<m->gM p M r x j=0)/\aU wr yo (w.heap.size+1) ((cp m).map (λj=>(x j).name))/\wr.heap[w.heap.size]?=some (.cells #[.int .i64 l,.int .i64 p,.slice Z M cs,.slice bq r cq,.slice b n c,v5] 78)/\Below w.heap.size w wr) (λi _=>n-(intOf i).toNat)
  case atStart=>
   refine⟨0,cf _,rfl,λj z=>absurd z (cg _),?_,?_,?_⟩
   ·have:=aU.made (enc:=yo) (w.alloc (.cells #[.int .i64 l,.int .i64 p,.slice Z M cs,.slice bq r cq,.slice b n c,v5] 78));simpa using this
   ·rw[cc _ _ _ (by simp),au]
   ·exact((cb _ _).alloc (ce _) _).alloc (by simp) _
  case round=>
   obtain⟨m,hm,rfl,ha,hN,sW,D⟩:=hrel;have B:=da ha;have HX:=da sW;clear ha sW;by_cases d:m<n
   ·obtain rfl:=HS.out (by omega);have c0:=(D.cell (p:=⟨k,o+m*12,none⟩) F).trans (H0.out m d);have c1:=(D.cell (p:=⟨k,o+m*12+1,none⟩) F).trans (I.out m d 1 (by omega) (by omega));have c2:=(D.cell (p:=⟨k,o+m*12+2,none⟩) F).trans (I.out m d 2 (by omega) (by omega));have c3:=(D.cell (p:=⟨k,o+m*12+3,none⟩) F).trans (I.out m d 3 (by omega) (by omega));have c4:=(D.cell (p:=⟨k,o+m*12+4,none⟩) F).trans (I.out m d 4 (by omega) (by omega));have c5:=(D.cell (p:=⟨k,o+m*12+5,none⟩) F).trans (I.out m d 5 (by omega) (by omega));have c6:=(D.cell (p:=⟨k,o+m*12+6,none⟩) F).trans (I.out m d 6 (by omega) (by omega));have c7:=(D.cell (p:=⟨k,o+m*12+7,none⟩) F).trans (I.out m d 7 (by omega) (by omega));have c8:=(D.cell (p:=⟨k,o+m*12+8,none⟩) F).trans (I.out m d 8 (by omega) (by omega));have c9:=(D.cell (p:=⟨k,o+m*12+9,none⟩) F).trans (I.out m d 9 (by omega) (by omega));have c10:=(D.cell (p:=⟨k,o+m*12+10,none⟩) F).trans (I.out m d 10 (by omega) (by omega));have c11:=(D.cell (p:=⟨k,o+m*12+11,none⟩) F).trans (H11.out m d);have fW:=aU.lt hN;have J:w.heap.size<wr.heap.size:=by omega
    have bu:wr.heap.size≠w.heap.size+1:=by omega
    obtain⟨d0,d1,d2,d3,d4,d5⟩:=bf HX.out;have s:aU (wr.alloc (.cells #[.string (x m).name,.int .i64 ((x m).n 1),.int .i64 ((x m).n 2),.int .i64 ((x m).n 3),.int .i64 ((x m).n 4),.int .i64 ((x m).n 5),.int .i64 ((x m).n 6),.int .i64 ((x m).n 7),.int .i64 ((x m).n 8),.int .i64 ((x m).n 9),.int .i64 ((x m).n 10),.slice (x m).lb (x m).ln (x m).lc] 85)) yo (w.heap.size+1) ((cp m).map (λj=>(x j).name)):=aU.of_heap hN (cc _ _ _ (by omega));have g:Below w.heap.size w (wr.alloc (.cells #[.string (x m).name,.int .i64 ((x m).n 1),.int .i64 ((x m).n 2),.int .i64 ((x m).n 3),.int .i64 ((x m).n 4),.int .i64 ((x m).n 5),.int .i64 ((x m).n 6),.int .i64 ((x m).n 7),.int .i64 ((x m).n 8),.int .i64 ((x m).n 9),.int .i64 ((x m).n 10),.slice (x m).lb (x m).ln (x m).lc] 85)):=D.alloc D.size _;have f:wr.heap.size<(wr.alloc (.cells #[.string (x m).name,.int .i64 ((x m).n 1),.int .i64 ((x m).n 2),.int .i64 ((x m).n 3),.int .i64 ((x m).n 4),.int .i64 ((x m).n 5),.int .i64 ((x m).n 6),.int .i64 ((x m).n 7),.int .i64 ((x m).n 8),.int .i64 ((x m).n 9),.int .i64 ((x m).n 10),.slice (x m).lb (x m).ln (x m).lc] 85)).heap.size:=by simp
    have C:w.heap.size<(wr.alloc (.cells #[.string (x m).name,.int .i64 ((x m).n 1),.int .i64 ((x m).n 2),.int .i64 ((x m).n 3),.int .i64 ((x m).n 4),.int .i64 ((x m).n 5),.int .i64 ((x m).n 6),.int .i64 ((x m).n 7),.int .i64 ((x m).n 8),.int .i64 ((x m).n 9),.int .i64 ((x m).n 10),.slice (x m).lb (x m).ln (x m).lc] 85)).heap.size:=by simp;omega
    have u:=da ((cc wr (.cells #[.string (x m).name,.int .i64 ((x m).n 1),.int .i64 ((x m).n 2),.int .i64 ((x m).n 3),.int .i64 ((x m).n 4),.int .i64 ((x m).n 5),.int .i64 ((x m).n 6),.int .i64 ((x m).n 7),.int .i64 ((x m).n 8),.int .i64 ((x m).n 9),.int .i64 ((x m).n 10),.slice (x m).lb (x m).ln (x m).lc] 85) _ J).trans HX.out);have A:=da (au wr (.cells #[.string (x m).name,.int .i64 ((x m).n 1),.int .i64 ((x m).n 2),.int .i64 ((x m).n 3),.int .i64 ((x m).n 4),.int .i64 ((x m).n 5),.int .i64 ((x m).n 6),.int .i64 ((x m).n 7),.int .i64 ((x m).n 8),.int .i64 ((x m).n 9),.int .i64 ((x m).n 10),.slice (x m).lb (x m).ln (x m).lc] 85));have Va:=(HN.out m d).1;have Tl:=(HN.out m d).2;by_cases R:eK ((x m).n 3) ((x m).n 4) (-90) 90=true
    ·have N:=da R;have Q8 : -90<=(x m).n 3/\(x m).n 3<=90:=by
      simp only[eK,Bool.and_eq_true,decide_eq_true_eq]at R;omega
     obtain⟨Q8,hr4⟩:=Q8;clear R
     go_wp2_with (first|(go_at_call 81;refine(wB (w.heap.size+1) _ _ _ s Va).mono ?_;rintro e w1⟨rfl,E,s⟩;obtain⟨K,L⟩:=J2 E;have g:=cd g (E.below (by omega) g.size);have u:=da ((E.block _ (ci J f) (by omega)).trans u.out);have A:=da ((E.block _ f (by omega)).trans A.out);have f:=cl f E.size;have C:=cl C E.size)|(go_at_call 78;((with_reducible refine(Ek N.out _).mono ?_);rintro e w1⟨rfl,a⟩;obtain⟨K,L⟩:=cW a;have s:=aG a s;have g:=Below.on g a;have u:=da ((a.block _ (ci J f)).trans u.out);have A:=da ((a.block _ f).trans A.out);have f:=cl f a.size;have C:=cl C a.size))|(go_at_call 78;refine(nh _ _ _ _ _).mono ?_;rintro e w1⟨rfl,a⟩;obtain⟨K,L⟩:=cW a;have s:=aG a s;have g:=Below.on g a;have u:=da ((a.block _ (ci J f)).trans u.out);have A:=da ((a.block _ f).trans A.out);have f:=cl f a.size;have C:=cl C a.size)|(go_at_call 41;refine(bG _ _ _ _).mono ?_;rintro e w'⟨rfl,rfl⟩)|(go_at_call 79;refine(kQ _ _ _ _ _ _ _ _ J0 tL).mono ?_;rintro e w1⟨rfl,a⟩;obtain⟨K,L⟩:=cW a;have s:=aG a s;have g:=Below.on g a;have u:=da ((a.block _ (ci J f)).trans u.out);have A:=da ((a.block _ f).trans A.out);have f:=cl f a.size;have C:=cl C a.size))
     any_goals (
      go_ret
      refine⟨?_,g⟩;have hR:=N.out
      first
       |exact aC (dI (v:=iH (x m).name ((cp m).map λj=>(x j).name)) y.out B.out d (by simp_all [gM]) (by simp_all))
       |exact aC (dI (v:=1) y.out B.out d (by simp_all [gM]) (by decide))
       |exact aC (dI (v:=10) y.out B.out d (by simp_all [gM];try omega) (by decide))
       |exact aC (dI (v:=6) y.out B.out d (by simp_all [gM];try omega) (by decide))
       |exact aC (dI (v:=1) y.out B.out d (by simp_all [gM];try omega) (by decide)))
     have e1:iH (x m).name ((cp m).map λj=>(x j).name)=0:=by simp_all
     have S:gM p M r x m=ia (x m).ln (fy r (x m).lane):=by
      have hR:=N.out;simp only[gM];rw[if_pos e1,if_pos (by simp_all),if_neg (by simp_all;try omega),if_pos (by simp_all),if_pos (by simp_all)]
     rw[if_pos e1]at s;have T:=da S;clear S e1;have J4:∀j,j<(x m).ln->w1.cell? ⟨(x m).lk,(x m).lo+j,none⟩=some (.int .i64 ((x m).lane j)):=λj z=>(g.cell (p:=⟨(x m).lk,(x m).lo+j,none⟩) (HL.out m d (by omega)).2).trans (HLC.out m d j z);have U:=da J4;clear J4;obtain⟨X,e1,e2,e3,e4,e5⟩:=bf u.out;have e11:=afi A.out;clear K L;generalize du (decide ((x m).n 1<(x m).n 4)||decide ((x m).n 1 < -(x m).n 3))=s42;generalize du (decide ((x m).n 1<(x m).n 4))=s49;generalize du (decide ((x m).n 1 < -(x m).n 3))=s58;generalize du (bO ((x m).n 6) 0 (p-1))=s74;generalize du (!eK ((x m).n 9) ((x m).n 10) 0 60)=s77;generalize du (eK ((x m).n 9) ((x m).n 10) 0 60)=s85;generalize dv .i64 (iH (x m).name ((cp m).map λj=>(x j).name))=s6;by_cases hl0:0<(x m).ln
     ·have Y:=(HL.out m d hl0).1;rw[Y]at e11;rw[Y];have HLB:=da Y;clear Y
      go_loop [91] (λi=>∃q:Nat,q<=(x m).ln/\i=.int .i64 q/\∀j,j<q->fy r (x m).lane j=0) (λi=>(x m).ln-(intOf i).toNat)
      case atStart=>exact⟨0,cf _,rfl,λj z=>absurd z (cg _)⟩
      case round=>
       obtain⟨q,hq,rfl,V⟩:=hrel;have H:=da V;clear V;by_cases O:q<(x m).ln
       ·have g0:=U.out q O;by_cases hq0:0<q
        ·have g1:=U.out (q-1) (by omega)
         go_wp2_with (go_at_call 41;refine(bG _ _ _ _).mono ?_;rintro e w'⟨rfl,rfl⟩)
         ·go_ret
          have W:fy r (x m).lane q=6:=by
           have t:(!bO ((x m).lane q) 0 (↑r-1))=true:=by assumption
           simp only[fy];rw[if_neg (by simpa using t)]
          exact⟨aC (dI (v:=6) y.out B.out d (T.out.trans ((eG H.out O (by rw[W];decide)).trans W)) (by decide)),g⟩
         ·go_ret
          have e7:fy r (x m).lane q=7:=by
           have t:(!bO ((x m).lane q) 0 (↑r-1))=false:=by assumption
           have t2:(x m).lane q<=(x m).lane (q-1):=by assumption
           simp only[fy];rw[if_pos (by simpa using t),if_pos ⟨hq0,t2⟩]
          exact⟨aC (dI (v:=7) y.out B.out d (T.out.trans ((eG H.out O (by rw[e7];decide)).trans e7)) (by decide)),g⟩
         ·have X:fy r (x m).lane q=0:=by
           have t:(!bO ((x m).lane q) 0 (↑r-1))=false:=by assumption
           have t2:(x m).lane (q-1)<(x m).lane q:=by assumption
           simp only[fy];rw[if_pos (by simpa using t),if_neg (by omega)]
          refine⟨⟨q+1,O,by go_num,λj z=>?_⟩,by simp[intOf];omega⟩
          rcases Nat.lt_succ_iff_lt_or_eq.1 z with h|h
          ·exact H.out j h
          ·rw[h];exact X
        ·obtain rfl:q=0:=by omega
         rw[cm]at g0
         go_wp2_with (go_at_call 41;refine(bG _ _ _ _).mono ?_;rintro e w'⟨rfl,rfl⟩)
         ·go_ret
          have W:fy r (x m).lane 0=6:=by
           have t:(!bO ((x m).lane 0) 0 (↑r-1))=true:=by assumption
           simp only[fy];rw[if_neg (by simpa using t)]
          exact⟨aC (dI (v:=6) y.out B.out d (T.out.trans ((eG H.out O (by rw[W];decide)).trans W)) (by decide)),g⟩
         ·have X:fy r (x m).lane 0=0:=by
           have t:(!bO ((x m).lane 0) 0 (↑r-1))=false:=by assumption
           simp only[fy];rw[if_pos (by simpa using t),if_neg (by omega)]
          refine⟨⟨1,O,by go_num,λj z=>?_⟩,by simp[intOf];omega⟩;obtain rfl:j=0:=by omega
          exact X
       ·obtain rfl:q=(x m).ln:=by omega
        go_wp2
        refine⟨⟨m+1,d,by go_num,λj z=>?_,?_,u.out,g⟩,by simp[intOf];omega⟩
        ·rcases Nat.lt_succ_iff_lt_or_eq.1 z with h|h
         ·exact B.out j h
         ·rw[h,T.out];exact cz H.out
        ·rw[cC,cQ];exact s
     ·go_loop [91] (λi=>i=.int .i64 0) (λi=>1)
      case atStart=>rfl
      case round=>
       obtain rfl:=hrel;have hz:((x m).ln:Int)<=0:=by omega
       go_wp2
       refine⟨⟨m+1,d,by go_num,λj z=>?_,?_,u.out,g⟩,by simp[intOf];omega⟩
       ·rcases Nat.lt_succ_iff_lt_or_eq.1 z with h|h
        ·exact B.out j h
        ·rw[h,T.out];exact cz λj z=>absurd z (by omega)
       ·rw[cC,cQ];exact s
    ·have N:=da (aV R);clear R
     go_wp2_with (first|(go_at_call 81;refine(wB (w.heap.size+1) _ _ _ s Va).mono ?_;rintro e w1⟨rfl,E,s⟩;obtain⟨K,L⟩:=J2 E;have g:=cd g (E.below (by omega) g.size);have u:=da ((E.block _ (ci J f) (by omega)).trans u.out);have A:=da ((E.block _ f (by omega)).trans A.out);have f:=cl f E.size;have C:=cl C E.size)|(go_at_call 78;((with_reducible refine(El N.out _).mono ?_);rintro e w1⟨rfl,a⟩;obtain⟨K,L⟩:=cW a;have s:=aG a s;have g:=Below.on g a;have u:=da ((a.block _ (ci J f)).trans u.out);have A:=da ((a.block _ f).trans A.out);have f:=cl f a.size;have C:=cl C a.size))|(go_at_call 78;refine(nh _ _ _ _ _).mono ?_;rintro e w1⟨rfl,a⟩;obtain⟨K,L⟩:=cW a;have s:=aG a s;have g:=Below.on g a;have u:=da ((a.block _ (ci J f)).trans u.out);have A:=da ((a.block _ f).trans A.out);have f:=cl f a.size;have C:=cl C a.size)|(go_at_call 41;refine(bG _ _ _ _).mono ?_;rintro e w'⟨rfl,rfl⟩)|(go_at_call 79;refine(kQ _ _ _ _ _ _ _ _ J0 tL).mono ?_;rintro e w1⟨rfl,a⟩;obtain⟨K,L⟩:=cW a;have s:=aG a s;have g:=Below.on g a;have u:=da ((a.block _ (ci J f)).trans u.out);have A:=da ((a.block _ f).trans A.out);have f:=cl f a.size;have C:=cl C a.size))
     any_goals (
      go_ret
      refine⟨?_,g⟩;have hR:=N.out
      first
       |exact aC (dI (v:=iH (x m).name ((cp m).map λj=>(x j).name)) y.out B.out d (by simp_all [gM]) (by simp_all))
       |exact aC (dI (v:=1) y.out B.out d (by simp_all [gM]) (by decide))
       |exact aC (dI (v:=10) y.out B.out d (by simp_all [gM];try omega) (by decide))
       |exact aC (dI (v:=6) y.out B.out d (by simp_all [gM];try omega) (by decide))
       |exact aC (dI (v:=1) y.out B.out d (by simp_all [gM];try omega) (by decide)))
   ·obtain rfl:m=n:=by omega
    go_wp2
    go_ret
    exact⟨by simp[kA,y.out,cz B.out],D⟩
 ·have y:=da (aV hb);clear hb
  go_enter (fx (by decide) a8),bR
  go_wp2_with (go_at_call 41;refine(pZ y.out _).mono ?_;rintro e w'⟨rfl,rfl⟩)
  go_ret
  exact⟨by simp[kA,y.out],(cb _ _).alloc (ce _) _⟩
structure CD where
 l:Int
 p:Int
 b2:Option Addr
 k2:Nat
 o2:Nat
 n2:Nat
 c2:Nat
 x2:Nat->Int×Int
 b3:Option Addr
 k3:Nat
 o3:Nat
 n3:Nat
 c3:Nat
 x3:Nat->Int×Int×Int
 b4:Option Addr
 k4:Nat
 o4:Nat
 n4:Nat
 c4:Nat
 x4:Nat->iJ
 b5:Option Addr
 k5:Nat
 o5:Nat
 n5:Nat
 c5:Nat
 x5:Nat->ByteArray×Int×Int
abbrev CD.val(C:CD):Array Value:=#[.int .i64 C.l,.int .i64 C.p,.slice C.b2 C.n2 C.c2,.slice C.b3 C.n3 C.c3,.slice C.b4 C.n4 C.c4,.slice C.b5 C.n5 C.c5]
structure CD.At(C:CD)(w:World):Prop where
 m2:C.n2<=20
 m3:C.n3<=20
 m4:C.n4<=20
 m5:C.n5<=20
 h2:C.k2<w.heap.size
 h3:C.k3<w.heap.size
 h4:C.k4<w.heap.size
 h5:C.k5<w.heap.size
 s2:0<C.n2->C.b2=some ⟨C.k2,C.o2,none⟩
 s3:0<C.n3->C.b3=some ⟨C.k3,C.o3,none⟩
 s4:0<C.n4->C.b4=some ⟨C.k4,C.o4,none⟩
 s5:0<C.n5->C.b5=some ⟨C.k5,C.o5,none⟩
 Ep:∀i,i<C.n2->w.cell? ⟨C.k2,C.o2+i*2,none⟩=some (.int .i64 (C.x2 i).1)
 Er:∀i,i<C.n2->w.cell? ⟨C.k2,C.o2+i*2+1,none⟩=some (.int .i64 (C.x2 i).2)
 Es:∀i,i<C.n3->w.cell? ⟨C.k3,C.o3+i*3,none⟩=some (.int .i64 (C.x3 i).1)
 Et:∀i,i<C.n3->w.cell? ⟨C.k3,C.o3+i*3+1,none⟩=some (.int .i64 (C.x3 i).2.1)
 Eu:∀i,i<C.n3->w.cell? ⟨C.k3,C.o3+i*3+2,none⟩=some (.int .i64 (C.x3 i).2.2)
 cu:∀i,i<C.n4->(C.x4 i).name.size<=100/\(C.x4 i).ln<=20
 AD:∀i,i<C.n4->w.cell? ⟨C.k4,C.o4+i*12,none⟩=some (.string (C.x4 i).name)
 dB:∀i,i<C.n4->∀j,1<=j->j<=10->w.cell? ⟨C.k4,C.o4+i*12+j,none⟩=some (.int .i64 ((C.x4 i).n j))
 nj:∀i,i<C.n4->w.cell? ⟨C.k4,C.o4+i*12+11,none⟩=some (.slice (C.x4 i).lb (C.x4 i).ln (C.x4 i).lc)
 l4:∀i,i<C.n4->0<(C.x4 i).ln->(C.x4 i).lb=some ⟨(C.x4 i).lk,(C.x4 i).lo,none⟩/\(C.x4 i).lk<w.heap.size
 J5:∀i,i<C.n4->∀j,j<(C.x4 i).ln->w.cell? ⟨(C.x4 i).lk,(C.x4 i).lo+j,none⟩=some (.int .i64 ((C.x4 i).lane j))
 nm5:∀i,i<C.n5->(C.x5 i).1.size<=100
 FI:∀i,i<C.n5->w.cell? ⟨C.k5,C.o5+i*3,none⟩=some (.string (C.x5 i).1)
 HU:∀i,i<C.n5->w.cell? ⟨C.k5,C.o5+i*3+1,none⟩=some (.int .i64 (C.x5 i).2.1)
 J6:∀i,i<C.n5->w.cell? ⟨C.k5,C.o5+i*3+2,none⟩=some (.int .i64 (C.x5 i).2.2)
def CD.At.below{C:CD}{w w':World}(h:C.At w)(a:Below w.heap.size w w'):C.At w':=by
 have s:=a.size;have e:∀o,w'.cell? ⟨C.k2,o,none⟩=w.cell? ⟨C.k2,o,none⟩:=λo=>a.cell (p:=⟨C.k2,o,none⟩) h.h2;have b:∀o,w'.cell? ⟨C.k3,o,none⟩=w.cell? ⟨C.k3,o,none⟩:=λo=>a.cell (p:=⟨C.k3,o,none⟩) h.h3;have c:∀o,w'.cell? ⟨C.k4,o,none⟩=w.cell? ⟨C.k4,o,none⟩:=λo=>a.cell (p:=⟨C.k4,o,none⟩) h.h4;have d:∀o,w'.cell? ⟨C.k5,o,none⟩=w.cell? ⟨C.k5,o,none⟩:=λo=>a.cell (p:=⟨C.k5,o,none⟩) h.h5;have k:=h;obtain⟨m2,m3,m4,m5,h2,h3,h4,h5,s2,s3,s4,s5,Ep,Er,Es,Et,Eu,cu,AD,dB,nj,l4,J5,nm5,FI,HU,J6⟩:=h
 exact⟨m2,m3,m4,m5,by omega,by omega,by omega,by omega,s2,s3,s4,s5,λi hi=>(e _).trans (Ep i hi),λi hi=>(e _).trans (Er i hi),λi hi=>(b _).trans (Es i hi),λi hi=>(b _).trans (Et i hi),λi hi=>(b _).trans (Eu i hi),cu,
  λi hi=>(c _).trans (AD i hi),λi hi j f h2=>(c _).trans (dB i hi j f h2),λi hi=>(c _).trans (nj i hi),λi hi hl=>⟨(l4 i hi hl).1,cl (l4 i hi hl).2 s⟩,
  λi hi j g=>(a.cell (p:=⟨(C.x4 i).lk,(C.x4 i).lo+j,none⟩) (l4 i hi (by omega)).2).trans (J5 i hi j g),nm5,λi hi=>(d _).trans (FI i hi),λi hi=>(d _).trans (HU i hi),λi hi=>(d _).trans (J6 i hi)⟩
def CD.dP(C:CD):Nat->Int
 |0=>jd C.l C.p
 |1=>pq C.n2 C.x2
 |2=>kz C.p C.n3 C.x3
 |3=>kA C.p C.n2 C.n3 C.n4 C.x4
 |_=>pE C.n4 C.n5 C.x5
def CD.cx(C:CD):Int:=ia 5 C.dP
def cK{l p:Int}(h:jd l p=0):1<=p/\p<=6:=by
 unfold jd at h
 split at h
 ·rename_i a;simp[bO]at a;omega
 ·cases h
def afm(C:CD)(w:World):Calls PL 56 #[.agg C.val] w (aO (.int .i64 (C.dP 0)) w):=Em _ _ _ _ _ _ _
def afn(C:CD)(w:World)(h:C.At w):Calls PL 57 #[.agg C.val] w (aO (.int .i64 (C.dP 1)) w):=Nb _ _ _ _ _ _ _ _ _ _ _ _ h.m2 h.h2 h.s2 h.Ep h.Er
def afo(C:CD)(w:World)(h:C.At w)(a:C.dP 0=0):Calls PL 58 #[.agg C.val] w (aO (.int .i64 (C.dP 2)) w):=
 Nf _ _ _ _ _ _ _ _ _ _ _ _ h.m3 (cK a).1 (cK a).2 h.h3 h.s3 h.Es h.Et h.Eu
def afp(C:CD)(w:World)(h:C.At w)(a:C.dP 0=0):Calls PL 59 #[.agg C.val] w (aO (.int .i64 (C.dP 3)) w):=
 Q7 _ _ _ _ _ _ _ _ _ _ _ _ _ _ _ _ h.m4 h.m2 h.m3 (cK a).1 (cK a).2 h.h4 h.s4 h.cu h.AD h.dB h.nj h.l4 h.J5
def afq(C:CD)(w:World)(h:C.At w):Calls PL 60 #[.agg C.val] w (aO (.int .i64 (C.dP 4)) w):=
 HQ _ _ _ _ _ _ _ _ _ _ _ _ _ _ h.m5 h.m4 h.h5 h.s5 h.nm5 h.FI h.HU h.J6
def yq(x0 x1 x2 x3 x4:Value)(w:World):(dl 114 (.agg #[x0,x1,x2,x3,x4]) (.int .i64 0)).run PL w=.ok x0 w/\(dl 114 (.agg #[x0,x1,x2,x3,x4]) (.int .i64 1)).run PL w=.ok x1 w/\(dl 114 (.agg #[x0,x1,x2,x3,x4]) (.int .i64 2)).run PL w=.ok x2 w/\(dl 114 (.agg #[x0,x1,x2,x3,x4]) (.int .i64 3)).run PL w=.ok x3 w/\(dl 114 (.agg #[x0,x1,x2,x3,x4]) (.int .i64 4)).run PL w=.ok x4 w:=
 ⟨by kernel_rfl,by kernel_rfl,by kernel_rfl,by kernel_rfl,by kernel_rfl⟩
def iv:Nat->Value|0=>.int .i64 0|1=>.int .i64 1|2=>.int .i64 2|3=>.int .i64 3|4=>.int .i64 4|_=>.int .i64 5
def cR{C:CD}{m:Nat}(a:∀j,j<m->C.dP j=0)(b:m<5)(hf:C.dP m≠0):C.cx=C.dP m:=eG a b hf
def uC(C:CD)(w:World)(h:C.At w):Calls PL 29 #[.agg C.val] w (aO (.int .i64 C.cx) w):=by
 have H:=da h;clear h;have o:=λw x0 x1 x2 x3 x4=>(yq x0 x1 x2 x3 x4 w).1;have p:=λw x0 x1 x2 x3 x4=>(yq x0 x1 x2 x3 x4 w).2.1;have q:=λw x0 x1 x2 x3 x4=>(yq x0 x1 x2 x3 x4 w).2.2.1;have r:=λw x0 x1 x2 x3 x4=>(yq x0 x1 x2 x3 x4 w).2.2.2.1;have s:=λw x0 x1 x2 x3 x4=>(yq x0 x1 x2 x3 x4 w).2.2.2.2
 go_enter (fx (by decide) aJ),Tryz.ntmps29
 go_wp2
 go_loopw [20] (λi wr=>∃k:Nat,k<=5/\i=iv k/\(∀j,j<k->C.dP j=0)/\Below w.heap.size w wr) (λi _=>5-(intOf i).toNat)
 case atStart=>exact⟨0,by omega,rfl,λj d=>absurd d (cg _),((cb _ _).alloc (ce _) _).alloc (by simp) _⟩
 case round=>
  obtain⟨k,t,hi,l,c⟩:=hrel;have b:=da l;clear l;have n:=H.out.below c;have g:=da n;clear n;obtain rfl|rfl|rfl|rfl|rfl|rfl:k=0\/k=1\/k=2\/k=3\/k=4\/k=5:=by omega
  ·obtain rfl:_=dv .i64 0:=hi
   go_wp2_with (go_at_call 56;refine(afm C _).mono ?_;rintro e w1⟨rfl,a⟩)
   ·go_ret
    exact⟨aC (cR (m:=0) b.out (by omega) (by simp_all)),Below.on c a⟩
   ·have f:C.dP 0=0:=by simp_all
    exact⟨⟨1,by omega,rfl,λj d=>by
     rcases Nat.lt_succ_iff_lt_or_eq.1 d with h|h
     ·exact b.out j h
     ·rw[h];exact f,Below.on c a⟩,by simp[intOf]⟩
  ·obtain rfl:_=dv .i64 1:=hi
   go_wp2_with (go_at_call 57;refine(afn C _ g.out).mono ?_;rintro e w1⟨rfl,a⟩)
   ·go_ret
    exact⟨aC (cR (m:=1) b.out (by omega) (by simp_all)),Below.on c a⟩
   ·have f:C.dP 1=0:=by simp_all
    exact⟨⟨2,by omega,rfl,λj d=>by
     rcases Nat.lt_succ_iff_lt_or_eq.1 d with h|h
     ·exact b.out j h
     ·rw[h];exact f,Below.on c a⟩,by simp[intOf]⟩
  ·obtain rfl:_=dv .i64 2:=hi
   go_wp2_with (go_at_call 58;refine(afo C _ g.out (b.out 0 (by omega))).mono ?_;rintro e w1⟨rfl,a⟩)
   ·go_ret
    exact⟨aC (cR (m:=2) b.out (by omega) (by simp_all)),Below.on c a⟩
   ·have f:C.dP 2=0:=by simp_all
    exact⟨⟨3,by omega,rfl,λj d=>by
     rcases Nat.lt_succ_iff_lt_or_eq.1 d with h|h
     ·exact b.out j h
     ·rw[h];exact f,Below.on c a⟩,by simp[intOf]⟩
  ·obtain rfl:_=dv .i64 3:=hi
   go_wp2_with (go_at_call 59;refine(afp C _ g.out (b.out 0 (by omega))).mono ?_;rintro e w1⟨rfl,a⟩)
   ·go_ret
    exact⟨aC (cR (m:=3) b.out (by omega) (by simp_all)),Below.on c a⟩
   ·have f:C.dP 3=0:=by simp_all
    exact⟨⟨4,by omega,rfl,λj d=>by
     rcases Nat.lt_succ_iff_lt_or_eq.1 d with h|h
     ·exact b.out j h
     ·rw[h];exact f,Below.on c a⟩,by simp[intOf]⟩
  ·obtain rfl:_=dv .i64 4:=hi
   go_wp2_with (go_at_call 60;refine(afq C _ g.out).mono ?_;rintro e w1⟨rfl,a⟩)
   ·go_ret
    exact⟨aC (cR (m:=4) b.out (by omega) (by simp_all)),Below.on c a⟩
   ·have f:C.dP 4=0:=by simp_all
    exact⟨⟨5,by omega,rfl,λj d=>by
     rcases Nat.lt_succ_iff_lt_or_eq.1 d with h|h
     ·exact b.out j h
     ·rw[h];exact f,Below.on c a⟩,by simp[intOf]⟩
  ·obtain rfl:_=dv .i64 5:=hi
   go_wp2
   go_ret
   exact⟨aC (cz b.out),c⟩
def CD.zero:Array Value:=#[.int .i64 0,.int .i64 0,.slice none 0 0,.slice none 0 0,.slice none 0 0,.slice none 0 0]
def CD.b6(C:CD)(b:Bool):Int:=if C.cx=0 then(if b then 0 else 6) else C.cx
def CD.sX(C:CD)(b:Bool):Value:=.tuple #[.agg (if C.b6 b=0 then C.val else CD.zero),.int .i64 (C.b6 b)]
def Below.zQ{B:Nat}{a w:World}(h:Below B a w){k:Nat}(b:B<=k)(u0 u1 u2 u3 u4 u5:Value):Below B a ((((((w.setCell ⟨k,0,none⟩ u0).setCell ⟨k,1,none⟩ u1).setCell ⟨k,2,none⟩ u2).setCell ⟨k,3,none⟩ u3).setCell ⟨k,4,none⟩ u4).setCell ⟨k,5,none⟩ u5):=
 (((((h.setCell (p:=⟨k,0,none⟩) b u0).setCell (p:=⟨k,1,none⟩) b u1).setCell (p:=⟨k,2,none⟩) b u2).setCell (p:=⟨k,3,none⟩) b u3).setCell (p:=⟨k,4,none⟩) b u4).setCell (p:=⟨k,5,none⟩) b u5
def Ra{C:CD}{b:Bool}(h:C.cx≠0):C.sX b=.tuple #[.agg #[.int .i64 0,.int .i64 0,.slice none 0 0,.slice none 0 0,.slice none 0 0,.slice none 0 0],.int .i64 C.cx]:=by
 simp[CD.sX,CD.b6,h,CD.zero]
def Vd{C:CD}(h:C.cx=0):C.sX false=.tuple #[.agg #[.int .i64 0,.int .i64 0,.slice none 0 0,.slice none 0 0,.slice none 0 0,.slice none 0 0],.int .i64 6]:=by
 simp[CD.sX,CD.b6,h,CD.zero]
def Ve{C:CD}(h:C.cx=0):C.sX true=.tuple #[.agg C.val,.int .i64 0]:=by
 simp[CD.sX,CD.b6,h]
def sY{C:CD}{w:World}(h:C.cx=0)(k:C.At w):Calls PL 29 #[.agg C.val] w (aO (.int .i64 0) w):=by
 have:=uC C w k;rwa[h]at this
def Ev(C:CD)(b:Bool)(w:World)(h:C.At w):Calls PL 35 #[.agg C.val,.bool b] w (aO (C.sX b) w):=by
 have g:=λw1 k=>h.below (w':=w1) k;have f:=da g;clear g h;by_cases hc:C.cx=0
 ·have c:=da hc;clear hc;cases b
  ·rw[Vd c.out]
   go_enter (fx (by decide) bd),bT
   go_wp2_with (go_at_call 29;refine(sY c.out (f.out _ (((cb _ _).alloc (ce _) _).alloc (by simp) _))).mono ?_;rintro e w1⟨rfl,a⟩;obtain⟨d,i⟩:=cW a;have j:w.heap.size+1<w1.heap.size:=by have:=a.size;simp at this;omega)
   refine ar (v:=.tuple #[.agg #[.int .i64 0,.int .i64 0,.slice none 0 0,.slice none 0 0,.slice none 0 0,.slice none 0 0],.int .i64 6]) ?_ rfl ⟨rfl,(Below.zQ ((((cb _ _).alloc (ce _) _).alloc (by simp) _).trans (a.mono (by simp;omega))) (co _) _ _ _ _ _ _)⟩;simp[aw,bX,go_sem,d]
  ·rw[Ve c.out]
   go_enter (fx (by decide) bd),bT
   go_wp2_with (go_at_call 29;refine(sY c.out (f.out _ (((cb _ _).alloc (ce _) _).alloc (by simp) _))).mono ?_;rintro e w1⟨rfl,a⟩;obtain⟨d,i⟩:=cW a;have j:w.heap.size+1<w1.heap.size:=by have:=a.size;simp at this;omega)
   refine ar (v:=.tuple #[.agg C.val,.int .i64 0]) ?_ rfl ⟨rfl,(Below.zQ ((((cb _ _).alloc (ce _) _).alloc (by simp) _).trans (a.mono (by simp;omega))) (co _) _ _ _ _ _ _)⟩;simp[aw,bX,go_sem,d]
 ·have c:=da hc;have l:(C.cx != 0)=true:=by simpa using hc
  clear hc;rw[Ra c.out]
  go_enter (fx (by decide) bd),bT
  go_wp2_with (go_at_call 29;refine(uC C _ (f.out _ (((cb _ _).alloc (ce _) _).alloc (by simp) _))).mono ?_;rintro e w1⟨rfl,a⟩;obtain⟨d,i⟩:=cW a;have j:w.heap.size+1<w1.heap.size:=by have:=a.size;simp at this;omega)
  refine ar (v:=.tuple #[.agg #[.int .i64 0,.int .i64 0,.slice none 0 0,.slice none 0 0,.slice none 0 0,.slice none 0 0],.int .i64 C.cx]) ?_ rfl ⟨rfl,(Below.zQ ((((cb _ _).alloc (ce _) _).alloc (by simp) _).trans (a.mono (by simp;omega))) (co _) _ _ _ _ _ _)⟩;simp[aw,bX,go_sem,d]
def AE(C:CD)(n:Int)(w:World)(h:C.n4<=20):Calls PL 43 #[.agg C.val,.int .i64 n] w (aO (.bool (bO n 0 (C.n4-1))) w):=by
 go_enter (fx (by decide) bg),Tryz.ntmps43
 go_wp2_with (go_at_call 41;refine(bG _ _ _ _).mono ?_;rintro e w'⟨rfl,rfl⟩)
 go_ret
 exact⟨rfl,(cb _ _).alloc (ce _) _⟩
def lvl(s r:Int):Nat->Int
 |0=>0
 |k+1=>if((k:Int)+1)*(k+1) > s*s-r*r then lvl s r k else k+1
def AF{a:Int}(c : -90<=a)(d:a<=90):0<=a*a/\a*a<=8100:=by
 have h:=dy (a:=90-a) (b:=90+a) (by omega) (by omega);have e:(90-a)*(90+a)=8100-a*a:=by
  rw[Int.sub_mul,dz,dz,Int.mul_comm a 90];omega
 refine⟨?_,by omega⟩
 rcases dC 0 a with h|h
 ·exact dy h h
 ·have:=dy (a:=-a) (b:=-a) (by omega) (by omega);rwa[dK]at this
def AG(s:Nat)(r:Int)(w:World)(y:1<=s)(z:s<=90)(A : -s<=r)(g:r<=s):Calls PL 42 #[.int .i64 (s:Int),.int .i64 r] w λe w'=>e=.returned (.int .i64 (lvl s r s))/\w'=w:=by
 go_enter (fx (by decide) aT),Tryz.ntmps42
 go_wp2
 go_loop [5] (λv=>∃k:Nat,k<=s/\v=.int .i64 k/\lvl s r s=lvl s r k) (λv=>(intOf v).toNat)
 case atStart=>exact⟨s,ce _,rfl,rfl⟩
 case round=>
  obtain⟨k,B,rfl,i⟩:=hrel;have f:=da i;clear i;have l:=AF (a:=(k:Int)) (by omega) (by omega);have m:=AF (a:=(s:Int)) (by omega) (by omega);have n:=AF (a:=r) (by omega) (by omega);obtain⟨o,C⟩:=l;obtain⟨p,q⟩:=m;obtain⟨t,u⟩:=n;have hd:(∃k':Nat,k=k'+1)\/k=0:=by
   cases k with
   |zero=>exact .inr rfl
   |succ k'=>exact .inl ⟨k',rfl⟩
  go_wp2
  ·have j:(s:Int)*s-r*r<(k:Int)*k:=by assumption
   rcases hd with⟨k',rfl⟩|rfl
   ·refine⟨⟨k',by omega,by congr 1;omega,?_⟩,by simp[intOf]⟩;rw[f.out,lvl,if_pos (by simpa using j)]
   ·exfalso;have D:r*r<=(s:Int)*s:=by
     rcases dC 0 r with h|h
     ·exact dL g g h (by omega)
     ·have e:=dL (a:=-r) (b:=-r) (c:=s) (d:=s) (by omega) (by omega) (by omega) (by omega);rwa[dK]at e
    simp at j;omega
  ·have x:(k:Int)*k<=(s:Int)*s-r*r:=by assumption
   go_ret
   refine⟨?_,rfl⟩
   rcases hd with⟨k',rfl⟩|rfl
   ·rw[f.out,lvl,if_neg (by simp at x ⊢;omega)];rfl
   ·rw[f.out];rfl
def ie(s r:Int):Value:=if bO s 1 90&&bO r (-90) 90 then(if s<r\/s < -r then .tuple #[.int .i64 0,.int .i64 10] else .tuple #[.int .i64 (lvl s r s.toNat),.int .i64 0]) else .tuple #[.int .i64 0,.int .i64 1]
def uD(s r:Int)(w:World):Calls PL 15 #[.int .i64 s,.int .i64 r] w λe w'=>e=.returned (ie s r)/\w'=w:=by
 by_cases d:bO s 1 90=true
 ·have i:1<=s/\s<=90:=by simp[bO]at d;exact d
  obtain⟨j,o⟩:=i;have b:=da d;clear d;by_cases f:bO r (-90) 90=true
  ·have k : -90<=r/\r<=90:=by simp[bO]at f;exact f
   obtain⟨l,m⟩:=k;have c:=da f;clear f;obtain⟨n,rfl⟩:=Int.eq_ofNat_of_zero_le (a:=s) (by omega);by_cases g:(n:Int)<r
   ·go_enter (fx (by decide) aI),b1
    go_wp2_with (first|(go_at_call 41;((with_reducible refine(fN b.out _).mono ?_);rintro e w'⟨rfl,rfl⟩))|(go_at_call 41;refine(fN c.out _).mono ?_;rintro e w'⟨rfl,rfl⟩))
    go_ret2
    exact⟨by simp[ie,b.out,c.out,g],rfl⟩
   ·by_cases h:(n:Int) < -r
    ·go_enter (fx (by decide) aI),b1
     go_wp2_with (first|(go_at_call 41;((with_reducible refine(fN b.out _).mono ?_);rintro e w'⟨rfl,rfl⟩))|(go_at_call 41;refine(fN c.out _).mono ?_;rintro e w'⟨rfl,rfl⟩))
     go_ret2
     exact⟨by simp[ie,b.out,c.out,h],rfl⟩
    ·go_enter (fx (by decide) aI),b1
     go_wp2_with (first|(go_at_call 41;((with_reducible refine(fN b.out _).mono ?_);rintro e w'⟨rfl,rfl⟩))|(go_at_call 41;refine(fN c.out _).mono ?_;rintro e w'⟨rfl,rfl⟩)|(go_at_call 42;refine(AG _ _ _ (by omega) (by omega) (by omega) (by omega)).mono ?_;rintro e w'⟨rfl,rfl⟩))
     go_ret2
     exact⟨by simp[ie,b.out,c.out,g,h],rfl⟩
  ·have c:=da (aV f);clear f
   go_enter (fx (by decide) aI),b1
   go_wp2_with (first|(go_at_call 41;((with_reducible refine(fN b.out _).mono ?_);rintro e w'⟨rfl,rfl⟩))|(go_at_call 41;refine(pZ c.out _).mono ?_;rintro e w'⟨rfl,rfl⟩))
   go_ret2
   exact⟨by simp[ie,b.out,c.out],rfl⟩
 ·have b:=da (aV d);clear d
  go_enter (fx (by decide) aI),b1
  go_wp2_with (go_at_call 41;refine(pZ b.out _).mono ?_;rintro e w'⟨rfl,rfl⟩)
  go_ret2
  exact⟨by simp[ie,b.out],rfl⟩
def rJ(n a b:Int)(w:World):Calls PL 36 #[.int .i64 n,.int .i64 a,.int .i64 b] w λe w'=>e=.returned (.bool (bO n a b))/\w'=w:=by
 go_enter (fx (by decide) aP),Tryz.ntmps36
 go_wp2
 all_goals (go_ret;simp[bO];try omega)
def yu(c:Nat)(w:World):Calls PL 86 #[.int .u8 c] w λe w'=>e=.returned (.bool (bO c 97 122))/\w'=w:=by
 go_enter (fx (by decide) bw),Tryz.ntmps86
 go_wp2
 all_goals (go_ret;simp[bO];try omega)
def AH(c:Nat)(w:World):Calls PL 87 #[.int .u8 c] w λe w'=>e=.returned (.bool (bO c 48 57))/\w'=w:=by
 go_enter (fx (by decide) bx),Tryz.ntmps87
 go_wp2
 all_goals (go_ret;simp[bO];try omega)
def kB(a b low c:Int)(w:World):Calls PL 37 #[.agg #[.int .i64 a,.int .i64 b],.int .i64 low,.int .i64 c] w (aO (.bool (eK a b low c)) w):=by
 go_enter (fx (by decide) ba),Tryz.ntmps37
 go_wp2_with (go_at_call 36;refine(rJ _ _ _ _).mono ?_;rintro e w'⟨rfl,rfl⟩)
 all_goals (go_ret;refine⟨?_,(cb _ _).alloc (ce _) _⟩;simp_all [eK,bO];try omega)
def AI(a b:Int)(w:World)(c : -90<=a)(d:a<=90):Calls PL 63 #[.agg #[.int .i64 a,.int .i64 b]] w (aO (.int .i64 (max b (-a))) w):=by
 go_enter (fx (by decide) bi),Tryz.ntmps63
 go_wp2
 all_goals (go_ret;refine⟨aC (by omega),(cb _ _).alloc (ce _) _⟩)
def Ew{c:Nat}(h:bO c 97 122=true)(w:World):Calls PL 86 #[.int .u8 c] w λe w'=>e=.returned (.bool true)/\w=w':=by
 have:=yu c w;rw[h]at this;exact this.mono λ_ _⟨a,b⟩=>⟨a,b.symm⟩
def yw{c:Nat}(h:bO c 97 122=false)(w:World):Calls PL 86 #[.int .u8 c] w λe w'=>e=.returned (.bool false)/\w=w':=by
 have:=yu c w;rw[h]at this;exact this.mono λ_ _⟨a,b⟩=>⟨a,b.symm⟩
def Vf{c:Nat}(h:bO c 48 57=true)(w:World):Calls PL 87 #[.int .u8 c] w λe w'=>e=.returned (.bool true)/\w=w':=by
 have:=AH c w;rw[h]at this;exact this.mono λ_ _⟨a,b⟩=>⟨a,b.symm⟩
def Vg{c:Nat}(h:bO c 48 57=false)(w:World):Calls PL 87 #[.int .u8 c] w λe w'=>e=.returned (.bool false)/\w=w':=by
 have:=AH c w;rw[h]at this;exact this.mono λ_ _⟨a,b⟩=>⟨a,b.symm⟩
def kH{n a b:Int}(h:bO n a b=true)(w:World):Calls PL 36 #[.int .i64 n,.int .i64 a,.int .i64 b] w λe w'=>e=.returned (.bool true)/\w=w':=by
 have:=rJ n a b w;rw[h]at this;exact this.mono λ_ _⟨a,b⟩=>⟨a,b.symm⟩
def vQ{n a b:Int}(h:bO n a b=false)(w:World):Calls PL 36 #[.int .i64 n,.int .i64 a,.int .i64 b] w λe w'=>e=.returned (.bool false)/\w=w':=by
 have:=rJ n a b w;rw[h]at this;exact this.mono λ_ _⟨a,b⟩=>⟨a,b.symm⟩
def AJ{s:ByteArray}{k:Nat}(h:k<s.size):jv s k=(s[k]'h).toNat:=by simp[jv,h]
def vv(s:ByteArray)(w:World)(hs:s.size<=100):Calls PL 62 #[.string s] w λe w'=>e=.returned (.bool (ku s))/\w=w':=by
 by_cases g:bO (↑s.size) 1 12=true
 ·have o:0<s.size:=by simp[bO]at g;omega
  have d:=da g;clear g;by_cases n:bO ((s[0]'o).toNat:Int) 97 122=true
  ·have l:=da n;clear n
   go_enter (fx (by decide) bt),b8
   go_wp2_with (first|(go_at_call 36;refine(kH d.out _).mono ?_;rintro e w'⟨rfl,rfl⟩)|(go_at_call 86;refine(Ew l.out _).mono ?_;rintro e w'⟨rfl,rfl⟩))
   go_loop [3] (λv=>∃k:Nat,k<=s.size/\v=.int .i64 k/\∀j,j<k->wA (jv s j) j=true) (λv=>s.size-(intOf v).toNat)
   case atStart=>exact⟨0,cf _,rfl,λj b=>absurd b (cg _)⟩
   case round=>
    obtain⟨k,u,rfl,r⟩:=hrel;have p:=da r;clear r;by_cases f:k<s.size
    ·have hb:=AJ f;have q:=da hb;clear hb;by_cases hl:bO ((s[k]'f).toNat:Int) 97 122=true
     ·have c:=da hl;clear hl
      go_wp2_with (go_at_call 86;refine(Ew c.out _).mono ?_;rintro e w'⟨rfl,rfl⟩)
      refine⟨⟨k+1,f,by go_num,λj b=>?_⟩,by simp[intOf];omega⟩
      rcases Nat.lt_succ_iff_lt_or_eq.1 b with h|h
      ·exact p.out j h
      ·rw[h,q.out];simp[wA,c.out]
     ·have c:=da (aV hl);clear hl;have t:k≠0:=λe=>by
       subst e;have a:=c.out;rw[l.out]at a;cases a
      by_cases hd:bO ((s[k]'f).toNat:Int) 48 57=true
      ·have m:=da hd;clear hd
       go_wp2_with (first|(go_at_call 86;refine(yw c.out _).mono ?_;rintro e w'⟨rfl,rfl⟩)|(go_at_call 87;refine(Vf m.out _).mono ?_;rintro e w'⟨rfl,rfl⟩))
       refine⟨⟨k+1,f,by go_num,λj b=>?_⟩,by simp[intOf];omega⟩
       rcases Nat.lt_succ_iff_lt_or_eq.1 b with h|h
       ·exact p.out j h
       ·rw[h,q.out];simp[wA,m.out,t]
      ·have m:=da (aV hd);clear hd
       go_wp2_with (first|(go_at_call 86;refine(yw c.out _).mono ?_;rintro e w'⟨rfl,rfl⟩)|(go_at_call 87;refine(Vg m.out _).mono ?_;rintro e w'⟨rfl,rfl⟩))
       go_ret
       exact⟨by rw[qd f (by rw[q.out];simp[wA,c.out,m.out])];rfl,rfl⟩
    ·obtain rfl:k=s.size:=by omega
     go_wp2
     go_ret
     refine⟨?_,rfl⟩;have:((cp s.size).all λi=>wA (jv s i) i)=true:=by
      rw[cv];intro j b;exact p.out j (List.mem_range.1 b)
     simp[ku,this,d.out]
  ·have l:=da (aV n);clear n
   go_enter (fx (by decide) bt),b8
   go_wp2_with (first|(go_at_call 36;refine(kH d.out _).mono ?_;rintro e w'⟨rfl,rfl⟩)|(go_at_call 86;refine(yw l.out _).mono ?_;rintro e w'⟨rfl,rfl⟩))
   go_ret
   exact⟨by rw[qd o (by rw[AJ o];simp[wA,l.out])];rfl,rfl⟩
 ·have d:=da (aV g);clear g
  go_enter (fx (by decide) bt),b8
  go_wp2_with (go_at_call 36;refine(vQ d.out _).mono ?_;rintro e w'⟨rfl,rfl⟩)
  go_ret
  exact⟨by simp[ku,d.out],rfl⟩
def dr{B:Nat}{a w:World}(h:Below B a w)(n:Nat):Below B a (w.drewN n):=⟨h.os,h.tape,h.output,h.size,h.block⟩
def Vh(b:Option Addr)(k o n c m:Nat)(x:Nat->Int)(w:World)(D:n<=20)(E:m<=20)(t:0<n->k<w.heap.size)(hs:0<n->b=some ⟨k,o,none⟩)(u:∀i,i<n->w.cell? ⟨k,o+i,none⟩=some (.int .i64 (x i))) :
 Calls PL 64 #[.slice b n c,.int .i64 (m:Int)] w (aO (.int .i64 (ia n (fy m x))) w):=by
 have v:=da u;have B:=da hs;clear u hs
 go_enter (fx (by decide) aL),Tryz.ntmps64
 go_wp2
 go_loopw [5] (λi wr=>∃q:Nat,q<=n/\i=.int .i64 q/\(∀j,j<q->fy m x j=0)/\Below w.heap.size w wr) (λi _=>n-(intOf i).toNat)
 case atStart=>exact⟨0,cf _,rfl,λj g=>absurd g (cg _),cb _ _⟩
 case round=>
  obtain⟨q,F,rfl,y,d⟩:=hrel;have l:=da y;clear y;by_cases f:q<n
  ·obtain rfl:=B.out (by omega);have C:=(d.cell (p:=⟨k,o+q,none⟩) (t (by omega))).trans (v.out q f);by_cases hi:bO (x q) 0 (m-1)=true
   ·have a:=da hi;clear hi;by_cases r:0<q
    ·have H:=(d.cell (p:=⟨k,o+(q-1),none⟩) (t (by omega))).trans (v.out (q-1) (by omega));have I:(0:Int)<q:=by omega
     have J:(q:Int)<n:=by omega
     have K:(q:Int)-1<n:=by omega
     have L:(0:Int)<=(q:Int)-1:=by omega
     go_wp2_with (go_at_call 36;refine(kH a.out _).mono ?_;rintro e w'⟨rfl,rfl⟩)
     go_quiet (fail)
     go_wp2
     ·have z:fy m x q=7:=by
       have t2:x q<=x (q-1):=by assumption
       simp only[fy];rw[if_pos a.out,if_pos ⟨r,t2⟩]
      go_ret
      exact⟨aC ((eG l.out f (by rw[z];decide)).trans z),dr d _⟩
     ·have s:fy m x q=0:=by
       have t2:x (q-1)<x q:=by assumption
       simp only[fy];rw[if_pos a.out,if_neg (by omega)]
      refine⟨⟨q+1,f,by go_num,λj g=>?_,dr d _⟩,by simp[intOf];omega⟩
      rcases Nat.lt_succ_iff_lt_or_eq.1 g with h|h
      ·exact l.out j h
      ·rw[h];exact s
    ·obtain rfl:q=0:=by omega
     rw[cm]at C
     go_wp2_with (go_at_call 36;refine(kH a.out _).mono ?_;rintro e w'⟨rfl,rfl⟩)
     go_quiet (fail)
     go_wp2
     have s:fy m x 0=0:=by
      simp only[fy];rw[if_pos a.out,if_neg (by omega)]
     refine⟨⟨1,f,by go_num,λj g=>?_,dr d _⟩,by simp[intOf];omega⟩;obtain rfl:j=0:=by omega
     exact s
   ·have a:=da (aV hi);clear hi
    go_wp2_with (go_at_call 36;refine(vQ a.out _).mono ?_;rintro e w'⟨rfl,rfl⟩)
    have A:fy m x q=6:=by simp only[fy];rw[a.out];rfl
    go_ret
    exact⟨aC ((eG l.out f (by rw[A];decide)).trans A),d⟩
  ·obtain rfl:q=n:=by omega
   go_wp2
   go_ret
   exact⟨aC (cz l.out),d⟩
def Ex{a b c d:Int}:eB a b=eB c d↔(a=c/\b=d)\/(a=d/\b=c):=by
 simp only[eB,Prod.mk.injEq];omega
def aao{w:World}{k:Nat}{x0 x1 x2:Value}{t:ab}(h:w.heap[k]?=some (.cells #[x0,x1,x2] t)):w.cell? ⟨k,0,none⟩=some x0/\w.cell? ⟨k,1,none⟩=some x1/\w.cell? ⟨k,2,none⟩=some x2:=by
 simp[dt,h]
def getElem?_lt'{b:Type}{a:Array b}{i:Nat}{x:b}(h:a[i]?=some x):i<a.size:=(Array.getElem?_eq_some_iff.1 h).1
def Ic(l p:Int)(b:Option Addr)(k o n c:Nat)(x:Nat->Int×Int×Int)(J K v5:Value)(w:World)(hn:n<=20)(J0:1<=p)(tL:p<=6)(t:k<w.heap.size)(hs:0<n->b=some ⟨k,o,none⟩)
 (Q:∀i,i<n->w.cell? ⟨k,o+i*3,none⟩=some (.int .i64 (x i).1)) (C:∀i,i<n->w.cell? ⟨k,o+i*3+1,none⟩=some (.int .i64 (x i).2.1)) (D:∀i,i<n->w.cell? ⟨k,o+i*3+2,none⟩=some (.int .i64 (x i).2.2)) :
 Calls PL 38 #[.agg #[.int .i64 l,.int .i64 p,J,.slice b n c,K,v5]] w (aO (.int .i64 (kz p n x)) w):=by
 have R:=da Q;have S:=da C;have T:=da D;have HS:=da hs;clear Q C D hs;by_cases hb:9<n
 ·go_enter (fx (by decide) bb),b9
  go_wp2
  go_ret
  exact⟨by simp[kz,hb],(cb _ _).alloc (ce _) _⟩
 ·go_enter (fx (by decide) bb),b9
  go_wp2
  go_loopw [3] (λi wr=>∃m:Nat,m<=n/\i=.int .i64 m/\(∀j,j<m->fQ p x j=0)/\wr.heap[w.heap.size]?=some (.cells #[.int .i64 l,.int .i64 p,J,.slice b n c,K,v5] 27)/\Below w.heap.size w wr) (λi _=>n-(intOf i).toNat)
  case atStart=>exact⟨0,cf _,rfl,λj r=>absurd r (cg _),au _ _,(cb _ _).alloc (ce _) _⟩
  case round=>
   obtain⟨m,U,rfl,V,W,u⟩:=hrel;have s:=da V;have L:=da W;clear V W;obtain⟨y,rfl⟩:∃y:World,y=wr:=⟨_,rfl⟩
   obtain⟨d0,d1,d2,d3,d4,d5⟩:=bf L.out;have mF:w.heap.size<y.heap.size:=getElem?_lt' L.out;by_cases f:m<n
   ·obtain rfl:=HS.out (by omega);have c0:=(u.cell (p:=⟨k,o+m*3,none⟩) t).trans (R.out m f);have c1:=(u.cell (p:=⟨k,o+m*3+1,none⟩) t).trans (S.out m f);have c2:=(u.cell (p:=⟨k,o+m*3+2,none⟩) t).trans (T.out m f);have B:Below w.heap.size w (y.alloc (.cells #[.int .i64 (x m).1,.int .i64 (x m).2.1,.int .i64 (x m).2.2] 92)):=u.alloc u.size _;by_cases F:bO (x m).1 0 (p-1)=true
    ·have a:=da F;clear F;by_cases H:bO (x m).2.1 0 (p-1)=true
     ·have d:=da H;clear H;by_cases z:(x m).1=(x m).2.1
      ·have E:=da z;have Xo:((x m).1==(x m).2.1)=true:=by simpa using z
       clear z
       go_wp2_with (first|(go_at_call 36;((with_reducible refine(kH a.out _).mono ?_);rintro e w'⟨rfl,rfl⟩))|(go_at_call 36;((with_reducible refine(kH d.out _).mono ?_);rintro e w'⟨rfl,rfl⟩)))
       go_ret
       exact⟨aC (dh (v:=8) hb s.out f (by simp[fQ,a.out,d.out,E.out]) (by decide)),B⟩
      ·have E:=da z;have Xo:((x m).1==(x m).2.1)=false:=by simpa using z
       clear z;by_cases I:bO (x m).2.2 1 999=true
       ·have A:=da I;clear I
        go_wp2_with (first|(go_at_call 36;((with_reducible refine(kH a.out _).mono ?_);rintro e w'⟨rfl,rfl⟩))|(go_at_call 36;((with_reducible refine(kH d.out _).mono ?_);rintro e w'⟨rfl,rfl⟩))|(go_at_call 36;((with_reducible refine(kH A.out _).mono ?_);rintro e w'⟨rfl,rfl⟩)))
        go_loopw [5] (λi M=>∃q:Nat,q<=m/\i=.int .i64 q/\(∀j,j<q->eB (x j).1 (x j).2.1≠eB (x m).1 (x m).2.1)/\M.heap[w.heap.size]?=some (.cells #[.int .i64 l,.int .i64 p,J,.slice (some ⟨k,o,none⟩) n c,K,v5] 27)/\M.heap[y.heap.size]?=some (.cells #[.int .i64 (x m).1,.int .i64 (x m).2.1,.int .i64 (x m).2.2] 92)/\Below w.heap.size w M) (λi _=>m-(intOf i).toNat)
        case atStart=>exact⟨0,cf _,rfl,λj r=>absurd r (cg _),(cc _ _ _ mF).trans L.out,au _ _,B⟩
        case round=>
         obtain⟨q,hq,rfl,X,Y,Z,g⟩:=hrel;have HJ:=da X;have N:=da Y;have O:=da Z;clear X Y Z;obtain⟨f0,f1,f2,f3,f4,f5⟩:=bf N.out;obtain⟨g0,g1,g2⟩:=aao O.out;have dx:y.heap.size<wr.heap.size:=getElem?_lt' O.out;have wD:w.heap.size<wr.heap.size:=by omega
         by_cases qN:q<m
         ·have k0:=(g.cell (p:=⟨k,o+q*3,none⟩) t).trans (R.out q (by omega));have k1:=(g.cell (p:=⟨k,o+q*3+1,none⟩) t).trans (S.out q (by omega));have k2:=(g.cell (p:=⟨k,o+q*3+2,none⟩) t).trans (T.out q (by omega));have i2:(q:Int)<n:=by omega
          go_wp2
          any_goals (
           go_ret
           have P:eB (x q).1 (x q).2.1=eB (x m).1 (x m).2.1:=Ex.2 (by simp_all);have nt:eB (x m).1 (x m).2.1∈(cp m).map (λj=>eB (x j).1 (x j).2.1):=List.mem_map.2 ⟨q,List.mem_range.2 qN,P⟩
           exact⟨aC (dh (v:=5) hb s.out f (by simp only[fQ];rw[a.out,d.out,A.out,if_neg E.out,if_pos nt];rfl) (by decide)),g.alloc g.size _⟩)
          all_goals (
           have P:eB (x q).1 (x q).2.1≠eB (x m).1 (x m).2.1:=λe=>by
            have e2:=Ex.1 e;have e3:=E.out
            simp_all
           refine⟨⟨q+1,qN,by go_num,λj r=>?_,(cc _ _ _ wD).trans N.out,(cc _ _ _ dx).trans O.out,g.alloc g.size _⟩,by simp[intOf];omega⟩
           rcases Nat.lt_succ_iff_lt_or_eq.1 r with h|h
           ·exact HJ.out j h
           ·rw[h];exact P)
         ·obtain rfl:q=m:=by omega
          go_wp2
          refine⟨⟨q+1,f,by go_num,λj r=>?_,N.out,g⟩,by simp[intOf];omega⟩
          rcases Nat.lt_succ_iff_lt_or_eq.1 r with h|h
          ·exact s.out j h
          ·have uB:eB (x q).1 (x q).2.1∉(cp q).map (λj=>eB (x j).1 (x j).2.1):=λU=>by
            obtain⟨j,C,D⟩:=List.mem_map.1 U;exact HJ.out j (List.mem_range.1 C) D
           rw[h];simp only[fQ];rw[a.out,d.out,A.out,if_neg E.out,if_neg uB];rfl
       ·have A:=da (aV I);clear I
        go_wp2_with (first|(go_at_call 36;((with_reducible refine(kH a.out _).mono ?_);rintro e w'⟨rfl,rfl⟩))|(go_at_call 36;((with_reducible refine(kH d.out _).mono ?_);rintro e w'⟨rfl,rfl⟩))|(go_at_call 36;((with_reducible refine(vQ A.out _).mono ?_);rintro e w'⟨rfl,rfl⟩)))
        go_ret
        exact⟨aC (dh (v:=1) hb s.out f (by simp[fQ,a.out,d.out,E.out,A.out]) (by decide)),B⟩
     ·have d:=da (aV H);clear H
      go_wp2_with (first|(go_at_call 36;((with_reducible refine(kH a.out _).mono ?_);rintro e w'⟨rfl,rfl⟩))|(go_at_call 36;((with_reducible refine(vQ d.out _).mono ?_);rintro e w'⟨rfl,rfl⟩)))
      go_ret
      exact⟨aC (dh (v:=6) hb s.out f (by simp[fQ,a.out,d.out]) (by decide)),B⟩
    ·have a:=da (aV F);clear F
     go_wp2_with (first|(go_at_call 36;((with_reducible refine(vQ a.out _).mono ?_);rintro e w'⟨rfl,rfl⟩)))
     go_ret
     exact⟨aC (dh (v:=6) hb s.out f (by simp[fQ,a.out]) (by decide)),B⟩
   ·obtain rfl:m=n:=by omega
    go_wp2
    go_ret
    exact⟨aC (by rw[kz,if_neg hb];exact cz s.out),u⟩
def J9{s:ByteArray}(h:ku s=true)(w:World)(hs:s.size<=100):Calls PL 62 #[.string s] w λe w'=>e=.returned (.bool true)/\w=w':=by
 have:=vv s w hs;rwa[h]at this
def Ka{s:ByteArray}(h:ku s=false)(w:World)(hs:s.size<=100):Calls PL 62 #[.string s] w λe w'=>e=.returned (.bool false)/\w=w':=by
 have:=vv s w hs;rwa[h]at this
def sZ(a b:ByteArray):(a.toList==b.toList)=decide (a=b):=by rw[<-beq_toListBytes,bytes_beq]
def yx(C:CD)(m:Nat)(w:World)(h:C.At w)(b:m<C.n5):Calls PL 40 #[.agg C.val,.int .i64 (m:Int)] w (aO (.int .i64 (iI C.n4 C.x5 m)) w):=by
 have H:=da h;have c0:=h.FI m b;have c1:=h.HU m b;have c2:=h.J6 m b;have Z:=h.s5 (by omega);have L:=h.h5;have M:=h.nm5 m b;have m5:=h.m5;have m4:=h.m4;clear h;obtain⟨l,p,N,k2,o2,O,P,x2,Q,k3,o3,R,S,x3,T,k4,o4,I,U,x4,b5,u,v,d,V,a⟩:=C;simp only at c0 c1 c2 Z L M m5 m4 b ⊢;subst Z;have hmi:(m:Int)<d:=by omega
 by_cases c:ku (a m).1=true
 ·have n:=da c;clear c
  go_enter (fx (by decide) bc),ca
  go_wp2_with (go_at_call 62;refine(J9 n.out _ M).mono ?_;rintro e w'⟨rfl,rfl⟩)
  go_loopw [6] (λi wr=>∃q:Nat,q<=m/\i=.int .i64 q/\(∀j,j<q->(a j).1≠(a m).1)/\wr.heap[w.heap.size]?=some (.cells #[.int .i64 l,.int .i64 p,.slice N O P,.slice Q R S,.slice T I U,.slice (some ⟨u,v,none⟩) d V] 27)/\wr.heap[w.heap.size+1]?=some (.cells #[.string (a m).1,.int .i64 (a m).2.1,.int .i64 (a m).2.2] 87)/\Below w.heap.size w wr) (λi _=>m-(intOf i).toNat)
  case atStart=>
   refine⟨0,cf _,rfl,λj f=>absurd f (cg _),(cc _ _ _ (by simp)).trans (au _ _),?_,((cb _ _).alloc (ce _) _).alloc (by simp) _⟩;have:=au (w.alloc (.cells #[.int .i64 l,.int .i64 p,.slice N O P,.slice Q R S,.slice T I U,.slice (some ⟨u,v,none⟩) d V] 27)) (.cells #[.string (a m).1,.int .i64 (a m).2.1,.int .i64 (a m).2.2] 87);simpa using this
  case round=>
   obtain⟨q,hq,rfl,x,y,z,A⟩:=hrel;have HJ:=da x;have o:=da y;have s:=da z;clear x y z;obtain⟨f0,f1,f2,f3,f4,f5⟩:=bf o.out;obtain⟨g0,g1,g2⟩:=aao s.out;by_cases qN:q<m
   ·have k0:=(A.cell (p:=⟨u,v+q*3,none⟩) L).trans (H.out.FI q (by show q<d;omega));simp only at k0;have i2:(q:Int)<d:=by omega
    go_wp2
    go_quiet (fail)
    go_wp2
    ·have g:(a q).1=(a m).1:=by
      have t:((a q).1.toList==(a m).1.toList)=true:=by assumption
      rw[sZ]at t;simpa using t
     have W:(a m).1∈(cp m).map (λj=>(a j).1):=List.mem_map.2 ⟨q,List.mem_range.2 qN,g⟩
     go_ret
     exact⟨aC (by simp[iI,iH,n.out,W]),dr A _⟩
    ·have g:(a q).1≠(a m).1:=by
      have t:((a q).1.toList==(a m).1.toList)=false:=by assumption
      rw[sZ]at t;simpa using t
     refine⟨⟨q+1,qN,by go_num,λj f=>?_,o.out,s.out,dr A _⟩,by simp[intOf];omega⟩
     rcases Nat.lt_succ_iff_lt_or_eq.1 f with h|h
     ·exact HJ.out j h
     ·rw[h];exact g
   ·obtain rfl:q=m:=by omega
    have DR:iH (a q).1 ((cp q).map λj=>(a j).1)=0:=by
     have c:(a q).1∉(cp q).map (λj=>(a j).1):=λb=>by
      obtain⟨j,X,Y⟩:=List.mem_map.1 b;exact HJ.out j (List.mem_range.1 X) Y
     simp only[iH];rw[if_pos n.out,if_neg c]
    have J:=da DR;clear DR;by_cases K:bO (a q).2.1 0 (I-1)=true
    ·have k:=da K;clear K;obtain⟨wo,rfl⟩:∃wo:World,wo=wr:=⟨_,rfl⟩
     go_wp2_with (first|(go_at_call 36;((with_reducible refine(kH k.out _).mono ?_);rintro e w'⟨rfl,rfl⟩)))
     go_loopw [7] (λi wr=>∃r:Nat,r<=q/\i=.int .i64 r/\(∀j,j<r->(a j).2.1≠(a q).2.1)/\wr.heap[w.heap.size]?=some (.cells #[.int .i64 l,.int .i64 p,.slice N O P,.slice Q R S,.slice T I U,.slice (some ⟨u,v,none⟩) d V] 27)/\wr.heap[w.heap.size+1]?=some (.cells #[.string (a q).1,.int .i64 (a q).2.1,.int .i64 (a q).2.2] 87)/\Below w.heap.size w wr) (λi _=>q-(intOf i).toNat)
     case atStart=>exact⟨0,cf _,rfl,λj f=>absurd f (cg _),o.out,s.out,A⟩
     case round=>
      obtain⟨r,hr,rfl,x,y,z,B⟩:=hrel;have HK:=da x;have o:=da y;have s:=da z;clear x y z;obtain⟨f0,f1,f2,f3,f4,f5⟩:=bf o.out;obtain⟨g0,g1,g2⟩:=aao s.out;by_cases E:r<q
      ·have k1:=(B.cell (p:=⟨u,v+r*3+1,none⟩) L).trans (H.out.HU r (by show r<d;omega));simp only at k1;have i2:(r:Int)<d:=by omega
       go_wp2
       go_quiet (fail)
       go_wp2
       ·have g:(a r).2.1=(a q).2.1:=by
         have t:((a r).2.1==(a q).2.1)=true:=by assumption
         simpa using t
        have W:(a q).2.1∈(cp q).map (λj=>(a j).2.1):=List.mem_map.2 ⟨r,List.mem_range.2 E,g⟩
        go_ret
        exact⟨aC (by simp only[iI];rw[if_pos J.out,k.out,if_pos W];rfl),dr B _⟩
       ·have g:(a r).2.1≠(a q).2.1:=by
         have t:((a r).2.1==(a q).2.1)=false:=by assumption
         simpa using t
        refine⟨⟨r+1,E,by go_num,λj f=>?_,o.out,s.out,dr B _⟩,by simp[intOf];omega⟩
        rcases Nat.lt_succ_iff_lt_or_eq.1 f with h|h
        ·exact HK.out j h
        ·rw[h];exact g
      ·obtain rfl:r=q:=by omega
       have c:(a r).2.1∉(cp r).map (λj=>(a j).2.1):=λb=>by
        obtain⟨j,X,Y⟩:=List.mem_map.1 b;exact HK.out j (List.mem_range.1 X) Y
       have F:=da c;clear c;by_cases hd:bO (a r).2.2 0 12=true
       ·have D:=da hd;clear hd
        go_wp2_with (first|(go_at_call 36;((with_reducible refine(kH D.out _).mono ?_);rintro e w'⟨rfl,rfl⟩)))
        go_ret
        exact⟨aC (by simp only[iI];rw[if_pos J.out,k.out,if_neg F.out,D.out];rfl),B⟩
       ·have D:=da (aV hd);clear hd
        go_wp2_with (first|(go_at_call 36;((with_reducible refine(vQ D.out _).mono ?_);rintro e w'⟨rfl,rfl⟩)))
        go_ret
        exact⟨aC (by simp only[iI];rw[if_pos J.out,k.out,if_neg F.out,D.out];rfl),B⟩
    ·have k:=da (aV K);clear K
     go_wp2_with (first|(go_at_call 36;((with_reducible refine(vQ k.out _).mono ?_);rintro e w'⟨rfl,rfl⟩)))
     go_ret
     exact⟨aC (by simp only[iI];rw[if_pos J.out,k.out];rfl),A⟩
 ·have n:=da (aV c);clear c
  go_enter (fx (by decide) bc),ca
  go_wp2_with (go_at_call 62;refine(Ka n.out _ M).mono ?_;rintro e w'⟨rfl,rfl⟩)
  go_ret
  exact⟨aC (by simp[iI,iH,n.out]),((cb _ _).alloc (ce _) _).alloc (by simp) _⟩
end Go.Proofs
