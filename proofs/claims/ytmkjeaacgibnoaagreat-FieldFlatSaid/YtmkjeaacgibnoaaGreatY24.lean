/- Part of the proof of FieldFlat and FieldMarshals. -/
import Derived.Test.YtmkjeaacgibnoaaGreatY09
import Derived.Carry
import Derived.Laws.RangeAny
import Derived.Lib.Hide
import Derived.Maps.OwnOps
import Derived.OwnWalk
import Derived.WalkKit
import Derived.WalkLawsBesides
import Derived.WalkSpells
set_option linter.all false
open Go renaming Program->aa,TypeId->ab,underlying->ac,sizeOf->ad,typeInfo->ae,zeroValue->ag,callFunc->ai,MapEntry->ao,wpList->ap,wpList_plain->aq
open Go.Sem renaming run->ar
open Array renaming getElem?_setIfInBounds_ne->aw
open Go.Proofs.Tryz renaming prog->aB,func78->aF,func81->aH,func82->aI,func83->aJ,func85->aL,func96->aP,func112->aT,func127->a5,func131->a6,func132->a7,func133->a8,func157->a9,ntmps82->ba,ntmps133->bb,ntmps83->bc,ntmps85->bd
open Go.RowKit.Below renaming refl->bg,heap_alloc->bi,trans->bj
open Nat renaming le_refl->bl,zero_le->bm,not_lt_zero->bo,le_succ_of_le->bp,lt_trans->bq,lt_of_lt_of_le->br
open List renaming range->bs,all_eq_false->bt,all_eq_true->bv,map_cons->bw,range_succ->bx,map_append->bA
open Go.Lib renaming hid->bC
open Go.Instr renaming checkKey->bL,findKey->bM,sameNow->bR,findNow->bT,findAsking->bX,lookup->b1,mapUpdate->b2
open Go.MapKept renaming run_getObj_map->b3
namespace Go
def nO(P:aa)(n:ab)(w:World):ar P (ac n) w=match P.underlying n with|some i=>.ok i w|none=>.halt (.stuck "no such type") w:=by
 cases h:P.underlying n<;>simp[ac,h]
section
variable {P Q:aa}
def yf(h:P.toTables=Q.toTables)(n:ab):P.info? n=Q.info? n:=by
 show Tables.info? P.toTables n=Tables.info? Q.toTables n;rw[h]
def Cb(h:P.toTables=Q.toTables)(n:ab):P.underlying n=Q.underlying n:=by
 simp only[Program.underlying,yf h]
def yg(h:P.toTables=Q.toTables)(n:ab)(w:World):ar P (ac n) w=ar Q (ac n) w:=by
 rw[nO,nO,Cb h]
def Hw(h:P.toTables=Q.toTables)(n:ab)(w:World):ar P (ad n) w=ar Q (ad n) w:=by
 have e:=yf h n
 cases a:Q.info? n with
 |none=>rw[a]at e;simp[ad,ae,a,e]
 |some i=>rw[a]at e;simp[ad,ae,a,e]
def Na(h:P.toTables=Q.toTables)(n:ab)(w:World):ar P (isAgg n) w=ar Q (isAgg n) w:=by
 have e:=Cb h n
 cases a:Q.underlying n with
 |none=>rw[a]at e;simp[isAgg,ac,a,e]
 |some d=>rw[a]at e;cases d<;>simp[isAgg,ac,a,e]
def QZ(h:P.toTables=Q.toTables)(n:ab)(w:World):ar P (ag n) w=ar Q (ag n) w:=by
 have e:=yf h n
 cases a:Q.info? n with
 |none=>rw[a]at e;simp[ag,ae,a,e]
 |some i=>
  rw[a]at e;cases b:i.zero<;>simp[ag,ae,a,e,b]
end
end Go
namespace Go.Proofs
open Go.RowKit
set_option maxRecDepth 100000
noncomputable def PL:aa:=⟨Tryz.progTables,cY.funcs⟩
def mo:PL.toTables=Tryz.prog.toTables:=rfl
def fx{n:Nat}{f:Func}(h:98≠n)(hf:Tryz.prog.funcs[n]?=some f):PL.funcs[n]?=some f:=by
 show(Tryz.funcs.setIfInBounds 98 nS)[n]?=_;rw[aw h];exact hf
@[simp] def PL.tables:PL.toTables=Tryz.prog.toTables:=rfl
@[simp] def PL.tY(n:ab):PL.underlying n=Tryz.prog.underlying n:=Cb mo n
@[simp] def PL.abF(n:ab)(w:World):ar PL (ad n) w=ar aB (ad n) w:=Hw mo n w
@[simp] def PL.runUnderlying(n:ab)(w:World):ar PL (ac n) w=ar aB (ac n) w:=yg mo n w
@[simp] def PL.afe(n:ab)(w:World):ar PL (isAgg n) w=ar aB (isAgg n) w:=Na mo n w
@[simp] def PL.U4(n:ab)(w:World):ar PL (ag n) w=ar aB (ag n) w:=QZ mo n w
end Go.Proofs
namespace Go
def JZ{P:aa}{n:FuncId}{fn:Func}(h:P.funcs[n]?=some fn)(a:(fn.name == "runtime.NumGoroutine")=false)(hb:fn.body.isNone=false)(args:Array Value)(w:World):ar P (ai n args) w=.ok (.enter n args) w:=by
 have b:fn.name≠ "runtime.NumGoroutine":=by simpa using a
 have c:fn.body≠none:=λe=>by rw[e]at hb;cases hb
 simp[ai,h,b,c]
end Go
namespace Go.Proofs
set_option maxRecDepth 100000
abbrev ax(n:FuncId):Prop:=∀(args:Array Value)(w:World),ar PL (ai n args) w=.ok (.enter n args) w
def pc{n:FuncId}{fn:Func}(h:Tryz.prog.funcs[n]?=some fn)(a:98≠n:=by decide)(b:(fn.name == "runtime.NumGoroutine")=false:=by decide +kernel)(hb:fn.body.isNone=false:=by rfl):ax n:=
 JZ (fx a h) b hb
def Cc:PL.funcs[98]?=some nS:=by
 have hl:98<Tryz.funcs.size:=(Array.getElem?_eq_some_iff.1 Tryz.func98).1;show(Tryz.funcs.setIfInBounds 98 nS)[98]?=_;rw[Array.getElem?_setIfInBounds_self_of_lt hl]
@[simp] def PL.call98(args:Array Value)(w:World):ar PL (ai 98 args) w=.ok (.enter 98 args) w:=JZ Cc (by decide +kernel) rfl args w
@[simp] def PL.call18:ax 18:=pc Tryz.func18
@[simp] def PL.call19:ax 19:=pc Tryz.func19
@[simp] def PL.call20:ax 20:=pc Tryz.func20
@[simp] def PL.call22:ax 22:=pc Tryz.func22
@[simp] def PL.call23:ax 23:=pc Tryz.func23
@[simp] def PL.call24:ax 24:=pc Tryz.func24
@[simp] def PL.call26:ax 26:=pc Tryz.func26
@[simp] def PL.call28:ax 28:=pc Tryz.func28
@[simp] def PL.call30:ax 30:=pc Tryz.func30
@[simp] def PL.call31:ax 31:=pc Tryz.func31
@[simp] def PL.call33:ax 33:=pc Tryz.func33
@[simp] def PL.call34:ax 34:=pc Tryz.func34
@[simp] def PL.call36:ax 36:=pc Tryz.func36
@[simp] def PL.call37:ax 37:=pc Tryz.func37
@[simp] def PL.call38:ax 38:=pc Tryz.func38
@[simp] def PL.call39:ax 39:=pc Tryz.func39
@[simp] def PL.call40:ax 40:=pc Tryz.func40
@[simp] def PL.call41:ax 41:=pc Tryz.func41
@[simp] def PL.call42:ax 42:=pc Tryz.func42
@[simp] def PL.call44:ax 44:=pc Tryz.func44
@[simp] def PL.call45:ax 45:=pc Tryz.func45
@[simp] def PL.call46:ax 46:=pc Tryz.func46
@[simp] def PL.call47:ax 47:=pc Tryz.func47
@[simp] def PL.call48:ax 48:=pc Tryz.func48
@[simp] def PL.call52:ax 52:=pc Tryz.func52
@[simp] def PL.call56:ax 56:=pc Tryz.func56
@[simp] def PL.call58:ax 58:=pc Tryz.func58
@[simp] def PL.call59:ax 59:=pc Tryz.func59
@[simp] def PL.call65:ax 65:=pc Tryz.func65
@[simp] def PL.call74:ax 74:=pc Tryz.func74
@[simp] def PL.call77:ax 77:=pc Tryz.func77
@[simp] def PL.call78:ax 78:=pc aF
@[simp] def PL.call79:ax 79:=pc Tryz.func79
@[simp] def PL.call81:ax 81:=pc aH
@[simp] def PL.call82:ax 82:=pc aI
@[simp] def PL.call83:ax 83:=pc aJ
@[simp] def PL.call84:ax 84:=pc Tryz.func84
@[simp] def PL.call85:ax 85:=pc aL
@[simp] def PL.call86:ax 86:=pc Tryz.func86
@[simp] def PL.call87:ax 87:=pc Tryz.func87
@[simp] def PL.call88:ax 88:=pc Tryz.func88
@[simp] def PL.call89:ax 89:=pc Tryz.func89
@[simp] def PL.call90:ax 90:=pc Tryz.func90
@[simp] def PL.call91:ax 91:=pc Tryz.func91
@[simp] def PL.call92:ax 92:=pc Tryz.func92
@[simp] def PL.call94:ax 94:=pc Tryz.func94
@[simp] def PL.call96:ax 96:=pc aP
@[simp] def PL.call97:ax 97:=pc Tryz.func97
@[simp] def PL.call99:ax 99:=pc Tryz.func99
@[simp] def PL.call101:ax 101:=pc Tryz.func101
@[simp] def PL.call105:ax 105:=pc Tryz.func105
@[simp] def PL.call108:ax 108:=pc Tryz.func108
@[simp] def PL.call109:ax 109:=pc Tryz.func109
@[simp] def PL.call110:ax 110:=pc Tryz.func110
@[simp] def PL.call111:ax 111:=pc Tryz.func111
@[simp] def PL.call112:ax 112:=pc aT
@[simp] def PL.call113:ax 113:=pc Tryz.func113
@[simp] def PL.call114:ax 114:=pc Tryz.func114
@[simp] def PL.call115:ax 115:=pc Tryz.func115
@[simp] def PL.call118:ax 118:=pc Tryz.func118
@[simp] def PL.call127:ax 127:=pc a5
@[simp] def PL.call128:ax 128:=pc Tryz.func128
@[simp] def PL.call131:ax 131:=pc a6
@[simp] def PL.call132:ax 132:=pc a7
@[simp] def PL.call133:ax 133:=pc a8
@[simp] def PL.call134:ax 134:=pc Tryz.func134
@[simp] def PL.call142:ax 142:=pc Tryz.func142
@[simp] def PL.call143:ax 143:=pc Tryz.func143
@[simp] def PL.call145:ax 145:=pc Tryz.func145
@[simp] def PL.call146:ax 146:=pc Tryz.func146
@[simp] def PL.call151:ax 151:=pc Tryz.func151
@[simp] def PL.call152:ax 152:=pc Tryz.func152
@[simp] def PL.call153:ax 153:=pc Tryz.func153
@[simp] def PL.call154:ax 154:=pc Tryz.func154
@[simp] def PL.call157:ax 157:=pc a9
@[simp] def PL.call158:ax 158:=pc Tryz.func158
@[simp] def PL.call159:ax 159:=pc Tryz.func159
@[simp] def PL.call180:ax 180:=pc Tryz.func180
@[simp] def PL.call181:ax 181:=pc Tryz.func181
@[simp] def PL.call191:ax 191:=pc Tryz.func191
@[simp] def PL.call199:ax 199:=pc Tryz.func199
open Go.RowKit
set_option maxHeartbeats 400000
def aO(v:Value)(w:World)(e:Ending)(w':World):Prop:=e=.returned v/\Below w.heap.size w w'
def bO(n a b:Int):Bool:=decide (a<=n)&&decide (n<=b)
def bG(n a b:Int)(w:World) :
 Calls PL 78 #[.int .i64 n,.int .i64 a,.int .i64 b] w λe w'=>e=.returned (.bool (bO n a b))/\w'=w:=by
 go_enter (fx (by decide) aF),Tryz.ntmps78
 go_wp2
 all_goals (go_ret;simp[bO];try omega)
def o8(n:Int)(w:World):Calls PL 112 #[.int .i64 n] w λe w'=>e=.returned (.bool (bO n 0 12))/\w'=w:=by
 go_enter (fx (by decide) aT),Tryz.ntmps112
 go_wp2_with (go_at_call 78;refine(bG _ _ _ _).mono ?_;rintro e w'⟨rfl,rfl⟩)
 go_ret
 exact⟨rfl,rfl⟩
def eK(a b low c:Int):Bool:=decide (low<=a)&&decide (a<=b)&&decide (b<=c)
def nh(a b low c:Int)(w:World) :
 Calls PL 127 #[.agg #[.int .i64 a,.int .i64 b],.int .i64 low,.int .i64 c] w (aO (.bool (eK a b low c)) w):=by
 go_enter (fx (by decide) a5),Tryz.ntmps127
 go_wp2
 all_goals (go_ret;refine⟨?_,(bg _ _).alloc (bl _) _⟩;simp[eK];try omega)
def Ej(a b:Bool):Int:=if b then(if a then 0 else 2) else 1
def U5(a b:Bool)(w:World):Calls PL 96 #[.bool a,.bool b] w λe w'=>e=.returned (.int .i64 (Ej a b))/\w'=w:=by
 cases a<;>cases b
 all_goals
  go_enter (fx (by decide) aP),Tryz.ntmps96
  go_wp2
  go_ret
  exact⟨rfl,rfl⟩
def fN{n a b:Int}(h:bO n a b=true)(w:World):Calls PL 78 #[.int .i64 n,.int .i64 a,.int .i64 b] w λe w'=>e=.returned (.bool true)/\w'=w:=by
 have:=bG n a b w;rwa[h]at this
def pZ{n a b:Int}(h:bO n a b=false)(w:World):Calls PL 78 #[.int .i64 n,.int .i64 a,.int .i64 b] w λe w'=>e=.returned (.bool false)/\w'=w:=by
 have:=bG n a b w;rwa[h]at this
def Ek{a b low c:Int}(h:eK a b low c=true)(w:World):Calls PL 127 #[.agg #[.int .i64 a,.int .i64 b],.int .i64 low,.int .i64 c] w (aO (.bool true) w):=by
 have:=nh a b low c w;rwa[h]at this
def El{a b low c:Int}(h:eK a b low c=false)(w:World):Calls PL 127 #[.agg #[.int .i64 a,.int .i64 b],.int .i64 low,.int .i64 c] w (aO (.bool false) w):=by
 have:=nh a b low c w;rwa[h]at this
def aV{b:Bool}(h:¬b=true):b=false:=by simpa using h
def pq(n:Nat)(x:Nat->Int×Int):Int:=if bO n 1 3 then(if(bs n).all λi=>eK (x i).1 (x i).2 0 90 then 0 else 1) else 2
def Nb(l p:Int)(b:Option Addr)(k o n c:Nat)(x:Nat->Int×Int)(v3 z v5:Value)(w:World)(D:n<=20)(s:k<w.heap.size)(hs:0<n->b=some ⟨k,o,none⟩)
 (t:∀i,i<n->w.cell? ⟨k,o+i*2,none⟩=some (.int .i64 (x i).1)) (u:∀i,i<n->w.cell? ⟨k,o+i*2+1,none⟩=some (.int .i64 (x i).2)) :
 Calls PL 82 #[.agg #[.int .i64 l,.int .i64 p,.slice b n c,v3,z,v5]] w (aO (.int .i64 (pq n x)) w):=by
 have A:=bC t;have B:=bC u;clear t u;by_cases hb:bO (↑n) 1 3=true
 ·have C:0<n:=by simp[bO]at hb;omega
  obtain rfl:=hs C;have d:=bC hb;clear hb hs
  go_enter (fx (by decide) aI),ba
  go_wp2_with (go_at_call 78;refine(fN d.out _).mono ?_;rintro e w'⟨rfl,rfl⟩)
  go_loopw [15] (λi wr=>∃m:Nat,m<=n/\i=.int .i64 m/\(∀j,j<m->eK (x j).1 (x j).2 0 90=true)/\Below w.heap.size w wr) (λi _=>n-(intOf i).toNat)
  case atStart=>exact⟨0,bm _,rfl,λj f=>absurd f (bo _),(bg _ _).alloc (bl _) _⟩
  case round=>
   obtain⟨m,E,rfl,v,a⟩:=hrel;have y:=bC v;clear v;by_cases q:m<n
   ·have c0:=(a.cell (p:=⟨k,o+m*2,none⟩) s).trans (A.out m q);have c1:=(a.cell (p:=⟨k,o+m*2+1,none⟩) s).trans (B.out m q);by_cases hi:eK (x m).1 (x m).2 0 90=true
    ·have g:=bC hi;clear hi
     go_wp2_with (go_at_call 127;refine(Ek g.out _).mono ?_;rintro e w1⟨rfl,r⟩)
     go_roundw
     case rel=>exact⟨m+1,q,by go_num,λj f=>by
      rcases Nat.lt_succ_iff_lt_or_eq.1 f with h|h
      ·exact y.out j h
      ·rw[h];exact g.out,(a.alloc a.size _).trans (r.mono (by simpa using bp a.size))⟩
     case measure=>simp[intOf];omega
    ·have g:=bC (aV hi);clear hi
     go_wp2_with (go_at_call 127;refine(El g.out _).mono ?_;rintro e w1⟨rfl,r⟩)
     go_ret
     refine⟨?_,?_⟩
     ·have:((bs n).all λi=>eK (x i).1 (x i).2 0 90)=false:=by
       rw[bt];exact⟨m,List.mem_range.2 q,by simp[g.out]⟩
      simp[pq,d.out,this]
     ·exact(a.alloc a.size _).trans (r.mono (by simpa using bp a.size))
   ·go_wp2
    go_ret
    refine⟨?_,a⟩;have:((bs n).all λi=>eK (x i).1 (x i).2 0 90)=true:=by
     rw[bv];intro j f;exact y.out j (by have:=List.mem_range.1 f;omega)
    simp[pq,d.out,this]
 ·have d:=bC (aV hb);clear hb
  go_enter (fx (by decide) aI),ba
  go_wp2_with (go_at_call 78;refine(pZ d.out _).mono ?_;rintro e w'⟨rfl,rfl⟩)
  go_ret
  exact⟨by simp[pq,d.out],(bg _ _).alloc (bl _) _⟩
end Go.Proofs
namespace Go
open Instr Go.RowKit
section
variable {P:aa}{w:World}
structure KeyLaw(P:aa)(tk:ab){α:Type}(enc:α->Value):Prop where
 check:∀b x w,(bL b 10000 tk (enc x)).run P w=.ok () w
 find:∀(es:List ao)(ks:List α)(x:α)(w:World),es.map (·.key)=ks.map enc->∃r,(bM tk (enc x) es).run P w=.ok r w/\(x∈ks->∃i,∃e∈es,r=some (i,e.val))/\(x∉ks->r=none)
def vq{f:Type}{enc:f->Value}{d:TypeDesc}(h:∀x y,bR d (enc x) (enc y)=some true/\x=y\/bR d (enc x) (enc y)=some false/\x≠y)(x:f) :
 ∀(es:List ao)(a:List f)(i:Nat),es.map (·.key)=a.map enc->∃r,bT d (enc x) es i=some r/\(x∈a->∃j,∃e∈es,r=some (j,e.val))/\(x∉a->r=none):=by
 intro es
 induction es with
 |nil=>
  intro a i b
  cases a with
  |nil=>exact⟨none,rfl,λh=>absurd h (by simp),λ_=>rfl⟩
  |cons _ _=>simp at b
 |cons e es l=>
  intro a i b
  cases a with
  |nil=>simp at b
  |cons y a=>
   simp only[bw,List.cons.injEq]at b
   rcases h x y with⟨g,rfl⟩|⟨g,m⟩
   ·exact⟨some (i,e.val),by simp[bT,b.1,g],λ_=>⟨i,e,by simp,rfl⟩,λk=>absurd (by simp) k⟩
   ·obtain⟨r,n,o,p⟩:=l a (i+1) b.2;refine⟨r,by simp[bT,b.1,g,n],λc=>?_,λk=>p λc=>k (by simp[c])⟩
    rcases List.mem_cons.1 c with q|c
    ·exact absurd q m
    ·obtain⟨j,s,t,u⟩:=o c;exact⟨j,s,by simp[t],u⟩
def yj{d:Type}{enc:d->Value}{tk:ab}[DecidableEq d](h:∀x y(w:World),(Op.equal tk (enc x) (enc y)).run P w=.ok (decide (x=y)) w)(x:d) :
 ∀(es:List ao)(a:List d)(i:Nat)(w:World),es.map (·.key)=a.map enc->∃r,(bX tk (enc x) es i).run P w=.ok r w/\(x∈a->∃j,∃e∈es,r=some (j,e.val))/\(x∉a->r=none):=by
 intro es
 induction es with
 |nil=>
  intro a i w b
  cases a with
  |nil=>exact⟨none,rfl,λh=>absurd h (by simp),λ_=>rfl⟩
  |cons _ _=>simp at b
 |cons e es k=>
  intro a i w b
  cases a with
  |nil=>simp at b
  |cons y a=>
   simp only[bw,List.cons.injEq]at b;by_cases f:x=y
   ·subst f;exact⟨some (i,e.val),by simp[bX,b.1,h],λ_=>⟨i,e,by simp,rfl⟩,λg=>absurd (by simp) g⟩
   ·obtain⟨r,l,m,n⟩:=k a (i+1) w b.2;refine⟨r,by simp[bX,b.1,h,f,l],λc=>?_,λg=>n λc=>g (by simp[c])⟩
    rcases List.mem_cons.1 c with o|c
    ·exact absurd o f
    ·obtain⟨j,p,q,s⟩:=m c;exact⟨j,p,by simp[q],s⟩
def Hx{tk:ab}{k:IntKind}(a:P.underlying tk=some (.int k)):KeyLaw P tk (λn:Int=>.int k n) where
 check b x w:=by
  show(bL b (9999+1) tk _).run P w=_;generalize 9999=n;simp[bL,ac,a]
 find es c x w e:=by
  obtain⟨r,f,g,i⟩:=vq (enc:=λn:Int=>.int k n) (d:=.int k) (λx y=>by
   by_cases h:x=y
   ·exact .inl ⟨by simp[bR,h],h⟩
   ·exact .inr ⟨by simp[bR,h],h⟩) x es c 0 e
  exact⟨r,by simp[bM,ac,a,f],g,i⟩
def bytes_beq(x y:ByteArray):(x==y)=decide (x=y):=by
 obtain⟨a⟩:=x;obtain⟨b⟩:=y;show(a==b)=_;by_cases h:a=b
 ·simp[h]
 ·have:¬(ByteArray.mk a=ByteArray.mk b):=λe=>h (by cases e;rfl);simp[h,this]
instance:LawfulBEq ByteArray where
 rfl:=by intro a;rw[bytes_beq];simp
 eq_of_beq:=by intro a b h;rw[bytes_beq]at h;simpa using h
def zP{tk:ab}(a:P.underlying tk=some .string):KeyLaw P tk (λs:ByteArray=>.string s) where
 check b x w:=by
  show(bL b (9999+1) tk _).run P w=_;generalize 9999=n;simp[bL,ac,a]
 find es c x w e:=by
  obtain⟨r,f,g,i⟩:=vq (enc:=λn:ByteArray=>.string n) (d:=.string) (λx y=>by
   by_cases h:x=y
   ·exact .inl ⟨by simp[bR,bytes_beq,h],h⟩
   ·exact .inr ⟨by simp[bR,bytes_beq,h],h⟩) x es c 0 e
  exact⟨r,by simp[bM,ac,a,f],g,i⟩
def aU(w:World){a:Type}(enc:a->Value)(b:Nat)(l:List a):Prop:=∃es clock,w.heap[b]?=some (.map es clock)/\es.toList.map (·.key)=l.map enc/\∀e∈es.toList,e.val=.bool true
def aU.of_heap{a:Type}{enc:a->Value}{b:Nat}{l:List a}{w w':World}(h:aU w enc b l)(e:w'.heap[b]?=w.heap[b]?):aU w' enc b l:=by
 obtain⟨es,c,d,f⟩:=h;exact⟨es,c,e.trans d,f⟩
def aU.lookup{a:Type}{enc:a->Value}{b:Nat}{l:List a}{t tk g:ab}[DecidableEq a](h:aU w enc b l)(K:KeyLaw P tk enc)(j:P.underlying t=some (.map tk g))(m:(ag g).run P w=.ok (.bool false) w)(x:a) :
 (b1 t (.map (some b)) (enc x) false).run P w=.ok (.bool (decide (x∈l))) w:=by
 obtain⟨es,c,k,n,o⟩:=h;obtain⟨r,f,p,q⟩:=K.find es.toList l x w n;by_cases d:x∈l
 ·obtain⟨i,e,s,rfl⟩:=p d;simp[b1,ac,j,b3 k,K.check,f,d,o e s]
 ·rw[q d]at f;simp[b1,ac,j,b3 k,K.check,f,d,m]
structure gv(w w':World)(b:Nat):Prop where
 os:w'.os=w.os
 tape:w'.tape=w.tape
 output:w'.output=w.output
 size:w'.heap.size=w.heap.size
 block:∀c,c≠b->w'.heap[c]?=w.heap[c]?
def gv.below{w w':World}{b B:Nat}(h:gv w w' b)(a:B<=b):Below B w w':=⟨h.os,h.tape,h.output,by rw[h.size];exact bl _,λk c=>h.block k (by omega)⟩
def gv.cell{w w':World}{b:Nat}(h:gv w w' b){a:Addr}(c:a.block≠b):w'.cell? a=w.cell? a:=World.cell?_of_block (w:=w) (h.block a.block c)
def aU.put{d:Type}{enc:d->Value}{b:Nat}{l:List d}{t tk j:ab}(h:aU w enc b l)(K:KeyLaw P tk enc)(m:P.underlying t=some (.map tk j)){x:d}(n:x∉l) :
 ∃w',(b2 t (.map (some b)) (enc x) (.bool true)).run P w=.ok () w'/\aU w' enc b (l++[x])/\gv w w' b:=by
 obtain⟨es,c,f,g,o⟩:=h;obtain⟨r,i,s,p⟩:=K.find es.toList l x w g;rw[p n]at i;have hb:b<w.heap.size:=(Array.getElem?_eq_some_iff.1 f).1;refine⟨{ w with heap:=w.heap.setIfInBounds b (.map (es.push { key:=enc x,val:=.bool true,born:=c }) (c+1)) },?_,⟨es.push { key:=enc x,val:=.bool true,born:=c },c+1,by simp[hb],by simp[g],λe a=>?_⟩,rfl,rfl,rfl,by simp,λk q=>?_⟩
 ·simp[b2,ac,m,b3 f,K.check,i,MapKept.run_setObj_map _ f]
 ·simp only[Array.toList_push,List.mem_append,List.mem_singleton]at a
  rcases a with a|rfl
  ·exact o e a
  ·rfl
 ·show(w.heap.setIfInBounds b _)[k]?=_;rw[aw (Ne.symm q)]
def aU.made{a:Type}{enc:a->Value}(w:World):aU (w.alloc (.map #[] 0)) enc w.heap.size ([]:List a):=⟨#[],0,by show(w.heap.push _)[w.heap.size]?=_;simp,rfl,λe b=>by simp at b⟩
def aR{P:aa}(w:World){ops:Array Oper}{rest:List Oper}{o:Oper}{a:Act}{Q:Exit->Act->World->Prop}{c:Type}[DecidableEq c]{enc:c->Value}
 (hg:o.guard=none) (m x:Operand) (t tk d:ab) (g:o.op=Op.lookup t m x false) (K:KeyLaw P tk enc) (i:P.underlying t=some (.map tk d)) (j:(ag d).run P w=.ok (.bool false) w)
 (b:Nat) (l:List c) (k:a.eval m=.map (some b)) (h:aU w enc b l) (y:c) (n:a.eval x=enc y) (v:Bool) (hv:v=true↔y∈l) (p:ap P ops Q rest (a.put o.dst (.bool v)) w):ap P ops Q (o::rest) a w:=by
 refine aq hg λq hK'=>?_;have f:=h.lookup K i j y;have e:decide (y∈l)=v:=by
  cases v with
  |true=>simpa using hv
  |false=>simpa using hv
 rw[e]at f;unfold Oper.wp;simp[execOp,g,k,n,f,Result.andThen];exact hK' _ _ p
def dH{P:aa}(w:World){ops:Array Oper}{rest:List Oper}{o:Oper}{a:Act}{Q:Exit->Act->World->Prop}{c:Type}{enc:c->Value}
 (hg:o.guard=none) (m x v:Operand) (t tk d:ab) (e:o.op=Op.mapUpdate t m x v) (K:KeyLaw P tk enc) (f:P.underlying t=some (.map tk d))
 (b:Nat) (l:List c) (g:a.eval m=.map (some b)) (h:aU w enc b l) (y:c) (i:a.eval x=enc y) (hv:a.eval v=.bool true) (j:y∉l)
 (k:∀w',aU w' enc b (l++[y])->gv w w' b->ap P ops Q rest (a.put o.dst undef) w'):ap P ops Q (o::rest) a w:=by
 refine aq hg λr hK'=>?_;obtain⟨w',n,p,q⟩:=h.put K f j;unfold Oper.wp;simp[execOp,e,g,i,hv,n,Result.andThen];exact hK' _ _ (k w' p q)
end
end Go
namespace Go.Proofs
open Go.Instr
set_option maxRecDepth 100000
def aaj:PL.underlying 3=some (.int .i64):=by rw[PL.tY];exact Tryz.underlying3
def al1:PL.underlying 9=some .string:=by rw[PL.tY];exact Tryz.underlying9
def qz:KeyLaw PL 3 (λn:Int=>.int .i64 n):=Hx aaj
def aak:KeyLaw PL 9 (λs:ByteArray=>.string s):=zP al1
def jc(p:Int×Int):Value:=.agg #[.int .i64 p.1,.int .i64 p.2]
def mq(w:World):(ag 4).run PL w=.ok (.bool false) w:=by rw[PL.U4];exact Tryz.zeroValue4 w
def ju:PL.underlying 136=some (.map 3 4):=by rw[PL.tY];exact Tryz.underlying136
def Hy:PL.underlying 178=some (.map 9 4):=by rw[PL.tY];exact Tryz.underlying178
def Hz:PL.underlying 173=some (.map 175 4):=by rw[PL.tY];exact Tryz.underlying173
def Q0:PL.stoodInHeld 175=false:=by kernel_rfl
def Nc:(PL.fieldsOf 175).toList=[{ name:= "low",type:=3,offset:=0,embedded:=false,tag:= "",pkgPath:= "nock/field",byteOffset:=0 },{ name:= "high",type:=3,offset:=1,embedded:=false,tag:= "",pkgPath:= "nock/field",byteOffset:=8 }]:=by kernel_rfl
def Q1:PL.underlying 175=some (.struct (PL.fieldsOf 175)):=by kernel_rfl
def afg(x y:Int×Int)(w:World):(Op.equal 175 (jc x) (jc y)).run PL w=.ok (decide (x=y)) w:=by
 obtain⟨a,b⟩:=x;obtain⟨c,d⟩:=y;have e:=run_equalIn_struct (P:=PL) w 9999 175 #[.int .i64 a,.int .i64 b] #[.int .i64 c,.int .i64 d] Q1 Q0;show(Op.equalIn (9999+1) 175 _ _).run PL w=_;rw[show jc (a,b)=.agg #[.int .i64 a,.int .i64 b] from rfl,show jc (c,d)=.agg #[.int .i64 c,.int .i64 d] from rfl,e,Nc];have f:∀(m n:Int)(w:World),(Op.equalIn 9999 3 (.int .i64 m) (.int .i64 n)).run PL w=.ok (m==n) w:=λm n w=>run_equalIn_int w 9998 3 .i64 .i64 m n aaj;generalize 9999=N at f;by_cases g:a=c<;>by_cases h:b=d<;>simp[Op.eqFields,part,f,g,h]
def Q4(b:Bool)(x:Int×Int)(w:World):(bL b 10000 175 (jc x)).run PL w=.ok () w:=by
 obtain⟨a,c⟩:=x;show(bL b (9999+1) 175 (.agg #[.int .i64 a,.int .i64 c])).run PL w=_;have d:∀(m:Int)(w:World),(bL b 9999 3 (.int .i64 m)).run PL w=.ok () w:=λm w=>by
  show(bL b (9998+1) 3 _).run PL w=_;generalize 9998=n;simp[bL]
 generalize 9999=n at d;simp[bL,part,d]
def HH:KeyLaw PL 175 jc where
 check:=Q4
 find es a x w b:=by
  cases es with
  |nil=>
   cases a with
   |nil=>exact⟨none,by simp[bM,bT],λh=>absurd h (by simp),λ_=>rfl⟩
   |cons _ _=>simp at b
  |cons e es=>
   cases a with
   |nil=>simp at b
   |cons y a=>
    obtain⟨r,c,d,f⟩:=yj (P:=PL) (tk:=175) (enc:=jc) afg x (e::es) (y::a) 0 w b;have g:bT (TypeDesc.struct (PL.fieldsOf 175)) (jc x) (e::es) 0=none:=by
     simp[bT,bR]
    have i:(ac 175).run PL w=.ok (.struct (PL.fieldsOf 175)) w:=run_underlying Q1 w;refine⟨r,?_,d,f⟩;unfold bM;rw[Sem.run_bind,i];simp only[Result.andThen_ok,g];exact c
end Go.Proofs
namespace Go.Proofs
open Go.RowKit
set_option maxRecDepth 100000
set_option maxHeartbeats 400000
def jd(l p:Int):Int:=if bO l 1 999&&bO p 1 6 then 0 else 1
def Em(l p:Int)(v2 v3 a v5:Value)(w:World) :
 Calls PL 81 #[.agg #[.int .i64 l,.int .i64 p,v2,v3,a,v5]] w (aO (.int .i64 (jd l p)) w):=by
 go_enter (fx (by decide) aH),Tryz.ntmps81
 go_wp2_with (go_at_call 78;refine(bG _ _ _ _).mono ?_;rintro e w'⟨rfl,rfl⟩)
 all_goals
  go_ret
  refine⟨?_,(bg _ _).alloc (bl _) _⟩
  simp_all [jd]
def kQ(l p n:Int)(v2 v3 a v5:Value)(w:World)(b:1<=p)(c:p<=6) :
 Calls PL 131 #[.agg #[.int .i64 l,.int .i64 p,v2,v3,a,v5],.int .i64 n] w (aO (.bool (bO n 0 (p-1))) w):=by
 go_enter (fx (by decide) a6),Tryz.ntmps131
 go_wp2_with (go_at_call 78;refine(bG _ _ _ _).mono ?_;rintro e w'⟨rfl,rfl⟩)
 go_ret
 exact⟨rfl,(bg _ _).alloc (bl _) _⟩
def eB(a b:Int):Int×Int:=(min a b,max a b)
def yl(a b c:Int)(w:World):Calls PL 132 #[.agg #[.int .i64 a,.int .i64 b,.int .i64 c]] w (aO (jc (eB a b)) w):=by
 go_enter (fx (by decide) a7),Tryz.ntmps132
 go_wp2
 all_goals
  refine bodyPost_ret (v:=jc (eB a b)) ?_ rfl ⟨rfl,((bg _ _).alloc (bl _) _).alloc (by simp) _⟩;have e:eB a b=(min a b,max a b):=rfl;simp[results,Tryz.results132,go_sem,jc,e];omega
def jv(s:ByteArray)(k:Nat):Nat:=if h:k<s.size then(s[k]'h).toNat else 0
def wA(c:Int)(k:Nat):Bool:=bO c 97 122||(!decide (k=0)&&bO c 48 57)
def ku(s:ByteArray):Bool:=((bs s.size).all λi=>wA (jv s i) i)&&bO s.size 1 12
def U7(w:World)(s:ByteArray)(k:Nat)(h:k<s.size):∃c k':Nat,c<=2147483647/\k<k'/\wA c k=wA (jv s k) k/\(wA c k=true->k'=k+1)/\
 ∀ty,(Instr.next (.pointer (some ⟨w.heap.size,0,none⟩)) true ty).run PL (w.iter s k)=.ok (.tuple #[.bool true,.int .i64 k,.int .i32 c]) (w.iter s k'):=by
 have a:jv s k=(s[k]'h).toNat:=by simp[jv,h]
 by_cases d:(s[k]'h).toNat<128
 ·exact⟨_,k+1,by omega,by omega,by rw[a],λ_=>rfl,λty=>run_next_ascii w s k ty h d⟩
 ·have hd:=decode_high s k h (by omega);have g:∀n:Nat,128<=n->wA n k=false:=λn i=>by
   simp only[wA,bO];have e:¬((n:Int)<=122):=by omega
   have f:¬((n:Int)<=57):=by omega
   simp[e,f]
  refine⟨(Utf8.decode s k).1,k+(Utf8.decode s k).2,decode_le s k,by omega,?_,λb=>?_,λty=>run_next_any w s k ty h⟩
  ·rw[g _ hd.1,a,g _ (by omega)]
  ·rw[g _ hd.1]at b;cases b
def qd{s:ByteArray}{k:Nat}(a:k<s.size)(h:wA (jv s k) k=false):ku s=false:=by
 have:((bs s.size).all λi=>wA (jv s i) i)=false:=by
  rw[bt];exact⟨k,List.mem_range.2 a,by rw[h];simp⟩
 simp[ku,this]
def ym(s:ByteArray)(w:World)(hs:s.size<=100):Calls PL 157 #[.string s] w (aO (.bool (ku s)) w):=by
 go_enter (fx (by decide) a9),Tryz.ntmps157
 go_wp2
 go_loopw [2] (λv wr=>∃k:Nat,k<=s.size/\v=.bool false/\wr=w.iter s k/\∀j,j<k->wA (jv s j) j=true) (λ_ wr=>s.size-wr.iterPos w.heap.size)
 case atStart=>exact⟨0,bm _,rfl,rfl,λj a=>absurd a (bo _)⟩
 case round=>
  obtain⟨k,r,rfl,rfl,o⟩:=hrel;have l:=bC o;clear o;by_cases b:k<s.size
  ·obtain⟨c,k',hc,t,p,d,m⟩:=U7 w s k b;have f:=bC p;have q:=bC d;clear p d
   go_wp2_with (go_at_call 78;refine(bG _ _ _ _).mono ?_;rintro e w'⟨rfl,rfl⟩)
   ·have hb:bO (↑c) 97 122=true:=by assumption
    have hg:wA (↑c) k=true:=by simp[wA,hb]
    have zz:=q.out hg;clear m;subst zz
    exact⟨⟨k+1,b,rfl,rfl,λj a=>by
     rcases Nat.lt_succ_iff_lt_or_eq.1 a with h|h
     ·exact l.out j h
     ·rw[h,<-f.out];exact hg⟩,by simp;omega⟩
   ·have hb:¬bO (↑c) 97 122=true:=by assumption
    have g:k=0:=by assumption
    have hg:wA (↑c) k=false:=by simp[wA,hb,g]
    go_ret
    refine⟨?_,(bg _ _).alloc (bl _) _⟩;rw[qd b (by rw[<-f.out];exact hg)];rfl
   ·have hb:¬bO (↑c) 97 122=true:=by assumption
    have g:¬k=0:=by assumption
    have n:((k:Int)==0)=true\/(!bO (↑c) 48 57)=true:=by assumption
    have hg:wA (↑c) k=false:=by
     rcases n with h|h
     ·simp at h;omega
     ·simp at h;simp[wA,hb,h]
    go_ret
    refine⟨?_,(bg _ _).alloc (bl _) _⟩;rw[qd b (by rw[<-f.out];exact hg)];rfl
   ·have g:¬k=0:=by assumption
    have hand:((k:Int)==0)=false/\(!bO (↑c) 48 57)=false:=by assumption
    have hg:wA (↑c) k=true:=by
     have:=hand.2;simp at this;simp[wA,this,g]
    have zz:=q.out hg;clear m;subst zz
    exact⟨⟨k+1,b,rfl,rfl,λj a=>by
     rcases Nat.lt_succ_iff_lt_or_eq.1 a with h|h
     ·exact l.out j h
     ·rw[h,<-f.out];exact hg⟩,by simp;omega⟩
  ·have m:=λty=>run_next_end (P:=PL) w s k ty b;obtain rfl:k=s.size:=by omega
   go_wp2_with (go_at_call 78;refine(bG _ _ _ _).mono ?_;rintro e w'⟨rfl,rfl⟩)
   go_ret
   refine⟨?_,(bg _ _).alloc (bl _) _⟩;have:((bs s.size).all λi=>wA (jv s i) i)=true:=by
    rw[bv];intro j a;exact l.out j (List.mem_range.1 a)
   simp[ku,this]
abbrev yo:ByteArray->Value:=λs=>.string s
abbrev Nd:Int->Value:=λn=>.int .i64 n
structure nP(b:Nat)(w w':World):Prop where
 os:w'.os=w.os
 tape:w'.tape=w.tape
 output:w'.output=w.output
 size:w.heap.size<=w'.heap.size
 block:∀c,c<w.heap.size->c≠b->w'.heap[c]?=w.heap[c]?
def nP.below{b B:Nat}{w w':World}(h:nP b w w')(a:B<=b)(hs:B<=w.heap.size):Below B w w':=⟨h.os,h.tape,h.output,h.size,λk c=>h.block k (by omega) (by omega)⟩
def nP.En{b:Nat}{w w':World}(h:Below w.heap.size w w'):nP b w w':=⟨h.os,h.tape,h.output,h.size,λc hc _=>h.block c hc⟩
def nP.then{b:Nat}{w w1 w2:World}(h:Below w.heap.size w w1)(k:gv w1 w2 b):nP b w w2:=⟨k.os.trans h.os,k.tape.trans h.tape,k.output.trans h.output,by rw[k.size];exact h.size,λc hc hb=>(k.block c hb).trans (h.block c hc)⟩
def nP.cell{b:Nat}{w w':World}(h:nP b w w'){a:Addr}(c:a.block<w.heap.size)(hb:a.block≠b):w'.cell? a=w.cell? a:=World.cell?_of_block (w:=w) (h.block a.block c hb)
def nP.Xm{b c:Nat}{w w':World}(h:nP b w w'){a:Type}{enc:a->Value}{l:List a}(k:aU w enc c l)(hc:c≠b):aU w' enc c l:=by
 obtain⟨es,q,d,e⟩:=k;exact⟨es,q,(h.block c (Array.getElem?_eq_some_iff.1 d).1 hc).trans d,e⟩
def aG{c:Nat}{w w':World}(h:Below w.heap.size w w'){a:Type}{enc:a->Value}{l:List a}(k:aU w enc c l):aU w' enc c l:=by
 obtain⟨es,q,b,d⟩:=k;exact⟨es,q,(h.block c (Array.getElem?_eq_some_iff.1 b).1).trans b,d⟩
def aU.lt{c:Nat}{w:World}{a:Type}{enc:a->Value}{l:List a}(k:aU w enc c l):c<w.heap.size:=by
 obtain⟨es,q,b,d⟩:=k;exact(Array.getElem?_eq_some_iff.1 b).1
def iH(s:ByteArray)(l:List ByteArray):Int:=if ku s then(if s∈l then 5 else 0) else 4
def U8(b:Nat)(s:ByteArray)(l:List ByteArray)(w:World)(e:Ending)(w':World):Prop:=
 e=.returned (.int .i64 (iH s l))/\nP b w w'/\aU w' yo b (if iH s l=0 then l++[s] else l)
def Eo{s:ByteArray}(h:ku s=true)(w:World)(hs:s.size<=100):Calls PL 157 #[.string s] w (aO (.bool true) w):=by
 have:=ym s w hs;rwa[h]at this
def Q5{s:ByteArray}(h:ku s=false)(w:World)(hs:s.size<=100):Calls PL 157 #[.string s] w (aO (.bool false) w):=by
 have:=ym s w hs;rwa[h]at this
def wB(b:Nat)(s:ByteArray)(l:List ByteArray)(w:World)(h:aU w yo b l)(hs:s.size<=100):Calls PL 133 #[.map (some b),.string s] w (U8 b s l w):=by
 by_cases f:ku s=true
 ·have c:=bC f;clear f;by_cases g:s∈l
  ·have d:=bC g;clear g
   go_enter (fx (by decide) a8),bb
   go_wp2_with (first|(go_at_call 157;refine(Eo c.out _ hs).mono ?_;rintro e w1⟨rfl,a⟩)|(at_lookup;refine aR (enc:=yo) _ rfl _ _ 178 9 4 rfl aak Hy (mq _) b l rfl (aG a h) s rfl true (by simpa using d.out) ?_))
   go_ret
   have e:iH s l=5:=by simp[iH,c.out,d.out]
   exact⟨by rw[e];rfl,.En a,by rw[e];exact aG a h⟩
  ·have d:=bC g;clear g
   go_enter (fx (by decide) a8),bb
   go_wp2_with (first|(go_at_call 157;refine(Eo c.out _ hs).mono ?_;rintro e w1⟨rfl,a⟩)|(at_lookup;refine aR (enc:=yo) _ rfl _ _ 178 9 4 rfl aak Hy (mq _) b l rfl (aG a h) s rfl false (by simpa using d.out) ?_)|(at_mapUpdate;refine dH (enc:=yo) _ rfl _ _ _ 178 9 4 rfl aak Hy b l rfl (aG a h) s rfl rfl d.out ?_;intro w2 i j))
   go_ret
   have e:iH s l=0:=by simp[iH,c.out,d.out]
   exact⟨by rw[e];rfl,.then a j,by rw[e];exact i⟩
 ·have c:=bC (aV f);clear f
  go_enter (fx (by decide) a8),bb
  go_wp2_with (go_at_call 157;refine(Q5 c.out _ hs).mono ?_;rintro e w1⟨rfl,a⟩)
  go_ret
  have e:iH s l=4:=by simp[iH,c.out]
  exact⟨by rw[e];rfl,.En a,by rw[e];exact aG a h⟩
set_option maxHeartbeats 1000000
def cW{W w1:World}(hb:Below W.heap.size W w1):(∀b o,b<W.heap.size->w1.cell? ⟨b,o,none⟩=W.cell? ⟨b,o,none⟩)/\(∀b o,b<W.heap.size->w1.frozen? ⟨b,o,none⟩=W.frozen? ⟨b,o,none⟩):=
 ⟨λb o h=>hb.cell (p:=⟨b,o,none⟩) h,λb o h=>hb.frozen (p:=⟨b,o,none⟩) h⟩
def au(w:World)(o:Obj):(w.alloc o).heap[w.heap.size]?=some o:=by
 show(w.heap.push _)[w.heap.size]?=_;simp
def bf{w:World}{k:Nat}{x0 x1 x2 x3 x4 a:Value}{t:ab}(h:w.heap[k]?=some (.cells #[x0,x1,x2,x3,x4,a] t)) :
 w.cell? ⟨k,0,none⟩=some x0/\w.cell? ⟨k,1,none⟩=some x1/\w.cell? ⟨k,2,none⟩=some x2/\w.cell? ⟨k,3,none⟩=some x3/\w.cell? ⟨k,4,none⟩=some x4/\w.cell? ⟨k,5,none⟩=some a:=by
 simp[World.cell?,h]
def ia:Nat->(Nat->Int)->Int
 |0,_=>0
 |n+1,f=>if ia n f=0 then f n else ia n f
def cz{n:Nat}{f:Nat->Int}(h:∀j,j<n->f j=0):ia n f=0:=by
 induction n with
 |zero=>rfl
 |succ n a=>simp only[ia];rw[a λj b=>h j (by omega),if_pos rfl,h n (by omega)]
def eG{n m:Nat}{f:Nat->Int}(h:∀j,j<m->f j=0)(b:m<n)(hf:f m≠0):ia n f=f m:=by
 induction n with
 |zero=>omega
 |succ n a=>
  simp only[ia];by_cases e:m=n
  ·subst e;rw[cz h,if_pos rfl]
  ·rw[a (by omega),if_neg hf]
def fQ(p:Int)(x:Nat->Int×Int×Int)(i:Nat):Int:=
 if bO (x i).1 0 (p-1)&&bO (x i).2.1 0 (p-1) then
  (if(x i).1=(x i).2.1 then 8 else if bO (x i).2.2 1 999 then(if eB (x i).1 (x i).2.1∈(bs i).map (λj=>eB (x j).1 (x j).2.1) then 5 else 0) else 1)
 else 6
def kz(p:Int)(n:Nat)(x:Nat->Int×Int×Int):Int:=if 9<n then 2 else ia n (fQ p x)
def Below.on{w W w1:World}(h:Below w.heap.size w W)(k:Below W.heap.size W w1):Below w.heap.size w w1:=h.trans (k.mono h.size)
def dh{p:Int}{n m:Nat}{x:Nat->Int×Int×Int}{v:Int}(hb:¬9<n)(a:∀j,j<m->fQ p x j=0)(b:m<n)(hf:fQ p x m=v)(hv:v≠0):kz p n x=v:=by
 rw[kz,if_neg hb,eG a b (by rw[hf];exact hv),hf]
def aC{k:IntKind}{a b:Int}(h:b=a):Ending.returned (.int k a)=.returned (.int k b):=by rw[h]
def Nf(l p:Int)(b:Option Addr)(k o n c:Nat)(x:Nat->Int×Int×Int)(v2 A v5:Value)(w:World)(Y:n<=20)(F:1<=p)(H:p<=6)(B:k<w.heap.size)(hs:0<n->b=some ⟨k,o,none⟩)
 (I:∀i,i<n->w.cell? ⟨k,o+i*3,none⟩=some (.int .i64 (x i).1)) (J:∀i,i<n->w.cell? ⟨k,o+i*3+1,none⟩=some (.int .i64 (x i).2.1)) (K:∀i,i<n->w.cell? ⟨k,o+i*3+2,none⟩=some (.int .i64 (x i).2.2)) :
 Calls PL 83 #[.agg #[.int .i64 l,.int .i64 p,v2,.slice b n c,A,v5]] w (aO (.int .i64 (kz p n x)) w):=by
 have Q:=bC I;have R:=bC J;have S:=bC K;have T:=bC hs;clear I J K hs;by_cases hb:9<n
 ·go_enter (fx (by decide) aJ),bc
  go_wp2
  go_ret
  exact⟨by simp[kz,hb],(bg _ _).alloc (bl _) _⟩
 ·have U:=@run_makeMap PL
  go_enter (fx (by decide) aJ),bc
  go_wp2
  go_loopw [16] (λi wr=>∃m:Nat,m<=n/\i=.int .i64 m/\(∀j,j<m->fQ p x j=0)/\aU wr jc (w.heap.size+1) ((bs m).map (λj=>eB (x j).1 (x j).2.1))/\wr.heap[w.heap.size]?=some (.cells #[.int .i64 l,.int .i64 p,v2,.slice b n c,A,v5] 121)/\Below w.heap.size w wr) (λi _=>n-(intOf i).toNat)
  case atStart=>
   refine⟨0,bm _,rfl,λj C=>absurd C (bo _),?_,?_,?_⟩
   ·have:=aU.made (enc:=jc) (w.alloc (.cells #[.int .i64 l,.int .i64 p,v2,.slice b n c,A,v5] 121));simpa using this
   ·rw[bi _ _ _ (by simp),au]
   ·exact((bg _ _).alloc (bl _) _).alloc (by simp) _
  case round=>
   obtain⟨m,Z,rfl,L,M,N,u⟩:=hrel;have r:=bC L;have O:=bC N;clear L N;by_cases d:m<n
   ·obtain rfl:=T.out (by omega);have c0:=(u.cell (p:=⟨k,o+m*3,none⟩) B).trans (Q.out m d);have c1:=(u.cell (p:=⟨k,o+m*3+1,none⟩) B).trans (R.out m d);have c2:=(u.cell (p:=⟨k,o+m*3+2,none⟩) B).trans (S.out m d);have V:=aU.lt M;have y:w.heap.size<wr.heap.size:=by omega
    obtain⟨d0,d1,d2,d3,d4,d5⟩:=bf O.out;have g:aU (wr.alloc (.cells #[.int .i64 (x m).1,.int .i64 (x m).2.1,.int .i64 (x m).2.2] 79)) jc (w.heap.size+1) ((bs m).map (λj=>eB (x j).1 (x j).2.1)):=aU.of_heap M (bi _ _ _ V);have q:Below w.heap.size w (wr.alloc (.cells #[.int .i64 (x m).1,.int .i64 (x m).2.1,.int .i64 (x m).2.2] 79)):=u.alloc u.size _;have f:wr.heap.size<(wr.alloc (.cells #[.int .i64 (x m).1,.int .i64 (x m).2.1,.int .i64 (x m).2.2] 79)).heap.size:=by simp
    have s:=bC ((bi wr (.cells #[.int .i64 (x m).1,.int .i64 (x m).2.1,.int .i64 (x m).2.2] 79) _ y).trans O.out);by_cases z:eB (x m).1 (x m).2.1∈(bs m).map (λj=>eB (x j).1 (x j).2.1)
    ·have t:=bC z;clear z
     go_wp2_with (first|(go_at_call 131;refine(kQ _ _ _ _ _ _ _ _ F H).mono ?_;rintro e w1⟨rfl,a⟩;obtain⟨D,E⟩:=cW a;have g:=aG a g;have q:=Below.on q a;have s:=bC ((a.block _ (bq y f)).trans s.out);have f:=br f a.size)|(go_at_call 78;refine(bG _ _ _ _).mono ?_;rintro e w'⟨rfl,rfl⟩)|(go_at_call 132;refine(yl _ _ _ _).mono ?_;rintro e w1⟨rfl,a⟩;obtain⟨D,E⟩:=cW a;have g:=aG a g;have q:=Below.on q a;have s:=bC ((a.block _ (bq y f)).trans s.out);have f:=br f a.size)|(at_lookup;refine aR (enc:=jc) _ rfl _ _ 173 175 4 rfl HH Hz (mq _) (w.heap.size+1) _ rfl g (eB (x m).1 (x m).2.1) rfl true (by simpa using t.out) ?_))
     all_goals go_ret
     all_goals refine⟨?_,q⟩
     all_goals first
      |exact aC (dh (v:=6) hb r.out d (by simp_all [fQ]) (by decide))
      |exact aC (dh (v:=8) hb r.out d (by simp_all [fQ]) (by decide))
      |exact aC (dh (v:=1) hb r.out d (by simp_all [fQ]) (by decide))
      |exact aC (dh (v:=5) hb r.out d (by have:=t.out;simp_all [fQ]) (by decide))
    ·have t:=bC z;clear z
     go_wp2_with (first|(go_at_call 131;refine(kQ _ _ _ _ _ _ _ _ F H).mono ?_;rintro e w1⟨rfl,a⟩;obtain⟨D,E⟩:=cW a;have g:=aG a g;have q:=Below.on q a;have s:=bC ((a.block _ (bq y f)).trans s.out);have f:=br f a.size)|(go_at_call 78;refine(bG _ _ _ _).mono ?_;rintro e w'⟨rfl,rfl⟩)|(go_at_call 132;refine(yl _ _ _ _).mono ?_;rintro e w1⟨rfl,a⟩;obtain⟨D,E⟩:=cW a;have g:=aG a g;have q:=Below.on q a;have s:=bC ((a.block _ (bq y f)).trans s.out);have f:=br f a.size)|(at_lookup;refine aR (enc:=jc) _ rfl _ _ 173 175 4 rfl HH Hz (mq _) (w.heap.size+1) _ rfl g (eB (x m).1 (x m).2.1) rfl false (by simpa using t.out) ?_)|(at_mapUpdate;refine dH (enc:=jc) _ rfl _ _ _ 173 175 4 rfl HH Hz (w.heap.size+1) _ rfl g (eB (x m).1 (x m).2.1) rfl rfl t.out ?_;intro w2 W P))
     case roundEnd=>
      have X:fQ p x m=0:=by have:=t.out;simp_all [fQ]
      refine⟨⟨m+1,d,by go_num,λj C=>?_,?_,(P.block _ (by omega)).trans s.out,bj q (P.below (by omega))⟩,by simp[intOf];omega⟩
      ·rcases Nat.lt_succ_iff_lt_or_eq.1 C with h|h
       ·exact r.out j h
       ·rw[h];exact X
      ·rw[bx,bA];exact W
     all_goals go_ret
     all_goals refine⟨?_,q⟩
     all_goals first
      |exact aC (dh (v:=6) hb r.out d (by simp_all [fQ]) (by decide))
      |exact aC (dh (v:=8) hb r.out d (by simp_all [fQ]) (by decide))
      |exact aC (dh (v:=1) hb r.out d (by simp_all [fQ]) (by decide))
      |exact aC (dh (v:=5) hb r.out d (by have:=t.out;simp_all [fQ]) (by decide))
   ·obtain rfl:m=n:=by omega
    go_wp2
    go_ret
    exact⟨by simp[kz,hb,cz r.out],u⟩
def J2{b:Nat}{W w1:World}(h:nP b W w1):(∀c o,c<W.heap.size->c≠b->w1.cell? ⟨c,o,none⟩=W.cell? ⟨c,o,none⟩)/\(∀c(o:Nat),c<W.heap.size->c≠b->w1.frozen? ⟨c,o,none⟩=W.frozen? ⟨c,o,none⟩):=
 ⟨λc o d e=>h.cell (a:=⟨c,o,none⟩) d e,λc o d e=>World.frozen?_of_block (w:=W) (h.block c d e)⟩
def iI(np:Nat)(x:Nat->ByteArray×Int×Int)(i:Nat):Int:=
 if iH (x i).1 ((bs i).map λj=>(x j).1)=0 then
  (if bO (x i).2.1 0 (np-1) then(if(x i).2.1∈(bs i).map (λj=>(x j).2.1) then 10 else if bO (x i).2.2 0 12 then 0 else 1) else 6)
 else iH (x i).1 ((bs i).map λj=>(x j).1)
def pE(np n:Nat)(x:Nat->ByteArray×Int×Int):Int:=if 3<n then 2 else ia n (iI np x)
def ic{np n m:Nat}{x:Nat->ByteArray×Int×Int}{v:Int}(hb:¬3<n)(a:∀j,j<m->iI np x j=0)(b:m<n)(hf:iI np x m=v)(hv:v≠0):pE np n x=v:=by
 rw[pE,if_neg hb,eG a b (by rw[hf];exact hv),hf]
def HQ(l p:Int)(b z:Option Addr)(k o n c np A:Nat)(x:Nat->ByteArray×Int×Int)(v2 v3:Value)(w:World)(hn:n<=20)(MC:np<=20)(C:k<w.heap.size)(hs:0<n->b=some ⟨k,o,none⟩)(H:∀i,i<n->(x i).1.size<=100)
 (I:∀i,i<n->w.cell? ⟨k,o+i*3,none⟩=some (.string (x i).1)) (J:∀i,i<n->w.cell? ⟨k,o+i*3+1,none⟩=some (.int .i64 (x i).2.1)) (K:∀i,i<n->w.cell? ⟨k,o+i*3+2,none⟩=some (.int .i64 (x i).2.2)) :
 Calls PL 85 #[.agg #[.int .i64 l,.int .i64 p,v2,v3,.slice z np A,.slice b n c]] w (aO (.int .i64 (pE np n x)) w):=by
 have Q:=bC I;have R:=bC J;have S:=bC K;have T:=bC hs;have U:=bC H;clear I J K hs H;by_cases hb:3<n
 ·go_enter (fx (by decide) aL),bd
  go_wp2
  go_ret
  exact⟨by simp[pE,hb],(bg _ _).alloc (bl _) _⟩
 ·have V:=@run_makeMap PL
  go_enter (fx (by decide) aL),bd
  go_wp2
  go_loopw [19] (λi wr=>∃m:Nat,m<=n/\i=.int .i64 m/\(∀j,j<m->iI np x j=0)/\aU wr yo (w.heap.size+1) ((bs m).map (λj=>(x j).1))/\aU wr Nd (w.heap.size+2) ((bs m).map (λj=>(x j).2.1))/\wr.heap[w.heap.size]?=some (.cells #[.int .i64 l,.int .i64 p,v2,v3,.slice z np A,.slice b n c] 121)/\Below w.heap.size w wr) (λi _=>n-(intOf i).toNat)
  case atStart=>
   refine⟨0,bm _,rfl,λj D=>absurd D (bo _),?_,?_,?_,?_⟩
   ·have:=aU.made (enc:=yo) (w.alloc (.cells #[.int .i64 l,.int .i64 p,v2,v3,.slice z np A,.slice b n c] 121));exact aU.of_heap (by simpa using this) (bi _ _ _ (by simp))
   ·have:=aU.made (enc:=Nd) ((w.alloc (.cells #[.int .i64 l,.int .i64 p,v2,v3,.slice z np A,.slice b n c] 121)).alloc (.map #[] 0));simpa using this
   ·rw[bi _ _ _ (by simp;omega),bi _ _ _ (by simp),au]
   ·exact(((bg _ _).alloc (bl _) _).alloc (by simp) _).alloc (by simp;omega) _
  case round=>
   obtain⟨m,hm,rfl,L,W,M,N,s⟩:=hrel;have g:=bC L;have O:=bC N;clear L N;by_cases a:m<n
   ·obtain rfl:=T.out (by omega);have c0:=(s.cell (p:=⟨k,o+m*3,none⟩) C).trans (Q.out m a);have c1:=(s.cell (p:=⟨k,o+m*3+1,none⟩) C).trans (R.out m a);have c2:=(s.cell (p:=⟨k,o+m*3+2,none⟩) C).trans (S.out m a);have X:=aU.lt M;have E:w.heap.size<wr.heap.size:=by omega
    have bu:wr.heap.size≠w.heap.size+1:=by omega
    obtain⟨d0,d1,d2,d3,d4,d5⟩:=bf O.out;have t:aU (wr.alloc (.cells #[.string (x m).1,.int .i64 (x m).2.1,.int .i64 (x m).2.2] 67)) yo (w.heap.size+1) ((bs m).map (λj=>(x j).1)):=aU.of_heap W (bi _ _ _ (by omega));have r:aU (wr.alloc (.cells #[.string (x m).1,.int .i64 (x m).2.1,.int .i64 (x m).2.2] 67)) Nd (w.heap.size+2) ((bs m).map (λj=>(x j).2.1)):=aU.of_heap M (bi _ _ _ X);have q:Below w.heap.size w (wr.alloc (.cells #[.string (x m).1,.int .i64 (x m).2.1,.int .i64 (x m).2.2] 67)):=s.alloc s.size _;have u:wr.heap.size<(wr.alloc (.cells #[.string (x m).1,.int .i64 (x m).2.1,.int .i64 (x m).2.2] 67)).heap.size:=by simp
    have y:=bC ((bi wr (.cells #[.string (x m).1,.int .i64 (x m).2.1,.int .i64 (x m).2.2] 67) _ E).trans O.out);have P:=U.out m a;by_cases B:(x m).2.1∈(bs m).map (λj=>(x j).2.1)
    ·have d:=bC B;clear B
     go_wp2_with (first|(go_at_call 133;refine(wB (w.heap.size+1) _ _ _ t P).mono ?_;rintro e w1⟨rfl,f,t⟩;obtain⟨Y,Z⟩:=J2 f;have r:=f.Xm r (by omega);have q:=bj q (f.below (by omega) q.size);have y:=bC ((f.block _ (bq E u) (by omega)).trans y.out);have u:=br u f.size)|(go_at_call 78;refine(bG _ _ _ _).mono ?_;rintro e w'⟨rfl,rfl⟩)|(go_at_call 112;refine(o8 _ _).mono ?_;rintro e w'⟨rfl,rfl⟩)|(at_lookup;refine aR (enc:=Nd) _ rfl _ _ 136 3 4 rfl qz ju (mq _) (w.heap.size+2) _ rfl r (x m).2.1 rfl true (by simpa using d.out) ?_))
     all_goals go_ret
     all_goals refine⟨?_,q⟩
     all_goals first
      |exact aC (ic (v:=iH (x m).1 ((bs m).map λj=>(x j).1)) hb g.out a (by have:=d.out;simp_all [iI]) (by simp_all))
      |exact aC (ic (v:=6) hb g.out a (by have:=d.out;simp_all [iI]) (by decide))
      |exact aC (ic (v:=10) hb g.out a (by have:=d.out;simp_all [iI]) (by decide))
      |exact aC (ic (v:=1) hb g.out a (by have:=d.out;simp_all [iI]) (by decide))
    ·have d:=bC B;clear B
     go_wp2_with (first|(go_at_call 133;refine(wB (w.heap.size+1) _ _ _ t P).mono ?_;rintro e w1⟨rfl,f,t⟩;obtain⟨Y,Z⟩:=J2 f;have r:=f.Xm r (by omega);have q:=bj q (f.below (by omega) q.size);have y:=bC ((f.block _ (bq E u) (by omega)).trans y.out);have u:=br u f.size)|(go_at_call 78;refine(bG _ _ _ _).mono ?_;rintro e w'⟨rfl,rfl⟩)|(go_at_call 112;refine(o8 _ _).mono ?_;rintro e w'⟨rfl,rfl⟩)|(at_lookup;refine aR (enc:=Nd) _ rfl _ _ 136 3 4 rfl qz ju (mq _) (w.heap.size+2) _ rfl r (x m).2.1 rfl false (by simpa using d.out) ?_)|(at_mapUpdate;refine dH (enc:=Nd) _ rfl _ _ _ 136 3 4 rfl qz ju (w.heap.size+2) _ rfl r (x m).2.1 rfl rfl d.out ?_;intro w2 yp F))
     case roundEnd=>
      have e1:iH (x m).1 ((bs m).map λj=>(x j).1)=0:=by simp_all
      have e0:iI np x m=0:=by have:=d.out;simp_all [iI]
      rw[if_pos e1]at t;refine⟨⟨m+1,a,by go_num,λj D=>?_,?_,?_,(F.block _ (by omega)).trans y.out,bj q (F.below (by omega))⟩,by simp[intOf];omega⟩
      ·rcases Nat.lt_succ_iff_lt_or_eq.1 D with h|h
       ·exact g.out j h
       ·rw[h];exact e0
      ·rw[bx,bA];exact aU.of_heap t (F.block _ (by omega))
      ·rw[bx,bA];exact yp
     all_goals go_ret
     all_goals refine⟨?_,q⟩
     all_goals first
      |exact aC (ic (v:=iH (x m).1 ((bs m).map λj=>(x j).1)) hb g.out a (by have:=d.out;simp_all [iI]) (by simp_all))
      |exact aC (ic (v:=6) hb g.out a (by have:=d.out;simp_all [iI]) (by decide))
      |exact aC (ic (v:=10) hb g.out a (by have:=d.out;simp_all [iI]) (by decide))
      |exact aC (ic (v:=1) hb g.out a (by have:=d.out;simp_all [iI]) (by decide))
   ·obtain rfl:m=n:=by omega
    go_wp2
    go_ret
    exact⟨by simp[pE,hb,cz g.out],s⟩
end Go.Proofs
