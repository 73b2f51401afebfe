/- Part of the proof of FieldFlat and FieldMarshals. -/
import Derived.Test.YtmkjeaacgibnoaaGreatY29
set_option linter.all false
open Nat renaming le_of_ble_eq_true->aa,le_refl->ab,zero_le->ac,zero_add->ad
open Go.Instr renaming field->ae
open Go renaming TypeId->ag,bodyPost_ret->ai,results->ao,wpList->ap,wpList_append_own->aq
open Go.RowKit.Below renaming refl->ar
open List renaming getElem?_map->aw,getElem?_eq_getElem->aB,getD_eq_getElem?_getD->aF
open Go.Lib renaming hid->aH
open Go.Proofs renaming getElem?_lt'->aI
namespace Go.Proofs
open Go.RowKit
set_option maxRecDepth 100000
set_option maxHeartbeats 4000000
def E6{k2 f k3 c3 a g b i c ca lb e:Nat}{d:Int}{W:World}(h:(ir k2 f k3 c3 a g b i c ca lb e d).At W):W.cell? ⟨k2,0,none⟩=some (.int .i64 5)/\W.cell? ⟨k2,1,none⟩=some (.int .i64 15)/\W.cell? ⟨k2,2,none⟩=some (.int .i64 10)/\W.cell? ⟨k2,3,none⟩=some (.int .i64 18)/\W.cell? ⟨k3,0,none⟩=some (.int .i64 0)/\W.cell? ⟨k3,1,none⟩=some (.int .i64 1)/\W.cell? ⟨k3,2,none⟩=some (.int .i64 40)/\W.cell? ⟨k3,3,none⟩=some (.int .i64 1)/\W.cell? ⟨k3,4,none⟩=some (.int .i64 2)/\W.cell? ⟨k3,5,none⟩=some (.int .i64 30)/\W.cell? ⟨k3,6,none⟩=some (.int .i64 2)/\W.cell? ⟨k3,7,none⟩=some (.int .i64 3)/\W.cell? ⟨k3,8,none⟩=some (.int .i64 30)/\W.cell? ⟨k3,9,none⟩=some (.int .i64 0)/\W.cell? ⟨k3,10,none⟩=some (.int .i64 3)/\W.cell? ⟨k3,11,none⟩=some (.int .i64 80)/\W.cell? ⟨a,0,none⟩=some (.string ⟨#[97]⟩)/\W.cell? ⟨a,1,none⟩=some (.int .i64 20)/\W.cell? ⟨a,2,none⟩=some (.int .i64 20)/\W.cell? ⟨a,3,none⟩=some (.int .i64 0)/\W.cell? ⟨a,4,none⟩=some (.int .i64 12)/\W.cell? ⟨a,5,none⟩=some (.int .i64 1)/\W.cell? ⟨a,6,none⟩=some (.int .i64 1)/\W.cell? ⟨a,7,none⟩=some (.int .i64 4)/\W.cell? ⟨a,8,none⟩=some (.int .i64 6)/\W.cell? ⟨a,9,none⟩=some (.int .i64 2)/\W.cell? ⟨a,10,none⟩=some (.int .i64 3)/\W.cell? ⟨a,11,none⟩=some (.slice (some ⟨c,0,none⟩) 1 ca)/\W.cell? ⟨a,12,none⟩=some (.string ⟨#[98]⟩)/\W.cell? ⟨a,13,none⟩=some (.int .i64 13)/\W.cell? ⟨a,14,none⟩=some (.int .i64 13)/\W.cell? ⟨a,15,none⟩=some (.int .i64 5)/\W.cell? ⟨a,16,none⟩=some (.int .i64 5)/\W.cell? ⟨a,17,none⟩=some (.int .i64 0)/\W.cell? ⟨a,18,none⟩=some (.int .i64 2)/\W.cell? ⟨a,19,none⟩=some (.int .i64 4)/\W.cell? ⟨a,20,none⟩=some (.int .i64 5)/\W.cell? ⟨a,21,none⟩=some (.int .i64 3)/\W.cell? ⟨a,22,none⟩=some (.int .i64 3)/\W.cell? ⟨a,23,none⟩=some (.slice (some ⟨lb,0,none⟩) 1 e)/\W.cell? ⟨a,24,none⟩=some (.string ⟨#[99]⟩)/\W.cell? ⟨a,25,none⟩=some (.int .i64 25)/\W.cell? ⟨a,26,none⟩=some (.int .i64 25)/\W.cell? ⟨a,27,none⟩=some (.int .i64 (-7))/\W.cell? ⟨a,28,none⟩=some (.int .i64 7)/\W.cell? ⟨a,29,none⟩=some (.int .i64 1)/\W.cell? ⟨a,30,none⟩=some (.int .i64 3)/\W.cell? ⟨a,31,none⟩=some (.int .i64 5)/\W.cell? ⟨a,32,none⟩=some (.int .i64 5)/\W.cell? ⟨a,33,none⟩=some (.int .i64 2)/\W.cell? ⟨a,34,none⟩=some (.int .i64 4)/\W.cell? ⟨a,35,none⟩=some (.slice none 0 0)/\W.cell? ⟨c,0,none⟩=some (.int .i64 1)/\W.cell? ⟨lb,0,none⟩=some (.int .i64 2)/\W.cell? ⟨b,0,none⟩=some (.string ⟨#[114,101,100]⟩)/\W.cell? ⟨b,1,none⟩=some (.int .i64 0)/\W.cell? ⟨b,2,none⟩=some (.int .i64 0)/\W.cell? ⟨b,3,none⟩=some (.string ⟨#[98,108,117,101]⟩)/\W.cell? ⟨b,4,none⟩=some (.int .i64 1)/\W.cell? ⟨b,5,none⟩=some (.int .i64 d):=
 ⟨h.Ep 0 (aa rfl),h.Er 0 (aa rfl),h.Ep 1 (aa rfl),h.Er 1 (aa rfl),h.Es 0 (aa rfl),h.Et 0 (aa rfl),h.Eu 0 (aa rfl),h.Es 1 (aa rfl),h.Et 1 (aa rfl),h.Eu 1 (aa rfl),h.Es 2 (aa rfl),h.Et 2 (aa rfl),h.Eu 2 (aa rfl),h.Es 3 (aa rfl),h.Et 3 (aa rfl),h.Eu 3 (aa rfl),h.AD 0 (aa rfl),h.dB 0 (aa rfl) 1 (aa rfl) (aa rfl),h.dB 0 (aa rfl) 2 (aa rfl) (aa rfl),h.dB 0 (aa rfl) 3 (aa rfl) (aa rfl),h.dB 0 (aa rfl) 4 (aa rfl) (aa rfl),h.dB 0 (aa rfl) 5 (aa rfl) (aa rfl),h.dB 0 (aa rfl) 6 (aa rfl) (aa rfl),h.dB 0 (aa rfl) 7 (aa rfl) (aa rfl),h.dB 0 (aa rfl) 8 (aa rfl) (aa rfl),h.dB 0 (aa rfl) 9 (aa rfl) (aa rfl),h.dB 0 (aa rfl) 10 (aa rfl) (aa rfl),h.nj 0 (aa rfl),h.AD 1 (aa rfl),h.dB 1 (aa rfl) 1 (aa rfl) (aa rfl),h.dB 1 (aa rfl) 2 (aa rfl) (aa rfl),h.dB 1 (aa rfl) 3 (aa rfl) (aa rfl),h.dB 1 (aa rfl) 4 (aa rfl) (aa rfl),h.dB 1 (aa rfl) 5 (aa rfl) (aa rfl),h.dB 1 (aa rfl) 6 (aa rfl) (aa rfl),h.dB 1 (aa rfl) 7 (aa rfl) (aa rfl),h.dB 1 (aa rfl) 8 (aa rfl) (aa rfl),h.dB 1 (aa rfl) 9 (aa rfl) (aa rfl),h.dB 1 (aa rfl) 10 (aa rfl) (aa rfl),h.nj 1 (aa rfl),h.AD 2 (aa rfl),h.dB 2 (aa rfl) 1 (aa rfl) (aa rfl),h.dB 2 (aa rfl) 2 (aa rfl) (aa rfl),h.dB 2 (aa rfl) 3 (aa rfl) (aa rfl),h.dB 2 (aa rfl) 4 (aa rfl) (aa rfl),h.dB 2 (aa rfl) 5 (aa rfl) (aa rfl),h.dB 2 (aa rfl) 6 (aa rfl) (aa rfl),h.dB 2 (aa rfl) 7 (aa rfl) (aa rfl),h.dB 2 (aa rfl) 8 (aa rfl) (aa rfl),h.dB 2 (aa rfl) 9 (aa rfl) (aa rfl),h.dB 2 (aa rfl) 10 (aa rfl) (aa rfl),h.nj 2 (aa rfl),h.J5 0 (aa rfl) 0 (aa rfl),h.J5 1 (aa rfl) 0 (aa rfl),h.FI 0 (aa rfl),h.HU 0 (aa rfl),h.J6 0 (aa rfl),h.FI 1 (aa rfl),h.HU 1 (aa rfl),h.J6 1 (aa rfl)⟩
def E7(a0 a1 a2 a3 a4 a:Value)(W:World):(ae 121 (.agg #[a0,a1,a2,a3,a4,a]) 0).run PL W=.ok (.agg #[a0,a1,a2,a3,a4,a]) W:=by kernel_rfl
def Ky(a0 a1 a2 a3 a4 a:Value)(W:World):(ae 27 (.agg #[a0,a1,a2,a3,a4,a]) 0).run PL W=.ok (a0) W:=by kernel_rfl
def Kz(a0 a1 a2 a3 a4 a:Value)(W:World):(ae 27 (.agg #[a0,a1,a2,a3,a4,a]) 1).run PL W=.ok (a1) W:=by kernel_rfl
def KC(a0 a1 a2 a3 a4 a:Value)(W:World):(ae 27 (.agg #[a0,a1,a2,a3,a4,a]) 2).run PL W=.ok (a2) W:=by kernel_rfl
def KF(a0 a1 a2 a3 a4 a:Value)(W:World):(ae 27 (.agg #[a0,a1,a2,a3,a4,a]) 3).run PL W=.ok (a3) W:=by kernel_rfl
def KG(a0 a1 a2 a3 a4 a:Value)(W:World):(ae 27 (.agg #[a0,a1,a2,a3,a4,a]) 4).run PL W=.ok (a4) W:=by kernel_rfl
def KH(a0 a1 a2 a3 a4 a:Value)(W:World):(ae 27 (.agg #[a0,a1,a2,a3,a4,a]) 5).run PL W=.ok (a) W:=by kernel_rfl
def KL(a0 a1 a2 a3 a4 a b c d e f g:Value)(W:World):(ae 73 (.agg #[a0,a1,a2,a3,a4,a,b,c,d,e,f,g]) 0).run PL W=.ok (a0) W:=by kernel_rfl
def KM(a0 a1 a2 a3 a4 a b c d e f g:Value)(W:World):(ae 73 (.agg #[a0,a1,a2,a3,a4,a,b,c,d,e,f,g]) 1).run PL W=.ok (.agg #[a1,a2]) W:=by kernel_rfl
def KN(a0 a1 a2 a3 a4 a b c d e f g:Value)(W:World):(ae 73 (.agg #[a0,a1,a2,a3,a4,a,b,c,d,e,f,g]) 2).run PL W=.ok (.agg #[a3,a4]) W:=by kernel_rfl
def KS(a0 a1 a2 a3 a4 a b c d e f g:Value)(W:World):(ae 73 (.agg #[a0,a1,a2,a3,a4,a,b,c,d,e,f,g]) 3).run PL W=.ok (a) W:=by kernel_rfl
def KU(a0 a1 a2 a3 a4 b a c d e f g:Value)(W:World):(ae 73 (.agg #[a0,a1,a2,a3,a4,b,a,c,d,e,f,g]) 4).run PL W=.ok (a) W:=by kernel_rfl
def KV(a0 a1 a2 a3 a4 c d a b e f g:Value)(W:World):(ae 73 (.agg #[a0,a1,a2,a3,a4,c,d,a,b,e,f,g]) 5).run PL W=.ok (.agg #[a,b]) W:=by kernel_rfl
def KW(a0 a1 a2 a3 a4 c d e f a b g:Value)(W:World):(ae 73 (.agg #[a0,a1,a2,a3,a4,c,d,e,f,a,b,g]) 6).run PL W=.ok (.agg #[a,b]) W:=by kernel_rfl
def KX(a0 a1 a2 a3 a4 b c d e f g a:Value)(W:World):(ae 73 (.agg #[a0,a1,a2,a3,a4,b,c,d,e,f,g,a]) 7).run PL W=.ok (a) W:=by kernel_rfl
def KY(a0 a1 a2:Value)(W:World):(ae 67 (.agg #[a0,a1,a2]) 0).run PL W=.ok (a0) W:=by kernel_rfl
def KZ(a0 a1 a2:Value)(W:World):(ae 67 (.agg #[a0,a1,a2]) 1).run PL W=.ok (a1) W:=by kernel_rfl
def La(a0 a1 a2:Value)(W:World):(ae 67 (.agg #[a0,a1,a2]) 2).run PL W=.ok (a2) W:=by kernel_rfl
def Lb(a0 a1:Value)(W:World):(ae 35 (.agg #[a0,a1]) 0).run PL W=.ok (a0) W:=by kernel_rfl
def Lc(a0 a1:Value)(W:World):(ae 35 (.agg #[a0,a1]) 1).run PL W=.ok (a1) W:=by kernel_rfl
def Ld(a0 a1 a2:Value)(W:World):(ae 79 (.agg #[a0,a1,a2]) 0).run PL W=.ok (a0) W:=by kernel_rfl
def Lg(a0 a1 a2:Value)(W:World):(ae 79 (.agg #[a0,a1,a2]) 1).run PL W=.ok (a1) W:=by kernel_rfl
def Lh(a0 a1 a2:Value)(W:World):(ae 79 (.agg #[a0,a1,a2]) 2).run PL W=.ok (a2) W:=by kernel_rfl
def Xu(a:Addr)(n c:Nat)(W:World):(binOp .eql 22 (.slice (some a) n c) (.slice none 0 0)).run PL W=.ok (.bool false) W:=by kernel_rfl
def Xv(a:Addr)(n c:Nat)(W:World):(binOp .eql 23 (.slice (some a) n c) (.slice none 0 0)).run PL W=.ok (.bool false) W:=by kernel_rfl
def Xw(a:Addr)(n c:Nat)(W:World):(binOp .eql 24 (.slice (some a) n c) (.slice none 0 0)).run PL W=.ok (.bool false) W:=by kernel_rfl
def Xx(a:Addr)(n c:Nat)(W:World):(binOp .eql 25 (.slice (some a) n c) (.slice none 0 0)).run PL W=.ok (.bool false) W:=by kernel_rfl
def Xy(a:Addr)(n c:Nat)(W:World):(binOp .eql 42 (.slice (some a) n c) (.slice none 0 0)).run PL W=.ok (.bool false) W:=by kernel_rfl
def Xz(W:World):(binOp .eql 42 (.slice none 0 0) (.slice none 0 0)).run PL W=.ok (.bool true) W:=by kernel_rfl
def E8:nS.ntmps=193:=rfl
def je:List Int:=[0,0,0,4,6,1,6,9,10,14,2,13,17,18,22,0,0,0,0,0,0,0,0,0,0,0,14,17,18,23,1,0,0,4,5,2,7,8,12,13,0,0,0,0,0,0,0,0,0,0,0,0,0,0,0,0,0,0,0,0,0,0,0,0,0,0,0,0,0,0,0,0,0,0,0]
def RJ:List Int:=[0,0,0,4,6,1,6,9,10,14,2,13,17,18,22,0,0,0,0,0,0,0,0,0,0,0,15,18,19,24,1,1,1,5,6,2,8,9,13,14,0,0,0,0,0,0,0,0,0,0,0,0,0,0,0,0,0,0,0,0,0,0,0,0,0,0,0,0,0,0,0,0,0,0,0]
def mC(d:Int):List Int:=if d=0 then je else RJ
def Row.ofl{W:World}{k:Nat}{c:Array Value}{t:ag}{l:List Value}(h:W.heap[k]?=some (.cells c t))(e:c.toList=l):Row W k l:=Row.of h λj v hv=>by rw[<-e]at hv;simpa using hv
def Nr{k2 a k3 c3 b c d f g ca lb i:Nat}(w:World)(h:(ir k2 a k3 c3 b c d f g ca lb i 0).At w):Calls PL 98 #[.agg (ir k2 a k3 c3 b c d f g ca lb i 0).val] w λe w'=>∃k,e=.returned (.pointer (some ⟨k,0,none⟩))/\Row w' k (je.map bh)/\Below w.heap.size w w':=by
 obtain⟨j,l,zm,zM,m,n,o,p,q,Vv,r,s,t,u,x,y,z,A,B,C,D,E,F,H,I,J,K,L,M,N,O,P,Q,R,S,T,U,V,W,X,Ep,Er,Y,Z,c24,c25,c26,c27,c28,c29,aly,alz,l0,l1,g00,g01,g02,g10,g11,g12⟩:=E6 h;clear h;simp only[ir,CD.val]
 go_enter Cc,E8
 simp only[nS,sU,aS,aD];have q0:=E7;have q1:=Ky;have q2:=Kz;have q3:=KC;have q4:=KF;have q5:=KG;have q6:=KH;have q7:=KL;have q8:=KM;have q9:=KN;have q10:=KS;have q11:=KU;have q12:=KV;have q13:=KW;have q14:=KX;have q15:=KY;have q16:=KZ;have q17:=La;have q18:=Lb;have q19:=Lc;have q20:=Ld;have q21:=Lg;have q22:=Lh;have q23:=Xu;have q24:=Xv;have q25:=Xw;have q26:=Xx;have q27:=Xy;have q28:=Xz
 go_wp2
 refine ai (v:=.pointer (some ⟨w.heap.size,0,none⟩)) ?_ rfl ⟨w.heap.size,rfl,Row.ofl (au _ _) rfl,(ar _ _).alloc (ab _) _⟩;simp[ao,Tryz.results98,go_sem]
def Ns{k2 a k3 c3 b c d f g ca lb i:Nat}(w:World)(h:(ir k2 a k3 c3 b c d f g ca lb i 1).At w):Calls PL 98 #[.agg (ir k2 a k3 c3 b c d f g ca lb i 1).val] w λe w'=>∃k,e=.returned (.pointer (some ⟨k,0,none⟩))/\Row w' k (RJ.map bh)/\Below w.heap.size w w':=by
 obtain⟨j,l,zm,zM,m,n,o,p,q,Vv,r,s,t,u,x,y,z,A,B,C,D,E,F,H,I,J,K,L,M,N,O,P,Q,R,S,T,U,V,W,X,Ep,Er,Y,Z,c24,c25,c26,c27,c28,c29,aly,alz,l0,l1,g00,g01,g02,g10,g11,g12⟩:=E6 h;clear h;simp only[ir,CD.val]
 go_enter Cc,E8
 simp only[nS,sU,aS,aD];have q0:=E7;have q1:=Ky;have q2:=Kz;have q3:=KC;have q4:=KF;have q5:=KG;have q6:=KH;have q7:=KL;have q8:=KM;have q9:=KN;have q10:=KS;have q11:=KU;have q12:=KV;have q13:=KW;have q14:=KX;have q15:=KY;have q16:=KZ;have q17:=La;have q18:=Lb;have q19:=Lc;have q20:=Ld;have q21:=Lg;have q22:=Lh;have q23:=Xu;have q24:=Xv;have q25:=Xw;have q26:=Xx;have q27:=Xy;have q28:=Xz
 go_wp2
 refine ai (v:=.pointer (some ⟨w.heap.size,0,none⟩)) ?_ rfl ⟨w.heap.size,rfl,Row.ofl (au _ _) rfl,(ar _ _).alloc (ab _) _⟩;simp[ao,Tryz.results98,go_sem]
def tA{d:Int}{C:CD}{w:World}(hd:d=0\/d=1)(a:VB d C)(h:C.At w):Calls PL 98 #[.agg C.val] w λe w'=>∃k,e=.returned (.pointer (some ⟨k,0,none⟩))/\Row w' k ((mC d).map bh)/\Below w.heap.size w w':=by
 obtain⟨k2,b,k3,c3,c,f,g,i,j,l,m,n,rfl⟩:=a
 rcases hd with rfl|rfl
 ·exact Nr w h
 ·exact Ns w h
def kU(L:List Int)(p:Nat)(m:Int):Nat->Nat->Bool->Int
 |0,_,can=>Ej can true
 |k+1,g,can=>if bO m (L.getD (g*25+p*5+2) 0) (L.getD (g*25+p*5+3) 0-1) then 1 else kU L p m k (g+1) (can||bO m (L.getD (g*25+p*5+1) 0) (L.getD (g*25+p*5+4) 0-1))
structure Ir(L:List Int):Prop where
 len:L.length=75
 lo:∀j,-10000<=L.getD j 0
 hi:∀j,L.getD j 0<=10000
def Row.getD{W:World}{k:Nat}{L:List Int}(h:Row W k (L.map bh)){j:Nat}(a:j<L.length):W.cell? ⟨k,j,none⟩=some (.int .i64 (L.getD j 0)):=
 h.2 j _ (by rw[aw,aB a,aF,aB a];rfl)
def Fa(C:CD)(k p:Nat)(m:Int)(L:List Int)(t:Ir L)(w:World)(u:Row w k (L.map bh))(U:C.n5<=3)(V:p<5) :
 Calls PL 99 #[.agg C.val,.pointer (some ⟨k,0,none⟩),.int .i64 p,.int .i64 m] w (aO (.int .i64 (kU L p m C.n5 0 false)) w):=by
 have H:=aH u;have a:=aH t;clear u t;have I:(p:Int)<5:=by omega
 go_enter (fx (by decide) Tryz.func99),Tryz.ntmps99
 go_wp2
 obtain⟨l,n⟩:∃l:World,l=w.alloc (.cells C.val 121):=⟨_,rfl⟩
 have v:l.heap[w.heap.size]?=some (.cells C.val 121):=by rw[n];exact au _ _
 have y:Below w.heap.size w l:=by rw[n];exact(ar _ _).alloc (ab _) _
 rw[<-n];clear n;have J:=aH v;have o:=aH y;clear v y
 go_loopw [9,16] (λK b wr=>∃(g:Nat)(can:Bool),g<=C.n5/\b=.int .i64 g/\K=.bool can/\kU L p m C.n5 0 false=kU L p m (C.n5-g) g can/\wr.heap[w.heap.size]?=some (.cells C.val 121)/\Below w.heap.size w wr) (λ_ b _=>C.n5-(intOf b).toNat)
 case atStart=>exact⟨0,false,ac _,rfl,rfl,rfl,J.out,o.out⟩
 case round=>
  obtain⟨g,can,hg,rfl,rfl,z,A,i⟩:=hrel;have E:=aH z;have B:=aH A;clear z A;by_cases M:g<C.n5
  ·have W:(g:Int)<C.n5:=by omega
   have X:(g:Int)<3:=by omega
   have c:=H.out.on i;have N:wr.cell? ⟨k,g*25+p*5,none⟩=some (.int .i64 (L.getD (g*25+p*5) 0)):=c.getD (by rw[a.out.len];omega);have t1:wr.cell? ⟨k,g*25+p*5+1,none⟩=some (.int .i64 (L.getD (g*25+p*5+1) 0)):=c.getD (by rw[a.out.len];omega);have t2:wr.cell? ⟨k,g*25+p*5+2,none⟩=some (.int .i64 (L.getD (g*25+p*5+2) 0)):=c.getD (by rw[a.out.len];omega);have O:wr.cell? ⟨k,g*25+p*5+3,none⟩=some (.int .i64 (L.getD (g*25+p*5+3) 0)):=c.getD (by rw[a.out.len];omega);have P:wr.cell? ⟨k,g*25+p*5+4,none⟩=some (.int .i64 (L.getD (g*25+p*5+4) 0)):=c.getD (by rw[a.out.len];omega);have Q:=a.out.lo (g*25+p*5+3);have q:=a.out.hi (g*25+p*5+3);have R:=a.out.lo (g*25+p*5+4);have r:=a.out.hi (g*25+p*5+4);have S:=c.1;have es:C.n5-g=(C.n5-(g+1))+1:=by omega
   have T:=aH es;clear c es;obtain⟨x1,d⟩:∃x,x=L.getD (g*25+p*5+1) 0:=⟨_,rfl⟩
   obtain⟨x2,s⟩:∃x,x=L.getD (g*25+p*5+2) 0:=⟨_,rfl⟩
   obtain⟨x3,f⟩:∃x,x=L.getD (g*25+p*5+3) 0:=⟨_,rfl⟩
   obtain⟨x4,h⟩:∃x,x=L.getD (g*25+p*5+4) 0:=⟨_,rfl⟩
   obtain⟨x0,D⟩:∃x,x=L.getD (g*25+p*5) 0:=⟨_,rfl⟩
   rw[<-D]at N;rw[<-d]at t1;rw[<-s]at t2;rw[<-f]at O Q q;rw[<-h]at P R r;have F:Hid (kU L p m C.n5 0 false=if bO m x2 (x3-1) then 1 else kU L p m (C.n5-(g+1)) (g+1) (can||bO m x1 (x4-1))):=aH (by rw[E.out,T.out,kU,<-d,<-s,<-f,<-h]);clear D d s f h;by_cases hy:bO m x2 (x3-1)=true
   ·have j:=aH hy;clear hy
    go_wp2_with (go_at_call 78;refine(rM j.out _).mono ?_;rintro e w'⟨rfl,rfl⟩)
    go_ret
    exact⟨aC (by rw[F.out,if_pos j.out]),i.alloc i.size _⟩
   ·have j:=aH (aV hy);clear hy E;cases can
    all_goals (
     go_wp2_with (first|(go_at_call 78;(with_reducible refine(yG j.out _).mono ?_);rintro e w'⟨rfl,rfl⟩)|(go_at_call 78;refine(ij _ _ _ _).mono ?_;rintro e w'⟨rfl,rfl⟩))
     refine⟨⟨g+1,_,M,by go_num,rfl,?_,(((ar wr.heap.size wr).alloc (ab _) _).block _ (aI B.out)).trans B.out,i.alloc i.size _⟩,by simp only[intOf];omega⟩;rw[F.out,if_neg (by simp[j.out])]
     rfl)
  ·obtain rfl:g=C.n5:=by omega
   have fin:Hid (kU L p m C.n5 0 false=Ej can true):=aH (by rw[E.out,Nat.sub_self,kU]);clear E
   go_wp2_with (go_at_call 96;refine(yH _ _ _).mono ?_;rintro e w'⟨rfl,rfl⟩)
   go_ret
   exact⟨aC fin.out,i⟩
def Cs(m:Int)(w:World):Calls PL 97 #[.int .i64 m] w λe w'=>e=.returned (.bool (bO m 0 999))/\w=w':=by
 go_enter (fx (by decide) Tryz.func97),Tryz.ntmps97
 go_wp2_with (go_at_call 78;refine(ij _ _ _ _).mono ?_;rintro e w'⟨rfl,rfl⟩)
 go_ret
 exact⟨rfl,rfl⟩
def yO{m:Int}(h:bO m 0 999=true)(w:World):Calls PL 97 #[.int .i64 m] w λe w'=>e=.returned (.bool true)/\w=w':=by
 have:=Cs m w;rwa[h]at this
def afJ:PL.underlying 54=some (.slice 38):=by kernel_rfl
def aaI:(PL.info? 38).map (λi=>(i.zero,i.size,i.bytes))=some (some (.int .i64 0),1,8):=by kernel_rfl
def eO(e:ag)(W:World)(base:Nat)(v:Value)(l:List Int):Prop:=W.ownsRow base e 1 v l.length (l.map λx=>.int .i64 x)
def eO.reads{e:ag}{W:World}{base:Nat}{v:Value}{l:List Int}(h:eO e W base v l):bB W v l:=by
 obtain⟨_,h⟩:=h
 rcases h with⟨rfl,a⟩|⟨g,cap,b,rfl,hb,hg,hc,d,hs,c⟩
 ·exact⟨none,0,by rw[a],λh=>by omega⟩
 ·refine⟨_,_,rfl,λa=>⟨g,0,rfl,aI hg,λj f=>?_⟩⟩;have e:(l.map λx=>Value.int .i64 x)[j]?=some (.int .i64 (l.getD j 0)):=by
   rw[aw,aB (by omega)];simp[aF,aB (show j<l.length by omega)]
  rw[<-c,List.getElem?_take_of_lt (by omega)]at e;simp only[World.cell?,hg,ad];simpa using e
def eO.alloc{e:ag}{W:World}{base:Nat}{v:Value}{l:List Int}(h:eO e W base v l)(o:Obj):eO e (W.alloc o) base v l:=World.ownsRow.alloc h o
def eO.on{e:ag}{W b:World}{base:Nat}{v:Value}{l:List Int}(h:eO e W base v l)(d:Below W.heap.size W b):eO e b base v l:=by
 obtain⟨c,h⟩:=h
 rcases h with h|⟨g,cap,a,e1,hb,hg,f⟩
 ·exact⟨c,.inl h⟩
 ·exact⟨c,.inr ⟨g,cap,a,e1,hb,(d.block _ (aI hg)).trans hg,f⟩⟩
def Fb{T e:ag}(f:PL.underlying T=some (.slice e))(g:(PL.info? e).map (λi=>(i.zero,i.size,i.bytes))=some (some (.int .i64 0),1,8)){ops:Array Oper}{rest:List Oper}{o:Oper}{a:Act}{Q:Exit->Act->World->Prop}{w:World}(m:o.guard=none)(s x:Operand)
 (n:o.op=.call { callee:=.builtin .append,args:=#[s,x],argTypes:=#[T,T] }) (base:Nat) (v:Value) (l:List Int) (j:Int) (b:Nat) (hs:a.eval s=v) (c:eO e w base v l)
 (p:a.eval x=.slice (some ⟨b,0,none⟩) 1 1) (hc:w.cell? ⟨b,0,none⟩=some (.int .i64 j)) (hl:l.length<=1000) (d:base<=w.heap.size)
 (h:∀v' w',eO e w' base v' (l++[j])->Below base w w'->ap PL ops Q rest (a.put o.dst v') w'):ap PL ops Q (o::rest) a w:=by
 obtain⟨q,hi,r,t,y⟩:=info_parts g;refine aq _ m s x T n base e q (.int .i64 0) 1 8 f hi r t y rfl (by decide) v l.length _ hs c ⟨b,0,none⟩ 1 1 [.int .i64 j] p rfl (λk u e=>?_) (by simp[Value.oneCell']) (by simp only[maxLen];omega) (by omega) d λv' w' z A _=>?_
 ·match k,e with
  |0,e=>cases e;exact hc
 ·refine h v' w' ?_ ((ar base w).grown A d (cZ c));unfold eO;rw[List.length_append,List.map_append];exact z
def tB(L:List Int)(m:Int)(a p:Nat):List Int:=(List.range p).map λj=>kU L j m a 0 false
def Iu(L:List Int)(m:Int)(a p:Nat):tB L m a (p+1)=tB L m a p++[kU L p m a 0 false]:=by simp[tB,List.range_succ]
def Nt(L:List Int)(m:Int)(a p:Nat):(tB L m a p).length=p:=by simp[tB]
def RO(C:CD)(m:Int)(L:List Int)(n:Ir L)(w:World)(h:C.At w)(hf:C.b6 true=0)(h4:C.n4<=5)(D:C.n5<=3)(o:bO m 0 999=true)
 (q:∀W,C.At W->Calls PL 98 #[.agg C.val] W λe w'=>∃k,e=.returned (.pointer (some ⟨k,0,none⟩))/\Row w' k (L.map bh)/\Below W.heap.size W w') :
 Calls PL 36 #[.agg C.val,.int .i64 m] w λe w'=>∃v,e=.returned (.tuple #[v,.int .i64 0])/\bB w' v (tB L m C.n5 C.n4)/\Below w.heap.size w w':=by
 have r:=aH h;have s:Hid (KB C w (w.alloc (.cells C.val 27))):=aH ⟨au _ _,(ar _ _).alloc (ab _) _⟩;have E:=aH hf;have F:=aH o;have d:=aH q;have H:=aH n;clear h hf o q n
 go_enter (fx (by decide) Tryz.func36),Tryz.ntmps36
 go_wp2_with (first
  |(go_at_call 90;refine(kF E.out (r.out.below s.out.low)).mono ?_;rintro e w1⟨rfl,t⟩;have u:=aH (s.out.on t);clear t)
  |(go_at_call 97;refine(yO F.out _).mono ?_;rintro e w'⟨rfl,rfl⟩)
  |(go_at_call 98;refine(d.out _ (r.out.below (u.out.alloc (.cells C.val 121)).low)).mono ?_;rintro e w2⟨k,rfl,x,f⟩;have g:=aH ((u.out.alloc (.cells C.val 121)).on f);have i:=aH ((f.block w1.heap.size (by simp)).trans (au w1 (.cells C.val 121)));have I:=aH x;clear f x;have J:=g.out.lt;have K:=aI i.out;obtain⟨M,N,O,P,f4,Q⟩:=bf g.out.box;obtain⟨d0,d1,d2,d3,d4,d5⟩:=bf i.out))
 go_loopw [9,27] (λR a wr=>∃p:Nat,p<=C.n4/\a=.int .i64 p/\eO 38 wr w2.heap.size R (tB L m C.n5 p)/\Below w2.heap.size w2 wr) (λ_ a _=>C.n4-(intOf a).toNat)
 case atStart=>exact⟨0,ac _,rfl,⟨rfl,.inl ⟨rfl,rfl⟩⟩,ar _ _⟩
 case round=>
  obtain⟨p,hp,rfl,y,b⟩:=hrel;clear M N O P f4 Q d0 d1 d2 d3 d4 d5 J;have z:=aH y;have S:=aH (g.out.on b);have A:=aH ((b.block _ K).trans i.out);have T:=aH (I.out.on b);have U:=aH b;have wD:=aI A.out;have V:=b.size;clear y b;by_cases X:p<C.n4
  ·have i2:(p:Int)<C.n4:=by omega
   obtain⟨d0,d1,d2,d3,d4,d5⟩:=bf A.out;have B:(tB L m C.n5 p).length=p:=Nt _ _ _ _;have j:=aH B;clear B
   go_wp2_with (first
    |(go_at_call 99;refine(Fa C k p m L H.out _ T.out D (by omega)).mono ?_;rintro e w3⟨rfl,c⟩;have Y:=c.size;have Z:=aH (z.out.on c);have H3:=aH (U.out.trans (c.mono V));clear c)
    |(at_builtin;refine Fb afJ aaI rfl _ _ rfl w2.heap.size _ _ (kU L p m C.n5 0 false) w3.heap.size rfl (Z.out.alloc _) rfl (cell_one_new _ _ _ 0 _ rfl) (by rw[j.out];omega) (by simp;omega) ?_;intro v' w4 fO l))
   refine⟨⟨p+1,X,by go_num,by rw[Iu];exact fO,(H3.out.alloc (by omega) _).trans l⟩,by simp only[intOf];omega⟩
  ·obtain rfl:p=C.n4:=by omega
   go_wp2
   refine ai (v:=.tuple #[u9,.int .i64 0]) ?_ rfl ⟨_,rfl,z.out.reads,S.out.low⟩;simp[ao,Tryz.results36,go_sem]
def ga{T e:ag}{z:Value}{m bytes:Nat}(l:PL.underlying T=some (.slice e))(p:(PL.info? e).map (λi=>(i.zero,i.size,i.bytes))=some (some z,m,bytes))(q:z.cells.size=m)(r:0<m)(b:bytes<=1000){ops:Array Oper}{rest:List Oper}{o:Oper}{a:Act}{Q:Exit->Act->World->Prop}{w:World}(t:o.guard=none)(s x:Operand)
 (v:o.op=.call { callee:=.builtin .append,args:=#[s,x],argTypes:=#[T,T] }) (base g:Nat) (hs:a.eval s=.slice (some ⟨g,0,none⟩) 0 0) (hg:w.heap[g]?=some (.cells #[] e)) (hb:base<=g)
 (k off n c:Nat) (news:List Value) (y:a.eval x=.slice (some ⟨k,off,none⟩) n c) (hl:news.length=n*m) (hc:∀j u,news[j]?=some u->w.cell? ⟨k,off+j,none⟩=some u) (A:∀u∈news,u.oneCell'=true) (B:n<=1000)
 (h:∀v' w',w'.ownsRow base e m v' n news->v'≠.slice none 0 0->Below base w w'->ap PL ops Q rest (a.put o.dst v') w'):ap PL ops Q (o::rest) a w:=by
 obtain⟨C,hi,D,E,F⟩:=info_parts p;have d:w.ownsRow base e m (.slice (some ⟨g,0,none⟩) 0 0) 0 []:=⟨by simp,.inr ⟨g,0,#[],rfl,hb,hg,ab _,ac _,by simp,by simp⟩⟩
 have H:=aI hg;refine aq _ t s x T v base e C z m bytes l hi D E F q r (.slice (some ⟨g,0,none⟩) 0 0) 0 [] hs d ⟨k,off,none⟩ n c news y hl (λj u e=>?_) A (by simp only[maxLen];omega) (by have:=Nat.mul_le_mul B b;rw[ad];omega) (by omega) λv' w' I J K=>?_
 ·have:=hc j u e;by_cases f:j=0
  ·subst f;simpa[Addr.add]using this
  ·simpa[Addr.add,f]using this
 ·refine h v' w' (by simpa using I) (λe=>?_) ((ar base w).grown J (by omega) (cZ d));have:=K.1 e;simp at this
def VF:PL.underlying 42=some (.slice 3):=by kernel_rfl
def VG:(PL.info? 3).map (λi=>(i.zero,i.size,i.bytes))=some (some (.int .i64 0),1,8):=by kernel_rfl
def aaK(a:Addr)(n c:Nat)(W:World):(binOp .eql 42 (.slice (some a) n c) (.slice none 0 0)).run PL W=.ok (.bool false) W:=by kernel_rfl
def tC(k off n c:Nat)(news:List Value)(w:World)(hl:news.length=n*1)(hc:∀j u,news[j]?=some u->w.cell? ⟨k,off+j,none⟩=some u)(b:∀u∈news,u.oneCell'=true)(d:n<=1000)(f:k<w.heap.size) :
 Calls PL 101 #[.slice (some ⟨k,off,none⟩) n c] w λe w'=>∃v,e=.returned v/\v≠.slice none 0 0/\w'.ownsRow w.heap.size 3 1 v n news/\Below w.heap.size w w':=by
 have g:=aH hc;have q1:=aaK;clear hc;have a:=aH ((ar w.heap.size w).alloc (ab _) (.cells #[] 3))
 go_enter (fx (by decide) Tryz.func101),Tryz.ntmps101
 go_wp2_with (at_builtin;refine ga VF VG rfl (by decide) (by decide) rfl _ _ rfl w.heap.size w.heap.size rfl (au w (.cells #[] 3)) (ab _) k off n c news rfl hl (λj u e=>(a.out.cell (p:=⟨k,off+j,none⟩) f).trans (g.out j u e)) b d ?_;intro v' w2 h hv i)
 go_ret
 exact⟨_,rfl,hv,h,a.out.trans i⟩
def VH:PL.underlying 22=some (.slice 35):=by kernel_rfl
def VI:(PL.info? 35).map (λi=>(i.zero,i.size,i.bytes))=some (some (.agg #[.int .i64 0,.int .i64 0]),2,16):=by kernel_rfl
def aaL(a:Addr)(n c:Nat)(W:World):(binOp .eql 22 (.slice (some a) n c) (.slice none 0 0)).run PL W=.ok (.bool false) W:=by kernel_rfl
def RQ(k off n c:Nat)(news:List Value)(w:World)(hl:news.length=n*2)(hc:∀j u,news[j]?=some u->w.cell? ⟨k,off+j,none⟩=some u)(b:∀u∈news,u.oneCell'=true)(d:n<=1000)(f:k<w.heap.size) :
 Calls PL 151 #[.slice (some ⟨k,off,none⟩) n c] w λe w'=>∃v,e=.returned v/\v≠.slice none 0 0/\w'.ownsRow w.heap.size 35 2 v n news/\Below w.heap.size w w':=by
 have g:=aH hc;have q1:=aaL;clear hc;have a:=aH ((ar w.heap.size w).alloc (ab _) (.cells #[] 35))
 go_enter (fx (by decide) Tryz.func151),Tryz.ntmps151
 go_wp2_with (at_builtin;refine ga VH VI rfl (by decide) (by decide) rfl _ _ rfl w.heap.size w.heap.size rfl (au w (.cells #[] 35)) (ab _) k off n c news rfl hl (λj u e=>(a.out.cell (p:=⟨k,off+j,none⟩) f).trans (g.out j u e)) b d ?_;intro v' w2 h hv i)
 go_ret
 exact⟨_,rfl,hv,h,a.out.trans i⟩
def VJ:PL.underlying 23=some (.slice 79):=by kernel_rfl
def VK:(PL.info? 79).map (λi=>(i.zero,i.size,i.bytes))=some (some (.agg #[.int .i64 0,.int .i64 0,.int .i64 0]),3,24):=by kernel_rfl
def aaM(a:Addr)(n c:Nat)(W:World):(binOp .eql 23 (.slice (some a) n c) (.slice none 0 0)).run PL W=.ok (.bool false) W:=by kernel_rfl
def RR(k off n c:Nat)(news:List Value)(w:World)(hl:news.length=n*3)(hc:∀j u,news[j]?=some u->w.cell? ⟨k,off+j,none⟩=some u)(b:∀u∈news,u.oneCell'=true)(d:n<=1000)(f:k<w.heap.size) :
 Calls PL 152 #[.slice (some ⟨k,off,none⟩) n c] w λe w'=>∃v,e=.returned v/\v≠.slice none 0 0/\w'.ownsRow w.heap.size 79 3 v n news/\Below w.heap.size w w':=by
 have g:=aH hc;have q1:=aaM;clear hc;have a:=aH ((ar w.heap.size w).alloc (ab _) (.cells #[] 79))
 go_enter (fx (by decide) Tryz.func152),Tryz.ntmps152
 go_wp2_with (at_builtin;refine ga VJ VK rfl (by decide) (by decide) rfl _ _ rfl w.heap.size w.heap.size rfl (au w (.cells #[] 79)) (ab _) k off n c news rfl hl (λj u e=>(a.out.cell (p:=⟨k,off+j,none⟩) f).trans (g.out j u e)) b d ?_;intro v' w2 h hv i)
 go_ret
 exact⟨_,rfl,hv,h,a.out.trans i⟩
def VL:PL.underlying 24=some (.slice 73):=by kernel_rfl
def VM:(PL.info? 73).map (λi=>(i.zero,i.size,i.bytes))=some (some (.agg #[.string ByteArray.empty,.int .i64 0,.int .i64 0,.int .i64 0,.int .i64 0,.int .i64 0,.int .i64 0,.int .i64 0,.int .i64 0,.int .i64 0,.int .i64 0,.slice none 0 0]),12,120):=by kernel_rfl
def aaN(a:Addr)(n c:Nat)(W:World):(binOp .eql 24 (.slice (some a) n c) (.slice none 0 0)).run PL W=.ok (.bool false) W:=by kernel_rfl
def RS(k off n c:Nat)(news:List Value)(w:World)(hl:news.length=n*12)(hc:∀j u,news[j]?=some u->w.cell? ⟨k,off+j,none⟩=some u)(b:∀u∈news,u.oneCell'=true)(d:n<=1000)(f:k<w.heap.size) :
 Calls PL 153 #[.slice (some ⟨k,off,none⟩) n c] w λe w'=>∃v,e=.returned v/\v≠.slice none 0 0/\w'.ownsRow w.heap.size 73 12 v n news/\Below w.heap.size w w':=by
 have g:=aH hc;have q1:=aaN;clear hc;have a:=aH ((ar w.heap.size w).alloc (ab _) (.cells #[] 73))
 go_enter (fx (by decide) Tryz.func153),Tryz.ntmps153
 go_wp2_with (at_builtin;refine ga VL VM rfl (by decide) (by decide) rfl _ _ rfl w.heap.size w.heap.size rfl (au w (.cells #[] 73)) (ab _) k off n c news rfl hl (λj u e=>(a.out.cell (p:=⟨k,off+j,none⟩) f).trans (g.out j u e)) b d ?_;intro v' w2 h hv i)
 go_ret
 exact⟨_,rfl,hv,h,a.out.trans i⟩
def VN:PL.underlying 25=some (.slice 67):=by kernel_rfl
def VO:(PL.info? 67).map (λi=>(i.zero,i.size,i.bytes))=some (some (.agg #[.string ByteArray.empty,.int .i64 0,.int .i64 0]),3,32):=by kernel_rfl
def aaO(a:Addr)(n c:Nat)(W:World):(binOp .eql 25 (.slice (some a) n c) (.slice none 0 0)).run PL W=.ok (.bool false) W:=by kernel_rfl
def RU(k off n c:Nat)(news:List Value)(w:World)(hl:news.length=n*3)(hc:∀j u,news[j]?=some u->w.cell? ⟨k,off+j,none⟩=some u)(b:∀u∈news,u.oneCell'=true)(d:n<=1000)(f:k<w.heap.size) :
 Calls PL 154 #[.slice (some ⟨k,off,none⟩) n c] w λe w'=>∃v,e=.returned v/\v≠.slice none 0 0/\w'.ownsRow w.heap.size 67 3 v n news/\Below w.heap.size w w':=by
 have g:=aH hc;have q1:=aaO;clear hc;have a:=aH ((ar w.heap.size w).alloc (ab _) (.cells #[] 67))
 go_enter (fx (by decide) Tryz.func154),Tryz.ntmps154
 go_wp2_with (at_builtin;refine ga VN VO rfl (by decide) (by decide) rfl _ _ rfl w.heap.size w.heap.size rfl (au w (.cells #[] 67)) (ab _) k off n c news rfl hl (λj u e=>(a.out.cell (p:=⟨k,off+j,none⟩) f).trans (g.out j u e)) b d ?_;intro v' w2 h hv i)
 go_ret
 exact⟨_,rfl,hv,h,a.out.trans i⟩
def aaP(W:World):(binOp .eql 42 (.slice none 0 0) (.slice none 0 0)).run PL W=.ok (.bool true) W:=by kernel_rfl
def Ct(w:World):Calls PL 101 #[.slice none 0 0] w λe w'=>e=.returned (.slice none 0 0)/\w=w':=by
 have q1:=aaP
 go_enter (fx (by decide) Tryz.func101),Tryz.ntmps101
 go_wp2
 go_ret
 exact⟨rfl,rfl⟩
end Go.Proofs
