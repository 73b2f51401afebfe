/- Part of the proof of FieldReached and FieldLater. -/
import Derived.Test.YtlpginenlbdgcaaGreatW03
import Derived.Test.YtlpginenlbdgcaaGreatW12
import Derived.Test.YtlpginenlbdgcaaGreatW18
import Derived.Deep.Slices
import Derived.ProofKit
import Derived.Test.YtlpginenlbdgcaaGreatRows
set_option linter.all false
open Go.Proofs.Tryz renaming progTables->aa,funcs->ab,prog->ac,underlying43->ad,underlying96->ae,underlying52->ag,underlying85->ao,underlying27->ap
open Go.Frame renaming enter->aq
open Go renaming TypeId->ar
open List renaming getElem?_eq_getElem->aw
open Nat renaming le_refl->aF,lt_irrefl->aH,not_lt_zero->aI
open Go.Deep renaming choose_lt->aL
open Go.IntKind renaming min->aP,max->aS,signed->aT,bits->a6
namespace Go.Proofs
open Go.bJ Go.Conc Go.ConcM Go.RowKit
noncomputable abbrev PA:Program:=⟨aa,ab⟩
def U6{f:FuncId}{fn:Func}{tr:Tmp}(hf:FF f=true)(k:XX f=false)(L:Tryz.progTables.inits.idxOf? f=none)(r:cY.funcs[f]?=some fn)(s:ab[f]?=some fn)(O:fn.results=#[.tmp tr])
 {W:World} (Q:Tryz.progTables.globals.size<=W.heap.size) (S:Calm W.tape) {g args:Array Value} (m:VA FF (ox W) g args)
 (law:∀w:World,w.heap=(cV FF W).heap->Calls PL f g w (aO (.bool true) w)) :
 ∃M last o w' p,runNT PA (M+1) (solo (G (aq PA f args .normal) []) W) #[]=(.ended o w',p)/\runN PA M (solo (G (aq PA f args .normal) []) W)=.next last/\step PA last=.ended o w'/\
  Go.Conc.Good PA (λv a=>v=.bool true/\Below W.heap.size W { a with os:=W.os }/\OsLater W.os a.os) last o w' p:=by
 let R:Value->World->Prop:=λv w'=>v=.bool true/\∀b,b<W.heap.size->w'.heap[b]?=(cV FF W).heap[b]?;have H:∀v w I d,R v w->R v (World.re w I d):=λv w I d h=>h;have i:WR Tryz.progTables.globals.size FF (codeOk aa FF ZZ) (ox W) (cV FF W) W:=wr0 Q rfl;have T:Term PC (lQ PC f R) (fH (aq PC f g .normal) [aX PC]) (cV FF W):=by
  refine zD bV (ρ:=ox W) Yr i hf m (R:=R) H λU=>?_;refine(law ((cV FF W).re U 0) rfl).mono ?_;rintro e w'⟨rfl,V⟩;exact⟨rfl,λb hb=>V.block b (by show b<(cV FF W).heap.size;rw[mT];omega)⟩
 have c:iE aa cY.funcs FF ZZ (fH (aq PC f g .normal) [aX PC]) (cV FF W):=
  ⟨ox W,fH (aq PC f args .normal) [],W,⟨.alike (fe (bV.same f hf rfl) hf m),⟨[],rfl,.nil,(λx k=>by cases k;rfl),λ_=>fe (bV.same f hf rfl) hf m⟩,rfl,rfl,rfl,rfl,rfl,rfl⟩,Yr,i⟩
 have u:=Yp JN bV (R:=R) H L r s O (U2 f R) T c 0 _ _ (cV FF W).tape (cV FF W).drawn (.zero _ _);have u:kK aa cY.funcs ab FF XX ZZ R (fH (aq PC f g .normal) [aX PC]) (cV FF W):=u;have J:aQ aa FF ZZ cY.funcs ab (ox W) (aq PC f g .normal) (aq PA f args .normal):=fe (JN.same f hf k) hf m;have y:GR aa cY.funcs ab FF XX ZZ (aX PC) (ox W) (fH (aq PC f g .normal) [aX PC]) (fH (aq PA f args .normal) []):=
  ⟨.alike J,⟨[],rfl,.nil,(λx k=>by cases k;rfl),λ_=>J⟩,rfl,rfl,rfl,rfl,rfl,rfl⟩
 obtain⟨N,aJ,v,v',wl,j,z,g1,q,t1,q1,X,K,A,Y,Z,r5,r6,r7,r8,r9,l⟩:=u (ox W) (fH (aq PA f args .normal) []) W #[fH (aq PA f args .normal) []] none #[] (λ_=>0) (λ_=>False) c y Yr i
  ⟨rfl,leavers_one _ _,past_nil.mono (Nat.zero_le _),λop aB=>by simp at aB⟩ ⟨λ_ h=>h.elim,λ_ h=>h.elim,λ_ h=>h.elim⟩ S
 obtain⟨rfl,C⟩:=r6;have Dm:=LV (w0:=cV FF W) rfl C r7 r8 r9 l;obtain rfl:v'=.bool true:=by cases r5;rfl
 have Eb:∀d,(fun(v:Value)(a:World)=>v=.bool true/\Below W.heap.size W { a with os:=W.os }/\OsLater W.os a.os) (.bool true) (j.at d):=λd=>
  ⟨rfl,⟨rfl,l.tape,l.output,l.size,Dm⟩,l.os⟩
 obtain⟨E,last,o,w',p,e1,e2,e3,e4⟩:=beside_ends (P:=PA) (Shun:=X) (B:=j.heap.size) (D:=λ_ _ _=>False) (Post:=λv a=>v=.bool true/\Below W.heap.size W { a with os:=W.os }/\OsLater W.os a.os) (λ_ _ _ h=>h.elim) A.main A.old A.GA (n:=0) (w:=j) (sl:=q)
  (λai⟨d,e⟩=>by subst e;exact⟨Y,.bool true,#[],Z d,(λe he=>by simp at he),Eb d⟩)
 refine⟨N+E,last,o,w',p,?_,?_,e3,e4⟩
 ·show runNT PA (N+(E+1)) (crowd _ W none) #[]=_;have F:runNT PA N (crowd #[G (aq PA f args .normal) []] W none) #[]=(.next (crowd z j q),t1):=K;rw[Go.runNT_add,F];exact e1
 ·show runN PA (N+E) (crowd _ W none)=_;have F:runN PA N (crowd #[fH (aq PA f args .normal) []] W none)=.next (crowd z j q):=by rw[<-runNT_fst (t:=#[]),K]
  have h2:runN PA N (crowd #[G (aq PA f args .normal) []] W none)=.next (crowd z j q):=F;rw[runN_add,h2];exact e2
end Go.Proofs
namespace Go.Proofs
open Go.bJ Go.Deep Go.RowKit
set_option maxRecDepth 100000
section
variable {H:Type}{enc:ar×Value->H}{W:World}
def Td(enc:ar×Value->H)(W:World)(t:ar)(cs:List Value):Prop:=∃n x,DataW.trod enc ac W 0 (λ_=>true) true n t cs=some x
def pF(cs:List Value)(o:Nat):Prop:=∃m,cs[o]?=some (.int .i64 m)
def Td.int{cs:List Value}(h:Td enc W 3 cs):∃m,cs=[.int .i64 m]:=by
 obtain⟨n,x,h⟩:=h;obtain⟨m,e,_⟩:=DataW.trod_int Tryz.underlying3 h;exact⟨m,e⟩
def Td.str{cs:List Value}(h:Td enc W 9 cs):∃s,cs=[.string s]:=by
 obtain⟨n,x,h⟩:=h;obtain⟨m,e,_⟩:=DataW.trod_string Tryz.underlying9 h;exact⟨m,e⟩
def Td.field{t:ar}{fs:Array Field}(a:Tryz.prog.underlying t=some (.struct fs)){cs:List Value}(h:Td enc W t cs){i:Nat}{f:Field}(hi:fs[i]?=some f):Td enc W f.type ((cs.drop f.offset).take (Tryz.prog.cellsOf f.type)):=by
 obtain⟨n,x,h⟩:=h;obtain⟨xs,m,_,_,_,hl,hf⟩:=DataW.trod_struct a h;have e:=hf i f hi;have b:i<xs.length:=by rw[hl];exact(Array.getElem?_eq_some_iff.1 hi).1
 rw[aw b]at e;exact⟨m,_,e⟩
def Td.len{t:ar}{fs:Array Field}(a:Tryz.prog.underlying t=some (.struct fs)){cs:List Value}(h:Td enc W t cs):cs.length=Tryz.prog.cellsOf t:=by
 obtain⟨n,x,h⟩:=h;obtain⟨xs,m,_,_,hl,_⟩:=DataW.trod_struct a h;exact hl
def Kg{cs:List Value}{o n:Nat}{l:List Value}(h:(cs.drop o).take n=l){j:Nat}(a:j<n):cs[o+j]?=l[j]?:=by
 rw[<-h,List.getElem?_take_of_lt a,List.getElem?_drop]
def Rk:Tryz.prog.cellsOf 3=1:=by kernel_rfl
def aat:Tryz.prog.cellsOf 9=1:=by kernel_rfl
def Kh:Tryz.prog.cellsOf 43=2:=by kernel_rfl
def Vl:Tryz.prog.cellsOf 96=3:=by kernel_rfl
def Ki:Tryz.prog.cellsOf 85=12:=by kernel_rfl
def Vm:Tryz.prog.cellsOf 52=3:=by kernel_rfl
def Vn:Tryz.prog.cellsOf 53=1:=by kernel_rfl
def Vo:Tryz.prog.cellsOf 27=6:=by kernel_rfl
def Vp:Tryz.prog.cellsOf 22=1:=by kernel_rfl
def Vq:Tryz.prog.cellsOf 23=1:=by kernel_rfl
def Vr:Tryz.prog.cellsOf 24=1:=by kernel_rfl
def Vs:Tryz.prog.cellsOf 25=1:=by kernel_rfl
def kC{cs:List Value}{o:Nat}(h:Td enc W 3 ((cs.drop o).take (Tryz.prog.cellsOf 3))):pF cs o:=by
 rw[Rk]at h;obtain⟨m,e⟩:=h.int;exact⟨m,by simpa using Kg e (j:=0) (by decide)⟩
def Rm{cs:List Value}{o:Nat}(h:Td enc W 9 ((cs.drop o).take (Tryz.prog.cellsOf 9))):∃s,cs[o]?=some (.string s):=by
 rw[aat]at h;obtain⟨m,e⟩:=h.str;exact⟨m,by simpa using Kg e (j:=0) (by decide)⟩
def yy{cs:List Value}(h:Td enc W 43 cs):pF cs 0/\pF cs 1:=⟨kC (h.field ad (i:=0) rfl),kC (h.field ad (i:=1) rfl)⟩
def wF{cs:List Value}{o:Nat}(h:Td enc W 43 ((cs.drop o).take (Tryz.prog.cellsOf 43))):pF cs o/\pF cs (o+1):=by
 obtain⟨⟨a,c⟩,⟨b,hb⟩⟩:=yy h;rw[Kh]at c hb;exact⟨⟨a,by rw[<-c];exact Kg (cs:=cs) (o:=o) rfl (j:=0) (by decide)⟩,⟨b,by rw[<-hb];exact Kg (cs:=cs) (o:=o) rfl (j:=1) (by decide)⟩⟩
def Ie{cs:List Value}(h:Td enc W 96 cs):pF cs 0/\pF cs 1/\pF cs 2:=
 ⟨kC (h.field ae (i:=0) rfl),kC (h.field ae (i:=1) rfl),kC (h.field ae (i:=2) rfl)⟩
def EI{cs:List Value}(h:Td enc W 52 cs):(∃s,cs[0]?=some (.string s))/\pF cs 1/\pF cs 2:=
 ⟨Rm (h.field ag (i:=0) rfl),kC (h.field ag (i:=1) rfl),kC (h.field ag (i:=2) rfl)⟩
def Ni{cs:List Value}(h:Td enc W 85 cs):(∃s,cs[0]?=some (.string s))/\(∀j,1<=j->j<=10->pF cs j)/\∃u,cs[11]?=some u/\Td enc W 53 [u]:=by
 have c:=wF (h.field ao (i:=1) rfl);have d:=wF (h.field ao (i:=2) rfl);have g:=kC (h.field ao (i:=3) rfl);have k:=kC (h.field ao (i:=4) rfl);have e:=wF (h.field ao (i:=5) rfl);have f:=wF (h.field ao (i:=6) rfl);have l:=h.field ao (i:=7) rfl;have hl:=h.len ao;rw[Ki]at hl;refine⟨Rm (h.field ao (i:=0) rfl),λj a b=>?_,?_⟩
 ·match j,a,b with
  |1,_,_=>exact c.1
  |2,_,_=>exact c.2
  |3,_,_=>exact d.1
  |4,_,_=>exact d.2
  |5,_,_=>exact g
  |6,_,_=>exact k
  |7,_,_=>exact e.1
  |8,_,_=>exact e.2
  |9,_,_=>exact f.1
  |10,_,_=>exact f.2
  |n+11,_,b=>exact absurd b (by omega)
 ·have hd:((cs.drop 11).take (Tryz.prog.cellsOf 53))=[cs[11]'(by omega)]:=by
   rw[Vn,List.drop_eq_getElem_cons (by omega:11<cs.length)];rfl
  refine⟨cs[11]'(by omega),aw (by omega),?_⟩;rw[<-hd];exact l
def aau(k o n:Nat):(⟨k,o,none⟩:Addr).add n=⟨k,o+n,none⟩:=by
 unfold Addr.add
 split
 ·subst n;rfl
 ·rfl
def Rn{t e d:Nat}(A:Tryz.prog.underlying t=some (.slice e))(hc:Tryz.prog.cellsOf e=d)(hs:0<d){u:Value}(h:Td enc W t [u]) :
 ∃(b:Option Addr)(n c k o:Nat),u=.slice b n c/\n<=c/\(b=none\/(∃a,b=some a/\Sb W a.block)\/(n=0/\c=0))/\(0<c->b=some ⟨k,o,none⟩)/\k<W.heap.size+1/\
  ∀i,i<n->∃cs,Td enc W e cs/\∀j,j<d->W.cell? ⟨k,o+i*d+j,none⟩=cs[j]?:=by
 obtain⟨fuel,x,h⟩:=h
 rcases open_slice A h with⟨e1,_⟩|⟨a,len,cap,m,n,D,K,e1,_,hl,_,B,_,v⟩
 ·cases e1;exact⟨none,0,0,0,0,rfl,aF _,.inl rfl,λh=>absurd h (aH _),by omega,λi hi=>absurd hi (aI _)⟩
 ·cases e1;obtain rfl:m=cap:=B;rw[hc]at v
  rcases Nat.eq_zero_or_pos m with g|g
  ·subst g;obtain rfl:len=0:=by omega
   exact⟨some a,0,0,0,0,rfl,aF _,.inr (.inr ⟨rfl,rfl⟩),λh=>absurd h (aH _),by omega,λi hi=>absurd hi (aI _)⟩
  ·have cell:∀i,i<m->∃cs,Td enc W e cs/\cs.length=d/\∀j,j<d->W.cell? (a.add (i*d+j))=cs[j]?:=by
    intro i hi;obtain⟨cs,C,E⟩:=v i hi;obtain⟨_,w,l⟩:=World.cells?_some C;exact⟨cs,⟨n,_,E⟩,w,λj p=>by rw[<-l j p,Deep.add_add]⟩
   obtain⟨q,_,w,l⟩:=cell 0 g;have y:=l 0 hs;rw[aw (by omega)]at y;have f:W.cell? a=some q[0]:=by rw[<-y];unfold Addr.add;simp
   obtain⟨k,o,s⟩:=a;have r:s=none:=by
    cases s with
    |none=>rfl
    |some _=>
     unfold World.cell? at f
     split at f<;>cases f
   subst r;have z:=(xA (F:=FF) f).2;have L:k<W.heap.size:=by
    obtain⟨_,_,_,hb⟩:=z;exact bE hb
   refine⟨some ⟨k,o,none⟩,len,m,k,o,rfl,hl,.inr (.inl ⟨_,rfl,z⟩),λ_=>rfl,by omega,λi hi=>?_⟩;obtain⟨cs,I,_,J⟩:=cell i (by omega);refine⟨cs,I,λj p=>?_⟩;rw[<-J j p,aau,Nat.add_assoc]
def afv{w:World}(a:w.heap=(cV FF W).heap){k o:Nat}{v:Value}(h:W.cell? ⟨k,o,none⟩=some v):w.cell? ⟨k,o,none⟩=some (rep FF W v):=by
 have e:w.cell? ⟨k,o,none⟩=(cV FF W).cell? ⟨k,o,none⟩:=by unfold World.cell?;rw[a]
 rw[e];exact(xA h).1
def iT(n:Int):rep FF W (.int .i64 n)=.int .i64 n:=(oy FF W _).int _ _ rfl
def Kj(s:ByteArray):rep FF W (.string s)=.string s:=(oy FF W _).str _ rfl
instance:Inhabited iJ:=⟨⟨ByteArray.empty,λ_=>0,none,0,0,0,0,λ_=>0⟩⟩
def kD{t e a:Nat}(d:Tryz.prog.underlying t=some (.slice e))(hc:Tryz.prog.cellsOf e=a)(hs:0<a){u:Value}(h:Td enc W t [u]) :
 ∃(b:Option Addr)(n c k o:Nat),rep FF W u=.slice b n c/\(0<n->b=some ⟨k,o,none⟩)/\k<(cV FF W).heap.size/\
  ∀i,i<n->∃cs,Td enc W e cs/\∀j v,j<a->cs[j]?=some v->∀w:World,w.heap=(cV FF W).heap->w.cell? ⟨k,o+i*a+j,none⟩=some (rep FF W v):=by
 obtain⟨b,n,c,k,o,rfl,hl,hb,f,g,l⟩:=Rn d hc hs h;obtain⟨b',e,m⟩:=(oy FF W (.slice b n c)).sl b n c rfl hb;refine⟨b',n,c,k,o,e,λh=>by rw[m (by omega)];exact f (by omega),by rw[mT];exact g,λi hi=>?_⟩;obtain⟨cs,p,q⟩:=l i hi;exact⟨cs,p,λj v r hv w s=>afv s ((q j r).trans hv)⟩
def EJ{cs:List Value}(h:Td enc W 27 cs):∃C:CD,C.val=(cs.map (rep FF W)).toArray/\∀w:World,w.heap=(cV FF W).heap->C.Mem w:=by
 have hl:=h.len ap;rw[Vo]at hl;obtain⟨c0,c1,B,c3,D,E,rfl⟩:∃a b c d e f,cs=[a,b,c,d,e,f]:=by
  match cs,hl with
  |[a,b,c,d,e,f],_=>exact⟨a,b,c,d,e,f,rfl⟩
 obtain⟨l,K⟩:=kC (h.field ap (i:=0) rfl);obtain⟨p,L⟩:=kC (h.field ap (i:=1) rfl);have Z:Td enc W 22 [B]:=by
  have:Td enc W 22 (([c0,c1,B,c3,D,E].drop 2).take (Tryz.prog.cellsOf 22)):=h.field ap (i:=2) rfl;rw[Vp]at this;exact this
 have s3:Td enc W 23 [c3]:=by
  have:Td enc W 23 (([c0,c1,B,c3,D,E].drop 3).take (Tryz.prog.cellsOf 23)):=h.field ap (i:=3) rfl;rw[Vq]at this;exact this
 have s4:Td enc W 24 [D]:=by
  have:Td enc W 24 (([c0,c1,B,c3,D,E].drop 4).take (Tryz.prog.cellsOf 24)):=h.field ap (i:=4) rfl;rw[Vr]at this;exact this
 have s5:Td enc W 25 [E]:=by
  have:Td enc W 25 (([c0,c1,B,c3,D,E].drop 5).take (Tryz.prog.cellsOf 25)):=h.field ap (i:=5) rfl;rw[Vs]at this;exact this
 obtain rfl:c0=.int .i64 l:=by simpa using K
 obtain rfl:c1=.int .i64 p:=by simpa using L
 obtain⟨b2,S,q2,k2,F,e2,p2,h2,a2⟩:=kD Tryz.underlying22 Kh (by decide) Z;obtain⟨b3,T,q3,k3,s,e3,p3,h3,a3⟩:=kD Tryz.underlying23 Vl (by decide) s3;obtain⟨b4,U,q4,t,v,e4,p4,h4,a4⟩:=kD Tryz.underlying24 Ki (by decide) s4;obtain⟨b5,V,q5,y,z,e5,p5,h5,a5⟩:=kD Tryz.underlying25 Vm (by decide) s5;obtain⟨x2,X⟩:∃x2:Nat->Int×Int,∀i,i<S->∀w:World,w.heap=(cV FF W).heap->w.cell? ⟨k2,F+i*2,none⟩=some (.int .i64 (x2 i).1)/\w.cell? ⟨k2,F+i*2+1,none⟩=some (.int .i64 (x2 i).2):=by
  refine aL (p:=λi(x:Int×Int)=>∀w:World,w.heap=(cV FF W).heap->w.cell? ⟨k2,F+i*2,none⟩=some (.int .i64 x.1)/\w.cell? ⟨k2,F+i*2+1,none⟩=some (.int .i64 x.2)) λi hi=>?_;obtain⟨cs,r,q⟩:=a2 i hi;obtain⟨⟨a,A⟩,⟨b,hb⟩⟩:=yy r;exact⟨(a,b),λw g=>⟨by have:=q 0 _ (by decide) A w g;rwa[iT]at this,by have:=q 1 _ (by decide) hb w g;rwa[iT]at this⟩⟩
 obtain⟨x3,M⟩:∃x3:Nat->Int×Int×Int,∀i,i<T->∀w:World,w.heap=(cV FF W).heap->w.cell? ⟨k3,s+i*3,none⟩=some (.int .i64 (x3 i).1)/\w.cell? ⟨k3,s+i*3+1,none⟩=some (.int .i64 (x3 i).2.1)/\w.cell? ⟨k3,s+i*3+2,none⟩=some (.int .i64 (x3 i).2.2):=by
  refine aL (p:=λi(x:Int×Int×Int)=>∀w:World,w.heap=(cV FF W).heap->w.cell? ⟨k3,s+i*3,none⟩=some (.int .i64 x.1)/\w.cell? ⟨k3,s+i*3+1,none⟩=some (.int .i64 x.2.1)/\w.cell? ⟨k3,s+i*3+2,none⟩=some (.int .i64 x.2.2)) λi hi=>?_;obtain⟨cs,r,q⟩:=a3 i hi;obtain⟨⟨a,A⟩,⟨b,hb⟩,⟨c,hc⟩⟩:=Ie r;exact⟨(a,b,c),λw g=>⟨by have:=q 0 _ (by decide) A w g;rwa[iT]at this,by have:=q 1 _ (by decide) hb w g;rwa[iT]at this,by have:=q 2 _ (by decide) hc w g;rwa[iT]at this⟩⟩
 obtain⟨I,N⟩:∃I:Nat->ByteArray×Int×Int,∀i,i<V->∀w:World,w.heap=(cV FF W).heap->w.cell? ⟨y,z+i*3,none⟩=some (.string (I i).1)/\w.cell? ⟨y,z+i*3+1,none⟩=some (.int .i64 (I i).2.1)/\w.cell? ⟨y,z+i*3+2,none⟩=some (.int .i64 (I i).2.2):=by
  refine aL (p:=λi(x:ByteArray×Int×Int)=>∀w:World,w.heap=(cV FF W).heap->w.cell? ⟨y,z+i*3,none⟩=some (.string x.1)/\w.cell? ⟨y,z+i*3+1,none⟩=some (.int .i64 x.2.1)/\w.cell? ⟨y,z+i*3+2,none⟩=some (.int .i64 x.2.2)) λi hi=>?_;obtain⟨cs,r,q⟩:=a5 i hi;obtain⟨⟨a,A⟩,⟨b,hb⟩,⟨c,hc⟩⟩:=EI r;exact⟨(a,b,c),λw g=>⟨by have:=q 0 _ (by decide) A w g;rwa[Kj]at this,by have:=q 1 _ (by decide) hb w g;rwa[iT]at this,by have:=q 2 _ (by decide) hc w g;rwa[iT]at this⟩⟩
 obtain⟨x4,f4⟩:∃x4:Nat->iJ,∀i,i<U->∀w:World,w.heap=(cV FF W).heap->w.cell? ⟨t,v+i*12,none⟩=some (.string (x4 i).name)/\(∀j,1<=j->j<=10->w.cell? ⟨t,v+i*12+j,none⟩=some (.int .i64 ((x4 i).n j)))/\
  w.cell? ⟨t,v+i*12+11,none⟩=some (.slice (x4 i).lb (x4 i).ln (x4 i).lc)/\(0<(x4 i).ln->(x4 i).lb=some ⟨(x4 i).lk,(x4 i).lo,none⟩/\(x4 i).lk<w.heap.size)/\∀j,j<(x4 i).ln->w.cell? ⟨(x4 i).lk,(x4 i).lo+j,none⟩=some (.int .i64 ((x4 i).lane j)):=by
  refine aL (p:=λi(x:iJ)=>∀w:World,w.heap=(cV FF W).heap->w.cell? ⟨t,v+i*12,none⟩=some (.string x.name)/\(∀j,1<=j->j<=10->w.cell? ⟨t,v+i*12+j,none⟩=some (.int .i64 (x.n j)))/\
   w.cell? ⟨t,v+i*12+11,none⟩=some (.slice x.lb x.ln x.lc)/\(0<x.ln->x.lb=some ⟨x.lk,x.lo,none⟩/\x.lk<w.heap.size)/\∀j,j<x.ln->w.cell? ⟨x.lk,x.lo+j,none⟩=some (.int .i64 (x.lane j))) λi hi=>?_
  obtain⟨cs,r,q⟩:=a4 i hi;obtain⟨⟨a,A⟩,hn,⟨u,hu,J4⟩⟩:=Ni r;obtain⟨O,P⟩:∃O:Nat->Int,∀j,j<11->1<=j->cs[j]?=some (.int .i64 (O j)):=aL (p:=λj(m:Int)=>1<=j->cs[j]?=some (.int .i64 m)) λj J=>by
   by_cases Y:1<=j
   ·obtain⟨m,hm⟩:=hn j Y (by omega);exact⟨m,λ_=>hm⟩
   ·exact⟨0,λh=>absurd h Y⟩
  obtain⟨b,n,c,k,o,e,pz,hk,al⟩:=kD Tryz.underlying53 Rk (by decide) J4;obtain⟨Q,R⟩:∃Q:Nat->Int,∀j,j<n->∀w:World,w.heap=(cV FF W).heap->w.cell? ⟨k,o+j,none⟩=some (.int .i64 (Q j)):=aL (p:=λj(m:Int)=>∀w:World,w.heap=(cV FF W).heap->w.cell? ⟨k,o+j,none⟩=some (.int .i64 m)) λj J=>by
   obtain⟨cs,r,q⟩:=al j J;obtain⟨m,rfl⟩:=r.int;exact⟨m,λw g=>by have:=q 0 _ (by decide) rfl w g;rw[iT,Nat.mul_one]at this;exact this⟩
  exact⟨⟨a,O,b,n,c,k,o,Q⟩,λw g=>⟨by have:=q 0 _ (by decide) A w g;rwa[Kj]at this,λj j1 j2=>by have:=q j _ (by omega) (P j (by omega) j1) w g;rwa[iT]at this,
   by have:=q 11 _ (by decide) hu w g;rwa[e]at this,λh=>⟨pz h,by rw[g];exact hk⟩,λj J=>R j J w g⟩⟩
 refine⟨⟨l,p,b2,k2,F,S,q2,x2,b3,k3,s,T,q3,x3,b4,t,v,U,q4,x4,b5,y,z,V,q5,I⟩,?_,λw g=>?_⟩
 ·simp only[List.map_cons,List.map_nil,iT,e2,e3,e4,e5]
 ·exact⟨by rw[g];exact h2,by rw[g];exact h3,by rw[g];exact h4,by rw[g];exact h5,p2,p3,p4,p5,λi hi=>(X i hi w g).1,λi hi=>(X i hi w g).2,λi hi=>(M i hi w g).1,λi hi=>(M i hi w g).2.1,λi hi=>(M i hi w g).2.2,
   λi hi=>(f4 i hi w g).1,λi hi=>(f4 i hi w g).2.1,λi hi=>(f4 i hi w g).2.2.1,λi hi=>(f4 i hi w g).2.2.2.1,λi hi=>(f4 i hi w g).2.2.2.2,λi hi=>(N i hi w g).1,λi hi=>(N i hi w g).2.1,λi hi=>(N i hi w g).2.2⟩
end
end Go.Proofs
namespace Go.Proofs.YtlpginenlbdgcaaGreat
open Go.ChangeShapes Go.WideShapes Go.ChangeAt Go.RowKit Go.Conc Go.ConcM Go.bJ
def Tryz.own:ownKnob Tryz.prog.godebug=none:=by kernel_rfl
def Tryz.laidOut:laidOutB ac=true:=by kernel_rfl
def SV:Tryz.prog.globals.size<(begin ac (λ_ _=>0) default).world.heap.size:=of_decide_eq_true (by kernel_rfl)
def Fw{W:World}(h:W.ShapedOpen ac):Tryz.progTables.globals.size<=W.heap.size:=by
 obtain⟨_,a⟩:=h;obtain⟨o,_,e,_⟩:=a _ (aF _) SV;exact Nat.le_of_lt (bE e)
set_option maxRecDepth 100000 in
def agp{f:FuncId}(h:32≠f):cY.funcs[f]?=ab[f]?:=by
 show(Tryz.funcs.setIfInBounds 32 nS)[f]?=_;rw[Array.getElem?_setIfInBounds_ne h]
section
variable {H:Type}{enc:ar×Value->H}{P:Program}{w:World}{base:Nat}{spare:Nat->Bool}{held:Bool}
def G0{t:ar}{v:Value}{d:DataW H}{p:List MemPlace}{ts:List ar}{vs:List Value}{ds:List (DataW H)}{ps:List MemPlace}(h:DataW.Trod enc P w base spare held t v d p)(a:DataW.TrodAll enc P w base spare held ts vs ds ps) :
 DataW.TrodAll enc P w base spare held (t::ts) (v::vs) (d::ds) (p++ps):=⟨p,ps,h,a,rfl⟩
end
def wf8{n:Int}(h:(Lit.int .u8 n).wf=true):0<=n/\n<=255:=by
 simp[Lit.wf,aP,aS,aT,a6]at h;omega
def asp{n:Int}(h:(Lit.int .u16 n).wf=true):0<=n/\n<=65535:=by
 simp[Lit.wf,aP,aS,aT,a6]at h;omega
end Go.Proofs.YtlpginenlbdgcaaGreat
