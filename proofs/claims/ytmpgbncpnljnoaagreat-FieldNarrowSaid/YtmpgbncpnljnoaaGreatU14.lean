/- FieldNarrow: for every course, peg, group, minute and any two spans the function FieldNarrow of the given program returns true, and what its arguments read reads behind the call as before. Conditions: those of the given row: calm tape, company of leaving goroutines, outside nothing kept but the passing of time; whatever the world holds besides; every order of the regions that draw one, every schedule. -/
import Derived.Test.YtmpgbncpnljnoaaGreatU02
import Derived.Test.YtmpgbncpnljnoaaGreatU09
import Derived.Test.YtmpgbncpnljnoaaGreatU13
import Derived.Deep.Slices
import Derived.ProofKit
import Derived.Test.YtmpgbncpnljnoaaGreatRows
set_option linter.all false
open Go.Proofs.Tryz renaming progTables->aa,funcs->ab,prog->ac,underlying30->ad,underlying104->ae,underlying102->ag,underlying85->ao,underlying27->ap,f3->aq,underlying5->ar,underlying28->aw,func3->aF,checked->aH
open Go.Frame renaming enter->aI
open Go renaming TypeId->aL,MemPlace->aP
open Go.DataW renaming trod_struct->aS,TrodAll->aT
open Nat renaming le_refl->a6,lt_irrefl->a7,not_lt_zero->a8
open Go.Deep renaming choose_lt->a9
open Go.IntKind renaming min->ba,max->bb,signed->bc,bits->bd,i64->bg
open Go.Value renaming okWide->bi,bool->bj,int->bm,string->bo,slice->bp,agg->bq
open Go.ChangeShapes renaming trodAll_cons->br,open_int->bs,shut_int->bt
open Go.CallKind renaming normal->bu
namespace Go.Proofs
open Go.bJ Go.Conc Go.ConcM Go.RowKit
noncomputable abbrev PA:Program:=⟨aa,ab⟩
def U6{f:FuncId}{fn:Func}{tr:Tmp}(hf:FF f=true)(k:XX f=false)(L:Tryz.progTables.inits.idxOf? f=none)(r:cY.funcs[f]?=some fn)(s:ab[f]?=some fn)(O:fn.results=#[.tmp tr])
 {W:World} (Q:Tryz.progTables.globals.size<=W.heap.size) (S:Calm W.tape) {g args:Array Value} (m:VA FF (ox W) g args)
 (law:∀w:World,w.heap=(cV FF W).heap->Calls PL f g w (aO (bj true) w)) :
 ∃M last o w' p,runNT PA (M+1) (solo (G (aI PA f args bu) []) W) #[]=(.ended o w',p)/\runN PA M (solo (G (aI PA f args bu) []) W)=.next last/\step PA last=.ended o w'/\
  Go.Conc.Good PA (λv a=>v=bj true/\Below W.heap.size W { a with os:=W.os }/\OsLater W.os a.os) last o w' p:=by
 let R:Value->World->Prop:=λv w'=>v=bj true/\∀b,b<W.heap.size->w'.heap[b]?=(cV FF W).heap[b]?;have H:∀v w I d,R v w->R v (World.re w I d):=λv w I d h=>h;have i:WR Tryz.progTables.globals.size FF (codeOk aa FF ZZ) (ox W) (cV FF W) W:=wr0 Q rfl;have T:Term PC (lQ PC f R) (fH (aI PC f g bu) [aX PC]) (cV FF W):=by
  refine zD bV (ρ:=ox W) Yr i hf m (R:=R) H λU=>?_;refine(law ((cV FF W).re U 0) rfl).mono ?_;rintro e w'⟨rfl,V⟩;exact⟨rfl,λb hb=>V.block b (by show b<(cV FF W).heap.size;rw[mT];omega)⟩
 have c:iE aa cY.funcs FF ZZ (fH (aI PC f g bu) [aX PC]) (cV FF W):=
  ⟨ox W,fH (aI PC f args bu) [],W,⟨.alike (fe (bV.same f hf rfl) hf m),⟨[],rfl,.nil,(λx k=>by cases k;rfl),λ_=>fe (bV.same f hf rfl) hf m⟩,rfl,rfl,rfl,rfl,rfl,rfl⟩,Yr,i⟩
 have u:=Yp JN bV (R:=R) H L r s O (U2 f R) T c 0 _ _ (cV FF W).tape (cV FF W).drawn (.zero _ _);have u:kK aa cY.funcs ab FF XX ZZ R (fH (aI PC f g bu) [aX PC]) (cV FF W):=u;have J:aQ aa FF ZZ cY.funcs ab (ox W) (aI PC f g bu) (aI PA f args bu):=fe (JN.same f hf k) hf m;have y:GR aa cY.funcs ab FF XX ZZ (aX PC) (ox W) (fH (aI PC f g bu) [aX PC]) (fH (aI PA f args bu) []):=
  ⟨.alike J,⟨[],rfl,.nil,(λx k=>by cases k;rfl),λ_=>J⟩,rfl,rfl,rfl,rfl,rfl,rfl⟩
 obtain⟨N,aJ,v,v',wl,j,z,g1,q,t1,q1,X,K,A,Y,Z,r5,r6,r7,r8,r9,l⟩:=u (ox W) (fH (aI PA f args bu) []) W #[fH (aI PA f args bu) []] none #[] (λ_=>0) (λ_=>False) c y Yr i
  ⟨rfl,leavers_one _ _,past_nil.mono (Nat.zero_le _),λop aB=>by simp at aB⟩ ⟨λ_ h=>h.elim,λ_ h=>h.elim,λ_ h=>h.elim⟩ S
 obtain⟨rfl,C⟩:=r6;have Dm:=LV (w0:=cV FF W) rfl C r7 r8 r9 l;obtain rfl:v'=bj true:=by cases r5;rfl
 have Eb:∀d,(fun(v:Value)(a:World)=>v=bj true/\Below W.heap.size W { a with os:=W.os }/\OsLater W.os a.os) (bj true) (j.at d):=λd=>
  ⟨rfl,⟨rfl,l.tape,l.output,l.size,Dm⟩,l.os⟩
 obtain⟨E,last,o,w',p,e1,e2,e3,e4⟩:=beside_ends (P:=PA) (Shun:=X) (B:=j.heap.size) (D:=λ_ _ _=>False) (Post:=λv a=>v=bj true/\Below W.heap.size W { a with os:=W.os }/\OsLater W.os a.os) (λ_ _ _ h=>h.elim) A.main A.old A.GA (n:=0) (w:=j) (sl:=q)
  (λai⟨d,e⟩=>by subst e;exact⟨Y,bj true,#[],Z d,(λe he=>by simp at he),Eb d⟩)
 refine⟨N+E,last,o,w',p,?_,?_,e3,e4⟩
 ·show runNT PA (N+(E+1)) (crowd _ W none) #[]=_;have F:runNT PA N (crowd #[G (aI PA f args bu) []] W none) #[]=(.next (crowd z j q),t1):=K;rw[Go.runNT_add,F];exact e1
 ·show runN PA (N+E) (crowd _ W none)=_;have F:runN PA N (crowd #[fH (aI PA f args bu) []] W none)=.next (crowd z j q):=by rw[<-runNT_fst (t:=#[]),K]
  have h2:runN PA N (crowd #[G (aI PA f args bu) []] W none)=.next (crowd z j q):=F;rw[runN_add,h2];exact e2
end Go.Proofs
namespace Go.Proofs
open Go.bJ Go.Deep Go.RowKit
set_option maxRecDepth 100000
section
variable {H:Type}{enc:aL×Value->H}{W:World}
def Td(enc:aL×Value->H)(W:World)(t:aL)(cs:List Value):Prop:=∃n x,DataW.trod enc ac W 0 (λ_=>true) true n t cs=some x
def pF(cs:List Value)(o:Nat):Prop:=∃m,cs[o]?=some (bm bg m)
def Td.int{cs:List Value}(h:Td enc W 3 cs):∃m,cs=[bm bg m]:=by
 obtain⟨n,x,h⟩:=h
 grind[DataW.trod_int,Tryz.underlying3]
def Td.str{cs:List Value}(h:Td enc W 9 cs):∃s,cs=[bo s]:=by
 obtain⟨n,x,h⟩:=h
 grind[DataW.trod_string,Tryz.underlying9]
def Td.field{t:aL}{fs:Array Field}(a:Tryz.prog.underlying t=some (.struct fs)){cs:List Value}(h:Td enc W t cs){i:Nat}{f:Field}(hi:fs[i]?=some f):Td enc W f.type ((cs.drop f.offset).take (Tryz.prog.cellsOf f.type)):=by
 obtain⟨n,x,h⟩:=h;obtain⟨xs,m,_,_,_,hl,hf⟩:=aS a h;have e:=hf i f hi;have b:i<xs.length:=by grind
 rw[List.getElem?_eq_getElem b]at e;exact⟨m,_,e⟩
def Td.len{t:aL}{fs:Array Field}(a:Tryz.prog.underlying t=some (.struct fs)){cs:List Value}(h:Td enc W t cs):cs.length=Tryz.prog.cellsOf t:=by
 obtain⟨n,x,h⟩:=h;obtain⟨xs,m,_,_,hl,_⟩:=aS a h;exact hl
def Kg{cs:List Value}{o n:Nat}{l:List Value}(h:(cs.drop o).take n=l){j:Nat}(a:j<n):cs[o+j]?=l[j]?:=by
 grind
def Rk:Tryz.prog.cellsOf 3=1:=by kernel_rfl
def aat:Tryz.prog.cellsOf 9=1:=by kernel_rfl
def Kh:Tryz.prog.cellsOf 30=2:=by kernel_rfl
def Vl:Tryz.prog.cellsOf 104=3:=by kernel_rfl
def Ki:Tryz.prog.cellsOf 85=12:=by kernel_rfl
def Vm:Tryz.prog.cellsOf 102=3:=by kernel_rfl
theorem Vn:Tryz.prog.cellsOf 64=1:=by kernel_rfl
def Vo:Tryz.prog.cellsOf 27=6:=by kernel_rfl
def Vp:Tryz.prog.cellsOf 22=1:=by kernel_rfl
def Vq:Tryz.prog.cellsOf 23=1:=by kernel_rfl
def Vr:Tryz.prog.cellsOf 24=1:=by kernel_rfl
def Vs:Tryz.prog.cellsOf 25=1:=by kernel_rfl
def kC{cs:List Value}{o:Nat}(h:Td enc W 3 ((cs.drop o).take (Tryz.prog.cellsOf 3))):pF cs o:=by
 rw[Rk]at h;obtain⟨m,e⟩:=h.int;exact⟨m,by simpa using Kg e (j:=0) (by decide)⟩
def Rm{cs:List Value}{o:Nat}(h:Td enc W 9 ((cs.drop o).take (Tryz.prog.cellsOf 9))):∃s,cs[o]?=some (bo s):=by
 rw[aat]at h;obtain⟨m,e⟩:=h.str;exact⟨m,by simpa using Kg e (j:=0) (by decide)⟩
def yy{cs:List Value}(h:Td enc W 30 cs):pF cs 0/\pF cs 1:=⟨kC (h.field ad (i:=0) rfl),kC (h.field ad (i:=1) rfl)⟩
def wF{cs:List Value}{o:Nat}(h:Td enc W 30 ((cs.drop o).take (Tryz.prog.cellsOf 30))):pF cs o/\pF cs (o+1):=by
 obtain⟨⟨a,c⟩,⟨b,hb⟩⟩:=yy h;rw[Kh]at c hb;exact⟨⟨a,by grind⟩,⟨b,by grind⟩⟩
def Ie{cs:List Value}(h:Td enc W 104 cs):pF cs 0/\pF cs 1/\pF cs 2:=
 ⟨kC (h.field ae (i:=0) rfl),kC (h.field ae (i:=1) rfl),kC (h.field ae (i:=2) rfl)⟩
def EI{cs:List Value}(h:Td enc W 102 cs):(∃s,cs[0]?=some (bo s))/\pF cs 1/\pF cs 2:=
 ⟨Rm (h.field ag (i:=0) rfl),kC (h.field ag (i:=1) rfl),kC (h.field ag (i:=2) rfl)⟩
def Ni{cs:List Value}(h:Td enc W 85 cs):(∃s,cs[0]?=some (bo s))/\(∀j,1<=j->j<=10->pF cs j)/\∃u,cs[11]?=some u/\Td enc W 64 [u]:=by
 have c:=wF (h.field ao (i:=1) rfl);have d:=wF (h.field ao (i:=2) rfl);have g:=kC (h.field ao (i:=3) rfl);have k:=kC (h.field ao (i:=4) rfl);have e:=wF (h.field ao (i:=5) rfl);have f:=wF (h.field ao (i:=6) rfl);have l:=h.field ao (i:=7) rfl;have hl:=h.len ao;rw[Ki]at hl;refine⟨Rm (h.field ao (i:=0) rfl),λj a b=>?_,?_⟩
 ·match j,a,b with
  |1,_,_=>exact c.1
  |2,_,_=>exact c.2
  |3,_,_=>exact d.1
  |4,_,_=>exact d.2
  |5,_,_=>exact g
  |6,_,_=>exact k
  |7,_,_=>exact e.1
  |8,_,_=>exact e.2
  |9,_,_=>exact f.1
  |10,_,_=>exact f.2
  |n+11,_,b=>exact absurd b (by omega)
 ·have hd:((cs.drop 11).take (Tryz.prog.cellsOf 64))=[cs[11]'(by omega)]:=by
   grind[Vn,List.drop_eq_getElem_cons]
  simp_all
theorem aau(k o n:Nat):(⟨k,o,none⟩:Addr).add n=⟨k,o+n,none⟩:=by
 unfold Addr.add
 grind
def Rn{t e d:Nat}(z:Tryz.prog.underlying t=some (.slice e))(hc:Tryz.prog.cellsOf e=d)(hs:0<d){u:Value}(h:Td enc W t [u]) :
 ∃(b:Option Addr)(n c k o:Nat),u=bp b n c/\n<=c/\(b=none\/(∃a,b=some a/\Sb W a.block)\/(n=0/\c=0))/\(0<c->b=some ⟨k,o,none⟩)/\k<W.heap.size+1/\
  ∀i,i<n->∃cs,Td enc W e cs/\∀j,j<d->W.cell? ⟨k,o+i*d+j,none⟩=cs[j]?:=by
 obtain⟨fuel,x,h⟩:=h
 rcases open_slice z h with⟨e1,_⟩|⟨a,len,cap,m,n,D,I,e1,_,hl,_,A,_,r⟩
 ·cases e1;exact⟨none,0,0,0,0,rfl,a6 _,.inl rfl,λh=>absurd h (a7 _),by omega,λi hi=>absurd hi (a8 _)⟩
 ·cases e1;obtain rfl:m=cap:=A;rw[hc]at r
  rcases Nat.eq_zero_or_pos m with g|g
  ·subst g;obtain rfl:len=0:=by omega
   exact⟨some a,0,0,0,0,rfl,a6 _,.inr (.inr ⟨rfl,rfl⟩),λh=>absurd h (a7 _),by omega,λi hi=>absurd hi (a8 _)⟩
  ·have cell:∀i,i<m->∃cs,Td enc W e cs/\cs.length=d/\∀j,j<d->W.cell? (a.add (i*d+j))=cs[j]?:=by
    intro i hi;obtain⟨cs,B,C⟩:=r i hi;obtain⟨_,v,l⟩:=World.cells?_some B;exact⟨cs,⟨n,_,C⟩,v,λj E=>by rw[<-l j E,Deep.add_add]⟩
   obtain⟨p,_,v,l⟩:=cell 0 g;have w:=l 0 hs;rw[List.getElem?_eq_getElem (by omega)]at w;have f:W.cell? a=some p[0]:=by rw[<-w];unfold Addr.add;simp
   obtain⟨k,o,s⟩:=a;have q:s=none:=by
    cases s with
    |none=>rfl
    |some _=>
     unfold World.cell? at f
     split at f<;>cases f
   subst q;have y:=(xA (F:=FF) f).2;have J:k<W.heap.size:=by
    obtain⟨_,_,_,hb⟩:=y;exact bE hb
   refine⟨some ⟨k,o,none⟩,len,m,k,o,rfl,hl,.inr (.inl ⟨_,rfl,y⟩),λ_=>rfl,by omega,λi hi=>?_⟩;obtain⟨cs,K,_,L⟩:=cell i (by omega)
   grind[aau,Nat.add_assoc]
theorem afv{w:World}(a:w.heap=(cV FF W).heap){k o:Nat}{v:Value}(h:W.cell? ⟨k,o,none⟩=some v):w.cell? ⟨k,o,none⟩=some (rep FF W v):=by
 have e:w.cell? ⟨k,o,none⟩=(cV FF W).cell? ⟨k,o,none⟩:=by unfold World.cell?;rw[a]
 rw[e];exact(xA h).1
def iT(n:Int):rep FF W (bm bg n)=bm bg n:=(oy FF W _).int _ _ rfl
def Kj(s:ByteArray):rep FF W (bo s)=bo s:=(oy FF W _).str _ rfl
instance:Inhabited iJ:=⟨⟨ByteArray.empty,λ_=>0,none,0,0,0,0,λ_=>0⟩⟩
def kD{t e a:Nat}(d:Tryz.prog.underlying t=some (.slice e))(hc:Tryz.prog.cellsOf e=a)(hs:0<a){u:Value}(h:Td enc W t [u]) :
 ∃(b:Option Addr)(n c k o:Nat),rep FF W u=bp b n c/\(0<n->b=some ⟨k,o,none⟩)/\k<(cV FF W).heap.size/\
  ∀i,i<n->∃cs,Td enc W e cs/\∀j v,j<a->cs[j]?=some v->∀w:World,w.heap=(cV FF W).heap->w.cell? ⟨k,o+i*a+j,none⟩=some (rep FF W v):=by
 obtain⟨b,n,c,k,o,rfl,hl,hb,l,f,g⟩:=Rn d hc hs h;obtain⟨b',e,m⟩:=(oy FF W (bp b n c)).sl b n c rfl hb;refine⟨b',n,c,k,o,e,λh=>by grind,by rw[mT];exact f,λi hi=>?_⟩;obtain⟨cs,p,q⟩:=g i hi
 grind[afv]
def EJ{cs:List Value}(h:Td enc W 27 cs):∃C:CD,C.val=(cs.map (rep FF W)).toArray/\∀w:World,w.heap=(cV FF W).heap->C.Mem w:=by
 have hl:=h.len ap;rw[Vo]at hl;obtain⟨c0,c1,B,c3,D,E,rfl⟩:∃a b c d e f,cs=[a,b,c,d,e,f]:=by
  match cs,hl with
  |[a,b,c,d,e,f],_=>grind
 obtain⟨l,K⟩:=kC (h.field ap (i:=0) rfl);obtain⟨p,L⟩:=kC (h.field ap (i:=1) rfl);have Y:Td enc W 22 [B]:=by
  have:Td enc W 22 (([c0,c1,B,c3,D,E].drop 2).take (Tryz.prog.cellsOf 22)):=h.field ap (i:=2) rfl;rw[Vp]at this;exact this
 have Z:Td enc W 23 [c3]:=by
  have:Td enc W 23 (([c0,c1,B,c3,D,E].drop 3).take (Tryz.prog.cellsOf 23)):=h.field ap (i:=3) rfl;rw[Vq]at this;exact this
 have s4:Td enc W 24 [D]:=by
  have:Td enc W 24 (([c0,c1,B,c3,D,E].drop 4).take (Tryz.prog.cellsOf 24)):=h.field ap (i:=4) rfl;rw[Vr]at this;exact this
 have s5:Td enc W 25 [E]:=by
  have:Td enc W 25 (([c0,c1,B,c3,D,E].drop 5).take (Tryz.prog.cellsOf 25)):=h.field ap (i:=5) rfl;rw[Vs]at this;exact this
 obtain rfl:c0=bm bg l:=by simpa using K
 obtain rfl:c1=bm bg p:=by simpa using L
 obtain⟨b2,S,q2,k2,F,e2,p2,h2,a2⟩:=kD Tryz.underlying22 Kh (by decide) Y;obtain⟨b3,T,q3,k3,s,e3,p3,h3,a3⟩:=kD Tryz.underlying23 Vl (by decide) Z;obtain⟨b4,U,q4,t,v,e4,p4,h4,a4⟩:=kD Tryz.underlying24 Ki (by decide) s4;obtain⟨b5,V,q5,y,z,e5,p5,h5,a5⟩:=kD Tryz.underlying25 Vm (by decide) s5;obtain⟨x2,X⟩:∃x2:Nat->Int×Int,∀i,i<S->∀w:World,w.heap=(cV FF W).heap->w.cell? ⟨k2,F+i*2,none⟩=some (bm bg (x2 i).1)/\w.cell? ⟨k2,F+i*2+1,none⟩=some (bm bg (x2 i).2):=by
  refine a9 (p:=λi(x:Int×Int)=>∀w:World,w.heap=(cV FF W).heap->w.cell? ⟨k2,F+i*2,none⟩=some (bm bg x.1)/\w.cell? ⟨k2,F+i*2+1,none⟩=some (bm bg x.2)) λi hi=>?_;obtain⟨cs,r,q⟩:=a2 i hi;obtain⟨⟨a,A⟩,⟨b,hb⟩⟩:=yy r;exact⟨(a,b),λw g=>⟨by have:=q 0 _ (by decide) A w g;rwa[iT]at this,by have:=q 1 _ (by decide) hb w g;rwa[iT]at this⟩⟩
 obtain⟨x3,M⟩:∃x3:Nat->Int×Int×Int,∀i,i<T->∀w:World,w.heap=(cV FF W).heap->w.cell? ⟨k3,s+i*3,none⟩=some (bm bg (x3 i).1)/\w.cell? ⟨k3,s+i*3+1,none⟩=some (bm bg (x3 i).2.1)/\w.cell? ⟨k3,s+i*3+2,none⟩=some (bm bg (x3 i).2.2):=by
  refine a9 (p:=λi(x:Int×Int×Int)=>∀w:World,w.heap=(cV FF W).heap->w.cell? ⟨k3,s+i*3,none⟩=some (bm bg x.1)/\w.cell? ⟨k3,s+i*3+1,none⟩=some (bm bg x.2.1)/\w.cell? ⟨k3,s+i*3+2,none⟩=some (bm bg x.2.2)) λi hi=>?_;obtain⟨cs,r,q⟩:=a3 i hi;obtain⟨⟨a,A⟩,⟨b,hb⟩,⟨c,hc⟩⟩:=Ie r;exact⟨(a,b,c),λw g=>⟨by have:=q 0 _ (by decide) A w g;rwa[iT]at this,by have:=q 1 _ (by decide) hb w g;rwa[iT]at this,by have:=q 2 _ (by decide) hc w g;rwa[iT]at this⟩⟩
 obtain⟨I,N⟩:∃I:Nat->ByteArray×Int×Int,∀i,i<V->∀w:World,w.heap=(cV FF W).heap->w.cell? ⟨y,z+i*3,none⟩=some (bo (I i).1)/\w.cell? ⟨y,z+i*3+1,none⟩=some (bm bg (I i).2.1)/\w.cell? ⟨y,z+i*3+2,none⟩=some (bm bg (I i).2.2):=by
  refine a9 (p:=λi(x:ByteArray×Int×Int)=>∀w:World,w.heap=(cV FF W).heap->w.cell? ⟨y,z+i*3,none⟩=some (bo x.1)/\w.cell? ⟨y,z+i*3+1,none⟩=some (bm bg x.2.1)/\w.cell? ⟨y,z+i*3+2,none⟩=some (bm bg x.2.2)) λi hi=>?_;obtain⟨cs,r,q⟩:=a5 i hi;obtain⟨⟨a,A⟩,⟨b,hb⟩,⟨c,hc⟩⟩:=EI r;exact⟨(a,b,c),λw g=>⟨by have:=q 0 _ (by decide) A w g;rwa[Kj]at this,by have:=q 1 _ (by decide) hb w g;rwa[iT]at this,by have:=q 2 _ (by decide) hc w g;rwa[iT]at this⟩⟩
 obtain⟨x4,f4⟩:∃x4:Nat->iJ,∀i,i<U->∀w:World,w.heap=(cV FF W).heap->w.cell? ⟨t,v+i*12,none⟩=some (bo (x4 i).name)/\(∀j,1<=j->j<=10->w.cell? ⟨t,v+i*12+j,none⟩=some (bm bg ((x4 i).n j)))/\
  w.cell? ⟨t,v+i*12+11,none⟩=some (bp (x4 i).lb (x4 i).ln (x4 i).lc)/\(0<(x4 i).ln->(x4 i).lb=some ⟨(x4 i).lk,(x4 i).lo,none⟩/\(x4 i).lk<w.heap.size)/\∀j,j<(x4 i).ln->w.cell? ⟨(x4 i).lk,(x4 i).lo+j,none⟩=some (bm bg ((x4 i).lane j)):=by
  refine a9 (p:=λi(x:iJ)=>∀w:World,w.heap=(cV FF W).heap->w.cell? ⟨t,v+i*12,none⟩=some (bo x.name)/\(∀j,1<=j->j<=10->w.cell? ⟨t,v+i*12+j,none⟩=some (bm bg (x.n j)))/\
   w.cell? ⟨t,v+i*12+11,none⟩=some (bp x.lb x.ln x.lc)/\(0<x.ln->x.lb=some ⟨x.lk,x.lo,none⟩/\x.lk<w.heap.size)/\∀j,j<x.ln->w.cell? ⟨x.lk,x.lo+j,none⟩=some (bm bg (x.lane j))) λi hi=>?_
  obtain⟨cs,r,q⟩:=a4 i hi;obtain⟨⟨a,A⟩,hn,⟨u,hu,J4⟩⟩:=Ni r;obtain⟨O,P⟩:∃O:Nat->Int,∀j,j<11->1<=j->cs[j]?=some (bm bg (O j)):=a9 (p:=λj(m:Int)=>1<=j->cs[j]?=some (bm bg m)) λj J=>by
   by_cases h1:1<=j
   ·obtain⟨m,hm⟩:=hn j h1 (by omega);exact⟨m,λ_=>hm⟩
   grind
  obtain⟨b,n,c,k,o,e,pz,hk,al⟩:=kD Tryz.underlying64 Rk (by decide) J4;obtain⟨Q,R⟩:∃Q:Nat->Int,∀j,j<n->∀w:World,w.heap=(cV FF W).heap->w.cell? ⟨k,o+j,none⟩=some (bm bg (Q j)):=a9 (p:=λj(m:Int)=>∀w:World,w.heap=(cV FF W).heap->w.cell? ⟨k,o+j,none⟩=some (bm bg m)) λj J=>by
   obtain⟨cs,r,q⟩:=al j J;obtain⟨m,rfl⟩:=r.int;exact⟨m,λw g=>by have:=q 0 _ (by decide) rfl w g;rw[iT,Nat.mul_one]at this;exact this⟩
  exact⟨⟨a,O,b,n,c,k,o,Q⟩,λw g=>⟨by have:=q 0 _ (by decide) A w g;rwa[Kj]at this,λj j1 j2=>by have:=q j _ (by omega) (P j (by omega) j1) w g;rwa[iT]at this,
   by grind,λh=>⟨pz h,by rw[g];exact hk⟩,λj J=>R j J w g⟩⟩
 refine⟨⟨l,p,b2,k2,F,S,q2,x2,b3,k3,s,T,q3,x3,b4,t,v,U,q4,x4,b5,y,z,V,q5,I⟩,?_,λw g=>?_⟩
 ·simp only[List.map_cons,List.map_nil,iT,e2,e3,e4,e5]
 ·exact⟨by rw[g];exact h2,by rw[g];exact h3,by rw[g];exact h4,by rw[g];exact h5,p2,p3,p4,p5,λi hi=>(X i hi w g).1,λi hi=>(X i hi w g).2,λi hi=>(M i hi w g).1,λi hi=>(M i hi w g).2.1,λi hi=>(M i hi w g).2.2,
   λi hi=>(f4 i hi w g).1,λi hi=>(f4 i hi w g).2.1,λi hi=>(f4 i hi w g).2.2.1,λi hi=>(f4 i hi w g).2.2.2.1,λi hi=>(f4 i hi w g).2.2.2.2,λi hi=>(N i hi w g).1,λi hi=>(N i hi w g).2.1,λi hi=>(N i hi w g).2.2⟩
end
end Go.Proofs
namespace Go.Proofs.YtmpgbncpnljnoaaGreat
open Go.ChangeShapes Go.WideShapes Go.ChangeAt Go.RowKit Go.Conc Go.ConcM Go.bJ
def Tryz.own:ownKnob Tryz.prog.godebug=none:=by kernel_rfl
def Tryz.laidOut:laidOutB ac=true:=by kernel_rfl
def SV:Tryz.prog.globals.size<(begin ac (λ_ _=>0) default).world.heap.size:=of_decide_eq_true (by kernel_rfl)
def Fw{W:World}(h:W.ShapedOpen ac):Tryz.progTables.globals.size<=W.heap.size:=by
 obtain⟨_,a⟩:=h;obtain⟨o,_,e,_⟩:=a _ (a6 _) SV;exact Nat.le_of_lt (bE e)
set_option maxRecDepth 100000 in
def agp{f:FuncId}(h:43≠f):cY.funcs[f]?=ab[f]?:=by
 show(Tryz.funcs.setIfInBounds 43 nS)[f]?=_;rw[Array.getElem?_setIfInBounds_ne h]
section
variable {H:Type}{enc:aL×Value->H}{P:Program}{w:World}{base:Nat}{spare:Nat->Bool}{held:Bool}
def u7{t:aL}{v:Value}{d:DataW H}{p:List aP}{ts:List aL}{vs:List Value}{ds:List (DataW H)}{ps:List aP}(h:DataW.Trod enc P w base spare held t v d p)(a:aT enc P w base spare held ts vs ds ps) :
 aT enc P w base spare held (t::ts) (v::vs) (d::ds) (p++ps):=⟨p,ps,h,a,rfl⟩
end
def wf8{n:Int}(h:(Lit.int .u8 n).wf=true):0<=n/\n<=255:=by
 simp[Lit.wf,ba,bb,bc,bd]at h;omega
def asF{n:Int}(h:(Lit.int .u16 n).wf=true):0<=n/\n<=65535:=by
 simp[Lit.wf,ba,bb,bc,bd]at h;omega
end Go.Proofs.YtmpgbncpnljnoaaGreat
namespace Go.Proofs
open Go.bJ Go.Deep Go.RowKit
set_option maxRecDepth 100000
def ac0{H:Type}{enc:aL×Value->H}{W:World}{cs:Array Value}(h:Td enc W 30 cs.toList):∃a b,cs=#[bm bg a,bm bg b]:=by
 obtain⟨⟨a,c⟩,⟨b,hb⟩⟩:=yy h;have hl:=h.len ad;rw[Kh]at hl;refine⟨a,b,?_⟩
 grind
end Go.Proofs
namespace Go.Proofs.YtmpgbncpnljnoaaGreat
open Go.ChangeShapes Go.WideShapes Go.ChangeAt Go.RowKit Go.Conc Go.ConcM Go.bJ
section
variable {H:Type}{enc:aL×Value->H}
set_option maxRecDepth 100000 in
def aoI{W:World}(hG:Tryz.progTables.globals.size<=W.heap.size)(lS:Calm W.tape){args:Array Value}{ds gs:List (DataW H)}{before:List aP}
 (hval:∀(j:Nat)t v,Tryz.f3.params[j]?=some t->args[j]?=some v->bi ac W .any W.heap.size t v)
 (hW:DataW.Whole enc ac Tryz.f3.params.toList Rows.fieldNarrowSpec.vars false W args.toList ds gs before) :
 ∃M last o w' t',runNT ac (M+1) (solo (G (aI ac 3 args bu) []) W) #[]=(.ended o w',t')/\runN ac M (solo (G (aI ac 3 args bu) []) W)=.next last/\step ac last=.ended o w'/\
  Go.Conc.Good ac (λv W'=>Rows.fieldNarrowSpec.post enc ac aq false true false false W args v { W' with os:=W.os }/\OsLater W.os W'.os) last o w' t':=by
 have hW':=hW;obtain⟨p,q,hA0,hV,rfl,_,_⟩:=hW;have hA:aT enc ac W 0 (λ_=>true) true Tryz.f3.params.toList args.toList ds p:=hA0;rw[Tryz.params3]at hA hval;obtain⟨v0,r0,d0,e0,p0,q0,MW,rfl,rfl,h0,hA0⟩:=br hA;obtain⟨v1,r1,d1,e1,p1,q1,GM,rfl,rfl,h1,hA1⟩:=br hA0;subst GM;obtain⟨v2,r2,d2,e2,p2,q2,Tk,rfl,rfl,h2,hA2⟩:=br hA1;subst Tk;obtain⟨v3,r3,d3,e3,p3,q3,Q8,rfl,rfl,h3,hA3⟩:=br hA2;subst Q8;obtain⟨v4,r4,d4,e4,p4,q4,hr4,rfl,rfl,h4,hA4⟩:=br hA3;subst hr4;obtain⟨v5,r5,d5,e5,p5,q5,hr5,rfl,rfl,h5,hA5⟩:=br hA4;subst hr5;obtain⟨rfl,rfl,rfl⟩:=trodAll_nil hA5;obtain rfl:args=#[v0,v1,v2,v3,v4,v5]:=by cases args;simp_all
 obtain⟨rfl,rfl⟩:=trodVars_none hV;obtain⟨n1,rfl,rfl,rfl,b1⟩:=bs ar (hval 1 5 v1 rfl rfl) h1;obtain⟨n2,rfl,rfl,rfl,b2⟩:=bs ar (hval 2 5 v2 rfl rfl) h2;obtain⟨n3,rfl,rfl,rfl,b3⟩:=bs aw (hval 3 28 v3 rfl rfl) h3;obtain⟨cs,rfl,_⟩:∃cs,v0=bq cs/\_:=by
  have:=hval 0 27 v0 rfl rfl;unfold bi at this;rw[ap]at this;exact this
 have WB:=h0;have acY:∀x∈p0,x.block<W.heap.size:=λx hx=>hW'.lt x (by simp[hx]);obtain⟨fuel,hf⟩:=h0;obtain⟨C,hC,hM⟩:=EJ (enc:=enc) (W:=W) (cs:=cs.toList) ⟨fuel,_,hf⟩;obtain⟨cs4,rfl,_⟩:∃cs,v4=bq cs/\_:=by
  have:=hval 4 30 v4 rfl rfl;unfold bi at this;rw[ad]at this;exact this
 have ER:=h4;have ata:∀x∈p4,x.block<W.heap.size:=λx hx=>hW'.lt x (by simp[hx]);obtain⟨aoJ,hf4⟩:=h4;obtain⟨a4,c4,rfl⟩:=ac0 (enc:=enc) (W:=W) (cs:=cs4) ⟨aoJ,_,hf4⟩;obtain⟨cs5,rfl,_⟩:∃cs,v5=bq cs/\_:=by
  have:=hval 5 30 v5 rfl rfl;unfold bi at this;rw[ad]at this;exact this
 have hk5:=h5;have atc:∀x∈p5,x.block<W.heap.size:=λx hx=>hW'.lt x (by simp[hx]);obtain⟨aoK,hf5⟩:=h5;obtain⟨a5,c5,rfl⟩:=ac0 (enc:=enc) (W:=W) (cs:=cs5) ⟨aoK,_,hf5⟩;have hva:VA FF (ox W) #[bq C.val,bm .u8 n1,bm .u8 n2,bm .u16 n3,bq #[bm bg a4,bm bg c4],bq #[bm bg a5,bm bg c5]] #[bq cs,bm .u8 n1,bm .u8 n2,bm .u16 n3,bq #[bm bg a4,bm bg c4],bq #[bm bg a5,bm bg c5]]:=by
  refine .cons (.agg ?_) (.cons (.int _ _) (.cons (.int _ _) (.cons (.int _ _) (.cons (.agg (.cons (.int _ _) (.cons (.int _ _) .nil))) (.cons (.agg (.cons (.int _ _) (.cons (.int _ _) .nil))) .nil)))));rw[hC];exact Je _
 obtain⟨M,last,o,w',t',e1,e2,e3,v,e,⟨rfl,agq,YM⟩,g1,g2,g3,g4⟩:=U6 (f:=3) (fn:=aq) (tr:=12) (by decide) rfl (by kernel_rfl) ((agp (by decide)).trans aF) aF Tryz.results3 hG lS hva
  (λw hw=>afw IV C n1 n2 n3 a4 c4 a5 c5 w (hM w hw) (wf8 b1) (wf8 b2) (asF b3))
 refine⟨M,last,o,w',t',e1,e2,e3,_,e,⟨?_,YM⟩,g1,g2,g3,g4⟩;exact⟨_,_,_,[],_,[],hW',trodAll_mk1 (shut_bool Tryz.underlying4 _),u7 (Below.trod Tryz.laidOut (by kernel_rfl) (of_decide_eq_true (by kernel_rfl)) WB agq acY) (u7 (bt ar b1) (u7 (bt ar b2) (u7 (bt aw b3) (u7 (Below.trod Tryz.laidOut (by kernel_rfl) (of_decide_eq_true (by kernel_rfl)) ER agq ata) (u7 (Below.trod Tryz.laidOut (by kernel_rfl) (of_decide_eq_true (by kernel_rfl)) hk5 agq atc) (trodAll_mk0)))))),rfl,agq.frame _,λh=>by cases h⟩
set_option maxRecDepth 100000 in
def abg(os:Os)(started:os.Started)(F:Stop.Interp) :
 ReturnsInLeavingWide Rows.fieldNarrowRow.assume aH os 3 .any (Rows.fieldNarrowSpec.pre6 enc ac aq Rows.fieldNarrowRow.domain false) ((OpenSpec.ofChange Rows.fieldNarrowSpec).postWith enc ac aq F (outsideKept [.timePasses]) false true false):=by
 refine returnsInLeavingWide_of_good (C:=aH) Tryz.own started
  (ChangeSpec.witness6c (enc:=enc) (C:=aH) ⟨#[],#[bq #[bm bg 0,bm bg 0,bp none 0 0,bp none 0 0,bp none 0 0,bp none 0 0],bm .u8 0,bm .u8 0,bm .u16 0,bq #[bm bg 0,bm bg 0],bq #[bm bg 0,bm bg 0]],[]⟩ 8 (by kernel_rfl) (by kernel_rfl) (by kernel_rfl) (by kernel_rfl)) ?_
 intro w tape i _ nV _ Ag Nw abb;obtain⟨_,_,_,dL,amt,_,_,_,_,hval⟩:=Ag;obtain rfl:dL=aq:=Option.some.inj (amt.symm.trans aF);obtain⟨⟨ds,gs,before,hw,_⟩,_⟩:=Nw;have qu:=DataW.Whole.of_heap (w':=w.forCall tape i) (by rfl) hw;have hG:=Fw nV;have lS:Calm (w.forCall tape i).tape:=abb.2.1 rfl;obtain⟨M,last,o,w2,t2,h1,h2,h3,v,e,hp,r1,r2,r3,r4⟩:=aoI hG lS (λj t v ht hv=>hval j t v ht hv) qu;exact⟨M,last,o,w2,t2,h1,h2,h3,v,e,postWith_blind (postWith_of_post hp.1 hp.2),r1,r2,r3,r4⟩
end
theorem fieldNarrow_holds:Rows.FieldNarrowSaid:=
 OpenClaim.holds_of_wide_leaving_time 3 aq rfl rfl rfl rfl rfl rfl rfl ⟨rfl,rfl,rfl,rfl,rfl⟩ rfl rfl rfl rfl rfl (by kernel_rfl) aF (by kernel_rfl)
  (of_decide_eq_true (by kernel_rfl)) (by unfold Func.isWrapper;first|(rw[if_pos (by decide +kernel)];kernel_rfl)|(rw[if_neg (by decide +kernel)];exact⟨rfl,rfl⟩))
  (λa started H enc _ F=>abg a started F)
end Go.Proofs.YtmpgbncpnljnoaaGreat
