/- Part of the proof of FieldFlat and FieldMarshals. -/
import Derived.Test.YtmkjeaacgibnoaaGreatY22
set_option linter.all false
open Go renaming Goroutine->aa
open Nat renaming mul_comm->ab,lt_or_ge->ac
open Go.Proofs.Tryz renaming progTables->ad
open List renaming range->ae,mem_cons->ag,not_mem_nil->ai,getElem?_eq_none->ao
open Go.Obj renaming cells->ap
open Go.Frame renaming enter->aq
namespace Go.Proofs
open Go.bJ Go.Conc Go.Ph
open Go.ConcN (upd upd_ne upd_same)
set_option maxRecDepth 100000
def akM:aS.extract 158 (158+6)=o7 146 135 135 41 43 0:=rfl
def akN:aS.extract 166 (166+6)=o7 154 152 153 75 77 1:=rfl
def akO:aS.extract 174 (174+6)=o7 162 160 161 109 111 2:=rfl
def akP:aS.extract 181 (181+6)=o7 169 144 144 75 77 1:=rfl
def akQ:aS.extract 189 (189+6)=o7 177 175 176 109 111 2:=rfl
def akR:aS.extract 197 (197+6)=o7 185 183 184 41 43 0:=rfl
def UZ:List Value:=[Z0,Z0,Z0,Z0,Z0,Z0,Z0,Z0,Z0,Z0]
def Qf(D:jB)(d0 d1:Int):Array Value:=
 ⟨(cG 3 0 D 0 (bS 3 0 D d0 0)).toList++((cG 3 0 D 1 (bS 3 0 D d0 1)).toList++((cG 3 0 D 2 (bS 3 0 D d0 2)).toList++(UZ ++
 ((cG 3 1 D 2 (bS 3 1 D d1 2)).toList++((cG 3 1 D 0 (bS 3 1 D d1 0)).toList++((cG 3 1 D 1 (bS 3 1 D d1 1)).toList++(UZ++(UZ++(UZ++[Z0,Z0,Z0,Z0,Z0])))))))))⟩
section
variable {f:FuncId}{R:Value->World->Prop}{g0:aa}{w0 w:World}{H:Nat->Value}{r:List Value}{cs:List Frame}
def aeT(h:Wi f R g0 w0 r cs H 158 w){D:jB}{d0 d1:Int}(A:H 135=.int .i64 d0)(e1:H 144=.int .i64 d1)
 (B:H 41=.int .i64 (D.pn 0 7)) (C:H 43=.int .i64 (D.pn 0 8)) (M:H 46=.int .i64 (D.pn 0 9)) (N:H 48=.int .i64 (D.pn 0 10))
 (E:H 75=.int .i64 (D.pn 1 7)) (F:H 77=.int .i64 (D.pn 1 8)) (I:H 80=.int .i64 (D.pn 1 9)) (j:H 82=.int .i64 (D.pn 1 10))
 (J:H 109=.int .i64 (D.pn 2 7)) (K:H 111=.int .i64 (D.pn 2 8)) (O:H 114=.int .i64 (D.pn 2 9)) (l:H 116=.int .i64 (D.pn 2 10)) :
 ∃L,L 192=.agg (Qf D d0 d1)/\Wi f R g0 w0 r cs L 205 w:=by
 obtain⟨H1,a1,P,c1,k1,W⟩:=h.vis (d:=146) (x:=135) (y:=135) (p:=41) (q:=43) (by omega) (by omega) (by omega) (by omega) (by omega) (by omega) A A B C akM;obtain⟨H2,a2,Q,k2,W⟩:=W.UY (d:=152) (x:=146) (y:=147) (p:=46) (q:=48) (by omega) (by omega) (by omega) (by omega) (by omega) (by omega) a1 P (by rw[k1 46 (by omega)];exact M) (by rw[k1 48 (by omega)];exact N) rfl rfl;obtain⟨H3,a3,S,c3,k3,W⟩:=W.vis (d:=154) (x:=152) (y:=153) (p:=75) (q:=77) (by omega) (by omega) (by omega) (by omega) (by omega) (by omega) a2 Q (by rw[k2 75 (by omega),k1 75 (by omega)];exact E) (by rw[k2 77 (by omega),k1 77 (by omega)];exact F) akN;obtain⟨H4,a4,T,a,W⟩:=W.UY (d:=160) (x:=154) (y:=155) (p:=80) (q:=82) (by omega) (by omega) (by omega) (by omega) (by omega) (by omega) a3 S (by rw[k3 80 (by omega),k2 80 (by omega),k1 80 (by omega)];exact I) (by rw[k3 82 (by omega),k2 82 (by omega),k1 82 (by omega)];exact j) rfl rfl;obtain⟨H5,a5,b5,U,b,W⟩:=W.vis (d:=162) (x:=160) (y:=161) (p:=109) (q:=111) (by omega) (by omega) (by omega) (by omega) (by omega) (by omega) a4 T (by rw[a 109 (by omega),k3 109 (by omega),k2 109 (by omega),k1 109 (by omega)];exact J) (by rw[a 111 (by omega),k3 111 (by omega),k2 111 (by omega),k1 111 (by omega)];exact K) akO;obtain⟨H6,V,c,W⟩:=W.akK (d:=168) (x:=151) (y:=159) (z:=167) (by omega) (by omega) (by omega) (by omega) (by omega) (by rw[b 151 (by omega),a 151 (by omega),k3 151 (by omega),k2 151 (by omega)];exact c1) (by rw[b 159 (by omega),a 159 (by omega)];exact c3) U rfl
 obtain⟨H7,X,Y,Z,e,W⟩:=W.vis (d:=169) (x:=144) (y:=144) (p:=75) (q:=77) (by omega) (by omega) (by omega) (by omega) (by omega) (by omega) (by rw[c 144 (by omega),b 144 (by omega),a 144 (by omega),k3 144 (by omega),k2 144 (by omega),k1 144 (by omega)];exact e1) (by rw[c 144 (by omega),b 144 (by omega),a 144 (by omega),k3 144 (by omega),k2 144 (by omega),k1 144 (by omega)];exact e1) (by rw[c 75 (by omega),b 75 (by omega),a 75 (by omega),k3 75 (by omega),k2 75 (by omega),k1 75 (by omega)];exact E) (by rw[c 77 (by omega),b 77 (by omega),a 77 (by omega),k3 77 (by omega),k2 77 (by omega),k1 77 (by omega)];exact F) akP;obtain⟨H8,a8,b8,g,W⟩:=W.UY (d:=175) (x:=169) (y:=170) (p:=80) (q:=82) (by omega) (by omega) (by omega) (by omega) (by omega) (by omega) X Y (by rw[e 80 (by omega),c 80 (by omega),b 80 (by omega),a 80 (by omega),k3 80 (by omega),k2 80 (by omega),k1 80 (by omega)];exact I) (by rw[e 82 (by omega),c 82 (by omega),b 82 (by omega),a 82 (by omega),k3 82 (by omega),k2 82 (by omega),k1 82 (by omega)];exact j) rfl rfl;obtain⟨H9,a9,b9,c9,i,W⟩:=W.vis (d:=177) (x:=175) (y:=176) (p:=109) (q:=111) (by omega) (by omega) (by omega) (by omega) (by omega) (by omega) a8 b8 (by rw[g 109 (by omega),e 109 (by omega),c 109 (by omega),b 109 (by omega),a 109 (by omega),k3 109 (by omega),k2 109 (by omega),k1 109 (by omega)];exact J) (by rw[g 111 (by omega),e 111 (by omega),c 111 (by omega),b 111 (by omega),a 111 (by omega),k3 111 (by omega),k2 111 (by omega),k1 111 (by omega)];exact K) akQ
 obtain⟨H10,zm,m,k,W⟩:=W.UY (d:=183) (x:=177) (y:=178) (p:=114) (q:=116) (by omega) (by omega) (by omega) (by omega) (by omega) (by omega) a9 b9 (by rw[i 114 (by omega),g 114 (by omega),e 114 (by omega),c 114 (by omega),b 114 (by omega),a 114 (by omega),k3 114 (by omega),k2 114 (by omega),k1 114 (by omega)];exact O) (by rw[i 116 (by omega),g 116 (by omega),e 116 (by omega),c 116 (by omega),b 116 (by omega),a 116 (by omega),k3 116 (by omega),k2 116 (by omega),k1 116 (by omega)];exact l) rfl rfl;obtain⟨H11,zM,b11,n,o,W⟩:=W.vis (d:=185) (x:=183) (y:=184) (p:=41) (q:=43) (by omega) (by omega) (by omega) (by omega) (by omega) (by omega) zm m (by rw[k 41 (by omega),i 41 (by omega),g 41 (by omega),e 41 (by omega),c 41 (by omega),b 41 (by omega),a 41 (by omega),k3 41 (by omega),k2 41 (by omega),k1 41 (by omega)];exact B) (by rw[k 43 (by omega),i 43 (by omega),g 43 (by omega),e 43 (by omega),c 43 (by omega),b 43 (by omega),a 43 (by omega),k3 43 (by omega),k2 43 (by omega),k1 43 (by omega)];exact C) akR;obtain⟨H12,s,t,W⟩:=W.akL (d:=191) (x:=174) (y:=182) (z:=190) (by omega) (by omega) (by omega) (by omega) (by omega) (by rw[o 174 (by omega),k 174 (by omega),i 174 (by omega),g 174 (by omega)];exact Z) (by rw[o 182 (by omega),k 182 (by omega)];exact c9) n rfl;obtain⟨u,v,k13,W⟩:=W.tab (d:=192) (x:=168) (y:=191) (by omega) (by omega) (by omega) (by omega) (by rw[t 168 (by omega),o 168 (by omega),k 168 (by omega),i 168 (by omega),g 168 (by omega),e 168 (by omega)];exact V) s rfl
 exact⟨u,v,W⟩
end
section
variable {f:FuncId}{R:Value->World->Prop}{g0:aa}{w0 w w':World}{H:Nat->Value}{r:List Value}{ρ:Ren}
def aah{x0 x1 x2 x3 x4 a v':Value}(h:VR FF ρ (.agg #[x0,x1,x2,x3,x4,a]) v'):∃y0 y1 y2 y3 y4 b,v'=.agg #[y0,y1,y2,y3,y4,b]/\VR FF ρ x0 y0/\VR FF ρ x1 y1/\VR FF ρ x2 y2/\VR FF ρ x3 y3/\VR FF ρ x4 y4/\VR FF ρ a b:=by
 cases h with
 |@agg _ c h=>
  obtain⟨l⟩:=c
  cases h with
  |cons d h=>cases h with
   |cons e h=>cases h with
    |cons g h=>cases h with
     |cons i h=>cases h with
      |cons j h=>cases h with
       |cons k h=>cases h with
        |nil=>exact⟨_,_,_,_,_,_,rfl,d,e,g,i,j,k⟩
def oT{n:Int}{k:IntKind}{v':Value}(h:VR FF ρ (.int k n) v'):v'=.int k n:=by cases h;rfl
def Qg{s:ByteArray}{v':Value}(h:VR FF ρ (.string s) v'):v'=.string s:=by cases h;rfl
def aai{m c:Nat}{v':Value}(h:VR FF ρ (.slice none m c) v'):v'=.slice none m c:=by cases h;rfl
def AB{a:Addr}{v:Value}(h:w.cell? a=some v):a.spot=none:=by
 unfold World.cell? at h
 split at h
 ·split at h
  ·cases h
  ·rename_i hs
   cases b:a.spot with
   |none=>rfl
   |some _=>rw[b]at hs;simp at hs
 ·cases h
def Qh{a:Addr}(h:a.spot=none)(n j:Nat):(a.add n).add j=⟨a.block,a.off+n+j,none⟩:=by
 obtain⟨b,o,s⟩:=a;simp only at h;subst h;rw[Go.Ph.dY,Go.Ph.dY]
def ye.other{a a':Addr}{k:Nat}{u d:Nat->Value}{s:ByteArray}{n:Nat->Int}{b:Option Addr}{m c:Nat}(h:ye ρ w w' a a' k u d s n)(hs:a'.spot=none)(hl:d 11=.slice b m c){j:Nat}(g:j<12) :
 w'.cell? ⟨a'.block,a'.off+12*k+j,none⟩=(#[Value.string s,.int .i64 (n 1),.int .i64 (n 2),.int .i64 (n 3),.int .i64 (n 4),.int .i64 (n 5),.int .i64 (n 6),.int .i64 (n 7),.int .i64 (n 8),.int .i64 (n 9),.int .i64 (n 10),.slice b m c]:Array Value)[j]?:=by
 obtain⟨_,e,t,_⟩:=h.cell j g;rw[Qh hs,ab k 12]at e;rw[e];have l:=h.num;have hi:∀i,1<=i->i<=10->d i=.int .i64 (n i):=λi o p=>by
  obtain⟨_,_,k3,_⟩:=h.cell i (by omega);rw[l i o p]at k3;exact oT k3
 have q:d 0=.string s:=by
  obtain⟨_,_,k3,_⟩:=h.cell 0 (by omega);rw[h.name]at k3;exact Qg k3
 obtain rfl|rfl|rfl|rfl|rfl|rfl|rfl|rfl|rfl|rfl|rfl|rfl:j=0\/j=1\/j=2\/j=3\/j=4\/j=5\/j=6\/j=7\/j=8\/j=9\/j=10\/j=11:=by omega
 ·rw[q];rfl
 ·rw[hi 1 (by omega) (by omega)];rfl
 ·rw[hi 2 (by omega) (by omega)];rfl
 ·rw[hi 3 (by omega) (by omega)];rfl
 ·rw[hi 4 (by omega) (by omega)];rfl
 ·rw[hi 5 (by omega) (by omega)];rfl
 ·rw[hi 6 (by omega) (by omega)];rfl
 ·rw[hi 7 (by omega) (by omega)];rfl
 ·rw[hi 8 (by omega) (by omega)];rfl
 ·rw[hi 9 (by omega) (by omega)];rfl
 ·rw[hi 10 (by omega) (by omega)];rfl
 ·rw[hl];rfl
def AA.other{a a':Addr}{k:Nat}{u c:Nat->Value}{s:ByteArray}{dl:Int}(h:AA ρ w w' a a' k u c s dl)(hs:a'.spot=none){j:Nat}(d:j<3) :
 w'.cell? ⟨a'.block,a'.off+3*k+j,none⟩=(#[Value.string s,.int .i64 (k:Int),.int .i64 dl]:Array Value)[j]?:=by
 obtain⟨_,b,e,_⟩:=h.cell j d;rw[Qh hs,ab k 3]at b;rw[b];obtain⟨_,_,k0,_⟩:=h.cell 0 (by omega);obtain⟨_,_,k1,_⟩:=h.cell 1 (by omega);obtain⟨_,_,k2,_⟩:=h.cell 2 (by omega);rw[h.name]at k0;rw[h.start]at k1;rw[h.aeN]at k2;obtain rfl|rfl|rfl:j=0\/j=1\/j=2:=by omega
 ·rw[Qg k0];rfl
 ·rw[oT k1];rfl
 ·rw[oT k2];rfl
def ye.spot{a a':Addr}{u g:Nat->Value}{s:ByteArray}{n:Nat->Int}(h:ye ρ w w' a a' 0 u g s n):a'.spot=none/\∃c t i,w'.heap[a'.block]?=some (.cells c t i):=by
 obtain⟨_,b,_,d⟩:=h.cell 0 (by omega);have e:(a'.add (0*12)).add 0=a':=by simp[Addr.add]
 have j:a'.add (0*12)=a':=by simp[Addr.add]
 rw[e]at b;rw[j]at d;exact⟨AB b,d⟩
def AA.spot{a a':Addr}{u g:Nat->Value}{s:ByteArray}{dl:Int}(h:AA ρ w w' a a' 0 u g s dl):a'.spot=none/\∃c t i,w'.heap[a'.block]?=some (.cells c t i):=by
 obtain⟨_,b,_,d⟩:=h.cell 0 (by omega);have e:(a'.add (0*3)).add 0=a':=by simp[Addr.add]
 have j:a'.add (0*3)=a':=by simp[Addr.add]
 rw[e]at b;rw[j]at d;exact⟨AB b,d⟩
def two{c:Type}(a b:c):Nat->c|0=>a|_=>b
def three{d:Type}(a b c:d):Nat->d|0=>a|1=>b|_=>c
def aeU{c:Frame}{l:List Frame}(hc:2<=(c::l).length)(h:Go.bJ.Way ad cY.funcs FF ZZ f R g0 w0 (SL 193 H r aS (ae aS.size) [.code .ret] 98 (c::l)) w)
 (K:WR Tryz.progTables.globals.size FF (codeOk ad FF ZZ) ρ w w') {v0:Value} (ra:VR FF ρ (H 0) v0) :
 ∃D d0 d1 gn,v0=.agg (cA 3 D)/\Cf 3 2 D (λk=>k) (two d0 d1) gn w'/\(∀b∈dR 3 D,∃a,ρ a b)/\
  Go.bJ.Way ad cY.funcs FF ZZ f R g0 w0 (fH (c.finish (.pointer (some ⟨w.heap.size,0,none⟩))) l) (w.alloc (.cells (Qf D d0 d1) 183)):=by
 have e0:ae aS.size=List.range' 0 (206-0):=by rw[List.range_eq_range'];rfl
 rw[e0]at h;obtain⟨x0,x1,x2,x3,x4,x5,v,ea,W⟩:=aeF ⟨hc,h⟩;rw[ea]at ra;obtain⟨y0,y1,y2,y3,y4,y5,ev,r0,r1,r2,r3,r4,r5⟩:=aah ra;obtain⟨B,C,a2,g,L,a3,m,c3,H1,f0,f1,⟨f2,g2,q2,s2⟩,⟨f3,g3,q3,s3⟩,k1,W⟩:=aeG W K (v2:=y2) (v3:=y3) r2 r3;have M:x0=.int .i64 B:=f0;have N:x1=.int .i64 C:=f1;have m4:VR FF ρ (H1 9) y4:=by rw[k1 9 (by omega)];exact r4
 obtain⟨a4,n,O,H2,f4,g4,q4,k2,W,u0,u0',s0,p0,P0,p7,p8,p9,Cz,l0,E,P,L0,Q,S,T⟩:=aeK W K m4;obtain⟨H3,k3,W,⟨u1,u1',t1,p1,P1,i7,i8,i9,U,l1,F,V,L1,X,Y,rQ⟩,⟨u2,Z,t2,p2,P2,j7,j8,j9,j10,I,J,L2⟩⟩:=aeL W K ((k2 9 (by omega)).trans f4) q4;have m5:VR FF ρ (H3 10) y5:=by rw[k3 10 (by omega),k2 10 (by omega),k1 10 (by omega)];exact r5
 obtain⟨a5,o,c5,H4,f5,g5,q5,q,W,⟨v0g,aro,ZF,d0,G0,akT⟩,⟨v1g,arp,ZG,d1,G1,akU⟩⟩:=aeO W K m5;obtain⟨s,cl4⟩:=P0.spot;obtain⟨z,cl5⟩:=G0.spot;have L2':Z 11=.slice none I J:=by
  obtain⟨_,_,h3,_⟩:=P2.cell 11 (by omega);rw[L2]at h3;exact aai h3
 let D:jB:={ l:=B,p:=C,so:=some g,sl:=2,sc:=L,qo:=some m,ql:=4,qc:=c3,pb:=n.block,po:=n.off,cp:=O,gb:=o.block,go:=o.off,ng:=2,cg:=c5,pe:=three s0 t1 t2,pn:=three p0 p1 p2,pl:=three (some E) (some F) none,pc:=three 1 1 I,pd:=three P V J }
 have u:=fun(j:Nat)(y:j<60)=>(q j (by omega)).trans (k3 j y);obtain⟨H5,hT,W⟩:=aeT W (D:=D) akT akU ((u 41 (by omega)).trans p7) ((u 43 (by omega)).trans p8) ((u 46 (by omega)).trans p9) ((u 48 (by omega)).trans Cz)
  ((q 75 (by omega)).trans i7) ((q 77 (by omega)).trans i8) ((q 80 (by omega)).trans i9) ((q 82 (by omega)).trans U)
  ((q 109 (by omega)).trans j7) ((q 111 (by omega)).trans j8) ((q 114 (by omega)).trans j9) ((q 116 (by omega)).trans j10)
 have W:=W.box (d:=2) (x:=192) (t:=183) (by omega) rfl (by omega) (by omega) hT;have W:=W.ret (v:=.pointer (some ⟨w.heap.size,0,none⟩)) (upd_same _ _ _);have e4':n=⟨n.block,n.off,none⟩:=by rw[<-s]
 have e5':o=⟨o.block,o.off,none⟩:=by rw[<-z]
 have hb:dR 3 D=[n.block,o.block,g.block,m.block,E.block,F.block]:=rfl;refine⟨D,d0,d1,two ZF ZG,?_,⟨λb A=>?_,λi hi j y=>?_,λk hk j y=>?_,rfl,λk hk=>by show k<3;omega,by omega,by omega⟩,λb A=>?_,W⟩
 ·rw[ev,oT (show VR FF ρ (.int .i64 B) y0 by rw[<-M];exact r0),oT (show VR FF ρ (.int .i64 C) y1 by rw[<-N];exact r1),g2,g3,g4,g5];show Value.agg #[.int .i64 B,.int .i64 C,.slice (some g) 2 L,.slice (some m) 4 c3,.slice (some n) 3 O,.slice (some o) 2 c5]=.agg #[.int .i64 B,.int .i64 C,.slice (some g) 2 L,.slice (some m) 4 c3,.slice (some ⟨n.block,n.off,none⟩) 3 O,.slice (some ⟨o.block,o.off,none⟩) 2 c5];rw[<-e4',<-e5']
 ·rw[hb]at A;have cl:∃c t fz,w'.heap[b]?=some (.cells c t fz):=by
   simp only[ag,ai,or_false]at A
   rcases A with rfl|rfl|rfl|rfl|rfl|rfl
   ·exact cl4
   ·exact cl5
   ·exact s2
   ·exact s3
   ·exact T
   ·exact rQ
  obtain⟨c,t,fz,e⟩:=cl;exact⟨Go.bJ.bE e,c,t,fz,e⟩
 ·obtain rfl|rfl|rfl:i=0\/i=1\/i=2:=by omega
  ·exact P0.other s Q y
  ·exact P1.other s X y
  ·exact P2.other s L2' y
 ·obtain rfl|rfl:k=0\/k=1:=by omega
  ·exact G0.other z y
  ·exact G1.other z y
 ·rw[hb]at A;simp only[ag,ai,or_false]at A
  rcases A with rfl|rfl|rfl|rfl|rfl|rfl
  ·exact⟨_,q4.1⟩
  ·exact⟨_,q5.1⟩
  ·exact⟨_,q2.1⟩
  ·exact⟨_,q3.1⟩
  ·exact⟨_,S.1⟩
  ·exact⟨_,Y.1⟩
end
end Go.Proofs
namespace Go.Proofs
open Go.Ph Go.Conc Go.bJ
set_option maxRecDepth 100000
section
variable (D:jB)(O:Nat->Obj)(n dl:Int)(gn:ByteArray)(c:Int×Int)(f:Nat->Value)(Z:Nat->Obj)
noncomputable def Qi:aa:=G ⟨144,#[.func (.func (cn+0)) #[] #[],.pointer (some ⟨8,0,none⟩),.pointer (some ⟨9,0,none⟩),f 3,.pointer (some ⟨10,0,none⟩),.pointer (some ⟨11,0,none⟩),.func (.func 145) #[] #[.pointer (some ⟨11,0,none⟩)],.int .i64 0,f 8,f 9,f 10,f 11,f 12,f 13,f 14,f 15,f 16,f 17,f 18,f 19,f 20,f 21,f 22,f 23,f 24,f 25,f 26,.int .i64 3,.int .i64 0,f 29,f 30,f 31,f 32,f 33,.pointer (some ⟨D.pb,D.po,none⟩),f 35,f 36,f 37,f 38,f 39,f 40,f 41,f 42,f 43,f 44,f 45,f 46,f 47,f 48,f 49,f 50,f 51,f 52,f 53,f 54,f 55,f 56,f 57,f 58,f 59,f 60],Y6,[],.run,.normal,none⟩ [default]
def Qj:gR 3 0 D 0 f=Qi D f:=by kernel_rfl
noncomputable def Qk:World:={ (default:World) with heap:=#[O 0,O 1,O 2,O 3,O 4,O 5,O 6,O 7,ap (cA 3 D) 121,ap #[.int .i64 n] 3,ap (gA 0 dl gn) 67,ap #[.int .i64 c.1,.int .i64 c.2] 35] }
def Ql:wR 3 0 D O n dl gn 0 c Z=Qk D O n dl gn c:=by kernel_rfl
noncomputable def Qm:aa:=G ⟨144,#[.func (.func (cn+0)) #[] #[],.pointer (some ⟨8,0,none⟩),.pointer (some ⟨9,0,none⟩),f 3,.pointer (some ⟨10,0,none⟩),.pointer (some ⟨11,0,none⟩),.func (.func 145) #[] #[.pointer (some ⟨11,0,none⟩)],.int .i64 0,.pointer (some ⟨12,0,none⟩),f 9,f 10,f 11,f 12,f 13,f 14,f 15,f 16,f 17,f 18,f 19,f 20,f 21,f 22,f 23,f 24,f 25,f 26,.int .i64 3,.int .i64 0,f 29,f 30,f 31,f 32,f 33,f 34,f 35,f 36,f 37,f 38,f 39,f 40,f 41,f 42,f 43,.func (.func (cn+0)) #[] #[],.agg #[.int .i64 0,.int .i64 c.1,.int .i64 c.2,.int .i64 (IntKind.i64.wrap (c.1+D.pn 0 7)),.int .i64 (IntKind.i64.wrap (c.2+D.pn 0 8))],f 46,f 47,f 48,f 49,f 50,f 51,f 52,f 53,f 54,f 55,f 56,f 57,f 58,f 59,f 60],Y8,[],.run,.normal,none⟩ [default]
def JR:gY 3 0 D 0 c f=Qm D c f:=by kernel_rfl
noncomputable def Qn:World:={ (default:World) with heap:=#[O 0,O 1,O 2,O 3,O 4,O 5,O 6,O 7,ap (cA 3 D) 121,ap #[.int .i64 n] 3,ap (gA 0 dl gn) 67,ap #[.int .i64 c.1,.int .i64 c.2] 35,ap (pA D 0) 73,Z 1,Z 2,Z 3] }
def Qo:wY 3 0 D O n dl gn 0 c Z=Qn D O n dl gn c Z:=by kernel_rfl
noncomputable def Qp:aa:=G ⟨144,#[.func (.func (cn+0)) #[] #[],.pointer (some ⟨8,0,none⟩),.pointer (some ⟨9,0,none⟩),f 3,.pointer (some ⟨10,0,none⟩),.pointer (some ⟨11,0,none⟩),.func (.func 145) #[] #[.pointer (some ⟨11,0,none⟩)],.int .i64 1,f 8,f 9,f 10,f 11,f 12,f 13,f 14,f 15,f 16,f 17,f 18,f 19,f 20,f 21,f 22,f 23,f 24,f 25,f 26,.int .i64 3,.int .i64 1,f 29,f 30,f 31,f 32,f 33,.pointer (some ⟨D.pb,D.po+12,none⟩),f 35,f 36,f 37,f 38,f 39,f 40,f 41,f 42,f 43,f 44,f 45,f 46,f 47,f 48,f 49,f 50,f 51,f 52,f 53,f 54,f 55,f 56,f 57,f 58,f 59,f 60],Y6,[],.run,.normal,none⟩ [default]
def Qq:gR 3 0 D 1 f=Qp D f:=by kernel_rfl
noncomputable def Qr:World:={ (default:World) with heap:=#[O 0,O 1,O 2,O 3,O 4,O 5,O 6,O 7,ap (cA 3 D) 121,ap #[.int .i64 n] 3,ap (gA 0 dl gn) 67,ap #[.int .i64 c.1,.int .i64 c.2] 35,Z 0,Z 1,Z 2,Z 3,Z 4,Z 5] }
def Qs:wR 3 0 D O n dl gn 1 c Z=Qr D O n dl gn c Z:=by kernel_rfl
noncomputable def Qt:aa:=G ⟨144,#[.func (.func (cn+0)) #[] #[],.pointer (some ⟨8,0,none⟩),.pointer (some ⟨9,0,none⟩),f 3,.pointer (some ⟨10,0,none⟩),.pointer (some ⟨11,0,none⟩),.func (.func 145) #[] #[.pointer (some ⟨11,0,none⟩)],.int .i64 1,.pointer (some ⟨18,0,none⟩),f 9,f 10,f 11,f 12,f 13,f 14,f 15,f 16,f 17,f 18,f 19,f 20,f 21,f 22,f 23,f 24,f 25,f 26,.int .i64 3,.int .i64 1,f 29,f 30,f 31,f 32,f 33,f 34,f 35,f 36,f 37,f 38,f 39,f 40,f 41,f 42,f 43,.func (.func (cn+0)) #[] #[],.agg #[.int .i64 1,.int .i64 c.1,.int .i64 c.2,.int .i64 (IntKind.i64.wrap (c.1+D.pn 1 7)),.int .i64 (IntKind.i64.wrap (c.2+D.pn 1 8))],f 46,f 47,f 48,f 49,f 50,f 51,f 52,f 53,f 54,f 55,f 56,f 57,f 58,f 59,f 60],Y8,[],.run,.normal,none⟩ [default]
def JS:gY 3 0 D 1 c f=Qt D c f:=by kernel_rfl
noncomputable def Qu:World:={ (default:World) with heap:=#[O 0,O 1,O 2,O 3,O 4,O 5,O 6,O 7,ap (cA 3 D) 121,ap #[.int .i64 n] 3,ap (gA 0 dl gn) 67,ap #[.int .i64 c.1,.int .i64 c.2] 35,Z 0,Z 1,Z 2,Z 3,Z 4,Z 5,ap (pA D 1) 73,Z 7,Z 8,Z 9] }
def Qv:wY 3 0 D O n dl gn 1 c Z=Qu D O n dl gn c Z:=by kernel_rfl
noncomputable def Qw:aa:=G ⟨144,#[.func (.func (cn+0)) #[] #[],.pointer (some ⟨8,0,none⟩),.pointer (some ⟨9,0,none⟩),f 3,.pointer (some ⟨10,0,none⟩),.pointer (some ⟨11,0,none⟩),.func (.func 145) #[] #[.pointer (some ⟨11,0,none⟩)],.int .i64 2,f 8,f 9,f 10,f 11,f 12,f 13,f 14,f 15,f 16,f 17,f 18,f 19,f 20,f 21,f 22,f 23,f 24,f 25,f 26,.int .i64 3,.int .i64 2,f 29,f 30,f 31,f 32,f 33,.pointer (some ⟨D.pb,D.po+24,none⟩),f 35,f 36,f 37,f 38,f 39,f 40,f 41,f 42,f 43,f 44,f 45,f 46,f 47,f 48,f 49,f 50,f 51,f 52,f 53,f 54,f 55,f 56,f 57,f 58,f 59,f 60],Y6,[],.run,.normal,none⟩ [default]
def Qx:gR 3 0 D 2 f=Qw D f:=by kernel_rfl
noncomputable def Qy:World:={ (default:World) with heap:=#[O 0,O 1,O 2,O 3,O 4,O 5,O 6,O 7,ap (cA 3 D) 121,ap #[.int .i64 n] 3,ap (gA 0 dl gn) 67,ap #[.int .i64 c.1,.int .i64 c.2] 35,Z 0,Z 1,Z 2,Z 3,Z 4,Z 5,Z 6,Z 7,Z 8,Z 9,Z 10,Z 11] }
def Qz:wR 3 0 D O n dl gn 2 c Z=Qy D O n dl gn c Z:=by kernel_rfl
noncomputable def aeV:aa:=G ⟨144,#[.func (.func (cn+0)) #[] #[],.pointer (some ⟨8,0,none⟩),.pointer (some ⟨9,0,none⟩),f 3,.pointer (some ⟨10,0,none⟩),.pointer (some ⟨11,0,none⟩),.func (.func 145) #[] #[.pointer (some ⟨11,0,none⟩)],.int .i64 2,.pointer (some ⟨24,0,none⟩),f 9,f 10,f 11,f 12,f 13,f 14,f 15,f 16,f 17,f 18,f 19,f 20,f 21,f 22,f 23,f 24,f 25,f 26,.int .i64 3,.int .i64 2,f 29,f 30,f 31,f 32,f 33,f 34,f 35,f 36,f 37,f 38,f 39,f 40,f 41,f 42,f 43,.func (.func (cn+0)) #[] #[],.agg #[.int .i64 2,.int .i64 c.1,.int .i64 c.2,.int .i64 (IntKind.i64.wrap (c.1+D.pn 2 7)),.int .i64 (IntKind.i64.wrap (c.2+D.pn 2 8))],f 46,f 47,f 48,f 49,f 50,f 51,f 52,f 53,f 54,f 55,f 56,f 57,f 58,f 59,f 60],Y8,[],.run,.normal,none⟩ [default]
def JU:gY 3 0 D 2 c f=aeV D c f:=by kernel_rfl
noncomputable def aeW:World:={ (default:World) with heap:=#[O 0,O 1,O 2,O 3,O 4,O 5,O 6,O 7,ap (cA 3 D) 121,ap #[.int .i64 n] 3,ap (gA 0 dl gn) 67,ap #[.int .i64 c.1,.int .i64 c.2] 35,Z 0,Z 1,Z 2,Z 3,Z 4,Z 5,Z 6,Z 7,Z 8,Z 9,Z 10,Z 11,ap (pA D 2) 73,Z 13,Z 14,Z 15] }
def QA:wY 3 0 D O n dl gn 2 c Z=aeW D O n dl gn c Z:=by kernel_rfl
end
def aeX:j0 3 0 0 where
 c3 D f:=⟨by kernel_rfl,by kernel_rfl⟩
 e4 D O n dl gn c f Z:=by
  rw[Qj,Ql];intro a d
  kernel_rfl
 y D O n dl gn c f Z:=by
  rw[Qj,Ql];refine⟨λi=>(Yd 3 0 D (Qi D f) (Qk D O n dl gn c) 0).1.frame.tmps[i]!,λi=>(Yd 3 0 D (Qi D f) (Qk D O n dl gn c) 0).2.heap[12+i]!,?_⟩;rw[JR,Qo]
  kernel_rfl
 c4 D c f:=by
  rw[JR];exact⟨by kernel_rfl,by kernel_rfl,by kernel_rfl⟩
 e5 D O n dl gn c b f Z:=by
  rw[JR,Qo];intro a d
  kernel_rfl
def aeY:mg 3 0 0 where
 next D O n dl gn c f Z:=by
  rw[JR,Qo];refine⟨λi=>(Nx (Qm D c f) (Qn D O n dl gn (l9 3 0 D 0 c) Z)).1.frame.tmps[i]!,λi=>(Nx (Qm D c f) (Qn D O n dl gn (l9 3 0 D 0 c) Z)).2.heap[12+i]!,?_⟩;rw[Qq,Qs]
  kernel_rfl
def aeZ:j0 3 0 1 where
 c3 D f:=⟨by kernel_rfl,by kernel_rfl⟩
 e4 D O n dl gn c f Z:=by
  rw[Qq,Qs];intro a d
  kernel_rfl
 y D O n dl gn c f Z:=by
  rw[Qq,Qs];refine⟨λi=>(Yd 3 0 D (Qp D f) (Qr D O n dl gn c Z) 1).1.frame.tmps[i]!,λi=>(Yd 3 0 D (Qp D f) (Qr D O n dl gn c Z) 1).2.heap[12+i]!,?_⟩;rw[JS,Qv]
  kernel_rfl
 c4 D c f:=by
  rw[JS];exact⟨by kernel_rfl,by kernel_rfl,by kernel_rfl⟩
 e5 D O n dl gn c b f Z:=by
  rw[JS,Qv];intro a d
  kernel_rfl
def af0:mg 3 0 1 where
 next D O n dl gn c f Z:=by
  rw[JS,Qv];refine⟨λi=>(Nx (Qt D c f) (Qu D O n dl gn (l9 3 0 D 1 c) Z)).1.frame.tmps[i]!,λi=>(Nx (Qt D c f) (Qu D O n dl gn (l9 3 0 D 1 c) Z)).2.heap[12+i]!,?_⟩;rw[Qx,Qz]
  kernel_rfl
def af1:j0 3 0 2 where
 c3 D f:=⟨by kernel_rfl,by kernel_rfl⟩
 e4 D O n dl gn c f Z:=by
  rw[Qx,Qz];intro a d
  kernel_rfl
 y D O n dl gn c f Z:=by
  rw[Qx,Qz];refine⟨λi=>(Yd 3 0 D (Qw D f) (Qy D O n dl gn c Z) 2).1.frame.tmps[i]!,λi=>(Yd 3 0 D (Qw D f) (Qy D O n dl gn c Z) 2).2.heap[12+i]!,?_⟩;rw[JU,QA]
  kernel_rfl
 c4 D c f:=by
  rw[JU];exact⟨by kernel_rfl,by kernel_rfl,by kernel_rfl⟩
 e5 D O n dl gn c b f Z:=by
  rw[JU,QA];intro a d
  kernel_rfl
def af2:xM 3 0 2 where
 back D O n dl gn c c' f Z:=by
  rw[JU,QA];exact⟨by kernel_rfl,by kernel_rfl,by kernel_rfl,by kernel_rfl,by kernel_rfl⟩
def af3:FE 3 0 where
 e0 D O n a d:=by kernel_rfl
 b0 D O n:=⟨⟨by kernel_rfl,by kernel_rfl,by kernel_rfl,by kernel_rfl,by kernel_rfl⟩,by kernel_rfl⟩
 h0 D O n:=by kernel_rfl
 e1 D O n a d:=by kernel_rfl
 c1 D O n:=⟨by kernel_rfl,by kernel_rfl,by kernel_rfl⟩
 e2 D O n x a d:=by kernel_rfl
 c2 D O n x:=⟨by kernel_rfl,by kernel_rfl⟩
 e3 D O n dl gn x a d:=by kernel_rfl
 r0 D O n dl gn x:=by
  refine⟨λi=>(A3 3 0 D O n dl gn x).1.frame.tmps[i]!,λi=>(A3 3 0 D O n dl gn x).2.heap[12+i]!,?_⟩;rw[Qj,Ql]
  kernel_rfl
 round r b:=by
  obtain rfl|rfl|rfl:r=0\/r=1\/r=2:=by omega
  ·exact aeX
  ·exact aeZ
  ·exact af1
 next r b:=by
  obtain rfl|rfl:r=0\/r=1:=by omega
  ·exact aeY
  ·exact af0
 last r b:=by
  obtain rfl:r=2:=by omega
  exact af2
section
variable (D:jB)(O:Nat->Obj)(n dl:Int)(gn:ByteArray)(c:Int×Int)(f:Nat->Value)(Z:Nat->Obj)
noncomputable def QB:aa:=G ⟨144,#[.func (.func (cn+0)) #[] #[],.pointer (some ⟨8,0,none⟩),.pointer (some ⟨9,0,none⟩),f 3,.pointer (some ⟨10,0,none⟩),.pointer (some ⟨11,0,none⟩),.func (.func 145) #[] #[.pointer (some ⟨11,0,none⟩)],.int .i64 1,f 8,f 9,f 10,f 11,f 12,f 13,f 14,f 15,f 16,f 17,f 18,f 19,f 20,f 21,f 22,f 23,f 24,f 25,f 26,.int .i64 3,.int .i64 0,f 29,f 30,f 31,f 32,f 33,.pointer (some ⟨D.pb,D.po+12,none⟩),f 35,f 36,f 37,f 38,f 39,f 40,f 41,f 42,f 43,f 44,f 45,f 46,f 47,f 48,f 49,f 50,f 51,f 52,f 53,f 54,f 55,f 56,f 57,f 58,f 59,f 60],Y6,[],.run,.normal,none⟩ [default]
def QC:gR 3 1 D 0 f=QB D f:=by kernel_rfl
noncomputable def QD:World:={ (default:World) with heap:=#[O 0,O 1,O 2,O 3,O 4,O 5,O 6,O 7,ap (cA 3 D) 121,ap #[.int .i64 n] 3,ap (gA 1 dl gn) 67,ap #[.int .i64 c.1,.int .i64 c.2] 35] }
def QE:wR 3 1 D O n dl gn 0 c Z=QD D O n dl gn c:=by kernel_rfl
noncomputable def QF:aa:=G ⟨144,#[.func (.func (cn+0)) #[] #[],.pointer (some ⟨8,0,none⟩),.pointer (some ⟨9,0,none⟩),f 3,.pointer (some ⟨10,0,none⟩),.pointer (some ⟨11,0,none⟩),.func (.func 145) #[] #[.pointer (some ⟨11,0,none⟩)],.int .i64 1,.pointer (some ⟨12,0,none⟩),f 9,f 10,f 11,f 12,f 13,f 14,f 15,f 16,f 17,f 18,f 19,f 20,f 21,f 22,f 23,f 24,f 25,f 26,.int .i64 3,.int .i64 0,f 29,f 30,f 31,f 32,f 33,f 34,f 35,f 36,f 37,f 38,f 39,f 40,f 41,f 42,f 43,.func (.func (cn+0)) #[] #[],.agg #[.int .i64 1,.int .i64 c.1,.int .i64 c.2,.int .i64 (IntKind.i64.wrap (c.1+D.pn 1 7)),.int .i64 (IntKind.i64.wrap (c.2+D.pn 1 8))],f 46,f 47,f 48,f 49,f 50,f 51,f 52,f 53,f 54,f 55,f 56,f 57,f 58,f 59,f 60],Y8,[],.run,.normal,none⟩ [default]
def JV:gY 3 1 D 0 c f=QF D c f:=by kernel_rfl
noncomputable def QG:World:={ (default:World) with heap:=#[O 0,O 1,O 2,O 3,O 4,O 5,O 6,O 7,ap (cA 3 D) 121,ap #[.int .i64 n] 3,ap (gA 1 dl gn) 67,ap #[.int .i64 c.1,.int .i64 c.2] 35,ap (pA D 1) 73,Z 1,Z 2,Z 3] }
def QH:wY 3 1 D O n dl gn 0 c Z=QG D O n dl gn c Z:=by kernel_rfl
noncomputable def QI:aa:=G ⟨144,#[.func (.func (cn+0)) #[] #[],.pointer (some ⟨8,0,none⟩),.pointer (some ⟨9,0,none⟩),f 3,.pointer (some ⟨10,0,none⟩),.pointer (some ⟨11,0,none⟩),.func (.func 145) #[] #[.pointer (some ⟨11,0,none⟩)],.int .i64 2,f 8,f 9,f 10,f 11,f 12,f 13,f 14,f 15,f 16,f 17,f 18,f 19,f 20,f 21,f 22,f 23,f 24,f 25,f 26,.int .i64 3,.int .i64 1,f 29,f 30,f 31,f 32,f 33,.pointer (some ⟨D.pb,D.po+24,none⟩),f 35,f 36,f 37,f 38,f 39,f 40,f 41,f 42,f 43,f 44,f 45,f 46,f 47,f 48,f 49,f 50,f 51,f 52,f 53,f 54,f 55,f 56,f 57,f 58,f 59,f 60],Y6,[],.run,.normal,none⟩ [default]
def QJ:gR 3 1 D 1 f=QI D f:=by kernel_rfl
noncomputable def QK:World:={ (default:World) with heap:=#[O 0,O 1,O 2,O 3,O 4,O 5,O 6,O 7,ap (cA 3 D) 121,ap #[.int .i64 n] 3,ap (gA 1 dl gn) 67,ap #[.int .i64 c.1,.int .i64 c.2] 35,Z 0,Z 1,Z 2,Z 3,Z 4,Z 5] }
def QL:wR 3 1 D O n dl gn 1 c Z=QK D O n dl gn c Z:=by kernel_rfl
noncomputable def QM:aa:=G ⟨144,#[.func (.func (cn+0)) #[] #[],.pointer (some ⟨8,0,none⟩),.pointer (some ⟨9,0,none⟩),f 3,.pointer (some ⟨10,0,none⟩),.pointer (some ⟨11,0,none⟩),.func (.func 145) #[] #[.pointer (some ⟨11,0,none⟩)],.int .i64 2,.pointer (some ⟨18,0,none⟩),f 9,f 10,f 11,f 12,f 13,f 14,f 15,f 16,f 17,f 18,f 19,f 20,f 21,f 22,f 23,f 24,f 25,f 26,.int .i64 3,.int .i64 1,f 29,f 30,f 31,f 32,f 33,f 34,f 35,f 36,f 37,f 38,f 39,f 40,f 41,f 42,f 43,.func (.func (cn+0)) #[] #[],.agg #[.int .i64 2,.int .i64 c.1,.int .i64 c.2,.int .i64 (IntKind.i64.wrap (c.1+D.pn 2 7)),.int .i64 (IntKind.i64.wrap (c.2+D.pn 2 8))],f 46,f 47,f 48,f 49,f 50,f 51,f 52,f 53,f 54,f 55,f 56,f 57,f 58,f 59,f 60],Y8,[],.run,.normal,none⟩ [default]
def JW:gY 3 1 D 1 c f=QM D c f:=by kernel_rfl
noncomputable def QN:World:={ (default:World) with heap:=#[O 0,O 1,O 2,O 3,O 4,O 5,O 6,O 7,ap (cA 3 D) 121,ap #[.int .i64 n] 3,ap (gA 1 dl gn) 67,ap #[.int .i64 c.1,.int .i64 c.2] 35,Z 0,Z 1,Z 2,Z 3,Z 4,Z 5,ap (pA D 2) 73,Z 7,Z 8,Z 9] }
def QO:wY 3 1 D O n dl gn 1 c Z=QN D O n dl gn c Z:=by kernel_rfl
noncomputable def QS:aa:=G ⟨144,#[.func (.func (cn+0)) #[] #[],.pointer (some ⟨8,0,none⟩),.pointer (some ⟨9,0,none⟩),f 3,.pointer (some ⟨10,0,none⟩),.pointer (some ⟨11,0,none⟩),.func (.func 145) #[] #[.pointer (some ⟨11,0,none⟩)],.int .i64 0,f 8,f 9,f 10,f 11,f 12,f 13,f 14,f 15,f 16,f 17,f 18,f 19,f 20,f 21,f 22,f 23,f 24,f 25,f 26,.int .i64 3,.int .i64 2,f 29,f 30,f 31,f 32,f 33,.pointer (some ⟨D.pb,D.po,none⟩),f 35,f 36,f 37,f 38,f 39,f 40,f 41,f 42,f 43,f 44,f 45,f 46,f 47,f 48,f 49,f 50,f 51,f 52,f 53,f 54,f 55,f 56,f 57,f 58,f 59,f 60],Y6,[],.run,.normal,none⟩ [default]
def QT:gR 3 1 D 2 f=QS D f:=by kernel_rfl
noncomputable def QU:World:={ (default:World) with heap:=#[O 0,O 1,O 2,O 3,O 4,O 5,O 6,O 7,ap (cA 3 D) 121,ap #[.int .i64 n] 3,ap (gA 1 dl gn) 67,ap #[.int .i64 c.1,.int .i64 c.2] 35,Z 0,Z 1,Z 2,Z 3,Z 4,Z 5,Z 6,Z 7,Z 8,Z 9,Z 10,Z 11] }
def QV:wR 3 1 D O n dl gn 2 c Z=QU D O n dl gn c Z:=by kernel_rfl
noncomputable def af4:aa:=G ⟨144,#[.func (.func (cn+0)) #[] #[],.pointer (some ⟨8,0,none⟩),.pointer (some ⟨9,0,none⟩),f 3,.pointer (some ⟨10,0,none⟩),.pointer (some ⟨11,0,none⟩),.func (.func 145) #[] #[.pointer (some ⟨11,0,none⟩)],.int .i64 0,.pointer (some ⟨24,0,none⟩),f 9,f 10,f 11,f 12,f 13,f 14,f 15,f 16,f 17,f 18,f 19,f 20,f 21,f 22,f 23,f 24,f 25,f 26,.int .i64 3,.int .i64 2,f 29,f 30,f 31,f 32,f 33,f 34,f 35,f 36,f 37,f 38,f 39,f 40,f 41,f 42,f 43,.func (.func (cn+0)) #[] #[],.agg #[.int .i64 0,.int .i64 c.1,.int .i64 c.2,.int .i64 (IntKind.i64.wrap (c.1+D.pn 0 7)),.int .i64 (IntKind.i64.wrap (c.2+D.pn 0 8))],f 46,f 47,f 48,f 49,f 50,f 51,f 52,f 53,f 54,f 55,f 56,f 57,f 58,f 59,f 60],Y8,[],.run,.normal,none⟩ [default]
def JX:gY 3 1 D 2 c f=af4 D c f:=by kernel_rfl
noncomputable def af5:World:={ (default:World) with heap:=#[O 0,O 1,O 2,O 3,O 4,O 5,O 6,O 7,ap (cA 3 D) 121,ap #[.int .i64 n] 3,ap (gA 1 dl gn) 67,ap #[.int .i64 c.1,.int .i64 c.2] 35,Z 0,Z 1,Z 2,Z 3,Z 4,Z 5,Z 6,Z 7,Z 8,Z 9,Z 10,Z 11,ap (pA D 0) 73,Z 13,Z 14,Z 15] }
def QW:wY 3 1 D O n dl gn 2 c Z=af5 D O n dl gn c Z:=by kernel_rfl
end
def af6:j0 3 1 0 where
 c3 D f:=⟨by kernel_rfl,by kernel_rfl⟩
 e4 D O n dl gn c f Z:=by
  rw[QC,QE];intro a d
  kernel_rfl
 y D O n dl gn c f Z:=by
  rw[QC,QE];refine⟨λi=>(Yd 3 1 D (QB D f) (QD D O n dl gn c) 0).1.frame.tmps[i]!,λi=>(Yd 3 1 D (QB D f) (QD D O n dl gn c) 0).2.heap[12+i]!,?_⟩;rw[JV,QH]
  kernel_rfl
 c4 D c f:=by
  rw[JV];exact⟨by kernel_rfl,by kernel_rfl,by kernel_rfl⟩
 e5 D O n dl gn c b f Z:=by
  rw[JV,QH];intro a d
  kernel_rfl
def af7:mg 3 1 0 where
 next D O n dl gn c f Z:=by
  rw[JV,QH];refine⟨λi=>(Nx (QF D c f) (QG D O n dl gn (l9 3 1 D 0 c) Z)).1.frame.tmps[i]!,λi=>(Nx (QF D c f) (QG D O n dl gn (l9 3 1 D 0 c) Z)).2.heap[12+i]!,?_⟩;rw[QJ,QL]
  kernel_rfl
def af8:j0 3 1 1 where
 c3 D f:=⟨by kernel_rfl,by kernel_rfl⟩
 e4 D O n dl gn c f Z:=by
  rw[QJ,QL];intro a d
  kernel_rfl
 y D O n dl gn c f Z:=by
  rw[QJ,QL];refine⟨λi=>(Yd 3 1 D (QI D f) (QK D O n dl gn c Z) 1).1.frame.tmps[i]!,λi=>(Yd 3 1 D (QI D f) (QK D O n dl gn c Z) 1).2.heap[12+i]!,?_⟩;rw[JW,QO]
  kernel_rfl
 c4 D c f:=by
  rw[JW];exact⟨by kernel_rfl,by kernel_rfl,by kernel_rfl⟩
 e5 D O n dl gn c b f Z:=by
  rw[JW,QO];intro a d
  kernel_rfl
def af9:mg 3 1 1 where
 next D O n dl gn c f Z:=by
  rw[JW,QO];refine⟨λi=>(Nx (QM D c f) (QN D O n dl gn (l9 3 1 D 1 c) Z)).1.frame.tmps[i]!,λi=>(Nx (QM D c f) (QN D O n dl gn (l9 3 1 D 1 c) Z)).2.heap[12+i]!,?_⟩;rw[QT,QV]
  kernel_rfl
def afa:j0 3 1 2 where
 c3 D f:=⟨by kernel_rfl,by kernel_rfl⟩
 e4 D O n dl gn c f Z:=by
  rw[QT,QV];intro a d
  kernel_rfl
 y D O n dl gn c f Z:=by
  rw[QT,QV];refine⟨λi=>(Yd 3 1 D (QS D f) (QU D O n dl gn c Z) 2).1.frame.tmps[i]!,λi=>(Yd 3 1 D (QS D f) (QU D O n dl gn c Z) 2).2.heap[12+i]!,?_⟩;rw[JX,QW]
  kernel_rfl
 c4 D c f:=by
  rw[JX];exact⟨by kernel_rfl,by kernel_rfl,by kernel_rfl⟩
 e5 D O n dl gn c b f Z:=by
  rw[JX,QW];intro a d
  kernel_rfl
def afb:xM 3 1 2 where
 back D O n dl gn c c' f Z:=by
  rw[JX,QW];exact⟨by kernel_rfl,by kernel_rfl,by kernel_rfl,by kernel_rfl,by kernel_rfl⟩
def afc:FE 3 1 where
 e0 D O n a d:=by kernel_rfl
 b0 D O n:=⟨⟨by kernel_rfl,by kernel_rfl,by kernel_rfl,by kernel_rfl,by kernel_rfl⟩,by kernel_rfl⟩
 h0 D O n:=by kernel_rfl
 e1 D O n a d:=by kernel_rfl
 c1 D O n:=⟨by kernel_rfl,by kernel_rfl,by kernel_rfl⟩
 e2 D O n x a d:=by kernel_rfl
 c2 D O n x:=⟨by kernel_rfl,by kernel_rfl⟩
 e3 D O n dl gn x a d:=by kernel_rfl
 r0 D O n dl gn x:=by
  refine⟨λi=>(A3 3 1 D O n dl gn x).1.frame.tmps[i]!,λi=>(A3 3 1 D O n dl gn x).2.heap[12+i]!,?_⟩;rw[QC,QE]
  kernel_rfl
 round r b:=by
  obtain rfl|rfl|rfl:r=0\/r=1\/r=2:=by omega
  ·exact af6
  ·exact af8
  ·exact afa
 next r b:=by
  obtain rfl|rfl:r=0\/r=1:=by omega
  ·exact af7
  ·exact af9
 last r b:=by
  obtain rfl:r=2:=by omega
  exact afb
section
variable {ρ:Ren}{w w':World}
def ints(l:List Value):Prop:=∀v∈l,∃n,v=.int .i64 n
def MX{l:List Value}(h:ints l):cU FF ρ l l:=by
 induction l with
 |nil=>exact .nil
 |cons v l a=>
  obtain⟨n,e⟩:=h v (by simp);subst e;exact .cons (.int _ _) (a λu b=>h u (by simp[b]))
def fY{a b:List Value}(h:ints a)(k:ints b):ints (a++b):=λv hv=>(List.mem_append.1 hv).elim (h v) (k v)
def mj(np s:Nat)(D:jB)(r:Nat)(c:Int×Int):ints (cG np s D r c).toList:=by
 intro v hv;simp only[cG,ag,ai,or_false]at hv
 rcases hv with rfl|rfl|rfl|rfl|rfl<;>exact⟨_,rfl⟩
def sV:ints UZ:=by
 intro v hv;simp only[UZ,ag,ai,or_false,or_self]at hv;exact⟨0,hv⟩
def QX(D:jB)(d0 d1:Int):ints (Qf D d0 d1).toList:=
 fY (mj _ _ _ _ _) (fY (mj _ _ _ _ _) (fY (mj _ _ _ _ _) (fY sV (fY (mj _ _ _ _ _) (fY (mj _ _ _ _ _) (fY (mj _ _ _ _ _) (fY sV (fY sV (fY sV (by
  intro v hv;simp only[ag,ai,or_false,or_self]at hv
  exact⟨0,hv⟩))))))))))
def zN{A B:List Value}{n o:Nat}(h:A.length=n)(a:o<n):(A++B)[o]?=A[o]?:=List.getElem?_append_left (by omega)
def zO{A B:List Value}{n o:Nat}(h:A.length=n)(a:n<=o):(A++B)[o]?=B[o-n]?:=by subst h;exact List.getElem?_append_right a
def Ca{i:Nat}(h:i<10):UZ[i]?=some Z0:=by
 obtain rfl|rfl|rfl|rfl|rfl|rfl|rfl|rfl|rfl|rfl:i=0\/i=1\/i=2\/i=3\/i=4\/i=5\/i=6\/i=7\/i=8\/i=9:=by omega
 all_goals rfl
def QY{Shun:Loc->Prop}{n0:Nat}{D:jB}{d0 d1:Int}{w1:World}{cs:Array Value}(hb:w1.heap[n0+1]?=some (.cells cs 183))(hcs:cs.size=75)
 (rows:∀k,k<2->Rows (zL Shun n0) ⟨0,λ_=>False,Ef k⟩ 3 k k D (two d0 d1 k) 3 w1) (rest:∀o,50<=o->o<75->w1.cell? ⟨n0+1,o,none⟩=some (.int .i64 0)):cs=Qf D d0 d1:=by
 have cell:∀o,w1.cell? ⟨n0+1,o,none⟩=cs.toList[o]?:=λo=>by
  simp only[World.cell?,hb,Array.getElem?_toList];rfl
 have put:∀k,k<2->∀r,r<3->∀j,j<5->cs.toList[k*25+bY 3 k r*5+j]?=(cG 3 k D r (bS 3 k D (two d0 d1 k) r)).toList[j]?:=λk b r l j m=>by
  have:=(rows k b).put r l j m;have e:(⟨(zL Shun n0).Tb,k*25+bY 3 k r*5+j,none⟩:Addr)=⟨n0+1,k*25+bY 3 k r*5+j,none⟩:=rfl;rw[e,cell]at this;rw[this,Array.getElem?_toList]
 have a:∀k,k<2->∀j,k*25+15<=j->j<k*25+25->cs.toList[j]?=some Z0:=λk b j f g=>by
  have:=(rows k b).rest j ⟨by omega,by omega,by omega⟩ (.inr (by omega));have e:(⟨(zL Shun n0).Tb,j,none⟩:Addr)=⟨n0+1,j,none⟩:=rfl;rw[e,cell]at this;exact this
 have p:∀j,50<=j->j<75->cs.toList[j]?=some Z0:=λj f g=>by rw[<-cell];exact rest j f g
 have v5:∀s r c,(cG 3 s D r c).toList.length=5:=λ_ _ _=>rfl;have t:([Z0,Z0,Z0,Z0,Z0]:List Value).length=5:=rfl;have q:∀i,i<5->([Z0,Z0,Z0,Z0,Z0]:List Value)[i]?=some Z0:=λi h=>by
  obtain rfl|rfl|rfl|rfl|rfl:i=0\/i=1\/i=2\/i=3\/i=4:=by omega
  all_goals rfl
 apply Array.ext';apply List.ext_getElem?;intro o
 rcases ac o 75 with d|d
 case inr=>
  rw[ao (by simpa[hcs]using d),ao];have:(Qf D d0 d1).toList.length=75:=rfl;omega
 show _=(_++(_++(_++(_++(_++(_++(_++(_++(_++(_++_))))))))):List Value)[o]?
 rcases ac o 5 with h|h
 ·rw[zN (v5 _ _ _) h];have:=put 0 (by omega) 0 (by omega) o h;simpa[bY,two]using this
 rw[zO (v5 _ _ _) h]
 rcases ac o 10 with h|h
 ·rw[zN (v5 _ _ _) (by omega)];have:=put 0 (by omega) 1 (by omega) (o-5) (by omega);have e:0*25+bY 3 0 1*5+(o-5)=o:=by simp only[bY];omega
  rw[e]at this;exact this
 rw[zO (v5 _ _ _) (by omega)]
 rcases ac o 15 with h|h
 ·rw[zN (v5 _ _ _) (by omega)];have:=put 0 (by omega) 2 (by omega) (o-5-5) (by omega);have e:0*25+bY 3 0 2*5+(o-5-5)=o:=by simp only[bY];omega
  rw[e]at this;exact this
 rw[zO (v5 _ _ _) (by omega)]
 rcases ac o 25 with h|h
 ·rw[zN (n:=10) rfl (by omega),Ca (by omega)];exact a 0 (by omega) o (by omega) (by omega)
 rw[zO (n:=10) rfl (by omega)]
 rcases ac o 30 with h|h
 ·rw[zN (v5 _ _ _) (by omega)];have:=put 1 (by omega) 2 (by omega) (o-5-5-5-10) (by omega);have e:1*25+bY 3 1 2*5+(o-5-5-5-10)=o:=by simp only[bY];omega
  rw[e]at this;exact this
 rw[zO (v5 _ _ _) (by omega)]
 rcases ac o 35 with h|h
 ·rw[zN (v5 _ _ _) (by omega)];have:=put 1 (by omega) 0 (by omega) (o-5-5-5-10-5) (by omega);have e:1*25+bY 3 1 0*5+(o-5-5-5-10-5)=o:=by simp only[bY];omega
  rw[e]at this;exact this
 rw[zO (v5 _ _ _) (by omega)]
 rcases ac o 40 with h|h
 ·rw[zN (v5 _ _ _) (by omega)];have:=put 1 (by omega) 1 (by omega) (o-5-5-5-10-5-5) (by omega);have e:1*25+bY 3 1 1*5+(o-5-5-5-10-5-5)=o:=by simp only[bY];omega
  rw[e]at this;exact this
 rw[zO (v5 _ _ _) (by omega)]
 rcases ac o 50 with h|h
 ·rw[zN (n:=10) rfl (by omega),Ca (by omega)];exact a 1 (by omega) o (by omega) (by omega)
 rw[zO (n:=10) rfl (by omega)];rw[p o h d]
 rcases ac o 60 with h|h
 ·rw[zN (n:=10) rfl (by omega),Ca (by omega)]
 rw[zO (n:=10) rfl (by omega)]
 rcases ac o 70 with h|h
 ·rw[zN (n:=10) rfl (by omega),Ca (by omega)]
 rw[zO (n:=10) rfl (by omega),q _ (by omega)]
def MY{P:Program}{n:Nat}{g a:aa}{w w2:World}(h:cy P n g w a w2)(b:g.callers.length≠a.callers.length):∃m,n=m+1:=by
 cases n with
 |zero=>cases h;exact absurd rfl b
 |succ m=>exact⟨m,rfl⟩
def MZ{a:Array Value}(h:undef=Value.agg a):False:=by cases h
def U2(f:FuncId)(R:Value->World->Prop):BD ad cY.funcs Tryz.funcs FF XX ZZ (lQ PC f R):=by
 intro x j ρ a z c c' l l' w w' gs sl t q k hI p ha hc sB ht hi C s lS;obtain rfl:x=98:=by simpa[XX]using j
 obtain⟨H,r,e0,eN,eE⟩:=ZU a;have F:aq (⟨ad,cY.funcs⟩:Program) 98 a .normal=⟨98,⟨(ae 193).map H++r⟩,[.code sU],[],.run,.normal,none⟩:=eE;have hcs:2<=(c::(l++[aX PC])).length:=by simp
 have I:Go.bJ.Way ad cY.funcs FF ZZ f R (fH (aq PC 98 a .normal) (c::l++[aX PC])) w (fH (aq PC 98 a .normal) (c::l++[aX PC])) w:=⟨ht,hi,0,.zero _ _⟩
 have J:Go.bJ.Way ad cY.funcs FF ZZ f R (fH (aq PC 98 a .normal) (c::l++[aX PC])) w (fH ⟨98,⟨(ae 193).map H++r⟩,[.code sU],[],.run,.normal,none⟩ (c::(l++[aX PC]))) w:=by
  rw[<-F];exact I
 have K:=UT hcs J;have M:∃E:Value,VR FF ρ (H 0) E/\(∀y,E=.agg y->z[0]?=some E):=by
  rcases VA.get? ha 0 with⟨O,X⟩|⟨v,v',O,X,hv⟩
  ·have ea:a=#[]:=by
    obtain⟨L⟩:=a
    cases L with
    |nil=>rfl
    |cons _ _=>simp at O
   rw[eN ea];exact⟨undef,.undef,λy hy=>(MZ hy).elim⟩
  ·exact⟨v',by rw[e0 v O];exact hv,λ_ _=>X⟩
 obtain⟨E,P,zE⟩:=M;obtain⟨D,d0,d1,gn,Y,cf,Ht,way⟩:=aeU hcs K p P;obtain⟨jf,jr,eA⟩:=US (ca:=cA 3 D) (by rw[<-Y];exact zE _ Y);have u:∀{a b},ρ a b->a<w.heap.size/\b<w'.heap.size:=λh=>p.lt h;have Xf:∀l,k l->l.low w'.heap.size/\l.isMemory=true:=λl hl=>by
  refine⟨?_,s.mem l hl⟩
  cases l with
  |cell a=>exact(s.cell a hl).1
  |obj b=>exact(s.obj b hl).1
  |_=>trivial
 have Q:∀b∈dR 3 D,∀z:Addr,z.block=b->¬k (.cell z):=λb hb z e hs=>by
  obtain⟨r,d⟩:=Ht b hb;exact(s.cell z hs).2 r (by rw[e];exact d)
 have S:gs[0]?=some (G (fE (CA.mk (cA 3 D) jf jr)) (c'::l')):=by
  have:=C.main;rw[<-eA];exact this
 obtain⟨N,jX,w1,rQ,t1,q1,k1,k2,k3,k4,k5,k6,g⟩:=MU (sl:=sl) cf af3 afc Xf Q S C.old C.GA C.num;obtain⟨tb,A,T⟩:=g.tb;have U:=QY A T g.rows g.rest;subst U;have U3:∀b,¬ρ w.heap.size b:=λb h=>absurd (u h).1 (Nat.lt_irrefl _);have Z:∀n,w'.heap.size<=n->∀a,¬ρ a n:=λn V a h=>by have:=(u h).2;omega
 have fW:=g.size;obtain⟨n,V⟩:=way.chain;obtain⟨m,rfl⟩:=MY V (by simp)
 refine⟨N,ρ.ext w.heap.size (w'.heap.size+1),.pointer (some ⟨w.heap.size,0,none⟩),.pointer (some ⟨w'.heap.size+1,0,none⟩),_,w1,jX,rQ,t1,q1,_,k1,⟨k3,k4,k5,k6⟩,⟨λx j=>?_,λb hb=>?_,λx j=>?_⟩,.ptr ⟨Ren.IW _ _ _,rfl,rfl⟩,hI.ext U3 (Z _ (by omega)) p.pK (by have:=p.gN;omega),⟨?_,by have:=p.gN;omega,λ{r r'}d=>?_⟩,
  ⟨Ren.kW _ _ _,λa b h=>?_,λa b h i hh=>⟨?_,by unfold World.cell?;rw[g.kept b (u h).2]⟩⟩,⟨g.tape,g.os,g.output,by omega,λb hb _=>g.kept b hb⟩,⟨m,w.tape,w.drawn,V⟩,way.inv,?_⟩
 ·rcases j with j|⟨y,hy,hb⟩
  ·obtain⟨W,B⟩:=s.cell x j;refine⟨by omega,λr d=>?_⟩
   rcases d with d|⟨_,e⟩
   ·exact B r d
   ·omega
  ·cases hy;have jH:x.block=w'.heap.size+3\/x.block=w'.heap.size+4:=hb;refine⟨by omega,λr d=>?_⟩
   rcases d with d|⟨_,e⟩
   ·exact Z _ (by omega) r d
   ·omega
 ·rcases hb with hb|⟨y,hy,_⟩
  ·obtain⟨W,B⟩:=s.obj b hb;refine⟨by omega,λr d=>?_⟩
   rcases d with d|⟨_,e⟩
   ·exact B r d
   ·omega
  ·cases hy
 ·rcases j with j|⟨y,hy,_⟩
  ·exact s.mem x j
  ·subst hy;rfl
 ·have:=p.pK;show _<=(w.heap.push _).size;simp;omega
 ·rcases d with d|⟨rfl,rfl⟩
  ·obtain⟨o,o',W,B,h3⟩:=p.obj d;refine⟨o,o',?_,?_,h3.mono (Ren.kW _ _ _)⟩
   ·show(w.heap.push _)[r]?=_;rw[Array.getElem?_push_lt (u d).1,<-Array.getElem?_eq_getElem (u d).1];exact W
   ·rw[g.kept _ (u d).2];exact B
  ·refine⟨_,_,?_,A,.cells _ _ (MX (QX D d0 d1))⟩;show(w.heap.push _)[w.heap.size]?=_;simp
 ·rcases h with h|⟨rfl,rfl⟩
  ·exact .inl h
  ·exact .inr ⟨Nat.le_refl _,by omega⟩
 ·obtain⟨v,hv,hu⟩:=hh;exact⟨v,(tQ w _ a i (u h).1).symm.trans hv,hu⟩
 ·show _<=(w.heap.push _).size;simp
end
end Go.Proofs
