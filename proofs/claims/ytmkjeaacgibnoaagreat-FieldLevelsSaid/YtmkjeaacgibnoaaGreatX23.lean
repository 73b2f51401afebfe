/- Part of the proof of FieldLevels: see X45. -/
import Derived.Test.YtmkjeaacgibnoaaGreatX19
import Derived.Test.YtmkjeaacgibnoaaGreatX22
set_option linter.all false
open Go renaming Goroutine->aa,LoopState->ab
open Go.World renaming cell?->ac,size_alloc->ad,putObj_heap_other->ae
open Nat renaming le_trans->ag,lt_of_lt_of_le->ai,le_refl->ao,div_add_mod->ap,zero_add->aq
open Array renaming getElem?_push_lt->ar,getElem?_eq_getElem->aw
open Go.ConcM renaming MuAt->aB
open Go.ConcR renaming WgAt->aF
open Ne renaming symm->aH
namespace Go.Proofs
open Go.Ph Go.Conc Go.ConcN Go.bJ
set_option maxRecDepth 100000
def jC{g:aa}{op:Op}(h:(bF g).map (·.op)=some op):∃o,bF g=some o/\o.op=op:=by
 cases a:bF g with
 |none=>rw[a]at h;cases h
 |some o=>rw[a]at h;exact⟨o,rfl,Option.some.inj h⟩
def adX:PP.underlying 25=some (.slice 67):=by kernel_rfl
def adY:(PP.info? 67).map (·.size)=some 3:=by kernel_rfl
def ajk:PP.underlying 67=some (.struct (fieldsOf 67)):=by kernel_rfl
def ajl:(PP.info? 73).map (·.size)=some 12:=by kernel_rfl
def ajm:PP.underlying 73=some (.struct (fieldsOf 73)):=by kernel_rfl
def pY{w:World}{a:Addr}{v:Value}(h:w.cell? a=some v):a.block<w.heap.size:=by
 unfold ac at h
 split at h
 ·rename_i b;exact(Array.getElem?_eq_some_iff.1 b).1
 ·cases h
section
variable {X:Fix}{V:Vw}{D:jB}{np s n:Nat}{dl:Int}{gn:ByteArray}{bc bg bt:Nat}{w0 w w':World}{M:Own}{ρ:Ren}{Stop:Stp}{d:Nat}{g g':aa}{wL:World}{b0 b1 lb:Nat}{st:ab}
structure Iv(X:Fix)(V:Vw)(np:Nat)(D:jB)(n bc bg bt b0 b1:Nat)(w0:World)(ρ:Ren)(M:Own)(lb:Nat)(st:ab)(gL:aa)(wL:World)(g':aa)(w:World):Prop where
 lk:LK [xN X np D n bc bg bt b0 b1 lb,ez PP] X V np ρ M gL wL g' w
 kn:Kn X V w0 w
 gd:Gd X np D n bc bg bt b0 b1 ρ M lb st w
 le:∀a b,sI np D a b->ρ a b
def sK(X:Fix)(V:Vw)(w w':World):Prop:=∀o,V.row o->w'.cell? ⟨X.Tb,o,none⟩=w.cell? ⟨X.Tb,o,none⟩
def Iv.rl{a:aa}(h:Iv X V np D n bc bg bt b0 b1 w0 ρ M lb st a wL g' w)(r:Rl X V M w w'):Iv X V np D n bc bg bt b0 b1 w0 ρ M lb st a wL g' w':=⟨h.lk.rely r,h.kn.rl r,h.gd.rl r,h.le⟩
def Iv.fin{a:aa}{v v':Value}(h:Iv X V np D n bc bg bt b0 b1 w0 ρ M lb st a wL g' w)(hv:VR F3 ρ v v'):Iv X V np D n bc bg bt b0 b1 w0 ρ M lb st (fin a v) wL (fin g' v') w:=⟨h.lk.fin hv,h.kn,h.gd,h.le⟩
def Iv.seg{l:aa}{m:Nat}{q:aa×World}(k:zl X V D np s n dl gn bc bg bt w0)(h:Iv X V np D n bc bg bt b0 b1 w0 ρ M lb st l wL g' w)(t:q=Jp PP oU m l wL)(hg:Good np m l wL)
 (K:∀o i j w2,Iv X V np D n bc bg bt b0 b1 w0 o i lb st q.1 q.2 j w2->sK X V w w2->ay X V false Stop i d j w2):ay X V false Stop M d g' w:=
 JA k t hg h.lk h.kn λo i j w2 a b c e f r=>K o i j w2 ⟨a,b,h.gd.stay r c e f,λx y p=>e x y (h.le x y p)⟩ r.row
def JB(k:zl X V D np s n dl gn bc bg bt w0){b:Nat}(hb:V.st b):(V.st b/\∀a':Addr,a'.block=b->¬X.Shun (.cell a'))\/M b:=.inl ⟨hb,k.shun b hb⟩
def Zk(k:zl X V D np s n dl gn bc bg bt w0)(l:FE np s)(h:Iv X V np D n bc bg bt b0 b1 w0 ρ M lb st (gL1 np) (A0 np (aW np D) (hU np D w0) n).2 g' w)
 (K:∀x y f Z C w2,Iv X V np D n bc bg bt b0 b1 w0 x y lb st (gR np s (aW np D) 0 f) (wR np s (aW np D) (hU np D w0) n dl gn 0 (dl,dl) Z) C w2->sK X V w w2->ay X V false Stop y 0 C w2):ay X V false Stop M 0 g' w:=by
 refine h.seg k (q:=A1 np (aW np D) (hU np D w0) n) (by delta A1;rfl) (l.e1 _ _ _) λF U H w1 c I=>?_;obtain⟨e,z,hi⟩:=l.c1 (aW np D) (hU np D w0) n;obtain⟨o,i,e⟩:=jC e;obtain⟨A,m⟩:=c.lk.g.op i;have a:F (Jz np D D.gb) D.gb:=c.le _ _ (pW (by simp[dR]));have e1:=m 12;rw[z]at e1;have e1:=xL c.lk.inj e1 a (show 0<D.ng from by have:=k.Zb;omega);have p:=m 13;rw[hi]at p;have p:=oT p;refine .DW (g':=fin H (.pointer (some ⟨D.gb,D.go+n*3,none⟩))) c.lk.clear c.lk.g.st' (λw=>?_) c.lk.g.st' ?_
 ·have:=xH (P:=X.P) (mn:=V.g==0) (w:=w) A e e1 p (by rw[k.hP];exact adX) (by rw[k.hP];exact adY) (by omega) (by have:=k.Zb;show(n:Int)<(D.ng:Int);omega);rw[dY,Int.toNat_natCast]at this;exact this
 have b:=c.fin (v:=.pointer (some ⟨Jz np D D.gb,D.go+n*3,none⟩)) (v':=.pointer (some ⟨D.gb,D.go+n*3,none⟩)) (.ptr ⟨a,rfl,rfl⟩);refine b.seg k (q:=A2 np (aW np D) (hU np D w0) n (D.go+n*3)) (by delta A2;rfl) (l.e2 _ _ _ _) λx y W w2 b J=>?_;obtain⟨e,z⟩:=l.c2 (aW np D) (hU np D w0) n (D.go+n*3);obtain⟨o,i,e⟩:=jC e;obtain⟨A,m⟩:=b.lk.g.op i;have a:x (Jz np D D.gb) D.gb:=b.le _ _ (pW (by simp[dR]));have e1:=m 14;rw[z]at e1;have e1:=PG b.lk.inj e1 a;have E:V.st D.gb:=(k.blk D.gb (by simp[dR])).1;have L:((List.range 3).map λj=>(gA s dl gn).getD j undef).toArray=gA s dl gn:=rfl;refine .qM (v:=.agg (gA s dl gn)) b.lk.clear b.kn.live A e e1 (λN r=>?_) (JB k E) ?_
 ·have zz:=b.kn.rl r;have hc:∀j,j<3->N.cell? ((⟨D.gb,D.go+n*3,none⟩:Addr).add j)=some ((gA s dl gn).getD j undef):=λj O=>by
   rw[dY,zz.cell E];have:=k.PM j O;rw[show D.go+3*n+j=D.go+n*3+j by omega]at this;rw[this];obtain rfl|rfl|rfl:j=0\/j=1\/j=2:=by omega
   all_goals rfl
  have:=sH (P:=X.P) (t:=67) (by rw[k.hP];exact ajk) rfl (by rw[k.hP];exact adY) hc;rw[L]at this;exact⟨this,pY (by have:=hc 0 (by omega);rwa[dY]at this)⟩
 have u:=b.fin (v:=.agg (gA s dl gn)) (v':=.agg (gA s dl gn)) (.agg Zf);refine u.seg k (q:=A3 np s (aW np D) (hU np D w0) n dl gn (D.go+n*3)) (by delta A3;rfl) (l.e3 _ _ _ _ _ _) λB Q R w3 u S=>?_;obtain⟨f,Z,T⟩:=l.r0 (aW np D) (hU np D w0) n dl gn (D.go+n*3);rw[T]at u;exact K B Q f Z R w3 u λo i=>(S o i).trans ((J o i).trans (I o i))
end
noncomputable def lD:Array Value:=#[.int .i64 0,.int .i64 0,.int .i64 0,.int .i64 0,.int .i64 0]
def aeg:∃i,PP.info? 61=some i/\i.zero=some (.agg lD):=by
 have h:(PP.info? 61).map (·.zero)=some (some (.agg lD)):=by kernel_rfl
 cases hi:PP.info? 61 with
 |none=>rw[hi]at h;cases h
 |some i=>rw[hi]at h;exact⟨i,rfl,Option.some.inj h⟩
section
variable {T:Tables}{fB fA:Array Func}{F:FuncId->Bool}{Z:TypeId->Bool}{X:Fix}{V:Vw}{Bs:Nat}{bot:Frame}{up:List Frame}{ρ:Ren}{M:Own}{g g':aa}{wL w w':World}
def _root_.Go.Ph.iG.aeh(h:iG T fB fA F Z bot up X V Bs ρ M g wL g' w){lb:Nat}{l l':Loop}(p:ρ 0 lb)(t:0<Bs)(hs:w.heap.size<=w'.heap.size)(hb:∀a b,ρ a b->b≠lb->w'.heap[b]?=w.heap[b]?)(hl:w.heap[lb]?=some (.loop l))(q:w'.heap[lb]?=some (.loop l')) :
 iG T fB fA F Z bot up X V Bs ρ M g wL g' w':=by
 refine⟨h.inj,⟨h.wr.pK,ag h.wr.gN hs,h.wr.base,λ{a b}c k=>?_,λ{a b}c k=>?_⟩,h.g,h.own,h.clear,λb hb=>⟨ai (h.sG b hb).1 hs,(h.sG b hb).2⟩⟩
 ·obtain⟨o,m,i,f,j⟩:=h.wr.obj c k;have r:b≠lb:=λe=>by
   subst e;have:=h.inj.inj c p;omega
  exact⟨o,m,i,by rw[hb a b c r];exact f,j⟩
 ·obtain⟨o,m,i,f,j⟩:=h.wr.low c k;by_cases e:b=lb
  ·subst e;rw[hl]at f;cases f;cases j;exact⟨_,_,i,q,.loop _ _⟩
  ·exact⟨o,m,i,by rw[hb a b c e];exact f,j⟩
end
section
variable {X:Fix}{V:Vw}{D:jB}{np s n:Nat}{dl:Int}{gn:ByteArray}{bc bg bt:Nat}{w0 w w':World}{M:Own}{ρ:Ren}{Stop:Stp}{d:Nat}{g g' gL:aa}{wL:World}{b0 b1 lb b5:Nat}{st st':ab}
def Iv.alloc(k:zl X V D np s n dl gn bc bg bt w0)(h:Iv X V np D n bc bg bt b0 b1 w0 ρ M lb st gL wL g' w)(o:Obj) :
 Iv X V np D n bc bg bt b0 b1 w0 ρ (λb=>M b\/b=w.heap.size) lb st gL wL g' (w.alloc o)/\∀a,¬ρ a w.heap.size:=by
 obtain⟨⟨_,_,v1⟩,⟨_,_,e⟩,j,f,l⟩:=h.kn.live;have m:=bn v1;have p:=bn e;have q:=bn f;have c:∀b,b<w.heap.size->(w.alloc o).heap[b]?=w.heap[b]?:=λb hb=>by
  show(w.heap.push _)[b]?=_;rw[ar hb,<-aw hb]
 have r:Clear X V (λb=>M b\/b=w.heap.size):=k.clear λb hb=>by
  rcases hb with hb|hb
  ·exact h.lk.clear.own b hb
  ·exact⟨by omega,by omega,by omega⟩
 have i:∀a b,ρ a b->b<w.heap.size:=λa b x=>(h.lk.wr.lt x).2;refine⟨⟨(h.lk.more (λ_ x=>.inl x) r λb hb x=>?_).same (by simp[ad]) λa b x=>c b (i a b x),⟨?_,λb hb=>?_,by simp only[ad];have:=h.kn.size;omega⟩,⟨h.gd.r0,.inl h.gd.ml,.inl h.gd.md,h.gd.pos,h.gd.un,?_,?_⟩,h.le⟩,λa x=>?_⟩
 ·have:=h.lk.sG b hb
  rcases x with x|x
  ·exact this.2 x
  ·omega
 ·exact⟨⟨_,_,by unfold aB at v1 ⊢;rw[c _ m];exact v1⟩,⟨_,_,by unfold aF at e ⊢;rw[c _ p];exact e⟩,j,by rw[c _ q];exact f,l⟩
 ·rw[c b (h.lk.sG b hb).1];exact h.kn.st b hb
 ·rw[c _ (bn h.gd.hl)];exact h.gd.hl
 ·rw[c _ (bn h.gd.hd)];exact h.gd.hd
 ·have:=i a _ x;omega
def Iv.same(h:Iv X V np D n bc bg bt b0 b1 w0 ρ M lb st gL wL g' w)(hl:Live X w')(hs:w.heap.size<=w'.heap.size)(c:∀a b,ρ a b->w'.heap[b]?=w.heap[b]?)(e:∀b,V.st b->w'.heap[b]?=w.heap[b]?)(hd:w'.heap[lb-1]?=w.heap[lb-1]?) :
 Iv X V np D n bc bg bt b0 b1 w0 ρ M lb st gL wL g' w':=
 ⟨h.lk.same hs c,⟨hl,λb hb=>(e b hb).trans (h.kn.st b hb),ag h.kn.size hs⟩,{ h.gd with hl:=(c _ _ h.gd.r0).trans h.gd.hl,hd:=hd.trans h.gd.hd },h.le⟩
def Iv.PY(h:Iv X V np D n bc bg bt b0 b1 w0 ρ M lb st gL wL g' w):Iv X V np D n bc bg bt b0 b1 w0 ρ M lb st' gL wL g' (w.putObj lb (.loop (Ti X np D n bc bg bt b0 b1 lb st'))):=by
 have k:=bn h.gd.hl;have i:=World.putObj_heap_same (w:=w) (o:=.loop (Ti X np D n bc bg bt b0 b1 lb st')) k;have c:∀b,b≠lb->(w.putObj lb (.loop (Ti X np D n bc bg bt b0 b1 lb st'))).heap[b]?=w.heap[b]?:=λb hb=>ae hb;have f:=h.lk.clear.own lb h.gd.ml;obtain⟨⟨_,_,v1⟩,⟨_,_,j⟩,l,m,p⟩:=h.kn.live;refine⟨h.lk.aeh h.gd.r0 (by omega) (by simp) (λa b _ hb=>c b hb) h.gd.hl i,⟨?_,λb hb=>?_,by simp;exact h.kn.size⟩,{ h.gd with hl:=i,hd:=by rw[c _ (by have:=h.gd.pos;omega)];exact h.gd.hd },h.le⟩
 ·exact⟨⟨_,_,by unfold aB at v1 ⊢;rw[c _ (aH f.1)];exact v1⟩,⟨_,_,by unfold aF at j ⊢;rw[c _ (aH f.2.1)];exact j⟩,l,by rw[c _ (aH f.2.2)];exact m,p⟩
 ·rw[c b λe=>(h.lk.sG b hb).2 (e▸h.gd.ml)];exact h.kn.st b hb
def _root_.Go.Ph.ay.UD{g g':aa}{b:Nat}(hc:Clear X V M)(hs:g.status=.running)(hl:Live X w)(hb:M b)(i:b<w.heap.size)
 (h:∀a,Rl X V M w a->∃es,stepG X.P (V.g==0) g a=.go g' a es/\∀e∈es,e=⟨.obj b,false,false⟩) (j:g'.status=.running) (k:∀a,Rl X V M w a->ay X V false Stop M d g' a):ay X V false Stop M d g w:=
 .own hc hs hl λa r=>by
  obtain⟨es,l,f⟩:=h a r;refine⟨_,_,es,l,rfl,rfl,.refl _,ao _,λx _ _=>rfl,λe c=>?_,j,?_⟩
  ·rw[f e c,pU];exact DG hb (ai i r.size)
  ·rw[pU,Am d (b:=b) λe c=>⟨false,f e c⟩];exact k a r
def bS(np s:Nat)(D:jB)(dl:Int):Nat->Int×Int
 |0=>(dl,dl)
 |r+1=>WZ np s D r (bS np s D dl r)
structure Rows(X:Fix)(V:Vw)(np s n:Nat)(D:jB)(dl:Int)(r:Nat)(w:World):Prop where
 put:∀r',r'<r->∀j,j<5->w.cell? ⟨X.Tb,n*25+bY np s r'*5+j,none⟩=(cG np s D r' (bS np s D dl r'))[j]?
 rest:∀j,V.row j->(j<n*25\/n*25+np*5<=j)->w.cell? ⟨X.Tb,j,none⟩=some (.int .i64 0)
def oW(h:0<np){r:Nat}:bY np s r<np:=Nat.mod_lt _ h
def PZ{r a:Nat}(h:a<r)(k:r<np):bY np s a≠bY np s r:=by
 unfold bY;intro e;have l:=ap (s+r) np;have i:=ap (s+a) np;rw[e]at i;have b:np*((s+r) / np)-np*((s+a) / np)=r-a:=by omega
 rw[<-Nat.mul_sub]at b;have c:0<r-a:=by omega
 have j:r-a<np:=by omega
 rw[<-b]at c j;have:(s+r) / np-(s+a) / np=0:=by
  by_cases f:(s+r) / np-(s+a) / np=0
  ·exact f
  ·have:=Nat.le_mul_of_pos_right np (Nat.pos_of_ne_zero f);omega
 rw[this]at c;omega
def Rows.tb{r:Nat}(h:Rows X V np s n D dl r w)(e:w'.heap[X.Tb]?=w.heap[X.Tb]?):Rows X V np s n D dl r w':=by
 have c:∀o,w'.cell? ⟨X.Tb,o,none⟩=w.cell? ⟨X.Tb,o,none⟩:=λo=>by simp only[ac,e]
 exact⟨λa b j f=>(c _).trans (h.put a b j f),λj i k=>(c _).trans (h.rest j i k)⟩
def Rows.row(k:zl X V D np s n dl gn bc bg bt w0){r:Nat}(l:r<=np)(h:Rows X V np s n D dl r w)(a:sK X V w w'):Rows X V np s n D dl r w':=⟨λb e j f=>by
 rw[a _ (k.row _ (by omega) (by
  have:=oW (s:=s) (r:=b) (show 0<np by omega);have:=k.MC
  omega))]
 exact h.put b e j f,λj c i=>(a j c).trans (h.rest j c i)⟩
def Rows.next{r:Nat}(i:r<np)(h:Rows X V np s n D dl r w)(k:∀j,j<5->w'.cell? ⟨X.Tb,n*25+bY np s r*5+j,none⟩=(cG np s D r (bS np s D dl r))[j]?)
 (b:∀j,(j<n*25+bY np s r*5\/n*25+bY np s r*5+5<=j)->w'.cell? ⟨X.Tb,j,none⟩=w.cell? ⟨X.Tb,j,none⟩):Rows X V np s n D dl (r+1) w':=⟨λa l j c=>by
 by_cases e:a=r
 ·subst e;exact k j c
 ·have f:a<r:=by omega
  rw[b _ (by have:=PZ (s:=s) f i;omega)];exact h.put a f j c,λj k1 k2=>by
 rw[b j (by have:=oW (s:=s) (r:=r) (show 0<np by omega);omega)]
 exact h.rest j k1 k2⟩
end
open Go.cD (Th bP)
section
variable {X:Fix}{V:Vw}{D:jB}{np s n:Nat}{dl:Int}{gn:ByteArray}{bc bg bt:Nat}{w0 w w':World}{M:Own}{ρ:Ren}{Fin:World->Prop}{g g' gL:aa}{wL:World}{b0 b1 lb b5 r m:Nat}{st st':ab}
def JE{Stop:Stp}(k:zl X V D np s n dl gn bc bg bt w0)(z:FE np s)(A:r<np){f Z}{c:Int×Int}(h:Iv X V np D n bc bg bt b0 b1 w0 ρ M lb st (gR np s (aW np D) r f) (wR np s (aW np D) (hU np D w0) n dl gn r c Z) g' w)
 (K:∀B l f Z p w2,Iv X V np D n bc bg bt b0 b1 w0 B l lb st (gY np s (aW np D) r c f) (wY np s (aW np D) (hU np D w0) n dl gn r (l9 np s (aW np D) r c) Z) p w2->sK X V w w2->ay X V false Stop l 0 p w2):ay X V false Stop M 0 g' w:=by
 have b:=z.round r A;obtain⟨d,C⟩:=b.c3 (aW np D) f;obtain⟨o,E,d⟩:=jC d;obtain⟨F,H⟩:=h.lk.g.op E;have e:ρ (Jz np D D.pb) D.pb:=h.le _ _ (pW (by simp[dR]));have e1:=H 34;rw[C]at e1;have e1:=PG h.lk.inj e1 e;have u:V.st D.pb:=(k.blk D.pb (by simp[dR])).1;have a:bY np s r<np:=oW (by omega);have I:((List.range 12).map λj=>(pA D (bY np s r)).getD j undef).toArray=pA D (bY np s r):=rfl;refine .qM (v:=.agg (pA D (bY np s r))) h.lk.clear h.kn.live F d e1 (λJ q=>?_) (JB k u) ?_
 ·have zz:=h.kn.rl q;have hc:∀j,j<12->J.cell? ((⟨D.pb,D.po+12*bY np s r,none⟩:Addr).add j)=some ((pA D (bY np s r)).getD j undef):=λj L=>by
   rw[dY,zz.cell u,k.G8 _ a j L];obtain rfl|rfl|rfl|rfl|rfl|rfl|rfl|rfl|rfl|rfl|rfl|rfl:j=0\/j=1\/j=2\/j=3\/j=4\/j=5\/j=6\/j=7\/j=8\/j=9\/j=10\/j=11:=by omega
   all_goals rfl
  have:=sH (P:=X.P) (t:=73) (by rw[k.hP];exact ajm) rfl (by rw[k.hP];exact ajl) hc;rw[I]at this;exact⟨this,pY (by have:=hc 0 (by omega);rwa[dY]at this)⟩
 have N:=h.fin (v:=.agg (pA (aW np D) (bY np s r))) (v':=.agg (pA D (bY np s r))) (.agg (cU.mono h.le (Ze a)));refine N.seg k (q:=Yd np s (aW np D) (gR np s (aW np D) r f) (wR np s (aW np D) (hU np D w0) n dl gn r c Z) r) (by delta Yd;rfl) (b.e4 _ _ _ _ _ _ _ _) λi O Q w3 x R=>?_;obtain⟨S,T,U⟩:=b.y (aW np D) (hU np D w0) n dl gn c f Z;rw[U]at x;exact K i O S T Q w3 x R
def GC.base{up:List Frame}(h:GC Tryz.progTables Tryz.funcs Tryz.funcs F3 ZZ default up ρ g g')(hc:g.callers=[default]):g'=G g'.frame up:=by
 obtain⟨k,⟨l,o,b,c,i,p⟩,q,d,t,e,u,f⟩:=h;obtain⟨j,cs',st',Bl,Bm⟩:=g';simp only at d e f c;subst d e f c;have hl:l=[]:=by
  rw[hc]at b
  cases l with
  |nil=>rfl
  |cons a l=>have:=congrArg List.length b;simp at this
 subst hl;cases i;rfl
def UE(W bc bg a bt:Nat)(c:Value)(n:Int)(b v:Value):(qJ W bc bg a bt c n b undef undef (λ_=>undef)).setIfInBounds 9 v=qJ W bc bg a bt c n b v undef (λ_=>undef):=by
 unfold qJ;rw[Jv];refine Ap λi hi=>?_;unfold px;by_cases e:i=9
 ·subst e;rfl
 ·rw[if_neg e];unfold Ul
  split<;>first|rfl|exact absurd rfl e
def yields{Stop:Stp}(k:zl X V D np s n dl gn bc bg bt w0)(p:FE np s)(t:r<np){f}{c:Int×Int}{a:World}(h:Iv X V np D n bc bg bt b0 b1 w0 ρ M lb st (gY np s (aW np D) r c f) a g' w)
 (K:∀w2,Iv X V np D n bc bg bt b0 b1 w0 ρ M lb st (gY np s (aW np D) r c f) a g' w2->sK X V w w2->g'=G g'.frame [xN X np D n bc bg bt b0 b1 lb,ez PP]->
   ay X V false Stop M 0 (rd0 X.Wg bc bg X.Mu bt (sJ np D) n (vO b0 b1) (.agg (cG np s D r c)) lb (g'.frame::[xN X np D n bc bg bt b0 b1 lb,ez PP]) (λ_=>undef)) w2):ay X V false Stop M 0 g' w:=by
 have u:=p.round r t;obtain⟨e,v,y⟩:=u.c4 (aW np D) c f;obtain⟨o,z,e⟩:=jC e;obtain⟨A,i⟩:=h.lk.g.op z;have e1:=i 44;rw[v]at e1;have e1:=PI h.lk.inj Xa e1 h.gd.r0;have d:=i 45;rw[y]at d;obtain⟨j,d,B⟩:=Y5 d;have C:j=cG np s D r c:=by
  apply Array.toList_inj.1;have:cU F3 ρ ([((bY np s r:Nat):Int),c.1,c.2,(l9 np s D r c).1,(l9 np s D r c).2].map (Value.int .i64)) j.toList:=B;rw[Uw this];rfl
 subst C;have hg:=GC.base h.lk.g rfl;refine .UD (b:=lb) h.lk.clear h.lk.g.st' h.kn.live h.gd.ml (bn h.gd.hl) (g':=rd0 X.Wg bc bg X.Mu bt (sJ np D) n (vO b0 b1) (.agg (cG np s D r c)) lb (g'.frame::[xN X np D n bc bg bt b0 b1 lb,ez PP]) (λ_=>undef)) (λl q=>?_) rfl (λl q=>K l (h.rl q) q.row hg);have:=G3 (P:=X.P) (mn:=V.g==0) A e e1 (h.gd.rl q).hl rfl;obtain⟨es,E,F⟩:=this;refine⟨es,?_,F⟩;rw[E];have H:g'.callers=[xN X np D n bc bg bt b0 b1 lb,ez PP]:=congrArg Goroutine.callers hg;have I:((#[9]:Array Tmp).zip ((#[.tmp 45]:Array Operand).map g'.frame.eval)).foldl (λtmps(x:Tmp×Value)=>tmps.setIfInBounds x.1 x.2) (qJ X.Wg bc bg X.Mu bt (sJ np D) n (vO b0 b1) undef undef (λ_=>undef))=qJ X.Wg bc bg X.Mu bt (sJ np D) n (vO b0 b1) (.agg (cG np s D r c)) undef (λ_=>undef):=by
  have J:(#[9]:Array Tmp).zip ((#[.tmp 45]:Array Operand).map g'.frame.eval)=#[(9,g'.frame.eval (.tmp 45))]:=by simp
  rw[J,d];simp only[List.size_toArray,List.length_cons,List.length_nil,List.foldl_toArray',List.foldl_cons,List.foldl_nil];exact UE _ _ _ _ _ _ _ _ _
 rw[H];unfold rd0;rw[<-I];rfl
end
def rH{cur vs:Array Value}(h:cur.size=vs.size):eI cur 0 vs=vs:=by
 unfold eI;rw[aq,<-h,<-Array.length_toList (xs:=cur),List.drop_length];simp
section
variable {X:Fix}{V:Vw}{D:jB}{np s n:Nat}{dl:Int}{gn:ByteArray}{bc bg bt:Nat}{w0 w w':World}{M:Own}{ρ:Ren}{Fin:World->Prop}{g gy gL:aa}{wL:World}{b0 b1 lb b5 r m:Nat}{st:ab}
structure Hd(X:Fix)(V:Vw)(np s:Nat)(D:jB)(n:Nat)(dl:Int)(bc bg bt b0 b1:Nat)(w0:World)(ρ:Ren)(M:Own)(lb b5 r rows:Nat)(st:ab)(gL:aa)(wL:World)(gy:aa)(w:World):Prop where
 iv:Iv X V np D n bc bg bt b0 b1 w0 ρ M lb st gL wL gy w
 m5:M b5
 un:∀a,¬ρ a b5
 h5:w.heap[b5]?=some (.cells (cG np s D r (bS np s D dl r)) 61)
 rows:Rows X V np s n D dl rows w
def Hd.rl(k:zl X V D np s n dl gn bc bg bt w0){rows:Nat}(a:rows<=np)(h:Hd X V np s D n dl bc bg bt b0 b1 w0 ρ M lb b5 r rows st gL wL gy w)(q:Rl X V M w w'):Hd X V np s D n dl bc bg bt b0 b1 w0 ρ M lb b5 r rows st gL wL gy w':=
 ⟨h.iv.rl q,h.m5,h.un,(q.own _ h.m5).trans h.h5,h.rows.row k a q.row⟩
def Hd.PY{rows:Nat}{st':ab}(h:Hd X V np s D n dl bc bg bt b0 b1 w0 ρ M lb b5 r rows st gL wL gy w):Hd X V np s D n dl bc bg bt b0 b1 w0 ρ M lb b5 r rows st' gL wL gy (w.putObj lb (.loop (Ti X np D n bc bg bt b0 b1 lb st'))):=by
 have a:=h.iv.lk.clear.own lb h.iv.gd.ml;refine⟨h.iv.PY,h.m5,h.un,?_,h.rows.tb (ae (aH a.2.2))⟩
 ·have b:b5≠lb:=λe=>h.un 0 (by rw[e];exact h.iv.gd.r0);rw[ae b];exact h.h5
def Hd.lk(k:zl X V D np s n dl gn bc bg bt w0){rows:Nat}(a:rows<=np)(hc:Clear X V M):Lk X V M (Hd X V np s D n dl bc bg bt b0 b1 w0 ρ M lb b5 r rows st gL wL gy):=
 ⟨k.hP,k.hg,hc,λ_ _ h q=>h.rl k a q,λ_ h=>h.iv.kn.live,k.n3⟩
def D9(c:Int×Int):∀v∈cG np s D r c,v.oneCell'=true:=by
 intro v hv;simp only[cG,List.mem_toArray,List.mem_cons,List.not_mem_nil,or_false]at hv
 rcases hv with rfl|rfl|rfl|rfl|rfl<;>rfl
def Hh(k:zl X V D np s n dl gn bc bg bt w0)(p:r<np)(hc:Clear X V M)(hg:gy=G gy.frame [xN X np D n bc bg bt b0 b1 lb,ez PP])
 (K:∀w2 c,Hd X V np s D n dl bc bg bt b0 b1 w0 ρ M lb b5 r (r+1) .ready gL wL gy w2->ay X V false (eU X V Fin c (bP m)) M 0 (Ph.fin gy (.bool true)) w2) (f:Nat->Value) :
 uA X V Fin M (Hd X V np s D n dl bc bg bt b0 b1 w0 ρ M lb b5 r r .busy gL wL gy) (c0 X.Wg bc bg X.Mu bt (sJ np D) n (vO b0 b1) (.agg (cG np s D r (bS np s D dl r))) lb b5 (gy.frame::[xN X np D n bc bg bt b0 b1 lb,ez PP]) f) (gy.frame::[xN X np D n bc bg bt b0 b1 lb,ez PP]) m:=by
 intro c w o;have t:bY np s r<np:=oW (by omega);have C:=k.MC;refine(q_4 ..).run k.hP k.hg ?_;rw[aj4];have R:R4 X V M (Hd X V np s D n dl bc bg bt b0 b1 w0 ρ M lb b5 r r .busy gL wL gy) (Hd X V np s D n dl bc bg bt b0 b1 w0 ρ M lb b5 r (r+1) .busy gL wL gy) bg bt b5 n (bY np s r) (cG np s D r (bS np s D dl r)):=by
  refine⟨k.hP,k.hg,hc,λ_ _ h q=>h.rl k (by omega) q,λ_ h=>h.iv.kn.live,k.shun,⟨k.bt.1,λw h=>(h.iv.kn.cell k.bt.1).trans k.bt.2⟩,⟨k.bg.1,λw h=>(h.iv.kn.cell k.bg.1).trans k.bg.2⟩,⟨o.m5,λw h=>⟨_,h.h5⟩⟩,⟨rfl,rfl,D9 _⟩,k.hn,by omega,k.sz,λj E=>k.row _ (by omega) (by omega),λw w' h hl H hb v y=>?_⟩;have l:∀{b},jm X b->w'.heap[b]?=w.heap[b]?:=λh=>hb _ h.2.2;refine⟨h.iv.same hl (by omega) (λa b x=>l (h.iv.lk.apart x)) (λb x=>l (k.apart b x)) (l (hc.own _ h.iv.gd.md)),h.m5,h.un,(l (hc.own _ h.m5)).trans h.h5,h.rows.next p v y⟩
 refine Ut R (base:=Ul X.Wg bc bg X.Mu bt (sJ np D) n (vO b0 b1) (.agg (cG np s D r (bS np s D dl r))) (pt b5) (px 10 (.tuple #[]) f)) rfl rfl rfl o λF w2 hF z=>?_;have A:zj 20 F=qJ X.Wg bc bg X.Mu bt (sJ np D) n (vO b0 b1) (.agg (cG np s D r (bS np s D dl r))) (pt b5) F:=Ap λi hi=>by
  rcases Nat.lt_or_ge i 10 with h|h
  ·rw[hF i (by omega)];obtain rfl|rfl|rfl|rfl|rfl|rfl|rfl|rfl|rfl|rfl:i=0\/i=1\/i=2\/i=3\/i=4\/i=5\/i=6\/i=7\/i=8\/i=9:=by omega
   all_goals rfl
  ·unfold Ul
   split<;>first|omega|rfl
 unfold Ur;rw[A];refine(q_5 ..).run k.hP k.hg ?_;rw[aj9];have u:=D7 (Fin:=Fin) (k:=c) (c0:=c1 X.Wg bc bg X.Mu bt (sJ np D) n (vO b0 b1) (.agg (cG np s D r (bS np s D dl r))) lb b5 (gy.frame::[xN X np D n bc bg bt b0 b1 lb,ez PP]) F) (cs:=gy.frame::[xN X np D n bc bg bt b0 b1 lb,ez PP]) (Hd.lk (r:=r) k (show r+1<=np by omega) hc) m (λc w3 d=>?_) z
 ·rw[k.hP]at u;exact u
 refine(q_6 ..).run k.hP k.hg ?_;rw[aja];refine .rec (b:=lb) (o':=.loop (Ti X np D n bc bg bt b0 b1 lb .ready)) hc rfl d.iv.kn.live d.iv.gd.ml (bn d.iv.gd.hl) (g':=G (gy.frame.finish (.bool true)) [xN X np D n bc bg bt b0 b1 lb,ez PP]) (λB q=>zH (d.iv.gd.rl q).hl) rfl λB q=>?_;have e:G (gy.frame.finish (.bool true)) [xN X np D n bc bg bt b0 b1 lb,ez PP]=Ph.fin gy (.bool true):=by rw[hg];rfl
 rw[e];exact K _ c (d.rl k (by omega) q).PY
def P3(k:zl X V D np s n dl gn bc bg bt w0)(I:r<np)(h:Iv X V np D n bc bg bt b0 b1 w0 ρ M lb .ready gL wL gy w)(J:Rows X V np s n D dl r w)(hg:gy=G gy.frame [xN X np D n bc bg bt b0 b1 lb,ez PP])(i:Nat)
 (K:∀A w2 i,Iv X V np D n bc bg bt b0 b1 w0 ρ A lb .ready gL wL gy w2->Rows X V np s n D dl (r+1) w2->ay X V false (eU X V Fin i (bP m)) A 0 (Ph.fin gy (.bool true)) w2) :
 ay X V false (eU X V Fin i { pc:=.l0,r:=m }) M 0 (rd0 X.Wg bc bg X.Mu bt (sJ np D) n (vO b0 b1) (.agg (cG np s D r (bS np s D dl r))) lb (gy.frame::[xN X np D n bc bg bt b0 b1 lb,ez PP]) (λ_=>undef)) w:=by
 refine(q_0 ..).run k.hP k.hg ?_;obtain⟨o,j,p⟩:=jC (aj0 X.Wg bc bg X.Mu bt (sJ np D) n (vO b0 b1) (.agg (cG np s D r (bS np s D dl r))) lb (gy.frame::[xN X np D n bc bg bt b0 b1 lb,ez PP]) (λ_=>undef));obtain⟨L,hi,N⟩:=aeg;refine .new h.lk.clear (aK j).1 h.kn.live (o':=λ_=>.cells lD 61) (G':=λb=>Ph.fin (q0 X.Wg bc bg X.Mu bt (sJ np D) n (vO b0 b1) (.agg (cG np s D r (bS np s D dl r))) lb (gy.frame::[xN X np D n bc bg bt b0 b1 lb,ez PP]) (λ_=>undef)) (pt b)) (λc q=>?_) (λb=>(aK j).2.2 _) λc q=>?_
 ·have:=jY (P:=X.P) (mn:=V.g==0) (w:=c) j p (by rw[k.hP];exact hi) N;exact this
 have v:=h.rl q;obtain⟨y,B⟩:=v.alloc k (.cells lD 61);have O:=J.row k (by omega) q.row;have C:(c.alloc (.cells lD 61)).heap[c.heap.size]?=some (.cells lD 61):=World.alloc_heap_new _ _;have Q:Rows X V np s n D dl r (c.alloc (.cells lD 61)):=by
  have E:X.Tb<c.heap.size:=by
   obtain⟨_,_,F,z,_⟩:=v.kn.live;exact bn z
  refine O.tb ?_;show(c.heap.push _)[X.Tb]?=_;rw[ar E,<-aw E]
 refine(q_1 ..).run k.hP k.hg ?_;obtain⟨p,R,hy⟩:=aj1 X.Wg bc bg X.Mu bt (sJ np D) n (vO b0 b1) (.agg (cG np s D r (bS np s D dl r))) lb c.heap.size (gy.frame::[xN X np D n bc bg bt b0 b1 lb,ez PP]) (λ_=>undef);obtain⟨o,j,p⟩:=jC p;refine .DS (b:=c.heap.size) (cur:=lD) (ty:=61) y.lk.clear y.kn.live (.inr rfl) j p R hy C (by rw[k.hP,Un];rfl) (by show 0+5<=5;omega) (D9 _) λw2 q2=>?_;rw[show(Value.agg (cG np s D r (bS np s D dl r))).cells=cG np s D r (bS np s D dl r) from rfl,rH (show lD.size=(cG np s D r (bS np s D dl r)).size from rfl)];have t:=y.rl q2;have S:w2.heap[c.heap.size]?=some (.cells lD 61):=(q2.own _ (.inr rfl)).trans C;have u:jm X c.heap.size:=t.lk.clear.own _ (.inr rfl);have f:∀b,b≠c.heap.size->(w2.setRow c.heap.size (cG np s D r (bS np s D dl r))).heap[b]?=w2.heap[b]?:=λb hb=>setRow_other _ _ _ _ hb;have T:Live X (w2.setRow c.heap.size (cG np s D r (bS np s D dl r))):=by
  obtain⟨⟨_,_,v1⟩,⟨_,_,H⟩,F,z,U⟩:=t.kn.live;exact⟨⟨_,_,by unfold aB at v1 ⊢;rw[f _ (aH u.1)];exact v1⟩,⟨_,_,by unfold aF at H ⊢;rw[f _ (aH u.2.1)];exact H⟩,F,by rw[f _ (aH u.2.2)];exact z,U⟩
 have W:lb-1<c.heap.size:=bn v.gd.hd;have d:Hd X V np s D n dl bc bg bt b0 b1 w0 ρ (λb=>M b\/b=c.heap.size) lb c.heap.size r r .ready gL wL gy (w2.setRow c.heap.size (cG np s D r (bS np s D dl r))):=by
  refine⟨t.same T (by simp) (λa b x=>f b λe=>B a (e▸x)) (λb hb=>f b λe=>(t.lk.sG b hb).2 (.inr e)) (f _ (by omega)),.inr rfl,B,setRow_heap _ _ _ _ _ _ S,(Q.row k (by omega) q2.row).tb (f X.Tb (aH u.2.2))⟩
 refine(q_2 ..).run k.hP k.hg ?_;rw[aj2];refine .rec (b:=lb) (o':=.loop (Ti X np D n bc bg bt b0 b1 lb .busy)) d.iv.lk.clear rfl d.iv.kn.live d.iv.gd.ml (bn d.iv.gd.hl) (g':=G ⟨137,qJ X.Wg bc bg X.Mu bt (sJ np D) n (vO b0 b1) (.agg (cG np s D r (bS np s D dl r))) (pt c.heap.size) (λ_=>undef),[.code lZ],[],.run,.normal,some lb⟩ (gy.frame::[xN X np D n bc bg bt b0 b1 lb,ez PP])) (λw3 q3=>G5 (d.iv.gd.rl q3).hl rfl rfl) rfl λw3 q3=>?_;have Y:=(d.rl k (by omega) q3).PY (st':=.busy);refine(q_3 ..).run k.hP k.hg ?_;rw[aj3];have l:=MH (Fin:=Fin) (k:=i) (Hd.lk (r:=r) k (show r<=np by omega) d.iv.lk.clear) m (Hh (m:=m) k I d.iv.lk.clear hg (λw2 i h=>K _ w2 i h.iv h.rows) (λ_=>undef)) Y;rw[k.hP]at l;exact l
def P4(k:zl X V D np s n dl gn bc bg bt w0)(t:∀w,Rows X V np s n D dl np w->Fin w)(h:Iv X V np D n bc bg bt b0 b1 w0 ρ M lb .ready gL wL g w)(u:Rows X V np s n D dl np w)(f:Y9 144 gL)(v:Nat) :
 ay X V false (eU X V Fin v (bP 1)) M 0 g w:=by
 refine ay.mono (Stop:=O0 X V Fin) ?_ λM d g w h=>by
  show(if(bP 1).pc=.out then O0 X V Fin M d g w else _);rw[if_pos (show(bP 1).pc=.out from rfl)];exact h
 obtain⟨x,rfl,e1,y,z,A,_⟩:=h.lk.back f.mode f.defers f.callers;obtain⟨fn,B,C⟩:=Zh;refine .leave0 h.lk.clear y z A (by rw[k.hP,e1,f.fn];exact B) C ?_;have E:=h.kn.live;have c:=h.gd.ml;have e:=h.gd.md;have O:=h.gd.pos;have hc:=h.lk.clear;refine .rec (b:=lb) (o':=.loop (Ti X np D n bc bg bt b0 b1 lb .exhausted)) hc rfl E c (bn h.gd.hl) (g':=G ⟨137,qJ X.Wg bc bg X.Mu bt (sJ np D) n (vO b0 b1) undef undef (λ_=>undef),kk,Pz X.Wg (lb-1),.run,.deferred,none⟩ [ez PP]) (λo q=>BT (h.gd.rl q).hl rfl rfl) rfl λo q=>?_;have H:=hc.own lb c;have i:=(h.rl q).PY (st':=.exhausted);have I:Rows X V np s n D dl np (o.putObj lb (.loop (Ti X np D n bc bg bt b0 b1 lb .exhausted))):=(u.row k (ao _) q.row).tb (ae (aH H.2.2));refine(e_1 ..).run k.hP k.hg ?_;rw[ajb];refine .rec (b:=lb-1) (o':=.deferred none) hc rfl i.kn.live e (bn i.gd.hd) (g':=G ⟨137,qJ X.Wg bc bg X.Mu bt (sJ np D) n (vO b0 b1) undef undef (λ_=>undef),[],rG X.Wg,.returning,.deferred,none⟩ [ez PP]) (λP q2=>step_take (i.gd.rl q2).hd) rfl λw2 q2=>?_;obtain⟨x1,x2⟩:=e_2 X.Wg bc bg X.Mu bt (sJ np D) n (vO b0 b1);refine .quiet (mn:=false) k.hg 1 (by rw[k.hP];exact x1) ?_;rw[k.hP,x2,ajc];have j:=hc.own _ e;have l:∀b,b≠lb-1->(w2.putObj (lb-1) (.deferred none)).heap[b]?=w2.heap[b]?:=λb hb=>ae hb;have J:=i.rl q2;refine MF (F:=λw=>Live X w/\Rows X V np s n D dl np w) ⟨k.hP,k.hg,hc,λw w' a q=>⟨q.live a.1,a.2.row k (ao _) q.row⟩,λw a=>a.1,k.n3⟩ (λw a=>t w a.2) _ [] ⟨?_,(I.row k (ao _) q2.row).tb (l X.Tb (aH j.2.2))⟩
 obtain⟨⟨_,_,v1⟩,⟨_,_,p⟩,K,L,N⟩:=J.kn.live;exact⟨⟨_,_,by unfold aB at v1 ⊢;rw[l _ (aH j.1)];exact v1⟩,⟨_,_,by unfold aF at p ⊢;rw[l _ (aH j.2.1)];exact p⟩,K,by rw[l _ (aH j.2.2)];exact L,N⟩
def MN(k:zl X V D np s n dl gn bc bg bt w0)(c:FE np s)(F:∀w,Rows X V np s n D dl np w->Fin w):∀(m r:Nat),r+(m+1)=np->∀{ρ M f Z g w},Iv X V np D n bc bg bt b0 b1 w0 ρ M lb .ready (gR np s (aW np D) r f) (wR np s (aW np D) (hU np D w0) n dl gn r (bS np s D dl r) Z) g w->Rows X V np s n D dl r w->
 ∀a,ay X V false (eU X V Fin a { pc:=.l0,r:=m+1 }) M 0 g w:=by
 intro m
 induction m with
 |zero=>
  intro r H ρ M f Z g w h l a;have b:r<np:=by omega
  refine JE k c b h λI J d i K w2 o p=>?_;refine yields k c b o λw3 t u hg=>?_;refine P3 k b t ((l.row k (by omega) p).row k (by omega) u) hg a λL w4 a x y=>?_;have z:=c.round r b;have A:=x.fin (v:=.bool true) (v':=.bool true) (.bool true);refine A.seg k (q:=Nx (gY np s (aW np D) r (bS np s D dl r) d) (wY np s (aW np D) (hU np D w0) n dl gn r (l9 np s (aW np D) r (bS np s D dl r)) i)) (by delta Nx;rfl) (z.e5 _ _ _ _ _ _ _ _ _) λB N O w6 j C=>?_;have P:=(c.last r (by omega)).back (aW np D) (hU np D w0) n dl gn (bS np s D dl r) (l9 np s (aW np D) r (bS np s D dl r)) d i;have E:=y.row k (by omega) C;rw[show r+1=np by omega]at E;exact P4 k F j E P a
 |succ m Q=>
  intro r H ρ M f Z g w h l a;have b:r<np:=by omega
  refine JE k c b h λI J d i K w2 o p=>?_;refine yields k c b o λw3 t u hg=>?_;refine P3 k b t ((l.row k (by omega) p).row k (by omega) u) hg a λL w4 a x y=>?_;have z:=c.round r b;have A:=x.fin (v:=.bool true) (v':=.bool true) (.bool true);refine A.seg k (q:=Nx (gY np s (aW np D) r (bS np s D dl r) d) (wY np s (aW np D) (hU np D w0) n dl gn r (l9 np s (aW np D) r (bS np s D dl r)) i)) (by delta Nx;rfl) (z.e5 _ _ _ _ _ _ _ _ _) λB N O w6 j C=>?_;obtain⟨S,T,R⟩:=(c.next r (by omega)).next (aW np D) (hU np D w0) n dl gn (bS np s D dl r) d i;rw[R]at j;have e:bP (m+1+1)={ pc:=.l0,r:=m+1 }:=by
   unfold bP;rw[if_neg (by omega)];rfl
  rw[e];exact Q (r+1) (by omega) j (y.row k (by omega) C) a
end
def aei:(PP.info? 121).map (·.size)=some 6:=by kernel_rfl
def aej:PP.underlying 121=some (.struct (fieldsOf 121)):=by kernel_rfl
def ajA(W bc bg a bt:Nat)(c:Value)(n:Int):wu PP false DT 400 (Ph.fin (k1 W bc bg a bt c) (.int .i64 n))=k2 W bc bg a bt c n:=by delta k2;rfl
section
variable {X:Fix}{V:Vw}{D:jB}{np s n:Nat}{dl:Int}{gn:ByteArray}{bc bg bt:Nat}{w0 w:World}{Fin:World->Prop}
def Hl(k:zl X V D np s n dl gn bc bg bt w0)(c:FE np s)(MC:1<=np)(C:∀w,Rows X V np s n D dl np w->Fin w)(a:Kn X V w0 w)(e:∀j,V.row j->(j<n*25\/n*25+np*5<=j)->w.cell? ⟨X.Tb,j,none⟩=some (.int .i64 0))(A:Nat) :
 ay X V false (eU X V Fin A { pc:=.l0,r:=np }) nobody 0 (uy X.Wg bc bg X.Mu bt) w:=by
 have hc:Clear X V nobody:=k.clear λb hb=>hb.elim;refine(k_E X.Wg bc bg X.Mu bt).run k.hP k.hg ?_;obtain⟨o,x,g,i,l⟩:=kO (aiW X.Wg bc bg X.Mu bt);have hcell:∀w,Kn X V w0 w->∀j,j<6->w.cell? ((⟨bc,0,none⟩:Addr).add j)=some ((cA np D).getD j undef):=λw a j hj=>by
  rw[dY,aq,a.cell k.bc.1,cell_of_row _ _ _ _ _ _ k.bc.2];obtain rfl|rfl|rfl|rfl|rfl|rfl:j=0\/j=1\/j=2\/j=3\/j=4\/j=5:=by omega
  all_goals rfl
 have E:((List.range 6).map λj=>(cA np D).getD j undef).toArray=cA np D:=rfl;refine .qM (v:=sJ np D) hc a.live g i l (λB q=>?_) (JB k k.bc.1) ?_
 ·have h:=hcell B (a.rl q);have:=sH (P:=X.P) (t:=121) (by rw[k.hP];exact aej) rfl (by rw[k.hP];exact aei) h;rw[E]at this;exact⟨this,pY (by have:=h 0 (by omega);rwa[dY]at this)⟩
 refine(k_0 X.Wg bc bg X.Mu bt (sJ np D)).run k.hP k.hg ?_;obtain⟨o,x,g,i,l⟩:=kO (aiX X.Wg bc bg X.Mu bt (sJ np D));refine .qM (v:=.int .i64 (n:Int)) hc a.live g i l (λB q=>?_) (JB k k.bg.1) ?_
 ·have h:=((a.rl q).cell k.bg.1).trans k.bg.2;exact⟨l8 (by rw[k.hP];exact ty3) rfl h,pY h⟩
 obtain⟨x1,x2⟩:=k_1 X.Wg bc bg X.Mu bt (sJ np D) n;refine .oO (S:=DT) k.hg 400 (by rw[k.hP];exact x1) ?_;rw[k.hP,x2,ajA,aiY];refine Zi k c a λaJ M1 b0 F w1 H zz I J p K L=>?_;refine Zj k zz H c I J K p λM N O w2 u Q R T y=>?_;have z:Iv X V np D n bc bg bt b0 F w0 M N O .ready (gL1 np) (A0 np (aW np D) (hU np D w0) n).2 _ w2:=⟨u,Q,R,T⟩
 refine Zk k c z λU M3 f Z g3 w3 W Y=>?_;have sQ:Rows X V np s n D dl 0 w3:=⟨λr' gl=>absurd gl (Nat.not_lt_zero _),λj d u=>(Y j d).trans ((y j d).trans ((L.row j d).trans (e j d u)))⟩
 obtain⟨m,rfl⟩:∃m,np=m+1:=⟨np-1,by omega⟩
 exact MN k c C m 0 (by omega) W sQ A
end
end Go.Proofs
namespace Go.Proofs
open Go.Ph Go.Conc
set_option maxRecDepth 100000
def eL(g:aa):Bool:=match g.frame.mode with
 |.run=>match g.frame.todo with
  |[.code _]=>g.frame.fn==136||g.frame.fn==141
  |.inRegion _ (_::_)::_=>match bF g with
   |some o=>match o.op with
    |.load .. | .store .. | .alloc .. | .box .. | .go ..=>true
    |_=>false
   |none=>false
  |_=>false
 |.returning=>true
 |_=>false
noncomputable abbrev T6(g:aa):aa:=wu PP true eL 400 g
structure jq(g g':aa):Prop where
 q:ff PP true eL 400 g
 d:∀d,xD PP true eL 400 d g=d
 e:T6 g=g'
def dm{g g':aa}(e:T6 g=g')(a:ff PP true eL 400 g:=by exact⟨λ_=>by kernel_rfl,by kernel_rfl⟩)(hd:∀d,xD PP true eL 400 d g=d:=by intro _;kernel_rfl):jq g g':=⟨a,hd,e⟩
def jq.run{X:Fix}{V:Vw}{q:Bool}{Stop:Stp}{M:Own}{d:Nat}{g g':aa}{w:World}(h:jq g g')(a:X.P=PP)(hg:(V.g==0)=true)(b:ay X V q Stop M d g' w):ay X V q Stop M d g w:=by
 refine .oO (S:=eL) hg 400 (by rw[a];exact h.q) ?_;have e:wu PP true eL 400 g=g':=h.e;rw[a,h.d,e];exact b
noncomputable def dZ:Array Value:=Array.replicate 75 (.int .i64 0)
structure CA where
 arr:Array Value
 f:Nat->Value
 rest:List Value
noncomputable def Ho:Code:=(Tryz.f98.body).getD .skip
noncomputable def fE(ca:CA):Frame:=⟨98,⟨.agg ca.arr::ca.f 1::ca.f 2::ca.f 3::ca.f 4::ca.f 5::ca.f 6::ca.f 7::ca.f 8::ca.f 9::ca.f 10::ca.f 11::ca.f 12::ca.f 13::ca.f 14::ca.f 15::ca.f 16::ca.f 17::ca.f 18::ca.f 19::ca.f 20::ca.rest⟩,[.code Ho],[],.run,.normal,none⟩
section
variable (ca:CA)(bc Tb bt Mu Wg:Nat)(sa:Option Addr)(cg:Nat)(cs:List Frame)
noncomputable def m0:aa:=T6 (G (fE ca) cs)
def m_0:jq (G (fE ca) cs) (m0 ca cs):=dm (by delta m0;rfl)
def ajX:(bF (m0 ca cs)).map (·.op)=some (.box 121 (.tmp 0))/\(m0 ca cs).frame.eval (.tmp 0)=.agg ca.arr:=⟨by kernel_rfl,by kernel_rfl⟩
noncomputable def m1:aa:=T6 (fin (m0 ca cs) (pt bc))
def m_1:jq (fin (m0 ca cs) (pt bc)) (m1 ca bc cs):=dm (by delta m1;rfl)
def ajY:(bF (m1 ca bc cs)).map (·.op)=some (.box 183 (.tmp 7))/\(m1 ca bc cs).frame.eval (.tmp 7)=.agg dZ:=⟨by kernel_rfl,by kernel_rfl⟩
noncomputable def m2:aa:=T6 (fin (m1 ca bc cs) (pt Tb))
def m_2:jq (fin (m1 ca bc cs) (pt Tb)) (m2 ca bc Tb cs):=dm (by delta m2;rfl)
def ajZ:(bF (m2 ca bc Tb cs)).map (·.op)=some (.alloc 134):=by kernel_rfl
noncomputable def m3:aa:=T6 (fin (m2 ca bc Tb cs) (pt bt))
def m_3:jq (fin (m2 ca bc Tb cs) (pt bt)) (m3 ca bc Tb bt cs):=dm (by delta m3;rfl)
def ak0:(bF (m3 ca bc Tb bt cs)).map (·.op)=some (.store 134 (.tmp 3) (.tmp 8))/\(m3 ca bc Tb bt cs).frame.eval (.tmp 3)=pt bt/\(m3 ca bc Tb bt cs).frame.eval (.tmp 8)=pt Tb:=⟨by kernel_rfl,by kernel_rfl,by kernel_rfl⟩
noncomputable def m4:aa:=T6 (fin (m3 ca bc Tb bt cs) undef)
def m_4:jq (fin (m3 ca bc Tb bt cs) undef) (m4 ca bc Tb bt cs):=dm (by delta m4;rfl)
def ak1:(bF (m4 ca bc Tb bt cs)).map (·.op)=some (.alloc 190):=by kernel_rfl
noncomputable def m5:aa:=T6 (fin (m4 ca bc Tb bt cs) (pt Mu))
def m_5:jq (fin (m4 ca bc Tb bt cs) (pt Mu)) (m5 ca bc Tb bt Mu cs):=dm (by delta m5;rfl)
def ak2:(bF (m5 ca bc Tb bt Mu cs)).map (·.op)=some (.alloc 197):=by kernel_rfl
noncomputable def m6:aa:=T6 (fin (m5 ca bc Tb bt Mu cs) (pt Wg))
def m_6:jq (fin (m5 ca bc Tb bt Mu cs) (pt Wg)) (m6 ca bc Tb bt Mu Wg cs):=dm (by delta m6;rfl)
def aes:(bF (m6 ca bc Tb bt Mu Wg cs)).map (·.op)=some (.load 25 (.tmp 10))/\(m6 ca bc Tb bt Mu Wg cs).frame.eval (.tmp 10)=.pointer (some ⟨bc,5,none⟩)/\(m6 ca bc Tb bt Mu Wg cs).status=.running:=⟨by kernel_rfl,by kernel_rfl,by kernel_rfl⟩
end
end Go.Proofs
